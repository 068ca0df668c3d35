import PyProof.Rows.All
import Wide.All
import OpenK.AllK
import Wide.FinOn
import KE.KStateDown
import Lean
import HandS.ForMost
import HandS.DictComp
import HandS.SetKeys
import HandS.TupAny
import HandS.Wide
import HandS.WideMore
import HandS.Conv
import HandS.Deep
import HandS.Small
import HandS.SortKw
import HandS.SortRule
import HandS.Rev
import HandS.RevRange
import HandS.Zip
import HandS.DictTup
import HandS.Flow
import HandS.Style
import HandS.Defaults
import HandS.WordsExc
import HandS.CallSlots
import PyProof.SumAnyB
import PyProof.ReprRoads
import KE.SortData
import HandS.Star
import HandS.RaiseMore
import HandS.IsInst
import HandS.SortInts
import HandS.HeadEnd
import HandS.EndBits
import HandS.SetBool
import HandS.HeadHook1
import HandS.HeadHook2
import HandS.HeadHook3
import HandS.TryOnly
import PyProof.DictUpdate
import HandS.SetFor
import PyProof.MinMaxWalk
import PyProof.WalkInts
import HandS.ExcInit
import HandS.ExcField
import HandS.ExcIs
import HandS.ClsMeth
import KE.KExcIs
import HandS.Head0
import HandS.Head1
import HandS.Head2
import KE.KUnpackStar
import HandS.ExcOwn
import PyProof.ExcBaseAll.OverflowError
import PyProof.ExcBaseAll.ArithmeticError
import PyProof.ExcBaseAll.LookupError
import PyProof.ExcFactsAll.OverflowError
import KE.DataCmp
import HandS.Words
import PySem.Challenge.RW_insertionorders_k71_sizes_and_ranks_chec
set_option Elab.async false
set_option linter.all false
set_option maxRecDepth 100000
set_option maxHeartbeats 0
set_option autoImplicit false
namespace VS
open PySem PySem.Spec PyProof.Rows L2
/-- data without a heap -/
inductive D where
  | non | bl (b : Bool) | int (i : Int) | str (x : Str)
  | lst (xs : List D) | tup (xs : List D) | tpl (xs : List D)
  | dct (kvs : List (Key × D)) | dctT (kvs : List (List Key × D)) | set (ks : List Key)
  | scr (ns : List Int)
  deriving Inhabited
structure Wd where
  P : Program
  w : World
  K : PySem.W.Frag
  cls : Nat → Value
def hasK (ks : List Key) (k : Key) : Bool := ks.any fun j => decide (j = k)
def SetRep (S : Key → Bool) (n : Nat) (ks : List Key) : Prop := (∀ k, S k = hasK ks k) ∧ n = ks.length
mutual
inductive Rp (W : Wd) (G : Hp) : V → D → Prop
  | non : Rp W G .non .non
  | bl (b : Bool) : Rp W G (.bl b) (.bl b)
  | int (i : Int) : Rp W G (.int i) (.int i)
  | str (x : Str) : Rp W G (.str x) (.str x)
  | lst {a : Addr} {vs : List V} {ds : List D} : G a = some (.lst vs) → RpA W G vs ds → Rp W G (.ref a) (.lst ds)
  | tup {a : Addr} {vs : List V} {ds : List D} : G a = some (.tup vs) → RpA W G vs ds → Rp W G (.ref a) (.tup ds)
  | tpl {a : Addr} {o : Obj} {vs : List V} {ds : List D} : G a = some (.frz o (.tup vs)) → o.dict = none → RpA W G vs ds → Rp W G (.ref a) (.tpl ds)
  | dct {a : Addr} {kvs : List (Key × V)} {kds : List (Key × D)} : Rd G a (.dK kvs) → RpK W G kvs kds → Rp W G (.ref a) (.dct kds)
  | dctT {a : Addr} {kvs : List (List Key × V)} {kds : List (List Key × D)} : Rd G a (.dT kvs) → RpT W G kvs kds → Rp W G (.ref a) (.dctT kds)
  | set {a : Addr} {S : Key → Bool} {n : Nat} {ks : List Key} : G a = some (SetK W.P W.w a S n) → SetRep S n ks → Rp W G (.ref a) (.set ks)
  | scr {a : Addr} {ns : List Int} : SqL W.K G a (ns.map V.int) → Rp W G (.ref a) (.scr ns)
inductive RpA (W : Wd) (G : Hp) : List V → List D → Prop
  | nil : RpA W G [] []
  | cons {v : V} {vs : List V} {d : D} {ds : List D} : Rp W G v d → RpA W G vs ds → RpA W G (v :: vs) (d :: ds)
inductive RpK (W : Wd) (G : Hp) : List (Key × V) → List (Key × D) → Prop
  | nil : RpK W G [] []
  | cons {k : Key} {v : V} {d : D} {r : List (Key × V)} {s : List (Key × D)} : Rp W G v d → RpK W G r s → RpK W G ((k, v) :: r) ((k, d) :: s)
inductive RpT (W : Wd) (G : Hp) : List (List Key × V) → List (List Key × D) → Prop
  | nil : RpT W G [] []
  | cons {k : List Key} {v : V} {d : D} {r : List (List Key × V)} {s : List (List Key × D)} : Rp W G v d → RpT W G r s → RpT W G ((k, v) :: r) ((k, d) :: s)
end
/-- reading carries over -/
def Stay : HO → Prop
  | .dK _ => False
  | .dT _ => False
  | .frz _ (.dK _) => False
  | .frz _ (.dT _) => False
  | _ => True
def Nf : HO → Prop
  | .frz _ _ => False
  | _ => True
structure Le (G G' : Hp) : Prop where
  at_ : ∀ a u, Stay u → G a = some u → G' a = some u
  rd : ∀ a u, Nf u → Rd G a u → Rd G' a u
theorem Le.of {G G' : Hp} (h : Same G G') : Le G G' := ⟨fun _ _ _ => h _ _, fun a u _ r => r.elim (fun e => .inl (h _ _ e)) fun ⟨o, e⟩ => .inr ⟨o, h _ _ e⟩⟩
theorem Le.refl (G : Hp) : Le G G := Le.of (Same.refl G)
theorem Le.trans {G G1 G2 : Hp} (a : Le G G1) (b : Le G1 G2) : Le G G2 := ⟨fun _ _ z h => b.at_ _ _ z (a.at_ _ _ z h), fun _ _ n h => b.rd _ _ n (a.rd _ _ n h)⟩
mutual
theorem Rp.mono {W : Wd} {G G' : Hp} (h : Le G G') : ∀ {v : V} {d : D}, Rp W G v d → Rp W G' v d
  | _, _, .non => .non
  | _, _, .bl b => .bl b
  | _, _, .int i => .int i
  | _, _, .str x => .str x
  | _, _, .lst s r => .lst (h.at_ _ _ trivial s) (RpA.mono h r)
  | _, _, .tup s r => .tup (h.at_ _ _ trivial s) (RpA.mono h r)
  | _, _, .tpl s c r => .tpl (h.at_ _ _ trivial s) c (RpA.mono h r)
  | _, _, .dct s r => .dct (h.rd _ _ trivial s) (RpK.mono h r)
  | _, _, .dctT s r => .dctT (h.rd _ _ trivial s) (RpT.mono h r)
  | _, _, .set s r => .set (h.at_ _ _ trivial s) r
  | _, _, .scr s => .scr (s.elim (fun e => .inl (h.rd _ _ trivial e)) .inr)
theorem RpA.mono {W : Wd} {G G' : Hp} (h : Le G G') : ∀ {v : List V} {d : List D}, RpA W G v d → RpA W G' v d
  | _, _, .nil => .nil
  | _, _, .cons a r => .cons (Rp.mono h a) (RpA.mono h r)
theorem RpK.mono {W : Wd} {G G' : Hp} (h : Le G G') : ∀ {v : List (Key × V)} {d : List (Key × D)}, RpK W G v d → RpK W G' v d
  | _, _, .nil => .nil
  | _, _, .cons a r => .cons (Rp.mono h a) (RpK.mono h r)
theorem RpT.mono {W : Wd} {G G' : Hp} (h : Le G G') : ∀ {v : List (List Key × V)} {d : List (List Key × D)}, RpT W G v d → RpT W G' v d
  | _, _, .nil => .nil
  | _, _, .cons a r => .cons (Rp.mono h a) (RpT.mono h r)
end
inductive Sh (W : Wd) (G : Hp) (a : Addr) : HO → D → Prop
  | lst {vs : List V} {ds : List D} : RpA W G vs ds → Sh W G a (.lst vs) (.lst ds)
  | dct {kvs : List (Key × V)} {kds : List (Key × D)} : RpK W G kvs kds → Sh W G a (.dK kvs) (.dct kds)
  | dctT {kvs : List (List Key × V)} {kds : List (List Key × D)} : RpT W G kvs kds → Sh W G a (.dT kvs) (.dctT kds)
  | set {S : Key → Bool} {n : Nat} {ks : List Key} : SetRep S n ks → Sh W G a (SetK W.P W.w a S n) (.set ks)
theorem Sh.mono {W : Wd} {G G' : Hp} {a : Addr} {o : HO} {d : D} (h : Le G G') : Sh W G a o d → Sh W G' a o d
  | .lst r => .lst (r.mono h)
  | .dct r => .dct (r.mono h)
  | .dctT r => .dctT (r.mono h)
  | .set r => .set r
theorem Sh.mut {W : Wd} {G : Hp} {a : Addr} {o : HO} {d : D} : Sh W G a o d → Mut (some o)
  | .lst _ => trivial
  | .dct _ => trivial
  | .dctT _ => trivial
  | .set _ => trivial
theorem Sh.rp {W : Wd} {G : Hp} {a : Addr} {o : HO} {d : D} (e : G a = some o) : Sh W G a o d → Rp W G (.ref a) d
  | .lst r => .lst e r
  | .dct r => .dct (.inl e) r
  | .dctT r => .dctT (.inl e) r
  | .set r => .set e r
/-- an object at a that nobody else knows -/
def Own (W : Wd) (G H : Hp) (a : Addr) (d : D) : Prop := G a = none ∧ ∃ o, H a = some o ∧ Sh W G a o d
inductive Ow | frz | own | io
  deriving DecidableEq
abbrev Env := List (Option (D × Ow))
inductive RV | fz (d : D) | fr (d : D) | bo (i : Nat)
structure Exc where
  cls : Nat
  fld : Option (Str × D)
inductive Out (α : Type) | ok (a : α) | ex (x : Exc) (env : Env) | st
inductive Fl | nx (e : Env) | bk (e : Env) | ct (e : Env) | rt (r : RV) (e : Env)
structure FrI where
  E : Hp
  G0 : Hp
  ios : List (Nat × Addr)
def CellOk (W : Wd) (F : FrI) (G H : Hp) (i : Nat) (v : V) (c : D × Ow) : Prop :=
  match c.2 with
  | .frz => Rp W G v c.1
  | .own => ∃ a, v = .ref a ∧ F.E a = none ∧ Own W G H a c.1
  | .io => ∃ a, v = .ref a ∧ (i, a) ∈ F.ios ∧ Own W G H a c.1
structure Rel (W : Wd) (F : FrI) (G : Hp) (env : Env) (σ : L2.St) (H : Hp) : Prop where
  same : Same G H
  g0 : Same F.G0 G
  gE : ∀ a, F.E a ≠ none → G a = F.G0 a
  out : ∀ a o, F.E a = some o → a ∉ F.ios.map (·.2) → H a = some o
  dom : ∀ a, H a = none → F.E a = none
  cells : ∀ (i : Nat) (c : D × Ow), env[i]? = some (some c) → ∃ v, σ[i]? = some (some v) ∧ CellOk W F G H i v c
  dis : ∀ (i j : Nat) (ci cj : D × Ow) (a : Addr), i ≠ j → env[i]? = some (some ci) → env[j]? = some (some cj) → ci.2 ≠ .frz → cj.2 ≠ .frz → σ[i]? = some (some (V.ref a)) → σ[j]? ≠ some (some (V.ref a))
  ioc : ∀ p ∈ F.ios, F.E p.2 ≠ none ∧ σ[p.1]? = some (some (V.ref p.2)) ∧ ∃ d, env[p.1]? = some (some (d, .io))
  len : env.length = σ.length
/-- no own root of the frame stands at p -/
def Free (env : Env) (σ : L2.St) (p : Addr) : Prop := ∀ (j : Nat) (c : D × Ow), env[j]? = some (some c) → c.2 ≠ .frz → σ[j]? ≠ some (some (V.ref p))
section
variable {W : Wd} {F : FrI} {G H : Hp} {env : Env} {σ : L2.St}
theorem same_new {H : Hp} {p : Addr} {o : HO} (h : H p = none) : Same H (upd H p o) := fun b x e => by
  rw [upd_ne (ne_of_none e h)]; exact e
theorem Own.heap {a : Addr} {d : D} {H' : Hp} (h : Own W G H a d) (e : ∀ o, H a = some o → H' a = some o) : Own W G H' a d := by
  obtain ⟨g, o, ho, s⟩ := h
  exact ⟨g, o, e o ho, s⟩
theorem Own.grow {a : Addr} {d : D} {G' : Hp} (h : Own W G H a d) (le : Le G G') (e : G' a = none) : Own W G' H a d := by
  obtain ⟨_, o, ho, s⟩ := h
  exact ⟨e, o, ho, s.mono le⟩
theorem CellOk.move {i : Nat} {v : V} {c : D × Ow} {G' H' : Hp} (h : CellOk W F G H i v c) (le : Le G G') (eg : ∀ a, v = .ref a → c.2 ≠ .frz → G a = none → G' a = none) (eh : ∀ a o, v = .ref a → c.2 ≠ .frz → H a = some o → H' a = some o) : CellOk W F G' H' i v c := by
  obtain ⟨d, ow⟩ := c
  cases ow with
  | frz => exact Rp.mono le h
  | own =>
    obtain ⟨a, e, he, ow⟩ := h
    exact ⟨a, e, he, (ow.grow le (eg a e (by intro z; cases z) ow.1)).heap fun o => eh a o e (by intro z; cases z)⟩
  | io =>
    obtain ⟨a, e, he, ow⟩ := h
    exact ⟨a, e, he, (ow.grow le (eg a e (by intro z; cases z) ow.1)).heap fun o => eh a o e (by intro z; cases z)⟩
/-- the general step: G grows, H changes, the cells stay -/
theorem Rel.step (R : Rel W F G env σ H) {G' H' : Hp} (gg : Same G G') (same : Same G' H') (gE : ∀ a, F.E a ≠ none → G' a = G a) (out : ∀ a o, F.E a = some o → H a = some o → a ∉ F.ios.map (·.2) → H' a = some o)
    (dom : ∀ a, H' a = none → H a = none)
    (hg : ∀ (i : Nat) (c : D × Ow) (a : Addr), env[i]? = some (some c) → c.2 ≠ .frz → σ[i]? = some (some (V.ref a)) → G a = none → G' a = none)
    (hh : ∀ (i : Nat) (c : D × Ow) (a : Addr) (o : HO), env[i]? = some (some c) → c.2 ≠ .frz → σ[i]? = some (some (V.ref a)) → H a = some o → H' a = some o) : Rel W F G' env σ H' where
  same := same
  g0 := R.g0.trans gg
  gE := fun a e => (gE a e).trans (R.gE a e)
  out := fun a o e n => out a o e (R.out a o e n) n
  dom := fun a e => R.dom a (dom a e)
  cells := fun i c e => by
    obtain ⟨v, hv, ok⟩ := R.cells i c e
    exact ⟨v, hv, ok.move (Le.of gg) (fun a z nf => hg i c a e nf (z ▸ hv)) fun a o z nf => hh i c a o e nf (z ▸ hv)⟩
  dis := R.dis
  ioc := R.ioc
  len := R.len
/-- a new object, tracked, not (yet) frozen -/
theorem Rel.alloc (R : Rel W F G env σ H) {p : Addr} {o : HO} (h : H p = none) : Rel W F G env σ (upd H p o) :=
  R.step (fun _ _ e => e) (R.same.trans (same_new h)) (fun _ _ => rfl) (fun a o' _ e _ => same_new h a o' e) (fun a e => by
    by_cases z : a = p
    · rw [z]; exact h
    · rw [upd_ne z] at e; exact e) (fun _ _ _ _ _ _ e => e) fun _ _ a o' _ _ _ e => same_new h a o' e
/-- no frozen or own thing stands at a free place -/
theorem Rel.free (R : Rel W F G env σ H) {p : Addr} (h : H p = none) : Free env σ p := fun j c e nf z => by
  obtain ⟨v, hv, ok⟩ := R.cells j c e
  rw [hv] at z; cases z
  obtain ⟨d, ow⟩ := c
  cases ow with
  | frz => exact nf rfl
  | own => obtain ⟨a, e, _, _, o, ho, _⟩ := ok; cases e; rw [h] at ho; cases ho
  | io => obtain ⟨a, e, _, _, o, ho, _⟩ := ok; cases e; rw [h] at ho; cases ho
/-- a thing that no cell owns is frozen -/
theorem Rel.freeze (R : Rel W F G env σ H) {p : Addr} {o : HO} (h : H p = some o) (hg : G p = none) (hE : F.E p = none) (fr : Free env σ p) : Rel W F (upd G p o) env σ H := by
  refine R.step (same_new hg) (fun b u e => ?_) (fun a e => ?_) (fun _ _ _ e _ => e) (fun _ e => e) (fun i c a e nf z g => ?_) fun _ _ _ _ _ _ _ e => e
  · by_cases z : b = p
    · subst z; rw [upd_same] at e; cases e; exact h
    · rw [upd_ne z] at e; exact R.same b u e
  · have : a ≠ p := fun z => by rw [z] at e; exact e hE
    rw [upd_ne this]
  · have : a ≠ p := fun w => fr i c e nf (w ▸ z)
    rw [upd_ne this]; exact g
theorem set_at {α : Type} {l : List α} {i : Nat} {x : α} (h : i < l.length) : (l.set i x)[i]? = some x := List.getElem?_set_self h
theorem set_of {α : Type} {l : List α} {i j : Nat} {x y : α} (h : (l.set i x)[j]? = some y) : (i = j ∧ x = y) ∨ (i ≠ j ∧ l[j]? = some y) := by
  by_cases e : i = j
  · subst e
    by_cases hl : i < l.length
    · rw [List.getElem?_set_self hl] at h; cases h; exact .inl ⟨rfl, rfl⟩
    · rw [List.getElem?_eq_none (by simpa using hl)] at h; cases h
  · rw [List.getElem?_set_ne e] at h; exact .inr ⟨e, h⟩
/-- a cell is frozen in place -/
theorem Rel.freezeCell (R : Rel W F G env σ H) {i : Nat} {d : D} {a : Addr} (he : env[i]? = some (some (d, .own))) (hv : σ[i]? = some (some (V.ref a))) :
    ∃ o, H a = some o ∧ G a = none ∧ Sh W G a o d ∧ Rel W F (upd G a o) (env.set i (some (d, .frz))) σ H := by
  obtain ⟨v, hv', a', e, hE, hg, o, ho, sh⟩ := R.cells i _ he
  rw [hv] at hv'; cases hv'; cases e
  refine ⟨o, ho, hg, sh, ?_⟩
  have gg := same_new (o := o) hg
  have other : ∀ (j : Nat) (c : D × Ow) (b : Addr), i ≠ j → env[j]? = some (some c) → c.2 ≠ .frz → σ[j]? = some (some (V.ref b)) → b ≠ a := fun j c b n e nf z w => R.dis i j _ c a n he e (by intro q; cases q) nf hv (w ▸ z)
  refine ⟨fun b u e => ?_, R.g0.trans gg, fun b e => ?_, R.out, R.dom, fun j c e => ?_, fun j k cj ck b n ej ek nj nk => ?_, fun p hp => ?_, by rw [List.length_set]; exact R.len⟩
  · by_cases z : b = a
    · subst z; rw [upd_same] at e; cases e; exact ho
    · rw [upd_ne z] at e; exact R.same b u e
  · have : b ≠ a := fun z => by rw [z] at e; exact e hE
    rw [upd_ne this]; exact R.gE b e
  · rcases set_of e with ⟨rfl, z⟩ | ⟨n, e⟩
    · cases z
      exact ⟨_, hv, (sh.mono (Le.of gg)).rp upd_same⟩
    · obtain ⟨v, hv, ok⟩ := R.cells j c e
      refine ⟨v, hv, ok.move (Le.of gg) (fun b z nf g => ?_) fun _ _ _ _ h => h⟩
      rw [upd_ne (other j c b n e nf (z ▸ hv))]; exact g
  · rcases set_of ej with ⟨rfl, z⟩ | ⟨_, ej⟩
    · cases z; exact absurd rfl nj
    · rcases set_of ek with ⟨rfl, z⟩ | ⟨_, ek⟩
      · cases z; exact absurd rfl nk
      · exact R.dis j k cj ck b n ej ek nj nk
  · obtain ⟨e1, e2, d', e3⟩ := R.ioc p hp
    refine ⟨e1, e2, d', ?_⟩
    have : i ≠ p.1 := fun z => by subst z; rw [he] at e3; cases e3
    rw [List.getElem?_set_ne this]; exact e3
/-- a slot is stored: frozen data -/
theorem Rel.setFrz (R : Rel W F G env σ H) {i : Nat} {v : V} {d : D} (hi : ∀ d', env[i]? ≠ some (some (d', .io))) (r : Rp W G v d) : Rel W F G (env.set i (some (d, .frz))) (σ.set i (some v)) H := by
  refine ⟨R.same, R.g0, R.gE, R.out, R.dom, fun j c e => ?_, fun j k cj ck b n ej ek nj nk => ?_, fun p hp => ?_, by rw [List.length_set, List.length_set]; exact R.len⟩
  · rcases set_of e with ⟨rfl, z⟩ | ⟨n, e⟩
    · cases z
      have hl : i < σ.length := by
        have := (List.getElem?_eq_some_iff.mp e).1
        rw [List.length_set] at this; rw [← R.len]; exact this
      exact ⟨v, set_at hl, r⟩
    · rw [List.getElem?_set_ne n]; exact R.cells j c e
  · rcases set_of ej with ⟨rfl, z⟩ | ⟨nj', ej⟩
    · cases z; exact absurd rfl nj
    · rcases set_of ek with ⟨rfl, z⟩ | ⟨nk', ek⟩
      · cases z; exact absurd rfl nk
      · rw [List.getElem?_set_ne nj', List.getElem?_set_ne nk']; exact R.dis j k cj ck b n ej ek nj nk
  · obtain ⟨e1, e2, d', e3⟩ := R.ioc p hp
    have : i ≠ p.1 := fun z => by subst z; exact hi d' e3
    exact ⟨e1, by rw [List.getElem?_set_ne this]; exact e2, d', by rw [List.getElem?_set_ne this]; exact e3⟩
/-- a slot is stored: an object that nobody else knows -/
theorem Rel.setOwn (R : Rel W F G env σ H) {i : Nat} {p : Addr} {d : D} (hi : ∀ d', env[i]? ≠ some (some (d', .io))) (hE : F.E p = none) (ow : Own W G H p d) (fr : Free env σ p) : Rel W F G (env.set i (some (d, .own))) (σ.set i (some (.ref p))) H := by
  refine ⟨R.same, R.g0, R.gE, R.out, R.dom, fun j c e => ?_, fun j k cj ck b n ej ek nj nk => ?_, fun q hp => ?_, by rw [List.length_set, List.length_set]; exact R.len⟩
  · rcases set_of e with ⟨rfl, z⟩ | ⟨n, e⟩
    · cases z
      have hl : i < σ.length := by
        have := (List.getElem?_eq_some_iff.mp e).1
        rw [List.length_set] at this; rw [← R.len]; exact this
      exact ⟨_, set_at hl, p, rfl, hE, ow⟩
    · rw [List.getElem?_set_ne n]; exact R.cells j c e
  · rcases set_of ej with ⟨rfl, z⟩ | ⟨nj', ej⟩
    · cases z
      rcases set_of ek with ⟨rfl, z⟩ | ⟨nk', ek⟩
      · exact absurd rfl n
      · intro e
        rw [List.getElem?_set_ne nk']
        rcases set_of e with ⟨_, z⟩ | ⟨n', _⟩
        · cases z; exact fr k ck ek nk
        · exact absurd rfl n'
    · rcases set_of ek with ⟨rfl, z⟩ | ⟨nk', ek⟩
      · cases z
        rw [List.getElem?_set_ne nj']
        intro e e'
        rcases set_of e' with ⟨_, z⟩ | ⟨n', _⟩
        · cases z; exact fr j cj ej nj e
        · exact absurd rfl n'
      · rw [List.getElem?_set_ne nj', List.getElem?_set_ne nk']; exact R.dis j k cj ck b n ej ek nj nk
  · obtain ⟨e1, e2, d', e3⟩ := R.ioc q hp
    have : i ≠ q.1 := fun z => by subst z; exact hi d' e3
    exact ⟨e1, by rw [List.getElem?_set_ne this]; exact e2, d', by rw [List.getElem?_set_ne this]; exact e3⟩
/-- a slot is forgotten -/
theorem Rel.drop (R : Rel W F G env σ H) {i : Nat} {v : Option V} (hi : ∀ d', env[i]? ≠ some (some (d', .io))) : Rel W F G (env.set i none) (σ.set i v) H := by
  refine ⟨R.same, R.g0, R.gE, R.out, R.dom, fun j c e => ?_, fun j k cj ck b n ej ek nj nk => ?_, fun p hp => ?_, by rw [List.length_set, List.length_set]; exact R.len⟩
  · rcases set_of e with ⟨rfl, z⟩ | ⟨n, e⟩
    · cases z
    · rw [List.getElem?_set_ne n]; exact R.cells j c e
  · rcases set_of ej with ⟨rfl, z⟩ | ⟨nj', ej⟩
    · cases z
    · rcases set_of ek with ⟨rfl, z⟩ | ⟨nk', ek⟩
      · cases z
      · rw [List.getElem?_set_ne nj', List.getElem?_set_ne nk']; exact R.dis j k cj ck b n ej ek nj nk
  · obtain ⟨e1, e2, d', e3⟩ := R.ioc p hp
    have : i ≠ p.1 := fun z => by subst z; exact hi d' e3
    exact ⟨e1, by rw [List.getElem?_set_ne this]; exact e2, d', by rw [List.getElem?_set_ne this]; exact e3⟩
/-- the object of a cell that owns it -/
theorem Rel.own (R : Rel W F G env σ H) {i : Nat} {d : D} {ow : Ow} (he : env[i]? = some (some (d, ow))) (hw : ow ≠ .frz) : ∃ a, σ[i]? = some (some (V.ref a)) ∧ Own W G H a d ∧ (∀ o, F.E a = some o → (i, a) ∈ F.ios) := by
  obtain ⟨v, hv, ok⟩ := R.cells i _ he
  cases ow with
  | frz => exact absurd rfl hw
  | own =>
    obtain ⟨a, e, hE, o⟩ := ok
    exact ⟨a, e ▸ hv, o, fun o' z => by rw [hE] at z; cases z⟩
  | io =>
    obtain ⟨a, e, hE, o⟩ := ok
    exact ⟨a, e ▸ hv, o, fun _ _ => hE⟩
/-- an own object is written -/
theorem Rel.write (R : Rel W F G env σ H) {i : Nat} {d d' : D} {ow : Ow} {a : Addr} {o : HO} (he : env[i]? = some (some (d, ow))) (hw : ow ≠ .frz) (hv : σ[i]? = some (some (V.ref a))) (sh : Sh W G a o d') :
    Rel W F G (env.set i (some (d', ow))) σ (upd H a o) := by
  obtain ⟨a', ha', ⟨hg, o0, ho0, _⟩, hio⟩ := R.own he hw
  rw [hv] at ha'; cases ha'
  have other : ∀ (j : Nat) (c : D × Ow) (b : Addr), i ≠ j → env[j]? = some (some c) → c.2 ≠ .frz → σ[j]? = some (some (V.ref b)) → b ≠ a := fun j c b n e nf z w => R.dis i j _ c a n he e hw nf hv (w ▸ z)
  have hl : i < env.length := (List.getElem?_eq_some_iff.mp he).1
  refine ⟨fun b u e => ?_, R.g0, R.gE, fun b u e n => ?_, fun b e => ?_, fun j c e => ?_, fun j k cj ck b n ej ek nj nk => ?_, fun p hp => ?_, by rw [List.length_set]; exact R.len⟩
  · rw [upd_ne (ne_of_none e hg)]; exact R.same b u e
  · have : b ≠ a := fun z => by
      subst z
      exact n (List.mem_map.mpr ⟨_, hio u e, rfl⟩)
    rw [upd_ne this]; exact R.out b u e n
  · have : b ≠ a := fun z => by subst z; rw [upd_same] at e; cases e
    rw [upd_ne this] at e; exact R.dom b e
  · rcases set_of e with ⟨rfl, z⟩ | ⟨n, e⟩
    · cases z
      refine ⟨_, hv, ?_⟩
      obtain ⟨v, hv', ok⟩ := R.cells i _ he
      rw [hv] at hv'; cases hv'
      cases ow with
      | frz => exact absurd rfl hw
      | own => obtain ⟨b, e1, e2, _⟩ := ok; cases e1; exact ⟨a, rfl, e2, hg, o, upd_same, sh⟩
      | io => obtain ⟨b, e1, e2, _⟩ := ok; cases e1; exact ⟨a, rfl, e2, hg, o, upd_same, sh⟩
    · obtain ⟨v, hv, ok⟩ := R.cells j c e
      refine ⟨v, hv, ok.move (Le.refl _) (fun _ _ _ g => g) fun b u z nf h => ?_⟩
      rw [upd_ne (other j c b n e nf (z ▸ hv))]; exact h
  · have tr : ∀ (j : Nat) (c : D × Ow), (env.set i (some (d', ow)))[j]? = some (some c) → c.2 ≠ .frz → ∃ c' : D × Ow, env[j]? = some (some c') ∧ c'.2 ≠ .frz := fun j c e nf => by
      rcases set_of e with ⟨rfl, z⟩ | ⟨_, e⟩
      · exact ⟨_, he, hw⟩
      · exact ⟨c, e, nf⟩
    obtain ⟨cj', ej', nj'⟩ := tr j cj ej nj
    obtain ⟨ck', ek', nk'⟩ := tr k ck ek nk
    exact R.dis j k cj' ck' b n ej' ek' nj' nk'
  · obtain ⟨e1, e2, d1, e3⟩ := R.ioc p hp
    refine ⟨e1, e2, ?_⟩
    by_cases z : i = p.1
    · subst z
      rw [he] at e3; cases e3
      exact ⟨d', set_at hl⟩
    · exact ⟨d1, by rw [List.getElem?_set_ne z]; exact e3⟩
end
end VS
namespace VS
open PySem PySem.Spec PyProof.Rows L2
abbrev wd (X : Cx) (c : Nat → Value) : Wd := ⟨X.prog, X.w, X.K, c⟩
/-! ### values in hand -/
def RVok (W : Wd) (F : FrI) (G : Hp) (env : Env) (σ : L2.St) (H : Hp) (v : V) : RV → Prop
  | .fz d => Rp W G v d
  | .fr d => ∃ p, v = .ref p ∧ F.E p = none ∧ Own W G H p d ∧ Free env σ p
  | .bo i => σ[i]? = some (some v)
def resolve (env : Env) : RV → Option D
  | .fz d => some d
  | .fr d => some d
  | .bo i => match env[i]? with
    | some (some (d, _)) => some d
    | _ => none
def freezeR (env : Env) : RV → Option (D × Env)
  | .fz d => some (d, env)
  | .fr d => some (d, env)
  | .bo i => match env[i]? with
    | some (some (d, .frz)) => some (d, env)
    | some (some (d, .own)) => some (d, env.set i (some (d, .frz)))
    | _ => none
theorem resolve_bo {env : Env} {i : Nat} {d : D} (h : resolve env (.bo i) = some d) : ∃ ow, env[i]? = some (some (d, ow)) := by
  have h' : (match env[i]? with
    | some (some (d, _)) => some d
    | _ => none) = some d := h
  cases q : env[i]? with
  | none => rw [q] at h'; cases h'
  | some c =>
    cases c with
    | none => rw [q] at h'; cases h'
    | some c => obtain ⟨d', ow⟩ := c; rw [q] at h'; cases h'; exact ⟨ow, rfl⟩
theorem freeze_bo {env env' : Env} {i : Nat} {d : D} (h : freezeR env (.bo i) = some (d, env')) : (env[i]? = some (some (d, .frz)) ∧ env' = env) ∨ (env[i]? = some (some (d, .own)) ∧ env' = env.set i (some (d, .frz))) := by
  have h' : (match env[i]? with
    | some (some (d, .frz)) => some (d, env)
    | some (some (d, .own)) => some (d, env.set i (some (d, .frz)))
    | _ => none) = some (d, env') := h
  cases q : env[i]? with
  | none => rw [q] at h'; cases h'
  | some c =>
    cases c with
    | none => rw [q] at h'; cases h'
    | some c =>
      obtain ⟨d', ow⟩ := c
      rw [q] at h'
      cases ow with
      | frz => cases h'; exact .inl ⟨rfl, rfl⟩
      | own => cases h'; exact .inr ⟨rfl, rfl⟩
      | io => cases h'
def Vw (W : Wd) (G H : Hp) (v : V) (d : D) : Prop := Rp W G v d ∨ ∃ a, v = .ref a ∧ Own W G H a d
inductive VwA (W : Wd) (G H : Hp) : List V → List D → Prop
  | nil : VwA W G H [] []
  | cons {v : V} {vs : List V} {d : D} {ds : List D} : Vw W G H v d → VwA W G H vs ds → VwA W G H (v :: vs) (d :: ds)
/-- pending -/
def PV (W : Wd) (G : Hp) (σ : L2.St) (v : V) : RV → Prop
  | .fz d => Rp W G v d
  | .fr d => Rp W G v d
  | .bo i => σ[i]? = some (some v)
inductive PVA (W : Wd) (G : Hp) (σ : L2.St) : List V → List RV → Prop
  | nil : PVA W G σ [] []
  | cons {v : V} {vs : List V} {r : RV} {rs : List RV} : PV W G σ v r → PVA W G σ vs rs → PVA W G σ (v :: vs) (r :: rs)
theorem PV.mono {W : Wd} {G G' : Hp} {σ : L2.St} {v : V} (h : Le G G') : ∀ {r : RV}, PV W G σ v r → PV W G' σ v r
  | .fz _, p => Rp.mono h p
  | .fr _, p => Rp.mono h p
  | .bo _, p => p
theorem PVA.mono {W : Wd} {G G' : Hp} {σ : L2.St} (h : Le G G') : ∀ {vs : List V} {rs : List RV}, PVA W G σ vs rs → PVA W G' σ vs rs
  | _, _, .nil => .nil
  | _, _, .cons p q => .cons (p.mono h) (q.mono h)
section
variable {W : Wd} {F : FrI} {G H : Hp} {env : Env} {σ : L2.St}
theorem Vw.lst (s : Same G H) {v : V} {ds : List D} (h : Vw W G H v (.lst ds)) : ∃ a vs, v = .ref a ∧ H a = some (.lst vs) ∧ RpA W G vs ds := by
  rcases h with h | ⟨a, rfl, _, o, ho, sh⟩
  · cases h with | lst e r => exact ⟨_, _, rfl, s _ _ e, r⟩
  · cases sh with | lst r => exact ⟨a, _, rfl, ho, r⟩
theorem Vw.tup (s : Same G H) {v : V} {ds : List D} (h : Vw W G H v (.tup ds)) : ∃ a vs, v = .ref a ∧ H a = some (.tup vs) ∧ G a = some (.tup vs) ∧ RpA W G vs ds := by
  rcases h with h | ⟨a, rfl, _, o, ho, sh⟩
  · cases h with | tup e r => exact ⟨_, _, rfl, s _ _ e, e, r⟩
  · cases sh
theorem Vw.tpl (s : Same G H) {v : V} {ds : List D} (h : Vw W G H v (.tpl ds)) : ∃ a o vs, v = .ref a ∧ H a = some (.frz o (.tup vs)) ∧ G a = some (.frz o (.tup vs)) ∧ o.dict = none ∧ RpA W G vs ds := by
  rcases h with h | ⟨a, rfl, _, o, ho, sh⟩
  · cases h with | tpl e c r => exact ⟨_, _, _, rfl, s _ _ e, e, c, r⟩
  · cases sh
theorem Le.Rd {a : Addr} {u : HO} (s : Same G H) (h : L2.Rd G a u) : L2.Rd H a u := h.elim (fun e => .inl (s _ _ e)) fun ⟨o, e⟩ => .inr ⟨o, s _ _ e⟩
theorem Vw.dct (s : Same G H) {v : V} {ds : List (Key × D)} (h : Vw W G H v (.dct ds)) : ∃ a vs, v = .ref a ∧ Rd H a (.dK vs) ∧ RpK W G vs ds := by
  rcases h with h | ⟨a, rfl, _, o, ho, sh⟩
  · cases h with | dct e r => exact ⟨_, _, rfl, Le.Rd s e, r⟩
  · cases sh with | dct r => exact ⟨a, _, rfl, .inl ho, r⟩
theorem Vw.dctT (s : Same G H) {v : V} {ds : List (List Key × D)} (h : Vw W G H v (.dctT ds)) : ∃ a vs, v = .ref a ∧ Rd H a (.dT vs) ∧ RpT W G vs ds := by
  rcases h with h | ⟨a, rfl, _, o, ho, sh⟩
  · cases h with | dctT e r => exact ⟨_, _, rfl, Le.Rd s e, r⟩
  · cases sh with | dctT r => exact ⟨a, _, rfl, .inl ho, r⟩
theorem Vw.set (s : Same G H) {v : V} {ks : List Key} (h : Vw W G H v (.set ks)) : ∃ a S n, v = .ref a ∧ H a = some (SetK W.P W.w a S n) ∧ SetRep S n ks := by
  rcases h with h | ⟨a, rfl, _, o, ho, sh⟩
  · cases h with | set e r => exact ⟨_, _, _, rfl, s _ _ e, r⟩
  · cases sh with | set r => exact ⟨a, _, _, rfl, ho, r⟩
theorem Vw.scr (s : Same G H) {v : V} {ns : List Int} (h : Vw W G H v (.scr ns)) : ∃ a, v = .ref a ∧ SqL W.K H a (ns.map V.int) := by
  rcases h with h | ⟨a, rfl, _, o, ho, sh⟩
  · cases h with | scr e => exact ⟨_, rfl, e.elim (fun e => .inl (Le.Rd s e)) .inr⟩
  · cases sh
theorem Vw.int {v : V} {i : Int} (h : Vw W G H v (.int i)) : v = .int i := by
  rcases h with h | ⟨a, rfl, _, o, ho, sh⟩
  · cases h; rfl
  · cases sh
theorem Vw.bl {v : V} {i : Bool} (h : Vw W G H v (.bl i)) : v = .bl i := by
  rcases h with h | ⟨a, rfl, _, o, ho, sh⟩
  · cases h; rfl
  · cases sh
theorem Vw.str {v : V} {i : Str} (h : Vw W G H v (.str i)) : v = .str i := by
  rcases h with h | ⟨a, rfl, _, o, ho, sh⟩
  · cases h; rfl
  · cases sh
theorem Vw.non {v : V} (h : Vw W G H v .non) : v = .non := by
  rcases h with h | ⟨a, rfl, _, o, ho, sh⟩
  · cases h; rfl
  · cases sh
theorem RVok.pend (R : Rel W F G env σ H) {v : V} : ∀ {r : RV}, RVok W F G env σ H v r → ∃ G', Same G G' ∧ Rel W F G' env σ H ∧ PV W G' σ v r
  | .fz _, h => ⟨G, Same.refl G, R, h⟩
  | .bo _, h => ⟨G, Same.refl G, R, h⟩
  | .fr d, ⟨p, e, hE, ⟨hg, o, ho, sh⟩, fr⟩ => ⟨upd G p o, same_new hg, R.freeze ho hg hE fr, by
      subst e
      exact (sh.mono (Le.of (same_new hg))).rp upd_same⟩
theorem PV.vw (R : Rel W F G env σ H) {v : V} {d : D} : ∀ {r : RV}, PV W G σ v r → resolve env r = some d → Vw W G H v d
  | .fz _, h, e => by cases e; exact .inl h
  | .fr _, h, e => by cases e; exact .inl h
  | .bo i, h, e => by
    obtain ⟨ow, he⟩ := resolve_bo e
    obtain ⟨v', hv, ok⟩ := R.cells i _ he
    have hv2 : σ[i]? = some (some v) := h
    rw [hv] at hv2; cases hv2
    cases ow with
    | frz => exact .inl ok
    | own => obtain ⟨a, e, _, o⟩ := ok; exact .inr ⟨a, e, o⟩
    | io => obtain ⟨a, e, _, o⟩ := ok; exact .inr ⟨a, e, o⟩
theorem RVok.vw (R : Rel W F G env σ H) {v : V} {d : D} : ∀ {r : RV}, RVok W F G env σ H v r → resolve env r = some d → Vw W G H v d
  | .fz _, h, e => by cases e; exact .inl h
  | .fr _, ⟨p, e', _, o, _⟩, e => by cases e; exact .inr ⟨p, e', o⟩
  | .bo i, h, e => PV.vw (r := .bo i) R h e
theorem PV.freeze (R : Rel W F G env σ H) {v : V} {d : D} {env' : Env} : ∀ {r : RV}, PV W G σ v r → freezeR env r = some (d, env') → ∃ G', Same G G' ∧ Rel W F G' env' σ H ∧ Rp W G' v d
  | .fz _, h, e => by cases e; exact ⟨G, Same.refl G, R, h⟩
  | .fr _, h, e => by cases e; exact ⟨G, Same.refl G, R, h⟩
  | .bo i, h, e => by
    have hv2 : σ[i]? = some (some v) := h
    rcases freeze_bo e with ⟨he, rfl⟩ | ⟨he, rfl⟩
    · obtain ⟨v', hv, ok⟩ := R.cells i _ he
      rw [hv] at hv2; cases hv2
      exact ⟨G, Same.refl G, R, ok⟩
    · obtain ⟨v', hv, a, ea, _⟩ := R.cells i _ he
      rw [hv] at hv2; cases hv2; cases ea
      obtain ⟨o, ho, hg, sh, R'⟩ := R.freezeCell he hv
      exact ⟨upd G a o, same_new hg, R', (sh.mono (Le.of (same_new hg))).rp upd_same⟩
theorem RVok.freeze (R : Rel W F G env σ H) {v : V} {d : D} {env' : Env} {r : RV} (h : RVok W F G env σ H v r) (e : freezeR env r = some (d, env')) : ∃ G', Same G G' ∧ Rel W F G' env' σ H ∧ Rp W G' v d := by
  obtain ⟨G1, s1, R1, p⟩ := h.pend R
  obtain ⟨G2, s2, R2, q⟩ := p.freeze R1 e
  exact ⟨G2, s1.trans s2, R2, q⟩
/-! ### what a built-in hands back -/
def Res (W : Wd) (G H : Hp) (d : D) (fr : Bool) (v : V) (H' : Hp) : Prop :=
  ∃ G', Same G G' ∧ Same G' H' ∧ Same H H' ∧ (∀ a, H a ≠ none → G' a = G a) ∧ (if fr = true then ∃ p, v = .ref p ∧ H p = none ∧ Own W G' H' p d else Rp W G' v d)
def mkRV (d : D) (fr : Bool) : RV := if fr = true then .fr d else .fz d
theorem Res.same (s : Same G H) {v : V} {d : D} (h : Rp W G v d) : Res W G H d false v H :=
  ⟨G, Same.refl G, s, Same.refl H, fun _ _ => rfl, by rw [if_neg (by decide)]; exact h⟩
theorem Res.fresh (s : Same G H) {p : Addr} {o : HO} {d : D} (hp : H p = none) (sh : Sh W G p o d) : Res W G H d true (.ref p) (upd H p o) :=
  ⟨G, Same.refl G, s.trans (same_new hp), same_new hp, fun _ _ => rfl, by rw [if_pos rfl]; exact ⟨p, rfl, hp, s.free hp, o, upd_same, sh⟩⟩
theorem Res.tup (s : Same G H) {p : Addr} {vs : List V} {ds : List D} (hp : H p = none) (r : RpA W G vs ds) : Res W G H (.tup ds) false (.ref p) (upd H p (.tup vs)) := by
  have hg := s.free hp
  refine ⟨upd G p (.tup vs), same_new hg, fun b o e => ?_, same_new hp, fun a ha => ?_, ?_⟩
  · by_cases z : b = p
    · subst z; rw [upd_same] at e ⊢; exact e
    · rw [upd_ne z] at e ⊢; exact s b o e
  · have : a ≠ p := fun z => ha (z ▸ hp)
    rw [upd_ne this]
  · rw [if_neg (by decide)]
    exact .tup upd_same (r.mono (Le.of (same_new hg)))
theorem SqT.frz {K : PySem.W.Frag} {a : Addr} {o : Obj} {vs : List V} (h : H a = some (.frz o (.tup vs))) : SqT K H a vs := .inl (.inr ⟨o, h⟩)
theorem Res.tpl (s : Same G H) {p : Addr} {o : Obj} {vs : List V} {ds : List D} (hp : H p = none) (hd : o.dict = none) (r : RpA W G vs ds) : Res W G H (.tpl ds) false (.ref p) (upd H p (.frz o (.tup vs))) := by
  have hg := s.free hp
  refine ⟨upd G p (.frz o (.tup vs)), same_new hg, fun b u e => ?_, same_new hp, fun a ha => ?_, ?_⟩
  · by_cases z : b = p
    · subst z; rw [upd_same] at e ⊢; exact e
    · rw [upd_ne z] at e ⊢; exact s b u e
  · have : a ≠ p := fun z => ha (z ▸ hp)
    rw [upd_ne this]
  · rw [if_neg (by decide)]
    exact .tpl upd_same hd (r.mono (Le.of (same_new hg)))
theorem Rel.res (R : Rel W F G env σ H) {d : D} {fr : Bool} {v : V} {H' : Hp} (h : Res W G H d fr v H') : ∃ G', Same G G' ∧ Rel W F G' env σ H' ∧ RVok W F G' env σ H' v (mkRV d fr) := by
  obtain ⟨G', gg, gh, hh, hn, hr⟩ := h
  have nn : ∀ a, H' a = none → H a = none := fun a e => hh.free e
  have ne : ∀ {a}, F.E a ≠ none → H a ≠ none := fun {a} e z => e (R.dom a z)
  have R' : Rel W F G' env σ H' := R.step gg gh (fun a e => hn a (ne e)) (fun a o _ e _ => hh a o e) nn (fun i c a e nf z g => by
    obtain ⟨v', hv, ok⟩ := R.cells i c e
    rw [z] at hv; cases hv
    have : H a ≠ none := by
      obtain ⟨d', ow⟩ := c
      cases ow with
      | frz => exact absurd rfl nf
      | own => obtain ⟨b, e, _, _, o, ho, _⟩ := ok; cases e; rw [ho]; simp
      | io => obtain ⟨b, e, _, _, o, ho, _⟩ := ok; cases e; rw [ho]; simp
    rw [hn a this]; exact g) fun _ _ a o _ _ _ e => hh a o e
  refine ⟨G', gg, R', ?_⟩
  unfold mkRV
  cases fr with
  | false => rw [if_neg (by decide)] at hr ⊢; exact hr
  | true =>
    rw [if_pos rfl] at hr ⊢
    obtain ⟨p, e, hp, ow⟩ := hr
    exact ⟨p, e, R.dom p hp, ow, R.free hp⟩
end
/-! ### the judgements -/
def ExcOk (W : Wd) (G H : Hp) (x : Exc) (cls : Value) (dx : Option Addr) : Prop :=
  cls = W.cls x.cls ∧ match x.fld with
    | none => dx = none
    | some (nm, d) => ∃ q v, dx = some q ∧ G q = some (.xd [(nm, v)]) ∧ Rp W G v d
def EPost (W : Wd) (Wx : WX) (F : FrI) (G : Hp) (σ : L2.St) (Q : VK) : Out (RV × Env) → Prop
  | .ok (r, env') => ∀ v G' H', Rel W F G' env' σ H' → Same G G' → RVok W F G' env' σ H' v r → Q v H'
  | .ex x env' => ∀ G' H' cls dx, Rel W F G' env' σ H' → Same G G' → ExcOk W G' H' x cls dx → Wx cls dx σ H'
  | .st => False
structure DE (X : Cx) (c : Nat → Value) (Wx : WX) (e : Expr) (f : Env → Out (RV × Env)) : Prop where
  ex : ∃ t, PE X e t ∧ ∀ F G env σ H Q, Rel (wd X c) F G env σ H → EPost (wd X c) Wx F G σ Q (f env) → t σ H Q
def APost (W : Wd) (Wx : WX) (F : FrI) (G : Hp) (σ : L2.St) (Q : List V → Hp → Prop) : Out (List RV × Env) → Prop
  | .ok (rs, env') => ∀ vs G' H', Rel W F G' env' σ H' → Same G G' → PVA W G' σ vs rs → Q vs H'
  | .ex x env' => ∀ G' H' cls dx, Rel W F G' env' σ H' → Same G G' → ExcOk W G' H' x cls dx → Wx cls dx σ H'
  | .st => False
structure DA (X : Cx) (c : Nat → Value) (Wx : WX) (es : List Expr) (f : Env → Out (List RV × Env)) : Prop where
  ex : ∃ t, PA X es t ∧ ∀ F G env σ H Q, Rel (wd X c) F G env σ H → APost (wd X c) Wx F G σ Q (f env) → t σ H Q
/-- a test -/
def TPost (W : Wd) (Wx : WX) (F : FrI) (G : Hp) (σ : L2.St) (Q : Bool → Hp → Prop) : Out (Bool × Env) → Prop
  | .ok (b, env') => ∀ G' H', Rel W F G' env' σ H' → Same G G' → Q b H'
  | .ex x env' => ∀ G' H' cls dx, Rel W F G' env' σ H' → Same G G' → ExcOk W G' H' x cls dx → Wx cls dx σ H'
  | .st => False
structure DT (X : Cx) (c : Nat → Value) (Wx : WX) (e : Expr) (f : Env → Out (Bool × Env)) : Prop where
  ex : ∃ t, PT X e t ∧ ∀ F G env σ H Q, Rel (wd X c) F G env σ H → TPost (wd X c) Wx F G σ Q (f env) → t σ H Q
def Out.bind {α β : Type} (x : Out α) (f : α → Out β) : Out β :=
  match x with
  | .ok a => f a
  | .ex x e => .ex x e
  | .st => .st
def Out.of {α : Type} : Option α → Out α
  | some a => .ok a
  | none => .st
section
variable {W : Wd} {Wx : WX} {F : FrI} {G G' : Hp} {σ : L2.St}
theorem EPost.grow {Q : VK} (s : Same G G') : ∀ {o : Out (RV × Env)}, EPost W Wx F G σ Q o → EPost W Wx F G' σ Q o
  | .ok _, h => fun v G1 H1 R s1 r => h v G1 H1 R (s.trans s1) r
  | .ex _ _, h => fun G1 H1 cls dx R s1 r => h G1 H1 cls dx R (s.trans s1) r
  | .st, h => h
theorem APost.grow {Q : List V → Hp → Prop} (s : Same G G') : ∀ {o : Out (List RV × Env)}, APost W Wx F G σ Q o → APost W Wx F G' σ Q o
  | .ok _, h => fun v G1 H1 R s1 r => h v G1 H1 R (s.trans s1) r
  | .ex _ _, h => fun G1 H1 cls dx R s1 r => h G1 H1 cls dx R (s.trans s1) r
  | .st, h => h
theorem TPost.grow {Q : Bool → Hp → Prop} (s : Same G G') : ∀ {o : Out (Bool × Env)}, TPost W Wx F G σ Q o → TPost W Wx F G' σ Q o
  | .ok _, h => fun G1 H1 R s1 => h G1 H1 R (s.trans s1)
  | .ex _ _, h => fun G1 H1 cls dx R s1 r => h G1 H1 cls dx R (s.trans s1) r
  | .st, h => h
end
/-- run the first, go on: the bind of a reading -/
theorem de_then {X : Cx} {c : Nat → Value} {Wx : WX} {e : Expr} {f : Env → Out (RV × Env)} (h : DE X c Wx e f) : ∃ t, PE X e t ∧ ∀ F G env σ H (Q : VK), Rel (wd X c) F G env σ H →
    (∀ r env' v G' H', f env = .ok (r, env') → Rel (wd X c) F G' env' σ H' → Same G G' → RVok (wd X c) F G' env' σ H' v r → Q v H') →
    (∀ x env' G' H' cls dx, f env = .ex x env' → Rel (wd X c) F G' env' σ H' → Same G G' → ExcOk (wd X c) G' H' x cls dx → Wx cls dx σ H') → f env ≠ .st → t σ H Q := by
  obtain ⟨t, pe, k⟩ := h.ex
  refine ⟨t, pe, fun F G env σ H Q R h1 h2 h3 => k F G env σ H Q R ?_⟩
  cases e : f env with
  | ok p => exact fun v G' H' R' s r => h1 _ _ v G' H' e R' s r
  | ex x env' => exact fun G' H' cls dx R' s r => h2 _ _ G' H' cls dx e R' s r
  | st => exact h3 e
end VS
namespace VS
open PySem PySem.Spec PyProof.Rows L2
/-! ### data and their operations -/
def le24 (n : Nat) : Bool := Nat.ble n 16777216
theorem le24_ok {n : Nat} (h : le24 n = true) : n ≤ sizeLine := by
  have := Nat.le_of_ble_eq_true h
  rw [sizeLine_eq]; omega
def lt24 (n : Nat) : Bool := Nat.blt n 16777216
theorem lt24_ok {n : Nat} (h : lt24 n = true) : n < sizeLine := by
  have : n + 1 ≤ 16777216 := Nat.le_of_ble_eq_true h
  rw [sizeLine_eq]; omega
mutual
def toPy : D → PyData
  | .non => .none
  | .bl b => .bool b
  | .int i => .int i
  | .str x => .str x
  | .lst xs => .list (toPyA xs)
  | .tup xs => .tuple (toPyA xs)
  | .tpl xs => .tuple (toPyA xs)
  | .dct _ => .none
  | .dctT _ => .none
  | .set _ => .none
  | .scr _ => .none
def toPyA : List D → List PyData
  | [] => []
  | x :: xs => toPy x :: toPyA xs
end
mutual
/-- none, bools, ints, texts, lists, tuples, nested below n -/
def plain : D → Nat → Bool
  | .non, _ => true
  | .bl _, _ => true
  | .int _, _ => true
  | .str x, _ => PyData.strOk x
  | .lst xs, n => match n with
    | 0 => false
    | n + 1 => plainA xs n
  | .tup xs, n => match n with
    | 0 => false
    | n + 1 => plainA xs n
  | .tpl xs, n => match n with
    | 0 => false
    | n + 1 => plainA xs n
  | .dct _, _ => false
  | .dctT _, _ => false
  | .set _, _ => false
  | .scr _, _ => false
def plainA : List D → Nat → Bool
  | [], _ => true
  | x :: xs, n => plain x n && plainA xs n
end
mutual
theorem plain_ok : ∀ (d : D) (n : Nat), plain d n = true → (toPy d).canLay0 = true ∧ (toPy d).depth ≤ n
  | .non, n, _ => ⟨rfl, Nat.zero_le _⟩
  | .bl _, n, _ => ⟨rfl, Nat.zero_le _⟩
  | .int _, n, _ => ⟨rfl, Nat.zero_le _⟩
  | .str x, n, h => ⟨h, Nat.zero_le _⟩
  | .lst xs, 0, h => by simp [plain] at h
  | .lst xs, n + 1, h => by
    have h' : plainA xs n = true := by simpa [plain] using h
    obtain ⟨a, b⟩ := plainA_ok xs n h'
    exact ⟨by simpa [toPy, PyData.canLay0] using a, by simp only [toPy, PyData.depth]; omega⟩
  | .tup xs, 0, h => by simp [plain] at h
  | .tup xs, n + 1, h => by
    have h' : plainA xs n = true := by simpa [plain] using h
    obtain ⟨a, b⟩ := plainA_ok xs n h'
    exact ⟨by simpa [toPy, PyData.canLay0] using a, by simp only [toPy, PyData.depth]; omega⟩
  | .tpl xs, 0, h => by simp [plain] at h
  | .tpl xs, n + 1, h => by
    have h' : plainA xs n = true := by simpa [plain] using h
    obtain ⟨a, b⟩ := plainA_ok xs n h'
    exact ⟨by simpa [toPy, PyData.canLay0] using a, by simp only [toPy, PyData.depth]; omega⟩
  | .dct _, _, h => by simp [plain] at h
  | .dctT _, _, h => by simp [plain] at h
  | .set _, _, h => by simp [plain] at h
  | .scr _, _, h => by simp [plain] at h
theorem plainA_ok : ∀ (ds : List D) (n : Nat), plainA ds n = true → PyData.canLayAll0 (toPyA ds) = true ∧ PyData.depthAll (toPyA ds) ≤ n
  | [], n, _ => ⟨by simp [toPyA, PyData.canLayAll0], by simp [toPyA, PyData.depthAll]⟩
  | d :: ds, n, h => by
    have h' : plain d n = true ∧ plainA ds n = true := by simpa [plainA] using h
    obtain ⟨a, b⟩ := plain_ok d n h'.1
    obtain ⟨a', b'⟩ := plainA_ok ds n h'.2
    exact ⟨by simp [toPyA, PyData.canLayAll0, a, a'], by simp only [toPyA, PyData.depthAll]; omega⟩
end
theorem plain_shaped {d : D} (h : plain d 60 = true) : SeqAt.shaped (toPy d) = true := by
  obtain ⟨a, b⟩ := plain_ok d 60 h
  show ((toPy d).canLay0 && decide ((toPy d).depth ≤ 64)) = true
  rw [a, decide_eq_true (by omega)]; rfl
mutual
theorem Rp.dp {W : Wd} {G H : Hp} (s : Same G H) : ∀ (d : D) (n : Nat) {v : V}, plain d n = true → Rp W G v d → Dp W.K H v (toPy d)
  | .non, _, _, _, h => by cases h; exact .non
  | .bl _, _, _, _, h => by cases h; exact .bl _
  | .int _, _, _, _, h => by cases h; exact .int _
  | .str _, _, _, _, h => by cases h; exact .str _
  | .lst xs, 0, _, p, h => by simp [plain] at p
  | .lst xs, n + 1, _, p, h => by
    have p' : plainA xs n = true := by simpa [plain] using p
    cases h with | lst e r => exact .lst (SqL.of (s _ _ e)) (RpA.dp s xs n p' r)
  | .tup xs, 0, _, p, h => by simp [plain] at p
  | .tup xs, n + 1, _, p, h => by
    have p' : plainA xs n = true := by simpa [plain] using p
    cases h with | tup e r => exact .tup (SqT.of (s _ _ e)) (RpA.dp s xs n p' r)
  | .tpl xs, 0, _, p, h => by simp [plain] at p
  | .tpl xs, n + 1, _, p, h => by
    have p' : plainA xs n = true := by simpa [plain] using p
    cases h with | tpl e c r => exact .tup (SqT.frz (s _ _ e)) (RpA.dp s xs n p' r)
  | .dct _, _, _, p, _ => by simp [plain] at p
  | .dctT _, _, _, p, _ => by simp [plain] at p
  | .set _, _, _, p, _ => by simp [plain] at p
  | .scr _, _, _, p, _ => by simp [plain] at p
theorem RpA.dp {W : Wd} {G H : Hp} (s : Same G H) : ∀ (ds : List D) (n : Nat) {vs : List V}, plainA ds n = true → RpA W G vs ds → DpAll W.K H vs (toPyA ds)
  | [], _, _, _, h => by cases h; exact .nil
  | d :: ds, n, _, p, h => by
    have p' : plain d n = true ∧ plainA ds n = true := by simpa [plainA] using p
    cases h with | cons a r => exact .cons (Rp.dp s d n p'.1 a) (RpA.dp s ds n p'.2 r)
end
section
variable {W : Wd} {G H : Hp}
theorem Vw.dp (s : Same G H) {v : V} {d : D} {n : Nat} (p : plain d n = true) (h : Vw W G H v d) : Dp W.K H v (toPy d) := by
  rcases h with h | ⟨a, rfl, _, o, ho, sh⟩
  · exact h.dp s d n p
  · cases sh with
    | lst r =>
      cases n with
      | zero => simp [plain] at p
      | succ n => exact .lst (SqL.of ho) (RpA.dp s _ n (by simpa [plain] using p) r)
    | dct _ => simp [plain] at p
    | dctT _ => simp [plain] at p
    | set _ => simp [plain] at p
theorem RpA.length : ∀ {vs : List V} {ds : List D}, RpA W G vs ds → vs.length = ds.length
  | _, _, .nil => rfl
  | _, _, .cons _ r => congrArg (· + 1) (RpA.length r)
theorem RpA.append : ∀ {vs ws : List V} {ds es : List D}, RpA W G vs ds → RpA W G ws es → RpA W G (vs ++ ws) (ds ++ es)
  | _, _, _, _, .nil, s => s
  | _, _, _, _, .cons h r, s => .cons h (RpA.append r s)
theorem RpA.snoc {vs : List V} {v : V} {ds : List D} {d : D} (h : RpA W G vs ds) (r : Rp W G v d) : RpA W G (vs ++ [v]) (ds ++ [d]) := h.append (.cons r .nil)
theorem RpA.get : ∀ {vs : List V} {ds : List D} {i : Nat} {d : D}, RpA W G vs ds → ds[i]? = some d → ∃ v, vs[i]? = some v ∧ Rp W G v d
  | _, _, _, _, .nil, e => by simp at e
  | _, _, 0, _, .cons r _, e => by simp at e; subst e; exact ⟨_, rfl, r⟩
  | _, _, i + 1, d, .cons _ t, e => by
    obtain ⟨u, h1, h2⟩ := RpA.get (i := i) (d := d) t (by simpa using e)
    exact ⟨u, by simpa using h1, h2⟩
theorem RpA.take (n : Nat) : ∀ {vs : List V} {ds : List D}, RpA W G vs ds → RpA W G (vs.take n) (ds.take n) := by
  induction n with
  | zero => intro _ _ _; exact .nil
  | succ n ih =>
    intro vs ds h
    cases h with
    | nil => exact .nil
    | cons a r => exact .cons a (ih r)
theorem RpA.drop (n : Nat) : ∀ {vs : List V} {ds : List D}, RpA W G vs ds → RpA W G (vs.drop n) (ds.drop n) := by
  induction n with
  | zero => intro _ _ h; exact h
  | succ n ih =>
    intro vs ds h
    cases h with
    | nil => exact .nil
    | cons a r => exact ih r
theorem RpA.set {v : V} {d : D} (r : Rp W G v d) : ∀ {vs : List V} {ds : List D} (i : Nat), RpA W G vs ds → RpA W G (vs.set i v) (ds.set i d)
  | _, _, _, .nil => .nil
  | _, _, 0, .cons _ t => .cons r t
  | _, _, i + 1, .cons q t => .cons q (RpA.set r i t)
theorem RpA.eraseIdx : ∀ {vs : List V} {ds : List D} (i : Nat), RpA W G vs ds → RpA W G (vs.eraseIdx i) (ds.eraseIdx i)
  | _, _, _, .nil => .nil
  | _, _, 0, .cons _ t => t
  | _, _, i + 1, .cons q t => .cons q (RpA.eraseIdx i t)
theorem RpA.reverse : ∀ {vs : List V} {ds : List D}, RpA W G vs ds → RpA W G vs.reverse ds.reverse
  | _, _, .nil => .nil
  | _, _, .cons q t => by rw [List.reverse_cons, List.reverse_cons]; exact (RpA.reverse t).snoc q
theorem RpA.ints : ∀ {vs : List V} {ns : List Int}, RpA W G vs (ns.map .int) → vs = ns.map V.int
  | _, [], h => by cases h; rfl
  | _, n :: ns, h => by
    cases h with
    | cons a r => cases a; rw [RpA.ints r]; rfl
theorem RpA.ofInts : ∀ ns : List Int, RpA W G (ns.map V.int) (ns.map .int)
  | [] => .nil
  | n :: ns => .cons (.int n) (RpA.ofInts ns)
theorem RpA.strs : ∀ {vs : List V} {ns : List Str}, RpA W G vs (ns.map .str) → vs = ns.map V.str
  | _, [], h => by cases h; rfl
  | _, n :: ns, h => by
    cases h with
    | cons a r => cases a; rw [RpA.strs r]; rfl
theorem RpA.bls : ∀ {vs : List V} {ns : List Bool}, RpA W G vs (ns.map .bl) → vs = ns.map V.bl
  | _, [], h => by cases h; rfl
  | _, n :: ns, h => by
    cases h with
    | cons a r => cases a; rw [RpA.bls r]; rfl
/-- an int or a bool as an int -/
def numD : D → Option Int
  | .int i => some i
  | .bl b => some (if b then 1 else 0)
  | _ => none
def intsD : List D → Option (List Int)
  | [] => some []
  | .int i :: r => (intsD r).map (i :: ·)
  | _ :: _ => none
theorem intsD_eq : ∀ {ds : List D} {ns : List Int}, intsD ds = some ns → ds = ns.map .int
  | [], ns, h => by cases h; rfl
  | d :: r, ns, h => by
    cases d with
    | int i =>
      obtain ⟨ms, e1, e2⟩ := Option.map_eq_some_iff.mp (show (intsD r).map (i :: ·) = some ns from h)
      subst e2
      rw [intsD_eq e1]; rfl
    | _ => cases h
theorem intsD_ints : ∀ ns : List Int, intsD (ns.map .int) = some ns
  | [] => rfl
  | n :: ns => by show (intsD (ns.map .int)).map (n :: ·) = _; rw [intsD_ints ns]; rfl
def strsD : List D → Option (List Str)
  | [] => some []
  | .str i :: r => (strsD r).map (i :: ·)
  | _ :: _ => none
theorem strsD_eq : ∀ {ds : List D} {ns : List Str}, strsD ds = some ns → ds = ns.map .str
  | [], ns, h => by cases h; rfl
  | d :: r, ns, h => by
    cases d with
    | str i =>
      obtain ⟨ms, e1, e2⟩ := Option.map_eq_some_iff.mp (show (strsD r).map (i :: ·) = some ns from h)
      subst e2
      rw [strsD_eq e1]; rfl
    | _ => cases h
def blsD : List D → Option (List Bool)
  | [] => some []
  | .bl i :: r => (blsD r).map (i :: ·)
  | _ :: _ => none
theorem blsD_eq : ∀ {ds : List D} {ns : List Bool}, blsD ds = some ns → ds = ns.map .bl
  | [], ns, h => by cases h; rfl
  | d :: r, ns, h => by
    cases d with
    | bl i =>
      obtain ⟨ms, e1, e2⟩ := Option.map_eq_some_iff.mp (show (blsD r).map (i :: ·) = some ns from h)
      subst e2
      rw [blsD_eq e1]; rfl
    | _ => cases h
/-! ### dicts -/
def keyD : Key → D
  | .inl i => .int i
  | .inr x => .str x
def dKey : D → Option Key
  | .int i => some (.inl i)
  | .str x => some (.inr x)
  | _ => none
def dKeys : List D → Option (List Key)
  | [] => some []
  | d :: r => match dKey d, dKeys r with
    | some k, some ks => some (k :: ks)
    | _, _ => none
theorem dKey_vw {v : V} {d : D} {k : Key} (e : dKey d = some k) (h : Vw W G H v d) : v = kV k := by
  cases d with
  | int i => cases e; exact h.int
  | str i => cases e; exact h.str
  | _ => cases e
theorem dKey_rp {v : V} {d : D} {k : Key} (e : dKey d = some k) (h : Rp W G v d) : v = kV k := dKey_vw (H := G) e (.inl h)
theorem dKeys_rp : ∀ {ds : List D} {vs : List V} {ks : List Key}, dKeys ds = some ks → RpA W G vs ds → vs = ks.map kV
  | [], vs, ks, e, h => by cases e; cases h; rfl
  | d :: r, vs, ks, e, h => by
    cases h with
    | cons a t =>
      unfold dKeys at e
      cases e1 : dKey d with
      | none => rw [e1] at e; cases e
      | some k =>
        cases e2 : dKeys r with
        | none => rw [e1, e2] at e; cases e
        | some ks' =>
          rw [e1, e2] at e
          cases e
          rw [dKey_rp e1 a, dKeys_rp e2 t]; rfl
theorem keyD_rp (k : Key) : Rp W G (kV k) (keyD k) := by
  cases k with
  | inl i => exact .int i
  | inr x => exact .str x
section
variable {κ : Type} [DecidableEq κ]
def getK (kvs : List (κ × D)) (k : κ) : Option D := (kvs.find? fun kv => decide (kv.1 = k)).map (·.2)
def setK (kvs : List (κ × D)) (k : κ) (v : D) : List (κ × D) :=
  if (kvs.any fun kv => decide (kv.1 = k)) = true then kvs.map (fun kv => if kv.1 = k then (kv.1, v) else kv) else kvs ++ [(k, v)]
def delK (kvs : List (κ × D)) (k : κ) : List (κ × D) := kvs.filter fun kv => decide (kv.1 ≠ k)
end
theorem RpK.get (k : Key) : ∀ {kvs : List (Key × V)} {kds : List (Key × D)}, RpK W G kvs kds → (∃ v d, valV kvs k = some v ∧ getK kds k = some d ∧ Rp W G v d) ∨ (valV kvs k = none ∧ getK kds k = none)
  | _, _, .nil => .inr ⟨rfl, rfl⟩
  | _, _, .cons (k := j) (v := v) (d := d) (r := r) (s := s) a t => by
    by_cases e : j = k
    · exact .inl ⟨v, d, by simp [valV, List.find?_cons, e], by simp [getK, List.find?_cons, e], a⟩
    · rcases RpK.get k t with ⟨v', d', h1, h2, h3⟩ | ⟨h1, h2⟩
      · exact .inl ⟨v', d', by rw [valV_neg (p := (j, v)) e]; exact h1, by simpa [getK, List.find?_cons, e] using h2, h3⟩
      · exact .inr ⟨by rw [valV_neg (p := (j, v)) e]; exact h1, by simpa [getK, List.find?_cons, e] using h2⟩
theorem RpK.any (k : Key) : ∀ {kvs : List (Key × V)} {kds : List (Key × D)}, RpK W G kvs kds → (kvs.any fun kv => decide (kv.1 = k)) = (kds.any fun kv => decide (kv.1 = k))
  | _, _, .nil => rfl
  | _, _, .cons (k := j) a t => by rw [List.any_cons, List.any_cons, RpK.any k t]
theorem RpK.repl (k : Key) {v : V} {d : D} (r : Rp W G v d) : ∀ {kvs : List (Key × V)} {kds : List (Key × D)}, RpK W G kvs kds → RpK W G (kvs.map fun kv => if kv.1 = k then (kv.1, v) else kv) (kds.map fun kv => if kv.1 = k then (kv.1, d) else kv)
  | _, _, .nil => .nil
  | _, _, .cons (k := j) a t => by
    rw [List.map_cons, List.map_cons]
    by_cases e : j = k
    · rw [if_pos e, if_pos e]; exact .cons r (RpK.repl k r t)
    · rw [if_neg e, if_neg e]; exact .cons a (RpK.repl k r t)
theorem RpK.snoc (k : Key) {v : V} {d : D} (r : Rp W G v d) : ∀ {kvs : List (Key × V)} {kds : List (Key × D)}, RpK W G kvs kds → RpK W G (kvs ++ [(k, v)]) (kds ++ [(k, d)])
  | _, _, .nil => .cons r .nil
  | _, _, .cons a t => .cons a (RpK.snoc k r t)
theorem RpK.put (k : Key) {v : V} {d : D} (r : Rp W G v d) {kvs : List (Key × V)} {kds : List (Key × D)} (h : RpK W G kvs kds) : RpK W G (putK kvs k v) (setK kds k d) := by
  unfold putK setK
  rw [h.any k]
  split
  · exact h.repl k r
  · exact h.snoc k r
theorem RpK.drop (k : Key) : ∀ {kvs : List (Key × V)} {kds : List (Key × D)}, RpK W G kvs kds → RpK W G (dropK kvs k) (delK kds k)
  | _, _, .nil => .nil
  | _, _, .cons (k := j) (v := v) (d := d) (r := r) (s := s) a t => by
    unfold dropK delK
    rw [List.filter_cons, List.filter_cons]
    by_cases e : j = k
    · rw [if_neg (by simp [e]), if_neg (by simp [e])]; exact RpK.drop k t
    · rw [if_pos (by simp [e]), if_pos (by simp [e])]; exact .cons a (RpK.drop k t)
theorem RpK.length : ∀ {kvs : List (Key × V)} {kds : List (Key × D)}, RpK W G kvs kds → kvs.length = kds.length
  | _, _, .nil => rfl
  | _, _, .cons _ r => congrArg (· + 1) (RpK.length r)
theorem RpT.get (k : List Key) : ∀ {kvs : List (List Key × V)} {kds : List (List Key × D)}, RpT W G kvs kds → (∃ v d, valV kvs k = some v ∧ getK kds k = some d ∧ Rp W G v d) ∨ (valV kvs k = none ∧ getK kds k = none)
  | _, _, .nil => .inr ⟨rfl, rfl⟩
  | _, _, .cons (k := j) (v := v) (d := d) (r := r) (s := s) a t => by
    by_cases e : j = k
    · exact .inl ⟨v, d, by simp [valV, List.find?_cons, e], by simp [getK, List.find?_cons, e], a⟩
    · rcases RpT.get k t with ⟨v', d', h1, h2, h3⟩ | ⟨h1, h2⟩
      · exact .inl ⟨v', d', by rw [valV_neg (p := (j, v)) e]; exact h1, by simpa [getK, List.find?_cons, e] using h2, h3⟩
      · exact .inr ⟨by rw [valV_neg (p := (j, v)) e]; exact h1, by simpa [getK, List.find?_cons, e] using h2⟩
theorem RpT.any (k : List Key) : ∀ {kvs : List (List Key × V)} {kds : List (List Key × D)}, RpT W G kvs kds → (kvs.any fun kv => decide (kv.1 = k)) = (kds.any fun kv => decide (kv.1 = k))
  | _, _, .nil => rfl
  | _, _, .cons (k := j) a t => by rw [List.any_cons, List.any_cons, RpT.any k t]
theorem RpT.repl (k : List Key) {v : V} {d : D} (r : Rp W G v d) : ∀ {kvs : List (List Key × V)} {kds : List (List Key × D)}, RpT W G kvs kds → RpT W G (kvs.map fun kv => if kv.1 = k then (kv.1, v) else kv) (kds.map fun kv => if kv.1 = k then (kv.1, d) else kv)
  | _, _, .nil => .nil
  | _, _, .cons (k := j) a t => by
    rw [List.map_cons, List.map_cons]
    by_cases e : j = k
    · rw [if_pos e, if_pos e]; exact .cons r (RpT.repl k r t)
    · rw [if_neg e, if_neg e]; exact .cons a (RpT.repl k r t)
theorem RpT.snoc (k : List Key) {v : V} {d : D} (r : Rp W G v d) : ∀ {kvs : List (List Key × V)} {kds : List (List Key × D)}, RpT W G kvs kds → RpT W G (kvs ++ [(k, v)]) (kds ++ [(k, d)])
  | _, _, .nil => .cons r .nil
  | _, _, .cons a t => .cons a (RpT.snoc k r t)
theorem RpT.put (k : List Key) {v : V} {d : D} (r : Rp W G v d) {kvs : List (List Key × V)} {kds : List (List Key × D)} (h : RpT W G kvs kds) : RpT W G (putK kvs k v) (setK kds k d) := by
  unfold putK setK
  rw [h.any k]
  split
  · exact h.repl k r
  · exact h.snoc k r
theorem RpT.length : ∀ {kvs : List (List Key × V)} {kds : List (List Key × D)}, RpT W G kvs kds → kvs.length = kds.length
  | _, _, .nil => rfl
  | _, _, .cons _ r => congrArg (· + 1) (RpT.length r)
def RpO (W : Wd) (G : Hp) : Option V → Option D → Prop
  | some v, some d => Rp W G v d
  | none, none => True
  | _, _ => False
/-- what a dict holds at a key -/
def dGet : D → D → Option (Option D)
  | .dct kvs, k => (dKey k).map (getK kvs)
  | .dctT kvs, .tup ks => (dKeys ks).map (getK kvs)
  | _, _ => none
theorem dGet_ok (s : Same G H) {x y : V} {dx dy : D} {r : Option D} (hx : Vw W G H x dx) (hy : Vw W G H y dy) (e : dGet dx dy = some r) : ∃ a o, x = .ref a ∧ DGet H a y o ∧ RpO W G o r := by
  cases dx with
  | dct kvs =>
    obtain ⟨k, ek, er⟩ := Option.map_eq_some_iff.mp (show (dKey dy).map (getK kvs) = some r from e)
    obtain ⟨a, vs, rfl, hd, hr⟩ := hx.dct s
    rcases hr.get k with ⟨v, d, h1, h2, h3⟩ | ⟨h1, h2⟩
    · exact ⟨a, some v, rfl, .inl ⟨vs, k, hd, dKey_vw ek hy, h1.symm⟩, by rw [← er, h2]; exact h3⟩
    · exact ⟨a, none, rfl, .inl ⟨vs, k, hd, dKey_vw ek hy, h1.symm⟩, by rw [← er, h2]; trivial⟩
  | dctT kvs =>
    cases dy with
    | tup ks =>
      obtain ⟨k, ek, er⟩ := Option.map_eq_some_iff.mp (show (dKeys ks).map (getK kvs) = some r from e)
      obtain ⟨a, vs, rfl, hd, hr⟩ := hx.dctT s
      obtain ⟨b, ws, rfl, hb, _, hw⟩ := hy.tup s
      have e2 := dKeys_rp ek hw
      subst e2
      rcases hr.get k with ⟨v, d, h1, h2, h3⟩ | ⟨h1, h2⟩
      · exact ⟨a, some v, rfl, .inr ⟨vs, k, b, hd, rfl, hb, h1.symm⟩, by rw [← er, h2]; exact h3⟩
      · exact ⟨a, none, rfl, .inr ⟨vs, k, b, hd, rfl, hb, h1.symm⟩, by rw [← er, h2]; trivial⟩
    | _ => cases e
  | _ => cases e
end
end VS
namespace VS
open PySem PySem.Spec PyProof.Rows L2
abbrev Op2 := D → D → Option (D × Bool)
def OpSem (W : Wd) (r : R2) (op : Op2) : Prop := ∀ (G H : Hp) (x y : V) (dx dy d : D) (fr : Bool) (Q : VK), Same G H → Vw W G H x dx → Vw W G H y dy → op dx dy = some (d, fr) → (∀ v H', Res W G H d fr v H' → Q v H') → r x y H Q
def OpOk (X : Cx) (c : Nat → Value) (f : Value → Value → Sem Value) (op : Op2) : Prop := ∃ r, OpR X f r ∧ OpSem (wd X c) r op
theorem OpOk.or {X : Cx} {c : Nat → Value} {f : Value → Value → Sem Value} {op op' op'' : Op2} (h : OpOk X c f op) (h' : OpOk X c f op') (e : ∀ x y z, op'' x y = some z → op x y = some z ∨ op' x y = some z) : OpOk X c f op'' := by
  obtain ⟨r, p, k⟩ := h
  obtain ⟨r', p', k'⟩ := h'
  refine ⟨_, OpR.or p p', fun G H x y dx dy d fr Q s hx hy eo q => ?_⟩
  rcases e _ _ _ eo with z | z
  · exact .inl (k G H x y dx dy d fr Q s hx hy z q)
  · exact .inr (k' G H x y dx dy d fr Q s hx hy z q)
def orOp (a b : Op2) : Op2 := fun x y => (a x y).or (b x y)
theorem OpOk.orOp {X : Cx} {c : Nat → Value} {f : Value → Value → Sem Value} {op op' : Op2} (h : OpOk X c f op) (h' : OpOk X c f op') : OpOk X c f (orOp op op') :=
  h.or h' fun x y z e => by
    unfold VS.orOp at e
    cases q : op x y with
    | none => rw [q] at e; exact .inr e
    | some w => rw [q] at e; exact .inl e
section
variable {X : Cx} {c : Nat → Value}
theorem res_int {W : Wd} {G H : Hp} {Q : VK} {i : Int} (s : Same G H) (q : ∀ v H', Res W G H (.int i) false v H' → Q v H') : Q (.int i) H := q _ _ (Res.same s (.int i))
theorem res_bl {W : Wd} {G H : Hp} {Q : VK} {i : Bool} (s : Same G H) (q : ∀ v H', Res W G H (.bl i) false v H' → Q v H') : Q (.bl i) H := q _ _ (Res.same s (.bl i))
theorem res_str {W : Wd} {G H : Hp} {Q : VK} {i : Str} (s : Same G H) (q : ∀ v H', Res W G H (.str i) false v H' → Q v H') : Q (.str i) H := q _ _ (Res.same s (.str i))
/-! ### arithmetic -/
def iiOp (C : Int → Int → Bool) (g : Int → Int → Int) : Op2
  | .int a, .int b => if C a b = true then some (.int (g a b), false) else none
  | _, _ => none
theorem iiOp_ok {f : Value → Value → Sem Value} {Cp : Int → Int → Prop} {C : Int → Int → Bool} {g : Int → Int → Int} (h : OpR X f (rI Cp fun i j => .int (g i j))) (hC : ∀ a b, C a b = true → Cp a b) : OpOk X c f (iiOp C g) := by
  refine ⟨_, h, fun G H x y dx dy d fr Q s hx hy e q => ?_⟩
  cases dx with
  | int a =>
    cases dy with
    | int b =>
      have e' : (if C a b = true then some (D.int (g a b), false) else none) = some (d, fr) := e
      by_cases z : C a b = true
      · rw [if_pos z] at e'; cases e'
        exact ⟨a, b, hx.int, hy.int, hC a b z, res_int s q⟩
      · rw [if_neg z] at e'; cases e'
    | _ => cases e
  | _ => cases e
def iiB (p : Int → Int → Bool) : Op2
  | .int a, .int b => some (.bl (p a b), false)
  | _, _ => none
theorem iiB_ok {f : Value → Value → Sem Value} {p : Int → Int → Bool} (h : OpR X f (rI0 fun i j => .bl (p i j))) : OpOk X c f (iiB p) := by
  refine ⟨_, h, fun G H x y dx dy d fr Q s hx hy e q => ?_⟩
  cases dx with
  | int a =>
    cases dy with
    | int b => cases e; exact ⟨a, b, hx.int, hy.int, res_bl s q⟩
    | _ => cases e
  | _ => cases e
def mulOk (a b : Int) : Bool := Nat.blt (a.natAbs.log2 + b.natAbs.log2) 100000000
theorem mulOk_ok {a b : Int} (h : mulOk a b = true) : IntMulOk a b := by
  have h1 : a.natAbs.log2 + b.natAbs.log2 + 1 ≤ 100000000 := Nat.le_of_ble_eq_true h
  have bt : ∀ x : Int, Builtin.Int.intBits x ≤ x.natAbs.log2 + 1 := fun x => by
    unfold Builtin.Int.intBits
    split <;> omega
  have h2 := bt a
  have h3 := bt b
  have e : bitsLine = 134217728 := by decide
  unfold IntMulOk
  intro z
  rw [Bool.and_eq_true] at z
  have z2 := z.2
  unfold Builtin.Int.intTooBig at z2
  have z3 := of_decide_eq_true z2
  rw [e] at z3
  omega
theorem op_mulX : OpR X (binaryOp .Mult) (rI IntMulOk fun i j => .int (i * j)) := opI fun _ _ _ _ _ _ _ hc q => mul_int q hc
theorem iop_mulX : OpR X (inplaceOp .Mult) (rI CMul fun i j => .int (i * j)) := iop_mul
def divOk (_ b : Int) : Bool := decide (0 < b) && Nat.blt b.natAbs.log2 9000
theorem divOk_ok {a b : Int} (h : divOk a b = true) : CDivW a b := by
  obtain ⟨h1, h2⟩ := Bool.and_eq_true_iff.mp h
  have : b.natAbs.log2 + 1 ≤ 9000 := Nat.le_of_ble_eq_true h2
  exact ⟨of_decide_eq_true h1, by omega⟩
def powOk (a b : Int) : Bool := decide (0 ≤ b) && decide (b ≤ 1000000) && decide (a.natAbs < 18446744073709551616)
theorem powOk_ok {a b : Int} (h : powOk a b = true) : CPow a b := by
  obtain ⟨h1, h3⟩ := Bool.and_eq_true_iff.mp h
  obtain ⟨h1, h2⟩ := Bool.and_eq_true_iff.mp h1
  exact ⟨of_decide_eq_true h1, of_decide_eq_true h2, by have := of_decide_eq_true h3; omega⟩
def ssAdd : Op2
  | .str a, .str b => if le24 (a.length + b.length) = true then some (.str (a ++ b), false) else none
  | _, _ => none
theorem ssAdd_ok : OpOk X c (binaryOp .Add) ssAdd := by
  refine ⟨_, op_add_str, fun G H x y dx dy d fr Q s hx hy e q => ?_⟩
  cases dx with
  | str a =>
    cases dy with
    | str b =>
      have e' : (if le24 (a.length + b.length) = true then some (D.str (a ++ b), false) else none) = some (d, fr) := e
      by_cases z : le24 (a.length + b.length) = true
      · rw [if_pos z] at e'; cases e'
        exact ⟨a, b, hx.str, hy.str, le24_ok z, res_str s q⟩
      · rw [if_neg z] at e'; cases e'
    | _ => cases e
  | _ => cases e
def llAdd : Op2
  | .lst a, .lst b => if le24 (a.length + b.length) = true then some (.lst (a ++ b), true) else none
  | _, _ => none
theorem llAdd_ok : OpOk X c (binaryOp .Add) llAdd := by
  refine ⟨_, op_cat, fun G H x y dx dy d fr Q s hx hy e q => ?_⟩
  cases dx with
  | lst a =>
    cases dy with
    | lst b =>
      have e' : (if le24 (a.length + b.length) = true then some (D.lst (a ++ b), true) else none) = some (d, fr) := e
      by_cases z : le24 (a.length + b.length) = true
      · rw [if_pos z] at e'; cases e'
        obtain ⟨p, vs, rfl, h1, r1⟩ := hx.lst s
        obtain ⟨p', ws, rfl, h2, r2⟩ := hy.lst s
        exact ⟨p, p', vs, ws, rfl, rfl, h1, h2, by rw [r1.length, r2.length]; exact le24_ok z, fun p hp => q _ _ (Res.fresh s hp (.lst (r1.append r2)))⟩
      · rw [if_neg z] at e'; cases e'
    | _ => cases e
  | _ => cases e
def ttAdd : Op2
  | .tup a, .tup b => if le24 (a.length + b.length) = true then some (.tup (a ++ b), false) else none
  | _, _ => none
theorem ttAdd_ok : OpOk X c (binaryOp .Add) ttAdd := by
  refine ⟨_, op_catA, fun G H x y dx dy d fr Q s hx hy e q => ?_⟩
  cases dx with
  | tup a =>
    cases dy with
    | tup b =>
      have e' : (if le24 (a.length + b.length) = true then some (D.tup (a ++ b), false) else none) = some (d, fr) := e
      by_cases z : le24 (a.length + b.length) = true
      · rw [if_pos z] at e'; cases e'
        obtain ⟨p, vs, rfl, h1, g1, r1⟩ := hx.tup s
        obtain ⟨p', ws, rfl, h2, g2, r2⟩ := hy.tup s
        refine ⟨p, p', vs, ws, rfl, rfl, SqT.of h1, SqT.of h2, by rw [r1.length, r2.length]; exact le24_ok z, fun w => ?_, fun _ w => ?_, fun _ _ p hp => q _ _ (Res.tup s hp (r1.append r2))⟩
        · subst w; cases r1
          exact q _ _ (Res.same s (.tup g2 r2))
        · subst w; cases r2
          rw [List.append_nil] at q
          exact q _ _ (Res.same s (.tup g1 r1))
      · rw [if_neg z] at e'; cases e'
    | _ => cases e
  | _ => cases e
def seqT : D → Option (List D)
  | .tup a => some a
  | .tpl a => some a
  | _ => none
theorem seqT_ok {W : Wd} {K : PySem.W.Frag} {G H : Hp} {v : V} {d : D} {ds : List D} (s : Same G H) (h : Vw W G H v d) (e : seqT d = some ds) : ∃ p vs, v = .ref p ∧ SqT K H p vs ∧ RpA W G vs ds ∧ Rp W G v d := by
  cases d with
  | tup a =>
    cases e
    obtain ⟨p, vs, rfl, h1, g, r⟩ := h.tup s
    exact ⟨p, vs, rfl, SqT.of h1, r, .tup g r⟩
  | tpl a =>
    cases e
    obtain ⟨p, o, vs, rfl, h1, g, hd, r⟩ := h.tpl s
    exact ⟨p, vs, rfl, .inl (.inr ⟨o, h1⟩), r, .tpl g hd r⟩
  | _ => cases e
/-- t + u, with tuples of a known object -/
def ptAdd : Op2 := fun x y => match seqT x, seqT y with
  | some a, some b => if le24 (a.length + b.length) = true then (match a, b with
    | [], _ => some (y, false)
    | _, [] => some (x, false)
    | _, _ => some (.tup (a ++ b), false)) else none
  | _, _ => none
theorem ptAdd_ok : OpOk X c (binaryOp .Add) ptAdd := by
  refine ⟨_, op_catA, fun G H x y dx dy d fr Q s hx hy e q => ?_⟩
  unfold ptAdd at e
  cases ea : seqT dx with
  | none => rw [ea] at e; cases e
  | some a =>
    cases eb : seqT dy with
    | none => rw [ea, eb] at e; cases e
    | some b =>
      rw [ea, eb] at e
      dsimp only at e
      by_cases z : le24 (a.length + b.length) = true
      · rw [if_pos z] at e
        obtain ⟨p, vs, rfl, h1, r1, k1⟩ := seqT_ok (K := X.K) s hx ea
        obtain ⟨p', ws, rfl, h2, r2, k2⟩ := seqT_ok (K := X.K) s hy eb
        refine ⟨p, p', vs, ws, rfl, rfl, h1, h2, by rw [r1.length, r2.length]; exact le24_ok z, fun w => ?_, fun n w => ?_, fun n n' p hp => ?_⟩
        · subst w; cases r1
          cases e
          exact q _ _ (Res.same s k2)
        · subst w; cases r2
          cases r1 with
          | nil => exact absurd rfl n
          | cons h t =>
            cases e
            exact q _ _ (Res.same s k1)
        · cases r1 with
          | nil => exact absurd rfl n
          | cons h t =>
            cases r2 with
            | nil => exact absurd rfl n'
            | cons h' t' =>
              cases e
              exact q _ _ (Res.tup s hp ((RpA.cons h t).append (.cons h' t')))
      · rw [if_neg z] at e; cases e
def yes2 (_ _ : Int) : Bool := true
def dAdd : Op2 := orOp (iiOp yes2 (· + ·)) (orOp llAdd (orOp ttAdd (orOp ssAdd ptAdd)))
theorem rI_of {f : Value → Value → Sem Value} {g : Int → Int → V} (h : OpR X f (rI0 g)) : OpR X f (rI (fun _ _ => True) g) := by
  intro pins s σ H x y v u Q I rx ry q
  obtain ⟨i, j, e1, e2, _, q⟩ := q
  exact h pins s σ H x y v u Q I rx ry ⟨i, j, e1, e2, q⟩
theorem dAdd_ok : OpOk X c (binaryOp .Add) dAdd := (iiOp_ok (rI_of op_add) fun _ _ _ => trivial).orOp (llAdd_ok.orOp (ttAdd_ok.orOp (ssAdd_ok.orOp ptAdd_ok)))
def dSub : Op2 := iiOp yes2 (· - ·)
theorem dSub_ok : OpOk X c (binaryOp .Sub) dSub := iiOp_ok (rI_of op_sub) fun _ _ _ => trivial
def liMul : Op2
  | .lst a, .int k => if (decide (-9223372036854775808 ≤ k) && decide (k < 9223372036854775808) && le24 (a.length * k.toNat)) = true then some (.lst (List.replicate k.toNat a).flatten, true) else none
  | _, _ => none
theorem RpA.rep {W : Wd} {G : Hp} {vs : List V} {ds : List D} (h : RpA W G vs ds) : ∀ n : Nat, RpA W G (List.replicate n vs).flatten (List.replicate n ds).flatten
  | 0 => .nil
  | n + 1 => by
    rw [List.replicate_succ, List.replicate_succ, List.flatten_cons, List.flatten_cons]
    exact h.append (RpA.rep h n)
theorem liMul_ok : OpOk X c (binaryOp .Mult) liMul := by
  refine ⟨_, op_rep, fun G H x y dx dy d fr Q s hx hy e q => ?_⟩
  cases dx with
  | lst a =>
    cases dy with
    | int k =>
      have e' : (if (decide (-9223372036854775808 ≤ k) && decide (k < 9223372036854775808) && le24 (a.length * k.toNat)) = true then some (D.lst (List.replicate k.toNat a).flatten, true) else none) = some (d, fr) := e
      by_cases z : (decide (-9223372036854775808 ≤ k) && decide (k < 9223372036854775808) && le24 (a.length * k.toNat)) = true
      · rw [if_pos z] at e'; cases e'
        obtain ⟨z1, z3⟩ := Bool.and_eq_true_iff.mp z
        obtain ⟨z1, z2⟩ := Bool.and_eq_true_iff.mp z1
        have z1 := of_decide_eq_true z1
        have z2 := of_decide_eq_true z2
        obtain ⟨p, vs, rfl, h1, r1⟩ := hx.lst s
        exact ⟨p, k, vs, rfl, hy.int, h1, by omega, by omega, by rw [r1.length]; exact le24_ok z3, fun p hp => q _ _ (Res.fresh s hp (.lst (r1.rep _)))⟩
      · rw [if_neg z] at e'; cases e'
    | _ => cases e
  | _ => cases e
def dMul : Op2 := orOp (iiOp mulOk (· * ·)) liMul
theorem dMul_ok : OpOk X c (binaryOp .Mult) dMul := (iiOp_ok op_mulX fun _ _ h => mulOk_ok h).orOp liMul_ok
def dDiv : Op2 := iiOp divOk (· / ·)
theorem dDiv_ok : OpOk X c (binaryOp .FloorDiv) dDiv := iiOp_ok op_fdivW fun a b h => divOk_ok (a := a) h
def modOk (_ b : Int) : Bool := decide (0 < b)
def dMod : Op2 := iiOp modOk (· % ·)
theorem dMod_ok : OpOk X c (binaryOp .Mod) dMod := iiOp_ok op_mod fun a b h => of_decide_eq_true h
def dPow : Op2 := iiOp powOk fun a b => a ^ b.toNat
theorem dPow_ok : OpOk X c (binaryOp .Pow) dPow := iiOp_ok op_pow fun a b h => powOk_ok h
/-! ### comparisons -/
def eqOp : Op2 := fun x y => if (plain x 60 && plain y 60) = true then some (.bl (PyData.eqv (toPy x) (toPy y)), false) else none
def neOp : Op2 := fun x y => if (plain x 60 && plain y 60) = true then some (.bl (!PyData.eqv (toPy x) (toPy y)), false) else none
theorem eqOp_ok (hu : X.A.units + 64 < cLine) : OpOk X c (compareOp .Eq) eqOp := by
  refine ⟨_, op_eqD hu, fun G H x y dx dy d fr Q s hx hy e q => ?_⟩
  unfold eqOp at e
  split at e
  · rename_i z
    cases e
    obtain ⟨z1, z2⟩ := Bool.and_eq_true_iff.mp z
    exact ⟨_, _, hx.dp s z1, hy.dp s z2, plain_shaped z1, plain_shaped z2, res_bl s q⟩
  · cases e
theorem neOp_ok (hu : X.A.units + 64 < cLine) : OpOk X c (compareOp .NotEq) neOp := by
  refine ⟨_, op_neD hu, fun G H x y dx dy d fr Q s hx hy e q => ?_⟩
  unfold neOp at e
  split at e
  · rename_i z
    cases e
    obtain ⟨z1, z2⟩ := Bool.and_eq_true_iff.mp z
    exact ⟨_, _, hx.dp s z1, hy.dp s z2, plain_shaped z1, plain_shaped z2, res_bl s q⟩
  · cases e
def ltI (a b : Int) : Bool := decide (a < b)
def leI (a b : Int) : Bool := decide (a ≤ b)
def gtI (a b : Int) : Bool := decide (b < a)
def geI (a b : Int) : Bool := decide (b ≤ a)
def dLt : Op2 := iiB ltI
def dLe : Op2 := iiB leI
def dGt : Op2 := iiB gtI
def dGe : Op2 := iiB geI
theorem dLt_ok : OpOk X c (compareOp .Lt) dLt := iiB_ok op_lt
theorem dLe_ok : OpOk X c (compareOp .LtE) dLe := iiB_ok op_le
theorem dGt_ok : OpOk X c (compareOp .Gt) dGt := iiB_ok op_gt
theorem dGe_ok : OpOk X c (compareOp .GtE) dGe := iiB_ok op_ge
/-! ### in -/
def blIf (neg b : Bool) : Bool := if neg = true then !b else b
theorem op_inT (hu : X.A.units + 65 < cLine) : OpR X (compareOp .In) (fun x y H Q => ∃ d ds, Dp X.K H x d ∧ Dp X.K H y (.tuple ds) ∧ SeqAt.shaped d = true ∧ SeqAt.shaped (.tuple ds) = true ∧ Q (.bl (ds.any fun z => PyData.eqv z d)) H) := by
  intro pins s σ H x y v u Q I rx ry h
  obtain ⟨d, ds, hd, he, sd, se, q⟩ := h
  obtain ⟨as, r1⟩ := Dp.reads I d x v hd rx
  obtain ⟨bs, r2⟩ := Dp.reads I (.tuple ds) y u he ry
  exact SeqAt.in_tuple_reads r2 r1 (SeqAt.canLay_of_shaped se) (SeqAt.canLay_of_shaped sd) (room_in_shaped sd hu) ⟨.bl _, H, I, rfl, q⟩
theorem op_notInT (hu : X.A.units + 65 < cLine) : OpR X (compareOp .NotIn) (fun x y H Q => ∃ d ds, Dp X.K H x d ∧ Dp X.K H y (.tuple ds) ∧ SeqAt.shaped d = true ∧ SeqAt.shaped (.tuple ds) = true ∧ Q (.bl (!ds.any fun z => PyData.eqv z d)) H) := by
  intro pins s σ H x y v u Q I rx ry h
  obtain ⟨d, ds, hd, he, sd, se, q⟩ := h
  obtain ⟨as, r1⟩ := Dp.reads I d x v hd rx
  obtain ⟨bs, r2⟩ := Dp.reads I (.tuple ds) y u he ry
  exact SeqAt.notIn_tuple_reads r2 r1 (SeqAt.canLay_of_shaped se) (SeqAt.canLay_of_shaped sd) (room_in_shaped sd hu) ⟨.bl _, H, I, rfl, q⟩
theorem op_inDct (hu : X.A.units + 1 < cLine) : OpR X (compareOp .In) (fun y x H Q => ∃ a o, x = .ref a ∧ DGet H a y o ∧ Q (.bl o.isSome) H) := by
  intro pins s σ H y x u v Q I ry rx h
  obtain ⟨a, o, rfl, g, q⟩ := h
  cases rx
  exact d_in hu I g ry fun s3 I3 => ⟨.bl o.isSome, H, I3, rfl, q⟩
theorem op_notInDct (hu : X.A.units + 1 < cLine) : OpR X (compareOp .NotIn) (fun y x H Q => ∃ a o, x = .ref a ∧ DGet H a y o ∧ Q (.bl (!o.isSome)) H) := by
  intro pins s σ H y x u v Q I ry rx h
  obtain ⟨a, o, rfl, g, q⟩ := h
  cases rx
  exact d_notIn hu I g ry fun s3 I3 => ⟨.bl (!o.isSome), H, I3, rfl, q⟩
def inLst (neg : Bool) : Op2
  | x, .lst ys => if (plain x 60 && plain (.lst ys) 60) = true then some (.bl (blIf neg ((toPyA ys).any fun z => PyData.eqv z (toPy x))), false) else none
  | x, .tup ys => if (plain x 60 && plain (.tup ys) 60) = true then some (.bl (blIf neg ((toPyA ys).any fun z => PyData.eqv z (toPy x))), false) else none
  | x, .tpl ys => if (plain x 60 && plain (.tpl ys) 60) = true then some (.bl (blIf neg ((toPyA ys).any fun z => PyData.eqv z (toPy x))), false) else none
  | _, _ => none
theorem toPy_lst (ys : List D) : toPy (.lst ys) = .list (toPyA ys) := by simp [toPy]
theorem toPy_tup (ys : List D) : toPy (.tup ys) = .tuple (toPyA ys) := by simp [toPy]
theorem toPy_tpl' (ys : List D) : toPy (.tpl ys) = .tuple (toPyA ys) := by simp [toPy]
def inDct (neg : Bool) : Op2 := fun x y => (dGet y x).map fun o => (.bl (blIf neg o.isSome), false)
def inSet (neg : Bool) : Op2
  | x, .set ks => (dKey x).map fun k => (.bl (blIf neg (hasK ks k)), false)
  | _, _ => none
def inStr (neg : Bool) : Op2
  | .str i, .str j => some (.bl (blIf neg (!(Builtin.Str.occurrences j i 0 j.length 1).isEmpty)), false)
  | _, _ => none
theorem RpO.isSome {W : Wd} {G : Hp} {o : Option V} {r : Option D} (h : RpO W G o r) : o.isSome = r.isSome := by
  cases o <;> cases r <;> first | rfl | exact h.elim
theorem inLst_ok (hu : X.A.units + 65 < cLine) : OpOk X c (compareOp .In) (inLst false) := by
  refine ⟨_, OpR.or (op_inD hu) (op_inT hu), fun G H x y dx dy d fr Q s hx hy e q => ?_⟩
  cases dy with
  | lst ys =>
    have e' : (if (plain dx 60 && plain (.lst ys) 60) = true then some (D.bl (blIf false ((toPyA ys).any fun z => PyData.eqv z (toPy dx))), false) else none) = some (d, fr) := e
    by_cases z : (plain dx 60 && plain (.lst ys) 60) = true
    · rw [if_pos z] at e'; cases e'
      obtain ⟨z1, z2⟩ := Bool.and_eq_true_iff.mp z
      have w1 := hy.dp s z2
      have w2 := plain_shaped z2
      rw [toPy_lst] at w1 w2
      exact .inl ⟨_, _, hx.dp s z1, w1, plain_shaped z1, w2, res_bl s q⟩
    · rw [if_neg z] at e'; cases e'
  | tup ys =>
    have e' : (if (plain dx 60 && plain (.tup ys) 60) = true then some (D.bl (blIf false ((toPyA ys).any fun z => PyData.eqv z (toPy dx))), false) else none) = some (d, fr) := e
    by_cases z : (plain dx 60 && plain (.tup ys) 60) = true
    · rw [if_pos z] at e'; cases e'
      obtain ⟨z1, z2⟩ := Bool.and_eq_true_iff.mp z
      have w1 := hy.dp s z2
      have w2 := plain_shaped z2
      rw [toPy_tup] at w1 w2
      exact .inr ⟨_, _, hx.dp s z1, w1, plain_shaped z1, w2, res_bl s q⟩
    · rw [if_neg z] at e'; cases e'
  | tpl ys =>
    have e' : (if (plain dx 60 && plain (.tpl ys) 60) = true then some (D.bl (blIf false ((toPyA ys).any fun z => PyData.eqv z (toPy dx))), false) else none) = some (d, fr) := e
    by_cases z : (plain dx 60 && plain (.tpl ys) 60) = true
    · rw [if_pos z] at e'; cases e'
      obtain ⟨z1, z2⟩ := Bool.and_eq_true_iff.mp z
      have w1 := hy.dp s z2
      have w2 := plain_shaped z2
      rw [toPy_tpl'] at w1 w2
      exact .inr ⟨_, _, hx.dp s z1, w1, plain_shaped z1, w2, res_bl s q⟩
    · rw [if_neg z] at e'; cases e'
  | _ => cases e
theorem notInLst_ok (hu : X.A.units + 65 < cLine) : OpOk X c (compareOp .NotIn) (inLst true) := by
  refine ⟨_, OpR.or (op_notInD hu) (op_notInT hu), fun G H x y dx dy d fr Q s hx hy e q => ?_⟩
  cases dy with
  | lst ys =>
    have e' : (if (plain dx 60 && plain (.lst ys) 60) = true then some (D.bl (blIf true ((toPyA ys).any fun z => PyData.eqv z (toPy dx))), false) else none) = some (d, fr) := e
    by_cases z : (plain dx 60 && plain (.lst ys) 60) = true
    · rw [if_pos z] at e'; cases e'
      obtain ⟨z1, z2⟩ := Bool.and_eq_true_iff.mp z
      have w1 := hy.dp s z2
      have w2 := plain_shaped z2
      rw [toPy_lst] at w1 w2
      exact .inl ⟨_, _, hx.dp s z1, w1, plain_shaped z1, w2, res_bl s q⟩
    · rw [if_neg z] at e'; cases e'
  | tup ys =>
    have e' : (if (plain dx 60 && plain (.tup ys) 60) = true then some (D.bl (blIf true ((toPyA ys).any fun z => PyData.eqv z (toPy dx))), false) else none) = some (d, fr) := e
    by_cases z : (plain dx 60 && plain (.tup ys) 60) = true
    · rw [if_pos z] at e'; cases e'
      obtain ⟨z1, z2⟩ := Bool.and_eq_true_iff.mp z
      have w1 := hy.dp s z2
      have w2 := plain_shaped z2
      rw [toPy_tup] at w1 w2
      exact .inr ⟨_, _, hx.dp s z1, w1, plain_shaped z1, w2, res_bl s q⟩
    · rw [if_neg z] at e'; cases e'
  | tpl ys =>
    have e' : (if (plain dx 60 && plain (.tpl ys) 60) = true then some (D.bl (blIf true ((toPyA ys).any fun z => PyData.eqv z (toPy dx))), false) else none) = some (d, fr) := e
    by_cases z : (plain dx 60 && plain (.tpl ys) 60) = true
    · rw [if_pos z] at e'; cases e'
      obtain ⟨z1, z2⟩ := Bool.and_eq_true_iff.mp z
      have w1 := hy.dp s z2
      have w2 := plain_shaped z2
      rw [toPy_tpl'] at w1 w2
      exact .inr ⟨_, _, hx.dp s z1, w1, plain_shaped z1, w2, res_bl s q⟩
    · rw [if_neg z] at e'; cases e'
  | _ => cases e
theorem inDct_ok (hu : X.A.units + 1 < cLine) : OpOk X c (compareOp .In) (inDct false) := by
  refine ⟨_, op_inDct hu, fun G H x y dx dy d fr Q s hx hy e q => ?_⟩
  obtain ⟨r, e1, e2⟩ := Option.map_eq_some_iff.mp (show (dGet dy dx).map _ = some (d, fr) from e)
  cases e2
  obtain ⟨a, o, rfl, g, ro⟩ := dGet_ok s hy hx e1
  exact ⟨a, o, rfl, g, by rw [ro.isSome]; exact res_bl s q⟩
theorem notInDct_ok (hu : X.A.units + 1 < cLine) : OpOk X c (compareOp .NotIn) (inDct true) := by
  refine ⟨_, op_notInDct hu, fun G H x y dx dy d fr Q s hx hy e q => ?_⟩
  obtain ⟨r, e1, e2⟩ := Option.map_eq_some_iff.mp (show (dGet dy dx).map _ = some (d, fr) from e)
  cases e2
  obtain ⟨a, o, rfl, g, ro⟩ := dGet_ok s hy hx e1
  exact ⟨a, o, rfl, g, by rw [ro.isSome]; exact res_bl s q⟩
theorem inSet_ok : OpOk X c (compareOp .In) (inSet false) := by
  refine ⟨_, or_sinK, fun G H x y dx dy d fr Q s hx hy e q => ?_⟩
  cases dy with
  | set ks =>
    obtain ⟨k, e1, e2⟩ := Option.map_eq_some_iff.mp (show (dKey dx).map _ = some (d, fr) from e)
    cases e2
    obtain ⟨a, S, n, rfl, h, hs, _⟩ := hy.set s
    exact ⟨k, a, S, n, dKey_vw e1 hx, rfl, h, by rw [if_neg (by decide), hs k]; exact res_bl s q⟩
  | _ => cases e
theorem notInSet_ok : OpOk X c (compareOp .NotIn) (inSet true) := by
  refine ⟨_, or_snotinK, fun G H x y dx dy d fr Q s hx hy e q => ?_⟩
  cases dy with
  | set ks =>
    obtain ⟨k, e1, e2⟩ := Option.map_eq_some_iff.mp (show (dKey dx).map _ = some (d, fr) from e)
    cases e2
    obtain ⟨a, S, n, rfl, h, hs, _⟩ := hy.set s
    exact ⟨k, a, S, n, dKey_vw e1 hx, rfl, h, by rw [if_pos (by decide), hs k]; exact res_bl s q⟩
  | _ => cases e
theorem inStr_ok : OpOk X c (compareOp .In) (inStr false) := by
  refine ⟨_, op_in_str, fun G H x y dx dy d fr Q s hx hy e q => ?_⟩
  cases dx with
  | str i => cases dy with
    | str j => cases e; exact ⟨i, j, hx.str, hy.str, res_bl s q⟩
    | _ => cases e
  | _ => cases e
theorem notInStr_ok : OpOk X c (compareOp .NotIn) (inStr true) := by
  refine ⟨_, op_notin_str, fun G H x y dx dy d fr Q s hx hy e q => ?_⟩
  cases dx with
  | str i => cases dy with
    | str j => cases e; exact ⟨i, j, hx.str, hy.str, res_bl s q⟩
    | _ => cases e
  | _ => cases e
def dIn (neg : Bool) : Op2 := orOp (inLst neg) (orOp (inDct neg) (orOp (inSet neg) (inStr neg)))
theorem dIn_ok (hu : X.A.units + 65 < cLine) : OpOk X c (compareOp .In) (dIn false) := (inLst_ok hu).orOp ((inDct_ok (by omega)).orOp (inSet_ok.orOp inStr_ok))
theorem dNotIn_ok (hu : X.A.units + 65 < cLine) : OpOk X c (compareOp .NotIn) (dIn true) := (notInLst_ok hu).orOp ((notInDct_ok (by omega)).orOp (notInSet_ok.orOp notInStr_ok))
/-! ### is None -/
def isNon : D → Bool
  | .non => true
  | _ => false
theorem vw_isNon {W : Wd} {G H : Hp} {v : V} {d : D} (h : Vw W G H v d) : decide (v = .non) = isNon d := by
  rcases h with h | ⟨a, rfl, _, o, ho, sh⟩
  · cases h <;> rfl
  · cases sh <;> rfl
def isBl (b : Bool) : D → Bool
  | .bl c => c == b
  | _ => false
theorem vw_isBl {W : Wd} {G H : Hp} {v : V} {d : D} {b : Bool} (h : Vw W G H v d) : decide (v = .bl b) = isBl b d := by
  rcases h with h | ⟨a, rfl, _, o, ho, sh⟩
  · cases h with
    | bl c => cases b <;> cases c <;> rfl
    | _ => rfl
  · cases sh <;> rfl
theorem op_isB : OpR X (compareOp .Is) (fun x y H Q => ∃ d, y = .bl d ∧ Q (.bl (decide (x = .bl d))) H) := by
  intro pins s σ H x y v u Q I rx ry h
  obtain ⟨d, rfl, q⟩ := h
  cases (show u = Value.bool d from ry)
  cases x with
  | bl c =>
    cases (show v = Value.bool c from rx)
    exact is_bool (fin_bl I q (by cases c <;> cases d <;> rfl))
  | non =>
    cases (show v = Value.none from rx)
    exact wpAny_pure (fin_bl I q rfl)
  | ref a =>
    cases (show v = Value.ref a from rx)
    exact wpAny_pure (fin_bl I q rfl)
  | ty n =>
    cases (show v = Value.type n from rx)
    exact wpAny_pure (fin_bl I q rfl)
  | int i =>
    obtain ⟨t, rfl⟩ := (show ∃ t, v = Value.int i t from rx)
    exact wpAny_pure (fin_bl I q rfl)
  | str i =>
    obtain ⟨t, rfl⟩ := (show ∃ t, v = Value.str i t from rx)
    exact wpAny_pure (fin_bl I q rfl)
  | byt i =>
    obtain ⟨t, rfl⟩ := (show ∃ t, v = Value.bytes i t from rx)
    exact wpAny_pure (fin_bl I q rfl)
  | flt i =>
    obtain ⟨t, rfl⟩ := (show ∃ t, v = Value.float i t from rx)
    exact wpAny_pure (fin_bl I q rfl)
theorem op_notB : OpR X (compareOp .IsNot) (fun x y H Q => ∃ d, y = .bl d ∧ Q (.bl (!decide (x = .bl d))) H) := by
  intro pins s σ H x y v u Q I rx ry h
  obtain ⟨d, rfl, q⟩ := h
  cases (show u = Value.bool d from ry)
  cases x with
  | bl c =>
    cases (show v = Value.bool c from rx)
    exact isnot_bool (fin_bl I q (by cases c <;> cases d <;> rfl))
  | non =>
    cases (show v = Value.none from rx)
    exact wpAny_pure (fin_bl I q rfl)
  | ref a =>
    cases (show v = Value.ref a from rx)
    exact wpAny_pure (fin_bl I q rfl)
  | ty n =>
    cases (show v = Value.type n from rx)
    exact wpAny_pure (fin_bl I q rfl)
  | int i =>
    obtain ⟨t, rfl⟩ := (show ∃ t, v = Value.int i t from rx)
    exact wpAny_pure (fin_bl I q rfl)
  | str i =>
    obtain ⟨t, rfl⟩ := (show ∃ t, v = Value.str i t from rx)
    exact wpAny_pure (fin_bl I q rfl)
  | byt i =>
    obtain ⟨t, rfl⟩ := (show ∃ t, v = Value.bytes i t from rx)
    exact wpAny_pure (fin_bl I q rfl)
  | flt i =>
    obtain ⟨t, rfl⟩ := (show ∃ t, v = Value.float i t from rx)
    exact wpAny_pure (fin_bl I q rfl)
def isOp (neg : Bool) : Op2
  | x, .non => some (.bl (blIf neg (isNon x)), false)
  | x, .bl b => some (.bl (blIf neg (isBl b x)), false)
  | _, _ => none
theorem isOp_ok : OpOk X c (compareOp .Is) (isOp false) := by
  refine ⟨_, OpR.or op_isN op_isB, fun G H x y dx dy d fr Q s hx hy e q => ?_⟩
  cases dy with
  | non => cases e; exact .inl ⟨hy.non, by rw [vw_isNon hx]; exact res_bl s q⟩
  | bl b => cases e; exact .inr ⟨b, hy.bl, by rw [vw_isBl hx]; exact res_bl s q⟩
  | _ => cases e
theorem isNotOp_ok : OpOk X c (compareOp .IsNot) (isOp true) := by
  refine ⟨_, OpR.or op_notN op_notB, fun G H x y dx dy d fr Q s hx hy e q => ?_⟩
  cases dy with
  | non => cases e; exact .inl ⟨hy.non, by rw [vw_isNon hx]; exact res_bl s q⟩
  | bl b => cases e; exact .inr ⟨b, hy.bl, by rw [vw_isBl hx]; exact res_bl s q⟩
  | _ => cases e
end
end VS
namespace VS
open PySem PySem.Spec PyProof.Rows L2
/-! ### truth -/
def truth : D → Option Bool
  | .non => some false
  | .bl b => some b
  | .int i => some (i != 0)
  | .str s => if le24 s.length = true then some ((s.length : Int) != 0) else none
  | .lst xs => some (!xs.isEmpty)
  | .tup xs => some (!xs.isEmpty)
  | _ => none
theorem RpA.isEmpty {W : Wd} {G : Hp} {vs : List V} {ds : List D} (h : RpA W G vs ds) : vs.isEmpty = ds.isEmpty := by
  cases h <;> rfl
theorem truth_ok {W : Wd} {G H : Hp} (s : Same G H) {v : V} {d : D} {k : Bool} (h : Vw W G H v d) (e : truth d = some k) : TruV W.K v H k := by
  cases d with
  | non => cases e; rw [h.non]; rfl
  | bl b => cases e; rw [h.bl]; rfl
  | int i => cases e; rw [h.int]; rfl
  | str x =>
    have e' : (if le24 x.length = true then some ((x.length : Int) != 0) else none) = some k := e
    by_cases z : le24 x.length = true
    · rw [if_pos z] at e'; cases e'; rw [h.str]; exact ⟨le24_ok z, rfl⟩
    · rw [if_neg z] at e'; cases e'
  | lst xs =>
    cases e
    obtain ⟨a, vs, rfl, h1, r⟩ := h.lst s
    exact .inl ⟨vs, SqL.of h1, by rw [r.isEmpty]⟩
  | tup xs =>
    cases e
    obtain ⟨a, vs, rfl, h1, _, r⟩ := h.tup s
    exact .inr (.inl ⟨vs, SqT.of h1, by rw [r.isEmpty]⟩)
  | _ => cases e
abbrev Op1 := D → Option (D × Bool)
def UnOk (X : Cx) (c : Nat → Value) (f : Value → Sem Value) (op : Op1) : Prop := ∃ r, UnR X f r ∧ ∀ (G H : Hp) (x : V) (dx d : D) (fr : Bool) (Q : VK), Same G H → Vw (wd X c) G H x dx → op dx = some (d, fr) → (∀ v H', Res (wd X c) G H d fr v H' → Q v H') → r x H Q
abbrev OpN := List D → Option (D × Bool)
def CallOk (X : Cx) (c : Nat → Value) (f : Value) (op : OpN) : Prop := ∃ r, CallR X f r ∧ ∀ (G H : Hp) (vs : List V) (ds : List D) (d : D) (fr : Bool) (Q : VK), Same G H → VwA (wd X c) G H vs ds → op ds = some (d, fr) → (∀ v H', Res (wd X c) G H d fr v H' → Q v H') → r vs H Q
def IxOk (X : Cx) (c : Nat → Value) (op : Op2) : Prop := ∃ r, IxR X r ∧ OpSem (wd X c) r op
theorem CallOk.or {X : Cx} {c : Nat → Value} {f : Value} {op op' : OpN} (h : CallOk X c f op) (h' : CallOk X c f op') : CallOk X c f (fun ds => (op ds).or (op' ds)) := by
  obtain ⟨r, p, k⟩ := h
  obtain ⟨r', p', k'⟩ := h'
  refine ⟨_, CallR.or p p', fun G H vs ds d fr Q s hv e q => ?_⟩
  have e : (op ds).or (op' ds) = some (d, fr) := e
  cases z : op ds with
  | none => rw [z] at e; exact .inr (k' G H vs ds d fr Q s hv e q)
  | some w => rw [z] at e; cases e; exact .inl (k G H vs ds d fr Q s hv z q)
theorem IxOk.orOp {X : Cx} {c : Nat → Value} {op op' : Op2} (h : IxOk X c op) (h' : IxOk X c op') : IxOk X c (orOp op op') := by
  obtain ⟨r, p, k⟩ := h
  obtain ⟨r', p', k'⟩ := h'
  refine ⟨_, IxR.or p p', fun G H x y dx dy d fr Q s hx hy e q => ?_⟩
  unfold VS.orOp at e
  cases z : op dx dy with
  | none => rw [z] at e; exact .inr (k' G H x y dx dy d fr Q s hx hy e q)
  | some w => rw [z] at e; cases e; exact .inl (k G H x y dx dy d fr Q s hx hy z q)
section
variable {X : Cx} {c : Nat → Value}
def dNeg : Op1
  | .int i => some (.int (-i), false)
  | _ => none
theorem dNeg_ok : UnOk X c (unaryOp .USub) dNeg := by
  refine ⟨_, un_neg, fun G H x dx d fr Q s hx e q => ?_⟩
  cases dx with
  | int i => cases e; exact ⟨i, hx.int, res_int s q⟩
  | _ => cases e
/-! ### subscripts -/
def ixSeq : Op2
  | .lst xs, .int i => (atI xs i).map (·, false)
  | .tup xs, .int i => (atI xs i).map (·, false)
  | .tpl xs, .int i => (atI xs i).map (·, false)
  | .scr ns, .int i => (atI ns i).map fun n => (.int n, false)
  | _, _ => none
theorem ixN_lt {n : Nat} {i : Int} {j : Nat} (h : ixN n i = some j) : j < n := (ixN_seq h).2.1
theorem atI_rp {W : Wd} {G : Hp} {vs : List V} {ds : List D} {i : Int} {d : D} (r : RpA W G vs ds) (e : atI ds i = some d) : ∃ v, atI vs i = some v ∧ Rp W G v d := by
  unfold atI at e ⊢
  rw [r.length]
  cases q : ixN ds.length i with
  | none => rw [q] at e; cases e
  | some j =>
    rw [q] at e
    exact r.get e
theorem ixSeq_ok : IxOk X c ixSeq := by
  refine ⟨_, ix_seq, fun G H x y dx dy d fr Q s hx hy e q => ?_⟩
  cases dx with
  | lst xs =>
    cases dy with
    | int i =>
      obtain ⟨z, e1, e2⟩ := Option.map_eq_some_iff.mp (show (atI xs i).map (·, false) = some (d, fr) from e)
      cases e2
      obtain ⟨a, vs, rfl, h1, r⟩ := hx.lst s
      obtain ⟨v, ev, rv⟩ := atI_rp r e1
      exact .inl ⟨a, vs, i, v, rfl, hy.int, SqL.of h1, ev, q _ _ (Res.same s rv)⟩
    | _ => cases e
  | tup xs =>
    cases dy with
    | int i =>
      obtain ⟨z, e1, e2⟩ := Option.map_eq_some_iff.mp (show (atI xs i).map (·, false) = some (d, fr) from e)
      cases e2
      obtain ⟨a, vs, rfl, h1, _, r⟩ := hx.tup s
      obtain ⟨v, ev, rv⟩ := atI_rp r e1
      exact .inr (.inl ⟨a, vs, i, v, rfl, hy.int, SqT.of h1, ev, q _ _ (Res.same s rv)⟩)
    | _ => cases e
  | tpl xs =>
    cases dy with
    | int i =>
      obtain ⟨z, e1, e2⟩ := Option.map_eq_some_iff.mp (show (atI xs i).map (·, false) = some (d, fr) from e)
      cases e2
      obtain ⟨a, o, vs, rfl, h1, _, _, r⟩ := hx.tpl s
      obtain ⟨v, ev, rv⟩ := atI_rp r e1
      exact .inr (.inl ⟨a, vs, i, v, rfl, hy.int, SqT.frz h1, ev, q _ _ (Res.same s rv)⟩)
    | _ => cases e
  | scr ns =>
    cases dy with
    | int i =>
      obtain ⟨z, e1, e2⟩ := Option.map_eq_some_iff.mp (show (atI ns i).map (fun n => (D.int n, false)) = some (d, fr) from e)
      cases e2
      obtain ⟨a, rfl, h1⟩ := hx.scr s
      refine .inl ⟨a, _, i, .int z, rfl, hy.int, h1, ?_, res_int s q⟩
      unfold atI at e1 ⊢
      rw [List.length_map]
      cases w : ixN ns.length i with
      | none => rw [w] at e1; cases e1
      | some j =>
        rw [w] at e1
        show (ns.map V.int)[j]? = _
        rw [List.getElem?_map, show ns[j]? = some z from e1]; rfl
    | _ => cases e
  | _ => cases e
def ixDct : Op2 := fun x y => match dGet x y with
  | some (some v) => some (v, false)
  | _ => none
theorem ix_dct (hu : X.A.units + 1 < cLine) : IxR X (fun x y H Q => ∃ a v, x = .ref a ∧ DGet H a y (some v) ∧ Q v H) := by
  intro value slice pins s σ H x y v u Q I rx ry h hs
  obtain ⟨a, w, rfl, g, q⟩ := h
  cases rx
  exact tail_any (dict_typeIs I g) PySem.F.slot_dict_getitem.lookup (d_getItem hu I g ry fun w' s3 I3 rw' => ⟨w, H, I3, rw', q⟩) hs
theorem ixDct_ok (hu : X.A.units + 1 < cLine) : IxOk X c ixDct := by
  refine ⟨_, ix_dct hu, fun G H x y dx dy d fr Q s hx hy e q => ?_⟩
  unfold ixDct at e
  cases z : dGet dx dy with
  | none => rw [z] at e; cases e
  | some o =>
    cases o with
    | none => rw [z] at e; cases e
    | some w =>
      rw [z] at e; cases e
      obtain ⟨a, o, rfl, g, ro⟩ := dGet_ok s hx hy z
      cases o with
      | none => exact ro.elim
      | some v => exact ⟨a, v, rfl, g, q _ _ (Res.same s ro)⟩
def dIdx : Op2 := orOp ixSeq ixDct
theorem dIdx_ok (hu : X.A.units + 1 < cLine) : IxOk X c dIdx := ixSeq_ok.orOp (ixDct_ok hu)
/-! ### slices -/
def cutD {α : Type} (xs : List α) (lo hi : Option Int) : List α := (xs.drop (HT.sIx xs.length 0 lo)).take (HT.sIx xs.length xs.length hi - HT.sIx xs.length 0 lo)
def dSlice : D → Option Int → Option Int → Option (D × Bool)
  | .lst xs, lo, hi => some (.lst (cutD xs lo hi), true)
  | .tup xs, lo, hi => some (.tup (cutD xs lo hi), false)
  | .scr ns, lo, hi => some (.lst ((cutD ns lo hi).map .int), true)
  | .tpl xs, lo, hi => if HT.sIx xs.length 0 lo = 0 ∧ HT.sIx xs.length xs.length hi = xs.length then some (.tpl xs, false) else some (.tup (cutD xs lo hi), false)
  | _, _, _ => none
def SlOk (X : Cx) (c : Nat → Value) (op : D → Option Int → Option Int → Option (D × Bool)) : Prop := ∃ r, SlR X r ∧ ∀ (G H : Hp) (x : V) (lo hi : Option Int) (dx d : D) (fr : Bool) (Q : VK), Same G H → Vw (wd X c) G H x dx → op dx lo hi = some (d, fr) → (∀ v H', Res (wd X c) G H d fr v H' → Q v H') → r x lo hi H Q
theorem RpA.cut {W : Wd} {G : Hp} {vs : List V} {ds : List D} (r : RpA W G vs ds) (lo hi : Option Int) : RpA W G (cutV vs lo hi) (cutD ds lo hi) := by
  unfold cutV cutD
  rw [r.length]
  exact (r.drop _).take _
theorem cutV_map {ns : List Int} (lo hi : Option Int) : cutV (ns.map V.int) lo hi = (cutD ns lo hi).map V.int := by
  unfold cutV cutD
  rw [List.length_map, List.map_take, List.map_drop]
theorem cutD_all {α : Type} {xs : List α} {lo hi : Option Int} (h1 : HT.sIx xs.length 0 lo = 0) (h2 : HT.sIx xs.length xs.length hi = xs.length) : cutD xs lo hi = xs := by
  unfold cutD
  rw [h1, h2]; simp
theorem dSlice_ok : SlOk X c dSlice := by
  refine ⟨_, SlR.or sl_list sl_tupA, fun G H x lo hi dx d fr Q s hx e q => ?_⟩
  cases dx with
  | lst xs =>
    cases e
    obtain ⟨a, vs, rfl, h1, r⟩ := hx.lst s
    exact .inl ⟨a, vs, rfl, SqL.of h1, fun p hp => q _ _ (Res.fresh s hp (.lst (r.cut lo hi)))⟩
  | tup xs =>
    cases e
    obtain ⟨a, vs, rfl, h1, g, r⟩ := hx.tup s
    refine .inr ⟨a, vs, rfl, SqT.of h1, fun z => ?_, fun _ p hp => q _ _ (Res.tup s hp (r.cut lo hi))⟩
    rw [r.length] at z
    rw [cutD_all z.1 z.2] at q
    exact q _ _ (Res.same s (.tup g r))
  | scr ns =>
    cases e
    obtain ⟨a, rfl, h1⟩ := hx.scr s
    exact .inl ⟨a, _, rfl, h1, fun p hp => by rw [cutV_map]; exact q _ _ (Res.fresh s hp (.lst (RpA.ofInts _)))⟩
  | tpl xs =>
    obtain ⟨a, o, vs, rfl, h1, g, hd, r⟩ := hx.tpl s
    refine .inr ⟨a, vs, rfl, .inl (.inr ⟨o, h1⟩), fun z => ?_, fun z p hp => ?_⟩
    · rw [r.length] at z
      dsimp only [dSlice] at e
      rw [if_pos z] at e
      cases e
      exact q _ _ (Res.same s (.tpl g hd r))
    · rw [r.length] at z
      dsimp only [dSlice] at e
      rw [if_neg z] at e
      cases e
      exact q _ _ (Res.tup s hp (r.cut lo hi))
  | _ => cases e
/-! ### built-in functions -/
def bLen : OpN
  | [.lst xs] => some (.int xs.length, false)
  | [.tup xs] => some (.int xs.length, false)
  | [.tpl xs] => some (.int xs.length, false)
  | [.scr xs] => some (.int xs.length, false)
  | [.str s] => if le24 s.length = true then some (.int s.length, false) else none
  | _ => none
theorem vw1 {W : Wd} {G H : Hp} {vs : List V} {d : D} (h : VwA W G H vs [d]) : ∃ v, vs = [v] ∧ Vw W G H v d := by
  cases h with | cons a r => cases r; exact ⟨_, rfl, a⟩
theorem vw2 {W : Wd} {G H : Hp} {vs : List V} {d e : D} (h : VwA W G H vs [d, e]) : ∃ v w, vs = [v, w] ∧ Vw W G H v d ∧ Vw W G H w e := by
  cases h with | cons a r => cases r with | cons b r => cases r; exact ⟨_, _, rfl, a, b⟩
theorem bLen_ok : CallOk X c (.builtin "len") bLen := by
  refine ⟨_, call_len, fun G H vs ds d fr Q s hv e q => ?_⟩
  unfold bLen at e
  split at e
  · cases e
    obtain ⟨v, rfl, h⟩ := vw1 hv
    obtain ⟨a, vs, rfl, h1, r⟩ := h.lst s
    exact ⟨_, _, rfl, .inl ⟨vs, SqL.of h1, rfl⟩, by rw [r.length]; exact res_int s q⟩
  · cases e
    obtain ⟨v, rfl, h⟩ := vw1 hv
    obtain ⟨a, vs, rfl, h1, _, r⟩ := h.tup s
    exact ⟨_, _, rfl, .inr ⟨vs, SqT.of h1, rfl⟩, by rw [r.length]; exact res_int s q⟩
  · cases e
    obtain ⟨v, rfl, h⟩ := vw1 hv
    obtain ⟨a, o, vs, rfl, h1, _, _, r⟩ := h.tpl s
    exact ⟨_, _, rfl, .inr ⟨vs, SqT.frz h1, rfl⟩, by rw [r.length]; exact res_int s q⟩
  · cases e
    obtain ⟨v, rfl, h⟩ := vw1 hv
    obtain ⟨a, rfl, h1⟩ := h.scr s
    exact ⟨_, _, rfl, .inl ⟨_, h1, rfl⟩, by rw [List.length_map]; exact res_int s q⟩
  · split at e
    · rename_i z
      cases e
      obtain ⟨v, rfl, h⟩ := vw1 hv
      rw [h.str]
      exact ⟨_, _, rfl, ⟨le24_ok z, rfl⟩, res_int s q⟩
    · cases e
  · cases e
def bAbs : OpN
  | [.int i] => some (.int (if i < 0 then -i else i), false)
  | _ => none
theorem bAbs_ok : CallOk X c (.builtin "abs") bAbs := by
  refine ⟨_, call_abs, fun G H vs ds d fr Q s hv e q => ?_⟩
  unfold bAbs at e
  split at e
  · cases e
    obtain ⟨v, rfl, h⟩ := vw1 hv
    rw [h.int]
    exact ⟨_, rfl, res_int s q⟩
  · cases e
def maxL : List Int → Int
  | [] => 0
  | x :: r => r.foldl (fun a b => if b > a then b else a) x
def minL : List Int → Int
  | [] => 0
  | x :: r => r.foldl (fun a b => if b < a then b else a) x
theorem maxL_go : ∀ (r : List Int) (x : Int), r.foldl (fun a b => if b > a then b else a) x ∈ x :: r ∧ ∀ y ∈ x :: r, y ≤ r.foldl (fun a b => if b > a then b else a) x
  | [], x => ⟨by simp, by simp⟩
  | z :: r, x => by
    rw [List.foldl_cons]
    obtain ⟨h1, h2⟩ := maxL_go r (if z > x then z else x)
    constructor
    · rcases List.mem_cons.mp h1 with e | e
      · rw [e]; split <;> simp
      · exact List.mem_cons_of_mem _ (List.mem_cons_of_mem _ e)
    · intro y hy
      have hz := h2 (if z > x then z else x) List.mem_cons_self
      rcases List.mem_cons.mp hy with e | hy
      · subst e; refine Int.le_trans ?_ hz; split <;> omega
      · rcases List.mem_cons.mp hy with e | hy
        · subst e; refine Int.le_trans ?_ hz; split <;> omega
        · exact h2 y (List.mem_cons_of_mem _ hy)
theorem minL_go : ∀ (r : List Int) (x : Int), r.foldl (fun a b => if b < a then b else a) x ∈ x :: r ∧ ∀ y ∈ x :: r, r.foldl (fun a b => if b < a then b else a) x ≤ y
  | [], x => ⟨by simp, by simp⟩
  | z :: r, x => by
    rw [List.foldl_cons]
    obtain ⟨h1, h2⟩ := minL_go r (if z < x then z else x)
    constructor
    · rcases List.mem_cons.mp h1 with e | e
      · rw [e]; split <;> simp
      · exact List.mem_cons_of_mem _ (List.mem_cons_of_mem _ e)
    · intro y hy
      have hz := h2 (if z < x then z else x) List.mem_cons_self
      rcases List.mem_cons.mp hy with e | hy
      · subst e; refine Int.le_trans hz ?_; split <;> omega
      · rcases List.mem_cons.mp hy with e | hy
        · subst e; refine Int.le_trans hz ?_; split <;> omega
        · exact h2 y (List.mem_cons_of_mem _ hy)
def bMax : OpN
  | [.int i, .int j] => some (.int (if j > i then j else i), false)
  | [.lst ds] => match intsD ds with
    | some (n :: ns) => some (.int (maxL (n :: ns)), false)
    | _ => none
  | _ => none
def bMin : OpN
  | [.int i, .int j] => some (.int (if j < i then j else i), false)
  | [.lst ds] => match intsD ds with
    | some (n :: ns) => some (.int (minL (n :: ns)), false)
    | _ => none
  | _ => none
theorem bMax_ok (hc : X.calm = true) : CallOk X c (.builtin "max") bMax := by
  refine ⟨_, CallR.or (call_max2 hc) (cr_max hc), fun G H vs ds d fr Q s hv e q => ?_⟩
  unfold bMax at e
  split at e
  · cases e
    obtain ⟨v, w, rfl, h1, h2⟩ := vw2 hv
    rw [h1.int, h2.int]
    exact .inl ⟨_, _, rfl, res_int s q⟩
  · rename_i ds
    split at e
    · rename_i n ns hi
      cases e
      obtain ⟨v, rfl, h⟩ := vw1 hv
      obtain ⟨a, vs, rfl, h1, r⟩ := h.lst s
      rw [intsD_eq hi] at r
      rw [r.ints] at h1
      refine .inr ⟨a, n :: ns, rfl, SqL.of h1, Nat.succ_pos _, fun m hm hy => ?_⟩
      obtain ⟨g1, g2⟩ := maxL_go ns n
      have : m = maxL (n :: ns) := Int.le_antisymm (g2 m hm) (hy _ g1)
      rw [this]; exact res_int s q
    · cases e
  · cases e
theorem bMin_ok (hc : X.calm = true) : CallOk X c (.builtin "min") bMin := by
  refine ⟨_, CallR.or (call_min2 hc) (cr_min hc), fun G H vs ds d fr Q s hv e q => ?_⟩
  unfold bMin at e
  split at e
  · cases e
    obtain ⟨v, w, rfl, h1, h2⟩ := vw2 hv
    rw [h1.int, h2.int]
    exact .inl ⟨_, _, rfl, res_int s q⟩
  · rename_i ds
    split at e
    · rename_i n ns hi
      cases e
      obtain ⟨v, rfl, h⟩ := vw1 hv
      obtain ⟨a, vs, rfl, h1, r⟩ := h.lst s
      rw [intsD_eq hi] at r
      rw [r.ints] at h1
      refine .inr ⟨a, n :: ns, rfl, SqL.of h1, Nat.succ_pos _, fun m hm hy => ?_⟩
      obtain ⟨g1, g2⟩ := minL_go ns n
      have : m = minL (n :: ns) := Int.le_antisymm (hy _ g1) (g2 m hm)
      rw [this]; exact res_int s q
    · cases e
  · cases e
/-- the sum of ints and bools -/
def numsD : List D → Option (List Int)
  | [] => some []
  | d :: r => match numD d, numsD r with
    | some n, some ns => some (n :: ns)
    | _, _ => none
def NumV : V → Int → Prop
  | .int i, n => n = i
  | .bl b, n => n = if b then 1 else 0
  | _, _ => False
theorem numsD_rp {W : Wd} {G : Hp} : ∀ {ds : List D} {vs : List V} {ns : List Int}, numsD ds = some ns → RpA W G vs ds → Paired NumV vs ns
  | [], vs, ns, e, h => by cases e; cases h; exact .nil
  | d :: r, vs, ns, e, h => by
    unfold numsD at e
    cases h with
    | cons a t =>
      cases e1 : numD d with
      | none => rw [e1] at e; cases e
      | some n =>
        cases e2 : numsD r with
        | none => rw [e1, e2] at e; cases e
        | some ms =>
          rw [e1, e2] at e; cases e
          refine .cons ?_ (numsD_rp e2 t)
          cases d with
          | int i => cases a; cases e1; rfl
          | bl b => cases a; cases e1; rfl
          | _ => cases e1
theorem num_val {vs : List V} {ns : List Int} (h : Paired NumV vs ns) : ∀ {us : List Value}, Vals vs us → ∀ (i : Nat) (v : Value), us[i]? = some v → NumOf (ns.getD i 0) v := by
  induction h with
  | nil => intro us r; cases r; intro i v e; simp at e
  | @cons x n xs ns a t ih =>
    intro us r
    cases r with
    | cons r1 r2 =>
      intro i v e
      cases i with
      | zero =>
        have e' : _ = v := Option.some.inj e
        subst e'
        cases x with
        | int j => obtain ⟨tk, rfl⟩ := r1; obtain rfl : n = j := a; exact .inl ⟨tk, rfl⟩
        | bl b => cases r1; exact .inr ⟨b, rfl, a⟩
        | _ => exact a.elim
      | succ i => exact ih r2 i v e
theorem preSum_getD : ∀ (ns : List Int) (k : Nat), preSum (fun i => ns.getD i 0) k = (ns.take k).sum
  | ns, 0 => by simp [preSum]
  | ns, k + 1 => by
    rw [preSum, preSum_getD ns k, List.take_add_one]
    by_cases h : k < ns.length
    · rw [List.getElem?_eq_getElem h, List.sum_append, List.getD_eq_getElem?_getD, List.getElem?_eq_getElem h]; simp
    · rw [List.getElem?_eq_none (by omega), List.getD_eq_getElem?_getD, List.getElem?_eq_none (by omega)]; simp
def rSumN : List V → Hp → VK → Prop := fun vs H Q => ∃ (a : Addr) (xs : List V) (ns : List Int), vs = [V.ref a] ∧ H a = some (.lst xs) ∧ Paired NumV xs ns ∧ Q (.int ns.sum) H
theorem cr_sumN (hc : X.calm = true) : CallR X (.builtin "sum") rSumN := by
  intro pins s σ H vs us Q I r h
  obtain ⟨a, xs, ns, rfl, hs, hp, q⟩ := h
  obtain ⟨its, rv, hl, _⟩ := I.list (SqL.of hs)
  rw [Vals.ref1 r]
  have hlen : its.length = ns.length := rv.length.symm.trans (Paired.length hp)
  refine call_sum_walkAnyB (iter_any hl.isList fun s₂ e2 st hne => ?_)
  subst e2
  refine ⟨_, _, _, _, _, _, _, fun i => ns.getD i 0, rfl, (Walks.list (A := X.A.in1) (I.ok.hd hc) _ a hne its.toArray).toS, st, fun b hb => ?_, fun i v hv => num_val hp rv i v (by simpa using hv), fun s' t' m => ?_⟩
  · rw [Heap.size_push]
    have hb' : b = s.heap.objs.size ∨ b = a := by simpa using hb
    obtain ⟨o, n, e, _⟩ := hl
    rcases hb' with z | z
    · rw [z]; exact Nat.lt_succ_self _
    · rw [z]; exact Nat.lt_succ_of_lt (Heap.lt_size e)
  · have hsum : preSum (fun i => ns.getD i 0) its.toArray.size = ns.sum := by
      rw [List.size_toArray, hlen, preSum_getD, List.take_length]
    rw [hsum]
    obtain ⟨h1, h2, h3, h4, h5⟩ := m
    obtain ⟨hh, gg, dd, tk, oo⟩ := s'
    simp only at h1 h2 h3 h4
    subst h2 h3 h4
    exact ⟨.int _, H, I.kept (t' := tk) fun b o e => h1 b o (fun hm => by
      have hm' : b = s.heap.objs.size := by simpa using hm
      rw [hm'] at e
      exact absurd (Heap.lt_size e) (Nat.lt_irrefl _)) (Heap.get?_push_of_some _ e), ⟨_, rfl⟩, q⟩
def bSum : OpN
  | [.lst ds] => (numsD ds).map fun ns => (.int ns.sum, false)
  | _ => none
theorem bSum_ok (hc : X.calm = true) : CallOk X c (.builtin "sum") bSum := by
  refine ⟨_, cr_sumN hc, fun G H vs ds d fr Q s hv e q => ?_⟩
  unfold bSum at e
  split at e
  · obtain ⟨ns, e1, e2⟩ := Option.map_eq_some_iff.mp e
    cases e2
    obtain ⟨v, rfl, h⟩ := vw1 hv
    obtain ⟨a, vs, rfl, h1, r⟩ := h.lst s
    exact ⟨a, vs, ns, rfl, h1, numsD_rp e1 r, res_int s q⟩
  · cases e
/-! list, tuple, int, bool, all, any, set, repr -/
def bList : OpN
  | [.lst ds] => some (.lst ds, true)
  | [.tup ds] => some (.lst ds, true)
  | [.tpl ds] => some (.lst ds, true)
  | [.scr ns] => some (.lst (ns.map .int), true)
  | _ => none
theorem bList_ok : CallOk X c (.type "list") bList := by
  refine ⟨_, call_list_of, fun G H vs ds d fr Q s hv e q => ?_⟩
  unfold bList at e
  split at e
  · cases e
    obtain ⟨v, rfl, h⟩ := vw1 hv
    obtain ⟨a, vs, rfl, h1, r⟩ := h.lst s
    exact ⟨a, vs, rfl, .inl (SqL.of h1), fun p hp => q _ _ (Res.fresh s hp (.lst r))⟩
  · cases e
    obtain ⟨v, rfl, h⟩ := vw1 hv
    obtain ⟨a, vs, rfl, h1, _, r⟩ := h.tup s
    exact ⟨a, vs, rfl, .inr (SqT.of h1), fun p hp => q _ _ (Res.fresh s hp (.lst r))⟩
  · cases e
    obtain ⟨v, rfl, h⟩ := vw1 hv
    obtain ⟨a, o, vs, rfl, h1, _, _, r⟩ := h.tpl s
    exact ⟨a, vs, rfl, .inr (SqT.frz h1), fun p hp => q _ _ (Res.fresh s hp (.lst r))⟩
  · cases e
    obtain ⟨v, rfl, h⟩ := vw1 hv
    obtain ⟨a, rfl, h1⟩ := h.scr s
    exact ⟨a, _, rfl, .inl h1, fun p hp => q _ _ (Res.fresh s hp (.lst (RpA.ofInts _)))⟩
  · cases e
def bListD : OpN
  | [.dct kvs] => some (.lst (kvs.map fun kv => keyD kv.1), true)
  | _ => none
def bTuple : OpN
  | [.lst ds] => some (.tpl ds, false)
  | [.tup ds] => some (.tup ds, false)
  | [.tpl ds] => some (.tpl ds, false)
  | _ => none
/-- tuple(xs): the new one has no dict of its own -/
theorem call_tupleP : CallR X (.type "tuple") (fun xs H Q => ∃ p ys, xs = [.ref p] ∧ ((SqL X.K H p ys ∧ ∀ l o, H l = none → o.dict = none → Q (.ref l) (upd H l (.frz o (.tup ys)))) ∨ (SqT X.K H p ys ∧ Q (.ref p) H))) := by
  intro pins s σ H xs us Q I r h
  obtain ⟨p, ys, rfl, h⟩ := h
  obtain ⟨u, rfl, rx⟩ := L2.vals1 r
  cases rx
  rcases h with ⟨hq, q⟩ | ⟨hq, q⟩
  · obtain ⟨its, rv, pl, hz⟩ := I.list hq
    have hlen := rv.length
    refine call_tuple_list pl.isList (fun h1 kp => ?_) (by rw [List.size_toArray]; omega)
    have J1 : L2.Inv X pins σ H { s with heap := h1 } := I.kept (t' := s.toks) kp
    have J2 : L2.Inv X pins σ (upd H h1.objs.size (.frz { cls := .type "tuple", data := .seq its.toArray } (.tup ys))) { s with heap := h1.push { cls := .type "tuple", data := .seq its.toArray } } :=
      J1.laid (t' := s.toks) (fun b o e => Heap.get?_push_of_some _ e) (Nat.le_refl _) (show ObjOk X.prog X.w _ _ _ (.frz _ (.tup ys)) from ⟨Heap.get?_push_size _ rfl, hz, its, rv, IsTup.new _ _⟩)
    exact ⟨.ref h1.objs.size, _, J2, rfl, q _ _ (J1.hok.fresh (Nat.le_refl _)) rfl⟩
  · obtain ⟨its, rv, pl, hz⟩ := I.tuple hq
    exact call_tuple_same pl ⟨.ref p, H, I, rfl, q⟩
theorem bTuple_ok : CallOk X c (.type "tuple") bTuple := by
  refine ⟨_, call_tupleP, fun G H vs ds d fr Q s hv e q => ?_⟩
  unfold bTuple at e
  split at e
  · cases e
    obtain ⟨v, rfl, h⟩ := vw1 hv
    obtain ⟨a, vs, rfl, h1, r⟩ := h.lst s
    exact ⟨a, vs, rfl, .inl ⟨SqL.of h1, fun p o hp hd => q _ _ (Res.tpl s hp hd r)⟩⟩
  · cases e
    obtain ⟨v, rfl, h⟩ := vw1 hv
    obtain ⟨a, vs, rfl, h1, g, r⟩ := h.tup s
    exact ⟨a, vs, rfl, .inr ⟨SqT.of h1, q _ _ (Res.same s (.tup g r))⟩⟩
  · cases e
    obtain ⟨v, rfl, h⟩ := vw1 hv
    obtain ⟨a, o, vs, rfl, h1, g, hd, r⟩ := h.tpl s
    exact ⟨a, vs, rfl, .inr ⟨SqT.frz h1, q _ _ (Res.same s (.tpl g hd r))⟩⟩
  · cases e
def bInt : OpN
  | [.int i] => some (.int i, false)
  | [.bl b] => some (.int (if b then 1 else 0), false)
  | _ => none
theorem bInt_ok : CallOk X c (.type "int") bInt := by
  refine ⟨_, call_int1, fun G H vs ds d fr Q s hv e q => ?_⟩
  unfold bInt at e
  split at e
  · cases e
    obtain ⟨v, rfl, h⟩ := vw1 hv
    rw [h.int]
    exact .inl ⟨_, rfl, res_int s q⟩
  · cases e
    obtain ⟨v, rfl, h⟩ := vw1 hv
    rw [h.bl]
    exact .inr ⟨_, rfl, res_int s q⟩
  · cases e
def bAll : OpN
  | [.lst ds] => (blsD ds).map fun bs => (.bl (bs.all id), false)
  | _ => none
def bAny : OpN
  | [.lst ds] => (blsD ds).map fun bs => (.bl (bs.any id), false)
  | _ => none
theorem bAll_ok (hc : X.calm = true) : CallOk X c (.builtin "all") bAll := by
  refine ⟨_, cr_all hc, fun G H vs ds d fr Q s hv e q => ?_⟩
  unfold bAll at e
  split at e
  · obtain ⟨bs, e1, e2⟩ := Option.map_eq_some_iff.mp e
    cases e2
    obtain ⟨v, rfl, h⟩ := vw1 hv
    obtain ⟨a, vs, rfl, h1, r⟩ := h.lst s
    rw [blsD_eq e1] at r
    rw [r.bls] at h1
    exact ⟨a, bs, rfl, SqL.of h1, res_bl s q⟩
  · cases e
theorem bAny_ok (hc : X.calm = true) : CallOk X c (.builtin "any") bAny := by
  refine ⟨_, cr_any hc, fun G H vs ds d fr Q s hv e q => ?_⟩
  unfold bAny at e
  split at e
  · obtain ⟨bs, e1, e2⟩ := Option.map_eq_some_iff.mp e
    cases e2
    obtain ⟨v, rfl, h⟩ := vw1 hv
    obtain ⟨a, vs, rfl, h1, r⟩ := h.lst s
    rw [blsD_eq e1] at r
    rw [r.bls] at h1
    exact ⟨a, bs, rfl, SqL.of h1, res_bl s q⟩
  · cases e
def bSet0 : OpN
  | [] => some (.set [], true)
  | _ => none
theorem bSet0_ok : CallOk X c (.type "set") bSet0 := by
  refine ⟨_, cr_set0K, fun G H vs ds d fr Q s hv e q => ?_⟩
  unfold bSet0 at e
  split at e
  · cases e
    cases hv
    exact ⟨rfl, fun p hp => q _ _ (Res.fresh s hp (.set (W := wd X c) ⟨fun _ => rfl, rfl⟩))⟩
  · cases e
/-- repr of data -/
def bRepr : OpN
  | [d] => if (plain d 60 && (toPy d).showable && le24 (toPy d).shown.length) = true then some (.str (toPy d).shown, false) else none
  | _ => none
end
end VS
namespace VS
open PySem PySem.Spec PyProof.Rows L2
/-! ### defs whose callers print nothing: as FnOk, the guards known -/
structure FnG (P : Program) (w : World) (K : PySem.W.Frag) (mg : Str → Option Value) (base : Heap) (k : Nat) (f : Addr) (fd : FuncData) (ps : List Str) (sp : Sp) : Prop where
  len : ∀ vs H Q E, sp vs H Q E → vs.length = ps.length
  go : ∀ (A : Around) (outer : List PySem.Env) (s : Shared) (H : Hp) (args : Args) (us : List Value) (vs : List V) (Q : VK) (E : XK),
    Room k A → A.guards = some [] → Env0 P w K mg base A outer s H → BindsTo s fd args (ps.zip us) → Vals vs us → sp vs H Q E →
    codeAny (model P w) A (.call (.ref f) args) (CR (L2.CX P w) outer P w H s Q E) s
theorem FnG.up {P : Program} {w : World} {K : PySem.W.Frag} {mg : Str → Option Value} {base : Heap} {j k : Nat} {f : Addr} {fd : FuncData} {ps : List Str} {sp : Sp} (F : FnG P w K mg base j f fd ps sp) (h : j ≤ k) : FnG P w K mg base k f fd ps sp :=
  ⟨F.len, fun A outer s H args us vs Q E hr => F.go A outer s H args us vs Q E (hr.mono h)⟩
theorem FnG.weaker {P : Program} {w : World} {K : PySem.W.Frag} {mg : Str → Option Value} {base : Heap} {k : Nat} {f : Addr} {fd : FuncData} {ps : List Str} {sp sp' : Sp} (F : FnG P w K mg base k f fd ps sp) (h : ∀ vs H Q E, sp' vs H Q E → sp vs H Q E) : FnG P w K mg base k f fd ps sp' :=
  ⟨fun _ _ _ _ q => F.len _ _ _ _ (h _ _ _ _ q), fun A outer s H args us vs Q E a b c d e q => F.go A outer s H args us vs Q E a b c d e (h _ _ _ _ q)⟩
/-- the context of a body -/
abbrev cxG (P : Program) (w : World) (K : PySem.W.Frag) (mg : Str → Option Value) (base : Heap) (N : List Str) (qual : Str) (sc : Scope) (f : Addr) (cd : Value) (A : Around) (outer : List PySem.Env) (s : Shared) (H : Hp) (E : XK) : Cx :=
  cxOf (L2.CX P w) P w K mg base N qual sc f cd A outer s H E
theorem fnG_of {P : Program} {w : World} {K : PySem.W.Frag} {mg : Str → Option Value} {base : Heap} {k : Nat} {f : Addr} {nm qual : Str} {par : Arguments} {body : List Stmt} {sc : Scope} {dV kV doc pm cdv ct oc : Value} {an od : Option Addr} {osl : Array (Option Value)} {N ps : List Str} {sp : Sp}
    (lk : K.lookup f = some ⟨oc, od, .func (PySem.W.fnOf nm qual par body sc dV kV doc pm an cdv ct), osl⟩) (hcd : PySem.W.codeIn K cdv qual = true) (S : FnScope N ps sc) (len : ∀ vs H Q E, sp vs H Q E → vs.length = ps.length)
    (hb : ∀ (A : Around) (outer : List PySem.Env) (s : Shared) (H : Hp) (vs : List V) (Q : VK) (E : XK), Room k (A.deeper (envOfC qual sc s.heap.objs.size f cdv)) → A.guards = some [] → sp vs H Q E →
      ∃ t, PSs (cxG P w K mg base N qual sc f cdv A outer s H E) body t ∧ t { nx := fun _ H' => Q .non H', rt := Q } (start N vs) H) :
    FnG P w K mg base (k + 1) f (PySem.W.fnOf nm qual par body sc dV kV doc pm an cdv ct) ps sp := by
  constructor
  · exact len
  · intro A outer s H args us vs Q E room hg e0 bind rel hsp
    have old : ∀ b o, base.get? b = some o → s.heap.get? b = some o := fun b o e => (e0.bs b o e).1
    have inK := e0.mod.kin.keeps old
    have noLim := e0.mod.nolimit.keeps old
    have kinds : ∀ y ∈ ps.zip us, sc.names.lookup y.1 = some .local ∨ (sc.names.lookup y.1 = some .cell ∧ ((cellsFrom (s.heap.objs.size + 1) sc.names []).lookup y.1).isSome = true) := by
      rintro ⟨n, v⟩ hy
      refine (S.par n (List.of_mem_zip hy).1).imp id fun q => ⟨q, ?_⟩
      exact PySem.W.cellsFrom_some _ _ _ (.inl q)
    apply codeAny_call_function room.depth (inK _ _ lk) rfl S.co S.gen rfl (PySem.W.codeRec_of inK hcd)
    apply bind
    apply wpAny_newFunctionEnv_cells S.kind kinds
    intro env he s1 x
    cases he
    refine ⟨noLim.keeps x.toInCall.keep, ?_⟩
    apply codeAny_func
    obtain ⟨t, body_t, ok⟩ := hb A outer s H vs Q E (room.deeper _) hg hsp
    have I := inv_start (CX := L2.CX P w) (N := N) (mg := mg) (base := base) (K := K) (E := E) S room.hd e0 (len _ _ _ _ hsp) rel x
    refine wpAny_mono (body_t.run [] s1 _ H _ I ok) ?_ (fun _ _ z => z)
    intro fl s' out
    cases fl with
    | brk => obtain ⟨_, _, _, z⟩ := out; exact z.elim
    | cont => obtain ⟨_, _, _, z⟩ := out; exact z.elim
    | next =>
      obtain ⟨_, H', J, z⟩ := out
      exact ⟨V.non, H', J.os, J.bare, J.base, J.hok, rfl, z⟩
    | ret u =>
      obtain ⟨v, _, H', J, rv, z⟩ := out
      exact ⟨v, H', J.os, J.bare, J.base, J.hok, rv, z⟩
section
variable {X : Cx} {k : Nat} {f : Addr} {fd : FuncData} {ps : List Str} {sp : Sp} {Wx : WX} {x : Str} {p pos : Pos} {e : Expr} {es : List Expr} {t : TA}
theorem runG {pins : List (Addr × Obj)} {σ : L2.St} {H : Hp} {s : Shared} {Q : VK} {us : List Value} {vs : List V} (F : FnG X.prog X.w X.K X.mg X.base k f fd ps sp) (hr : Room k X.A) (hg : X.A.guards = some []) (hb : Binds X.K fd ps []) (tk : Takes X Wx)
    (I : L2.Inv X pins σ H s) (r : Vals vs us) (h : sp vs H Q (WE Wx σ)) : wpAny (model X.prog X.w) X.A (call (.ref f) us) (EP X pins σ Q) X.xe s := by
  have bind : BindsTo s fd ⟨us, []⟩ (ps.zip us) := by
    have z := hb s us I.kIn (by rw [List.append_nil, ← r.length]; exact F.len _ _ _ _ h)
    rwa [List.append_nil] at z
  apply wpAny_call
  refine codeAny_mono (F.go X.A X.stack s H ⟨us, []⟩ us vs Q (WE Wx σ) hr hg I.env0 bind r h) fun out s' hq => ?_
  rcases out with e | fl
  · exact passAt tk σ pins H s e s' I hq
  · cases fl with
    | ret u => exact I.after hq
    | next => exact hq.elim
    | brk => exact hq.elim
    | cont => exact hq.elim
def tCallG (sp : Sp) (Wx : WX) (t : TA) : TE := fun σ H Q => t σ H fun vs H1 => sp vs H1 Q (WE Wx σ)
theorem pe_callG (F : FnG X.prog X.w X.K X.mg X.base k f fd ps sp) (hr : Room k X.A) (hg : X.A.guards = some []) (gx : Gl X x) (hm : X.mg x = some (.ref f)) (hk : PySem.W.keepIn X.K (.ref f) = true) (hb : Binds X.K fd ps []) (tk : Takes X Wx)
    (ha : PA X (e :: es) t) (hd : (x == ("__debug__" : Str)) = false) (he : starEach (e :: es) X.env = (false, eval e X.env) :: starEach es X.env) (hp : (backTo pos (starEach es X.env)).any (·.1) = false) : PE X (.Call (.Name x p) (e :: es) [] pos) (tCallG sp Wx t) := by
  constructor
  intro pins s σ H Q I h
  apply wpAny_Call_Name_kw
  apply ld_glob I gx hm _ hd
  refine PySem.W.callWith_K (h₀ := X.base) I.ok.mod.kin hk ?_ he hp
  refine thn (ha.run pos pins s σ H _ I h) ?_
  rintro us s1 ⟨vs, H1, I1, r, q⟩
  exact ⟨I1.kIn, runG F hr hg hb tk I1 r q⟩
theorem pe_callG0 (F : FnG X.prog X.w X.K X.mg X.base k f fd ps sp) (hr : Room k X.A) (hg : X.A.guards = some []) (gx : Gl X x) (hm : X.mg x = some (.ref f)) (hk : PySem.W.keepIn X.K (.ref f) = true) (hb : Binds X.K fd ps []) (tk : Takes X Wx)
    (hd : (x == ("__debug__" : Str)) = false) : PE X (.Call (.Name x p) [] [] pos) (tCallG sp Wx tNil) := by
  constructor
  intro pins s σ H Q I h
  apply wpAny_Call_Name_kw
  apply ld_glob I gx hm _ hd
  exact PySem.W.callWith_K0 I.kIn hk (runG (us := []) F hr hg hb tk I .nil h)
end
/-! ### repr -/
mutual
theorem noDict_of : ∀ d : PyData, d.canLay0 = true → d.hasDict = false
  | .none, _ => rfl
  | .bool _, _ => rfl
  | .int _, _ => rfl
  | .str _, _ => rfl
  | .list xs, h => by simp only [PyData.hasDict]; exact noDictAll_of xs (by simpa [PyData.canLay0] using h)
  | .tuple xs, h => by simp only [PyData.hasDict]; exact noDictAll_of xs (by simpa [PyData.canLay0] using h)
  | .dict _, h => by simp [PyData.canLay0] at h
theorem noDictAll_of : ∀ ds : List PyData, PyData.canLayAll0 ds = true → PyData.hasDictAll ds = false
  | [], _ => by simp [PyData.hasDictAll]
  | d :: ds, h => by
    have h' : d.canLay0 = true ∧ PyData.canLayAll0 ds = true := by simpa [PyData.canLayAll0] using h
    simp [PyData.hasDictAll, noDict_of d h'.1, noDictAll_of ds h'.2]
end
section
variable {X : Cx} {c : Nat → Value}
def rReprD (K : PySem.W.Frag) : List V → Hp → VK → Prop := fun xs H Q => ∃ v d, xs = [v] ∧ Dp K H v d ∧ d.canLay0 = true ∧ d.depth ≤ 60 ∧ d.showable = true ∧ d.shown.length ≤ sizeLine ∧ Q (.str d.shown) H
theorem call_reprD (hg : X.A.guards = some []) (hu : X.A.units + 70 < cLine) : CallR X (.builtin "repr") (rReprD X.K) := by
  intro pins s σ H xs us Q I r h
  obtain ⟨v, d, rfl, hd, hl, hp, hs, hz, q⟩ := h
  obtain ⟨u, rfl, ru⟩ := L2.vals1 r
  obtain ⟨as, rd⟩ := Dp.reads I d v u hd ru
  have big : ∀ {a : Addr}, Reads s.heap (.ref a) d as → wpAny (model X.prog X.w) X.A (call (.builtin "repr") [.ref a]) (EP X pins σ Q) X.xe s := fun {a} rd => by
    refine repr_of_reads' rd hs (fun z => ?_) hg (by omega) (fun _ _ e => e) (fun h' t tk keep => ?_) hz
    · rw [noDict_of d hl] at z; cases z
    · exact ⟨.str d.shown, H, I.kept keep, ⟨_, rfl⟩, q⟩
  cases hd with
  | non => cases ru; exact PySem.P.repr_of_none ⟨.str _, H, I.tok _, ⟨_, rfl⟩, by simpa [PyData.shown] using q⟩
  | bl b => cases ru; exact PySem.P.repr_of_bool ⟨.str _, H, I.tok _, ⟨_, rfl⟩, by simpa [PyData.shown] using q⟩
  | int i =>
    obtain ⟨t, rfl⟩ := ru
    exact PySem.P.repr_of_int (by simpa [PyData.showable] using hs) ⟨.str _, H, I.tok _, ⟨_, rfl⟩, by simpa [PyData.shown] using q⟩
  | str x =>
    obtain ⟨t, rfl⟩ := ru
    exact PySem.P.repr_of_str ⟨.str _, H, I.tok _, ⟨_, rfl⟩, by simpa [PyData.shown] using q⟩ (by simpa [PyData.shown] using hz)
  | lst h1 h2 => cases ru; exact big rd
  | tup h1 h2 => cases ru; exact big rd
theorem bRepr_ok (hg : X.A.guards = some []) (hu : X.A.units + 70 < cLine) : CallOk X c (.builtin "repr") bRepr := by
  refine ⟨_, call_reprD hg hu, fun G H vs ds d fr Q s hv e q => ?_⟩
  unfold bRepr at e
  split at e
  · split at e
    · rename_i z
      cases e
      obtain ⟨z12, z3⟩ := Bool.and_eq_true_iff.mp z
      obtain ⟨z1, z2⟩ := Bool.and_eq_true_iff.mp z12
      obtain ⟨v, rfl, h⟩ := vw1 hv
      obtain ⟨p1, p2⟩ := plain_ok _ 60 z1
      exact ⟨v, _, rfl, h.dp s z1, p1, p2, z2, le24_ok z3, res_str s q⟩
    · cases e
  · cases e
end
end VS
namespace VS
open PySem PySem.Spec PyProof.Rows L2
structure PL (W : Wd) (Wx : WX) (F : FrI) (G : Hp) (σ : L2.St) {α : Type} (post : Out α → Prop) : Prop where
  st : post .st → False
  ex : ∀ x env', post (.ex x env') → ∀ G' H' cls dx, Rel W F G' env' σ H' → Same G G' → ExcOk W G' H' x cls dx → Wx cls dx σ H'
section
variable {W : Wd} {Wx : WX} {F : FrI} {G G' H : Hp} {σ : L2.St} {env : Env}
theorem PL.grow {α : Type} {post : Out α → Prop} (p : PL W Wx F G σ post) (s : Same G G') : PL W Wx F G' σ post :=
  ⟨p.st, fun x e h G1 H1 cls dx R s1 => p.ex x e h G1 H1 cls dx R (s.trans s1)⟩
theorem pl_E {Q : VK} : PL W Wx F G σ (EPost W Wx F G σ Q) := ⟨fun h => h, fun _ _ h => h⟩
theorem pl_A {Q : List V → Hp → Prop} : PL W Wx F G σ (APost W Wx F G σ Q) := ⟨fun h => h, fun _ _ h => h⟩
theorem pl_T {Q : Bool → Hp → Prop} : PL W Wx F G σ (TPost W Wx F G σ Q) := ⟨fun h => h, fun _ _ h => h⟩
end
section
variable {X : Cx} {c : Nat → Value} {Wx : WX}
theorem DE.run {e : Expr} {f : Env → Out (RV × Env)} (h : DE X c Wx e f) : ∃ t, PE X e t ∧ ∀ {α : Type} (F : FrI) (G : Hp) (env : Env) (σ : L2.St) (H : Hp) (Q : VK) (k : RV × Env → Out α) (post : Out α → Prop), PL (wd X c) Wx F G σ post → Rel (wd X c) F G env σ H → post ((f env).bind k) →
    (∀ r env' v G' H', Rel (wd X c) F G' env' σ H' → Same G G' → RVok (wd X c) F G' env' σ H' v r → post (k (r, env')) → Q v H') → t σ H Q := by
  obtain ⟨t, pe, g⟩ := h.ex
  refine ⟨t, pe, fun {α} F G env σ H Q k post pl R hp hk => g F G env σ H Q R ?_⟩
  cases e : f env with
  | ok p => rw [e] at hp; exact fun v G' H' R' s r => hk _ _ v G' H' R' s r hp
  | ex x env' => rw [e] at hp; exact fun G' H' cls dx R' s r => pl.ex x env' hp G' H' cls dx R' s r
  | st => rw [e] at hp; exact pl.st hp
theorem DE.runP {e : Expr} {f : Env → Out (RV × Env)} (h : DE X c Wx e f) : ∃ t, PE X e t ∧ ∀ {α : Type} (F : FrI) (G : Hp) (env : Env) (σ : L2.St) (H : Hp) (Q : VK) (k : RV × Env → Out α) (post : Out α → Prop), PL (wd X c) Wx F G σ post → Rel (wd X c) F G env σ H → post ((f env).bind k) →
    (∀ r env' v G' H', Rel (wd X c) F G' env' σ H' → Same G G' → PV (wd X c) G' σ v r → post (k (r, env')) → Q v H') → t σ H Q := by
  obtain ⟨t, pe, g⟩ := h.run
  refine ⟨t, pe, fun {α} F G env σ H Q k post pl R hp hk => g F G env σ H Q k post pl R hp fun r env' v G' H' R' s rv hp' => ?_⟩
  obtain ⟨G2, s2, R2, pv⟩ := rv.pend R'
  exact hk r env' v G2 H' R2 (s.trans s2) pv hp'
theorem DA.run {es : List Expr} {f : Env → Out (List RV × Env)} (h : DA X c Wx es f) : ∃ t, PA X es t ∧ ∀ {α : Type} (F : FrI) (G : Hp) (env : Env) (σ : L2.St) (H : Hp) (Q : List V → Hp → Prop) (k : List RV × Env → Out α) (post : Out α → Prop), PL (wd X c) Wx F G σ post → Rel (wd X c) F G env σ H → post ((f env).bind k) →
    (∀ rs env' vs G' H', Rel (wd X c) F G' env' σ H' → Same G G' → PVA (wd X c) G' σ vs rs → post (k (rs, env')) → Q vs H') → t σ H Q := by
  obtain ⟨t, pe, g⟩ := h.ex
  refine ⟨t, pe, fun {α} F G env σ H Q k post pl R hp hk => g F G env σ H Q R ?_⟩
  cases e : f env with
  | ok p => rw [e] at hp; exact fun v G' H' R' s r => hk _ _ v G' H' R' s r hp
  | ex x env' => rw [e] at hp; exact fun G' H' cls dx R' s r => pl.ex x env' hp G' H' cls dx R' s r
  | st => rw [e] at hp; exact pl.st hp
theorem DT.run {e : Expr} {f : Env → Out (Bool × Env)} (h : DT X c Wx e f) : ∃ t, PT X e t ∧ ∀ {α : Type} (F : FrI) (G : Hp) (env : Env) (σ : L2.St) (H : Hp) (Q : Bool → Hp → Prop) (k : Bool × Env → Out α) (post : Out α → Prop), PL (wd X c) Wx F G σ post → Rel (wd X c) F G env σ H → post ((f env).bind k) →
    (∀ b env' G' H', Rel (wd X c) F G' env' σ H' → Same G G' → post (k (b, env')) → Q b H') → t σ H Q := by
  obtain ⟨t, pe, g⟩ := h.ex
  refine ⟨t, pe, fun {α} F G env σ H Q k post pl R hp hk => g F G env σ H Q R ?_⟩
  cases e : f env with
  | ok p => rw [e] at hp; exact fun G' H' R' s => hk _ _ G' H' R' s hp
  | ex x env' => rw [e] at hp; exact fun G' H' cls dx R' s r => pl.ex x env' hp G' H' cls dx R' s r
  | st => rw [e] at hp; exact pl.st hp
def ret1 (o : Option (D × Bool)) (env : Env) : Out (RV × Env) :=
  match o with
  | some (d, fr) => .ok (mkRV d fr, env)
  | none => .st
theorem ret1_ok {W : Wd} {F : FrI} {G0 G H : Hp} {env : Env} {σ : L2.St} {Q : VK} {o : Option (D × Bool)} (R : Rel W F G env σ H) (s : Same G0 G) (h : EPost W Wx F G0 σ Q (ret1 o env)) : ∃ d fr, o = some (d, fr) ∧ ∀ v H', Res W G H d fr v H' → Q v H' := by
  cases o with
  | none => exact h.elim
  | some p =>
    obtain ⟨d, fr⟩ := p
    refine ⟨d, fr, rfl, fun v H' r => ?_⟩
    obtain ⟨G', s', R', ok⟩ := R.res r
    exact h v G' H' R' (s.trans s') ok
/-! ### names, constants -/
def dVar (i : Nat) : Env → Out (RV × Env) := fun env => match env[i]? with
  | some (some (d, .frz)) => .ok (.fz d, env)
  | some (some _) => .ok (.bo i, env)
  | _ => .st
theorem de_var {i : Nat} {x : Str} {pos : Pos} (hN : X.N[i]? = some x) (hv : Vis X.env.scope x) (h1 : (x == ("__debug__" : Str)) = false) (h2 : (x == ("__classdict__" : Str)) = false) : DE X c Wx (.Name x pos) (dVar i) := by
  refine ⟨_, pe_var hN hv h1 h2, fun F G env σ H Q R h => ?_⟩
  have h' : EPost (wd X c) Wx F G σ Q (match env[i]? with
    | some (some (d, .frz)) => .ok (.fz d, env)
    | some (some _) => .ok (.bo i, env)
    | _ => .st) := h
  cases q : env[i]? with
  | none => rw [q] at h'; exact h'.elim
  | some o =>
    cases o with
    | none => rw [q] at h'; exact h'.elim
    | some p =>
      obtain ⟨d, ow⟩ := p
      rw [q] at h'
      obtain ⟨v, hv, ok⟩ := R.cells i _ q
      refine ⟨v, hv, ?_⟩
      cases ow with
      | frz => exact h' v G H R (Same.refl G) ok
      | own => exact h' v G H R (Same.refl G) hv
      | io => exact h' v G H R (Same.refl G) hv
def dConst (d : D) : Env → Out (RV × Env) := fun env => .ok (.fz d, env)
theorem de_const {e : Expr} {v : V} {d : D} (h : PE X e (tC v)) (r : ∀ W G, Rp W G v d) : DE X c Wx e (dConst d) :=
  ⟨_, h, fun _ G _ _ H _ R h => h v G H R (Same.refl G) (r _ _)⟩
/-! ### operators -/
def fin1 (op : Op1) (r : RV) (env : Env) : Out (RV × Env) := match resolve env r with
  | some x => ret1 (op x) env
  | none => .st
def fin2 (op : Op2) (ra rb : RV) (env : Env) : Out (RV × Env) := match resolve env ra, resolve env rb with
  | some x, some y => ret1 (op x y) env
  | _, _ => .st
theorem fin1_ok {W : Wd} {F : FrI} {G0 G H : Hp} {env : Env} {σ : L2.St} {Q : VK} {op : Op1} {r : RV} {v : V} (R : Rel W F G env σ H) (s : Same G0 G) (pv : PV W G σ v r) (h : EPost W Wx F G0 σ Q (fin1 op r env)) :
    ∃ x d fr, Vw W G H v x ∧ op x = some (d, fr) ∧ ∀ v H', Res W G H d fr v H' → Q v H' := by
  unfold fin1 at h
  cases e : resolve env r with
  | none => rw [e] at h; exact h.elim
  | some x =>
    rw [e] at h
    obtain ⟨d, fr, e1, k⟩ := ret1_ok R s h
    exact ⟨x, d, fr, pv.vw R e, e1, k⟩
theorem fin2_ok {W : Wd} {F : FrI} {G0 G H : Hp} {env : Env} {σ : L2.St} {Q : VK} {op : Op2} {ra rb : RV} {v u : V} (R : Rel W F G env σ H) (s : Same G0 G) (pa : PV W G σ v ra) (pb : PV W G σ u rb) (h : EPost W Wx F G0 σ Q (fin2 op ra rb env)) :
    ∃ x y d fr, Vw W G H v x ∧ Vw W G H u y ∧ op x y = some (d, fr) ∧ ∀ v H', Res W G H d fr v H' → Q v H' := by
  unfold fin2 at h
  cases e : resolve env ra with
  | none => rw [e] at h; exact h.elim
  | some x =>
    cases e' : resolve env rb with
    | none => rw [e, e'] at h; exact h.elim
    | some y =>
      rw [e, e'] at h
      obtain ⟨d, fr, e1, k⟩ := ret1_ok R s h
      exact ⟨x, y, d, fr, pa.vw R e, pb.vw R e', e1, k⟩
def dBin (op : Op2) (f g : Env → Out (RV × Env)) : Env → Out (RV × Env) := fun env => (f env).bind fun p => (g p.2).bind fun q => fin2 op p.1 q.1 q.2
def dUn (op : Op1) (f : Env → Out (RV × Env)) : Env → Out (RV × Env) := fun env => (f env).bind fun p => fin1 op p.1 p.2
/-- the two operands, then a step by values -/
theorem two {e1 e2 : Expr} {f g : Env → Out (RV × Env)} {op : Op2} (ha : DE X c Wx e1 f) (hb : DE X c Wx e2 g) : ∃ ta tb, PE X e1 ta ∧ PE X e2 tb ∧ ∀ {r : R2}, OpSem (wd X c) r op → ∀ F G env σ H (Q : VK), Rel (wd X c) F G env σ H → EPost (wd X c) Wx F G σ Q (dBin op f g env) →
    ta σ H fun x H1 => tb σ H1 fun y H2 => r x y H2 Q := by
  obtain ⟨ta, pa, ka⟩ := ha.runP
  obtain ⟨tb, pb, kb⟩ := hb.runP
  refine ⟨ta, tb, pa, pb, fun {r} sem F G env σ H Q R h => ?_⟩
  refine ka F G env σ H _ _ _ pl_E R h fun ra env1 v G1 H1 R1 s1 p1 h1 => ?_
  refine kb F G1 env1 σ H1 _ _ _ (pl_E.grow s1) R1 h1 fun rb env2 u G2 H2 R2 s2 p2 h2 => ?_
  obtain ⟨x, y, d, fr, vx, vy, eo, k⟩ := fin2_ok R2 (s1.trans s2) (p1.mono (Le.of s2)) p2 h2
  exact sem G2 H2 v u x y d fr Q R2.same vx vy eo k
theorem de_bin {a b : Expr} {pos : Pos} {o : Operator} {op : Op2} {f g : Env → Out (RV × Env)} (ho : OpOk X c (binaryOp o) op) (ha : DE X c Wx a f) (hb : DE X c Wx b g) : DE X c Wx (.BinOp a o b pos) (dBin op f g) := by
  obtain ⟨r, hr, sem⟩ := ho
  obtain ⟨ta, tb, pa, pb, k⟩ := two (op := op) ha hb
  exact ⟨_, pe_op hr pa pb, fun F G env σ H Q R h => k sem F G env σ H Q R h⟩
theorem de_cmp {a b : Expr} {pos : Pos} {o : CmpOp} {op : Op2} {f g : Env → Out (RV × Env)} (ho : OpOk X c (compareOp o) op) (ha : DE X c Wx a f) (hb : DE X c Wx b g) (hm : behindInMarks o b = false) : DE X c Wx (.Compare a [o] [b] pos) (dBin op f g) := by
  obtain ⟨r, hr, sem⟩ := ho
  obtain ⟨ta, tb, pa, pb, k⟩ := two (op := op) ha hb
  exact ⟨_, pe_cmpR hr pa pb hm, fun F G env σ H Q R h => k sem F G env σ H Q R h⟩
theorem de_ix {a b : Expr} {pos : Pos} {op : Op2} {f g : Env → Out (RV × Env)} (ho : IxOk X c op) (ha : DE X c Wx a f) (hb : DE X c Wx b g) (hs : PlainIx b) : DE X c Wx (.Subscript a b pos) (dBin op f g) := by
  obtain ⟨r, hr, sem⟩ := ho
  obtain ⟨ta, tb, pa, pb, k⟩ := two (op := op) ha hb
  exact ⟨_, pe_ix hr pa pb hs, fun F G env σ H Q R h => k sem F G env σ H Q R h⟩
theorem de_un {a : Expr} {pos : Pos} {o : UnaryOp} {op : Op1} {f : Env → Out (RV × Env)} (ho : UnOk X c (unaryOp o) op) (ha : DE X c Wx a f) : DE X c Wx (.UnaryOp o a pos) (dUn op f) := by
  obtain ⟨r, hr, sem⟩ := ho
  obtain ⟨ta, pa, ka⟩ := ha.runP
  refine ⟨_, pe_un hr pa, fun F G env σ H Q R h => ?_⟩
  refine ka F G env σ H _ _ _ pl_E R h fun ra env1 v G1 H1 R1 s1 p1 h1 => ?_
  obtain ⟨x, d, fr, vx, eo, k⟩ := fin1_ok R1 s1 p1 h1
  exact sem G1 H1 v x d fr Q R1.same vx eo k
/-! ### truth -/
def boolOf (o : Option (D × Bool)) : Option Bool := match o with
  | some (.bl b, _) => some b
  | _ => none
def tru (r : RV) (env : Env) : Out (Bool × Env) := match resolve env r with
  | some x => match truth x with
    | some b => .ok (b, env)
    | none => .st
  | none => .st
theorem tru_ok' {W : Wd} {F : FrI} {G0 G H : Hp} {env : Env} {σ : L2.St} {α : Type} {post : Out α → Prop} {k : Bool × Env → Out α} {r : RV} {v : V} (R : Rel W F G env σ H) (pl : PL W Wx F G0 σ post) (pv : PV W G σ v r) (h : post ((tru r env).bind k)) :
    ∃ b, TruV W.K v H b ∧ post (k (b, env)) := by
  unfold tru at h
  cases e : resolve env r with
  | none => rw [e] at h; exact (pl.st h).elim
  | some x =>
    rw [e] at h
    dsimp only at h
    cases e2 : truth x with
    | none => rw [e2] at h; exact (pl.st h).elim
    | some b => rw [e2] at h; exact ⟨b, truth_ok R.same (pv.vw R e) e2, h⟩
def dTru (f : Env → Out (RV × Env)) : Env → Out (Bool × Env) := fun env => (f env).bind fun p => tru p.1 p.2
theorem bind_ok {α : Type} (o : Out α) : o.bind .ok = o := by cases o <;> rfl
theorem dt_truth {a : Expr} {f : Env → Out (RV × Env)} (ha : DE X c Wx a f) (he : ∀ whole : Sem Value, PySem.isTrue a X.env whole = (do let v ← whole; standAt a.pos; holding [v] (truthy v))) : DT X c Wx a (dTru f) := by
  obtain ⟨ta, pa, ka⟩ := ha.runP
  refine ⟨_, pt_truth pa he, fun F G env σ H Q R h => ?_⟩
  refine ka F G env σ H _ _ _ pl_T R h fun ra env1 v G1 H1 R1 s1 p1 h1 => ?_
  obtain ⟨b, t, h2⟩ := tru_ok' (k := .ok) R1 (pl_T (Wx := Wx) (F := F) (G := G) (Q := Q)) p1 (by rw [bind_ok]; exact h1)
  exact ⟨b, t, h2 G1 H1 R1 s1⟩
/-- a comparison as a test -/
def dTst (f : Env → Out (RV × Env)) : Env → Out (Bool × Env) := fun env => (f env).bind fun p => match p.1 with
  | .fz (.bl b) => .ok (b, p.2)
  | _ => .st
theorem dt_cmp {a b : Expr} {pos : Pos} {o : CmpOp} {op : Op2} {f g : Env → Out (RV × Env)} (ho : OpOk X c (compareOp o) op) (ha : DE X c Wx a f) (hb : DE X c Wx b g) (hm : behindInMarks o b = false) : DT X c Wx (.Compare a [o] [b] pos) (dTst (dBin op f g)) := by
  obtain ⟨r, hr, sem⟩ := ho
  obtain ⟨ta, pa, ka⟩ := ha.runP
  obtain ⟨tb, pb, kb⟩ := hb.runP
  refine ⟨_, pt_cmpR hr pa pb hm, fun F G env σ H Q R h => ?_⟩
  have assoc : dTst (dBin op f g) env = (f env).bind fun p => (g p.2).bind fun q => (fin2 op p.1 q.1 q.2).bind fun p => match p.1 with
    | .fz (.bl b) => .ok (b, p.2)
    | _ => .st := by
    unfold dTst dBin
    cases f env with
    | ok p =>
      show ((g p.2).bind _).bind _ = (g p.2).bind _
      cases g p.2 <;> rfl
    | _ => rfl
  rw [assoc] at h
  refine ka F G env σ H _ _ _ pl_T R h fun ra env1 v G1 H1 R1 s1 p1 h1 => ?_
  refine kb F G1 env1 σ H1 _ _ _ (pl_T.grow s1) R1 h1 fun rb env2 u G2 H2 R2 s2 p2 h2 => ?_
  unfold fin2 at h2
  cases e : resolve env2 ra with
  | none => rw [e] at h2; exact h2.elim
  | some x =>
    cases e' : resolve env2 rb with
    | none => rw [e, e'] at h2; exact h2.elim
    | some y =>
      rw [e, e'] at h2
      cases eo : op x y with
      | none => dsimp only at h2; rw [eo] at h2; exact h2.elim
      | some q =>
        obtain ⟨d, fr⟩ := q
        dsimp only at h2; rw [eo] at h2
        refine sem G2 H2 v u x y d fr _ R2.same ((p1.mono (Le.of s2)).vw R2 e) (p2.vw R2 e') eo fun w H' rs => ?_
        cases fr with
        | true => exact h2.elim
        | false =>
          cases d with
          | bl b =>
            obtain ⟨G', s', R', ok⟩ := R2.res rs
            cases ok
            exact ⟨b, rfl, h2 G' H' R' ((s1.trans s2).trans s')⟩
          | _ => exact h2.elim
def dNotT (f : Env → Out (Bool × Env)) : Env → Out (Bool × Env) := fun env => (f env).bind fun p => .ok (!p.1, p.2)
def dAndT (f g : Env → Out (Bool × Env)) : Env → Out (Bool × Env) := fun env => (f env).bind fun p => if p.1 = true then g p.2 else .ok (false, p.2)
def dOrT (f g : Env → Out (Bool × Env)) : Env → Out (Bool × Env) := fun env => (f env).bind fun p => if p.1 = true then .ok (true, p.2) else g p.2
theorem dt_not {a : Expr} {pos : Pos} {f : Env → Out (Bool × Env)} (ha : DT X c Wx a f) : DT X c Wx (.UnaryOp .Not a pos) (dNotT f) := by
  obtain ⟨ta, pa, ka⟩ := ha.run
  refine ⟨_, pt_not pa, fun F G env σ H Q R h => ?_⟩
  exact ka F G env σ H _ _ _ pl_T R h fun b env1 G1 H1 R1 s1 h1 => h1 G1 H1 R1 s1
/-- a test whatever its whole is -/
structure DW (X : Cx) (c : Nat → Value) (Wx : WX) (e : Expr) (f : Env → Out (Bool × Env)) : Prop where
  ex : ∃ t, PW X e t ∧ ∀ F G env σ H Q, Rel (wd X c) F G env σ H → TPost (wd X c) Wx F G σ Q (f env) → t σ H Q
theorem DW.dt {e : Expr} {f : Env → Out (Bool × Env)} (h : DW X c Wx e f) : DT X c Wx e f := by
  obtain ⟨t, p, k⟩ := h.ex
  exact ⟨t, p.pt, k⟩
theorem dw_and1 {a : Expr} {pos : Pos} {f : Env → Out (Bool × Env)} (ha : DT X c Wx a f) : DW X c Wx (.BoolOp .And [a] pos) f := by
  obtain ⟨t, p, k⟩ := ha.ex
  exact ⟨t, pw_and1 p, k⟩
theorem dw_or1 {a : Expr} {pos : Pos} {f : Env → Out (Bool × Env)} (ha : DT X c Wx a f) : DW X c Wx (.BoolOp .Or [a] pos) f := by
  obtain ⟨t, p, k⟩ := ha.ex
  exact ⟨t, pw_or1 p, k⟩
theorem dw_and {a b : Expr} {rest : List Expr} {pos : Pos} {f g : Env → Out (Bool × Env)} (ha : DT X c Wx a f) (hb : DW X c Wx (.BoolOp .And (b :: rest) pos) g) : DW X c Wx (.BoolOp .And (a :: b :: rest) pos) (dAndT f g) := by
  obtain ⟨ta, pa, ka⟩ := ha.run
  obtain ⟨tb, pb, kb⟩ := hb.ex
  refine ⟨_, pw_and pa pb, fun F G env σ H Q R h => ?_⟩
  refine ka F G env σ H _ _ _ pl_T R h fun b env1 G1 H1 R1 s1 h1 => ?_
  cases b with
  | true => exact kb F G1 env1 σ H1 Q R1 (TPost.grow s1 h1)
  | false => exact h1 G1 H1 R1 s1
theorem dw_or {a b : Expr} {rest : List Expr} {pos : Pos} {f g : Env → Out (Bool × Env)} (ha : DT X c Wx a f) (hb : DW X c Wx (.BoolOp .Or (b :: rest) pos) g) : DW X c Wx (.BoolOp .Or (a :: b :: rest) pos) (dOrT f g) := by
  obtain ⟨ta, pa, ka⟩ := ha.run
  obtain ⟨tb, pb, kb⟩ := hb.ex
  refine ⟨_, pw_or pa pb, fun F G env σ H Q R h => ?_⟩
  refine ka F G env σ H _ _ _ pl_T R h fun b env1 G1 H1 R1 s1 h1 => ?_
  cases b with
  | true => exact h1 G1 H1 R1 s1
  | false => exact kb F G1 env1 σ H1 Q R1 (TPost.grow s1 h1)
/-! ### and, or, not as values; a if c else b -/
def dAndV (f g : Env → Out (RV × Env)) : Env → Out (RV × Env) := fun env => (f env).bind fun p => (tru p.1 p.2).bind fun q => if q.1 = true then g q.2 else .ok (p.1, q.2)
def dOrV (f g : Env → Out (RV × Env)) : Env → Out (RV × Env) := fun env => (f env).bind fun p => (tru p.1 p.2).bind fun q => if q.1 = true then .ok (p.1, q.2) else g q.2
def dNotV (f : Env → Out (RV × Env)) : Env → Out (RV × Env) := fun env => (f env).bind fun p => (tru p.1 p.2).bind fun q => .ok (.fz (.bl (!q.1)), q.2)
theorem tru_env {r : RV} {env : Env} {b : Bool} {env' : Env} (h : tru r env = .ok (b, env')) : env' = env := by
  unfold tru at h
  cases e : resolve env r with
  | none => rw [e] at h; cases h
  | some x =>
    rw [e] at h
    dsimp only at h
    cases e2 : truth x with
    | none => rw [e2] at h; cases h
    | some b => rw [e2] at h; cases h; rfl
theorem tru_step {W : Wd} {F : FrI} {G0 G H : Hp} {env : Env} {σ : L2.St} {α : Type} {post : Out α → Prop} {k : Bool × Env → Out α} {r : RV} {v : V} (R : Rel W F G env σ H) (pl : PL W Wx F G0 σ post) (rv : RVok W F G env σ H v r) (h : post ((tru r env).bind k)) :
    ∃ b, TruV W.K v H b ∧ post (k (b, env)) := by
  unfold tru at h
  cases e : resolve env r with
  | none => rw [e] at h; exact (pl.st h).elim
  | some x =>
    rw [e] at h
    dsimp only at h
    cases e2 : truth x with
    | none => rw [e2] at h; exact (pl.st h).elim
    | some b => rw [e2] at h; exact ⟨b, truth_ok R.same (rv.vw R e) e2, h⟩
theorem de_one {a : Expr} {pos : Pos} {o : BoolOp} {f : Env → Out (RV × Env)} (ha : DE X c Wx a f) : DE X c Wx (.BoolOp o [a] pos) f := by
  obtain ⟨t, p, k⟩ := ha.ex
  exact ⟨t, pe_one p, k⟩
theorem de_and {a b : Expr} {rest : List Expr} {pos : Pos} {f g : Env → Out (RV × Env)} (ha : DE X c Wx a f) (hb : DE X c Wx (.BoolOp .And (b :: rest) pos) g) : DE X c Wx (.BoolOp .And (a :: b :: rest) pos) (dAndV f g) := by
  obtain ⟨ta, pa, ka⟩ := ha.run
  obtain ⟨tb, pb, kb⟩ := hb.ex
  refine ⟨_, pe_andT pa pb, fun F G env σ H Q R h => ?_⟩
  refine ka F G env σ H _ _ _ pl_E R h fun ra env1 v G1 H1 R1 s1 p1 h1 => ?_
  obtain ⟨b, tb', h2⟩ := tru_step R1 (pl_E (Wx := Wx) (F := F) (G := G) (Q := Q)) p1 h1
  refine ⟨b, tb', ?_⟩
  cases b with
  | true => exact kb F G1 env1 σ H1 Q R1 (EPost.grow s1 h2)
  | false => exact h2 v G1 H1 R1 s1 p1
theorem de_or {a b : Expr} {rest : List Expr} {pos : Pos} {f g : Env → Out (RV × Env)} (ha : DE X c Wx a f) (hb : DE X c Wx (.BoolOp .Or (b :: rest) pos) g) : DE X c Wx (.BoolOp .Or (a :: b :: rest) pos) (dOrV f g) := by
  obtain ⟨ta, pa, ka⟩ := ha.run
  obtain ⟨tb, pb, kb⟩ := hb.ex
  refine ⟨_, pe_orT pa pb, fun F G env σ H Q R h => ?_⟩
  refine ka F G env σ H _ _ _ pl_E R h fun ra env1 v G1 H1 R1 s1 p1 h1 => ?_
  obtain ⟨b, tb', h2⟩ := tru_step R1 (pl_E (Wx := Wx) (F := F) (G := G) (Q := Q)) p1 h1
  refine ⟨b, tb', ?_⟩
  cases b with
  | true => exact h2 v G1 H1 R1 s1 p1
  | false => exact kb F G1 env1 σ H1 Q R1 (EPost.grow s1 h2)
theorem de_not {a : Expr} {pos : Pos} {f : Env → Out (RV × Env)} (ha : DE X c Wx a f) : DE X c Wx (.UnaryOp .Not a pos) (dNotV f) := by
  obtain ⟨ta, pa, ka⟩ := ha.run
  refine ⟨_, pe_notT pa, fun F G env σ H Q R h => ?_⟩
  refine ka F G env σ H _ _ _ pl_E R h fun ra env1 v G1 H1 R1 s1 p1 h1 => ?_
  obtain ⟨b, tb', h2⟩ := tru_step R1 (pl_E (Wx := Wx) (F := F) (G := G) (Q := Q)) p1 h1
  exact ⟨b, tb', h2 _ G1 H1 R1 s1 (Rp.bl _)⟩
def dIte (t : Env → Out (Bool × Env)) (f g : Env → Out (RV × Env)) : Env → Out (RV × Env) := fun env => (t env).bind fun p => if p.1 = true then f p.2 else g p.2
theorem de_ite {q a b : Expr} {pos : Pos} {t : Env → Out (Bool × Env)} {f g : Env → Out (RV × Env)} (hq : DT X c Wx q t) (ha : DE X c Wx a f) (hb : DE X c Wx b g) : DE X c Wx (.IfExp q a b pos) (dIte t f g) := by
  obtain ⟨tq, pq, kq⟩ := hq.run
  obtain ⟨ta, pa, ka⟩ := ha.ex
  obtain ⟨tb, pb, kb⟩ := hb.ex
  refine ⟨_, pe_ifExp pq pa pb, fun F G env σ H Q R h => ?_⟩
  refine kq F G env σ H _ _ _ pl_E R h fun b env1 G1 H1 R1 s1 h1 => ?_
  cases b with
  | true => exact ka F G1 env1 σ H1 Q R1 (EPost.grow s1 h1)
  | false => exact kb F G1 env1 σ H1 Q R1 (EPost.grow s1 h1)
end
end VS
namespace VS
open PySem PySem.Spec PyProof.Rows L2
section
variable {X : Cx} {c : Nat → Value} {Wx : WX}
/-! ### a op b op' c -/
def dChain (op op' : Op2) (f g h : Env → Out (RV × Env)) : Env → Out (RV × Env) := fun env => (f env).bind fun p => (g p.2).bind fun q => (fin2 op p.1 q.1 q.2).bind fun r => match r.1 with
  | .fz (.bl true) => (h r.2).bind fun w => fin2 op' q.1 w.1 w.2
  | .fz (.bl false) => .ok (.fz (.bl false), r.2)
  | _ => .st
theorem de_chain {e1 e2 e3 : Expr} {pos : Pos} {o o' : CmpOp} {op op' : Op2} {f g h : Env → Out (RV × Env)} (ho : OpOk X c (compareOp o) op) (ho' : OpOk X c (compareOp o') op') (ha : DE X c Wx e1 f) (hb : DE X c Wx e2 g) (hc : DE X c Wx e3 h)
    (hm : lastMarks [o, o'] [e2, e3] = false) : DE X c Wx (.Compare e1 [o, o'] [e2, e3] pos) (dChain op op' f g h) := by
  obtain ⟨r, hr, sem⟩ := ho
  obtain ⟨r', hr', sem'⟩ := ho'
  obtain ⟨ta, pa, ka⟩ := ha.runP
  obtain ⟨tb, pb, kb⟩ := hb.runP
  obtain ⟨tc, pc, kc⟩ := hc.runP
  refine ⟨_, pe_chain hr hr' pa pb pc hm, fun F G env σ H Q R hq => ?_⟩
  refine ka F G env σ H _ _ _ pl_E R hq fun ra env1 v G1 H1 R1 s1 p1 h1 => ?_
  refine kb F G1 env1 σ H1 _ _ _ (pl_E.grow s1) R1 h1 fun rb env2 u G2 H2 R2 s2 p2 h2 => ?_
  unfold fin2 at h2
  cases e : resolve env2 ra with
  | none => rw [e] at h2; exact h2.elim
  | some x =>
    cases e' : resolve env2 rb with
    | none => rw [e, e'] at h2; exact h2.elim
    | some y =>
      rw [e, e'] at h2
      cases eo : op x y with
      | none => dsimp only at h2; rw [eo] at h2; exact h2.elim
      | some q =>
        obtain ⟨d, fr⟩ := q
        dsimp only at h2; rw [eo] at h2
        refine sem G2 H2 v u x y d fr _ R2.same ((p1.mono (Le.of s2)).vw R2 e) (p2.vw R2 e') eo fun w H' rs => ?_
        cases fr with
        | true => exact h2.elim
        | false =>
          cases d with
          | bl b =>
            obtain ⟨G', s', R', ok⟩ := R2.res rs
            cases ok
            refine ⟨b, rfl, ?_⟩
            cases b with
            | false => exact h2 _ G' H' R' ((s1.trans s2).trans s') (Rp.bl _)
            | true =>
              refine kc F G' env2 σ H' _ _ _ (pl_E.grow ((s1.trans s2).trans s')) R' h2 fun rc env3 z G3 H3 R3 s3 p3 h3 => ?_
              obtain ⟨x', y', d', fr', vx, vy, eo', k⟩ := fin2_ok R3 (((s1.trans s2).trans s').trans s3) (p2.mono (Le.of (s'.trans s3))) p3 h3
              exact sem' G3 H3 u z x' y' d' fr' Q R3.same vx vy eo' k
          | _ => exact h2.elim
/-! ### argument lists, displays -/
def dNil : Env → Out (List RV × Env) := fun env => .ok ([], env)
def dCons (f : Env → Out (RV × Env)) (g : Env → Out (List RV × Env)) : Env → Out (List RV × Env) := fun env => (f env).bind fun p => (g p.2).bind fun q => .ok (p.1 :: q.1, q.2)
theorem da_nil : DA X c Wx [] dNil := ⟨_, pa_nil, fun F G env σ H Q R h => h [] G H R (Same.refl G) .nil⟩
theorem da_cons {e : Expr} {es : List Expr} {f : Env → Out (RV × Env)} {g : Env → Out (List RV × Env)} (ha : DE X c Wx e f) (hb : DA X c Wx es g) (hs : starEach (e :: es) X.env = (false, eval e X.env) :: starEach es X.env) : DA X c Wx (e :: es) (dCons f g) := by
  obtain ⟨ta, pa, ka⟩ := ha.runP
  obtain ⟨tb, pb, kb⟩ := hb.run
  refine ⟨_, pa_cons pa pb hs, fun F G env σ H Q R h => ?_⟩
  refine ka F G env σ H _ _ _ pl_A R h fun ra env1 v G1 H1 R1 s1 p1 h1 => ?_
  refine kb F G1 env1 σ H1 _ _ _ (pl_A.grow s1) R1 h1 fun rs env2 vs G2 H2 R2 s2 p2 h2 => ?_
  exact h2 (v :: vs) G2 H2 R2 (s1.trans s2) (.cons (p1.mono (Le.of s2)) p2)
/-- *xs -/
def seqOf : D → Option (List D)
  | .lst xs => some xs
  | .tup xs => some xs
  | .tpl xs => some xs
  | _ => none
def dStar (f : Env → Out (RV × Env)) (g : Env → Out (List RV × Env)) : Env → Out (List RV × Env) := fun env => (f env).bind fun p => match (resolve p.2 p.1).bind seqOf with
  | some xs => (g p.2).bind fun q => .ok (xs.map RV.fz ++ q.1, q.2)
  | none => .st
theorem pva_fz {W : Wd} {G : Hp} {σ : L2.St} : ∀ {vs : List V} {ds : List D}, RpA W G vs ds → PVA W G σ vs (ds.map RV.fz)
  | _, _, .nil => .nil
  | _, _, .cons a r => .cons a (pva_fz r)
theorem PVA.append {W : Wd} {G : Hp} {σ : L2.St} : ∀ {vs ws : List V} {rs qs : List RV}, PVA W G σ vs rs → PVA W G σ ws qs → PVA W G σ (vs ++ ws) (rs ++ qs)
  | _, _, _, _, .nil, s => s
  | _, _, _, _, .cons h r, s => .cons h (PVA.append r s)
theorem Vw.seq {W : Wd} {G H : Hp} (s : Same G H) {v : V} {d : D} {ds : List D} (h : Vw W G H v d) (e : seqOf d = some ds) : ∃ a vs, v = .ref a ∧ (SqT W.K H a vs ∨ SqL W.K H a vs) ∧ RpA W G vs ds := by
  cases d with
  | lst xs => cases e; obtain ⟨a, vs, rfl, h1, r⟩ := h.lst s; exact ⟨a, vs, rfl, .inr (SqL.of h1), r⟩
  | tup xs => cases e; obtain ⟨a, vs, rfl, h1, _, r⟩ := h.tup s; exact ⟨a, vs, rfl, .inl (SqT.of h1), r⟩
  | tpl xs => cases e; obtain ⟨a, o, vs, rfl, h1, _, _, r⟩ := h.tpl s; exact ⟨a, vs, rfl, .inl (SqT.frz h1), r⟩
  | _ => cases e
theorem da_star {e : Expr} {es : List Expr} {p : Pos} {f : Env → Out (RV × Env)} {g : Env → Out (List RV × Env)} (ha : DE X c Wx e f) (hb : DA X c Wx es g) (hs : starEach (.Starred e p :: es) X.env = (true, eval e X.env) :: starEach es X.env) : DA X c Wx (.Starred e p :: es) (dStar f g) := by
  obtain ⟨ta, pa, ka⟩ := ha.runP
  obtain ⟨tb, pb, kb⟩ := hb.run
  refine ⟨_, StX.pa_star pa pb hs, fun F G env σ H Q R h => ?_⟩
  refine ka F G env σ H _ _ _ pl_A R h fun ra env1 v G1 H1 R1 s1 p1 h1 => ?_
  dsimp only at h1
  cases e1 : resolve env1 ra with
  | none => rw [e1] at h1; exact h1.elim
  | some x =>
    rw [e1] at h1
    cases e2 : seqOf x with
    | none => rw [show (some x).bind seqOf = none from e2] at h1; exact h1.elim
    | some xs =>
      rw [show (some x).bind seqOf = some xs from e2] at h1
      obtain ⟨a, ws, rfl, hx, hr⟩ := (p1.vw R1 e1).seq R1.same e2
      refine ⟨a, ws, rfl, hx, ?_⟩
      refine kb F G1 env1 σ H1 _ _ _ (pl_A.grow s1) R1 h1 fun rs env2 vs G2 H2 R2 s2 p2 h2 => ?_
      exact h2 (ws ++ vs) G2 H2 R2 (s1.trans s2) ((pva_fz (hr.mono (Le.of s2))).append p2)
def resolveA (env : Env) : List RV → Option (List D)
  | [] => some []
  | r :: rs => match resolve env r, resolveA env rs with
    | some d, some ds => some (d :: ds)
    | _, _ => none
def freezeA (env : Env) : List RV → Option (List D × Env)
  | [] => some ([], env)
  | r :: rs => match freezeR env r with
    | some (d, env') => match freezeA env' rs with
      | some (ds, env'') => some (d :: ds, env'')
      | none => none
    | none => none
theorem PVA.vw {W : Wd} {F : FrI} {G H : Hp} {env : Env} {σ : L2.St} (R : Rel W F G env σ H) : ∀ {vs : List V} {rs : List RV} {ds : List D}, PVA W G σ vs rs → resolveA env rs = some ds → VwA W G H vs ds
  | _, _, _, .nil, e => by cases e; exact .nil
  | _, _, _, .cons (r := r) (rs := rs) p q, e => by
    unfold resolveA at e
    cases e1 : resolve env r with
    | none => rw [e1] at e; cases e
    | some d =>
      cases e2 : resolveA env rs with
      | none => rw [e1, e2] at e; cases e
      | some ds' => rw [e1, e2] at e; cases e; exact .cons (p.vw R e1) (q.vw R e2)
theorem PVA.freeze {W : Wd} {F : FrI} {σ : L2.St} {H : Hp} : ∀ {rs : List RV} {G : Hp} {env env' : Env} {vs : List V} {ds : List D}, Rel W F G env σ H → PVA W G σ vs rs → freezeA env rs = some (ds, env') → ∃ G', Same G G' ∧ Rel W F G' env' σ H ∧ RpA W G' vs ds
  | [], G, _, _, _, _, R, .nil, e => by cases e; exact ⟨G, Same.refl G, R, .nil⟩
  | r :: rs, G, env, env', _, _, R, .cons p q, e => by
    unfold freezeA at e
    cases e1 : freezeR env r with
    | none => rw [e1] at e; cases e
    | some w =>
      obtain ⟨d, env1⟩ := w
      rw [e1] at e
      dsimp only at e
      cases e2 : freezeA env1 rs with
      | none => rw [e2] at e; cases e
      | some w =>
        obtain ⟨ds, env2⟩ := w
        rw [e2] at e
        cases e
        obtain ⟨G1, s1, R1, p1⟩ := p.freeze R e1
        obtain ⟨G2, s2, R2, p2⟩ := PVA.freeze R1 (q.mono (Le.of s1)) e2
        exact ⟨G2, s1.trans s2, R2, .cons (p1.mono (Le.of s2)) p2⟩
/-- a display: its items are frozen -/
def mkDisp (mk : List D → D) (fr : Bool) (rs : List RV) (env : Env) : Out (RV × Env) := match freezeA env rs with
  | some (ds, env') => if le24 ds.length = true then .ok (mkRV (mk ds) fr, env') else .st
  | none => .st
def dTup (g : Env → Out (List RV × Env)) : Env → Out (RV × Env) := fun env => (g env).bind fun p => mkDisp .tup false p.1 p.2
def dLst (g : Env → Out (List RV × Env)) : Env → Out (RV × Env) := fun env => (g env).bind fun p => mkDisp .lst true p.1 p.2
theorem mkDisp_ok {W : Wd} {F : FrI} {G0 G H : Hp} {env : Env} {σ : L2.St} {Q : VK} {mk : List D → D} {fr : Bool} {rs : List RV} {vs : List V} (R : Rel W F G env σ H) (s : Same G0 G) (p : PVA W G σ vs rs) (h : EPost W Wx F G0 σ Q (mkDisp mk fr rs env)) :
    ∃ ds env' G', le24 ds.length = true ∧ Same G0 G' ∧ Rel W F G' env' σ H ∧ RpA W G' vs ds ∧ ∀ v H', Res W G' H (mk ds) fr v H' → Q v H' := by
  unfold mkDisp at h
  cases e : freezeA env rs with
  | none => rw [e] at h; exact h.elim
  | some w =>
    obtain ⟨ds, env'⟩ := w
    rw [e] at h
    dsimp only at h
    by_cases z : le24 ds.length = true
    · rw [if_pos z] at h
      obtain ⟨G1, s1, R1, r⟩ := p.freeze R e
      refine ⟨ds, env', G1, z, s.trans s1, R1, r, fun v H' q => ?_⟩
      obtain ⟨G2, s2, R2, ok⟩ := R1.res q
      exact h v G2 H' R2 ((s.trans s1).trans s2) ok
    · rw [if_neg z] at h; exact h.elim
theorem de_tup {es : List Expr} {pos : Pos} {x1 : Nat} {g : Env → Out (List RV × Env)} (h : DA X c Wx es g) : DE X c Wx (.Tuple es x1 pos) (dTup g) := by
  obtain ⟨t, pa, ka⟩ := h.run
  refine ⟨_, pe_tup pa, fun F G env σ H Q R hq => ?_⟩
  refine ka F G env σ H _ _ _ pl_E R hq fun rs env1 vs G1 H1 R1 s1 p1 h1 => ?_
  obtain ⟨ds, env', G', z, s', R', r, k⟩ := mkDisp_ok R1 s1 p1 h1
  exact ⟨by rw [r.length]; exact le24_ok z, fun p hp => k _ _ (Res.tup R'.same hp r)⟩
theorem de_lst {es : List Expr} {pos : Pos} {g : Env → Out (List RV × Env)} (h : DA X c Wx es g) : DE X c Wx (.List es pos) (dLst g) := by
  obtain ⟨t, pa, ka⟩ := h.run
  refine ⟨_, pe_lst pa, fun F G env σ H Q R hq => ?_⟩
  refine ka F G env σ H _ _ _ pl_E R hq fun rs env1 vs G1 H1 R1 s1 p1 h1 => ?_
  obtain ⟨ds, env', G', z, s', R', r, k⟩ := mkDisp_ok R1 s1 p1 h1
  exact ⟨by rw [r.length]; exact le24_ok z, fun p hp => k _ _ (Res.fresh R'.same hp (.lst r))⟩
def dNewK : Env → Out (RV × Env) := fun env => .ok (.fr (.dct []), env)
def dNewT : Env → Out (RV × Env) := fun env => .ok (.fr (.dctT []), env)
theorem de_newK {pos : Pos} : DE X c Wx (.Dict [] [] pos) dNewK := by
  refine ⟨_, pe_dnewK, fun F G env σ H Q R hq => ?_⟩
  intro p hp
  obtain ⟨G2, s2, R2, ok⟩ := R.res (Res.fresh R.same hp (.dct .nil))
  exact hq _ G2 _ R2 s2 ok
theorem de_newT {pos : Pos} : DE X c Wx (.Dict [] [] pos) dNewT := by
  refine ⟨_, pe_dnewT, fun F G env σ H Q R hq => ?_⟩
  intro p hp
  obtain ⟨G2, s2, R2, ok⟩ := R.res (Res.fresh R.same hp (.dctT .nil))
  exact hq _ G2 _ R2 s2 ok
/-! ### built-in functions called by name -/
def finN (op : OpN) (rs : List RV) (env : Env) : Out (RV × Env) := match resolveA env rs with
  | some ds => ret1 (op ds) env
  | none => .st
theorem finN_ok {W : Wd} {F : FrI} {G0 G H : Hp} {env : Env} {σ : L2.St} {Q : VK} {op : OpN} {rs : List RV} {vs : List V} (R : Rel W F G env σ H) (s : Same G0 G) (p : PVA W G σ vs rs) (h : EPost W Wx F G0 σ Q (finN op rs env)) :
    ∃ ds d fr, VwA W G H vs ds ∧ op ds = some (d, fr) ∧ ∀ v H', Res W G H d fr v H' → Q v H' := by
  unfold finN at h
  cases e : resolveA env rs with
  | none => rw [e] at h; exact h.elim
  | some ds =>
    rw [e] at h
    obtain ⟨d, fr, e1, k⟩ := ret1_ok R s h
    exact ⟨ds, d, fr, p.vw R e, e1, k⟩
def dCallN (op : OpN) (g : Env → Out (List RV × Env)) : Env → Out (RV × Env) := fun env => (g env).bind fun p => finN op p.1 p.2
theorem de_callB {x : Str} {p pos : Pos} {e : Expr} {es : List Expr} {id : String} {op : OpN} {g : Env → Out (List RV × Env)} (ho : CallOk X c (.builtin id) op) (hg : Gl X x) (hm : X.mg x = none) (hv : bootBuiltins x = some (.builtin id)) (ha : DA X c Wx (e :: es) g)
    (hn : x ≠ "__name__") (hd : (x == ("__debug__" : Str)) = false) (he : starEach (e :: es) X.env = (false, eval e X.env) :: starEach es X.env) (hp : (backTo pos (starEach es X.env)).any (·.1) = false) : DE X c Wx (.Call (.Name x p) (e :: es) [] pos) (dCallN op g) := by
  obtain ⟨r, hr, sem⟩ := ho
  obtain ⟨t, pa, ka⟩ := ha.run
  refine ⟨_, pe_callB hr hg hm hv pa hn hd he hp, fun F G env σ H Q R h => ?_⟩
  refine ka F G env σ H _ _ _ pl_E R h fun rs env1 vs G1 H1 R1 s1 p1 h1 => ?_
  obtain ⟨ds, d, fr, vw, eo, k⟩ := finN_ok R1 s1 p1 h1
  exact sem G1 H1 vs ds d fr Q R1.same vw eo k
theorem de_callTy {x : Str} {p pos : Pos} {e : Expr} {es : List Expr} {T : String} {op : OpN} {g : Env → Out (List RV × Env)} (ho : CallOk X c (.type T) op) (hg : Gl X x) (hm : X.mg x = none) (hv : bootBuiltins x = some (.type T)) (ha : DA X c Wx (e :: es) g)
    (hn : x ≠ "__name__") (hd : (x == ("__debug__" : Str)) = false) (he : starEach (e :: es) X.env = (false, eval e X.env) :: starEach es X.env) (hp : (backTo pos (starEach es X.env)).any (·.1) = false) : DE X c Wx (.Call (.Name x p) (e :: es) [] pos) (dCallN op g) := by
  obtain ⟨r, hr, sem⟩ := ho
  obtain ⟨t, pa, ka⟩ := ha.run
  refine ⟨_, pe_callTy hr hg hm hv pa hn hd he hp, fun F G env σ H Q R h => ?_⟩
  refine ka F G env σ H _ _ _ pl_E R h fun rs env1 vs G1 H1 R1 s1 p1 h1 => ?_
  obtain ⟨ds, d, fr, vw, eo, k⟩ := finN_ok R1 s1 p1 h1
  exact sem G1 H1 vs ds d fr Q R1.same vw eo k
theorem de_callTy0 {x : Str} {p pos : Pos} {T : String} {op : OpN} (ho : CallOk X c (.type T) op) (hg : Gl X x) (hm : X.mg x = none) (hv : bootBuiltins x = some (.type T))
    (hn : x ≠ "__name__") (hd : (x == ("__debug__" : Str)) = false) : DE X c Wx (.Call (.Name x p) [] [] pos) (dCallN op dNil) := by
  obtain ⟨r, hr, sem⟩ := ho
  refine ⟨_, pe_callTy0 hr hg hm hv hn hd, fun F G env σ H Q R h => ?_⟩
  obtain ⟨ds, d, fr, vw, eo, k⟩ := finN_ok R (Same.refl G) .nil h
  exact sem G H [] ds d fr Q R.same vw eo k
/-! ### isinstance(x, T), T a built-in class -/
def tyName : D → String
  | .non => "NoneType"
  | .bl _ => "bool"
  | .int _ => "int"
  | .str _ => "str"
  | .lst _ => "list"
  | .tup _ => "tuple"
  | .tpl _ => "tuple"
  | .dct _ => "dict"
  | .dctT _ => "dict"
  | .set _ => "set"
  | .scr _ => "list"
def isiD (T : String) (d : D) : Option Bool := match d with
  | .set _ => none
  | .scr _ => none
  | .dctT _ => none
  | d => some (tyName d == T || (tyName d == "bool" && T == "int"))
def finIsi (T : String) (r : RV) (env : Env) : Out (RV × Env) := match (resolve env r).bind (isiD T) with
  | some b => .ok (.fz (.bl b), env)
  | none => .st
def dIsi (T : String) (f : Env → Out (RV × Env)) : Env → Out (RV × Env) := fun env => (f env).bind fun p => finIsi T p.1 p.2
/-- the answers of the library for the classes that are asked -/
def KitOk (K : PySem.W.Frag) (T : String) : Prop := ∀ t ∈ ["NoneType", "bool", "int", "str", "list", "tuple", "dict"], PySem.W.kitOne K (.type t) (.type T) = some (t == T || (t == "bool" && T == "int"))
theorem Vw.ty {W : Wd} {G H : Hp} (s : Same G H) {v : V} {d : D} {T : String} {b : Bool} (h : Vw W G H v d) (e : isiD T d = some b) : TyX W.K H v (.type (tyName d)) ∧ tyName d ∈ ["NoneType", "bool", "int", "str", "list", "tuple", "dict"] ∧ b = (tyName d == T || (tyName d == "bool" && T == "int")) := by
  cases d with
  | non => cases e; rw [h.non]; exact ⟨.base .non, by decide, rfl⟩
  | bl x => cases e; rw [h.bl]; exact ⟨.base (.bl _), by simp [tyName], rfl⟩
  | int x => cases e; rw [h.int]; exact ⟨.base (.int _), by simp [tyName], rfl⟩
  | str x => cases e; rw [h.str]; exact ⟨.base (.str _), by simp [tyName], rfl⟩
  | lst x => cases e; obtain ⟨a, vs, rfl, h1, _⟩ := h.lst s; exact ⟨.base (.lst h1), by simp [tyName], rfl⟩
  | tup x => cases e; obtain ⟨a, vs, rfl, h1, _⟩ := h.tup s; exact ⟨.base (.tup h1), by simp [tyName], rfl⟩
  | tpl x => cases e; obtain ⟨a, o, vs, rfl, h1, _⟩ := h.tpl s; exact ⟨.fTuple h1, by simp [tyName], rfl⟩
  | dct x =>
    cases e
    obtain ⟨a, vs, rfl, h1, _⟩ := h.dct s
    rcases h1 with h1 | ⟨o, h1⟩
    · exact ⟨.base (.dK h1), by simp [tyName], rfl⟩
    · exact ⟨.fDict h1, by simp [tyName], rfl⟩
  | dctT x => cases e
  | set x => cases e
  | scr x => cases e
theorem de_isi {x T : Str} {p p2 pos : Pos} {e : Expr} {Ts : String} {f : Env → Out (RV × Env)} (ha : DE X c Wx e f) (hg : Gl X x) (hm : X.mg x = none) (hv : bootBuiltins x = some (.builtin "isinstance")) (hgT : Gl X T) (hmT : X.mg T = none) (hvT : bootBuiltins T = some (.type Ts)) (kit : KitOk X.K Ts)
    (hn : x ≠ "__name__") (hd : (x == ("__debug__" : Str)) = false) (hnT : T ≠ "__name__") (hdT : (T == ("__debug__" : Str)) = false) (he : starEach [e, .Name T p2] X.env = (false, eval e X.env) :: starEach [.Name T p2] X.env) : DE X c Wx (.Call (.Name x p) [e, .Name T p2] [] pos) (dIsi Ts f) := by
  obtain ⟨t, pa, ka⟩ := ha.runP
  have pT : PE X (.Name T p2) (tC (.ty Ts)) := pe_bltn hgT hmT hvT rfl hnT hdT
  refine ⟨_, pe_callB call_isi hg hm hv (pa_cons pa (pa_cons pT pa_nil rfl) he) hn hd he rfl, fun F G env σ H Q R h => ?_⟩
  refine ka F G env σ H _ _ _ pl_E R h fun ra env1 v G1 H1 R1 s1 p1 h1 => ?_
  unfold finIsi at h1
  cases e1 : resolve env1 ra with
  | none => rw [e1] at h1; exact h1.elim
  | some d =>
    rw [e1] at h1
    cases e2 : isiD Ts d with
    | none => rw [show (some d).bind (isiD Ts) = none from e2] at h1; exact h1.elim
    | some b =>
      rw [show (some d).bind (isiD Ts) = some b from e2] at h1
      obtain ⟨ty, mem, eb⟩ := (p1.vw R1 e1).ty R1.same e2
      exact ⟨v, .ty Ts, _, _, b, rfl, .ty Ts, ty, by rw [eb]; exact kit _ mem, h1 _ G1 H1 R1 s1 (Rp.bl b)⟩
/-! ### slices -/
def optI (r : RV) (env : Env) : Option Int := match resolve env r with
  | some (.int i) => some i
  | _ => none
abbrev Part := Option (Env → Out (RV × Env))
/-- a part of a slice -/
def dPart (q : Part) : Env → Out (Option Int × Env) := fun env => match q with
  | none => .ok (none, env)
  | some f => (f env).bind fun p => match optI p.1 p.2 with
    | some i => .ok (some i, p.2)
    | none => .st
structure DO (X : Cx) (c : Nat → Value) (Wx : WX) (e : Option Expr) (q : Part) : Prop where
  ex : ∃ t, PO X e t ∧ ∀ {α : Type} (F : FrI) (G : Hp) (env : Env) (σ : L2.St) (H : Hp) (Q : Option Int → Hp → Prop) (k : Option Int × Env → Out α) (post : Out α → Prop), PL (wd X c) Wx F G σ post → Rel (wd X c) F G env σ H → post ((dPart q env).bind k) →
    (∀ i env' G' H', Rel (wd X c) F G' env' σ H' → Same G G' → post (k (i, env')) → Q i H') → t σ H Q
theorem do_none : DO X c Wx none none := ⟨_, po_none, fun F G env σ H Q k post pl R h hk => hk none env G H R (Same.refl G) h⟩
theorem bind_assoc {α β γ : Type} (o : Out α) (f : α → Out β) (g : β → Out γ) : (o.bind f).bind g = o.bind fun x => (f x).bind g := by cases o <;> rfl
theorem do_some {e : Expr} {f : Env → Out (RV × Env)} (ha : DE X c Wx e f) : DO X c Wx (some e) (some f) := by
  obtain ⟨t, pa, ka⟩ := ha.runP
  refine ⟨_, po_some pa, fun {α} F G env σ H Q k post pl R h hk => ?_⟩
  have h' : post (((f env).bind fun p => match optI p.1 p.2 with
    | some i => Out.ok (some i, p.2)
    | none => .st).bind k) := h
  rw [bind_assoc] at h'
  refine ka F G env σ H _ _ _ pl R h' fun ra env1 v G1 H1 R1 s1 p1 h1 => ?_
  dsimp only at h1
  cases e1 : optI ra env1 with
  | none => rw [e1] at h1; exact (pl.st h1).elim
  | some i =>
    rw [e1] at h1
    refine ⟨i, ?_, hk _ _ G1 H1 R1 s1 h1⟩
    unfold optI at e1
    cases e2 : resolve env1 ra with
    | none => rw [e2] at e1; cases e1
    | some d =>
      rw [e2] at e1
      cases d with
      | int j => cases e1; exact (p1.vw R1 e2).int
      | _ => cases e1
def dSl (f : Env → Out (RV × Env)) (lo hi : Part) : Env → Out (RV × Env) := fun env => (f env).bind fun p => (dPart lo p.2).bind fun q => (dPart hi q.2).bind fun w => match resolve w.2 p.1 with
  | some x => ret1 (dSlice x q.1 w.1) w.2
  | none => .st
theorem de_slice {e : Expr} {lo hi : Option Expr} {pos p2 : Pos} {f : Env → Out (RV × Env)} {ql qh : Part} (ha : DE X c Wx e f) (hl : DO X c Wx lo ql) (hh : DO X c Wx hi qh) : DE X c Wx (.Subscript e (.Slice lo hi none p2) pos) (dSl f ql qh) := by
  obtain ⟨r, hr, sem⟩ := dSlice_ok (X := X) (c := c)
  obtain ⟨t, pa, ka⟩ := ha.runP
  obtain ⟨tl, pl', kl⟩ := hl.ex
  obtain ⟨th, ph, kh⟩ := hh.ex
  refine ⟨_, pe_slice hr pa pl' ph, fun F G env σ H Q R h => ?_⟩
  refine ka F G env σ H _ _ _ pl_E R h fun ra env1 v G1 H1 R1 s1 p1 h1 => ?_
  refine kl F G1 env1 σ H1 _ _ _ (pl_E.grow s1) R1 h1 fun l env2 G2 H2 R2 s2 h2 => ?_
  refine kh F G2 env2 σ H2 _ _ _ (pl_E.grow (s1.trans s2)) R2 h2 fun u env3 G3 H3 R3 s3 h3 => ?_
  dsimp only at h3
  cases e1 : resolve env3 ra with
  | none => rw [e1] at h3; exact h3.elim
  | some x =>
    rw [e1] at h3
    obtain ⟨d, fr, eo, k⟩ := ret1_ok R3 ((s1.trans s2).trans s3) h3
    exact sem G3 H3 v l u x d fr Q R3.same ((p1.mono (Le.of (s2.trans s3))).vw R3 e1) eo k
/-- xs[::-1] -/
def dRev (f : Env → Out (RV × Env)) : Env → Out (RV × Env) := dUn (fun x => match x with
  | .lst xs => some (.lst xs.reverse, true)
  | _ => none) f
theorem de_rev {e : Expr} {k : Nat} {p1 p2 p3 pos : Pos} {f : Env → Out (RV × Env)} (ha : DE X c Wx e f) : DE X c Wx (.Subscript e (.Slice none none (some (.UnaryOp .USub (.Constant (.int 1) k p1) p2)) p3) pos) (dRev f) := by
  obtain ⟨t, pa, ka⟩ := ha.runP
  refine ⟨_, pe_revL pa, fun F G env σ H Q R h => ?_⟩
  refine ka F G env σ H _ _ _ pl_E R h fun ra env1 v G1 H1 R1 s1 p1 h1 => ?_
  obtain ⟨x, d, fr, vx, eo, k⟩ := fin1_ok R1 s1 p1 h1
  cases x with
  | lst xs =>
    cases eo
    obtain ⟨a, vs, rfl, h2, r⟩ := vx.lst R1.same
    exact ⟨a, vs, rfl, SqL.of h2, fun p hp => k _ _ (Res.fresh R1.same hp (.lst r.reverse))⟩
  | _ => cases eo
end
end VS
namespace VS
open PySem PySem.Spec PyProof.Rows L2
section
variable {X : Cx} {c : Nat → Value} {Wx : WX}
/-! ### d.get(k), d.get(k, x) -/
def isDct : D → Bool
  | .dct _ => true
  | .dctT _ => true
  | _ => false
def isLst : D → Bool
  | .lst _ => true
  | _ => false
def chk (p : D → Bool) (r : RV) (env : Env) : Out Env := match resolve env r with
  | some x => if p x = true then .ok env else .st
  | none => .st
theorem chk_ok {W : Wd} {F : FrI} {G0 G H : Hp} {env : Env} {σ : L2.St} {α : Type} {post : Out α → Prop} {k : Env → Out α} {p : D → Bool} {r : RV} {v : V} (R : Rel W F G env σ H) (pl : PL W Wx F G0 σ post) (pv : PV W G σ v r) (h : post ((chk p r env).bind k)) :
    ∃ d, Vw W G H v d ∧ p d = true ∧ post (k env) := by
  unfold chk at h
  cases e : resolve env r with
  | none => rw [e] at h; exact (pl.st h).elim
  | some x =>
    rw [e] at h
    dsimp only at h
    by_cases z : p x = true
    · rw [if_pos z] at h; exact ⟨x, pv.vw R e, z, h⟩
    · rw [if_neg z] at h; exact (pl.st h).elim
theorem Vw.isD {W : Wd} {G H : Hp} (s : Same G H) {v : V} {d : D} (h : Vw W G H v d) (e : isDct d = true) : ∃ a, v = .ref a ∧ IsD H a := by
  cases d with
  | dct x => obtain ⟨a, vs, rfl, h1, _⟩ := h.dct s; exact ⟨a, rfl, .inl ⟨_, h1⟩⟩
  | dctT x => obtain ⟨a, vs, rfl, h1, _⟩ := h.dctT s; exact ⟨a, rfl, .inr ⟨_, h1⟩⟩
  | _ => cases e
theorem Vw.isL {W : Wd} {G H : Hp} (s : Same G H) {v : V} {d : D} (h : Vw W G H v d) (e : isLst d = true) : ∃ a xs, v = .ref a ∧ H a = some (.lst xs) := by
  cases d with
  | lst x => obtain ⟨a, vs, rfl, h1, _⟩ := h.lst s; exact ⟨a, vs, rfl, h1⟩
  | _ => cases e
def getOp (z : D) : Op2 := fun x y => (dGet x y).map fun o => (o.getD z, false)
def dGet1 (f g : Env → Out (RV × Env)) : Env → Out (RV × Env) := fun env => (f env).bind fun p => (chk isDct p.1 p.2).bind fun e => (g e).bind fun q => fin2 (getOp .non) p.1 q.1 q.2
theorem de_get1 {o e : Expr} {apos cpos : Pos} {f g : Env → Out (RV × Env)} (hu : X.A.units + 1 < cLine) (ha : DE X c Wx o f) (hb : DE X c Wx e g) (m : M1 X o "get" apos e cpos) : DE X c Wx (.Call (.Attribute o "get" apos) [e] [] cpos) (dGet1 f g) := by
  obtain ⟨ta, pa, ka⟩ := ha.runP
  obtain ⟨tb, pb, kb⟩ := hb.runP
  refine ⟨_, pe_dget1 hu pa pb m, fun F G env σ H Q R h => ?_⟩
  refine ka F G env σ H _ _ _ pl_E R h fun ra env1 v G1 H1 R1 s1 p1 h1 => ?_
  obtain ⟨d, vd, pd, h1'⟩ := chk_ok R1 pl_E p1 h1
  obtain ⟨a, rfl, isd⟩ := vd.isD R1.same pd
  refine ⟨a, rfl, isd, ?_⟩
  refine kb F G1 env1 σ H1 _ _ _ (pl_E.grow s1) R1 h1' fun rb env2 u G2 H2 R2 s2 p2 h2 => ?_
  obtain ⟨x, y, d, fr, vx, vy, eo, k⟩ := fin2_ok R2 (s1.trans s2) (p1.mono (Le.of s2)) p2 h2
  obtain ⟨r, e1, e2⟩ := Option.map_eq_some_iff.mp (show (dGet x y).map _ = some (d, fr) from eo)
  cases e2
  obtain ⟨a', o, ea, g', ro⟩ := dGet_ok R2.same vx vy e1
  cases ea
  refine ⟨o, g', ?_⟩
  cases o with
  | none => cases r with
    | none => exact k _ _ (Res.same R2.same .non)
    | some _ => exact ro.elim
  | some w => cases r with
    | none => exact ro.elim
    | some dw => exact k _ _ (Res.same R2.same ro)
/-- the default is data without a place -/
def scalD : D → Bool
  | .non => true
  | .bl _ => true
  | .int _ => true
  | .str _ => true
  | _ => false
theorem Vw.scal {W : Wd} {G G' H : Hp} {v : V} {d : D} (h : Vw W G H v d) (e : scalD d = true) : Rp W G' v d := by
  cases d with
  | non => rw [h.non]; exact .non
  | bl x => rw [h.bl]; exact .bl _
  | int x => rw [h.int]; exact .int _
  | str x => rw [h.str]; exact .str _
  | _ => cases e
def fin3 (op : D → D → D → Option (D × Bool)) (ra rb rc : RV) (env : Env) : Out (RV × Env) := match resolve env ra, resolve env rb, resolve env rc with
  | some x, some y, some z => ret1 (op x y z) env
  | _, _, _ => .st
def getOp3 (x y z : D) : Option (D × Bool) := if scalD z = true then getOp z x y else none
def dGet2 (f g h : Env → Out (RV × Env)) : Env → Out (RV × Env) := fun env => (f env).bind fun p => (chk isDct p.1 p.2).bind fun e => (g e).bind fun q => (h q.2).bind fun w => fin3 getOp3 p.1 q.1 w.1 w.2
theorem de_get2 {o e e3 : Expr} {apos cpos : Pos} {f g h : Env → Out (RV × Env)} (hu : X.A.units + 1 < cLine) (ha : DE X c Wx o f) (hb : DE X c Wx e g) (hc : DE X c Wx e3 h) (m : M2 X o "get" apos e e3 cpos) : DE X c Wx (.Call (.Attribute o "get" apos) [e, e3] [] cpos) (dGet2 f g h) := by
  obtain ⟨ta, pa, ka⟩ := ha.runP
  obtain ⟨tb, pb, kb⟩ := hb.runP
  obtain ⟨tc, pc, kc⟩ := hc.runP
  refine ⟨_, pe_dget2 hu pa pb pc m, fun F G env σ H Q R h => ?_⟩
  refine ka F G env σ H _ _ _ pl_E R h fun ra env1 v G1 H1 R1 s1 p1 h1 => ?_
  obtain ⟨d, vd, pd, h1'⟩ := chk_ok R1 pl_E p1 h1
  obtain ⟨a, rfl, isd⟩ := vd.isD R1.same pd
  refine ⟨a, rfl, isd, ?_⟩
  refine kb F G1 env1 σ H1 _ _ _ (pl_E.grow s1) R1 h1' fun rb env2 u G2 H2 R2 s2 p2 h2 => ?_
  refine kc F G2 env2 σ H2 _ _ _ (pl_E.grow (s1.trans s2)) R2 h2 fun rc env3 w G3 H3 R3 s3 p3 h3 => ?_
  unfold fin3 at h3
  cases e1 : resolve env3 ra with
  | none => rw [e1] at h3; exact h3.elim
  | some x =>
    cases e2 : resolve env3 rb with
    | none => rw [e1, e2] at h3; exact h3.elim
    | some y =>
      cases e3 : resolve env3 rc with
      | none => rw [e1, e2, e3] at h3; exact h3.elim
      | some z =>
        rw [e1, e2, e3] at h3
        obtain ⟨d, fr, eo, k⟩ := ret1_ok R3 ((s1.trans s2).trans s3) h3
        unfold getOp3 at eo
        by_cases hz : scalD z = true
        · rw [if_pos hz] at eo
          obtain ⟨r, e4, e5⟩ := Option.map_eq_some_iff.mp (show (dGet x y).map _ = some (d, fr) from eo)
          cases e5
          obtain ⟨a', o, ea, g', ro⟩ := dGet_ok R3.same ((p1.mono (Le.of (s2.trans s3))).vw R3 e1) ((p2.mono (Le.of s3)).vw R3 e2) e4
          cases ea
          refine ⟨o, g', ?_⟩
          cases o with
          | none => cases r with
            | none => exact k _ _ (Res.same R3.same ((p3.vw R3 e3).scal hz))
            | some _ => exact ro.elim
          | some w => cases r with
            | none => exact ro.elim
            | some dw => exact k _ _ (Res.same R3.same ro)
        · rw [if_neg hz] at eo; cases eo
/-! ### methods that read: xs.index(x), xs.count(x) -/
abbrev OpM := D → List D → Option (D × Bool)
def MtOk (X : Cx) (c : Nat → Value) (id : String) (op : OpM) : Prop := ∃ r, MtR X id r ∧ ∀ (G H : Hp) (x : V) (vs : List V) (dx : D) (ds : List D) (d : D) (fr : Bool) (Q : VK), Same G H → Vw (wd X c) G H x dx → VwA (wd X c) G H vs ds → op dx ds = some (d, fr) → (∀ v H', Res (wd X c) G H d fr v H' → Q v H') → r x vs H Q
def finM (op : OpM) (r : RV) (rs : List RV) (env : Env) : Out (RV × Env) := match resolve env r, resolveA env rs with
  | some x, some ds => ret1 (op x ds) env
  | _, _ => .st
def dMeth (op : OpM) (f : Env → Out (RV × Env)) (g : Env → Out (List RV × Env)) : Env → Out (RV × Env) := fun env => (f env).bind fun p => (chk isLst p.1 p.2).bind fun e => (g e).bind fun q => finM op p.1 q.1 q.2
theorem de_methL {o e : Expr} {es : List Expr} {name : Str} {apos cpos : Pos} {id : String} {op : OpM} {f : Env → Out (RV × Env)} {g : Env → Out (List RV × Env)} (ho : MtOk X c id op) (slot : Slot "list" name id) (hty : typeOf (.builtin id) = pure (.type "method_descriptor"))
    (ha : DE X c Wx o f) (hb : DA X c Wx (e :: es) g) (h1 : attributeBase o name X.env (eval o X.env) = eval o X.env)
    (h2 : ((backTo cpos (starEach (e :: es) X.env)).all (fun x => !x.1) && (backToKw cpos (keywordEach [] X.env)).all (fun x => x.1.isSome) && decide ((e :: es).length + ([] : List Keyword).length + (if ([] : List Keyword).isEmpty then 0 else 1) < 30)) = true)
    (h3 : (apos.endLine == cpos.line) = true) (h4 : starEach (e :: es) X.env = (false, eval e X.env) :: starEach es X.env) (h5 : (backTo cpos (starEach es X.env)).any (·.1) = false) : DE X c Wx (.Call (.Attribute o name apos) (e :: es) [] cpos) (dMeth op f g) := by
  obtain ⟨r, hr, sem⟩ := ho
  obtain ⟨ta, pa, ka⟩ := ha.runP
  obtain ⟨tb, pb, kb⟩ := hb.run
  refine ⟨_, pe_bm PySem.F.plainAttrs_list slot hty hr pa pb h1 h2 h3 h4 h5, fun F G env σ H Q R h => ?_⟩
  refine ka F G env σ H _ _ _ pl_E R h fun ra env1 v G1 H1 R1 s1 p1 h1 => ?_
  obtain ⟨d, vd, pd, h1'⟩ := chk_ok R1 pl_E p1 h1
  obtain ⟨a, xs, rfl, hl⟩ := vd.isL R1.same pd
  refine ⟨.inl ⟨rfl, xs, SqL.of hl⟩, ?_⟩
  refine kb F G1 env1 σ H1 _ _ _ (pl_E.grow s1) R1 h1' fun rb env2 us G2 H2 R2 s2 p2 h2 => ?_
  unfold finM at h2
  cases e1 : resolve env2 ra with
  | none => rw [e1] at h2; exact h2.elim
  | some x =>
    cases e2 : resolveA env2 rb with
    | none => rw [e1, e2] at h2; exact h2.elim
    | some ds =>
      rw [e1, e2] at h2
      obtain ⟨d, fr, eo, k⟩ := ret1_ok R2 (s1.trans s2) h2
      exact sem G2 H2 _ us x ds d fr Q R2.same ((p1.mono (Le.of s2)).vw R2 e1) (p2.vw R2 e2) eo k
/-- the first place of an equal item -/
def idxGo (d : PyData) : List PyData → Nat → Option Nat
  | [], _ => none
  | z :: zs, n => if PyData.eqv z d = true then some n else idxGo d zs (n + 1)
theorem idxGo_ok (d : PyData) : ∀ (zs : List PyData) (n j : Nat), idxGo d zs n = some j → n ≤ j ∧ ∃ z, zs[j - n]? = some z ∧ PyData.eqv z d = true ∧ ∀ (m : Nat) (z' : PyData), m < j - n → zs[m]? = some z' → PyData.eqv z' d = false
  | [], _, _, h => by cases h
  | z :: zs, n, j, h => by
    unfold idxGo at h
    by_cases e : PyData.eqv z d = true
    · rw [if_pos e] at h; cases h
      exact ⟨Nat.le_refl _, z, by simp, e, fun m z' hm => by omega⟩
    · rw [if_neg e] at h
      obtain ⟨h1, z', h2, h3, h4⟩ := idxGo_ok d zs (n + 1) j h
      have ej : j - n = (j - (n + 1)) + 1 := by omega
      refine ⟨by omega, z', by rw [ej]; simpa using h2, h3, fun m w hm hw => ?_⟩
      cases m with
      | zero => cases hw; simpa using e
      | succ m => exact h4 m w (by omega) (by simpa using hw)
def mIndex : OpM
  | .lst ys, [x] => if (plain x 60 && plain (.lst ys) 60) = true then (idxGo (toPy x) (toPyA ys) 0).map fun j => (.int (j : Nat), false) else none
  | _, _ => none
theorem mIndex_ok (hu : X.A.units + 65 < cLine) : MtOk X c "list.index" mIndex := by
  refine ⟨_, mt_indexD hu, fun G H x vs dx ds d fr Q s hx hv e q => ?_⟩
  unfold mIndex at e
  split at e
  · rename_i ys y
    split at e
    · rename_i z
      obtain ⟨j, e1, e2⟩ := Option.map_eq_some_iff.mp e
      cases e2
      obtain ⟨z1, z2⟩ := Bool.and_eq_true_iff.mp z
      obtain ⟨v, rfl, h⟩ := vw1 hv
      have w1 := hx.dp s z2
      have w2 := plain_shaped z2
      rw [toPy_lst] at w1 w2
      obtain ⟨a, xs, rfl, _⟩ := hx.lst s
      obtain ⟨_, z', g1, g2, g3⟩ := idxGo_ok _ _ _ _ e1
      exact ⟨a, v, _, _, j, z', rfl, rfl, w1, h.dp s z1, w2, plain_shaped z1, by simpa using g1, g2, fun m w hm hw => g3 m w (by omega) hw, res_int s q⟩
    · cases e
  · cases e
/-! ### methods that write the object of a slot -/
abbrev OpW := D → List D → Option (D × D)
def WrSem (W : Wd) (r : V → List V → Hp → VK → Prop) (op : OpW) : Prop := ∀ (G H : Hp) (a : Addr) (o : HO) (vs : List V) (dx : D) (ds : List D) (d' res : D) (Q : VK), Same G H → H a = some o → Sh W G a o dx → RpA W G vs ds → op dx ds = some (d', res) →
  (∀ v o', Sh W G a o' d' → Rp W G v res → Q v (upd H a o')) → r (.ref a) vs H Q
def ownAt (i : Nat) (env : Env) : Option (D × Ow) := match env[i]? with
  | some (some (_, .frz)) => none
  | some (some p) => some p
  | _ => none
theorem ownAt_eq {i : Nat} {env : Env} {d : D} {ow : Ow} (h : ownAt i env = some (d, ow)) : env[i]? = some (some (d, ow)) ∧ ow ≠ .frz := by
  have h' : (match env[i]? with
    | some (some (_, .frz)) => none
    | some (some p) => some p
    | _ => none) = some (d, ow) := h
  cases q : env[i]? with
  | none => rw [q] at h'; cases h'
  | some x =>
    cases x with
    | none => rw [q] at h'; cases h'
    | some x =>
      obtain ⟨d', ow'⟩ := x
      rw [q] at h'
      cases ow' with
      | frz => cases h'
      | own => cases h'; exact ⟨rfl, by decide⟩
      | io => cases h'; exact ⟨rfl, by decide⟩
def finW (op : OpW) (i : Nat) (rs : List RV) (env : Env) : Out (RV × Env) := match freezeA env rs with
  | some (ds, env1) => match ownAt i env1 with
    | some (d, ow) => match op d ds with
      | some (d', res) => .ok (.fz res, env1.set i (some (d', ow)))
      | none => .st
    | none => .st
  | none => .st
theorem finW_ok {W : Wd} {F : FrI} {G0 G H : Hp} {env : Env} {σ : L2.St} {Q : VK} {op : OpW} {i : Nat} {rs : List RV} {vs : List V} (R : Rel W F G env σ H) (s : Same G0 G) (p : PVA W G σ vs rs) (h : EPost W Wx F G0 σ Q (finW op i rs env)) :
    ∃ a o G' d ds d' res, σ[i]? = some (some (V.ref a)) ∧ H a = some o ∧ Same G' H ∧ Sh W G' a o d ∧ RpA W G' vs ds ∧ op d ds = some (d', res) ∧ ∀ v o', Sh W G' a o' d' → Rp W G' v res → Q v (upd H a o') := by
  unfold finW at h
  cases e1 : freezeA env rs with
  | none => rw [e1] at h; exact h.elim
  | some w =>
    obtain ⟨ds, env1⟩ := w
    rw [e1] at h
    dsimp only at h
    cases e2 : ownAt i env1 with
    | none => rw [e2] at h; exact h.elim
    | some w =>
      obtain ⟨d, ow⟩ := w
      rw [e2] at h
      dsimp only at h
      cases e3 : op d ds with
      | none => rw [e3] at h; exact h.elim
      | some w =>
        obtain ⟨d', res⟩ := w
        rw [e3] at h
        obtain ⟨G1, s1, R1, r⟩ := p.freeze R e1
        obtain ⟨he, hw⟩ := ownAt_eq e2
        obtain ⟨a, ha, ⟨hg, o, ho, sh⟩, _⟩ := R1.own he hw
        exact ⟨a, o, G1, d, ds, d', res, ha, ho, R1.same, sh, r, e3, fun v o' sh' rv => h v G1 _ (R1.write he hw ha sh') (s.trans s1) rv⟩
def chkOwn (p : D → Bool) (i : Nat) (env : Env) : Out Env := match ownAt i env with
  | some (d, _) => if p d = true then .ok env else .st
  | none => .st
def dWrite (p : D → Bool) (op : OpW) (i : Nat) (g : Env → Out (List RV × Env)) : Env → Out (RV × Env) := fun env => (chkOwn p i env).bind fun e => (g e).bind fun q => finW op i q.1 q.2
theorem chkOwn_ok {W : Wd} {F : FrI} {G0 G H : Hp} {env : Env} {σ : L2.St} {α : Type} {post : Out α → Prop} {k : Env → Out α} {p : D → Bool} {i : Nat} (R : Rel W F G env σ H) (pl : PL W Wx F G0 σ post) (h : post ((chkOwn p i env).bind k)) :
    ∃ a o d, σ[i]? = some (some (V.ref a)) ∧ H a = some o ∧ Sh W G a o d ∧ p d = true ∧ post (k env) := by
  unfold chkOwn at h
  cases e : ownAt i env with
  | none => rw [e] at h; exact (pl.st h).elim
  | some w =>
    obtain ⟨d, ow⟩ := w
    rw [e] at h
    dsimp only at h
    by_cases z : p d = true
    · rw [if_pos z] at h
      obtain ⟨he, hw⟩ := ownAt_eq e
      obtain ⟨a, ha, ⟨hg, o, ho, sh⟩, _⟩ := R.own he hw
      exact ⟨a, o, d, ha, ho, sh, z, h⟩
    · rw [if_neg z] at h; exact (pl.st h).elim
theorem de_writeL {x : Str} {p0 : Pos} {e : Expr} {es : List Expr} {name : Str} {apos cpos : Pos} {id : String} {op : OpW} {i : Nat} {r : V → List V → Hp → VK → Prop} {g : Env → Out (List RV × Env)} (hr : MtR X id r) (sem : WrSem (wd X c) r op) (slot : Slot "list" name id) (hty : typeOf (.builtin id) = pure (.type "method_descriptor"))
    (ha : PE X (.Name x p0) (tVar i)) (hb : DA X c Wx (e :: es) g) (h1 : attributeBase (.Name x p0) name X.env (eval (.Name x p0) X.env) = eval (.Name x p0) X.env)
    (h2 : ((backTo cpos (starEach (e :: es) X.env)).all (fun x => !x.1) && (backToKw cpos (keywordEach [] X.env)).all (fun x => x.1.isSome) && decide ((e :: es).length + ([] : List Keyword).length + (if ([] : List Keyword).isEmpty then 0 else 1) < 30)) = true)
    (h3 : (apos.endLine == cpos.line) = true) (h4 : starEach (e :: es) X.env = (false, eval e X.env) :: starEach es X.env) (h5 : (backTo cpos (starEach es X.env)).any (·.1) = false) : DE X c Wx (.Call (.Attribute (.Name x p0) name apos) (e :: es) [] cpos) (dWrite isLst op i g) := by
  obtain ⟨tb, pb, kb⟩ := hb.run
  refine ⟨_, pe_bm PySem.F.plainAttrs_list slot hty hr ha pb h1 h2 h3 h4 h5, fun F G env σ H Q R h => ?_⟩
  obtain ⟨a, o, d, ha', ho, sh, pd, h1'⟩ := chkOwn_ok R pl_E h
  refine ⟨_, ha', ?_⟩
  cases sh with
  | lst rr =>
    refine ⟨.inl ⟨rfl, _, SqL.of ho⟩, ?_⟩
    refine kb F G env σ H _ _ _ pl_E R h1' fun rb env2 us G2 H2 R2 s2 p2 h2 => ?_
    obtain ⟨a2, o2, G3, d2, ds, d', res, ha2, ho2, sm, sh2, rr2, eo, k⟩ := finW_ok R2 s2 p2 h2
    rw [ha'] at ha2; cases ha2
    exact sem G3 H2 a o2 us d2 ds d' res Q sm ho2 sh2 rr2 eo k
  | _ => cases pd
theorem de_writeL0 {x : Str} {p0 : Pos} {name : Str} {apos cpos : Pos} {id : String} {op : OpW} {i : Nat} {r : V → List V → Hp → VK → Prop} (hr : MtR X id r) (sem : WrSem (wd X c) r op) (slot : Slot "list" name id) (hty : typeOf (.builtin id) = pure (.type "method_descriptor"))
    (ha : PE X (.Name x p0) (tVar i)) (h1 : attributeBase (.Name x p0) name X.env (eval (.Name x p0) X.env) = eval (.Name x p0) X.env)
    (h3 : (apos.endLine == cpos.line) = true) : DE X c Wx (.Call (.Attribute (.Name x p0) name apos) [] [] cpos) (dWrite isLst op i dNil) := by
  refine ⟨_, pe_bm0 PySem.F.plainAttrs_list slot hty hr ha h1 h3, fun F G env σ H Q R h => ?_⟩
  obtain ⟨a, o, d, ha', ho, sh, pd, h1'⟩ := chkOwn_ok R pl_E h
  refine ⟨_, ha', ?_⟩
  cases sh with
  | lst rr =>
    refine ⟨.inl ⟨rfl, _, SqL.of ho⟩, ?_⟩
    obtain ⟨a2, o2, G3, d2, ds, d', res, ha2, ho2, sm, sh2, rr2, eo, k⟩ := finW_ok R (Same.refl G) .nil h1'
    rw [ha'] at ha2; cases ha2
    exact sem G3 H a o2 [] d2 ds d' res Q sm ho2 sh2 rr2 eo k
  | _ => cases pd
def wAppend : OpW
  | .lst xs, [x] => if lt24 xs.length = true then some (.lst (xs ++ [x]), .non) else none
  | _, _ => none
theorem RpA.one {W : Wd} {G : Hp} {vs : List V} {d : D} (h : RpA W G vs [d]) : ∃ v, vs = [v] ∧ Rp W G v d := by
  cases h with | cons a r => cases r; exact ⟨_, rfl, a⟩
theorem wAppend_ok {W : Wd} : WrSem W rAppend wAppend := by
  intro G H a o vs dx ds d' res Q s ho sh r e k
  unfold wAppend at e
  split at e
  · split at e
    · rename_i z
      cases e
      cases sh with
      | lst rr =>
        obtain ⟨v, rfl, hv⟩ := r.one
        exact ⟨a, _, v, rfl, rfl, ho, by rw [rr.length]; exact lt24_ok z, k _ _ (.lst (rr.snoc hv)) .non⟩
    · cases e
  · cases e
def wPopAt : OpW
  | .lst xs, [.int i] => if (decide (-9223372036854775808 ≤ i) && decide (i < 9223372036854775808)) = true then (ixN xs.length i).bind fun k => xs[k]?.map fun y => (.lst (xs.eraseIdx k), y) else none
  | _, _ => none
theorem wPopAt_ok {W : Wd} : WrSem W rPopAt wPopAt := by
  intro G H a o vs dx ds d' res Q s ho sh r e k
  unfold wPopAt at e
  split at e
  · split at e
    · rename_i z
      obtain ⟨z1, z2⟩ := Bool.and_eq_true_iff.mp z
      have z1 := of_decide_eq_true z1
      have z2 := of_decide_eq_true z2
      cases sh with
      | lst rr =>
        obtain ⟨v, rfl, hv⟩ := r.one
        cases hv
        obtain ⟨j, e1, e2⟩ := Option.bind_eq_some_iff.mp e
        obtain ⟨y, e3, e4⟩ := Option.map_eq_some_iff.mp e2
        cases e4
        obtain ⟨w, ew, rw'⟩ := rr.get e3
        rw [← rr.length] at e1
        exact ⟨a, _, _, j, w, rfl, rfl, ho, by omega, by omega, (ixN_seq e1).1, ew, k _ _ (.lst (rr.eraseIdx j)) rw'⟩
    · cases e
  · cases e
def wPop : OpW
  | .lst xs, [] => xs[xs.length - 1]?.map fun y => (.lst xs.dropLast, y)
  | _, _ => none
theorem RpA.dropLast {W : Wd} {G : Hp} {vs : List V} {ds : List D} (h : RpA W G vs ds) : RpA W G vs.dropLast ds.dropLast := by
  rw [List.dropLast_eq_take, List.dropLast_eq_take, h.length]; exact h.take _
theorem wPop_ok {W : Wd} : WrSem W rPop wPop := by
  intro G H a o vs dx ds d' res Q s ho sh r e k
  unfold wPop at e
  split at e
  · cases sh with
    | lst rr =>
      cases r
      obtain ⟨y, e3, e4⟩ := Option.map_eq_some_iff.mp e
      cases e4
      obtain ⟨w, ew, rw'⟩ := rr.get e3
      exact ⟨a, _, w, rfl, rfl, ho, by rw [rr.length]; exact ew, k _ _ (.lst rr.dropLast) rw'⟩
  · cases e
def wReverse : OpW
  | .lst xs, [] => some (.lst xs.reverse, .non)
  | _, _ => none
theorem wReverse_ok {W : Wd} : WrSem W rReverse wReverse := by
  intro G H a o vs dx ds d' res Q s ho sh r e k
  unfold wReverse at e
  split at e
  · cases sh with
    | lst rr => cases r; cases e; exact ⟨a, _, rfl, rfl, ho, k _ _ (.lst rr.reverse) .non⟩
  · cases e
def wClear : OpW
  | .lst _, [] => some (.lst [], .non)
  | _, _ => none
theorem wClear_ok {W : Wd} : WrSem W rClear wClear := by
  intro G H a o vs dx ds d' res Q s ho sh r e k
  unfold wClear at e
  split at e
  · cases sh with
    | lst rr => cases r; cases e; exact ⟨a, _, rfl, rfl, ho, k _ _ (.lst .nil) .non⟩
  · cases e
/-- s.add(k) -/
def isSet : D → Bool
  | .set _ => true
  | _ => false
def wAdd : OpW
  | .set ks, [x] => (dKey x).bind fun k => if Nat.blt (ks.length + 1) 4096 = true then some (.set (if hasK ks k = true then ks else ks ++ [k]), .non) else none
  | _, _ => none
theorem hasK_snoc (ks : List Key) (k j : Key) : hasK (ks ++ [k]) j = (hasK ks j || decide (j = k)) := by
  unfold hasK
  rw [List.any_append]
  congr 1
  by_cases e : k = j
  · subst e; simp
  · have e' : ¬ j = k := fun z => e z.symm
    simp [e, e']
theorem wAdd_ok {W : Wd} : WrSem W (rSAddK W.P W.w) wAdd := by
  intro G H a o vs dx ds d' res Q s ho sh r e k
  unfold wAdd at e
  split at e
  · rename_i ks x
    cases sh with
    | @set S n _ sr =>
      obtain ⟨v, rfl, hv⟩ := r.one
      obtain ⟨key, e1, e2⟩ := Option.bind_eq_some_iff.mp e
      by_cases z : Nat.blt (ks.length + 1) 4096 = true
      · rw [if_pos z] at e2
        cases e2
        have z' : ks.length + 1 + 1 ≤ 4096 := Nat.le_of_ble_eq_true z
        refine ⟨a, key, S, n, rfl, by rw [dKey_rp e1 hv], ho, by rw [sr.2]; show ks.length + 1 < 4096; omega, k _ _ (.set ⟨fun j => ?_, ?_⟩) .non⟩
        · show (S j || decide (j = key)) = _
          rw [sr.1 j]
          by_cases h : hasK ks key = true
          · rw [if_pos h]
            by_cases ej : j = key
            · subst ej; rw [h]; rfl
            · rw [decide_eq_false ej, Bool.or_false]
          · rw [if_neg h, hasK_snoc]
        · rw [sr.1 key, sr.2]
          by_cases h : hasK ks key = true
          · rw [if_pos h, if_pos h]
          · rw [if_neg h, if_neg h, List.length_append]; rfl
      · rw [if_neg z] at e2; cases e2
  · cases e
theorem de_add {x : Str} {p0 : Pos} {e : Expr} {es : List Expr} {apos cpos : Pos} {i : Nat} {g : Env → Out (List RV × Env)} (ha : PE X (.Name x p0) (tVar i)) (hb : DA X c Wx (e :: es) g) (h1 : attributeBase (.Name x p0) "add" X.env (eval (.Name x p0) X.env) = eval (.Name x p0) X.env)
    (h2 : ((backTo cpos (starEach (e :: es) X.env)).all (fun x => !x.1) && (backToKw cpos (keywordEach [] X.env)).all (fun x => x.1.isSome) && decide ((e :: es).length + ([] : List Keyword).length + (if ([] : List Keyword).isEmpty then 0 else 1) < 30)) = true)
    (h3 : (apos.endLine == cpos.line) = true) (h4 : starEach (e :: es) X.env = (false, eval e X.env) :: starEach es X.env) (h5 : (backTo cpos (starEach es X.env)).any (·.1) = false) : DE X c Wx (.Call (.Attribute (.Name x p0) "add" apos) (e :: es) [] cpos) (dWrite isSet wAdd i g) := by
  obtain ⟨tb, pb, kb⟩ := hb.run
  refine ⟨_, pe_saddK ha pb h1 h2 h3 h4 h5, fun F G env σ H Q R h => ?_⟩
  obtain ⟨a, o, d, ha', ho, sh, pd, h1'⟩ := chkOwn_ok R pl_E h
  refine ⟨_, ha', ?_⟩
  cases sh with
  | set sr =>
    refine ⟨⟨a, _, _, rfl, ho⟩, ?_⟩
    refine kb F G env σ H _ _ _ pl_E R h1' fun rb env2 us G2 H2 R2 s2 p2 h2 => ?_
    obtain ⟨a2, o2, G3, d2, ds, d', res, ha2, ho2, sm, sh2, rr2, eo, k⟩ := finW_ok R2 s2 p2 h2
    rw [ha'] at ha2; cases ha2
    exact wAdd_ok (W := wd X c) G3 H2 a o2 us d2 ds d' res Q sm ho2 sh2 rr2 eo k
  | _ => cases pd
end
end VS
namespace VS
open PySem PySem.Spec PyProof.Rows L2
/-! ### statements -/
def SPost (W : Wd) (Wx : WX) (F : FrI) (G : Hp) (D : Ends) : Out Fl → Prop
  | .ok (.nx env') => ∀ σ' G' H', Rel W F G' env' σ' H' → Same G G' → D.nx σ' H'
  | .ok (.bk env') => ∀ σ' G' H', Rel W F G' env' σ' H' → Same G G' → D.bk σ' H'
  | .ok (.ct env') => ∀ σ' G' H', Rel W F G' env' σ' H' → Same G G' → D.ct σ' H'
  | .ok (.rt r env') => ∀ v σ' G' H', Rel W F G' env' σ' H' → Same G G' → RVok W F G' env' σ' H' v r → D.rt v H'
  | .ex x env' => ∀ σ' G' H' cls dx, Rel W F G' env' σ' H' → Same G G' → ExcOk W G' H' x cls dx → Wx cls dx σ' H'
  | .st => False
def Chg (js : List Nat) (σ σ' : L2.St) : Prop := σ'.length = σ.length ∧ ∀ j, j ∉ js → σ'[j]? = σ[j]?
/-- storing; js: the slots that may change -/
def GPost (W : Wd) (Wx : WX) (F : FrI) (G : Hp) (σ : L2.St) (js : List Nat) (Q : L2.St → Hp → Prop) : Out Env → Prop
  | .ok env' => ∀ σ' G' H', Rel W F G' env' σ' H' → Same G G' → Chg js σ σ' → Q σ' H'
  | .ex x env' => ∀ σ' G' H' cls dx, Rel W F G' env' σ' H' → Same G G' → ExcOk W G' H' x cls dx → Wx cls dx σ' H'
  | .st => False
structure DS (X : Cx) (c : Nat → Value) (Wx : WX) (s : Stmt) (f : Env → Out Fl) : Prop where
  ex : ∃ t, PS X s t ∧ ∀ F G env σ H D, Rel (wd X c) F G env σ H → SPost (wd X c) Wx F G D (f env) → t D σ H
structure DSs (X : Cx) (c : Nat → Value) (Wx : WX) (s : List Stmt) (f : Env → Out Fl) : Prop where
  ex : ∃ t, PSs X s t ∧ ∀ F G env σ H D, Rel (wd X c) F G env σ H → SPost (wd X c) Wx F G D (f env) → t D σ H
structure DG (X : Cx) (c : Nat → Value) (Wx : WX) (tg : Expr) (js : List Nat) (g : RV → Env → Out Env) : Prop where
  ex : ∃ t, PG X tg t ∧ ∀ F G env σ H v r Q, Rel (wd X c) F G env σ H → RVok (wd X c) F G env σ H v r → GPost (wd X c) Wx F G σ js Q (g r env) → t v σ H Q
structure DGs (X : Cx) (c : Nat → Value) (Wx : WX) (tgs : List Expr) (js : List Nat) (g : List D → Env → Out Env) : Prop where
  ex : ∃ t, PGs X tgs t ∧ ∀ F G env σ H vs ds Q, Rel (wd X c) F G env σ H → RpA (wd X c) G vs ds → GPost (wd X c) Wx F G σ js Q (g ds env) → t vs σ H Q
section
variable {W : Wd} {Wx : WX} {F : FrI} {G G' : Hp} {σ : L2.St}
theorem SPost.grow {D : Ends} (s : Same G G') : ∀ {o : Out Fl}, SPost W Wx F G D o → SPost W Wx F G' D o
  | .ok (.nx _), h => fun σ' G1 H1 R s1 => h σ' G1 H1 R (s.trans s1)
  | .ok (.bk _), h => fun σ' G1 H1 R s1 => h σ' G1 H1 R (s.trans s1)
  | .ok (.ct _), h => fun σ' G1 H1 R s1 => h σ' G1 H1 R (s.trans s1)
  | .ok (.rt _ _), h => fun v σ' G1 H1 R s1 r => h v σ' G1 H1 R (s.trans s1) r
  | .ex _ _, h => fun σ' G1 H1 cls dx R s1 r => h σ' G1 H1 cls dx R (s.trans s1) r
  | .st, h => h
theorem GPost.grow {js : List Nat} {Q : L2.St → Hp → Prop} (s : Same G G') : ∀ {o : Out Env}, GPost W Wx F G σ js Q o → GPost W Wx F G' σ js Q o
  | .ok _, h => fun σ' G1 H1 R s1 => h σ' G1 H1 R (s.trans s1)
  | .ex _ _, h => fun σ' G1 H1 cls dx R s1 r => h σ' G1 H1 cls dx R (s.trans s1) r
  | .st, h => h
theorem pl_S {D : Ends} : PL W Wx F G σ (SPost W Wx F G D) := ⟨fun h => h, fun _ _ h => h σ⟩
theorem pl_G {js : List Nat} {Q : L2.St → Hp → Prop} : PL W Wx F G σ (GPost W Wx F G σ js Q) := ⟨fun h => h, fun _ _ h => h σ⟩
end
section
variable {X : Cx} {c : Nat → Value} {Wx : WX}
/-! ### sequences -/
def sNil : Env → Out Fl := fun env => .ok (.nx env)
def thenF (g : Env → Out Fl) : Fl → Out Fl
  | .nx e => g e
  | fl => .ok fl
def sCons (f g : Env → Out Fl) : Env → Out Fl := fun env => (f env).bind (thenF g)
theorem dss_nil : DSs X c Wx [] sNil := ⟨_, pss_nil, fun F G env σ H D R h => h σ G H R (Same.refl G)⟩
theorem dss_cons {s : Stmt} {r : List Stmt} {f g : Env → Out Fl} (ha : DS X c Wx s f) (hb : DSs X c Wx r g) : DSs X c Wx (s :: r) (sCons f g) := by
  obtain ⟨ta, pa, ka⟩ := ha.ex
  obtain ⟨tb, pb, kb⟩ := hb.ex
  refine ⟨_, pss_cons pa pb, fun F G env σ H D R h => ka F G env σ H _ R ?_⟩
  have h' : SPost (wd X c) Wx F G D ((f env).bind (thenF g)) := h
  cases e : f env with
  | st => rw [e] at h'; exact h'
  | ex x env' => rw [e] at h'; exact h'
  | ok fl =>
    rw [e] at h'
    cases fl with
    | nx e1 => exact fun σ' G' H' R' s => kb F G' e1 σ' H' D R' (SPost.grow s h')
    | bk e1 => exact h'
    | ct e1 => exact h'
    | rt r e1 => exact h'
def sNever : Env → Out Fl := fun _ => .st
theorem ds_never {s : Stmt} : DS X c Wx s sNever := ⟨_, ps_never, fun F G env σ H D R h => h⟩
theorem dss_never {s : List Stmt} : DSs X c Wx s sNever := ⟨_, pss_never, fun F G env σ H D R h => h⟩
theorem ds_pass {pos : Pos} : DS X c Wx (.Pass pos) sNil := ⟨_, ps_pass, fun F G env σ H D R h => h σ G H R (Same.refl G)⟩
theorem ds_doc {x : Str} {j : Nat} {pos pos' : Pos} : DS X c Wx (.Expr (.Constant (.str x) j pos) pos') sNil := ⟨_, ps_doc, fun F G env σ H D R h => h σ G H R (Same.refl G)⟩
def sBreak : Env → Out Fl := fun env => .ok (.bk env)
def sCont : Env → Out Fl := fun env => .ok (.ct env)
theorem ds_break {pos : Pos} : DS X c Wx (.Break pos) sBreak := ⟨_, ps_break, fun F G env σ H D R h => h σ G H R (Same.refl G)⟩
theorem ds_continue {pos : Pos} : DS X c Wx (.Continue pos) sCont := ⟨_, ps_continue, fun F G env σ H D R h => h σ G H R (Same.refl G)⟩
def sRet (f : Env → Out (RV × Env)) : Env → Out Fl := fun env => (f env).bind fun p => .ok (.rt p.1 p.2)
theorem ds_ret {e : Expr} {pos : Pos} {f : Env → Out (RV × Env)} (ha : DE X c Wx e f) : DS X c Wx (.Return (some e) pos) (sRet f) := by
  obtain ⟨t, pa, ka⟩ := ha.run
  refine ⟨_, ps_ret pa, fun F G env σ H D R h => ?_⟩
  exact ka F G env σ H _ _ _ pl_S R h fun r env1 v G1 H1 R1 s1 rv h1 => h1 v σ G1 H1 R1 s1 rv
def sRetN : Env → Out Fl := fun env => .ok (.rt (.fz .non) env)
theorem ds_retN {pos : Pos} : DS X c Wx (.Return none pos) sRetN := ⟨_, ps_retN, fun F G env σ H D R h => h .non σ G H R (Same.refl G) Rp.non⟩
def sExpr (f : Env → Out (RV × Env)) : Env → Out Fl := fun env => (f env).bind fun p => .ok (.nx p.2)
theorem ds_expr {e : Expr} {pos : Pos} {f : Env → Out (RV × Env)} (ha : DE X c Wx e f) (hs : swapsWith e none pos.line X.env = pure false := by rfl) : DS X c Wx (.Expr e pos) (sExpr f) := by
  obtain ⟨t, pa, ka⟩ := ha.run
  refine ⟨_, ps_expr pa hs, fun F G env σ H D R h => ?_⟩
  exact ka F G env σ H _ _ _ pl_S R h fun r env1 v G1 H1 R1 s1 rv h1 => h1 σ G1 H1 R1 s1
def sIf (t : Env → Out (Bool × Env)) (f g : Env → Out Fl) : Env → Out Fl := fun env => (t env).bind fun p => if p.1 = true then f p.2 else g p.2
theorem ds_if {e : Expr} {a b : List Stmt} {pos : Pos} {t : Env → Out (Bool × Env)} {f g : Env → Out Fl} (ht : DT X c Wx e t) (ha : DSs X c Wx a f) (hb : DSs X c Wx b g) : DS X c Wx (.If e a b pos) (sIf t f g) := by
  obtain ⟨tt, pt, kt⟩ := ht.run
  obtain ⟨ta, pa, ka⟩ := ha.ex
  obtain ⟨tb, pb, kb⟩ := hb.ex
  refine ⟨_, ps_if pt pa pb, fun F G env σ H D R h => ?_⟩
  refine kt F G env σ H _ _ _ pl_S R h fun b env1 G1 H1 R1 s1 h1 => ?_
  cases b with
  | true => exact ka F G1 env1 σ H1 D R1 (SPost.grow s1 h1)
  | false => exact kb F G1 env1 σ H1 D R1 (SPost.grow s1 h1)
/-! ### storing -/
def notIo (i : Nat) (env : Env) : Bool := match env[i]? with
  | some (some (_, .io)) => false
  | _ => true
theorem notIo_ok {i : Nat} {env : Env} (h : notIo i env = true) : ∀ d', env[i]? ≠ some (some (d', .io)) := fun d' e => by
  unfold notIo at h; rw [e] at h; cases h
def storeR (i : Nat) (r : RV) (env : Env) : Option Env := match r with
  | .fz d => if notIo i env = true then some (env.set i (some (d, .frz))) else none
  | .fr d => if notIo i env = true then some (env.set i (some (d, .own))) else none
  | .bo j => match freezeR env (.bo j) with
    | some (d, env') => if notIo i env' = true then some (env'.set i (some (d, .frz))) else none
    | none => none
theorem storeR_ok {W : Wd} {F : FrI} {G H : Hp} {env env' : Env} {σ : L2.St} {i : Nat} {v : V} (R : Rel W F G env σ H) : ∀ {r : RV}, RVok W F G env σ H v r → storeR i r env = some env' → ∃ G', Same G G' ∧ Rel W F G' env' (σ.set i (some v)) H
  | .fz d, rv, e => by
    have e' : (if notIo i env = true then some (env.set i (some (d, Ow.frz))) else none) = some env' := e
    by_cases z : notIo i env = true
    · rw [if_pos z] at e'; cases e'
      exact ⟨G, Same.refl G, R.setFrz (notIo_ok z) rv⟩
    · rw [if_neg z] at e'; cases e'
  | .fr d, rv, e => by
    have e' : (if notIo i env = true then some (env.set i (some (d, Ow.own))) else none) = some env' := e
    by_cases z : notIo i env = true
    · rw [if_pos z] at e'; cases e'
      obtain ⟨p, rfl, hE, ow, fr⟩ := rv
      exact ⟨G, Same.refl G, R.setOwn (notIo_ok z) hE ow fr⟩
    · rw [if_neg z] at e'; cases e'
  | .bo j, rv, e => by
    unfold storeR at e
    dsimp only at e
    cases q : freezeR env (.bo j) with
    | none => rw [q] at e; cases e
    | some w =>
      obtain ⟨d, env1⟩ := w
      rw [q] at e
      dsimp only at e
      by_cases z : notIo i env1 = true
      · rw [if_pos z] at e; cases e
        obtain ⟨G1, s1, R1, rp⟩ := RVok.freeze R rv q
        exact ⟨G1, s1, R1.setFrz (notIo_ok z) rp⟩
      · rw [if_neg z] at e; cases e
def gName' (i : Nat) : RV → Env → Out Env := fun r env => Out.of (storeR i r env)
theorem dg_name {i : Nat} {x : Str} {pos : Pos} (hN : X.N.Nodup) (hi : X.N[i]? = some x) (hx : Loc X.env.scope x) (hf : X.fn x = true ∨ List.lookup x X.env.scope.names = some NameKind.local := by first | exact Or.inr rfl | exact Or.inl rfl) : DG X c Wx (.Name x pos) [i] (gName' i) := by
  refine ⟨_, pg_name (i := i) hN hi hx hf, fun F G env σ H v r Q R rv h => ?_⟩
  have h' : GPost (wd X c) Wx F G σ [i] Q (Out.of (storeR i r env)) := h
  cases e : storeR i r env with
  | none => rw [e] at h'; exact h'.elim
  | some env' =>
    rw [e] at h'
    obtain ⟨G1, s1, R1⟩ := storeR_ok R rv e
    exact h' _ G1 H R1 s1 ⟨List.length_set, fun j hj => by
      rw [List.getElem?_set_ne]
      intro z; subst z; exact hj (List.mem_singleton.mpr rfl)⟩
def gsNil : List D → Env → Out Env := fun ds env => match ds with
  | [] => .ok env
  | _ => .st
def gsCons (g : RV → Env → Out Env) (gs : List D → Env → Out Env) : List D → Env → Out Env := fun ds env => match ds with
  | d :: r => (g (.fz d) env).bind (gs r)
  | [] => .st
theorem dgs_nil : DGs X c Wx [] [] gsNil := by
  refine ⟨_, pgs_nil, fun F G env σ H vs ds Q R r h => ?_⟩
  cases r with
  | nil => exact ⟨rfl, h σ G H R (Same.refl G) ⟨rfl, fun _ _ => rfl⟩⟩
  | cons a b => exact h.elim
theorem gpost_bind {F : FrI} {G : Hp} {σ : L2.St} {js ks : List Nat} {Q : L2.St → Hp → Prop} {o : Out Env} {k : Env → Out Env} (h : GPost (wd X c) Wx F G σ (js ++ ks) Q (o.bind k)) :
    GPost (wd X c) Wx F G σ js (fun σ' H' => ∃ G' env', Rel (wd X c) F G' env' σ' H' ∧ Same G G' ∧ Chg js σ σ' ∧ GPost (wd X c) Wx F G' σ' ks Q (k env')) o := by
  cases o with
  | st => exact h
  | ex x e => exact h
  | ok e =>
    intro σ' G' H' R s hj
    refine ⟨G', e, R, s, hj, ?_⟩
    have h' : GPost (wd X c) Wx F G σ (js ++ ks) Q (k e) := h
    cases q : k e with
    | st => rw [q] at h'; exact h'
    | ex x e' => rw [q] at h'; exact fun σ2 G2 H2 cls dx R2 s2 ok => h' σ2 G2 H2 cls dx R2 (s.trans s2) ok
    | ok e' =>
      rw [q] at h'
      exact fun σ2 G2 H2 R2 s2 hk => h' σ2 G2 H2 R2 (s.trans s2) ⟨hk.1.trans hj.1, fun j hn => by
        rw [hk.2 j fun m => hn (List.mem_append_right _ m), hj.2 j fun m => hn (List.mem_append_left _ m)]⟩
theorem dgs_cons {e : Expr} {es : List Expr} {js ks : List Nat} {g : RV → Env → Out Env} {gs : List D → Env → Out Env} (ha : DG X c Wx e js g) (hb : DGs X c Wx es ks gs) (hs : List.map (fun x => x.snd) (assignEach (e :: es) X.env) = assign e X.env :: List.map (fun x => x.snd) (assignEach es X.env) := by rfl) : DGs X c Wx (e :: es) (js ++ ks) (gsCons g gs) := by
  obtain ⟨ta, pa, ka⟩ := ha.ex
  obtain ⟨tb, pb, kb⟩ := hb.ex
  refine ⟨_, pgs_cons pa pb hs, fun F G env σ H vs ds Q R r h => ?_⟩
  cases r with
  | nil => exact h.elim
  | @cons v vs d ds a b =>
    refine ⟨v, vs, rfl, ka F G env σ H v (.fz d) _ R a ?_⟩
    have h1 := gpost_bind (js := js) (ks := ks) (o := g (.fz d) env) (k := gs ds) h
    cases q : g (.fz d) env with
    | st => rw [q] at h1; exact h1
    | ex x e' => rw [q] at h1; exact h1
    | ok e' =>
      rw [q] at h1
      intro σ' G' H' R' s hj
      obtain ⟨G2, env2, R2, s2, _, h2⟩ := h1 σ' G' H' R' s hj
      exact kb F G2 env2 σ' H' vs ds Q R2 (b.mono (Le.of s2)) h2
def gTupD (n : Nat) (gs : List D → Env → Out Env) : RV → Env → Out Env := fun r env => match resolve env r with
  | some (.tup ds) => if Nat.beq ds.length n = true then gs ds env else .st
  | _ => .st
theorem dg_tup {es : List Expr} {k : Nat} {pos : Pos} {js : List Nat} {gs : List D → Env → Out Env} {n : Nat} (hc : X.calm = true) (ha : DGs X c Wx es js gs) (hn : (assignEach es X.env).length = n := by rfl) (hf : List.findIdx? (fun x => x.fst) (assignEach es X.env) = none := by rfl) : DG X c Wx (.Tuple es k pos) js (gTupD n gs) := by
  obtain ⟨t, pa, ka⟩ := ha.ex
  refine ⟨_, pg_tup hc pa hn hf, fun F G env σ H v r Q R rv h => ?_⟩
  have h' : GPost (wd X c) Wx F G σ js Q (match resolve env r with
    | some (.tup ds) => if Nat.beq ds.length n = true then gs ds env else .st
    | _ => .st) := h
  cases e : resolve env r with
  | none => rw [e] at h'; exact h'.elim
  | some d =>
    rw [e] at h'
    cases d with
    | tup ds =>
      dsimp only at h'
      by_cases z : Nat.beq ds.length n = true
      · rw [if_pos z] at h'
        obtain ⟨a, vs, rfl, h1, _, hr⟩ := (rv.vw R e).tup R.same
        exact ⟨a, vs, rfl, SqT.of h1, by rw [hr.length]; exact Nat.eq_of_beq_eq_true z, ka F G env σ H vs ds Q R hr h'⟩
      · rw [if_neg z] at h'; exact h'.elim
    | _ => exact h'.elim
/-! ### o[i] = v -/
abbrev OpS := D → D → D → Option D
def SetOk (X : Cx) (c : Nat → Value) (op : OpS) : Prop := ∃ t, PSet X t ∧ ∀ (G H : Hp) (a : Addr) (o : HO) (i v : V) (dx di dv d' : D) (Q : Hp → Prop), Same G H → H a = some o → Sh (wd X c) G a o dx → Vw (wd X c) G H i di → Rp (wd X c) G v dv → op dx di dv = some d' → (∀ o', Sh (wd X c) G a o' d' → Q (upd H a o')) → t (.ref a) i v H Q
def wSetL : OpS
  | .lst xs, .int k, v => (ixN xs.length k).map fun j => .lst (xs.set j v)
  | _, _, _ => none
theorem wSetL_ok : SetOk X c wSetL := by
  refine ⟨_, set_list, fun G H a o i v dx di dv d' Q s ho sh vi rv e q => ?_⟩
  unfold wSetL at e
  split at e
  · obtain ⟨j, e1, e2⟩ := Option.map_eq_some_iff.mp e
    cases e2
    cases sh with
    | lst r => exact ⟨a, _, _, j, rfl, vi.int, ho, by rw [r.length]; exact e1, q _ (.lst (r.set rv j))⟩
  · cases e
def wSetD : OpS
  | .dct kvs, k, v => if le24 (kvs.length + 1) = true then (dKey k).map fun k => .dct (setK kvs k v) else none
  | .dctT kvs, .tup ks, v => if le24 (kvs.length + 1) = true then (dKeys ks).map fun k => .dctT (setK kvs k v) else none
  | _, _, _ => none
theorem wSetD_ok (hu : X.A.units + 1 < cLine) : SetOk X c wSetD := by
  refine ⟨_, set_dict hu, fun G H a o i v dx di dv d' Q s ho sh vi rv e q => ?_⟩
  unfold wSetD at e
  split at e
  · split at e
    · rename_i z
      have z := le24_ok z
      obtain ⟨k, e1, e2⟩ := Option.map_eq_some_iff.mp e
      cases e2
      cases sh with
      | dct r => exact ⟨a, _, rfl, .inl ⟨_, k, ho, dKey_vw e1 vi, by rw [r.length]; omega, rfl⟩, q _ (.dct (r.put k rv))⟩
    · cases e
  · split at e
    · rename_i z
      have z := le24_ok z
      obtain ⟨k, e1, e2⟩ := Option.map_eq_some_iff.mp e
      cases e2
      obtain ⟨b, ws, rfl, hb, _, hw⟩ := vi.tup s
      have e3 := dKeys_rp e1 hw
      subst e3
      cases sh with
      | dctT r => exact ⟨a, _, rfl, .inr ⟨_, k, b, ho, rfl, hb, by rw [r.length]; omega, rfl⟩, q _ (.dctT (r.put k rv))⟩
    · cases e
  · cases e
def orW (f g : OpS) : OpS := fun x y z => (f x y z).or (g x y z)
theorem SetOk.or {f g : OpS} (hf : SetOk X c f) (hg : SetOk X c g) : SetOk X c (orW f g) := by
  obtain ⟨t, p, k⟩ := hf
  obtain ⟨t', p', k'⟩ := hg
  refine ⟨fun o i v H Q => t o i v H Q ∨ t' o i v H Q, ?_, fun G H a o i v dx di dv d' Q s ho sh vi rv e q => ?_⟩
  · intro pins s σ H o i v u w y Q I h1 h2 h3 h
    rcases h with h | h
    · exact p pins s σ H o i v u w y Q I h1 h2 h3 h
    · exact p' pins s σ H o i v u w y Q I h1 h2 h3 h
  · unfold orW at e
    cases z : f dx di dv with
    | none => rw [z] at e; exact .inr (k' G H a o i v dx di dv d' Q s ho sh vi rv e q)
    | some w => rw [z] at e; exact .inl (k G H a o i v dx di dv d' Q s ho sh vi rv (z.trans e) q)
def wSet : OpS := orW wSetL wSetD
theorem wSet_ok (hu : X.A.units + 1 < cLine) : SetOk X c wSet := wSetL_ok.or (wSetD_ok hu)
def finS (op : OpS) (i : Nat) (dv : D) (ri : RV) (env : Env) : Out Env := match ownAt i env, resolve env ri with
  | some (d, ow), some di => match op d di dv with
    | some d' => .ok (env.set i (some (d', ow)))
    | none => .st
  | _, _ => .st
def dgSub (op : OpS) (i : Nat) (f : Env → Out (RV × Env)) : RV → Env → Out Env := fun r env => match freezeR env r with
  | some (dv, env0) => (chkOwn (fun _ => true) i env0).bind fun env1 => (f env1).bind fun q => finS op i dv q.1 q.2
  | none => .st
theorem dg_sub {op : OpS} {i : Nat} {x : Str} {e : Expr} {p0 pos : Pos} {f : Env → Out (RV × Env)} (ho : SetOk X c op) (ha : PE X (.Name x p0) (tVar i)) (hb : DE X c Wx e f)
    (hs : ∀ (v : Value), assign ((Expr.Name x p0).Subscript e pos) X.env v = (do
                let ov ← holding [v] (eval (.Name x p0) X.env)
                let iv ← holding [v, ov] (eval e X.env)
                standAt pos
                holding [v, ov, iv] (setItem ov iv v)
                release [v, ov, iv] []) := by intro v; rfl) : DG X c Wx (.Subscript (.Name x p0) e pos) [] (dgSub op i f) := by
  obtain ⟨t, pt, sem⟩ := ho
  obtain ⟨tb, pb, kb⟩ := hb.runP
  refine ⟨_, pg_sub ha pb pt hs, fun F G env σ H v r Q R rv h => ?_⟩
  have h' : GPost (wd X c) Wx F G σ [] Q (match freezeR env r with
    | some (dv, env0) => (chkOwn (fun _ => true) i env0).bind fun env1 => (f env1).bind fun q => finS op i dv q.1 q.2
    | none => .st) := h
  cases e0 : freezeR env r with
  | none => rw [e0] at h'; exact h'.elim
  | some w =>
    obtain ⟨dv, env0⟩ := w
    rw [e0] at h'
    obtain ⟨G0, s0, R0, rp0⟩ := rv.freeze R e0
    dsimp only at h'
    obtain ⟨a, o, d, ha', _, _, _, h1⟩ := chkOwn_ok R0 pl_G (GPost.grow s0 h')
    refine ⟨_, ha', ?_⟩
    refine kb F G0 env0 σ H _ _ _ pl_G R0 h1 fun ri env2 u G2 H2 R2 s2 p2 h2 => ?_
    unfold finS at h2
    cases e1 : ownAt i env2 with
    | none => rw [e1] at h2; exact h2.elim
    | some w =>
      obtain ⟨d2, ow⟩ := w
      cases e2 : resolve env2 ri with
      | none => rw [e1, e2] at h2; exact h2.elim
      | some di =>
        rw [e1, e2] at h2
        dsimp only at h2
        cases e3 : op d2 di dv with
        | none => rw [e3] at h2; exact h2.elim
        | some d' =>
          rw [e3] at h2
          obtain ⟨he, hw⟩ := ownAt_eq e1
          obtain ⟨a2, ha2, ⟨hg, o2, ho2, sh2⟩, _⟩ := R2.own he hw
          rw [ha'] at ha2; cases ha2
          exact sem G2 H2 a o2 u v d2 di dv d' _ R2.same ho2 sh2 (p2.vw R2 e2) (rp0.mono (Le.of s2)) e3 fun o' sh' =>
            h2 σ G2 _ (R2.write he hw ha' sh') s2 ⟨rfl, fun _ _ => rfl⟩
/-! ### assignments -/
def sAsg (f : Env → Out (RV × Env)) (g : RV → Env → Out Env) : Env → Out Fl := fun env => (f env).bind fun p => (g p.1 p.2).bind fun e => .ok (.nx e)
theorem gpost_of {W : Wd} {F : FrI} {G G0 : Hp} {σ : L2.St} {js : List Nat} {D : Ends} {o : Out Env} (s : Same G0 G) (h : SPost W Wx F G0 D (o.bind fun e => .ok (.nx e))) : GPost W Wx F G σ js D.nx o := by
  cases o with
  | st => exact h
  | ex x e => exact fun σ' G' H' cls dx R s1 ok => h σ' G' H' cls dx R (s.trans s1) ok
  | ok e => exact fun σ' G' H' R s1 _ => h σ' G' H' R (s.trans s1)
theorem ds_asg {tg e : Expr} {pos : Pos} {js : List Nat} {f : Env → Out (RV × Env)} {g : RV → Env → Out Env} (ha : DE X c Wx e f) (hg : DG X c Wx tg js g) (h1 : swapsWithSole [tg] e pos.line X.env = pure false := by rfl) (h2 : swappedStores [tg] e X.env = pure none := by rfl) (h3 : List.map (fun x => x.snd) (assignEach [tg] X.env) = [assign tg X.env] := by rfl) : DS X c Wx (.Assign [tg] e pos) (sAsg f g) := by
  obtain ⟨t, pa, ka⟩ := ha.run
  obtain ⟨tg', pg, kg⟩ := hg.ex
  refine ⟨_, ps_asg pa pg h1 h2 h3, fun F G env σ H D R h => ?_⟩
  exact ka F G env σ H _ _ _ pl_S R h fun r env1 v G1 H1 R1 s1 rv h1 => kg F G1 env1 σ H1 v r _ R1 rv (gpost_of s1 h1)
theorem ds_set {x : Str} {i : Nat} {e : Expr} {pos pos' : Pos} {f : Env → Out (RV × Env)} (hN : X.N.Nodup) (hi : X.N[i]? = some x) (hx : Loc X.env.scope x) (ha : DE X c Wx e f) (h1 : swapsWith e (some (Expr.Name x pos')) pos.line X.env = pure false := by rfl) (h2 : X.fn x = true ∨ List.lookup x X.env.scope.names = some NameKind.local := by first | exact Or.inr rfl | exact Or.inl rfl) : DS X c Wx (.Assign [.Name x pos'] e pos) (sAsg f (gName' i)) := by
  obtain ⟨t, pa, ka⟩ := ha.run
  refine ⟨_, ps_set hN hi hx pa h1 h2, fun F G env σ H D R h => ?_⟩
  refine ka F G env σ H _ _ _ pl_S R h fun r env1 v G1 H1 R1 s1 rv h1 => ?_
  have h' : SPost (wd X c) Wx F G D ((Out.of (storeR i r env1)).bind fun e => .ok (.nx e)) := h1
  cases e : storeR i r env1 with
  | none => rw [e] at h'; exact h'.elim
  | some env' =>
    rw [e] at h'
    obtain ⟨G2, s2, R2⟩ := storeR_ok R1 rv e
    exact h' _ G2 H1 R2 (s1.trans s2)
def frzAt (i : Nat) (env : Env) : Option D := match env[i]? with
  | some (some (d, .frz)) => some d
  | _ => none
theorem frzAt_eq {i : Nat} {env : Env} {d : D} (h : frzAt i env = some d) : env[i]? = some (some (d, .frz)) := by
  unfold frzAt at h
  split at h
  · rename_i e; cases h; exact e
  · cases h
def sAug (op : Op2) (i : Nat) (f : Env → Out (RV × Env)) : Env → Out Fl := fun env => match frzAt i env with
  | some d => (f env).bind fun q => (fin2 op (.fz d) q.1 q.2).bind fun p => (Out.of (storeR i p.1 p.2)).bind fun e => .ok (.nx e)
  | none => .st
theorem ds_aug {x : Str} {i : Nat} {e : Expr} {pos pos' : Pos} {o : Operator} {op : Op2} {f : Env → Out (RV × Env)} (hN : X.N.Nodup) (hi : X.N[i]? = some x) (hx : Loc X.env.scope x) (ho : OpOk X c (inplaceOp o) op) (ha : DE X c Wx e f) (h2 : X.fn x = true ∨ List.lookup x X.env.scope.names = some NameKind.local := by first | exact Or.inr rfl | exact Or.inl rfl) : DS X c Wx (.AugAssign (.Name x pos') o e pos) (sAug op i f) := by
  obtain ⟨r, hr, sem⟩ := ho
  obtain ⟨t, pa, ka⟩ := ha.runP
  refine ⟨_, ps_aug hN hi hx pa hr h2, fun F G env σ H D R h => ?_⟩
  have h' : SPost (wd X c) Wx F G D (match frzAt i env with
    | some d => (f env).bind fun q => (fin2 op (.fz d) q.1 q.2).bind fun p => (Out.of (storeR i p.1 p.2)).bind fun e => .ok (.nx e)
    | none => .st) := h
  cases e0 : frzAt i env with
  | none => rw [e0] at h'; exact h'.elim
  | some d0 =>
    rw [e0] at h'
    obtain ⟨v, hv, ok⟩ := R.cells i _ (frzAt_eq e0)
    refine ⟨v, hv, ?_⟩
    refine ka F G env σ H _ _ _ pl_S R h' fun rb env1 u G1 H1 R1 s1 p1 h1 => ?_
    unfold fin2 at h1
    cases e1 : resolve env1 rb with
    | none => rw [e1] at h1; exact h1.elim
    | some y =>
      rw [e1] at h1
      cases eo : op d0 y with
      | none => rw [show resolve env1 (.fz d0) = some d0 from rfl] at h1; dsimp only at h1; rw [eo] at h1; exact h1.elim
      | some q =>
        obtain ⟨d, fr⟩ := q
        rw [show resolve env1 (.fz d0) = some d0 from rfl] at h1
        dsimp only at h1; rw [eo] at h1
        refine sem G1 H1 v u d0 y d fr _ R1.same (.inl (Rp.mono (Le.of s1) ok)) (p1.vw R1 e1) eo fun w H' rs => ?_
        obtain ⟨G2, s2, R2, ok2⟩ := R1.res rs
        have h2' : SPost (wd X c) Wx F G D ((Out.of (storeR i (mkRV d fr) env1)).bind fun e => .ok (.nx e)) := h1
        cases e3 : storeR i (mkRV d fr) env1 with
        | none => rw [e3] at h2'; exact h2'.elim
        | some env' =>
          rw [e3] at h2'
          obtain ⟨G3, s3, R3⟩ := storeR_ok R2 ok2 e3
          exact h2' _ G3 H' R3 ((s1.trans s2).trans s3)
/-! ### loops -/
def loopK (k : Env → Out Fl) : Fl → Out Fl
  | .nx e => k e
  | .ct e => k e
  | .bk e => .ok (.nx e)
  | .rt r e => .ok (.rt r e)
def loopN (t : Env → Out (Bool × Env)) (b : Env → Out Fl) : Nat → Env → Out Fl
  | 0, _ => .st
  | n + 1, env => (t env).bind fun p => if p.1 = true then (b p.2).bind (loopK (loopN t b n)) else .ok (.nx p.2)
/-- the end of a turn -/
theorem loop_turn {F : FrI} {G : Hp} {D : Ends} {o : Out Fl} {k : Env → Out Fl} {N : L2.St → Hp → Prop} (h : SPost (wd X c) Wx F G D (o.bind (loopK k)))
    (hN : ∀ σ' G' H' e, Rel (wd X c) F G' e σ' H' → Same G G' → SPost (wd X c) Wx F G' D (k e) → N σ' H') : SPost (wd X c) Wx F G { D with nx := N, ct := N, bk := D.nx } o := by
  cases o with
  | st => exact h
  | ex x e => exact h
  | ok fl =>
    cases fl with
    | nx e => exact fun σ' G' H' R s => hN σ' G' H' e R s (SPost.grow s h)
    | ct e => exact fun σ' G' H' R s => hN σ' G' H' e R s (SPost.grow s h)
    | bk e => exact h
    | rt r e => exact h
theorem ds_while (n : Nat) {e : Expr} {b : List Stmt} {pos : Pos} {t : Env → Out (Bool × Env)} {f : Env → Out Fl} (hp : PassesOwn (model X.prog X.w) X.A X.env X.xe) (ht : DT X c Wx e t) (hb : DSs X c Wx b f) : DS X c Wx (.While e b [] pos) (loopN t f n) := by
  obtain ⟨tt, pt, kt⟩ := ht.run
  obtain ⟨tb, pb, kb⟩ := hb.ex
  refine ⟨_, ps_while hp pt pb, fun F G env σ H D R h => ?_⟩
  refine ⟨fun m σ' H' => ∃ G' env', Rel (wd X c) F G' env' σ' H' ∧ SPost (wd X c) Wx F G' D (loopN t f m env'), ⟨n, G, env, R, h⟩, ?_⟩
  rintro m σ1 H1 ⟨G1, env1, R1, h1⟩
  cases m with
  | zero => exact h1.elim
  | succ m =>
    refine kt F G1 env1 σ1 H1 _ _ _ pl_S R1 h1 fun b env2 G2 H2 R2 s2 h2 => ?_
    cases b with
    | false => exact h2 σ1 G2 H2 R2 s2
    | true =>
      rw [if_pos rfl]
      refine ⟨fun σ' H' => ∃ m', m' < m + 1 ∧ ∃ G' env', Rel (wd X c) F G' env' σ' H' ∧ SPost (wd X c) Wx F G' D (loopN t f m' env'), fun σ' H' z => z, ?_⟩
      refine kb F G2 env2 σ1 H2 _ R2 (loop_turn (SPost.grow s2 h2) fun σ' G' H' e R' s' h3 => ⟨m, Nat.lt_succ_self m, G', e, R', h3⟩)
/-! ### what is walked -/
def ItW (W : Wd) (G : Hp) (J : It) (ds : List D) : Prop := ∀ G' i H, Same G G' → Same G' H → (ds.length ≤ i → J.stop i H) ∧ ∀ d, ds[i]? = some d → J.go i H ∧ ∀ x H', J.yld i H x H' → Res W G' H d false x H'
theorem ItW.grow {W : Wd} {G G' : Hp} {J : It} {ds : List D} (s : Same G G') (h : ItW W G J ds) : ItW W G' J ds := fun G1 i H s1 sm => h G1 i H (s.trans s1) sm
def IPost (W : Wd) (Wx : WX) (F : FrI) (G : Hp) (σ : L2.St) (Q : It → Hp → Prop) : Out (List D × Env) → Prop
  | .ok (ds, env') => ∀ J G' H', Rel W F G' env' σ H' → Same G G' → ItW W G' J ds → Q J H'
  | .ex x env' => ∀ G' H' cls dx, Rel W F G' env' σ H' → Same G G' → ExcOk W G' H' x cls dx → Wx cls dx σ H'
  | .st => False
structure DI (X : Cx) (c : Nat → Value) (Wx : WX) (tg e : Expr) (f : Env → Out (List D × Env)) : Prop where
  ex : ∃ t, PI X tg e t ∧ ∀ F G env σ H Q, Rel (wd X c) F G env σ H → IPost (wd X c) Wx F G σ Q (f env) → t σ H Q
theorem pl_I {W : Wd} {F : FrI} {G : Hp} {σ : L2.St} {Q : It → Hp → Prop} : PL W Wx F G σ (IPost W Wx F G σ Q) := ⟨fun h => h, fun _ _ h => h⟩
theorem DI.run {tg e : Expr} {f : Env → Out (List D × Env)} (h : DI X c Wx tg e f) : ∃ t, PI X tg e t ∧ ∀ {α : Type} (F : FrI) (G : Hp) (env : Env) (σ : L2.St) (H : Hp) (Q : It → Hp → Prop) (k : List D × Env → Out α) (post : Out α → Prop), PL (wd X c) Wx F G σ post → Rel (wd X c) F G env σ H → post ((f env).bind k) →
    (∀ ds env' J G' H', Rel (wd X c) F G' env' σ H' → Same G G' → ItW (wd X c) G' J ds → post (k (ds, env')) → Q J H') → t σ H Q := by
  obtain ⟨t, pe, g⟩ := h.ex
  refine ⟨t, pe, fun {α} F G env σ H Q k post pl R hp hk => g F G env σ H Q R ?_⟩
  cases e : f env with
  | ok p => rw [e] at hp; exact fun v G' H' R' s r => hk _ _ v G' H' R' s r hp
  | ex x env' => rw [e] at hp; exact fun G' H' cls dx R' s r => pl.ex x env' hp G' H' cls dx R' s r
  | st => rw [e] at hp; exact pl.st hp
def forL (g : RV → Env → Out Env) (b : Env → Out Fl) : List D → Env → Out Fl
  | [], env => .ok (.nx env)
  | d :: ds, env => (g (.fz d) env).bind fun e => (b e).bind (loopK (forL g b ds))
def sFor (it : Env → Out (List D × Env)) (g : RV → Env → Out Env) (b : Env → Out Fl) : Env → Out Fl := fun env => (it env).bind fun p => forL g b p.1 p.2
theorem gpost_then {F : FrI} {G : Hp} {σ : L2.St} {js : List Nat} {α : Type} {o : Out Env} {k : Env → Out α} {post : Out α → Prop} {Q : L2.St → Hp → Prop} (st : post .st → False) (ex : ∀ x env', post (.ex x env') → ∀ σ' G' H' cls dx, Rel (wd X c) F G' env' σ' H' → Same G G' → ExcOk (wd X c) G' H' x cls dx → Wx cls dx σ' H') (h : post (o.bind k))
    (hk : ∀ e σ' G' H', Rel (wd X c) F G' e σ' H' → Same G G' → Chg js σ σ' → post (k e) → Q σ' H') : GPost (wd X c) Wx F G σ js Q o := by
  cases o with
  | st => exact st h
  | ex x e => exact ex x e h
  | ok e => exact fun σ' G' H' R s hj => hk e σ' G' H' R s hj h
theorem for_walk {js : List Nat} {w : Env → Out (List D × Env)} {g : RV → Env → Out Env} {f : Env → Out Fl} {ti : TI} {tg' : TG} {tb : TS} {F : FrI} {G H : Hp} {env : Env} {σ : L2.St} {D : Ends}
    (ki : ∀ {α : Type} (Q : It → Hp → Prop) (k : List VS.D × Env → Out α) (post : Out α → Prop), PL (wd X c) Wx F G σ post → post ((w env).bind k) →
    (∀ ds env' J G' H', Rel (wd X c) F G' env' σ H' → Same G G' → ItW (wd X c) G' J ds → post (k (ds, env')) → Q J H') → ti σ H Q)
    (kg : ∀ F G env σ H v r Q, Rel (wd X c) F G env σ H → RVok (wd X c) F G env σ H v r → GPost (wd X c) Wx F G σ js Q (g r env) → tg' v σ H Q)
    (kb : ∀ F G env σ H D, Rel (wd X c) F G env σ H → SPost (wd X c) Wx F G D (f env) → tb D σ H) (R : Rel (wd X c) F G env σ H) (h : SPost (wd X c) Wx F G D (sFor w g f env)) : tFor ti tg' tb D σ H := by
  refine ki _ _ _ pl_S h fun ds env1 J G1 H1 R1 s1 it1 h1 => ?_
  refine ⟨fun i m σ' H' => ∃ G' env', Same G1 G' ∧ Rel (wd X c) F G' env' σ' H' ∧ i ≤ ds.length ∧ m = ds.length - i ∧ SPost (wd X c) Wx F G' D (forL g f (ds.drop i) env'), ⟨_, G1, env1, Same.refl G1, R1, Nat.zero_le _, rfl, SPost.grow s1 h1⟩, ?_⟩
  rintro i m σ2 H2 ⟨G2, env2, s2, R2, hi, hm, h2⟩
  obtain ⟨i1, i2⟩ := it1 G2 i H2 s2 R2.same
  by_cases z : ds.length ≤ i
  · refine .inl ⟨i1 z, ?_⟩
    rw [List.drop_eq_nil_of_le z] at h2
    exact h2 σ2 G2 H2 R2 (Same.refl G2)
  · have z : i < ds.length := Nat.lt_of_not_le z
    obtain ⟨j1, j2⟩ := i2 _ (List.getElem?_eq_getElem z)
    rw [List.drop_eq_getElem_cons z] at h2
    refine .inr ⟨j1, fun σ' H' => ∃ G' env', Same G1 G' ∧ Rel (wd X c) F G' env' σ' H' ∧ SPost (wd X c) Wx F G' D (forL g f (ds.drop (i + 1)) env'), ?_, fun x H' y => ?_⟩
    · rintro σ' H' ⟨G', env', a, b, d⟩
      exact ⟨ds.length - (i + 1), by omega, G', env', a, b, z, rfl, d⟩
    · obtain ⟨G3, s3, R3, rv⟩ := R2.res (j2 x H' y)
      refine kg F G3 env2 σ2 H' x (.fz ds[i]) _ R3 rv (gpost_then (α := Fl) (k := fun e => (f e).bind (loopK (forL g f (ds.drop (i + 1))))) (post := SPost (wd X c) Wx F G3 D) (fun h => h) (fun _ _ h => h) (SPost.grow s3 h2) fun e σ4 G4 H4 R4 s4 _ h4 => ?_)
      exact kb F G4 e σ4 H4 _ R4 (loop_turn (SPost.grow s4 h4) fun σ' G' H' e' R' s' h5 => ⟨G', e', s2.trans (s3.trans (s4.trans s')), R', h5⟩)
theorem ds_for {tg it : Expr} {b : List Stmt} {pos : Pos} {js : List Nat} {w : Env → Out (List D × Env)} {g : RV → Env → Out Env} {f : Env → Out Fl} (hp : PassesOwn (model X.prog X.w) X.A X.env X.xe) (hc : X.calm = true) (hi : DI X c Wx tg it w) (hg : DG X c Wx tg js g) (hb : DSs X c Wx b f) (hs : ∀ x : Value, foldedSetIterable it X.env x = pure x := by intro x; rfl) : DS X c Wx (.For tg it b [] pos) (sFor w g f) := by
  obtain ⟨ti, pi, ki⟩ := hi.run
  obtain ⟨tg', pg, kg⟩ := hg.ex
  obtain ⟨tb, pb, kb⟩ := hb.ex
  refine ⟨_, ps_for hp hc pi pg pb hs, fun F G env σ H D R h => for_walk (fun Q k post pl => ki F G env σ H Q k post pl R) kg kb R h⟩
end
end VS
namespace VS
open PySem PySem.Spec PyProof.Rows L2
section
variable {X : Cx} {c : Nat → Value} {Wx : WX}
/-! ### what a for walks -/
def itemsL : D → Option (List D)
  | .lst xs => some xs
  | .scr ns => some (ns.map .int)
  | _ => none
def itemsT : D → Option (List D)
  | .tup xs => some xs
  | .tpl xs => some xs
  | _ => none
theorem rpA_ints {W : Wd} {G : Hp} : ∀ ns : List Int, RpA W G (ns.map V.int) (ns.map D.int)
  | [] => .nil
  | n :: ns => .cons (.int n) (rpA_ints ns)
theorem Rp.seqL {W : Wd} {G : Hp} {v : V} {d : D} {ds : List D} (h : Rp W G v d) (e : itemsL d = some ds) : ∃ a vs, v = .ref a ∧ SqL W.K G a vs ∧ RpA W G vs ds := by
  cases d with
  | lst xs => cases e; cases h with | lst h1 r => exact ⟨_, _, rfl, SqL.of h1, r⟩
  | scr ns => cases e; cases h with | scr h1 => exact ⟨_, _, rfl, h1, rpA_ints ns⟩
  | _ => cases e
theorem SqL.grow {K : PySem.W.Frag} {G H : Hp} {a : Addr} {xs : List V} (s : Same G H) (h : SqL K G a xs) : SqL K H a xs := h.elim (fun e => .inl (Le.Rd s e)) .inr
theorem SqT.grow {K : PySem.W.Frag} {G H : Hp} {a : Addr} {xs : List V} (s : Same G H) (h : SqT K G a xs) : SqT K H a xs := h.elim (fun e => .inl (Le.Rd s e)) .inr
def frzItems (f : D → Option (List D)) (r : RV) (env : Env) : Out (List D × Env) := match freezeR env r with
  | some (d, env') => match f d with
    | some ds => .ok (ds, env')
    | none => .st
  | none => .st
theorem frzItems_ok {W : Wd} {F : FrI} {G0 G H : Hp} {env : Env} {σ : L2.St} {Q : It → Hp → Prop} {f : D → Option (List D)} {r : RV} {v : V} (R : Rel W F G env σ H) (s : Same G0 G) (rv : RVok W F G env σ H v r) (h : IPost W Wx F G0 σ Q (frzItems f r env)) :
    ∃ d ds G', f d = some ds ∧ Same G' H ∧ Rp W G' v d ∧ ∀ J, ItW W G' J ds → Q J H := by
  unfold frzItems at h
  cases e : freezeR env r with
  | none => rw [e] at h; exact h.elim
  | some w =>
    obtain ⟨d, env'⟩ := w
    rw [e] at h
    dsimp only at h
    cases e2 : f d with
    | none => rw [e2] at h; exact h.elim
    | some ds =>
      rw [e2] at h
      obtain ⟨G', s', R', rp⟩ := rv.freeze R e
      exact ⟨d, ds, G', e2, R'.same, rp, fun J it => h J G' H R' (s.trans s') it⟩
def dIt (f : D → Option (List D)) (g : Env → Out (RV × Env)) : Env → Out (List D × Env) := fun env => (g env).bind fun p => frzItems f p.1 p.2
theorem itw_list {W : Wd} {G : Hp} {a : Addr} {vs : List V} {ds : List D} (h : SqL W.K G a vs) (r : RpA W G vs ds) : ItW W G (Itl W.K a) ds := fun G' i H s1 s2 => by
  have hh := SqL.grow (s1.trans s2) h
  refine ⟨fun z => ⟨vs, hh, by rw [r.length]; exact z⟩, fun d e => ?_⟩
  obtain ⟨v, ev, rv⟩ := r.get e
  refine ⟨⟨vs, v, hh, ev⟩, fun x H' y => ?_⟩
  obtain ⟨rfl, y⟩ := y
  have := y vs hh
  rw [ev] at this; cases this
  exact Res.same s2 (rv.mono (Le.of s1))
theorem itw_tup {W : Wd} {G : Hp} {a : Addr} {vs : List V} {ds : List D} (h : SqT W.K G a vs) (r : RpA W G vs ds) : ItW W G (Itt W.K a) ds := fun G' i H s1 s2 => by
  have hh := SqT.grow (s1.trans s2) h
  refine ⟨fun z => ⟨vs, hh, by rw [r.length]; exact z⟩, fun d e => ?_⟩
  obtain ⟨v, ev, rv⟩ := r.get e
  refine ⟨⟨vs, v, hh, ev⟩, fun x H' y => ?_⟩
  obtain ⟨rfl, y⟩ := y
  have := y vs hh
  rw [ev] at this; cases this
  exact Res.same s2 (rv.mono (Le.of s1))
theorem di_list {tg e : Expr} {f : Env → Out (RV × Env)} (ha : DE X c Wx e f) : DI X c Wx tg e (dIt itemsL f) := by
  obtain ⟨t, pa, ka⟩ := ha.run
  refine ⟨_, pi_list pa, fun F G env σ H Q R h => ?_⟩
  refine ka F G env σ H _ _ _ pl_I R h fun r env1 v G1 H1 R1 s1 rv h1 => ?_
  obtain ⟨d, ds, G', e1, sm, rp, k⟩ := frzItems_ok R1 s1 rv h1
  obtain ⟨a, vs, rfl, sq, ra⟩ := rp.seqL e1
  exact ⟨a, rfl, ⟨vs, SqL.grow sm sq⟩, k _ (itw_list sq ra)⟩
theorem di_tup {tg e : Expr} {f : Env → Out (RV × Env)} (ha : DE X c Wx e f) : DI X c Wx tg e (dIt itemsT f) := by
  obtain ⟨t, pa, ka⟩ := ha.run
  refine ⟨_, pi_tup pa, fun F G env σ H Q R h => ?_⟩
  refine ka F G env σ H _ _ _ pl_I R h fun r env1 v G1 H1 R1 s1 rv h1 => ?_
  obtain ⟨d, ds, G', e1, sm, rp, k⟩ := frzItems_ok R1 s1 rv h1
  unfold itemsT at e1
  split at e1
  · cases e1
    cases rp with
    | tup sq ra => exact ⟨_, rfl, ⟨_, SqT.of (sm _ _ sq)⟩, k _ (itw_tup (SqT.of sq) ra)⟩
  · cases e1
    cases rp with
    | tpl sq _ ra => exact ⟨_, rfl, ⟨_, SqT.frz (sm _ _ sq)⟩, k _ (itw_tup (SqT.frz sq) ra)⟩
  · cases e1
/-- enumerate(e) -/
def enumD (ds : List D) : List D := ds.zipIdx.map fun p => .tup [.int (p.2 : Nat), p.1]
def itemsE (d : D) : Option (List D) := (itemsL d).map enumD
theorem enumD_get {ds : List D} {i : Nat} {d : D} (h : (enumD ds)[i]? = some d) : ∃ x, ds[i]? = some x ∧ d = .tup [.int (i : Nat), x] := by
  unfold enumD at h
  rw [List.getElem?_map] at h
  obtain ⟨p, e1, e2⟩ := Option.map_eq_some_iff.mp h
  rw [List.getElem?_zipIdx] at e1
  obtain ⟨x, e3, e4⟩ := Option.map_eq_some_iff.mp e1
  refine ⟨x, e3, ?_⟩
  rw [← e2, ← e4]; simp
theorem di_enum {e : Expr} {p pos tpos : Pos} {elts : List Expr} {kk : Nat} {f : Env → Out (RV × Env)} (hg : Gl X "enumerate") (hm : X.mg "enumerate" = none) (ha : DE X c Wx e f) (hs : starEach [e] X.env = [(false, eval e X.env)] := by rfl) : DI X c Wx (.Tuple elts kk tpos) (.Call (.Name "enumerate" p) [e] [] pos) (dIt itemsE f) := by
  obtain ⟨t, pa, ka⟩ := ha.run
  refine ⟨_, pi_enum hg hm (pa_cons pa pa_nil hs) hs, fun F G env σ H Q R h => ?_⟩
  refine ka F G env σ H _ _ _ pl_I R h fun r env1 v G1 H1 R1 s1 rv h1 => ?_
  obtain ⟨d, ds, G', e1, sm, rp, k⟩ := frzItems_ok R1 s1 rv h1
  obtain ⟨es, e2, e3⟩ := Option.map_eq_some_iff.mp (show (itemsL d).map enumD = some ds from e1)
  subst e3
  obtain ⟨a, vs, rfl, sq, ra⟩ := rp.seqL e2
  refine ⟨a, vs, rfl, SqL.grow sm sq, k _ fun G2 i H2 s2 sm2 => ?_⟩
  have hh := SqL.grow (s2.trans sm2) sq
  refine ⟨fun z => ⟨vs, hh, by rw [ra.length]; simpa [enumD] using z⟩, fun d e => ?_⟩
  obtain ⟨x, ex, rfl⟩ := enumD_get e
  obtain ⟨v, ev, rv⟩ := ra.get ex
  refine ⟨⟨vs, v, hh, ev⟩, fun u H' y => ?_⟩
  obtain ⟨T, y1, rfl, hT, rfl, y2⟩ := y
  have := y2 vs hh
  rw [ev] at this; cases this
  exact Res.tup sm2 hT (.cons (.int _) (.cons (rv.mono (Le.of s2)) .nil))
/-- range -/
def itRange (lo : Int) (n : Nat) : List D := (List.range n).map fun k => .int (lo + (k : Nat))
theorem itRange_get {lo : Int} {n i : Nat} {d : D} (h : (itRange lo n)[i]? = some d) : i < n ∧ d = .int (lo + (i : Nat)) := by
  unfold itRange at h
  rw [List.getElem?_map] at h
  obtain ⟨p, e1, e2⟩ := Option.map_eq_some_iff.mp h
  obtain ⟨h1, h2⟩ := List.getElem?_eq_some_iff.mp e1
  rw [List.getElem_range] at h2
  rw [List.length_range] at h1
  exact ⟨h1, by rw [← e2, ← h2]⟩
theorem itw_range {W : Wd} {G : Hp} (lo : Int) (n : Nat) : ItW W G (Itr lo n) (itRange lo n) := fun G' i H s1 s2 => by
  refine ⟨fun z => by show n ≤ i; simpa [itRange] using z, fun d e => ?_⟩
  obtain ⟨h1, rfl⟩ := itRange_get e
  refine ⟨h1, fun x H' y => ?_⟩
  obtain ⟨rfl, rfl⟩ := y
  exact Res.same s2 (.int _)
def okR (j : Int) : Bool := decide (-4611686018427387904 ≤ j) && decide (j < 4611686018427387904)
theorem okR_ok {j : Int} (h : okR j = true) : -(2 ^ 62) ≤ j ∧ j < 2 ^ 62 := by
  obtain ⟨h1, h2⟩ := Bool.and_eq_true_iff.mp h
  have h1 := of_decide_eq_true h1
  have h2 := of_decide_eq_true h2
  exact ⟨by omega, by omega⟩
def dRng1 (f : Env → Out (RV × Env)) : Env → Out (List D × Env) := fun env => (f env).bind fun p => match optI p.1 p.2 with
  | some j => if okR j = true then .ok (itRange 0 j.toNat, p.2) else .st
  | none => .st
theorem optI_ok {W : Wd} {F : FrI} {G H : Hp} {env : Env} {σ : L2.St} {r : RV} {v : V} {j : Int} (R : Rel W F G env σ H) (pv : PV W G σ v r) (e : optI r env = some j) : v = .int j := by
  unfold optI at e
  cases e2 : resolve env r with
  | none => rw [e2] at e; cases e
  | some d =>
    rw [e2] at e
    cases d with
    | int j => cases e; exact (pv.vw R e2).int
    | _ => cases e
theorem di_range1 {tg e : Expr} {p pos : Pos} {f : Env → Out (RV × Env)} (hg : Gl X "range") (hm : X.mg "range" = none) (ha : DE X c Wx e f) (hs : starEach [e] X.env = [(false, eval e X.env)] := by rfl) : DI X c Wx tg (.Call (.Name "range" p) [e] [] pos) (dRng1 f) := by
  obtain ⟨t, pa, ka⟩ := ha.runP
  refine ⟨_, pi_range1 hg hm (pa_cons pa pa_nil hs) hs, fun F G env σ H Q R h => ?_⟩
  refine ka F G env σ H _ _ _ pl_I R h fun r env1 v G1 H1 R1 s1 rv h1 => ?_
  dsimp only at h1
  cases e1 : optI r env1 with
  | none => rw [e1] at h1; exact h1.elim
  | some j =>
    rw [e1] at h1
    dsimp only at h1
    by_cases z : okR j = true
    · rw [if_pos z] at h1
      obtain ⟨z1, z2⟩ := okR_ok z
      rw [optI_ok R1 rv e1]
      exact ⟨j, rfl, z1, z2, h1 _ G1 H1 R1 s1 (itw_range 0 _)⟩
    · rw [if_neg z] at h1; exact h1.elim
def dRng2 (f g : Env → Out (RV × Env)) : Env → Out (List D × Env) := fun env => (f env).bind fun p => (g p.2).bind fun q => match optI p.1 q.2, optI q.1 q.2 with
  | some i, some j => if (okR i && okR j) = true then .ok (itRange i (j - i).toNat, q.2) else .st
  | _, _ => .st
theorem di_range2 {tg e e2 : Expr} {p pos : Pos} {f g : Env → Out (RV × Env)} (hg : Gl X "range") (hm : X.mg "range" = none) (ha : DE X c Wx e f) (hb : DE X c Wx e2 g) (hs : starEach [e, e2] X.env = (false, eval e X.env) :: starEach [e2] X.env := by rfl) (hs2 : starEach [e2] X.env = [(false, eval e2 X.env)] := by rfl) : DI X c Wx tg (.Call (.Name "range" p) [e, e2] [] pos) (dRng2 f g) := by
  obtain ⟨t, pa, ka⟩ := ha.runP
  obtain ⟨t2, pb, kb⟩ := hb.runP
  refine ⟨_, pi_range2 hg hm (pa_cons pa (pa_cons pb pa_nil hs2) hs) (by rw [hs, hs2]) hs2, fun F G env σ H Q R h => ?_⟩
  refine ka F G env σ H _ _ _ pl_I R h fun r env1 v G1 H1 R1 s1 rv h1 => ?_
  refine kb F G1 env1 σ H1 _ _ _ (pl_I.grow s1) R1 h1 fun r2 env2 v2 G2 H2 R2 s2 rv2 h2 => ?_
  dsimp only at h2
  cases e1 : optI r env2 with
  | none => rw [e1] at h2; exact h2.elim
  | some i =>
    cases e3 : optI r2 env2 with
    | none => rw [e1, e3] at h2; exact h2.elim
    | some j =>
      rw [e1, e3] at h2
      dsimp only at h2
      by_cases z : (okR i && okR j) = true
      · rw [if_pos z] at h2
        obtain ⟨z1, z2⟩ := Bool.and_eq_true_iff.mp z
        rw [optI_ok R2 (rv.mono (Le.of s2)) e1, optI_ok R2 rv2 e3]
        exact ⟨i, j, rfl, ⟨(okR_ok z1).1, (okR_ok z1).2, (okR_ok z2).1, (okR_ok z2).2⟩, h2 _ G2 H2 R2 (s1.trans s2) (itw_range i _)⟩
      · rw [if_neg z] at h2; exact h2.elim
def itRangeC (lo c : Int) (n : Nat) : List D := (List.range n).map fun k => .int (lo + (k : Nat) * c)
theorem itw_rangeC {W : Wd} {G : Hp} (lo s : Int) (n : Nat) : ItW W G (Itc lo s n) (itRangeC lo s n) := fun G' i H s1 s2 => by
  refine ⟨fun z => by show n ≤ i; simpa [itRangeC] using z, fun d e => ?_⟩
  unfold itRangeC at e
  rw [List.getElem?_map] at e
  obtain ⟨p, e1, e2⟩ := Option.map_eq_some_iff.mp e
  obtain ⟨h1, h2⟩ := List.getElem?_eq_some_iff.mp e1
  rw [List.getElem_range] at h2
  rw [List.length_range] at h1
  refine ⟨h1, fun x H' y => ?_⟩
  obtain ⟨rfl, rfl⟩ := y
  rw [← e2, ← h2]
  exact Res.same s2 (.int _)
def okR3 (i j s : Int) : Bool := decide (s ≠ 0) && decide (s.natAbs < 1073741824) && Builtin.Range.small i j s && decide (Builtin.Range.rangeSize i j s = ((Builtin.Range.rangeSize i j s).toNat : Nat))
def dRng3 (f g h : Env → Out (RV × Env)) : Env → Out (List D × Env) := fun env => (f env).bind fun p => (g p.2).bind fun q => (h q.2).bind fun w => match optI p.1 w.2, optI q.1 w.2, optI w.1 w.2 with
  | some i, some j, some s => if okR3 i j s = true then .ok (itRangeC i s (Builtin.Range.rangeSize i j s).toNat, w.2) else .st
  | _, _, _ => .st
theorem di_range3 {tg e e2 e3 : Expr} {p pos : Pos} {f g h : Env → Out (RV × Env)} (hg : Gl X "range") (hm : X.mg "range" = none) (ha : DE X c Wx e f) (hb : DE X c Wx e2 g) (hc : DE X c Wx e3 h) (hs : starEach [e, e2, e3] X.env = (false, eval e X.env) :: starEach [e2, e3] X.env := by rfl) (hs1 : starEach [e2, e3] X.env = (false, eval e2 X.env) :: starEach [e3] X.env := by rfl) (hs2 : starEach [e3] X.env = [(false, eval e3 X.env)] := by rfl) (hs3 : ((backTo pos (starEach [e2, e3] X.env)).any fun x => x.fst) = false := by rfl) : DI X c Wx tg (.Call (.Name "range" p) [e, e2, e3] [] pos) (dRng3 f g h) := by
  obtain ⟨t, pa, ka⟩ := ha.runP
  obtain ⟨t2, pb, kb⟩ := hb.runP
  obtain ⟨t3, pc, kc⟩ := hc.runP
  refine ⟨_, pi_range3 hg hm (pa_cons pa (pa_cons pb (pa_cons pc pa_nil hs2) hs1) hs) hs hs3, fun F G env σ H Q R h => ?_⟩
  refine ka F G env σ H _ _ _ pl_I R h fun r env1 v G1 H1 R1 s1 rv h1 => ?_
  refine kb F G1 env1 σ H1 _ _ _ (pl_I.grow s1) R1 h1 fun r2 env2 v2 G2 H2 R2 s2 rv2 h2 => ?_
  refine kc F G2 env2 σ H2 _ _ _ (pl_I.grow (s1.trans s2)) R2 h2 fun r3 env3 v3 G3 H3 R3 s3 rv3 h3 => ?_
  dsimp only at h3
  cases e1 : optI r env3 with
  | none => rw [e1] at h3; exact h3.elim
  | some i =>
    cases e2 : optI r2 env3 with
    | none => rw [e1, e2] at h3; exact h3.elim
    | some j =>
      cases e3 : optI r3 env3 with
      | none => rw [e1, e2, e3] at h3; exact h3.elim
      | some k =>
        rw [e1, e2, e3] at h3
        dsimp only at h3
        by_cases z : okR3 i j k = true
        · rw [if_pos z] at h3
          unfold okR3 at z
          obtain ⟨z, z4⟩ := Bool.and_eq_true_iff.mp z
          obtain ⟨z, z3⟩ := Bool.and_eq_true_iff.mp z
          obtain ⟨z1, z2⟩ := Bool.and_eq_true_iff.mp z
          rw [optI_ok R3 (rv.mono (Le.of (s2.trans s3))) e1, optI_ok R3 (rv2.mono (Le.of s3)) e2, optI_ok R3 rv3 e3]
          exact ⟨i, j, k, _, rfl, ⟨of_decide_eq_true z1, of_decide_eq_true z2, z3, of_decide_eq_true z4⟩, h3 _ G3 H3 R3 ((s1.trans s2).trans s3) (itw_rangeC i k _)⟩
        · rw [if_neg z] at h3; exact h3.elim
/-- reversed(xs) -/
def itemsRev (d : D) : Option (List D) := (itemsL d).map List.reverse
theorem di_reversed {tg e : Expr} {p pos : Pos} {f : Env → Out (RV × Env)} (hg : Gl X "reversed") (hm : X.mg "reversed" = none) (ha : DE X c Wx e f) (hs : starEach [e] X.env = [(false, eval e X.env)] := by rfl) : DI X c Wx tg (.Call (.Name "reversed" p) [e] [] pos) (dIt itemsRev f) := by
  obtain ⟨t, pa, ka⟩ := ha.run
  refine ⟨_, pi_reversed hg hm (pa_cons pa pa_nil hs) hs, fun F G env σ H Q R h => ?_⟩
  refine ka F G env σ H _ _ _ pl_I R h fun r env1 v G1 H1 R1 s1 rv h1 => ?_
  obtain ⟨d, ds, G', e1, sm, rp, k⟩ := frzItems_ok R1 s1 rv h1
  obtain ⟨es, e2, e3⟩ := Option.map_eq_some_iff.mp (show (itemsL d).map List.reverse = some ds from e1)
  subst e3
  obtain ⟨a, vs, rfl, sq, ra⟩ := rp.seqL e2
  refine ⟨a, vs, rfl, SqL.grow sm sq, k _ fun G2 i H2 s2 sm2 => ?_⟩
  have hh := SqL.grow (s2.trans sm2) sq
  refine ⟨fun z => by show vs.length ≤ i; rw [ra.length]; simpa using z, fun d e => ?_⟩
  have hi : i < es.length := by have := (List.getElem?_eq_some_iff.mp e).1; simpa using this
  have e' : es[vs.length - 1 - i]? = some d := by rw [ra.length, ← List.getElem?_reverse hi]; exact e
  obtain ⟨v, ev, rv⟩ := ra.get e'
  refine ⟨⟨by rw [ra.length]; exact hi, vs, v, hh, ev⟩, fun u H' y => ?_⟩
  obtain ⟨rfl, y2⟩ := y
  have := y2 vs hh
  rw [ev] at this; cases this
  exact Res.same sm2 (rv.mono (Le.of s2))
/-- the letters of a text -/
def itemsS (d : D) : Option (List D) := match d with
  | .str x => some (x.cps.toList.map fun ch => .str ⟨#[ch]⟩)
  | _ => none
theorem di_str {tg e : Expr} {f : Env → Out (RV × Env)} (ha : DE X c Wx e f) : DI X c Wx tg e (dIt itemsS f) := by
  obtain ⟨t, pa, ka⟩ := ha.run
  refine ⟨_, pi_str pa, fun F G env σ H Q R h => ?_⟩
  refine ka F G env σ H _ _ _ pl_I R h fun r env1 v G1 H1 R1 s1 rv h1 => ?_
  obtain ⟨d, ds, G', e1, sm, rp, k⟩ := frzItems_ok R1 s1 rv h1
  unfold itemsS at e1
  split at e1
  · rename_i x
    cases e1
    cases rp
    refine ⟨x, rfl, k _ fun G2 i H2 s2 sm2 => ⟨fun z => by show x.cps.size ≤ i; simpa using z, fun d e => ?_⟩⟩
    rw [List.getElem?_map] at e
    obtain ⟨ch, e3, e4⟩ := Option.map_eq_some_iff.mp e
    rw [Array.getElem?_toList] at e3
    refine ⟨(Array.getElem?_eq_some_iff.mp e3).1, fun u H' y => ?_⟩
    obtain ⟨rfl, ch', e5, rfl⟩ := y
    rw [e3] at e5; cases e5
    rw [← e4]
    exact Res.same sm2 (.str _)
  · cases e1
end
end VS
namespace VS
open PySem PySem.Spec PyProof.Rows L2
/-! ### slots forgotten and brought back -/
def wipeE (env : Env) : List Nat → Env
  | [] => env
  | i :: r => (wipeE env r).set i none
def frzC (env : Env) (i : Nat) : Option (D × Ow) := match env[i]? with
  | some (some (d, .frz)) => some (d, .frz)
  | _ => none
def restE (env0 env : Env) : List Nat → Env
  | [] => env
  | i :: r => (restE env0 env r).set i (frzC env0 i)
section
variable {W : Wd} {F : FrI} {G H : Hp} {env : Env} {σ : L2.St}
theorem wipe_len : ∀ (σ : L2.St) (vs : List Nat), (wipe σ vs).length = σ.length
  | _, [] => rfl
  | σ, i :: r => by show ((wipe σ r).set i none).length = _; rw [List.length_set, wipe_len σ r]
theorem wipe_out : ∀ (σ : L2.St) (vs : List Nat) (j : Nat), j ∉ vs → (wipe σ vs)[j]? = σ[j]?
  | _, [], _, _ => rfl
  | σ, i :: r, j, h => by
    show ((wipe σ r).set i none)[j]? = _
    rw [List.getElem?_set_ne (fun e : i = j => by subst e; exact h List.mem_cons_self), wipe_out σ r j fun m => h (List.mem_cons_of_mem _ m)]
theorem wipe_in : ∀ (σ : L2.St) (vs : List Nat) (j : Nat), j ∈ vs → (wipe σ vs)[j]? = if j < σ.length then some none else none
  | σ, i :: r, j, h => by
    show ((wipe σ r).set i none)[j]? = _
    by_cases e : i = j
    · subst e
      by_cases hl : i < σ.length
      · rw [if_pos hl, List.getElem?_set_self (by rw [wipe_len]; exact hl)]
      · rw [if_neg hl, List.getElem?_eq_none (by rw [List.length_set, wipe_len]; omega)]
    · rw [List.getElem?_set_ne e]
      exact wipe_in σ r j ((List.mem_cons.mp h).resolve_left fun z => e z.symm)
theorem wipe_ext {σ σ' : L2.St} {vs : List Nat} (hl : σ'.length = σ.length) (h : ∀ j, j ∉ vs → σ'[j]? = σ[j]?) : wipe σ' vs = wipe σ vs := by
  apply List.ext_getElem?
  intro j
  by_cases m : j ∈ vs
  · rw [wipe_in _ _ _ m, wipe_in _ _ _ m, hl]
  · rw [wipe_out _ _ _ m, wipe_out _ _ _ m, h j m]
theorem wipe_chg {σ σ' : L2.St} {vs js : List Nat} (h : Chg js (wipe σ vs) σ') (hj : ∀ j ∈ js, j ∈ vs) : wipe σ' vs = wipe σ vs := by
  refine wipe_ext (by rw [h.1, wipe_len]) fun j m => ?_
  rw [h.2 j fun z => m (hj j z), wipe_out _ _ _ m]
theorem wipe_outside {σ σ' : L2.St} {vs : List Nat} (h : wipe σ' vs = wipe σ vs) {j : Nat} (m : j ∉ vs) : σ'[j]? = σ[j]? := by
  rw [← wipe_out σ' vs j m, h, wipe_out σ vs j m]
theorem wipeE_get {env : Env} : ∀ {vs : List Nat} {j : Nat} {c : D × Ow}, (wipeE env vs)[j]? = some (some c) → j ∉ vs ∧ env[j]? = some (some c)
  | [], _, _, e => ⟨by simp, e⟩
  | i :: r, j, c, e => by
    rcases set_of (show ((wipeE env r).set i none)[j]? = _ from e) with ⟨_, z⟩ | ⟨n, e⟩
    · cases z
    · obtain ⟨m, e⟩ := wipeE_get e
      exact ⟨fun z => (List.mem_cons.mp z).elim (fun q => n q.symm) m, e⟩
theorem Rel.wipe (R : Rel W F G env σ H) : ∀ {vs : List Nat}, (∀ i ∈ vs, notIo i env = true) → Rel W F G (wipeE env vs) (L2.wipe σ vs) H
  | [], _ => R
  | i :: r, h => by
    refine (Rel.wipe R (vs := r) fun j hj => h j (List.mem_cons_of_mem _ hj)).drop (v := none) fun d' e => ?_
    exact notIo_ok (h i List.mem_cons_self) d' (wipeE_get e).2
theorem restE_get {env0 env : Env} : ∀ {vs : List Nat} {j : Nat} {c : D × Ow}, (restE env0 env vs)[j]? = some (some c) → (j ∈ vs ∧ frzC env0 j = some c) ∨ (j ∉ vs ∧ env[j]? = some (some c))
  | [], _, _, e => .inr ⟨by simp, e⟩
  | i :: r, j, c, e => by
    rcases set_of (show ((restE env0 env r).set i (frzC env0 i))[j]? = _ from e) with ⟨rfl, z⟩ | ⟨n, e⟩
    · exact .inl ⟨List.mem_cons_self, z⟩
    · rcases restE_get e with ⟨m, e⟩ | ⟨m, e⟩
      · exact .inl ⟨List.mem_cons_of_mem _ m, e⟩
      · exact .inr ⟨fun z => (List.mem_cons.mp z).elim (fun q => n q.symm) m, e⟩
theorem restE_out {env0 env : Env} : ∀ {vs : List Nat} {j : Nat}, j ∉ vs → (restE env0 env vs)[j]? = env[j]?
  | [], _, _ => rfl
  | i :: r, j, h => by
    show ((restE env0 env r).set i (frzC env0 i))[j]? = _
    rw [List.getElem?_set_ne (fun e : i = j => by subst e; exact h List.mem_cons_self), restE_out fun m => h (List.mem_cons_of_mem _ m)]
theorem restE_len {env0 env : Env} : ∀ {vs : List Nat}, (restE env0 env vs).length = env.length
  | [] => rfl
  | i :: r => by show ((restE env0 env r).set i (frzC env0 i)).length = _; rw [List.length_set, restE_len]
theorem restE_in {env0 env : Env} : ∀ {vs : List Nat} {j : Nat}, j ∈ vs → (restE env0 env vs)[j]? = if j < env.length then some (frzC env0 j) else none
  | i :: r, j, h => by
    show ((restE env0 env r).set i (frzC env0 i))[j]? = _
    by_cases e : i = j
    · subst e
      by_cases hl : i < env.length
      · rw [if_pos hl, List.getElem?_set_self (by rw [restE_len]; exact hl)]
      · rw [if_neg hl, List.getElem?_eq_none (by rw [List.length_set, restE_len]; omega)]
    · rw [List.getElem?_set_ne e]
      exact restE_in ((List.mem_cons.mp h).resolve_left fun z => e z.symm)
theorem wipeE_len {env : Env} : ∀ {vs : List Nat}, (wipeE env vs).length = env.length
  | [] => rfl
  | i :: r => by show ((wipeE env r).set i none).length = _; rw [List.length_set, wipeE_len]
theorem wipeE_out {env : Env} : ∀ {vs : List Nat} {j : Nat}, j ∉ vs → (wipeE env vs)[j]? = env[j]?
  | [], _, _ => rfl
  | i :: r, j, h => by
    show ((wipeE env r).set i none)[j]? = _
    rw [List.getElem?_set_ne (fun e : i = j => by subst e; exact h List.mem_cons_self), wipeE_out fun m => h (List.mem_cons_of_mem _ m)]
theorem restE_wipe {env0 env : Env} {vs : List Nat} : restE env0 (wipeE env vs) vs = restE env0 env vs := by
  apply List.ext_getElem?
  intro j
  by_cases m : j ∈ vs
  · rw [restE_in m, restE_in m, wipeE_len]
  · rw [restE_out m, restE_out m, wipeE_out m]
theorem wipeE_notIo {env : Env} {vs : List Nat} {i : Nat} (m : i ∈ vs) : VS.notIo i (wipeE env vs) = true := by
  unfold VS.notIo
  split
  · rename_i d e; exact absurd m (wipeE_get e).1
  · rfl
theorem frzC_eq {env : Env} {i : Nat} {c : D × Ow} (h : frzC env i = some c) : c.2 = .frz ∧ env[i]? = some (some c) := by
  unfold frzC at h
  split at h
  · rename_i e; cases h; exact ⟨rfl, e⟩
  · cases h
theorem Rel.notIo {G0 H0 : Hp} {env0 : Env} {σ0 : L2.St} (R0 : Rel W F G0 env0 σ0 H0) (R : Rel W F G env σ H) {i : Nat} (h : VS.notIo i env0 = true) : VS.notIo i env = true := by
  unfold VS.notIo
  split
  · rename_i d e
    obtain ⟨v, _, a, _, m, _⟩ := R.cells i _ e
    obtain ⟨_, _, d', e'⟩ := R0.ioc _ m
    exact absurd e' (notIo_ok h d')
  · rfl
/-- behind a comprehension: the slots as before -/
theorem Rel.mix {G0 H0 : Hp} {env0 env2 : Env} {σ2 : L2.St} {vs : List Nat} (R0 : Rel W F G0 env0 σ H0) (R2 : Rel W F G env2 σ2 H) (s : Same G0 G) (hw : L2.wipe σ2 vs = L2.wipe σ vs) (hn : ∀ i ∈ vs, VS.notIo i env0 = true) : Rel W F G (restE env0 env2 vs) σ H := by
  have hl : σ2.length = σ.length := by rw [← wipe_len σ2 vs, hw, wipe_len]
  have own : ∀ (j : Nat) (c : D × Ow), (restE env0 env2 vs)[j]? = some (some c) → c.2 ≠ .frz → j ∉ vs ∧ env2[j]? = some (some c) ∧ σ2[j]? = σ[j]? := fun j c e nf => by
    rcases restE_get e with ⟨m, e⟩ | ⟨m, e⟩
    · exact absurd (frzC_eq e).1 nf
    · exact ⟨m, e, wipe_outside hw m⟩
  refine ⟨R2.same, R2.g0, R2.gE, R2.out, R2.dom, fun j c e => ?_, fun j k cj ck a n ej ek nj nk => ?_, fun p hp => ?_, by rw [restE_len, R2.len, hl]⟩
  · rcases restE_get e with ⟨m, e⟩ | ⟨m, e⟩
    · obtain ⟨c1, c2⟩ := c
      obtain ⟨e1, e2⟩ := frzC_eq e
      cases e1
      obtain ⟨v, hv, ok⟩ := R0.cells j _ e2
      exact ⟨v, hv, Rp.mono (Le.of s) ok⟩
    · obtain ⟨v, hv, ok⟩ := R2.cells j c e
      exact ⟨v, by rw [← wipe_outside hw m]; exact hv, ok⟩
  · obtain ⟨_, ej, e1⟩ := own j cj ej nj
    obtain ⟨_, ek, e2⟩ := own k ck ek nk
    rw [← e1, ← e2]
    exact R2.dis j k cj ck a n ej ek nj nk
  · obtain ⟨e1, e2, d, e3⟩ := R2.ioc p hp
    have m : p.1 ∉ vs := fun m => by
      obtain ⟨_, _, d', e4⟩ := R0.ioc p hp
      exact notIo_ok (hn _ m) d' e4
    exact ⟨e1, by rw [← wipe_outside hw m]; exact e2, d, by rw [restE_out m]; exact e3⟩
/-! ### an object under construction -/
def lockF (F : FrI) (p : Addr) (o : HO) : FrI := { F with E := upd F.E p o }
theorem Rel.lock (R : Rel W F G env σ H) {p : Addr} {o : HO} (hp : H p = none) : Rel W (lockF F p o) G env σ (upd H p o) := by
  have hg := R.same.free hp
  refine ⟨R.same.trans (same_new hp), R.g0, fun a e => ?_, fun a u e n => ?_, fun a e => ?_, fun i c e => ?_, R.dis, fun q hq => ?_, R.len⟩
  · by_cases z : a = p
    · subst z; rw [hg]; exact (R.g0.free hg).symm
    · exact R.gE a (by rw [← upd_ne (H := F.E) (o := o) z]; exact e)
  · by_cases z : a = p
    · subst z
      have e' : upd F.E a o a = some u := e
      rw [upd_same] at e' ⊢; exact e'
    · have e' : upd F.E p o a = some u := e
      rw [upd_ne z] at e' ⊢; exact R.out a u e' n
  · by_cases z : a = p
    · subst z; rw [upd_same] at e; cases e
    · show upd F.E p o a = none
      rw [upd_ne z] at e ⊢; exact R.dom a e
  · obtain ⟨v, hv, ok⟩ := R.cells i c e
    refine ⟨v, hv, ?_⟩
    obtain ⟨d, ow⟩ := c
    cases ow with
    | frz => exact ok
    | own =>
      obtain ⟨a, e1, e2, e3⟩ := ok
      obtain ⟨_, u, hu, _⟩ := id e3
      have : a ≠ p := ne_of_none hu hp
      exact ⟨a, e1, by show upd F.E p o a = none; rw [upd_ne this]; exact e2, e3.heap fun u h => same_new hp a u h⟩
    | io =>
      obtain ⟨a, e1, e2, e3⟩ := ok
      exact ⟨a, e1, e2, e3.heap fun u h => same_new hp a u h⟩
  · obtain ⟨e1, e2, e3⟩ := R.ioc q hq
    refine ⟨?_, e2, e3⟩
    show upd F.E p o q.2 ≠ none
    by_cases z : q.2 = p
    · rw [z, upd_same]; intro q; cases q
    · rw [upd_ne z]; exact e1
/-- what a locked frame knows of the place -/
structure Lk (F : FrI) (p : Addr) : Prop where
  e : F.E p = none
  g : F.G0 p = none
theorem Rel.lk (R : Rel W F G env σ H) {p : Addr} (hp : H p = none) : Lk F p := ⟨R.dom p hp, R.g0.free (R.same.free hp)⟩
theorem Lk.io {p : Addr} (L : Lk F p) {G' H' : Hp} {env' : Env} {σ' : L2.St} {o : HO} (R : Rel W (lockF F p o) G' env' σ' H') (h : ∀ q ∈ F.ios, F.E q.2 ≠ none) : p ∉ F.ios.map (·.2) := fun m => by
  obtain ⟨q, hq, e⟩ := List.mem_map.mp m
  exact h q hq (by rw [e]; exact L.e)
theorem Rel.at {p : Addr} {o : HO} (R : Rel W (lockF F p o) G env σ H) (L : Lk F p) (hi : p ∉ F.ios.map (·.2)) : H p = some o ∧ G p = none :=
  ⟨R.out p o upd_same hi, by rw [R.gE p (by show upd F.E p o p ≠ none; rw [upd_same]; intro z; cases z)]; exact L.g⟩
theorem Rel.relock {p : Addr} {o o' : HO} (R : Rel W (lockF F p o) G env σ H) (L : Lk F p) (hi : p ∉ F.ios.map (·.2)) : Rel W (lockF F p o') G env σ (upd H p o') := by
  obtain ⟨hp, hg⟩ := R.at L hi
  have ee : ∀ a, (lockF F p o').E a ≠ none → (lockF F p o).E a ≠ none := fun a e => by
    by_cases z : a = p
    · subst z; show upd F.E a o a ≠ none; rw [upd_same]; intro q; cases q
    · have e' : upd F.E p o' a ≠ none := e
      show upd F.E p o a ≠ none
      rw [upd_ne z] at e' ⊢; exact e'
  have notp : ∀ {a : Addr} {d : D}, Own W G H a d → (F.E a = none → (lockF F p o).E a = none) → (lockF F p o).E a = none ∨ (a ∈ F.ios.map (·.2)) → a ≠ p := fun {a d} _ _ h z => by
    subst z
    rcases h with h | h
    · have h' : upd F.E a o a = none := h
      rw [upd_same] at h'; cases h'
    · exact hi h
  refine ⟨fun b u e => ?_, R.g0, fun a e => R.gE a (ee a e), fun a u e n => ?_, fun a e => ?_, fun i c e => ?_, R.dis, fun q hq => ?_, R.len⟩
  · rw [upd_ne (ne_of_none e hg)]; exact R.same b u e
  · by_cases z : a = p
    · subst z
      have e' : upd F.E a o' a = some u := e
      rw [upd_same] at e' ⊢; exact e'
    · have e' : upd F.E p o' a = some u := e
      rw [upd_ne z] at e' ⊢
      exact R.out a u (by show upd F.E p o a = some u; rw [upd_ne z]; exact e') n
  · by_cases z : a = p
    · subst z; rw [upd_same] at e; cases e
    · rw [upd_ne z] at e
      have := R.dom a e
      have h' : upd F.E p o a = none := this
      show upd F.E p o' a = none
      rw [upd_ne z] at h' ⊢; exact h'
  · obtain ⟨v, hv, ok⟩ := R.cells i c e
    refine ⟨v, hv, ?_⟩
    obtain ⟨d, ow⟩ := c
    cases ow with
    | frz => exact ok
    | own =>
      obtain ⟨a, e1, e2, e3⟩ := ok
      have : a ≠ p := fun z => by
        subst z
        have h' : upd F.E a o a = none := e2
        rw [upd_same] at h'; cases h'
      have e2' : upd F.E p o a = none := e2
      rw [upd_ne this] at e2'
      exact ⟨a, e1, by show upd F.E p o' a = none; rw [upd_ne this]; exact e2', e3.heap fun u h => by rw [upd_ne this]; exact h⟩
    | io =>
      obtain ⟨a, e1, e2, e3⟩ := ok
      have : a ≠ p := fun z => hi (List.mem_map.mpr ⟨_, e2, z⟩)
      exact ⟨a, e1, e2, e3.heap fun u h => by rw [upd_ne this]; exact h⟩
  · obtain ⟨e1, e2, e3⟩ := R.ioc q hq
    refine ⟨?_, e2, e3⟩
    have : q.2 ≠ p := fun z => hi (List.mem_map.mpr ⟨q, hq, z⟩)
    have e1' : upd F.E p o q.2 ≠ none := e1
    show upd F.E p o' q.2 ≠ none
    rw [upd_ne this] at e1' ⊢; exact e1'
theorem Rel.unlock {p : Addr} {o : HO} (R : Rel W (lockF F p o) G env σ H) (L : Lk F p) (hi : p ∉ F.ios.map (·.2)) : Rel W F G env σ H ∧ Free env σ p := by
  obtain ⟨hp, hg⟩ := R.at L hi
  have nE : ∀ {a : Addr}, F.E a ≠ none → a ≠ p := fun {a} e z => by subst z; exact e L.e
  refine ⟨⟨R.same, R.g0, fun a e => R.gE a ?_, fun a u e n => R.out a u ?_ n, fun a e => ?_, fun i c e => ?_, R.dis, fun q hq => ?_, R.len⟩, fun j c e nf z => ?_⟩
  · show upd F.E p o a ≠ none; rw [upd_ne (nE e)]; exact e
  · show upd F.E p o a = some u; rw [upd_ne (nE (by rw [e]; intro z; cases z))]; exact e
  · by_cases z : a = p
    · rw [z]; exact L.e
    · have h' : upd F.E p o a = none := R.dom a e
      rw [upd_ne z] at h'; exact h'
  · obtain ⟨v, hv, ok⟩ := R.cells i c e
    refine ⟨v, hv, ?_⟩
    obtain ⟨d, ow⟩ := c
    cases ow with
    | frz => exact ok
    | own =>
      obtain ⟨a, e1, e2, e3⟩ := ok
      have e2' : upd F.E p o a = none := e2
      have : a ≠ p := fun z => by subst z; rw [upd_same] at e2'; cases e2'
      rw [upd_ne this] at e2'
      exact ⟨a, e1, e2', e3⟩
    | io => exact ok
  · obtain ⟨e1, e2, e3⟩ := R.ioc q hq
    refine ⟨?_, e2, e3⟩
    have : q.2 ≠ p := fun z => hi (List.mem_map.mpr ⟨q, hq, z⟩)
    have e1' : upd F.E p o q.2 ≠ none := e1
    rw [upd_ne this] at e1'; exact e1'
  · obtain ⟨v, hv, ok⟩ := R.cells j c e
    rw [z] at hv; cases hv
    obtain ⟨d, ow⟩ := c
    cases ow with
    | frz => exact nf rfl
    | own =>
      obtain ⟨a, e1, e2, e3⟩ := ok
      cases e1
      have e2' : upd F.E p o p = none := e2
      rw [upd_same] at e2'; cases e2'
    | io =>
      obtain ⟨a, e1, e2, e3⟩ := ok
      cases e1
      exact hi (List.mem_map.mpr ⟨_, e2, rfl⟩)
theorem Rel.iosE (R : Rel W F G env σ H) : ∀ q ∈ F.ios, F.E q.2 ≠ none := fun q hq => (R.ioc q hq).1
theorem Lk.no {p : Addr} (L : Lk F p) (h : ∀ q ∈ F.ios, F.E q.2 ≠ none) : p ∉ F.ios.map (·.2) := fun m => by
  obtain ⟨q, hq, e⟩ := List.mem_map.mp m
  exact h q hq (by rw [e]; exact L.e)
end
/-! ### one transformer for all blocks -/
abbrev wxN : WX := fun _ _ _ _ => False
def tCanE (W : Wd) (f : Env → Out (RV × Env)) : TE := fun σ H Q => ∃ F G env, Rel W F G env σ H ∧ EPost W wxN F G σ Q (f env)
def tCanT (W : Wd) (f : Env → Out (Bool × Env)) : TT := fun σ H Q => ∃ F G env, Rel W F G env σ H ∧ TPost W wxN F G σ Q (f env)
def tCanG (W : Wd) (js : List Nat) (g : RV → Env → Out Env) : TG := fun v σ H Q => ∃ F G env r, Rel W F G env σ H ∧ RVok W F G env σ H v r ∧ GPost W wxN F G σ js Q (g r env)
def tCanI (W : Wd) (f : Env → Out (List D × Env)) : TI := fun σ H Q => ∃ F G env, Rel W F G env σ H ∧ IPost W wxN F G σ Q (f env)
section
variable {X : Cx} {c : Nat → Value} {Wx : WX}
theorem DE.can {W : Wd} {e : Expr} {f : Env → Out (RV × Env)} (h : DE X c wxN e f) (hW : wd X c = W) : PE X e (tCanE W f) := by
  subst hW
  obtain ⟨t, pe, k⟩ := h.ex
  exact ⟨fun pins s σ H Q I ⟨F, G, env, R, p⟩ => pe.run pins s σ H Q I (k F G env σ H Q R p)⟩
theorem DT.can {W : Wd} {e : Expr} {f : Env → Out (Bool × Env)} (h : DT X c wxN e f) (hW : wd X c = W) : PT X e (tCanT W f) := by
  subst hW
  obtain ⟨t, pe, k⟩ := h.ex
  exact ⟨fun pins s σ H Q I ⟨F, G, env, R, p⟩ => pe.run pins s σ H Q I (k F G env σ H Q R p)⟩
theorem DG.can {W : Wd} {e : Expr} {js : List Nat} {g : RV → Env → Out Env} (h : DG X c wxN e js g) (hW : wd X c = W) : PG X e (tCanG W js g) := by
  subst hW
  obtain ⟨t, pe, k⟩ := h.ex
  exact ⟨fun pins s σ H v u Q I rv ⟨F, G, env, r, R, ok, p⟩ => pe.run pins s σ H v u Q I rv (k F G env σ H v r Q R ok p)⟩
theorem DI.can {W : Wd} {tg e : Expr} {f : Env → Out (List D × Env)} (h : DI X c wxN tg e f) (hW : wd X c = W) : PI X tg e (tCanI W f) := by
  subst hW
  obtain ⟨t, pe, k⟩ := h.ex
  exact ⟨fun pins s σ H Q I ⟨F, G, env, R, p⟩ => pe.run pins s σ H Q I (k F G env σ H Q R p)⟩
theorem epost_bind {W : Wd} {F : FrI} {G : Hp} {σ : L2.St} {α : Type} {o : Out (RV × Env)} {k : RV × Env → Out α} {post : Out α → Prop} {Q : VK} (pl : PL W Wx F G σ post) (hp : post (o.bind k))
    (hk : ∀ r env' v G' H', Rel W F G' env' σ H' → Same G G' → RVok W F G' env' σ H' v r → post (k (r, env')) → Q v H') : EPost W Wx F G σ Q o := by
  cases o with
  | ok p => exact fun v G' H' R' s r => hk _ _ v G' H' R' s r hp
  | ex x env' => exact fun G' H' cls dx R' s r => pl.ex x env' hp G' H' cls dx R' s r
  | st => exact pl.st hp
theorem tpost_bind {W : Wd} {F : FrI} {G : Hp} {σ : L2.St} {α : Type} {o : Out (Bool × Env)} {k : Bool × Env → Out α} {post : Out α → Prop} {Q : Bool → Hp → Prop} (pl : PL W Wx F G σ post) (hp : post (o.bind k))
    (hk : ∀ r env' G' H', Rel W F G' env' σ H' → Same G G' → post (k (r, env')) → Q r H') : TPost W Wx F G σ Q o := by
  cases o with
  | ok p => exact fun G' H' R' s => hk _ _ G' H' R' s hp
  | ex x env' => exact fun G' H' cls dx R' s r => pl.ex x env' hp G' H' cls dx R' s r
  | st => exact pl.st hp
theorem ipost_bind {W : Wd} {F : FrI} {G : Hp} {σ : L2.St} {α : Type} {o : Out (List D × Env)} {k : List D × Env → Out α} {post : Out α → Prop} {Q : It → Hp → Prop} (pl : PL W Wx F G σ post) (hp : post (o.bind k))
    (hk : ∀ ds env' J G' H', Rel W F G' env' σ H' → Same G G' → ItW W G' J ds → post (k (ds, env')) → Q J H') : IPost W Wx F G σ Q o := by
  cases o with
  | ok p => exact fun J G' H' R' s r => hk _ _ J G' H' R' s r hp
  | ex x env' => exact fun G' H' cls dx R' s r => pl.ex x env' hp G' H' cls dx R' s r
  | st => exact pl.st hp
/-! ### [e for x in xs if t] -/
def noEx {α : Type} : Out α → Out α
  | .ex _ _ => .st
  | o => o
/-- the tests of a comprehension -/
def tNoIf : Env → Out (Bool × Env) := fun env => .ok (true, env)
structure DIfs (X : Cx) (c : Nat → Value) (ifs : List Expr) (f : Env → Out (Bool × Env)) : Prop where
  ex : ∃ t, PTs X ifs t ∧ ∀ F G env σ H Q, Rel (wd X c) F G env σ H → TPost (wd X c) wxN F G σ Q (f env) → t σ H Q
theorem difs_nil : DIfs X c [] tNoIf := ⟨_, pts_nil, fun F G env σ H Q R h => h G H R (Same.refl G)⟩
theorem difs_one {e : Expr} {f : Env → Out (Bool × Env)} (h : DT X c wxN e f) : DIfs X c [e] f := by
  obtain ⟨t, p, k⟩ := h.ex
  exact ⟨t, pts_one p, k⟩
theorem DIfs.can {W : Wd} {e : List Expr} {f : Env → Out (Bool × Env)} (h : DIfs X c e f) (hW : wd X c = W) : PTs X e (tCanT W f) := by
  subst hW
  obtain ⟨t, pe, k⟩ := h.ex
  exact ⟨fun pins s σ H Q I ⟨F, G, env, R, p⟩ => pe.run pins s σ H Q I (k F G env σ H Q R p)⟩
/-- one turn: the target, the test, then what is done with the turn -/
def lcTurn (vs : List Nat) (g : RV → Env → Out Env) (t : Env → Out (Bool × Env)) (d : D) (env : Env) : Out (Bool × Env) := (g (.fz d) (wipeE env vs)).bind t
def lcL (vs : List Nat) (g : RV → Env → Out Env) (t : Env → Out (Bool × Env)) (f : Env → Out (RV × Env)) : List D → List D → Env → Out (List D × Env)
  | [], acc, env => .ok (acc, env)
  | d :: ds, acc, env => (lcTurn vs g t d env).bind fun p => if p.1 = true then (f p.2).bind fun q => match freezeR q.2 q.1 with
      | some (y, e2) => if lt24 acc.length = true then lcL vs g t f ds (acc ++ [y]) e2 else .st
      | none => .st
    else lcL vs g t f ds acc p.2
def allNotIo (vs : List Nat) (env : Env) : Bool := vs.all fun i => notIo i env
def dLc (vs : List Nat) (it : Env → Out (List D × Env)) (g : RV → Env → Out Env) (t : Env → Out (Bool × Env)) (f : Env → Out (RV × Env)) : Env → Out (RV × Env) := fun env => (it env).bind fun p =>
  if allNotIo vs p.2 = true then (noEx (lcL vs g t f p.1 [] p.2)).bind fun q => .ok (.fr (.lst q.1), restE p.2 q.2 vs) else .st
theorem pl_no {W : Wd} {F F' : FrI} {G G' : Hp} {σ σ' : L2.St} {α β : Type} {post : Out β → Prop} {k : α → Out β} (pl : PL W Wx F G σ post) : PL W wxN F' G' σ' (fun o => post ((noEx o).bind k)) := ⟨pl.st, fun _ _ h => (pl.st h).elim⟩
/-- a comprehension's walk of a turn, after the canonical transformers -/
theorem lc_turn {W : Wd} {F : FrI} {G H : Hp} {env : Env} {σ : L2.St} {α : Type} {vs js : List Nat} {g : RV → Env → Out Env} {t : Env → Out (Bool × Env)} {d : D} {x : V} {post : Out α → Prop} {k : Bool × Env → Out α} {Q : L2.St → Bool → Hp → Prop} (hj : ∀ j ∈ js, j ∈ vs) (R : Rel W F G (wipeE env vs) (wipe σ vs) H) (rv : Rp W G x d)
    (pl : ∀ {G' σ'}, Same G G' → PL W wxN F G' σ' post) (hp : post ((lcTurn vs g t d env).bind k))
    (hk : ∀ b σ2 G' env' H', wipe σ2 vs = wipe σ vs → Rel W F G' env' σ2 H' → Same G G' → post (k (b, env')) → Q σ2 b H') :
    tCanG W js g x (wipe σ vs) H fun σ2 H2 => wipe σ2 vs = wipe σ vs ∧ tCanT W t σ2 H2 fun b H3 => Q σ2 b H3 := by
  refine ⟨F, G, wipeE env vs, .fz d, R, rv, ?_⟩
  unfold lcTurn at hp
  rw [bind_assoc] at hp
  cases e : g (.fz d) (wipeE env vs) with
  | st => rw [e] at hp; exact (pl (G' := G) (σ' := σ) (Same.refl G)).st hp
  | ex y e' =>
    rw [e] at hp
    exact fun σ' G' H' cls dx R1 s1 ok => (pl (G' := G) (σ' := σ') (Same.refl G)).ex y e' hp G' H' cls dx R1 s1 ok
  | ok e1 =>
    rw [e] at hp
    intro σ2 G2 H2 R2 s2 ch
    refine ⟨wipe_chg ch hj, F, G2, e1, R2, ?_⟩
    refine tpost_bind (α := α) (k := k) (post := post) (pl s2) hp fun b env' G3 H3 R3 s3 h3 => ?_
    exact hk b σ2 G3 env' H3 (wipe_chg ch hj) R3 (s2.trans s3) h3
theorem lc_walk {W : Wd} {F : FrI} {G H : Hp} {env : Env} {σ : L2.St} {Q : VK} {vs js : List Nat} {it : Env → Out (List D × Env)} {wi : TI} {g : RV → Env → Out Env} {t : Env → Out (Bool × Env)} {f : Env → Out (RV × Env)} (hj : ∀ j ∈ js, j ∈ vs) (R : Rel W F G env σ H)
    (ki : ∀ {α : Type} (Q : It → Hp → Prop) (k : List D × Env → Out α) (post : Out α → Prop), PL W Wx F G σ post → post ((it env).bind k) →
    (∀ ds env' J G' H', Rel W F G' env' σ H' → Same G G' → ItW W G' J ds → post (k (ds, env')) → Q J H') → wi σ H Q)
    (h : EPost W Wx F G σ Q (dLc vs it g t f env)) : tLc wi (tCanG W js g) (tCanT W t) (tCanE W f) vs σ H Q := by
  refine ki _ _ _ pl_E h fun ds env1 J G1 H1 R1 s1 it1 h1 => ?_
  intro p hp
  by_cases hn : allNotIo vs env1 = true
  · rw [if_pos hn] at h1
    have hn' : ∀ i ∈ vs, notIo i env1 = true := List.all_eq_true.mp hn
    have L : Lk F p := R1.lk hp
    have hi : p ∉ F.ios.map (·.2) := L.no R1.iosE
    refine ⟨fun i m H' => ∃ G' acc env', Same G1 G' ∧ Rel W (lockF F p (.lst acc)) G' (wipeE env' vs) (wipe σ vs) H' ∧ i ≤ ds.length ∧ m = ds.length - i ∧ ∃ dacc, RpA W G' acc dacc ∧ EPost W Wx F G σ Q ((noEx (lcL vs g t f (ds.drop i) dacc env')).bind fun q => .ok (.fr (.lst q.1), restE env1 q.2 vs)), ⟨_, G1, [], env1, Same.refl G1, (R1.wipe hn').lock hp, Nat.zero_le _, rfl, [], .nil, h1⟩, ?_⟩
    rintro i m H2 ⟨G2, acc, env2, s2, R2, hi2, hm, dacc, ra, h2⟩
    obtain ⟨i1, i2⟩ := it1 G2 i H2 s2 R2.same
    by_cases z : ds.length ≤ i
    · refine .inl ⟨i1 z, ?_⟩
      rw [List.drop_eq_nil_of_le z] at h2
      obtain ⟨hp2, hg2⟩ := R2.at L hi
      obtain ⟨R3, fr⟩ := R2.unlock L hi
      have R4 := Rel.mix (vs := vs) (σ := σ) R1 R3 s2 (wipe_ext (wipe_len _ _) fun j m => wipe_out _ _ _ m) hn'
      rw [restE_wipe] at R4
      refine h2 (.ref p) G2 H2 R4 (s1.trans s2) ⟨p, rfl, L.e, ⟨hg2, _, hp2, .lst ra⟩, fun j c e nf => ?_⟩
      rcases restE_get e with ⟨m, e⟩ | ⟨m, e⟩
      · exact absurd (frzC_eq e).1 nf
      · have := fr j c (by rw [wipeE_out m]; exact e) nf
        rwa [wipe_out _ _ _ m] at this
    · have z : i < ds.length := Nat.lt_of_not_le z
      obtain ⟨j1, j2⟩ := i2 _ (List.getElem?_eq_getElem z)
      rw [List.drop_eq_getElem_cons z] at h2
      refine .inr ⟨j1, fun H' => ∃ G' acc env', Same G1 G' ∧ Rel W (lockF F p (.lst acc)) G' (wipeE env' vs) (wipe σ vs) H' ∧ ∃ dacc, RpA W G' acc dacc ∧ EPost W Wx F G σ Q ((noEx (lcL vs g t f (ds.drop (i + 1)) dacc env')).bind fun q => .ok (.fr (.lst q.1), restE env1 q.2 vs)), ?_, fun x H' y => ?_⟩
      · rintro H' ⟨G', acc', env', a, b, d⟩
        exact ⟨ds.length - (i + 1), by omega, G', acc', env', a, b, z, rfl, d⟩
      · obtain ⟨G3, s3, R3, rv⟩ := R2.res (j2 x H' y)
        have pl : ∀ {G' : Hp} {σ' : L2.St}, PL W wxN (lockF F p (.lst acc)) G' σ' (fun o => EPost W Wx F G σ Q ((noEx o).bind fun q : List D × Env => .ok (RV.fr (.lst q.1), restE env1 q.2 vs))) := fun {G' σ'} => pl_no (pl_E (Wx := Wx) (F := F) (G := G) (σ := σ) (Q := Q))
        refine lc_turn (α := List D × Env) hj R3 rv (fun {G' σ'} _ => pl) h2 fun b σ4 G4 env4 H4 hw R4 s4 h4 => ?_
        cases b with
        | false =>
          have R5 := R4.wipe (vs := vs) fun i hi => Rel.notIo R2 R4 (wipeE_notIo hi)
          rw [hw] at R5
          exact ⟨G4, acc, env4, s2.trans (s3.trans s4), R5, dacc, ra.mono (Le.of (s3.trans s4)), h4⟩
        | true =>
          refine ⟨_, G4, env4, R4, epost_bind pl h4 fun r env5 v G5 H5 R5 s5 rv5 h5 => ?_⟩
          dsimp only at h5
          cases e5 : freezeR env5 r with
          | none => rw [e5] at h5; exact h5.elim
          | some w =>
            obtain ⟨y, e2⟩ := w
            rw [e5] at h5
            dsimp only at h5
            by_cases zl : lt24 dacc.length = true
            · rw [if_pos zl] at h5
              obtain ⟨G6, s6, R6, rp6⟩ := rv5.freeze R5 e5
              have R7 := R6.wipe (vs := vs) fun i hi => Rel.notIo R2 R6 (wipeE_notIo hi)
              rw [hw] at R7
              have ss := s3.trans (s4.trans (s5.trans s6))
              have ra6 := ra.mono (Le.of ss)
              exact ⟨acc, (R7.at L hi).1, by rw [ra.length]; exact lt24_ok zl, G6, acc ++ [v], e2, s2.trans ss, R7.relock L hi, dacc ++ [y], ra6.snoc rp6, h5⟩
            · rw [if_neg zl] at h5; exact h5.elim
  · rw [if_neg hn] at h1; exact h1.elim
/-- what holds of every block of a def -/
abbrev Blks (X : Cx) (scope : Scope) (P : Cx → Prop) : Prop := ∀ (s : Shared) (H : Hp) (C : Addr) (cl : List (Str × Addr)) (fp : List Addr), P (X.blk s H scope (compEnvC scope cl C X.env) fp)
theorem de_lc {elt tg iter : Expr} {ifs : List Expr} {scope : Scope} {own : List (Str × Nat)} {pos : Pos} {it : Env → Out (List D × Env)} {js : List Nat} {g : RV → Env → Out Env} {t : Env → Out (Bool × Env)} {f : Env → Out (RV × Env)}
    (hc : X.calm = true) (hN : X.N.Nodup) (hi : DI X c Wx tg iter it) (ok : BlkOk X.N X.env.scope scope own) (hg : Blks X scope fun Y => DG Y c wxN tg js g) (ht : Blks X scope fun Y => DIfs Y c ifs t) (he : Blks X scope fun Y => DE Y c wxN elt f)
    (hj : ∀ j ∈ js, j ∈ own.map (·.2)) (hs : ∀ x : Value, foldedSetIterable iter X.env x = pure x := by intro x; rfl) : DE X c Wx (.ListComp elt [⟨tg, iter, ifs, 0⟩] scope pos) (dLc (own.map (·.2)) it g t f) := by
  obtain ⟨wi, pi, ki⟩ := hi.run
  exact ⟨_, pe_lc hc hN pi ok (fun s H C cl fp => (hg s H C cl fp).can (W := wd X c) rfl) (fun s H C cl fp => (ht s H C cl fp).can (W := wd X c) rfl) (fun s H C cl fp => (he s H C cl fp).can (W := wd X c) rfl) hs, fun F G env σ H Q R h => lc_walk hj R (fun Q k post pl => ki F G env σ H Q k post pl R) h⟩
theorem ds_setLc {i : Nat} {y : Str} {py : Pos} {elt tg iter : Expr} {ifs : List Expr} {scope : Scope} {own : List (Str × Nat)} {pos spos : Pos} {it : Env → Out (List D × Env)} {js : List Nat} {g : RV → Env → Out Env} {t : Env → Out (Bool × Env)} {f : Env → Out (RV × Env)}
    (hc : X.calm = true) (hN : X.N.Nodup) (hy : X.N[i]? = some y) (hyl : List.lookup y X.env.scope.names = some NameKind.local) (hsw : swapsWith (.ListComp elt [⟨tg, iter, ifs, 0⟩] scope pos) (some (.Name y py)) spos.line X.env = pure true)
    (hi : DI X c Wx tg iter it) (ok : BlkOk X.N X.env.scope scope own) (hg : Blks X scope fun Y => DG Y c wxN tg js g) (ht : Blks X scope fun Y => DIfs Y c ifs t) (he : Blks X scope fun Y => DE Y c wxN elt f)
    (hj : ∀ j ∈ js, j ∈ own.map (·.2)) (hs : ∀ x : Value, foldedSetIterable iter X.env x = pure x := by intro x; rfl) : DS X c Wx (.Assign [.Name y py] (.ListComp elt [⟨tg, iter, ifs, 0⟩] scope pos) spos) (sAsg (dLc (own.map (·.2)) it g t f) (gName' i)) := by
  obtain ⟨wi, pi, ki⟩ := hi.run
  refine ⟨_, ps_setLc hc hN hy hyl hsw pi ok (fun s H C cl fp => (hg s H C cl fp).can (W := wd X c) rfl) (fun s H C cl fp => (ht s H C cl fp).can (W := wd X c) rfl) (fun s H C cl fp => (he s H C cl fp).can (W := wd X c) rfl) hs, fun F G env σ H D R h => ?_⟩
  refine lc_walk hj R (fun Q k post pl => ki F G env σ H Q k post pl R) (epost_bind (k := fun p => (gName' i p.1 p.2).bind fun e => .ok (.nx e)) pl_S h fun r env1 v G1 H1 R1 s1 rv h1 => ?_)
  have h' : SPost (wd X c) Wx F G D ((Out.of (storeR i r env1)).bind fun e => .ok (.nx e)) := h1
  cases e : storeR i r env1 with
  | none => rw [e] at h'; exact h'.elim
  | some env' =>
    rw [e] at h'
    obtain ⟨G2, s2, R2⟩ := storeR_ok R1 rv e
    exact h' _ G2 H1 R2 (s1.trans s2)
end
end VS
namespace VS
open PySem PySem.Spec PyProof.Rows L2
/-! ### defs: what a call does to the data -/
inductive FO
  | ok (d : D) (fr : Bool) (out : D)
  | ex (x : Exc) (out : D)
  | st
/-- io: the parameter that is changed -/
abbrev Fn := List D → FO
def mkE (io : Option Nat) : Nat → List D → Env
  | _, [] => []
  | i, d :: r => some (d, if io = some i then .io else .frz) :: mkE io (i + 1) r
def startE (n : Nat) (io : Option Nat) (ds : List D) : Env := mkE io 0 ds ++ List.replicate (n - ds.length) none
def ioOut (io : Option Nat) (env : Env) : Option D := match io with
  | none => some .non
  | some i => match env[i]? with
    | some (some (d, .io)) => some d
    | _ => none
def retV (r : RV) (env : Env) : Option (D × Bool) := match r with
  | .fz d => some (d, false)
  | .fr d => some (d, true)
  | .bo i => match env[i]? with
    | some (some (d, .frz)) => some (d, false)
    | some (some (d, .own)) => some (d, true)
    | _ => none
def finF (io : Option Nat) : Out Fl → FO
  | .ok (.nx env) => match ioOut io env with
    | some o => .ok .non false o
    | none => .st
  | .ok (.rt r env) => match ioOut io env, retV r env with
    | some o, some (d, fr) => .ok d fr o
    | _, _ => .st
  | .ex x env => match ioOut io env with
    | some o => .ex x o
    | none => .st
  | _ => .st
def fnOf (m n : Nat) (io : Option Nat) (f : Env → Out Fl) : Fn := fun ds => if Nat.beq ds.length m = true then finF io (f (startE n io ds)) else .st
structure ArgR (W : Wd) (G H : Hp) (io : Option Nat) (vs : List V) (ds : List D) : Prop where
  len : vs.length = ds.length
  frz : ∀ (i : Nat) (v : V) (d : D), vs[i]? = some v → ds[i]? = some d → io ≠ some i → Rp W G v d
  io : ∀ i, io = some i → ∃ a d, vs[i]? = some (V.ref a) ∧ ds[i]? = some d ∧ Own W G H a d
structure Aft (W : Wd) (G H : Hp) (io : Option Nat) (vs : List V) (out : D) (G' H' : Hp) : Prop where
  same : Same G' H'
  gg : Same G G'
  gE : ∀ a, H a ≠ none → G' a = G a
  keep : ∀ a o, H a = some o → (∀ i, io = some i → vs[i]? ≠ some (V.ref a)) → H' a = some o
  dom : ∀ a, H' a = none → H a = none
  io : ∀ i, io = some i → ∃ a, vs[i]? = some (V.ref a) ∧ Own W G' H' a out
def RVal (W : Wd) (G' H H' : Hp) (v : V) (d : D) (fr : Bool) : Prop := if fr = true then ∃ p, v = .ref p ∧ H p = none ∧ Own W G' H' p d else Rp W G' v d
def FPost (W : Wd) (G H : Hp) (io : Option Nat) (vs : List V) (Q : VK) (E : XK) : FO → Prop
  | .ok d fr out => ∀ v G' H', Aft W G H io vs out G' H' → RVal W G' H H' v d fr → Q v H'
  | .ex x out => ∀ G' H' cls dx, Aft W G H io vs out G' H' → ExcOk W G' H' x cls dx → E cls dx H'
  | .st => False
def spOf (W : Wd) (io : Option Nat) (fn : Fn) : Sp := fun vs H Q E => ∃ G ds, Same G H ∧ ArgR W G H io vs ds ∧ FPost W G H io vs Q E (fn ds)
abbrev wxE (E : XK) : WX := fun cls d _ H => E cls d H
theorem mkE_len {io : Option Nat} : ∀ {i : Nat} {ds : List D}, (mkE io i ds).length = ds.length
  | _, [] => rfl
  | i, d :: r => congrArg (· + 1) (mkE_len (i := i + 1) (ds := r))
theorem mkE_get {io : Option Nat} : ∀ {i j : Nat} {ds : List D}, (mkE io i ds)[j]? = ds[j]?.map fun d => some (d, if io = some (i + j) then .io else .frz)
  | _, _, [] => rfl
  | i, 0, d :: r => rfl
  | i, j + 1, d :: r => by
    show (mkE io (i + 1) r)[j]? = r[j]?.map _
    rw [mkE_get, show i + 1 + j = i + (j + 1) by omega]
theorem startE_get {n : Nat} {io : Option Nat} {ds : List D} {j : Nat} {c : D × Ow} (h : (startE n io ds)[j]? = some (some c)) : ds[j]? = some c.1 ∧ c.2 = if io = some j then .io else .frz := by
  unfold startE at h
  by_cases hl : j < ds.length
  · rw [List.getElem?_append_left (by rw [mkE_len]; exact hl), mkE_get] at h
    obtain ⟨d, e1, e2⟩ := Option.map_eq_some_iff.mp h
    cases e2
    exact ⟨e1, by rw [Nat.zero_add]⟩
  · rw [List.getElem?_append_right (by rw [mkE_len]; omega), List.getElem?_replicate] at h
    split at h
    · cases h
    · cases h
theorem startE_io {n : Nat} {io : Option Nat} {ds : List D} {j : Nat} {d : D} (h : ds[j]? = some d) : (startE n io ds)[j]? = some (some (d, if io = some j then .io else .frz)) := by
  unfold startE
  rw [List.getElem?_append_left (by rw [mkE_len]; exact (List.getElem?_eq_some_iff.mp h).1), mkE_get, h, Nat.zero_add]
  rfl
theorem start_get {N : List Str} {vs : List V} {j : Nat} {v : V} (h : vs[j]? = some v) : (L2.start N vs)[j]? = some (some v) := by
  unfold L2.start
  rw [List.getElem?_append_left (by rw [List.length_map]; exact (List.getElem?_eq_some_iff.mp h).1), List.getElem?_map, h]
  rfl
/-- the frame of a callee -/
def frOf (G H : Hp) (ios : List (Nat × Addr)) : FrI := ⟨H, G, ios⟩
section
variable {W : Wd} {G H : Hp} {io : Option Nat} {vs : List V} {ds : List D}
theorem ArgR.ios (h : ArgR W G H io vs ds) : ∃ ios : List (Nat × Addr), (∀ p ∈ ios, io = some p.1 ∧ vs[p.1]? = some (V.ref p.2) ∧ ∃ d, ds[p.1]? = some d ∧ Own W G H p.2 d) ∧ ∀ i, io = some i → ∃ a, (i, a) ∈ ios := by
  cases io with
  | none => exact ⟨[], by simp, by simp⟩
  | some i =>
    obtain ⟨a, d, e1, e2, e3⟩ := h.io i rfl
    exact ⟨[(i, a)], by simp; exact ⟨e1, d, e2, e3⟩, fun j e => by cases e; exact ⟨a, by simp⟩⟩
theorem ArgR.rel {N : List Str} {n : Nat} (h : ArgR W G H io vs ds) (s : Same G H) (hN : N.length = n) (hl : vs.length ≤ n) {ios : List (Nat × Addr)} (hi : ∀ p ∈ ios, io = some p.1 ∧ vs[p.1]? = some (V.ref p.2) ∧ ∃ d, ds[p.1]? = some d ∧ Own W G H p.2 d) (hi2 : ∀ i, io = some i → ∃ a, (i, a) ∈ ios) :
    Rel W (frOf G H ios) G (startE n io ds) (L2.start N vs) H := by
  refine ⟨s, Same.refl G, fun _ _ => rfl, fun a o e _ => e, fun a e => e, fun i c e => ?_, fun i j ci cj a nij ei ej ni nj => ?_, fun p hp => ?_, ?_⟩
  · obtain ⟨e1, e2⟩ := startE_get e
    have hlt : i < vs.length := by rw [h.len]; exact (List.getElem?_eq_some_iff.mp e1).1
    have hv := List.getElem?_eq_getElem hlt
    refine ⟨vs[i], start_get hv, ?_⟩
    obtain ⟨d, ow⟩ := c
    by_cases z : io = some i
    · rw [if_pos z] at e2
      cases e2
      obtain ⟨a, ha⟩ := hi2 i z
      obtain ⟨_, e4, d', e5, o⟩ := hi _ ha
      have e4' : vs[i]? = some (V.ref a) := e4
      have e5' : ds[i]? = some d' := e5
      rw [hv] at e4'
      rw [e1] at e5'; cases e5'
      exact ⟨a, Option.some.inj e4', ha, o⟩
    · rw [if_neg z] at e2
      cases e2
      exact h.frz i _ d hv e1 z
  · have k : ∀ {i : Nat} {c : D × Ow}, (startE n io ds)[i]? = some (some c) → c.2 ≠ .frz → io = some i := fun {i c} e nf => by
      have := (startE_get e).2
      by_cases z : io = some i
      · exact z
      · rw [if_neg z] at this; exact absurd this nf
    have a1 := k ei ni
    have a2 := k ej nj
    rw [a1] at a2; cases a2; exact absurd rfl nij
  · obtain ⟨e1, e2, d, e3, ⟨_, o, ho, _⟩⟩ := hi p hp
    refine ⟨(by show H p.2 ≠ none; rw [ho]; simp), start_get e2, d, ?_⟩
    rw [startE_io e3, if_pos e1]
  · unfold startE L2.start
    rw [List.length_append, mkE_len, List.length_append, List.length_map, List.length_replicate, List.length_replicate, hN, h.len]
theorem Rel.aft {ios : List (Nat × Addr)} (hi : ∀ p ∈ ios, io = some p.1 ∧ vs[p.1]? = some (V.ref p.2) ∧ ∃ d, ds[p.1]? = some d ∧ Own W G H p.2 d) {G' H' : Hp} {env' : Env} {σ' : L2.St} {out : D} (R : Rel W (frOf G H ios) G' env' σ' H') (s : Same G G') (e : ioOut io env' = some out) : Aft W G H io vs out G' H' := by
  refine ⟨R.same, s, fun a h => R.gE a h, fun a o ha hn => R.out a o ha fun m => ?_, fun a h => R.dom a h, fun i ei => ?_⟩
  · obtain ⟨p, hp, e2⟩ := List.mem_map.mp m
    obtain ⟨e3, e4, _⟩ := hi p hp
    exact hn _ e3 (by rw [e4, e2])
  · subst ei
    have e' : (match env'[i]? with
      | some (some (d, .io)) => some d
      | _ => none) = some out := e
    split at e'
    · rename_i d e1
      cases e'
      obtain ⟨v, _, a, _, m, o⟩ := R.cells i _ e1
      obtain ⟨_, e4, _⟩ := hi _ m
      exact ⟨a, e4, o⟩
    · cases e'
theorem Rel.rval {ios : List (Nat × Addr)} {G' H' : Hp} {env' : Env} {σ' : L2.St} {v : V} {r : RV} {d : D} {fr : Bool} (R : Rel W (frOf G H ios) G' env' σ' H') (rv : RVok W (frOf G H ios) G' env' σ' H' v r) (e : retV r env' = some (d, fr)) : RVal W G' H H' v d fr := by
  cases r with
  | fz d' => cases e; exact rv
  | fr d' =>
    cases e
    obtain ⟨p, e1, e2, e3, _⟩ := rv
    exact ⟨p, e1, e2, e3⟩
  | bo i =>
    have e' : (match env'[i]? with
      | some (some (d, .frz)) => some (d, false)
      | some (some (d, .own)) => some (d, true)
      | _ => none) = some (d, fr) := e
    have hv : σ'[i]? = some (some v) := rv
    split at e'
    · rename_i d' e1
      cases e'
      obtain ⟨v', hv', ok⟩ := R.cells i _ e1
      rw [hv] at hv'; cases hv'
      exact ok
    · rename_i d' e1
      cases e'
      obtain ⟨v', hv', a, e2, e3, o⟩ := R.cells i _ e1
      rw [hv] at hv'; cases hv'
      exact ⟨a, e2, e3, o⟩
    · cases e'
end
/-- a body's reading gives its def's contract -/
theorem fnG_vs {P : Program} {w : World} {K : PySem.W.Frag} {mg : Str → Option Value} {base : Heap} {c : Nat → Value} {k m n : Nat} {f : Addr} {fd : FuncData} {nm qual : Str} {par : Arguments} {body : List Stmt} {sc : Scope} {N ps : List Str} {io : Option Nat} {g : Env → Out Fl}
    (Fd : FunD K nm qual par body sc [] [] f fd) (S : FnScope N ps sc) (hm : ps.length = m) (hn : N.length = n) (hmn : Nat.ble m n = true)
    (hb : ∀ (cdv : Value) (A : Around) (outer : List PySem.Env) (s : Shared) (H : Hp) (E : XK), Room k (A.deeper (envOfC qual sc s.heap.objs.size f cdv)) → A.guards = some [] → DSs (cxG P w K mg base N qual sc f cdv A outer s H E) c (wxE E) body g) :
    FnG P w K mg base (k + 1) f fd ps (spOf ⟨P, w, K, c⟩ io (fnOf m n io g)) := by
  obtain ⟨oc, od, dV, kV, doc, pm, an, cdv, ct, osl, rfl, lk, hcd, _, _⟩ := Fd.ex
  have len : ∀ vs H Q E, spOf ⟨P, w, K, c⟩ io (fnOf m n io g) vs H Q E → vs.length = ps.length := fun vs H Q E ⟨G, ds, s, ar, h⟩ => by
    unfold fnOf at h
    by_cases z : Nat.beq ds.length m = true
    · rw [ar.len, hm]; exact Nat.eq_of_beq_eq_true z
    · rw [if_neg z] at h; exact h.elim
  refine fnG_of lk hcd S len fun A outer s H vs Q E room hg hsp => ?_
  have hl := len vs H Q E hsp
  obtain ⟨G, ds, sm, ar, h⟩ := hsp
  obtain ⟨t, pt, kt⟩ := (hb cdv A outer s H E room hg).ex
  refine ⟨t, pt, ?_⟩
  obtain ⟨ios, hi, hi2⟩ := ar.ios
  refine kt (frOf G H ios) G (startE n io ds) (L2.start N vs) H _ (ar.rel sm hn (by rw [hl, hm]; exact Nat.le_of_ble_eq_true hmn) hi hi2) ?_
  unfold fnOf at h
  by_cases z : Nat.beq ds.length m = true
  · rw [if_pos z] at h
    have h' : FPost ⟨P, w, K, c⟩ G H io vs Q E (finF io (g (startE n io ds))) := h
    cases e : g (startE n io ds) with
    | st => rw [e] at h'; exact h'.elim
    | ex x env' =>
      rw [e] at h'
      intro σ' G' H' cls dx R s1 ok
      have h2 : FPost ⟨P, w, K, c⟩ G H io vs Q E (match ioOut io env' with
        | some o => .ex x o
        | none => .st) := h'
      cases e2 : ioOut io env' with
      | none => rw [e2] at h2; exact h2.elim
      | some out => rw [e2] at h2; exact h2 G' H' cls dx (R.aft hi s1 e2) ok
    | ok fl =>
      rw [e] at h'
      cases fl with
      | bk env' => exact h'.elim
      | ct env' => exact h'.elim
      | nx env' =>
        intro σ' G' H' R s1
        have h2 : FPost ⟨P, w, K, c⟩ G H io vs Q E (match ioOut io env' with
          | some o => .ok .non false o
          | none => .st) := h'
        cases e2 : ioOut io env' with
        | none => rw [e2] at h2; exact h2.elim
        | some out => rw [e2] at h2; exact h2 _ G' H' (R.aft hi s1 e2) Rp.non
      | rt r env' =>
        intro v σ' G' H' R s1 rv
        have h2 : FPost ⟨P, w, K, c⟩ G H io vs Q E (match ioOut io env', retV r env' with
          | some o, some (d, fr) => .ok d fr o
          | _, _ => .st) := h'
        cases e2 : ioOut io env' with
        | none => rw [e2] at h2; exact h2.elim
        | some out =>
          cases e3 : retV r env' with
          | none => rw [e2, e3] at h2; exact h2.elim
          | some q =>
            obtain ⟨d, fr⟩ := q
            rw [e2, e3] at h2
            exact h2 v G' H' (R.aft hi s1 e2) (R.rval rv e3)
  · rw [if_neg z] at h; exact h.elim
/-! ### the call of an own def -/
/-- a def that can be called by its name -/
structure Cal (P : Program) (w : World) (K : PySem.W.Frag) (mg : Str → Option Value) (base : Heap) (c : Nat → Value) (k : Nat) (x : Str) (io : Option Nat) (fn : Fn) : Prop where
  ex : ∃ f fd ps, FnG P w K mg base k f fd ps (spOf ⟨P, w, K, c⟩ io fn) ∧ mg x = some (.ref f) ∧ PySem.W.keepIn K (.ref f) = true ∧ L2.Binds K fd ps []
def frzNon (io : Option Nat) : Nat → Env → List RV → Option (List D × Env)
  | _, env, [] => some ([], env)
  | i, env, r :: rs => if io = some i then match frzNon io (i + 1) env rs with
      | some (ds, e) => some (.non :: ds, e)
      | none => none
    else match freezeR env r with
      | some (d, e) => match frzNon io (i + 1) e rs with
        | some (ds, e') => some (d :: ds, e')
        | none => none
      | none => none
/-- the changed argument: its slot in the caller -/
def ioSlot (io : Option Nat) (rs : List RV) (env : Env) : Option (Option (Nat × Nat × D × Ow)) := match io with
  | none => some none
  | some i => match rs[i]? with
    | some (.bo j) => match ownAt j env with
      | some (d, ow) => some (some (i, j, d, ow))
      | none => none
    | _ => none
def fillIo (q : Option (Nat × Nat × D × Ow)) (ds : List D) : List D := match q with
  | none => ds
  | some (i, _, d, _) => ds.set i d
def putIo (q : Option (Nat × Nat × D × Ow)) (out : D) (env : Env) : Env := match q with
  | none => env
  | some (_, j, _, ow) => env.set j (some (out, ow))
def callF (io : Option Nat) (fn : Fn) (rs : List RV) (env : Env) : Out (RV × Env) := match frzNon io 0 env rs with
  | some (ds, env1) => match ioSlot io rs env1 with
    | some q => match fn (fillIo q ds) with
      | .ok d fr out => .ok (mkRV d fr, putIo q out env1)
      | .ex x out => .ex x (putIo q out env1)
      | .st => .st
    | none => .st
  | none => .st
def dCallF (io : Option Nat) (fn : Fn) (g : Env → Out (List RV × Env)) : Env → Out (RV × Env) := fun env => (g env).bind fun p => callF io fn p.1 p.2
section
variable {W : Wd} {F : FrI} {G H : Hp} {env : Env} {σ : L2.St}
theorem frzNon_ok {io : Option Nat} : ∀ {rs : List RV} {i : Nat} {G : Hp} {env env' : Env} {vs : List V} {ds : List D}, Rel W F G env σ H → PVA W G σ vs rs → frzNon io i env rs = some (ds, env') → ∃ G', Same G G' ∧ Rel W F G' env' σ H ∧ vs.length = ds.length ∧ (∀ (j : Nat) (v : V) (d : D), vs[j]? = some v → ds[j]? = some d → io ≠ some (i + j) → Rp W G' v d) ∧ PVA W G' σ vs rs
  | [], i, G, _, _, _, _, R, .nil, e => by cases e; exact ⟨G, Same.refl G, R, rfl, by intro j v d h; simp at h, .nil⟩
  | r :: rs, i, G, env, env', _, _, R, .cons (v := v) (vs := vs) p q, e => by
    unfold frzNon at e
    by_cases z : io = some i
    · rw [if_pos z] at e
      cases e2 : frzNon io (i + 1) env rs with
      | none => rw [e2] at e; cases e
      | some w =>
        obtain ⟨ds, env2⟩ := w
        rw [e2] at e
        cases e
        obtain ⟨G2, s2, R2, l2, h2, q2⟩ := frzNon_ok R q e2
        refine ⟨G2, s2, R2, congrArg (· + 1) l2, fun j u d hu hd n => ?_, .cons (p.mono (Le.of s2)) q2⟩
        cases j with
        | zero => exact absurd z n
        | succ j => exact h2 j u d hu hd (by rw [show i + 1 + j = i + (j + 1) by omega]; exact n)
    · rw [if_neg z] at e
      cases e1 : freezeR env r with
      | none => rw [e1] at e; cases e
      | some w =>
        obtain ⟨d, env1⟩ := w
        rw [e1] at e
        dsimp only at e
        cases e2 : frzNon io (i + 1) env1 rs with
        | none => rw [e2] at e; cases e
        | some w =>
          obtain ⟨ds, env2⟩ := w
          rw [e2] at e
          cases e
          obtain ⟨G1, s1, R1, p1⟩ := p.freeze R e1
          obtain ⟨G2, s2, R2, l2, h2, q2⟩ := frzNon_ok R1 (q.mono (Le.of s1)) e2
          refine ⟨G2, s1.trans s2, R2, congrArg (· + 1) l2, fun j u d' hu hd n => ?_, .cons (p.mono (Le.of (s1.trans s2))) q2⟩
          cases j with
          | zero => cases hu; cases hd; exact p1.mono (Le.of s2)
          | succ j => exact h2 j u d' hu hd (by rw [show i + 1 + j = i + (j + 1) by omega]; exact n)
theorem PVA.get : ∀ {vs : List V} {rs : List RV} {i : Nat} {r : RV}, PVA W G σ vs rs → rs[i]? = some r → ∃ v, vs[i]? = some v ∧ PV W G σ v r
  | _, _, 0, _, .cons p q, e => by cases e; exact ⟨_, rfl, p⟩
  | _, _, i + 1, _, .cons p q, e => PVA.get (i := i) q e
/-- behind a call that changes no slot's object -/
theorem Rel.call0 {io : Option Nat} {vs : List V} {out : D} {G' H' : Hp} (R : Rel W F G env σ H) (hio : io = none) (a : Aft W G H io vs out G' H') : Rel W F G' env σ H' := by
  have own : ∀ (i : Nat) (c : D × Ow) (b : Addr), env[i]? = some (some c) → c.2 ≠ .frz → σ[i]? = some (some (V.ref b)) → ∃ o, H b = some o := fun i c b e nf z => by
    obtain ⟨d, ow⟩ := c
    obtain ⟨b', hb, ⟨_, o, ho, _⟩, _⟩ := R.own e nf
    rw [z] at hb; cases hb
    exact ⟨o, ho⟩
  have all : ∀ b o, H b = some o → H' b = some o := fun b o h => a.keep b o h fun i e => by rw [hio] at e; cases e
  exact R.step a.gg a.same (fun b e => a.gE b fun z => e (R.dom b z)) (fun b o _ h _ => all b o h) a.dom (fun i c b e nf z g => by
    obtain ⟨o, ho⟩ := own i c b e nf z
    rw [a.gE b (by rw [ho]; intro q; cases q)]; exact g) fun i c b o e nf z h => all b o h
theorem Rel.call1 {i j : Nat} {vs : List V} {out d : D} {ow : Ow} {G' H' : Hp} (R : Rel W F G env σ H) (he : env[j]? = some (some (d, ow))) (hw : ow ≠ .frz) (a : Aft W G H (some i) vs out G' H') (hv : ∀ v, σ[j]? = some (some v) → vs[i]? = some v) : Rel W F G' (env.set j (some (out, ow))) σ H' := by
  obtain ⟨b, hb, ⟨hg, o, ho, sh⟩, hE⟩ := R.own he hw
  obtain ⟨b', hb', hg', o', ho', sh'⟩ := a.io i rfl
  rw [hv _ hb] at hb'; cases hb'
  have e : H' = upd (upd H' b o) b o' := by
    funext x
    by_cases z : x = b
    · subst z; rw [upd_same]; exact ho'
    · rw [upd_ne z, upd_ne z]
  rw [e]
  have own : ∀ (i : Nat) (c : D × Ow) (x : Addr), env[i]? = some (some c) → c.2 ≠ .frz → σ[i]? = some (some (V.ref x)) → ∃ o, H x = some o := fun i c x e nf z => by
    obtain ⟨d, ow⟩ := c
    obtain ⟨x', hx, ⟨_, o, ho, _⟩, _⟩ := R.own e nf
    rw [z] at hx; cases hx
    exact ⟨o, ho⟩
  have all : ∀ x u, H x = some u → upd H' b o x = some u := fun x u h => by
    by_cases z : x = b
    · subst z; rw [upd_same]; rw [ho] at h; exact h
    · rw [upd_ne z]
      refine a.keep x u h fun i' e' => ?_
      cases e'
      rw [hv _ hb]
      intro q; cases q; exact z rfl
  refine Rel.write (R.step a.gg (fun x u h => ?_) (fun x e => a.gE x fun z => e (R.dom x z)) (fun x u _ h _ => all x u h) (fun x h => ?_) (fun i c x e nf z g => ?_) fun i c x u e nf z h => all x u h) he hw hb sh'
  · have : x ≠ b := ne_of_none h hg'
    rw [upd_ne this]; exact a.same x u h
  · by_cases z : x = b
    · subst z; rw [upd_same] at h; cases h
    · rw [upd_ne z] at h; exact a.dom x h
  · obtain ⟨u, hu⟩ := own i c x e nf z
    rw [a.gE x (by rw [hu]; intro q; cases q)]; exact g
end
section
variable {X : Cx} {c : Nat → Value} {Wx : WX}
theorem callF_ok {F : FrI} {G0 G H : Hp} {env : Env} {σ : L2.St} {Q : VK} {io : Option Nat} {fn : Fn} {rs : List RV} {vs : List V} (R : Rel (wd X c) F G env σ H) (s0 : Same G0 G) (pv : PVA (wd X c) G σ vs rs) (h : EPost (wd X c) Wx F G0 σ Q (callF io fn rs env)) : spOf (wd X c) io fn vs H Q (WE Wx σ) := by
  unfold callF at h
  cases e1 : frzNon io 0 env rs with
  | none => rw [e1] at h; exact h.elim
  | some w =>
    obtain ⟨ds, env1⟩ := w
    rw [e1] at h
    dsimp only at h
    obtain ⟨G1, s1, R1, l1, h1, pv1⟩ := frzNon_ok R pv e1
    cases io with
    | none =>
      have h' : EPost (wd X c) Wx F G0 σ Q (match fn ds with
        | .ok d fr out => .ok (mkRV d fr, env1)
        | .ex x out => .ex x env1
        | .st => .st) := h
      refine ⟨G1, ds, R1.same, ⟨l1, fun i v d hv hd n => h1 i v d hv hd (by intro z; cases z), by intro i z; cases z⟩, ?_⟩
      cases e2 : fn ds with
      | st => rw [e2] at h'; exact h'.elim
      | ex x out =>
        rw [e2] at h'
        exact fun G' H' cls dx a ok => h' G' H' cls dx (R1.call0 rfl a) (s0.trans (s1.trans a.gg)) ok
      | ok d fr out =>
        rw [e2] at h'
        intro v G' H' a rv
        refine h' v G' H' (R1.call0 rfl a) (s0.trans (s1.trans a.gg)) ?_
        unfold mkRV
        unfold RVal at rv
        cases fr with
        | false => rw [if_neg (by decide)] at rv ⊢; exact rv
        | true =>
          rw [if_pos rfl] at rv ⊢
          obtain ⟨p, e, hp, o⟩ := rv
          exact ⟨p, e, R1.dom p hp, o, R1.free hp⟩
    | some i =>
      cases e2 : ioSlot (some i) rs env1 with
      | none => rw [e2] at h; exact h.elim
      | some q =>
        rw [e2] at h
        dsimp only at h
        have e2' : (match rs[i]? with
          | some (.bo j) => match ownAt j env1 with
            | some (d, ow) => some (some (i, j, d, ow))
            | none => none
          | _ => none) = some q := e2
        split at e2'
        · rename_i j ej
          cases e3 : ownAt j env1 with
          | none => rw [e3] at e2'; cases e2'
          | some w =>
            obtain ⟨dj, ow⟩ := w
            rw [e3] at e2'
            cases e2'
            obtain ⟨he, hw⟩ := ownAt_eq e3
            obtain ⟨b, hb, ob, _⟩ := R1.own he hw
            obtain ⟨v, hv, pj⟩ := pv1.get ej
            have pj' : σ[j]? = some (some v) := pj
            rw [hb] at pj'; cases pj'
            have hds : i < ds.length := by rw [← l1]; exact (List.getElem?_eq_some_iff.mp hv).1
            have hvs : ∀ v, σ[j]? = some (some v) → vs[i]? = some v := fun v z => by rw [hb] at z; cases z; exact hv
            have h' : EPost (wd X c) Wx F G0 σ Q (match fn (ds.set i dj) with
              | .ok d fr out => .ok (mkRV d fr, env1.set j (some (out, ow)))
              | .ex x out => .ex x (env1.set j (some (out, ow)))
              | .st => .st) := h
            refine ⟨G1, ds.set i dj, R1.same, ⟨by rw [List.length_set]; exact l1, fun k v d hv hd n => ?_, fun k z => ?_⟩, ?_⟩
            · have n' : i ≠ k := fun z => n (by rw [z])
              rw [List.getElem?_set_ne n'] at hd
              exact h1 k v d hv hd (by rw [Nat.zero_add]; exact n)
            · cases z
              exact ⟨b, dj, hv, List.getElem?_set_self hds, ob⟩
            · cases e4 : fn (ds.set i dj) with
              | st => rw [e4] at h'; exact h'.elim
              | ex x out =>
                rw [e4] at h'
                exact fun G' H' cls dx a ok => h' G' H' cls dx (R1.call1 he hw a hvs) (s0.trans (s1.trans a.gg)) ok
              | ok d fr out =>
                rw [e4] at h'
                intro v G' H' a rv
                refine h' v G' H' (R1.call1 he hw a hvs) (s0.trans (s1.trans a.gg)) ?_
                unfold mkRV
                unfold RVal at rv
                cases fr with
                | false => rw [if_neg (by decide)] at rv ⊢; exact rv
                | true =>
                  rw [if_pos rfl] at rv ⊢
                  obtain ⟨p, e, hp, o⟩ := rv
                  refine ⟨p, e, R1.dom p hp, o, fun k cc ek nk => ?_⟩
                  rcases set_of ek with ⟨rfl, z⟩ | ⟨n, ek⟩
                  · exact R1.free hp j _ he hw
                  · exact R1.free hp k cc ek nk
        · cases e2'
theorem de_call {k : Nat} {x : Str} {io : Option Nat} {fn : Fn} {p pos : Pos} {e : Expr} {es : List Expr} {g : Env → Out (List RV × Env)} (C : Cal X.prog X.w X.K X.mg X.base c k x io fn) (hr : Room k X.A) (hg : X.A.guards = some []) (gx : Gl X x) (tk : Takes X Wx) (ha : DA X c Wx (e :: es) g)
    (hd : (x == ("__debug__" : Str)) = false := by rfl) (he : starEach (e :: es) X.env = (false, eval e X.env) :: starEach es X.env := by rfl) (hp : (backTo pos (starEach es X.env)).any (·.1) = false := by rfl) : DE X c Wx (.Call (.Name x p) (e :: es) [] pos) (dCallF io fn g) := by
  obtain ⟨f, fd, ps, F, hm, kp, hb⟩ := C.ex
  obtain ⟨t, pa, ka⟩ := ha.run
  refine ⟨_, pe_callG F hr hg gx hm kp hb tk pa hd he hp, fun F G env σ H Q R h => ?_⟩
  exact ka F G env σ H _ _ _ pl_E R h fun rs env1 vs G1 H1 R1 s1 pv h1 => callF_ok R1 s1 pv h1
theorem de_call0 {k : Nat} {x : Str} {io : Option Nat} {fn : Fn} {p pos : Pos} (C : Cal X.prog X.w X.K X.mg X.base c k x io fn) (hr : Room k X.A) (hg : X.A.guards = some []) (gx : Gl X x) (tk : Takes X Wx) (hd : (x == ("__debug__" : Str)) = false := by rfl) : DE X c Wx (.Call (.Name x p) [] [] pos) (dCallF io fn dNil) := by
  obtain ⟨f, fd, ps, F, hm, kp, hb⟩ := C.ex
  refine ⟨_, pe_callG0 F hr hg gx hm kp hb tk hd, fun F G env σ H Q R h => ?_⟩
  exact callF_ok (rs := []) R (Same.refl G) .nil h
end
end VS
namespace VS
open PySem PySem.Spec PyProof.Rows L2
/-! ### the end of a law -/
section
variable {P : Program} {w : World} {K : PySem.W.Frag} {mg mb : Str → Option Value} {k : Nat} {fa a : Addr} {fd : FuncData} {x : Str} {sp : Sp} {s1 : Shared} {vs : List Value} {ns : List Int}
/-- the heap as tracked at the law's call: the script, if the library's facts do not hold it -/
theorem end_core (KX : K.In s1.heap) (hns : s1.heap.Ns mainGlobals mg) (hb : s1.heap.Ns builtinsNs mb) (hbb : ∀ y : Str, y ≠ "__name__" → mb y = bootBuiltins y) (hlim : s1.heap.NoLimit) (hg : s1.gens = #[])
    (hr : Room k callerA) (F : ∀ base : Heap, K.In base → base.Ns mainGlobals mg → FnG P w K mg base k fa fd [x] sp) (hbind : ∀ (s : Shared) (u : Value), BindsTo s fd ⟨[u], []⟩ [(x, u)])
    (H : Hp) (hO : Only H) (hok : HOk P w H s1.heap) (hK : ∀ b, H b ≠ none → K.lookup b = none) (hD : ∀ b o es ep, H b ≠ none → s1.heap.get? b = some o → o.data ≠ .dict es ep)
    (hsp : sp [V.ref a] H (fun v _ => v = .bl true) fun _ _ _ => False) :
    codeAny (model P w) callerA (.call (.ref fa) ⟨[.ref a], []⟩) (fun r s' => r = .ok (.ret (.bool true)) ∧ OldK s1.heap s'.heap ∧ s'.os = s1.os ∧ AllBare s'.gens) s1 := by
  have gone : ∀ {m : Str → Option Value} {p : Addr}, s1.heap.Ns p m → (hidT s1.heap H).Ns p m := fun {m p} z => by
    obtain ⟨o, es, ep, e, d, r⟩ := z
    refine ⟨o, es, ep, hidT_get e ?_, d, r⟩
    cases q : H p with
    | none => rfl
    | some u => exact absurd d (hD p o es ep (by rw [q]; simp) e)
  have kIn : K.In (hidT s1.heap H) := fun b o e => by
    refine hidT_get (KX b o e) ?_
    cases q : H b with
    | none => rfl
    | some u =>
      have := hK b (by rw [q]; simp)
      rw [e] at this; cases this
  have M : L2.Mod K mg (hidT s1.heap H) := by
    obtain ⟨mc, l1, l2⟩ := hlim
    exact ⟨kIn, gone hns, ⟨mb, gone hb, hbb⟩, ⟨mc, gone l1, l2⟩⟩
  have e0 : Env0 P w K mg (hidT s1.heap H) callerA [] s1 H :=
    ⟨rfl, M, fun b o e => of_hidT e, Nat.le_of_eq (hidT_size s1.heap H), trivial, fun b m => absurd (show b ∈ ([] : List Addr) from m) (by simp), hok, AllBare.of_eq hg⟩
  refine codeAny_mono ((F _ kIn (gone hns)).go callerA [] s1 H ⟨[.ref a], []⟩ [.ref a] [V.ref a] _ _ hr rfl e0 (hbind s1 _) (Paired.cons rfl Paired.nil) hsp) fun r s' h => ?_
  rcases r with e | fl
  · obtain ⟨_, _, _, _, _, _, _, _, _, _, _, _, z⟩ := h
    exact z.elim
  · cases fl with
    | ret u =>
      obtain ⟨v, H', os, bare, un, hok', rv, q⟩ := h
      cases q
      cases rv
      refine ⟨rfl, OldK.of_keep fun b o e => ?_, os, bare⟩
      cases q : H b with
      | none => exact un.keep b o e q (by simp [frs]) (by simp)
      | some u =>
        rcases hO b with z | ⟨ob, xs, z⟩
        · rw [q] at z; cases z
        · have h1 := hok b _ z
          have h2 := un.frzs b ob _ z
          have h3 := hok' b _ h2
          have e1 : s1.heap.get? b = some ob := h1.1
          have e2 : s'.heap.get? b = some ob := h3.1
          rw [e] at e1; cases e1
          exact e2
    | next => exact h.elim
    | brk => exact h.elim
    | cont => exact h.elim
theorem law_callG (KX : K.In s1.heap) (hns : s1.heap.Ns mainGlobals mg) (hb : s1.heap.Ns builtinsNs mb) (hbb : ∀ y : Str, y ≠ "__name__" → mb y = bootBuiltins y) (hlim : s1.heap.NoLimit) (hg : s1.gens = #[])
    (ha : s1.heap.get? a = some { cls := .type "list", data := .seq vs.toArray }) (hi : IntsAre vs ns) (hl : ns.length ≤ sizeLine)
    (hr : Room k callerA) (F : ∀ base : Heap, K.In base → base.Ns mainGlobals mg → FnG P w K mg base k fa fd [x] sp) (hbind : ∀ (s : Shared) (u : Value), BindsTo s fd ⟨[u], []⟩ [(x, u)])
    (hsp : ∀ H : Hp, Only H → SqL K H a (ns.map V.int) → sp [V.ref a] H (fun v _ => v = .bl true) fun _ _ _ => False) :
    codeAny (model P w) callerA (.call (.ref fa) ⟨[.ref a], []⟩) (fun r s' => r = .ok (.ret (.bool true)) ∧ OldK s1.heap s'.heap ∧ s'.os = s1.os ∧ AllBare s'.gens) s1 := by
  have rv := vals_ints hi
  cases hk : K.lookup a with
  | none =>
    have at_ : ∀ {b : Addr} {u : HO}, (if b = a then some (HO.frz { cls := .type "list", data := .seq vs.toArray } (.lst (ns.map V.int))) else none) = some u → b = a ∧ u = .frz { cls := .type "list", data := .seq vs.toArray } (.lst (ns.map V.int)) := fun {b u} e => by
      by_cases z : b = a
      · rw [if_pos z] at e; cases e; exact ⟨z, rfl⟩
      · rw [if_neg z] at e; cases e
    have is : ∀ {b : Addr}, (if b = a then some (HO.frz { cls := .type "list", data := .seq vs.toArray } (.lst (ns.map V.int))) else none) ≠ none → b = a := fun {b} e => by
      by_cases z : b = a
      · exact z
      · rw [if_neg z] at e; exact absurd rfl e
    have O : Only fun b => if b = a then some (HO.frz { cls := .type "list", data := .seq vs.toArray } (.lst (ns.map V.int))) else none := fun b => by
      by_cases z : b = a
      · exact .inr ⟨_, _, if_pos z⟩
      · exact .inl (if_neg z)
    refine end_core KX hns hb hbb hlim hg hr F hbind _ O (fun b u e => ?_) (fun b e => by rw [is e]; exact hk) (fun b o es ep e g d => ?_) (hsp _ O (.inl (.inr ⟨_, if_pos rfl⟩)))
    · obtain ⟨rfl, rfl⟩ := at_ e
      exact ⟨ha, by rw [List.length_map]; exact hl, vs, 0, rv, ha⟩
    · rw [is e, ha] at g; cases g; cases d
  | some ko =>
    have e := KX a ko hk
    rw [ha] at e; cases e
    have O : Only fun _ => none := fun _ => .inl rfl
    refine end_core KX hns hb hbb hlim hg hr F hbind _ O (fun b u e => by cases e) (fun b e => absurd rfl e) (fun b o es ep e _ _ => absurd rfl e) (hsp _ O (.inr ⟨_, _, _, hk, rfl, rfl, rfl, ?_, by simpa using rv⟩))
    have := rv.length
    rw [List.length_map] at this
    simp only [List.size_toArray]
    omega
end
theorem walk_G {l : PySem.W.OpenLaw} {n k : Nat} {q : Program} {loose : List Str} {XP : (Str → Option Value) → Heap → Prop} {YP : World → Heap → Prop} {d : DefRec} {x : Str} (hn : l.most = some n) (hn2 : n ≤ sizeLine) (hdf : d.params.defaults = []) (hr : Room k callerA)
    (F : ∀ (w : World) (mg : Str → Option Value) (fa : Addr) (h : Heap), YP w h → h.Ns mainGlobals mg → mg d.name = some (.ref fa) → ∃ (K : PySem.W.Frag) (fd : FuncData) (sp : Sp), K.In h ∧ (∀ (s : Shared) (u : Value), BindsTo s fd ⟨[u], []⟩ [(x, u)]) ∧
      (∀ (H : Hp) (a : Addr) (ns : List Int), ns.length ≤ n → (∀ z ∈ ns, Builtin.Int.intBits z ≤ 1048576) → Only H → SqL K H a (ns.map V.int) → sp [V.ref a] H (fun v _ => v = .bl true) fun _ _ _ => False) ∧
      ∀ base : Heap, K.In base → base.Ns mainGlobals mg → FnG l.prog w K mg base k fa fd [x] sp) : PySem.W.WalkO q loose XP YP l.row.toRowW d [] fun f vs => call f vs :=
  Att.attach_callB hn hdf fun w s0 s1 mg mb fa o pm cd doc a vs ns G Y ho hd hcd hmg hobj hints hlen hbits hg => by
    obtain ⟨K, fd, sp, KX, hb, hsp, hF⟩ := F w mg fa s1.heap Y G.T.g hmg
    exact law_callG KX G.T.g G.T.b G.T.builtins G.T.nolimit hg hobj hints (Nat.le_trans hlen hn2) hr hF hb fun H hO hS => hsp H a ns hlen hbits hO hS
/-- the law's own contract: a fact about the reading -/
theorem sp_law {W : Wd} {fn : Fn} {H : Hp} {a : Addr} {ns : List Int} (S : SqL W.K H a (ns.map V.int)) (h : ∃ o, fn [.scr ns] = .ok (.bl true) false o) : spOf W none fn [V.ref a] H (fun v _ => v = .bl true) fun _ _ _ => False := by
  obtain ⟨o, e⟩ := h
  refine ⟨H, [.scr ns], Same.refl H, ⟨rfl, fun i v d hv hd _ => ?_, fun i z => by cases z⟩, ?_⟩
  · cases i with
    | zero => cases hv; cases hd; exact .scr S
    | succ i => cases hv
  · rw [e]
    intro v G' H' _ rv
    have rv' : Rp W G' v (.bl true) := rv
    cases rv'; rfl
end VS
namespace VS
open PySem PySem.Spec PyProof.Rows L2
/-! ### what every place of a body knows -/
structure Good (X : Cx) (Wx : WX) (k : Nat) : Prop where
  nd : X.N.Nodup
  calm : X.calm = true
  pass : PassesOwn (model X.prog X.w) X.A X.env X.xe
  tk : Takes X Wx
  room : Room k X.A
  gd : X.A.guards = some []
theorem good_cx {P : Program} {w : World} {K : PySem.W.Frag} {mg : Str → Option Value} {base : Heap} {N : List Str} {qual : Str} {sc : Scope} {f : Addr} {cd : Value} {A : Around} {outer : List PySem.Env} {s : Shared} {H : Hp} {E : XK} {k : Nat} (nd : N.Nodup) (hr : Room k (A.deeper (envOfC qual sc s.heap.objs.size f cd))) (hg : A.guards = some []) : Good (cxG P w K mg base N qual sc f cd A outer s H E) (wxE E) k :=
  ⟨nd, rfl, passes_of rfl, takes_of rfl rfl rfl rfl, hr, hg⟩
section
variable {X : Cx} {c : Nat → Value} {Wx : WX} {k : Nat}
theorem good_blk (g : Good X Wx k) (s : Shared) (H : Hp) (scope : Scope) (ce : PySem.Env) (fp : List Addr) : Good (X.blk s H scope ce fp) wxN k :=
  ⟨g.nd, g.calm, PassesOwn.never, takes0, g.room, g.gd⟩
theorem blk_of {scope : Scope} {P : Cx → Prop} (g : Good X Wx k) (h : ∀ (s : Shared) (H : Hp) (C : Addr) (cl : List (Str × Addr)) (fp : List Addr), Good (X.blk s H scope (compEnvC scope cl C X.env) fp) wxN k → P (X.blk s H scope (compEnvC scope cl C X.env) fp)) : Blks X scope P := fun s H C cl fp => h s H C cl fp (good_blk g s H scope _ fp)
theorem Good.u1 (g : Good X Wx k) : X.A.units + 1 < cLine := by have := g.room.un; omega
theorem Good.u64 (g : Good X Wx k) : X.A.units + 64 < cLine := by have := g.room.un; omega
theorem Good.u65 (g : Good X Wx k) : X.A.units + 65 < cLine := by have := g.room.un; omega
theorem Good.u70 (g : Good X Wx k) : X.A.units + 70 < cLine := by have := g.room.un; omega
theorem iAdd_ok : OpOk X c (inplaceOp .Add) (iiOp (fun _ _ => true) fun i j => i + j) := iiOp_ok (rI_of iop_add) fun _ _ _ => trivial
theorem iSub_ok : OpOk X c (inplaceOp .Sub) (iiOp (fun _ _ => true) fun i j => i - j) := iiOp_ok (rI_of iop_sub) fun _ _ _ => trivial
/-! ### short forms -/
theorem q_int {n : Int} {j : Nat} {pos : Pos} : DE X c Wx (.Constant (.int n) j pos) (dConst (.int n)) := de_const pe_int fun _ _ => .int _
theorem q_bl {b : Bool} {j : Nat} {pos : Pos} : DE X c Wx (.Constant (.bool b) j pos) (dConst (.bl b)) := de_const pe_bl fun _ _ => .bl _
theorem q_non {j : Nat} {pos : Pos} : DE X c Wx (.Constant .none j pos) (dConst .non) := de_const pe_non fun _ _ => .non
theorem q_str {x : Str} {j : Nat} {pos : Pos} : DE X c Wx (.Constant (.str x) j pos) (dConst (.str x)) := de_const pe_str fun _ _ => .str _
theorem q_gint {x : Str} {pos : Pos} {n : Int} (hm : ∃ t, X.mg x = some (.int n t)) (hg : Gl X x := by rfl) (hd : (x == ("__debug__" : Str)) = false := by decide) : DE X c Wx (.Name x pos) (dConst (.int n)) := by
  obtain ⟨t, e⟩ := hm
  exact de_const (v := .int n) (pe_glob hg e (show L2.RelV (.int n) (.int n t) from ⟨t, rfl⟩) hd) fun _ _ => .int _
theorem q_gstr {x : Str} {pos : Pos} {n : Str} (hm : ∃ t, X.mg x = some (.str n t)) (hg : Gl X x := by rfl) (hd : (x == ("__debug__" : Str)) = false := by decide) : DE X c Wx (.Name x pos) (dConst (.str n)) := by
  obtain ⟨t, e⟩ := hm
  exact de_const (v := .str n) (pe_glob hg e (show L2.RelV (.str n) (.str n t) from ⟨t, rfl⟩) hd) fun _ _ => .str _
theorem q_callB {x : Str} {p pos : Pos} {e : Expr} {es : List Expr} {id : String} {op : OpN} {f : Env → Out (List RV × Env)} (ho : CallOk X c (.builtin id) op) (hm : X.mg x = none) (ha : DA X c Wx (e :: es) f) (hg : Gl X x := by rfl) (hv : bootBuiltins x = some (.builtin id) := by rfl)
    (hn : x ≠ "__name__" := by decide) (hd : (x == ("__debug__" : Str)) = false := by rfl) (he : starEach (e :: es) X.env = (false, eval e X.env) :: starEach es X.env := by rfl) (hp : (backTo pos (starEach es X.env)).any (·.1) = false := by rfl) : DE X c Wx (.Call (.Name x p) (e :: es) [] pos) (dCallN op f) := de_callB ho hg hm hv ha hn hd he hp
theorem q_callTy {x : Str} {p pos : Pos} {e : Expr} {es : List Expr} {T : String} {op : OpN} {f : Env → Out (List RV × Env)} (ho : CallOk X c (.type T) op) (hm : X.mg x = none) (ha : DA X c Wx (e :: es) f) (hg : Gl X x := by rfl) (hv : bootBuiltins x = some (.type T) := by rfl)
    (hn : x ≠ "__name__" := by decide) (hd : (x == ("__debug__" : Str)) = false := by rfl) (he : starEach (e :: es) X.env = (false, eval e X.env) :: starEach es X.env := by rfl) (hp : (backTo pos (starEach es X.env)).any (·.1) = false := by rfl) : DE X c Wx (.Call (.Name x p) (e :: es) [] pos) (dCallN op f) := de_callTy ho hg hm hv ha hn hd he hp
theorem q_callTy0 {x : Str} {p pos : Pos} {T : String} {op : OpN} (ho : CallOk X c (.type T) op) (hm : X.mg x = none) (hg : Gl X x := by rfl) (hv : bootBuiltins x = some (.type T) := by rfl)
    (hn : x ≠ "__name__" := by decide) (hd : (x == ("__debug__" : Str)) = false := by rfl) : DE X c Wx (.Call (.Name x p) [] [] pos) (dCallN op dNil) := de_callTy0 ho hg hm hv hn hd
theorem kit_ok (K : PySem.W.Frag) {T : String} (h : T ∈ ["int", "bool", "list", "tuple", "str", "dict"]) : KitOk K T := by
  intro t ht
  simp only [List.mem_cons, List.not_mem_nil, or_false] at ht h
  rcases h with rfl | rfl | rfl | rfl | rfl | rfl <;> rcases ht with rfl | rfl | rfl | rfl | rfl | rfl | rfl <;> rfl
theorem q_isi {x T : Str} {p p2 pos : Pos} {e : Expr} {Ts : String} {f : Env → Out (RV × Env)} (hm : X.mg x = none) (hmT : X.mg T = none) (ha : DE X c Wx e f) (hg : Gl X x := by rfl) (hv : bootBuiltins x = some (.builtin "isinstance") := by rfl) (hgT : Gl X T := by rfl) (hvT : bootBuiltins T = some (.type Ts) := by rfl) (kit : Ts ∈ ["int", "bool", "list", "tuple", "str", "dict"] := by decide)
    (hn : x ≠ "__name__" := by decide) (hd : (x == ("__debug__" : Str)) = false := by rfl) (hnT : T ≠ "__name__" := by decide) (hdT : (T == ("__debug__" : Str)) = false := by rfl) (he : starEach [e, .Name T p2] X.env = (false, eval e X.env) :: starEach [.Name T p2] X.env := by rfl) : DE X c Wx (.Call (.Name x p) [e, .Name T p2] [] pos) (dIsi Ts f) :=
  de_isi ha hg hm hv hgT hmT hvT (kit_ok _ kit) hn hd hnT hdT he
theorem q_cons {e : Expr} {es : List Expr} {f : Env → Out (RV × Env)} {h : Env → Out (List RV × Env)} (ha : DE X c Wx e f) (hb : DA X c Wx es h) (hs : starEach (e :: es) X.env = (false, eval e X.env) :: starEach es X.env := by rfl) : DA X c Wx (e :: es) (dCons f h) := da_cons ha hb hs
theorem q_star {e : Expr} {es : List Expr} {p : Pos} {f : Env → Out (RV × Env)} {h : Env → Out (List RV × Env)} (ha : DE X c Wx e f) (hb : DA X c Wx es h) (hs : starEach (.Starred e p :: es) X.env = (true, eval e X.env) :: starEach es X.env := by rfl) : DA X c Wx (.Starred e p :: es) (dStar f h) := da_star ha hb hs
theorem q_wr {x : Str} {p0 : Pos} {e : Expr} {es : List Expr} {name : Str} {apos cpos : Pos} {id : String} {op : OpW} {i : Nat} {r : V → List V → Hp → VK → Prop} {f : Env → Out (List RV × Env)} (hr : MtR X id r) (sem : WrSem (wd X c) r op) (slot : Slot "list" name id) (hty : typeOf (.builtin id) = pure (.type "method_descriptor"))
    (ha : PE X (.Name x p0) (tVar i)) (hb : DA X c Wx (e :: es) f) (h1 : attributeBase (.Name x p0) name X.env (eval (.Name x p0) X.env) = eval (.Name x p0) X.env := by rfl)
    (h2 : ((backTo cpos (starEach (e :: es) X.env)).all (fun x => !x.1) && (backToKw cpos (keywordEach [] X.env)).all (fun x => x.1.isSome) && decide ((e :: es).length + ([] : List Keyword).length + (if ([] : List Keyword).isEmpty then 0 else 1) < 30)) = true := by rfl)
    (h3 : (apos.endLine == cpos.line) = true := by rfl) (h4 : starEach (e :: es) X.env = (false, eval e X.env) :: starEach es X.env := by rfl) (h5 : (backTo cpos (starEach es X.env)).any (·.1) = false := by rfl) : DE X c Wx (.Call (.Attribute (.Name x p0) name apos) (e :: es) [] cpos) (dWrite isLst op i f) := de_writeL hr sem slot hty ha hb h1 h2 h3 h4 h5
theorem q_wr0 {x : Str} {p0 : Pos} {name : Str} {apos cpos : Pos} {id : String} {op : OpW} {i : Nat} {r : V → List V → Hp → VK → Prop} (hr : MtR X id r) (sem : WrSem (wd X c) r op) (slot : Slot "list" name id) (hty : typeOf (.builtin id) = pure (.type "method_descriptor"))
    (ha : PE X (.Name x p0) (tVar i)) (h1 : attributeBase (.Name x p0) name X.env (eval (.Name x p0) X.env) = eval (.Name x p0) X.env := by rfl)
    (h3 : (apos.endLine == cpos.line) = true := by rfl) : DE X c Wx (.Call (.Attribute (.Name x p0) name apos) [] [] cpos) (dWrite isLst op i dNil) := de_writeL0 hr sem slot hty ha h1 h3
theorem q_append {x : Str} {p0 : Pos} {e : Expr} {apos cpos : Pos} {i : Nat} {f : Env → Out (RV × Env)} (ha : PE X (.Name x p0) (tVar i)) (hb : DE X c Wx e f) (h1 : attributeBase (.Name x p0) "append" X.env (eval (.Name x p0) X.env) = eval (.Name x p0) X.env := by rfl)
    (h2 : ((backTo cpos (starEach [e] X.env)).all (fun x => !x.1) && (backToKw cpos (keywordEach [] X.env)).all (fun x => x.1.isSome) && decide ([e].length + ([] : List Keyword).length + (if ([] : List Keyword).isEmpty then 0 else 1) < 30)) = true := by rfl)
    (h3 : (apos.endLine == cpos.line) = true := by rfl) (h4 : starEach [e] X.env = (false, eval e X.env) :: starEach [] X.env := by rfl) (h5 : (backTo cpos (starEach [] X.env)).any (·.1) = false := by rfl) : DE X c Wx (.Call (.Attribute (.Name x p0) "append" apos) [e] [] cpos) (dWrite isLst wAppend i (dCons f dNil)) :=
  de_writeL mt_append wAppend_ok PySem.F.slot_list_append PySem.F.type_list_append ha (da_cons hb da_nil h4) h1 h2 h3 h4 h5
theorem q_popAt {x : Str} {p0 : Pos} {e : Expr} {apos cpos : Pos} {i : Nat} {f : Env → Out (RV × Env)} (ha : PE X (.Name x p0) (tVar i)) (hb : DE X c Wx e f) (h1 : attributeBase (.Name x p0) "pop" X.env (eval (.Name x p0) X.env) = eval (.Name x p0) X.env := by rfl)
    (h2 : ((backTo cpos (starEach [e] X.env)).all (fun x => !x.1) && (backToKw cpos (keywordEach [] X.env)).all (fun x => x.1.isSome) && decide ([e].length + ([] : List Keyword).length + (if ([] : List Keyword).isEmpty then 0 else 1) < 30)) = true := by rfl)
    (h3 : (apos.endLine == cpos.line) = true := by rfl) (h4 : starEach [e] X.env = (false, eval e X.env) :: starEach [] X.env := by rfl) (h5 : (backTo cpos (starEach [] X.env)).any (·.1) = false := by rfl) : DE X c Wx (.Call (.Attribute (.Name x p0) "pop" apos) [e] [] cpos) (dWrite isLst wPopAt i (dCons f dNil)) :=
  de_writeL mt_popAt wPopAt_ok PySem.F.slot_list_pop PySem.F.type_list_pop ha (da_cons hb da_nil h4) h1 h2 h3 h4 h5
theorem q_pop {x : Str} {p0 : Pos} {apos cpos : Pos} {i : Nat} (ha : PE X (.Name x p0) (tVar i)) (h1 : attributeBase (.Name x p0) "pop" X.env (eval (.Name x p0) X.env) = eval (.Name x p0) X.env := by rfl) (h3 : (apos.endLine == cpos.line) = true := by rfl) : DE X c Wx (.Call (.Attribute (.Name x p0) "pop" apos) [] [] cpos) (dWrite isLst wPop i dNil) :=
  de_writeL0 mt_pop wPop_ok PySem.F.slot_list_pop PySem.F.type_list_pop ha h1 h3
theorem q_reverse {x : Str} {p0 : Pos} {apos cpos : Pos} {i : Nat} (ha : PE X (.Name x p0) (tVar i)) (h1 : attributeBase (.Name x p0) "reverse" X.env (eval (.Name x p0) X.env) = eval (.Name x p0) X.env := by rfl) (h3 : (apos.endLine == cpos.line) = true := by rfl) : DE X c Wx (.Call (.Attribute (.Name x p0) "reverse" apos) [] [] cpos) (dWrite isLst wReverse i dNil) :=
  de_writeL0 mt_reverse wReverse_ok PySem.F.slot_list_reverse PySem.F.type_list_reverse ha h1 h3
theorem q_add {x : Str} {p0 : Pos} {e : Expr} {apos cpos : Pos} {i : Nat} {f : Env → Out (RV × Env)} (ha : PE X (.Name x p0) (tVar i)) (hb : DE X c Wx e f) (h1 : attributeBase (.Name x p0) "add" X.env (eval (.Name x p0) X.env) = eval (.Name x p0) X.env := by rfl)
    (h2 : ((backTo cpos (starEach [e] X.env)).all (fun x => !x.1) && (backToKw cpos (keywordEach [] X.env)).all (fun x => x.1.isSome) && decide ([e].length + ([] : List Keyword).length + (if ([] : List Keyword).isEmpty then 0 else 1) < 30)) = true := by rfl)
    (h3 : (apos.endLine == cpos.line) = true := by rfl) (h4 : starEach [e] X.env = (false, eval e X.env) :: starEach [] X.env := by rfl) (h5 : (backTo cpos (starEach [] X.env)).any (·.1) = false := by rfl) : DE X c Wx (.Call (.Attribute (.Name x p0) "add" apos) [e] [] cpos) (dWrite isSet wAdd i (dCons f dNil)) :=
  de_add ha (da_cons hb da_nil h4) h1 h2 h3 h4 h5
theorem q_index {o e : Expr} {apos cpos : Pos} {f h : Env → Out (RV × Env)} (hu : X.A.units + 65 < cLine) (ha : DE X c Wx o f) (hb : DE X c Wx e h) (h1 : attributeBase o "index" X.env (eval o X.env) = eval o X.env := by rfl)
    (h2 : ((backTo cpos (starEach [e] X.env)).all (fun x => !x.1) && (backToKw cpos (keywordEach [] X.env)).all (fun x => x.1.isSome) && decide ([e].length + ([] : List Keyword).length + (if ([] : List Keyword).isEmpty then 0 else 1) < 30)) = true := by rfl)
    (h3 : (apos.endLine == cpos.line) = true := by rfl) (h4 : starEach [e] X.env = (false, eval e X.env) :: starEach [] X.env := by rfl) (h5 : (backTo cpos (starEach [] X.env)).any (·.1) = false := by rfl) : DE X c Wx (.Call (.Attribute o "index" apos) [e] [] cpos) (dMeth mIndex f (dCons h dNil)) :=
  de_methL (mIndex_ok hu) PySem.F.slot_list_index PySem.F.type_list_index ha (da_cons hb da_nil h4) h1 h2 h3 h4 h5
theorem dt_chain {e1 e2 e3 : Expr} {pos : Pos} {o o' : CmpOp} {op op' : Op2} {f g h : Env → Out (RV × Env)} (ho : OpOk X c (compareOp o) op) (ho' : OpOk X c (compareOp o') op') (ha : DE X c Wx e1 f) (hb : DE X c Wx e2 g) (hc : DE X c Wx e3 h)
    (hm : lastMarks [o, o'] [e2, e3] = false) : DT X c Wx (.Compare e1 [o, o'] [e2, e3] pos) (dTst (dChain op op' f g h)) := by
  obtain ⟨r, hr, sem⟩ := ho
  obtain ⟨r', hr', sem'⟩ := ho'
  obtain ⟨ta, pa, ka⟩ := ha.runP
  obtain ⟨tb, pb, kb⟩ := hb.runP
  obtain ⟨tc, pc, kc⟩ := hc.runP
  refine ⟨_, pt_chain hr hr' pa pb pc hm, fun F G env σ H Q R hq => ?_⟩
  have assoc : dTst (dChain op op' f g h) env = (f env).bind fun p => (g p.2).bind fun q => (fin2 op p.1 q.1 q.2).bind fun r => (match r.1 with
    | .fz (.bl true) => (h r.2).bind fun w => fin2 op' q.1 w.1 w.2
    | .fz (.bl false) => .ok (.fz (.bl false), r.2)
    | _ => .st).bind fun p => match p.1 with
      | .fz (.bl b) => .ok (b, p.2)
      | _ => .st := by
    unfold dTst dChain
    rw [bind_assoc]
    congr 1; funext p
    rw [bind_assoc]
    congr 1; funext q
    rw [bind_assoc]
    all_goals rfl
  rw [assoc] at hq
  refine ka F G env σ H _ _ _ pl_T R hq fun ra env1 v G1 H1 R1 s1 p1 h1 => ?_
  refine kb F G1 env1 σ H1 _ _ _ (pl_T.grow s1) R1 h1 fun rb env2 u G2 H2 R2 s2 p2 h2 => ?_
  unfold fin2 at h2
  cases e : resolve env2 ra with
  | none => rw [e] at h2; exact h2.elim
  | some x =>
    cases e' : resolve env2 rb with
    | none => rw [e, e'] at h2; exact h2.elim
    | some y =>
      rw [e, e'] at h2
      cases eo : op x y with
      | none => dsimp only at h2; rw [eo] at h2; exact h2.elim
      | some q =>
        obtain ⟨d, fr⟩ := q
        dsimp only at h2; rw [eo] at h2
        refine sem G2 H2 v u x y d fr _ R2.same ((p1.mono (Le.of s2)).vw R2 e) (p2.vw R2 e') eo fun w H' rs => ?_
        cases fr with
        | true => exact h2.elim
        | false =>
          cases d with
          | bl b =>
            obtain ⟨G', s', R', ok⟩ := R2.res rs
            cases ok
            refine ⟨b, rfl, ?_⟩
            cases b with
            | false => exact ⟨false, rfl, h2 G' H' R' ((s1.trans s2).trans s')⟩
            | true =>
              have h2' : TPost (wd X c) Wx F G σ Q (((h env2).bind fun w => fin2 op' rb w.1 w.2).bind fun p => match p.1 with
                | .fz (.bl b) => .ok (b, p.2)
                | _ => .st) := h2
              rw [bind_assoc] at h2'
              refine kc F G' env2 σ H' _ _ _ (pl_T.grow ((s1.trans s2).trans s')) R' h2' fun rc env3 z G3 H3 R3 s3 p3 h3 => ?_
              unfold fin2 at h3
              cases e3 : resolve env3 rb with
              | none => rw [e3] at h3; exact h3.elim
              | some x' =>
                cases e4 : resolve env3 rc with
                | none => rw [e3, e4] at h3; exact h3.elim
                | some y' =>
                  rw [e3, e4] at h3
                  cases eo' : op' x' y' with
                  | none => dsimp only at h3; rw [eo'] at h3; exact h3.elim
                  | some q =>
                    obtain ⟨d', fr'⟩ := q
                    dsimp only at h3; rw [eo'] at h3
                    refine sem' G3 H3 u z x' y' d' fr' _ R3.same ((p2.mono (Le.of (s'.trans s3))).vw R3 e3) (p3.vw R3 e4) eo' fun w2 H'' rs2 => ?_
                    cases fr' with
                    | true => exact h3.elim
                    | false =>
                      cases d' with
                      | bl b =>
                        obtain ⟨G4, s4, R4, ok⟩ := R3.res rs2
                        cases ok
                        exact ⟨b, rfl, h3 G4 H'' R4 ((((s1.trans s2).trans s').trans s3).trans s4)⟩
                      | _ => exact h3.elim
          | _ => exact h2.elim
/-! a, b = e1, e2 -/
def sPar (i j : Nat) (f h : Env → Out (RV × Env)) : Env → Out Fl := fun env => (f env).bind fun p => (h p.2).bind fun q => match freezeR q.2 p.1 with
  | some (d, e1) => match freezeR e1 q.1 with
    | some (d2, e2) => if (notIo i e2 && notIo j e2) = true then .ok (.nx ((e2.set i (some (d, .frz))).set j (some (d2, .frz)))) else .st
    | none => .st
  | none => .st
theorem ds_par {i j : Nat} {x y : Str} {a b : Expr} {px py pt pos pt2 : Pos} {kt k2 : Nat} {f h : Env → Out (RV × Env)} (g : Good X Wx k) (hi : X.N[i]? = some x) (hj : X.N[j]? = some y) (hij : i ≠ j) (hx : List.lookup x X.env.scope.names = some NameKind.local) (hy : List.lookup y X.env.scope.names = some NameKind.local) (ha : DE X c Wx a f) (hb : DE X c Wx b h)
    (hw : swappedStores [.Tuple [.Name x px, .Name y py] kt pt] (.Tuple [a, b] k2 pt2) X.env = pure (some [x, y]))
    (hs : starEach [a, b] X.env = (false, eval a X.env) :: starEach [b] X.env := by rfl) (hs2 : starEach [b] X.env = [(false, eval b X.env)] := by rfl) (h0 : swapsWithSole [.Tuple [.Name x px, .Name y py] kt pt] (.Tuple [a, b] k2 pt2) pos.line X.env = pure false := by rfl) : DS X c Wx (.Assign [.Tuple [.Name x px, .Name y py] kt pt] (.Tuple [a, b] k2 pt2) pos) (sPar i j f h) := by
  obtain ⟨ta, pa, ka⟩ := ha.runP
  obtain ⟨tb, pb, kb⟩ := hb.runP
  refine ⟨_, ps_par g.calm g.nd hi hj hij hx hy (pa_cons pa (pa_cons pb pa_nil hs2) hs) hw h0, fun F G env σ H D R hq => ?_⟩
  refine ka F G env σ H _ _ _ pl_S R hq fun ra env1 v G1 H1 R1 s1 p1 h1 => ?_
  refine kb F G1 env1 σ H1 _ _ _ (pl_S.grow s1) R1 h1 fun rb env2 u G2 H2 R2 s2 p2 h2 => ?_
  refine ⟨v, u, rfl, ?_⟩
  dsimp only at h2
  cases e1 : freezeR env2 ra with
  | none => rw [e1] at h2; exact h2.elim
  | some w =>
    obtain ⟨d, env3⟩ := w
    rw [e1] at h2
    dsimp only at h2
    cases e2 : freezeR env3 rb with
    | none => rw [e2] at h2; exact h2.elim
    | some w =>
      obtain ⟨d2, env4⟩ := w
      rw [e2] at h2
      dsimp only at h2
      by_cases z : (notIo i env4 && notIo j env4) = true
      · rw [if_pos z] at h2
        obtain ⟨z1, z2⟩ := Bool.and_eq_true_iff.mp z
        obtain ⟨G3, s3, R3, q3⟩ := (p1.mono (Le.of s2)).freeze R2 e1
        obtain ⟨G4, s4, R4, q4⟩ := (p2.mono (Le.of s3)).freeze R3 e2
        refine h2 _ G4 H2 ((R4.setFrz (notIo_ok z1) (q3.mono (Le.of s4))).setFrz ?_ q4) (s1.trans (s2.trans (s3.trans s4)))
        intro d' e
        rw [List.getElem?_set_ne hij] at e
        exact notIo_ok z2 d' e
      · rw [if_neg z] at h2; exact h2.elim
end
end VS
namespace VS
open PySem PySem.Spec PyProof.Rows L2
/-! ### readings run by simp -/
section
variable {α β : Type} {env : Env} {f g h : Env → Out (RV × Env)}
@[simp] theorem x_bind_ok {a : α} {k : α → Out β} : (Out.ok a).bind k = k a := (rfl)
@[simp] theorem x_bind_st {k : α → Out β} : (Out.st : Out α).bind k = .st := (rfl)
@[simp] theorem x_bind_ex {x : Exc} {e : Env} {k : α → Out β} : (Out.ex x e : Out α).bind k = .ex x e := (rfl)
/-- a bind whose continuation simp leaves alone -/
class Kont (α β : Type) where
  run : α → Out β
def Out.bnd {α β : Type} (o : Out α) [k : Kont α β] : Out β := o.bind k.run
@[simp ↓] theorem x_bind_def {o : Out α} {k : α → Out β} : o.bind k = @Out.bnd α β o ⟨k⟩ := (rfl)
@[simp] theorem x_bnd_ok {a : α} {k : α → Out β} : @Out.bnd α β (.ok a) ⟨k⟩ = k a := (rfl)
@[simp] theorem x_bnd_st {k : α → Out β} : @Out.bnd α β .st ⟨k⟩ = .st := (rfl)
@[simp] theorem x_bnd_ex {x : Exc} {e : Env} {k : α → Out β} : @Out.bnd α β (.ex x e) ⟨k⟩ = .ex x e := (rfl)
@[simp] theorem x_of_some {a : α} : Out.of (some a) = .ok a := (rfl)
@[simp] theorem x_of_none : Out.of (none : Option α) = .st := (rfl)
@[simp] theorem x_noEx_ok {a : α} : noEx (Out.ok a) = .ok a := (rfl)
@[simp] theorem x_res_fz {d : D} : resolve env (.fz d) = some d := (rfl)
@[simp] theorem x_res_fr {d : D} : resolve env (.fr d) = some d := (rfl)
@[simp] theorem x_frz_fz {d : D} : freezeR env (.fz d) = some (d, env) := (rfl)
@[simp] theorem x_frz_fr {d : D} : freezeR env (.fr d) = some (d, env) := (rfl)
@[simp] theorem x_res_bo {i : Nat} : resolve env (.bo i) = (env[i]?.bind id).map (·.1) := by
  show (match env[i]? with
    | some (some (d, _)) => some d
    | _ => none) = _
  rcases env[i]? with _ | _ | ⟨d, ow⟩ <;> rfl
/-- what a slot holds when it is frozen -/
def frzSlot (i : Nat) (env : Env) : D × Ow → Option (D × Env)
  | (d, .frz) => some (d, env)
  | (d, .own) => some (d, env.set i (some (d, .frz)))
  | (_, .io) => none
@[simp] theorem x_fs1 {i : Nat} {d : D} : frzSlot i env (d, .frz) = some (d, env) := (rfl)
@[simp] theorem x_fs2 {i : Nat} {d : D} : frzSlot i env (d, .own) = some (d, env.set i (some (d, .frz))) := (rfl)
@[simp] theorem x_frz_bo {i : Nat} : freezeR env (.bo i) = (env[i]?.bind id).bind (frzSlot i env) := by
  show (match env[i]? with
    | some (some (d, .frz)) => some (d, env)
    | some (some (d, .own)) => some (d, env.set i (some (d, .frz)))
    | _ => none) = _
  rcases env[i]? with _ | _ | ⟨d, _ | _ | _⟩ <;> rfl
def varSlot (i : Nat) (env : Env) : D × Ow → Out (RV × Env)
  | (d, .frz) => .ok (.fz d, env)
  | (_, _) => .ok (.bo i, env)
@[simp] theorem x_vs1 {i : Nat} {d : D} : varSlot i env (d, .frz) = .ok (.fz d, env) := (rfl)
@[simp] theorem x_vs2 {i : Nat} {d : D} : varSlot i env (d, .own) = .ok (.bo i, env) := (rfl)
@[simp] theorem x_vs3 {i : Nat} {d : D} : varSlot i env (d, .io) = .ok (.bo i, env) := (rfl)
@[simp] theorem x_var {i : Nat} : dVar i env = (Out.of (env[i]?.bind id)).bind (varSlot i env) := by
  show (match env[i]? with
    | some (some (d, .frz)) => Out.ok (RV.fz d, env)
    | some (some _) => Out.ok (RV.bo i, env)
    | _ => Out.st) = _
  rcases env[i]? with _ | _ | ⟨d, _ | _ | _⟩ <;> rfl
@[simp] theorem x_resA_cons {r : RV} {rs : List RV} : resolveA env (r :: rs) = (resolve env r).bind fun d => (resolveA env rs).map (d :: ·) := by
  show (match resolve env r, resolveA env rs with
    | some d, some ds => some (d :: ds)
    | _, _ => none) = _
  cases resolve env r <;> cases resolveA env rs <;> rfl
@[simp] theorem x_frzA_cons {r : RV} {rs : List RV} : freezeA env (r :: rs) = (freezeR env r).bind fun p => (freezeA p.2 rs).map fun q => (p.1 :: q.1, q.2) := by
  show (match freezeR env r with
    | some (d, env') => match freezeA env' rs with
      | some (ds, env'') => some (d :: ds, env'')
      | none => none
    | none => none) = _
  cases freezeR env r with
  | none => rfl
  | some p =>
    obtain ⟨d, e⟩ := p
    show (match freezeA e rs with
      | some (ds, env'') => some (d :: ds, env'')
      | none => none) = (freezeA e rs).map fun q => (d :: q.1, q.2)
    cases freezeA e rs <;> rfl
@[simp] theorem x_disp {mk : List D → D} {fr : Bool} {rs : List RV} : mkDisp mk fr rs env = (Out.of (freezeA env rs)).bind fun p => if le24 p.1.length = true then .ok (mkRV (mk p.1) fr, p.2) else .st := by
  unfold mkDisp; cases freezeA env rs <;> rfl
def intOf : D → Option Int
  | .int i => some i
  | _ => none
@[simp] theorem x_intOf {i : Int} : intOf (.int i) = some i := (rfl)
@[simp] theorem x_optI {r : RV} : optI r env = (resolve env r).bind intOf := by
  unfold optI
  rcases resolve env r with _ | d
  · rfl
  · cases d <;> rfl
def ownSlot : D × Ow → Option (D × Ow)
  | (_, .frz) => none
  | c => some c
@[simp] theorem x_os1 {d : D} : ownSlot (d, .own) = some (d, .own) := (rfl)
@[simp] theorem x_os2 {d : D} : ownSlot (d, .io) = some (d, .io) := (rfl)
@[simp] theorem x_own {i : Nat} : ownAt i env = (env[i]?.bind id).bind ownSlot := by
  show (match env[i]? with
    | some (some (_, .frz)) => none
    | some (some p) => some p
    | _ => none) = _
  rcases env[i]? with _ | _ | ⟨d, _ | _ | _⟩ <;> rfl
@[simp] theorem x_chkOwn {p : D → Bool} {i : Nat} : chkOwn p i env = (Out.of (ownAt i env)).bind fun q => if p q.1 = true then .ok env else .st := by
  unfold chkOwn; cases ownAt i env <;> rfl
@[simp] theorem x_store3 {i j : Nat} : storeR i (.bo j) env = (freezeR env (.bo j)).bind fun p => if notIo i p.2 = true then some (p.2.set i (some (p.1, .frz))) else none := by
  show (match freezeR env (.bo j) with
    | some (d, env') => if notIo i env' = true then some (env'.set i (some (d, .frz))) else none
    | none => none) = _
  cases freezeR env (.bo j) <;> rfl
def noIo : D × Ow → Bool
  | (_, .io) => false
  | _ => true
@[simp] theorem x_ni1 {d : D} : noIo (d, .frz) = true := (rfl)
@[simp] theorem x_ni2 {d : D} : noIo (d, .own) = true := (rfl)
@[simp] theorem x_ni3 {d : D} : noIo (d, .io) = false := (rfl)
@[simp] theorem x_notIo {i : Nat} : notIo i env = (env[i]?.bind id).all noIo := by
  unfold notIo
  rcases env[i]? with _ | _ | ⟨d, _ | _ | _⟩ <;> rfl
def tupOf : D → Option (List D)
  | .tup ds => some ds
  | _ => none
@[simp] theorem x_tupOf {ds : List D} : tupOf (.tup ds) = some ds := (rfl)
@[simp] theorem x_gtup {n : Nat} {ks : List D → Env → Out Env} {r : RV} : gTupD n ks r env = (Out.of ((resolve env r).bind tupOf)).bind fun ds => if Nat.beq ds.length n = true then ks ds env else .st := by
  unfold gTupD
  rcases resolve env r with _ | d
  · rfl
  · cases d <;> rfl
@[simp] theorem x_gsub {op : OpS} {i : Nat} {r : RV} : dgSub op i f r env = (Out.of (freezeR env r)).bind fun p => (chkOwn (fun _ => true) i p.2).bind fun e1 => (f e1).bind fun q => finS op i p.1 q.1 q.2 := by
  unfold dgSub; cases freezeR env r <;> rfl
def frzOnly : D × Ow → Option D
  | (d, .frz) => some d
  | _ => none
@[simp] theorem x_fo {d : D} : frzOnly (d, .frz) = some d := (rfl)
@[simp] theorem x_frzAt {i : Nat} : frzAt i env = (env[i]?.bind id).bind frzOnly := by
  unfold frzAt
  rcases env[i]? with _ | _ | ⟨d, _ | _ | _⟩ <;> rfl
/-- a call's end in the caller -/
def foOut (q : Option (Nat × Nat × D × Ow)) (e : Env) : FO → Out (RV × Env)
  | .ok d fr out => .ok (mkRV d fr, putIo q out e)
  | .ex x out => .ex x (putIo q out e)
  | .st => .st
@[simp] theorem x_fo1 {q : Option (Nat × Nat × D × Ow)} {d o : D} {fr : Bool} : foOut q env (.ok d fr o) = .ok (mkRV d fr, putIo q o env) := (rfl)
@[simp] theorem x_fo2 {q : Option (Nat × Nat × D × Ow)} {x : Exc} {o : D} : foOut q env (.ex x o) = .ex x (putIo q o env) := (rfl)
@[simp] theorem x_callF {io : Option Nat} {fn : Fn} {rs : List RV} : callF io fn rs env = (Out.of (frzNon io 0 env rs)).bind fun p => (Out.of (ioSlot io rs p.2)).bind fun q => foOut q p.2 (fn (fillIo q p.1)) := by
  unfold callF
  rcases frzNon io 0 env rs with _ | ⟨ds, e⟩
  · rfl
  · simp only [x_of_some, x_bind_ok]
    rcases ioSlot io rs e with _ | q
    · rfl
    · simp only [x_of_some, x_bind_ok]
      cases fn (fillIo q ds) <;> rfl
@[simp] theorem x_fn_cons {io : Option Nat} {i : Nat} {r : RV} {rs : List RV} : frzNon io i env (r :: rs) = if io = some i then (frzNon io (i + 1) env rs).map (fun q => (D.non :: q.1, q.2)) else (freezeR env r).bind fun p => (frzNon io (i + 1) p.2 rs).map fun q => (p.1 :: q.1, q.2) := by
  show (if io = some i then match frzNon io (i + 1) env rs with
      | some (ds, e) => some (D.non :: ds, e)
      | none => none
    else match freezeR env r with
      | some (d, e) => match frzNon io (i + 1) e rs with
        | some (ds, e') => some (d :: ds, e')
        | none => none
      | none => none) = _
  by_cases h : io = some i
  · rw [if_pos h, if_pos h]; cases frzNon io (i + 1) env rs <;> rfl
  · rw [if_neg h, if_neg h]
    rcases freezeR env r with _ | ⟨d, e⟩
    · rfl
    · show (match frzNon io (i + 1) e rs with
        | some (ds, e') => some (d :: ds, e')
        | none => none) = (frzNon io (i + 1) e rs).map fun q => (d :: q.1, q.2)
      cases frzNon io (i + 1) e rs <;> rfl
@[simp] theorem x_io0 {rs : List RV} : ioSlot none rs env = some none := (rfl)
def boOf (i : Nat) (env : Env) : RV → Option (Option (Nat × Nat × D × Ow))
  | .bo j => (ownAt j env).map fun q => some (i, j, q.1, q.2)
  | _ => none
@[simp] theorem x_boOf {i j : Nat} : boOf i env (.bo j) = (ownAt j env).map fun q => some (i, j, q.1, q.2) := (rfl)
@[simp] theorem x_io1 {i : Nat} {rs : List RV} : ioSlot (some i) rs env = rs[i]?.bind (boOf i env) := by
  show (match rs[i]? with
    | some (.bo j) => match ownAt j env with
      | some (d, ow) => some (some (i, j, d, ow))
      | none => none
    | _ => none) = _
  rcases rs[i]? with _ | (d | d | j)
  · rfl
  · rfl
  · rfl
  · show (match ownAt j env with
      | some (d, ow) => some (some (i, j, d, ow))
      | none => none) = (ownAt j env).map fun q => some (i, j, q.1, q.2)
    cases ownAt j env <;> rfl
@[simp] theorem x_fill0 {ds : List D} : fillIo none ds = ds := (rfl)
@[simp] theorem x_fill1 {ds : List D} {i j : Nat} {d : D} {ow : Ow} : fillIo (some (i, j, d, ow)) ds = ds.set i d := (rfl)
@[simp] theorem x_put0 {o : D} : putIo none o env = env := (rfl)
@[simp] theorem x_put1 {o : D} {i j : Nat} {d : D} {ow : Ow} : putIo (some (i, j, d, ow)) o env = env.set j (some (o, ow)) := (rfl)
/-! the frame of a def -/
def ioOnly : D × Ow → Option D
  | (d, .io) => some d
  | _ => none
@[simp] theorem x_ioo {d : D} : ioOnly (d, .io) = some d := (rfl)
@[simp] theorem x_ioOut0 : ioOut none env = some .non := (rfl)
@[simp] theorem x_ioOut1 {i : Nat} : ioOut (some i) env = (env[i]?.bind id).bind ioOnly := by
  show (match env[i]? with
    | some (some (d, .io)) => some d
    | _ => none) = _
  rcases env[i]? with _ | _ | ⟨d, _ | _ | _⟩ <;> rfl
def retSlot : D × Ow → Option (D × Bool)
  | (d, .frz) => some (d, false)
  | (d, .own) => some (d, true)
  | _ => none
@[simp] theorem x_rs1 {d : D} : retSlot (d, .frz) = some (d, false) := (rfl)
@[simp] theorem x_rs2 {d : D} : retSlot (d, .own) = some (d, true) := (rfl)
@[simp] theorem x_ret_fz {d : D} : retV (.fz d) env = some (d, false) := (rfl)
@[simp] theorem x_ret_fr {d : D} : retV (.fr d) env = some (d, true) := (rfl)
@[simp] theorem x_ret_bo {i : Nat} : retV (.bo i) env = (env[i]?.bind id).bind retSlot := by
  show (match env[i]? with
    | some (some (d, .frz)) => some (d, false)
    | some (some (d, .own)) => some (d, true)
    | _ => none) = _
  rcases env[i]? with _ | _ | ⟨d, _ | _ | _⟩ <;> rfl
def foOf : Option FO → FO
  | some x => x
  | none => .st
@[simp] theorem x_foOf {x : FO} : foOf (some x) = x := (rfl)
@[simp] theorem x_fin_nx {io : Option Nat} : finF io (.ok (.nx env)) = foOf ((ioOut io env).map fun o => .ok .non false o) := by
  show (match ioOut io env with
    | some o => FO.ok .non false o
    | none => .st) = _
  cases ioOut io env <;> rfl
@[simp] theorem x_fin_rt {io : Option Nat} {r : RV} : finF io (.ok (.rt r env)) = foOf ((ioOut io env).bind fun o => (retV r env).map fun q => .ok q.1 q.2 o) := by
  show (match ioOut io env, retV r env with
    | some o, some (d, fr) => FO.ok d fr o
    | _, _ => .st) = _
  cases ioOut io env <;> cases retV r env <;> rfl
@[simp] theorem x_mkE0 {io : Option Nat} {i : Nat} : mkE io i [] = [] := (rfl)
@[simp] theorem x_mkE1 {io : Option Nat} {i : Nat} {d : D} {r : List D} : mkE io i (d :: r) = some (d, if io = some i then .io else .frz) :: mkE io (i + 1) r := (rfl)
@[simp] theorem x_mk_t {d : D} : mkRV d true = .fr d := (rfl)
@[simp] theorem x_mk_f {d : D} : mkRV d false = .fz d := (rfl)
@[simp] theorem x_ret1 {d : D} {fr : Bool} : ret1 (some (d, fr)) env = .ok (mkRV d fr, env) := (rfl)
@[simp] theorem x_fin2 {op : Op2} {ra rb : RV} : fin2 op ra rb env = (Out.of (resolve env ra)).bind fun x => (Out.of (resolve env rb)).bind fun y => ret1 (op x y) env := by
  unfold fin2; cases resolve env ra <;> cases resolve env rb <;> rfl
@[simp] theorem x_fin1 {op : Op1} {ra : RV} : fin1 op ra env = (Out.of (resolve env ra)).bind fun x => ret1 (op x) env := by
  unfold fin1; cases resolve env ra <;> rfl
@[simp] theorem x_finN {op : OpN} {rs : List RV} : finN op rs env = (Out.of (resolveA env rs)).bind fun x => ret1 (op x) env := by
  unfold finN; cases resolveA env rs <;> rfl
@[simp] theorem x_finM {op : OpM} {r : RV} {rs : List RV} : finM op r rs env = (Out.of (resolve env r)).bind fun x => (Out.of (resolveA env rs)).bind fun y => ret1 (op x y) env := by
  unfold finM; cases resolve env r <;> cases resolveA env rs <;> rfl
@[simp] theorem x_resA_nil : resolveA env [] = some [] := (rfl)
@[simp] theorem x_frzA_nil : freezeA env [] = some ([], env) := (rfl)
@[simp] theorem x_const {d : D} : dConst d env = .ok (.fz d, env) := (rfl)
@[simp] theorem x_bin {op : Op2} : dBin op f g env = (f env).bind fun p => (g p.2).bind fun q => fin2 op p.1 q.1 q.2 := (rfl)
@[simp] theorem x_un {op : Op1} : dUn op f env = (f env).bind fun p => fin1 op p.1 p.2 := (rfl)
@[simp] theorem x_chain {op op' : Op2} : dChain op op' f g h env = (f env).bind fun p => (g p.2).bind fun q => (fin2 op p.1 q.1 q.2).bind fun r => match r.1 with
  | .fz (.bl true) => (h r.2).bind fun w => fin2 op' q.1 w.1 w.2
  | .fz (.bl false) => .ok (.fz (.bl false), r.2)
  | _ => .st := (rfl)
@[simp] theorem x_tru {r : RV} : tru r env = (Out.of (resolve env r)).bind fun x => (Out.of (truth x)).bind fun b => .ok (b, env) := by
  unfold tru; cases resolve env r with
  | none => rfl
  | some x =>
    show (match truth x with
      | some b => Out.ok (b, env)
      | none => .st) = (Out.of (truth x)).bind fun b => .ok (b, env)
    cases truth x <;> rfl
@[simp] theorem x_dtru : dTru f env = (f env).bind fun p => tru p.1 p.2 := (rfl)
@[simp] theorem x_tst : dTst f env = (f env).bind fun p => match p.1 with
    | .fz (.bl b) => .ok (b, p.2)
    | _ => .st := (rfl)
@[simp] theorem x_notT {t : Env → Out (Bool × Env)} : dNotT t env = (t env).bind fun p => .ok (!p.1, p.2) := (rfl)
@[simp] theorem x_andT {t u : Env → Out (Bool × Env)} : dAndT t u env = (t env).bind fun p => if p.1 = true then u p.2 else .ok (false, p.2) := (rfl)
@[simp] theorem x_orT {t u : Env → Out (Bool × Env)} : dOrT t u env = (t env).bind fun p => if p.1 = true then .ok (true, p.2) else u p.2 := (rfl)
@[simp] theorem x_andV : dAndV f g env = (f env).bind fun p => (tru p.1 p.2).bind fun q => if q.1 = true then g q.2 else .ok (p.1, q.2) := (rfl)
@[simp] theorem x_orV : dOrV f g env = (f env).bind fun p => (tru p.1 p.2).bind fun q => if q.1 = true then .ok (p.1, q.2) else g q.2 := (rfl)
@[simp] theorem x_notV : dNotV f env = (f env).bind fun p => (tru p.1 p.2).bind fun q => .ok (.fz (.bl (!q.1)), q.2) := (rfl)
@[simp] theorem x_ite {t : Env → Out (Bool × Env)} : dIte t f g env = (t env).bind fun p => if p.1 = true then f p.2 else g p.2 := (rfl)
@[simp] theorem x_anil : dNil env = .ok ([], env) := (rfl)
@[simp] theorem x_acons {a : Env → Out (List RV × Env)} : dCons f a env = (f env).bind fun p => (a p.2).bind fun q => .ok (p.1 :: q.1, q.2) := (rfl)
@[simp] theorem x_tup {a : Env → Out (List RV × Env)} : dTup a env = (a env).bind fun p => mkDisp .tup false p.1 p.2 := (rfl)
@[simp] theorem x_lst {a : Env → Out (List RV × Env)} : dLst a env = (a env).bind fun p => mkDisp .lst true p.1 p.2 := (rfl)
@[simp] theorem x_callN {op : OpN} {a : Env → Out (List RV × Env)} : dCallN op a env = (a env).bind fun p => finN op p.1 p.2 := (rfl)
@[simp] theorem x_isi {T : String} : dIsi T f env = (f env).bind fun p => (Out.of ((resolve p.2 p.1).bind (isiD T))).bind fun b => .ok (.fz (.bl b), p.2) := by
  unfold dIsi; congr 1; funext p; unfold finIsi; cases (resolve p.2 p.1).bind (isiD T) <;> rfl
@[simp] theorem x_part0 : dPart none env = .ok (none, env) := (rfl)
@[simp] theorem x_part1 : dPart (some f) env = (f env).bind fun p => (Out.of (optI p.1 p.2)).bind fun i => .ok (some i, p.2) := by
  unfold dPart; show (f env).bind _ = _; congr 1; funext p; cases optI p.1 p.2 <;> rfl
@[simp] theorem x_sl {lo hi : Part} : dSl f lo hi env = (f env).bind fun p => (dPart lo p.2).bind fun q => (dPart hi q.2).bind fun w => (Out.of (resolve w.2 p.1)).bind fun x => ret1 (dSlice x q.1 w.1) w.2 := by
  unfold dSl; congr 1; funext p; congr 1; funext q; congr 1; funext w; cases resolve w.2 p.1 <;> rfl
@[simp] theorem x_rev : dRev f env = (f env).bind fun p => fin1 (fun x => match x with
  | .lst xs => some (.lst xs.reverse, true)
  | _ => none) p.1 p.2 := (rfl)
@[simp] theorem x_chk {p : D → Bool} {r : RV} : chk p r env = (Out.of (resolve env r)).bind fun x => if p x = true then .ok env else .st := by unfold chk; cases resolve env r <;> rfl
@[simp] theorem x_meth {op : OpM} {a : Env → Out (List RV × Env)} : dMeth op f a env = (f env).bind fun p => (chk isLst p.1 p.2).bind fun e => (a e).bind fun q => finM op p.1 q.1 q.2 := (rfl)
@[simp] theorem x_write {p : D → Bool} {op : OpW} {i : Nat} {a : Env → Out (List RV × Env)} : dWrite p op i a env = (chkOwn p i env).bind fun e => (a e).bind fun q => finW op i q.1 q.2 := (rfl)
@[simp] theorem x_finW {op : OpW} {i : Nat} {rs : List RV} : finW op i rs env = (Out.of (freezeA env rs)).bind fun p => (Out.of (ownAt i p.2)).bind fun q => (Out.of (op q.1 p.1)).bind fun w => .ok (.fz w.2, p.2.set i (some (w.1, q.2))) := by
  unfold finW
  cases freezeA env rs with
  | none => rfl
  | some p =>
    obtain ⟨ds, e⟩ := p
    simp only [x_of_some, x_bind_ok]
    cases ownAt i e with
    | none => rfl
    | some q =>
      obtain ⟨d, ow⟩ := q
      simp only [x_of_some, x_bind_ok]
      cases op d ds <;> rfl
/-! statements -/
@[simp] theorem x_snil : sNil env = .ok (.nx env) := (rfl)
@[simp] theorem x_scons {a b : Env → Out Fl} : sCons a b env = (a env).bind (thenF b) := (rfl)
@[simp] theorem x_then_nx {b : Env → Out Fl} : thenF b (.nx env) = b env := (rfl)
@[simp] theorem x_then_bk {b : Env → Out Fl} : thenF b (.bk env) = .ok (.bk env) := (rfl)
@[simp] theorem x_then_ct {b : Env → Out Fl} : thenF b (.ct env) = .ok (.ct env) := (rfl)
@[simp] theorem x_then_rt {b : Env → Out Fl} {r : RV} : thenF b (.rt r env) = .ok (.rt r env) := (rfl)
@[simp] theorem x_ret : sRet f env = (f env).bind fun p => .ok (.rt p.1 p.2) := (rfl)
@[simp] theorem x_retN : sRetN env = .ok (.rt (.fz .non) env) := (rfl)
@[simp] theorem x_expr : sExpr f env = (f env).bind fun p => .ok (.nx p.2) := (rfl)
@[simp] theorem x_if {t : Env → Out (Bool × Env)} {a b : Env → Out Fl} : sIf t a b env = (t env).bind fun p => if p.1 = true then a p.2 else b p.2 := (rfl)
@[simp] theorem x_break : sBreak env = .ok (.bk env) := (rfl)
@[simp] theorem x_cont : sCont env = .ok (.ct env) := (rfl)
@[simp] theorem x_asg {k : RV → Env → Out Env} : sAsg f k env = (f env).bind fun p => (k p.1 p.2).bind fun e => .ok (.nx e) := (rfl)
@[simp] theorem x_gname {i : Nat} {r : RV} : gName' i r env = Out.of (storeR i r env) := (rfl)
@[simp] theorem x_store1 {i : Nat} {d : D} : storeR i (.fz d) env = if notIo i env = true then some (env.set i (some (d, .frz))) else none := (rfl)
@[simp] theorem x_store2 {i : Nat} {d : D} : storeR i (.fr d) env = if notIo i env = true then some (env.set i (some (d, .own))) else none := (rfl)
@[simp] theorem x_gsnil : gsNil [] env = .ok env := (rfl)
@[simp] theorem x_gscons {k : RV → Env → Out Env} {ks : List D → Env → Out Env} {d : D} {ds : List D} : gsCons k ks (d :: ds) env = (k (.fz d) env).bind (ks ds) := (rfl)
@[simp] theorem x_finS {op : OpS} {i : Nat} {dv : D} {r : RV} : finS op i dv r env = (Out.of (ownAt i env)).bind fun q => (Out.of (resolve env r)).bind fun di => (Out.of (op q.1 di dv)).bind fun d' => .ok (env.set i (some (d', q.2))) := by
  unfold finS
  cases ownAt i env with
  | none => rfl
  | some q =>
    cases resolve env r with
    | none => rfl
    | some di =>
      obtain ⟨d, ow⟩ := q
      simp only [x_of_some, x_bind_ok]
      cases op d di dv <;> rfl
@[simp] theorem x_aug {op : Op2} {i : Nat} : sAug op i f env = (Out.of (frzAt i env)).bind fun d => (f env).bind fun q => (fin2 op (.fz d) q.1 q.2).bind fun p => (Out.of (storeR i p.1 p.2)).bind fun e => .ok (.nx e) := by
  unfold sAug; cases frzAt i env <;> rfl
@[simp] theorem x_sfor {it : Env → Out (List D × Env)} {k : RV → Env → Out Env} {b : Env → Out Fl} : sFor it k b env = (it env).bind fun p => forL k b p.1 p.2 := (rfl)
@[simp] theorem x_it {F : D → Option (List D)} : dIt F f env = (f env).bind fun p => (Out.of (freezeR p.2 p.1)).bind fun q => (Out.of (F q.1)).bind fun ds => .ok (ds, q.2) := by
  unfold dIt; congr 1; funext p; unfold frzItems
  cases freezeR p.2 p.1 with
  | none => rfl
  | some q =>
    obtain ⟨d, e⟩ := q
    simp only [x_of_some, x_bind_ok]
    cases F d <;> rfl
@[simp] theorem x_rng1 : dRng1 f env = (f env).bind fun p => (Out.of (optI p.1 p.2)).bind fun j => if okR j = true then .ok (itRange 0 j.toNat, p.2) else .st := by
  unfold dRng1; congr 1; funext p; cases optI p.1 p.2 <;> rfl
@[simp] theorem x_rng2 : dRng2 f g env = (f env).bind fun p => (g p.2).bind fun q => (Out.of (optI p.1 q.2)).bind fun i => (Out.of (optI q.1 q.2)).bind fun j => if (okR i && okR j) = true then .ok (itRange i (j - i).toNat, q.2) else .st := by
  unfold dRng2; congr 1; funext p; congr 1; funext q; cases optI p.1 q.2 <;> cases optI q.1 q.2 <;> rfl
@[simp] theorem x_loopK_nx {k : Env → Out Fl} : loopK k (.nx env) = k env := (rfl)
@[simp] theorem x_loopK_ct {k : Env → Out Fl} : loopK k (.ct env) = k env := (rfl)
@[simp] theorem x_loopK_bk {k : Env → Out Fl} : loopK k (.bk env) = .ok (.nx env) := (rfl)
@[simp] theorem x_loopK_rt {k : Env → Out Fl} {r : RV} : loopK k (.rt r env) = .ok (.rt r env) := (rfl)
theorem forL_nil {k : RV → Env → Out Env} {b : Env → Out Fl} : forL k b [] env = .ok (.nx env) := rfl
theorem forL_cons {k : RV → Env → Out Env} {b : Env → Out Fl} {d : D} {ds : List D} : forL k b (d :: ds) env = (k (.fz d) env).bind fun e => (b e).bind (loopK (forL k b ds)) := rfl
theorem loopN_succ {t : Env → Out (Bool × Env)} {b : Env → Out Fl} {n : Nat} : loopN t b (n + 1) env = (t env).bind fun p => if p.1 = true then (b p.2).bind (loopK (loopN t b n)) else .ok (.nx p.2) := rfl
@[simp] theorem x_par {i j : Nat} : sPar i j f h env = (f env).bind fun p => (h p.2).bind fun q => (Out.of (freezeR q.2 p.1)).bind fun w => (Out.of (freezeR w.2 q.1)).bind fun z => if (notIo i z.2 && notIo j z.2) = true then .ok (.nx ((z.2.set i (some (w.1, .frz))).set j (some (z.1, .frz)))) else .st := by
  unfold sPar; congr 1; funext p; congr 1; funext q
  cases freezeR q.2 p.1 with
  | none => rfl
  | some w =>
    obtain ⟨d, e1⟩ := w
    simp only [x_of_some, x_bind_ok]
    cases freezeR e1 q.1 <;> rfl
/-! calls -/
@[simp] theorem x_call {io : Option Nat} {fn : Fn} {a : Env → Out (List RV × Env)} : dCallF io fn a env = (a env).bind fun p => callF io fn p.1 p.2 := (rfl)
@[simp] theorem x_fn_nil {io : Option Nat} {i : Nat} : frzNon io i env [] = some ([], env) := (rfl)
end
/-! operations -/
abbrev dI (ns : List Int) : List D := ns.map .int
section
variable {a b : Int}
@[simp] theorem y_add : dAdd (.int a) (.int b) = some (.int (a + b), false) := (rfl)
@[simp] theorem y_addL {xs ys : List D} : dAdd (.lst xs) (.lst ys) = if le24 (xs.length + ys.length) = true then some (.lst (xs ++ ys), true) else none := by
  unfold dAdd orOp iiOp llAdd ttAdd ssAdd ptAdd seqT
  by_cases h : le24 (xs.length + ys.length) = true <;> simp [h]
@[simp] theorem y_sub : dSub (.int a) (.int b) = some (.int (a - b), false) := (rfl)
theorem y_mul (h : mulOk a b = true) : dMul (.int a) (.int b) = some (.int (a * b), false) := by
  unfold dMul orOp iiOp; simp [h]
theorem y_div (h : divOk a b = true) : dDiv (.int a) (.int b) = some (.int (a / b), false) := by
  unfold dDiv iiOp; simp [h]
@[simp] theorem y_mod (h : 0 < b) : dMod (.int a) (.int b) = some (.int (a % b), false) := by
  unfold dMod iiOp modOk; simp [h]
theorem y_pow (h : powOk a b = true) : dPow (.int a) (.int b) = some (.int (a ^ b.toNat), false) := by
  unfold dPow iiOp; simp [h]
@[simp] theorem y_lt : dLt (.int a) (.int b) = some (.bl (decide (a < b)), false) := (rfl)
@[simp] theorem y_le : dLe (.int a) (.int b) = some (.bl (decide (a ≤ b)), false) := (rfl)
@[simp] theorem y_gt : dGt (.int a) (.int b) = some (.bl (decide (b < a)), false) := (rfl)
@[simp] theorem y_ge : dGe (.int a) (.int b) = some (.bl (decide (b ≤ a)), false) := (rfl)
@[simp] theorem y_neg : dNeg (.int a) = some (.int (-a), false) := (rfl)
theorem toPyA_ints : ∀ ns : List Int, toPyA (dI ns) = ns.map .int
  | [] => by simp [toPyA]
  | n :: ns => by
    show toPyA (.int n :: dI ns) = _
    simp only [toPyA, toPyA_ints ns, toPy]; rfl
theorem plainA_ints : ∀ (ns : List Int) (n : Nat), plainA (dI ns) n = true
  | [], n => by simp [plainA]
  | k :: ns, n => by
    show plainA (.int k :: dI ns) n = true
    simp only [plainA, plainA_ints ns, plain]; rfl
theorem eqv_int (a b : Int) : PyData.eqv (.int a) (.int b) = decide (a = b) := by
  by_cases h : a = b <;> simp [PyData.eqv, h]
theorem eqvAll_ints : ∀ xs ys : List Int, PyData.eqvAll (xs.map .int) (ys.map .int) = decide (xs = ys)
  | [], [] => by simp [PyData.eqvAll]
  | [], _ :: _ => by simp [PyData.eqvAll]
  | _ :: _, [] => by simp [PyData.eqvAll]
  | x :: xs, y :: ys => by
    simp only [List.map_cons, PyData.eqvAll, eqvAll_ints xs ys, eqv_int]
    by_cases h : x = y <;> by_cases h2 : xs = ys <;> simp [h, h2]
theorem plain_ints (xs : List Int) : plain (.lst (dI xs)) 60 = true := by
  show plain (.lst (dI xs)) (59 + 1) = true
  simp only [plain, plainA_ints]
@[simp] theorem y_eq : eqOp (.int a) (.int b) = some (.bl (decide (a = b)), false) := by
  unfold eqOp; simp [plain, toPy, eqv_int]
@[simp] theorem y_ne : neOp (.int a) (.int b) = some (.bl (!decide (a = b)), false) := by
  unfold neOp; simp [plain, toPy, eqv_int]
@[simp] theorem y_eqL {xs ys : List Int} : eqOp (.lst (xs.map .int)) (.lst (ys.map .int)) = some (.bl (decide (xs = ys)), false) := by
  unfold eqOp
  rw [plain_ints, plain_ints, toPy_lst, toPy_lst, toPyA_ints, toPyA_ints]
  simp [PyData.eqv, eqvAll_ints]
@[simp] theorem y_neL {xs ys : List Int} : neOp (.lst (xs.map .int)) (.lst (ys.map .int)) = some (.bl (!decide (xs = ys)), false) := by
  unfold neOp
  rw [plain_ints, plain_ints, toPy_lst, toPy_lst, toPyA_ints, toPyA_ints]
  simp [PyData.eqv, eqvAll_ints]
@[simp] theorem y_neL0 {xs : List Int} : neOp (.lst (xs.map .int)) (.lst []) = some (.bl (!decide (xs = [])), false) := y_neL (ys := [])
@[simp] theorem y_eqL0 {xs : List Int} : eqOp (.lst (xs.map .int)) (.lst []) = some (.bl (decide (xs = [])), false) := y_eqL (ys := [])
@[simp] theorem y_ne00 : neOp (.lst []) (.lst []) = some (.bl false, false) := y_neL (xs := []) (ys := [])
@[simp] theorem y_eq00 : eqOp (.lst []) (.lst []) = some (.bl true, false) := y_eqL (xs := []) (ys := [])
@[simp] theorem y_eqB {x y : Bool} : eqOp (.bl x) (.bl y) = some (.bl (x == y), false) := by
  unfold eqOp; simp [plain, toPy]; cases x <;> cases y <;> rfl
@[simp] theorem y_neB {x y : Bool} : neOp (.bl x) (.bl y) = some (.bl (x != y), false) := by
  unfold neOp; simp [plain, toPy]; cases x <;> cases y <;> rfl
@[simp] theorem y_neN0 : neOp .non .non = some (.bl false, false) := by unfold neOp; simp [plain, toPy, PyData.eqv]
@[simp] theorem y_neN1 : neOp (.int a) .non = some (.bl true, false) := by unfold neOp; simp [plain, toPy, PyData.eqv]
@[simp] theorem y_neN2 : neOp .non (.int a) = some (.bl true, false) := by unfold neOp; simp [plain, toPy, PyData.eqv]
@[simp] theorem y_isN {neg : Bool} {d : D} : isOp neg d .non = some (.bl (blIf neg (isNon d)), false) := by unfold isOp; rfl
@[simp] theorem y_blT {x : Bool} : blIf true x = !x := (rfl)
@[simp] theorem y_blF {x : Bool} : blIf false x = x := (rfl)
@[simp] theorem y_isNon0 : isNon .non = true := (rfl)
@[simp] theorem y_isNon1 : isNon (.int a) = false := (rfl)
@[simp] theorem y_inSet {neg : Bool} {ks : List Key} : dIn neg (.int a) (.set ks) = some (.bl (blIf neg (hasK ks (.inl a))), false) := (rfl)
@[simp] theorem y_inL {neg : Bool} {xs : List Int} : dIn neg (.int a) (.lst (xs.map .int)) = some (.bl (blIf neg (decide (a ∈ xs))), false) := by
  show ((if (plain (.int a) 60 && plain (.lst (dI xs)) 60) = true then some (D.bl (blIf neg ((toPyA (dI xs)).any fun z => PyData.eqv z (toPy (.int a)))), false) else none).or _) = _
  rw [plain_ints, toPyA_ints]
  have : (xs.map PyData.int).any (fun z => PyData.eqv z (toPy (.int a))) = decide (a ∈ xs) := by
    rw [List.any_map]
    induction xs with
    | nil => simp
    | cons x xs ih =>
      rw [List.any_cons, ih]
      show (PyData.eqv (.int x) (toPy (.int a)) || _) = _
      rw [show toPy (.int a) = PyData.int a by simp [toPy], eqv_int]
      by_cases h : x = a
      · subst h; simp
      · have h' : ¬ a = x := fun e => h e.symm
        simp [h, h']
  simp only [this]
  simp [plain]
@[simp] theorem y_idx {xs : List D} : dIdx (.lst xs) (.int a) = (atI xs a).map (·, false) := by
  show ((atI xs a).map (·, false)).or _ = _
  cases atI xs a <;> rfl
@[simp] theorem y_idxS {xs : List Int} : dIdx (.scr xs) (.int a) = (atI xs a).map fun n => (.int n, false) := by
  show ((atI xs a).map fun n => (D.int n, false)).or _ = _
  cases atI xs a <;> rfl
@[simp] theorem y_idxT {xs : List D} : dIdx (.tup xs) (.int a) = (atI xs a).map (·, false) := by
  show ((atI xs a).map (·, false)).or _ = _
  cases atI xs a <;> rfl
@[simp] theorem ixN_pos {n : Nat} {i : Int} (h : 0 ≤ i) (h2 : i < (n : Int)) : ixN n i = some i.toNat := by unfold ixN; rw [if_pos h, if_pos h2]
@[simp] theorem ixN_neg {n : Nat} {i : Int} (h : i < 0) (h2 : -(n : Int) ≤ i) : ixN n i = some (i + n).toNat := by unfold ixN; rw [if_neg (by omega), if_pos h2]
theorem atI_nat {α : Type} {xs : List α} {i : Nat} {x : α} (h : xs[i]? = some x) : atI xs (i : Int) = some x := by
  have hl := (List.getElem?_eq_some_iff.mp h).1
  unfold atI ixN
  rw [if_pos (Int.natCast_nonneg i), if_pos (by exact_mod_cast hl)]
  simpa using h
theorem atI_of {α : Type} {xs : List α} {i : Int} {x : α} (h0 : 0 ≤ i) (h : xs[i.toNat]? = some x) : atI xs i = some x := by
  have := atI_nat h
  rwa [Int.toNat_of_nonneg h0] at this
@[simp] theorem atI_lit0 {α : Type} {x : α} {xs : List α} : atI (x :: xs) 0 = some x := atI_nat (i := 0) rfl
@[simp] theorem atI_lit1 {α : Type} {x y : α} {xs : List α} : atI (x :: y :: xs) 1 = some y := atI_nat (i := 1) rfl
@[simp] theorem y_lenL {xs : List D} : bLen [.lst xs] = some (.int xs.length, false) := (rfl)
@[simp] theorem y_lenT {xs : List D} : bLen [.tup xs] = some (.int xs.length, false) := (rfl)
@[simp] theorem y_lenS {xs : List Int} : bLen [.scr xs] = some (.int xs.length, false) := (rfl)
@[simp] theorem y_abs : bAbs [.int a] = some (.int (if a < 0 then -a else a), false) := (rfl)
@[simp] theorem y_max : bMax [.int a, .int b] = some (.int (if b > a then b else a), false) := (rfl)
@[simp] theorem y_min : bMin [.int a, .int b] = some (.int (if b < a then b else a), false) := (rfl)
@[simp] theorem y_list {xs : List D} : bList [.lst xs] = some (.lst xs, true) := (rfl)
@[simp] theorem y_listT {xs : List D} : bList [.tup xs] = some (.lst xs, true) := (rfl)
@[simp] theorem y_int1 : bInt [.int a] = some (.int a, false) := (rfl)
@[simp] theorem y_int2 {x : Bool} : bInt [.bl x] = some (.int (if x then 1 else 0), false) := (rfl)
@[simp] theorem y_set0 : bSet0 [] = some (.set [], true) := (rfl)
@[simp] theorem y_isL {xs : List D} : isLst (.lst xs) = true := (rfl)
@[simp] theorem y_isS {xs : List Key} : isSet (.set xs) = true := (rfl)
@[simp] theorem y_app {xs : List D} {d : D} : wAppend (.lst xs) [d] = if lt24 xs.length = true then some (.lst (xs ++ [d]), .non) else none := (rfl)
@[simp] theorem y_setL {xs : List D} {d : D} : wSet (.lst xs) (.int a) d = (ixN xs.length a).map fun j => .lst (xs.set j d) := by
  show ((ixN xs.length a).map fun j => D.lst (xs.set j d)).or _ = _
  cases ixN xs.length a <;> rfl
@[simp] theorem y_addS {ks : List Key} : wAdd (.set ks) [.int a] = if Nat.blt (ks.length + 1) 4096 = true then some (.set (if hasK ks (.inl a) = true then ks else ks ++ [.inl a]), .non) else none := (rfl)
@[simp] theorem y_itL {xs : List D} : itemsL (.lst xs) = some xs := (rfl)
@[simp] theorem y_itT {xs : List D} : itemsT (.tup xs) = some xs := (rfl)
@[simp] theorem y_itE {xs : List D} : itemsE (.lst xs) = some (enumD xs) := (rfl)
@[simp] theorem y_itR {xs : List D} : itemsRev (.lst xs) = some xs.reverse := (rfl)
@[simp] theorem y_tB {x : Bool} : truth (.bl x) = some x := (rfl)
@[simp] theorem y_tI : truth (.int a) = some (a != 0) := (rfl)
@[simp] theorem y_tN : truth .non = some false := (rfl)
@[simp] theorem y_tL {xs : List D} : truth (.lst xs) = some (!xs.isEmpty) := (rfl)
@[simp] theorem y_isiI {T : String} : isiD T (.int a) = some ("int" == T || ("int" == "bool" && T == "int")) := (rfl)
@[simp] theorem y_isiB {T : String} {x : Bool} : isiD T (.bl x) = some ("bool" == T || ("bool" == "bool" && T == "int")) := (rfl)
@[simp] theorem y_isiL {T : String} {xs : List D} : isiD T (.lst xs) = some ("list" == T || ("list" == "bool" && T == "int")) := (rfl)
@[simp] theorem y_isiN {T : String} : isiD T .non = some ("NoneType" == T || ("NoneType" == "bool" && T == "int")) := (rfl)
theorem le24_of {n : Nat} (h : n ≤ 16777216) : le24 n = true := Nat.ble_eq_true_of_le h
theorem lt24_of {n : Nat} (h : n < 16777216) : lt24 n = true := Nat.ble_eq_true_of_le h
theorem log2_lt {x k : Nat} (h : x < 2 ^ k) : x.log2 ≤ k := by
  by_cases z : x = 0
  · subst z; exact Nat.zero_le _
  · exact Nat.le_of_lt ((Nat.log2_lt z).mpr h)
theorem mulOk_of {i j : Nat} (ha : a.natAbs < 2 ^ i) (hb : b.natAbs < 2 ^ j) (h : i + j < 100000000) : mulOk a b = true := by
  have h1 := log2_lt ha
  have h2 := log2_lt hb
  exact Nat.ble_eq_true_of_le (by omega)
theorem divOk_of {j : Nat} (h0 : 0 < b) (hb : b.natAbs < 2 ^ j) (h : j < 9000) : divOk a b = true := by
  have h2 := log2_lt hb
  exact Bool.and_eq_true_iff.mpr ⟨decide_eq_true h0, Nat.ble_eq_true_of_le (by omega)⟩
end
end VS
namespace VS
open PySem PySem.Spec PyProof.Rows L2
section
variable {env : Env}
@[simp] theorem x_wipe0 : wipeE env [] = env := (rfl)
@[simp] theorem x_wipe1 {i : Nat} {r : List Nat} : wipeE env (i :: r) = (wipeE env r).set i none := (rfl)
@[simp] theorem x_rest0 {e0 : Env} : restE e0 env [] = env := (rfl)
@[simp] theorem x_rest1 {e0 : Env} {i : Nat} {r : List Nat} : restE e0 env (i :: r) = (restE e0 env r).set i (frzC e0 i) := (rfl)
def frzKeep : D × Ow → Option (D × Ow)
  | (d, .frz) => some (d, .frz)
  | _ => none
@[simp] theorem x_fk1 {d : D} : frzKeep (d, .frz) = some (d, .frz) := (rfl)
@[simp] theorem x_fk2 {d : D} : frzKeep (d, .own) = none := (rfl)
@[simp] theorem x_fk3 {d : D} : frzKeep (d, .io) = none := (rfl)
@[simp] theorem x_frzC {i : Nat} : frzC env i = (env[i]?.bind id).bind frzKeep := by
  unfold frzC
  rcases env[i]? with _ | _ | ⟨d, _ | _ | _⟩ <;> rfl
theorem restE_of {e0 e : Env} {vs : List Nat} (h : wipeE e vs = wipeE e0 vs) : restE e0 e vs = restE e0 e0 vs := by
  rw [← restE_wipe (env := e), h, restE_wipe]
theorem lcL_ok {vs : List Nat} {g : RV → Env → Out Env} {t : Env → Out (Bool × Env)} {f : Env → Out (RV × Env)} {env1 : Env} (p : D → Bool) (h : D → D) : ∀ (ds acc : List D) (e : Env), wipeE e vs = wipeE env1 vs → acc.length + ds.length < 16777216 →
    (∀ d ∈ ds, ∃ e1, (g (.fz d) (wipeE env1 vs)).bind t = .ok (p d, e1) ∧ wipeE e1 vs = wipeE env1 vs ∧ (p d = true → ∃ r e2 e3, f e1 = .ok (r, e2) ∧ freezeR e2 r = some (h d, e3) ∧ wipeE e3 vs = wipeE env1 vs)) →
    ∃ e', lcL vs g t f ds acc e = .ok (acc ++ (ds.filter p).map h, e') ∧ wipeE e' vs = wipeE env1 vs
  | [], acc, e, he, _, _ => ⟨e, by show Out.ok (acc, e) = _; simp, he⟩
  | d :: ds, acc, e, he, hl, hd => by
    obtain ⟨e1, h1, h2, h3⟩ := hd d List.mem_cons_self
    have hl' : acc.length + ds.length + 1 < 16777216 := by simpa [Nat.add_assoc] using hl
    have u : lcL vs g t f (d :: ds) acc e = (lcTurn vs g t d e).bind fun p => if p.1 = true then (f p.2).bind fun q => match freezeR q.2 q.1 with
      | some (y, e2) => if lt24 acc.length = true then lcL vs g t f ds (acc ++ [y]) e2 else .st
      | none => .st
    else lcL vs g t f ds acc p.2 := rfl
    have v : lcTurn vs g t d e = .ok (p d, e1) := by unfold lcTurn; rw [he]; exact h1
    rw [u, v, x_bind_ok]
    by_cases z : p d = true
    · obtain ⟨r, e2, e3, f1, f2, f3⟩ := h3 z
      obtain ⟨e', k1, k2⟩ := lcL_ok p h ds (acc ++ [h d]) e3 f3 (by rw [List.length_append, List.length_singleton]; omega) fun d' hm => hd d' (List.mem_cons_of_mem _ hm)
      refine ⟨e', ?_, k2⟩
      dsimp only
      rw [if_pos z, f1, x_bind_ok]
      dsimp only
      rw [f2]
      dsimp only
      rw [if_pos (lt24_of (by omega)), k1, List.filter_cons_of_pos z, List.map_cons, List.append_assoc]; rfl
    · obtain ⟨e', k1, k2⟩ := lcL_ok p h ds acc e1 h2 (by omega) fun d' hm => hd d' (List.mem_cons_of_mem _ hm)
      refine ⟨e', ?_, k2⟩
      dsimp only
      rw [if_neg z, k1, List.filter_cons_of_neg z]
theorem dLc_ok {vs : List Nat} {it : Env → Out (List D × Env)} {g : RV → Env → Out Env} {t : Env → Out (Bool × Env)} {f : Env → Out (RV × Env)} {env env1 : Env} {ds : List D} (p : D → Bool) (h : D → D) (hi : it env = .ok (ds, env1)) (hn : allNotIo vs env1 = true) (hl : ds.length < 16777216)
    (hd : ∀ d ∈ ds, ∃ e1, (g (.fz d) (wipeE env1 vs)).bind t = .ok (p d, e1) ∧ wipeE e1 vs = wipeE env1 vs ∧ (p d = true → ∃ r e2 e3, f e1 = .ok (r, e2) ∧ freezeR e2 r = some (h d, e3) ∧ wipeE e3 vs = wipeE env1 vs)) :
    dLc vs it g t f env = .ok (.fr (.lst ((ds.filter p).map h)), restE env1 env1 vs) := by
  obtain ⟨e', k1, k2⟩ := lcL_ok p h ds [] env1 rfl (by simpa using hl) hd
  unfold dLc
  rw [hi, x_bind_ok, if_pos hn]
  dsimp only
  rw [k1, x_noEx_ok, x_bind_ok]
  dsimp only
  rw [restE_of k2, List.nil_append]
end
/-- ints or None -/
def dO : Option Int → D
  | some k => .int k
  | none => .non
@[simp] theorem dO_some {k : Int} : dO (some k) = .int k := (rfl)
@[simp] theorem dO_none : dO none = .non := (rfl)
theorem forL_inv {g : RV → Env → Out Env} {b : Env → Out Fl} (I : Env → Prop) : ∀ (ds : List D) (e : Env), I e → (∀ d ∈ ds, ∀ e, I e → ∃ e1, g (.fz d) e = .ok e1 ∧ ∃ e2, (b e1 = .ok (.nx e2) ∨ b e1 = .ok (.ct e2)) ∧ I e2) → ∃ e', forL g b ds e = .ok (.nx e') ∧ I e'
  | [], e, h, _ => ⟨e, rfl, h⟩
  | d :: ds, e, h, hd => by
    obtain ⟨e1, h1, e2, h2, h3⟩ := hd d List.mem_cons_self e h
    obtain ⟨e', k1, k2⟩ := forL_inv I ds e2 h3 fun d' m => hd d' (List.mem_cons_of_mem _ m)
    refine ⟨e', ?_, k2⟩
    rw [forL_cons, h1, x_bind_ok]
    rcases h2 with h2 | h2
    · rw [h2, x_bind_ok, x_loopK_nx, k1]
    · rw [h2, x_bind_ok, x_loopK_ct, k1]
theorem atI_dI {ns : List Int} {i : Int} (h0 : 0 ≤ i) (h1 : i < ns.length) : ∃ k ∈ ns, atI (dI ns) i = some (.int k) := by
  have hl : i.toNat < ns.length := by omega
  refine ⟨ns[i.toNat], List.getElem_mem hl, atI_of h0 ?_⟩
  rw [List.getElem?_map, List.getElem?_eq_getElem hl]; rfl
theorem atI_head (ns : List Int) : atI (dI ns ++ [.non]) 0 = some (dO ns.head?) := by
  cases ns <;> exact atI_lit0
theorem filter_dI (q : Int → Bool) (p : D → Bool) (hp : ∀ n, p (.int n) = q n) : ∀ ns : List Int, (dI ns).filter p = dI (ns.filter q)
  | [] => rfl
  | n :: ns => by
    show List.filter p (.int n :: dI ns) = _
    rw [List.filter_cons, List.filter_cons, hp, filter_dI q p hp ns]
    cases q n <;> rfl
@[simp] theorem allNotIo_def {vs : List Nat} {env : Env} : allNotIo vs env = vs.all fun i => notIo i env := (rfl)
theorem bits_lt {z : Int} (h : Builtin.Int.intBits z ≤ 1048576) : z.natAbs.log2 ≤ 1048576 := by
  unfold Builtin.Int.intBits at h
  split at h
  · rename_i e
    rw [show z.natAbs = 0 by simpa using e]
    decide
  · omega
def intD : D → Int
  | .int n => n
  | _ => 0
@[simp] theorem intD_int {n : Int} : intD (.int n) = n := (rfl)
theorem mem_dI {d : D} {ns : List Int} (h : d ∈ dI ns) : ∃ n ∈ ns, d = .int n := by
  obtain ⟨n, h1, h2⟩ := List.mem_map.mp h
  exact ⟨n, h1, h2.symm⟩
@[simp] theorem neO {x y : Option Int} : neOp (dO x) (dO y) = some (.bl (!decide (x = y)), false) := by
  cases x <;> cases y <;> simp
/-- enumerate over ints -/
def enI : Nat → List Int → List D
  | _, [] => []
  | i, n :: ns => .tup [.int (i : Nat), .int n] :: enI (i + 1) ns
theorem enum_dI (ns : List Int) : enumD (dI ns) = enI 0 ns := by
  have : ∀ (ns : List Int) (i : Nat), ((dI ns).zipIdx i).map (fun p => D.tup [.int (p.2 : Nat), p.1]) = enI i ns := by
    intro ns
    induction ns with
    | nil => intro i; rfl
    | cons n ns ih => intro i; show _ :: _ = _ :: _; rw [ih]
  exact this ns 0
@[simp] theorem y_sl {xs : List D} {lo hi : Option Int} : dSlice (.lst xs) lo hi = some (.lst (cutD xs lo hi), true) := (rfl)
@[simp] theorem cutD_take {α : Type} {xs : List α} {i : Nat} : cutD xs none (some (i : Int)) = xs.take i := by
  have e0 : HT.sIx xs.length 0 none = 0 := rfl
  have e1 : HT.sIx xs.length xs.length (some (i : Int)) = min i xs.length := by
    show (if (i : Int) < 0 then ((i : Int) + xs.length).toNat else min (i : Int).toNat xs.length) = _
    rw [if_neg (by omega), Int.toNat_natCast]
  show (xs.drop (HT.sIx xs.length 0 none)).take (HT.sIx xs.length xs.length (some (i : Int)) - HT.sIx xs.length 0 none) = _
  rw [e0, e1, List.drop_zero, Nat.sub_zero]
  by_cases h : i ≤ xs.length
  · rw [Nat.min_eq_left h]
  · rw [Nat.min_eq_right (by omega), List.take_of_length_le (Nat.le_refl _), List.take_of_length_le (by omega)]
@[simp] theorem cutD_drop {α : Type} {xs : List α} {i : Nat} : cutD xs (some (i : Int)) none = xs.drop i := by
  have e0 : HT.sIx xs.length xs.length none = xs.length := rfl
  have e1 : HT.sIx xs.length 0 (some (i : Int)) = min i xs.length := by
    show (if (i : Int) < 0 then ((i : Int) + xs.length).toNat else min (i : Int).toNat xs.length) = _
    rw [if_neg (by omega), Int.toNat_natCast]
  show (xs.drop (HT.sIx xs.length 0 (some (i : Int)))).take (HT.sIx xs.length xs.length none - HT.sIx xs.length 0 (some (i : Int))) = _
  rw [e0, e1]
  by_cases h : i ≤ xs.length
  · rw [Nat.min_eq_left h, List.take_of_length_le (by rw [List.length_drop]; omega)]
  · rw [Nat.min_eq_right (by omega), List.drop_eq_nil_of_le (Nat.le_refl _), List.drop_eq_nil_of_le (by omega)]; simp
@[simp] theorem cutD_last {α : Type} {xs : List α} : cutD xs none (some (-1)) = xs.dropLast := by
  have e0 : HT.sIx xs.length 0 none = 0 := rfl
  have e1 : HT.sIx xs.length xs.length (some (-1)) = xs.length - 1 := by
    show (if (-1 : Int) < 0 then ((-1 : Int) + xs.length).toNat else min (-1 : Int).toNat xs.length) = _
    rw [if_pos (by decide)]; omega
  show (xs.drop (HT.sIx xs.length 0 none)).take (HT.sIx xs.length xs.length (some (-1)) - HT.sIx xs.length 0 none) = _
  rw [e0, e1, List.drop_zero, Nat.sub_zero, List.dropLast_eq_take]
@[simp] theorem y_setD {kvs : List (Key × D)} {k : Int} {d : D} : wSet (.dct kvs) (.int k) d = if le24 (kvs.length + 1) = true then some (.dct (setK kvs (.inl k) d)) else none := (rfl)
@[simp] theorem y_idxD {kvs : List (Key × D)} {k : Int} : dIdx (.dct kvs) (.int k) = (getK kvs (.inl k)).map (·, false) := by
  show ixDct (.dct kvs) (.int k) = _
  unfold ixDct dGet dKey
  show (match Option.map (getK kvs) (some (.inl k : Key)) with
    | some (some v) => some (v, false)
    | _ => none) = _
  cases h : getK kvs (.inl k) <;> simp [h]
@[simp] theorem x_newK {env : Env} : dNewK env = .ok (.fr (.dct []), env) := (rfl)
/-- a dict of ints as made from a list of keys -/
def mkK (f : Int → D) (ks : List Int) : List (Key × D) := ks.map fun k => (.inl k, f k)
theorem getK_mkK (f : Int → D) : ∀ (ks : List Int) (k : Int), getK (mkK f ks) (.inl k) = if k ∈ ks then some (f k) else none
  | [], k => by simp [mkK, getK]
  | x :: xs, k => by
    have ih := getK_mkK f xs k
    unfold getK mkK at ih ⊢
    by_cases h : x = k
    · subst h; simp [List.find?_cons]
    · have h' : ¬ k = x := fun e => h e.symm
      have hi : ¬ (Sum.inl x : Key) = Sum.inl k := fun e => h (Sum.inl.inj e)
      rw [List.map_cons, List.find?_cons_of_neg (by simpa using hi)]
      rw [ih]
      simp [h']
theorem setK_mkK (f : Int → D) {ks : List Int} {k : Int} (h : k ∉ ks) : setK (mkK f ks) (.inl k) (f k) = mkK f (ks ++ [k]) := by
  unfold setK
  have : ((mkK f ks).any fun kv => decide (kv.1 = Sum.inl k)) = false := by
    rw [List.any_eq_false]
    intro p hp
    obtain ⟨x, hx, rfl⟩ := List.mem_map.mp hp
    have : ¬ x = k := fun e => h (e ▸ hx)
    simpa using fun e : (Sum.inl x : Key) = Sum.inl k => this (Sum.inl.inj e)
  rw [this]
  simp [mkK]
theorem mkK_len {f : Int → D} {ks : List Int} : (mkK f ks).length = ks.length := List.length_map _
/-- repr of a bool -/
def reprB (b : Bool) : Str := (toPy (.bl b)).shown
@[simp] theorem y_reprB {b : Bool} : bRepr [.bl b] = some (.str (reprB b), false) := by
  have h : (plain (.bl b) 60 && (toPy (.bl b)).showable && le24 (toPy (.bl b)).shown.length) = true := by cases b <;> decide +kernel
  unfold bRepr
  dsimp only
  rw [if_pos h]; rfl
@[simp] theorem y_neRB {a b : Bool} : neOp (.str (reprB a)) (.str (reprB b)) = some (.bl (a != b), false) := by
  have p : ∀ b, plain (.str (reprB b)) 60 = true := fun b => by cases b <;> decide +kernel
  have q : ∀ a b, PyData.eqv (toPy (.str (reprB a))) (toPy (.str (reprB b))) = (a == b) := fun a b => by cases a <;> cases b <;> decide +kernel
  unfold neOp
  rw [p a, p b, q a b]; rfl
@[simp] theorem eqO1 {x : Option Int} {u : Int} : eqOp (dO x) (.int u) = some (.bl (decide (x = some u)), false) := by
  cases x with
  | none => simp [eqOp, plain, toPy, PyData.eqv]
  | some k => simp
theorem atI_last {α : Type} {xs : List α} (h : xs ≠ []) : atI xs (-1) = xs.getLast? := by
  have hl : 0 < xs.length := List.length_pos_iff.mpr h
  unfold atI
  rw [ixN_neg (by decide) (by omega), Option.bind_some, List.getLast?_eq_getElem?]
  congr 1; omega
theorem numsD_dI : ∀ xs : List Int, numsD (dI xs) = some xs
  | [] => rfl
  | x :: xs => by
    show (match numD (.int x), numsD (dI xs) with
      | some n, some ns => some (n :: ns)
      | _, _ => none) = _
    rw [numsD_dI xs]; rfl
@[simp] theorem y_sumI {xs : List Int} : bSum [.lst (xs.map .int)] = some (.int xs.sum, false) := by
  unfold bSum
  dsimp only
  rw [show numsD (xs.map .int) = some xs from numsD_dI xs]; rfl
def boolI (b : Bool) : Int := if b then 1 else 0
theorem numsD_bl : ∀ xs : List Bool, numsD (xs.map .bl) = some (xs.map boolI)
  | [] => rfl
  | x :: xs => by
    show (match numD (.bl x), numsD (xs.map .bl) with
      | some n, some ns => some (n :: ns)
      | _, _ => none) = _
    rw [numsD_bl xs]; cases x <;> rfl
@[simp] theorem y_sumB {xs : List Bool} : bSum [.lst (xs.map .bl)] = some (.int (xs.map boolI).sum, false) := by
  unfold bSum
  dsimp only
  rw [numsD_bl xs]; rfl
theorem sum_bi {α : Type} (q : α → Bool) : ∀ xs : List α, ((xs.map q).map boolI).sum = ((xs.filter q).length : Int)
  | [] => rfl
  | x :: xs => by
    have ih := sum_bi q xs
    simp only [List.map_cons, List.sum_cons, List.filter_cons]
    rw [ih]
    cases q x <;> simp [boolI]
    omega
theorem plainA_bl : ∀ (xs : List Bool) (n : Nat), plainA (xs.map .bl) n = true
  | [], n => by simp [plainA]
  | x :: xs, n => by rw [List.map_cons]; simp only [plainA, plainA_bl xs, plain]; rfl
theorem toPyA_bl : ∀ xs : List Bool, toPyA (xs.map .bl) = xs.map .bool
  | [] => by simp [toPyA]
  | x :: xs => by rw [List.map_cons]; simp only [toPyA, toPyA_bl xs, toPy]; rfl
theorem eqvAll_bl : ∀ xs ys : List Bool, PyData.eqvAll (xs.map .bool) (ys.map .bool) = decide (xs = ys)
  | [], [] => by simp [PyData.eqvAll]
  | [], _ :: _ => by simp [PyData.eqvAll]
  | _ :: _, [] => by simp [PyData.eqvAll]
  | x :: xs, y :: ys => by
    have e : PyData.eqv (.bool x) (.bool y) = (x == y) := by cases x <;> cases y <;> rfl
    simp only [List.map_cons, PyData.eqvAll, eqvAll_bl xs ys, e]
    by_cases h : x = y <;> by_cases h2 : xs = ys <;> simp [h, h2]
@[simp] theorem y_neBL {xs ys : List Bool} : neOp (.lst (xs.map .bl)) (.lst (ys.map .bl)) = some (.bl (!decide (xs = ys)), false) := by
  have p : ∀ zs : List Bool, plain (.lst (zs.map .bl)) 60 = true := fun zs => by
    show plain (.lst (zs.map .bl)) (59 + 1) = true
    simp only [plain, plainA_bl]
  unfold neOp
  rw [p, p, toPy_lst, toPy_lst, toPyA_bl, toPyA_bl]
  simp [PyData.eqv, eqvAll_bl]
/-- repr of a small int -/
def reprI (a : Int) : Str := (toPy (.int a)).shown
theorem reprI_ok : ∀ n : Fin 200, (plain (.int (n.val : Int)) 60 && (toPy (.int (n.val : Int))).showable && le24 (toPy (.int (n.val : Int))).shown.length && plain (.str (reprI (n.val : Int))) 60) = true := by decide +kernel
theorem y_reprI {a : Int} (h : 0 ≤ a) (h2 : a < 200) : bRepr [.int a] = some (.str (reprI a), false) ∧ neOp (.str (reprI a)) (.str (reprI a)) = some (.bl false, false) := by
  have := reprI_ok ⟨a.toNat, by omega⟩
  have e : ((a.toNat : Nat) : Int) = a := Int.toNat_of_nonneg h
  simp only [e] at this
  obtain ⟨h1, h2⟩ := Bool.and_eq_true_iff.mp this
  refine ⟨?_, ?_⟩
  · unfold bRepr
    dsimp only
    rw [if_pos h1]; rfl
  · unfold neOp
    rw [h2]
    simp [toPy, PyData.eqv]
theorem dMul_rep {d : D} {n : Nat} (h : n ≤ 16777216) : dMul (.lst [d]) (.int (n : Int)) = some (.lst (List.replicate n d), true) := by
  show (none : Option (D × Bool)).or (if (decide (-9223372036854775808 ≤ (n : Int)) && decide ((n : Int) < 9223372036854775808) && le24 ([d].length * (n : Int).toNat)) = true then some (D.lst (List.replicate (n : Int).toNat [d]).flatten, true) else none) = _
  have hl : le24 ([d].length * (n : Int).toNat) = true := le24_of (by simp; omega)
  rw [if_pos (by rw [hl]; simp; omega), Int.toNat_natCast, List.flatten_replicate_singleton]
  rfl
theorem enI_len : ∀ {ns : List Int} {i : Nat}, (enI i ns).length = ns.length
  | [], _ => rfl
  | n :: ns, i => congrArg (· + 1) (enI_len (ns := ns) (i := i + 1))
theorem mem_enI {d : D} : ∀ {ns : List Int} {j : Nat}, d ∈ enI j ns → ∃ i k, ns[i]? = some k ∧ d = .tup [.int ((j + i : Nat) : Int), .int k]
  | n :: ns, j, h => by
    rcases List.mem_cons.mp (show d ∈ D.tup [.int (j : Nat), .int n] :: enI (j + 1) ns from h) with rfl | h
    · exact ⟨0, n, rfl, rfl⟩
    · obtain ⟨i, k, h1, h2⟩ := mem_enI h
      exact ⟨i + 1, k, h1, by rw [h2, show j + 1 + i = j + (i + 1) by omega]⟩
/-- the second of a pair -/
def sndI : D → Int
  | .tup [_, .int k] => k
  | _ => 0
@[simp] theorem sndI_tup {x : D} {k : Int} : sndI (.tup [x, .int k]) = k := (rfl)
theorem map_enI (h : Int → D) : ∀ (ns : List Int) (j : Nat), (enI j ns).map (fun d => h (sndI d)) = ns.map h
  | [], _ => rfl
  | n :: ns, j => by
    show h n :: (enI (j + 1) ns).map (fun d => h (sndI d)) = _
    rw [map_enI h ns (j + 1)]; rfl
theorem filter_true {α : Type} (xs : List α) : xs.filter (fun _ => true) = xs := List.filter_eq_self.mpr fun _ _ => rfl
theorem lcL_inv {vs : List Nat} {g : RV → Env → Out Env} {t : Env → Out (Bool × Env)} {f : Env → Out (RV × Env)} (S : Env → Prop) (p : D → Bool) (h : D → D) : ∀ (ds acc : List D) (e : Env), S e → acc.length + ds.length < 16777216 →
    (∀ d ∈ ds, ∀ e, S e → ∃ e1, (g (.fz d) (wipeE e vs)).bind t = .ok (p d, e1) ∧ (p d = false → S e1) ∧ (p d = true → ∃ r e2 e3, f e1 = .ok (r, e2) ∧ freezeR e2 r = some (h d, e3) ∧ S e3)) →
    ∃ e', lcL vs g t f ds acc e = .ok (acc ++ (ds.filter p).map h, e') ∧ S e'
  | [], acc, e, he, _, _ => ⟨e, by show Out.ok (acc, e) = _; simp, he⟩
  | d :: ds, acc, e, he, hl, hd => by
    obtain ⟨e1, h1, h2, h3⟩ := hd d List.mem_cons_self e he
    have hl' : acc.length + ds.length + 1 < 16777216 := by simpa [Nat.add_assoc] using hl
    have u : lcL vs g t f (d :: ds) acc e = (lcTurn vs g t d e).bind fun p => if p.1 = true then (f p.2).bind fun q => match freezeR q.2 q.1 with
      | some (y, e2) => if lt24 acc.length = true then lcL vs g t f ds (acc ++ [y]) e2 else .st
      | none => .st
    else lcL vs g t f ds acc p.2 := rfl
    have v : lcTurn vs g t d e = .ok (p d, e1) := h1
    rw [u, v, x_bind_ok]
    by_cases z : p d = true
    · obtain ⟨r, e2, e3, f1, f2, f3⟩ := h3 z
      obtain ⟨e', k1, k2⟩ := lcL_inv S p h ds (acc ++ [h d]) e3 f3 (by rw [List.length_append, List.length_singleton]; omega) fun d' hm => hd d' (List.mem_cons_of_mem _ hm)
      refine ⟨e', ?_, k2⟩
      dsimp only
      rw [if_pos z, f1, x_bind_ok]
      dsimp only
      rw [f2]
      dsimp only
      rw [if_pos (lt24_of (by omega)), k1, List.filter_cons_of_pos z, List.map_cons, List.append_assoc]; rfl
    · obtain ⟨e', k1, k2⟩ := lcL_inv S p h ds acc e1 (h2 (by simpa using z)) (by omega) fun d' hm => hd d' (List.mem_cons_of_mem _ hm)
      refine ⟨e', ?_, k2⟩
      dsimp only
      rw [if_neg z, k1, List.filter_cons_of_neg z]
theorem dLc_inv {vs : List Nat} {it : Env → Out (List D × Env)} {g : RV → Env → Out Env} {t : Env → Out (Bool × Env)} {f : Env → Out (RV × Env)} {env env1 : Env} {ds : List D} (S : Env → Prop) (p : D → Bool) (h : D → D) (hi : it env = .ok (ds, env1)) (hn : allNotIo vs env1 = true) (hl : ds.length < 16777216) (h0 : S env1)
    (hd : ∀ d ∈ ds, ∀ e, S e → ∃ e1, (g (.fz d) (wipeE e vs)).bind t = .ok (p d, e1) ∧ (p d = false → S e1) ∧ (p d = true → ∃ r e2 e3, f e1 = .ok (r, e2) ∧ freezeR e2 r = some (h d, e3) ∧ S e3)) :
    ∃ e', dLc vs it g t f env = .ok (.fr (.lst ((ds.filter p).map h)), restE env1 e' vs) ∧ S e' := by
  obtain ⟨e', k1, k2⟩ := lcL_inv S p h ds [] env1 h0 (by simpa using hl) hd
  refine ⟨e', ?_, k2⟩
  unfold dLc
  rw [hi, x_bind_ok, if_pos hn]
  dsimp only
  rw [k1, x_noEx_ok, x_bind_ok]
  dsimp only
  rw [List.nil_append]
end VS
namespace VS
open PySem PySem.Spec PyProof.Rows L2
/-! ### sorting -/
def insI (x : Int) : List Int → List Int
  | [] => [x]
  | y :: ys => if x ≤ y then x :: y :: ys else y :: insI x ys
def isort : List Int → List Int
  | [] => []
  | x :: xs => insI x (isort xs)
theorem insI_perm (x : Int) : ∀ ys : List Int, (insI x ys).Perm (x :: ys)
  | [] => .refl _
  | y :: ys => by
    unfold insI
    split
    · exact .refl _
    · exact (List.Perm.cons y (insI_perm x ys)).trans (List.Perm.swap x y ys)
theorem isort_perm : ∀ xs : List Int, (isort xs).Perm xs
  | [] => .refl _
  | x :: xs => (insI_perm x _).trans (List.Perm.cons x (isort_perm xs))
theorem insI_sorted (x : Int) : ∀ {ys : List Int}, ys.Pairwise (· ≤ ·) → (insI x ys).Pairwise (· ≤ ·)
  | [], _ => by simp [insI]
  | y :: ys, h => by
    obtain ⟨h1, h2⟩ := List.pairwise_cons.mp h
    unfold insI
    split
    · rename_i hxy
      refine .cons (fun z hz => ?_) h
      rcases List.mem_cons.mp hz with rfl | hz
      · exact hxy
      · exact Int.le_trans hxy (h1 z hz)
    · rename_i hxy
      refine .cons (fun z hz => ?_) (insI_sorted x h2)
      rcases List.mem_cons.mp ((insI_perm x ys).mem_iff.mp hz) with rfl | hz
      · omega
      · exact h1 z hz
theorem isort_sorted : ∀ xs : List Int, (isort xs).Pairwise (· ≤ ·)
  | [] => .nil
  | x :: xs => insI_sorted x (isort_sorted xs)
theorem sorted_unique : ∀ {xs ys : List Int}, xs.Perm ys → xs.Pairwise (· ≤ ·) → ys.Pairwise (· ≤ ·) → xs = ys
  | [], ys, p, _, _ => (List.Perm.nil_eq p)
  | x :: xs, [], p, _, _ => by have := p.length_eq; simp at this
  | x :: xs, y :: ys, p, h1, h2 => by
    obtain ⟨a1, a2⟩ := List.pairwise_cons.mp h1
    obtain ⟨b1, b2⟩ := List.pairwise_cons.mp h2
    have e : x = y := by
      have m1 : x ∈ y :: ys := p.mem_iff.mp List.mem_cons_self
      have m2 : y ∈ x :: xs := p.mem_iff.mpr List.mem_cons_self
      rcases List.mem_cons.mp m1 with e | m1
      · exact e
      · rcases List.mem_cons.mp m2 with e | m2
        · exact e.symm
        · have := a1 y m2
          have := b1 x m1
          omega
    subst e
    rw [sorted_unique (List.Perm.cons_inv p) a2 b2]
theorem isort_of {xs ys : List Int} (p : ys.Perm xs) (h : ys.Pairwise (· ≤ ·)) : ys = isort xs := sorted_unique (p.trans (isort_perm xs).symm) h (isort_sorted xs)
theorem isort_congr {xs ys : List Int} (p : ys.Perm xs) : isort ys = isort xs := isort_of ((isort_perm ys).trans p) (isort_sorted ys)
/-- the int keys of a dict -/
def keysI : List (Key × D) → Option (List Int)
  | [] => some []
  | (.inl k, _) :: r => (keysI r).map (k :: ·)
  | _ :: _ => none
theorem keysI_ok {W : Wd} {G : Hp} : ∀ {vs : List (Key × V)} {kds : List (Key × D)} {ks : List Int}, RpK W G vs kds → keysI kds = some ks → vs.map (·.1) = ks.map Sum.inl
  | _, _, ks, .nil, e => by cases e; rfl
  | _, _, ks, .cons (k := k) (s := s) a r, e => by
    cases k with
    | inl k =>
      obtain ⟨js, e1, e2⟩ := Option.map_eq_some_iff.mp (show (keysI s).map (k :: ·) = some ks from e)
      subst e2
      rw [List.map_cons, List.map_cons, keysI_ok r e1]
    | inr x => cases e
def bSortedL : OpN
  | [.lst ds] => (intsD ds).map fun ns => (.lst (dI (isort ns)), true)
  | _ => none
def bSortedD : OpN
  | [.dct kvs] => (keysI kvs).bind fun ks => if Nat.blt ks.length 64 = true then some (.lst (dI (isort ks)), true) else none
  | _ => none
def bSorted : OpN := fun ds => (bSortedL ds).or (bSortedD ds)
section
variable {X : Cx} {c : Nat → Value} {Wx : WX} {k : Nat}
theorem bSorted_ok (hc : X.calm = true) : CallOk X c (.builtin "sorted") bSorted := by
  refine CallOk.or (op := bSortedL) (op' := bSortedD) ?_ ?_
  · refine ⟨_, cr_sortedI, fun G H vs ds d fr Q s hv e q => ?_⟩
    unfold bSortedL at e
    split at e
    · obtain ⟨ns, e1, e2⟩ := Option.map_eq_some_iff.mp e
      cases e2
      obtain ⟨v, rfl, h⟩ := vw1 hv
      obtain ⟨a, ws, rfl, h1, r⟩ := h.lst s
      rw [intsD_eq e1] at r
      have := r.ints
      subst this
      refine ⟨a, ns, rfl, SqL.of h1, fun ns' p hp hs hn => ?_⟩
      rw [isort_of hp hs]
      exact q _ _ (Res.fresh s hn (.lst (rpA_ints _)))
    · cases e
  · refine ⟨_, call_sortedDI hc, fun G H vs ds d fr Q s hv e q => ?_⟩
    unfold bSortedD at e
    split at e
    · obtain ⟨ks, e1, e2⟩ := Option.bind_eq_some_iff.mp e
      by_cases z : Nat.blt ks.length 64 = true
      · rw [if_pos z] at e2
        cases e2
        obtain ⟨v, rfl, h⟩ := vw1 hv
        obtain ⟨a, ws, rfl, h1, r⟩ := h.dct s
        refine ⟨a, ws, ks, rfl, h1, keysI_ok r e1, Nat.le_of_ble_eq_true z, fun ys p hp hs hn => ?_⟩
        rw [isort_of hp hs]
        exact q _ _ (Res.fresh s hn (.lst (rpA_ints _)))
      · rw [if_neg z] at e2; cases e2
    · cases e
theorem q_clear {x : Str} {p0 : Pos} {apos cpos : Pos} {i : Nat} (ha : PE X (.Name x p0) (tVar i)) (h1 : attributeBase (.Name x p0) "clear" X.env (eval (.Name x p0) X.env) = eval (.Name x p0) X.env := by rfl) (h3 : (apos.endLine == cpos.line) = true := by rfl) : DE X c Wx (.Call (.Attribute (.Name x p0) "clear" apos) [] [] cpos) (dWrite isLst wClear i dNil) :=
  de_writeL0 mt_clear wClear_ok PySem.F.slot_list_clear PySem.F.type_list_clear ha h1 h3
end
def fzs (xs : List D) : List RV := xs.map RV.fz
@[simp] theorem x_star {env : Env} {f : Env → Out (RV × Env)} {a : Env → Out (List RV × Env)} : dStar f a env = (f env).bind fun p => (Out.of ((resolve p.2 p.1).bind seqOf)).bind fun xs => (a p.2).bind fun q => .ok (fzs xs ++ q.1, q.2) := by
  unfold dStar; congr 1; funext p
  cases (resolve p.2 p.1).bind seqOf <;> rfl
@[simp] theorem y_seqL {xs : List D} : seqOf (.lst xs) = some xs := (rfl)
@[simp] theorem y_seqT {xs : List D} : seqOf (.tup xs) = some xs := (rfl)
@[simp] theorem x_frzA_fz {env : Env} : ∀ {xs : List D} {rs : List RV}, freezeA env (fzs xs ++ rs) = (freezeA env rs).map fun q => (xs ++ q.1, q.2)
  | [], rs => by
    show freezeA env rs = _
    rcases freezeA env rs with _ | ⟨a, b⟩ <;> rfl
  | x :: xs, rs => by
    show freezeA env (.fz x :: (fzs xs ++ rs)) = _
    rw [x_frzA_cons, x_frz_fz, Option.bind_some, x_frzA_fz]
    rcases freezeA env rs with _ | ⟨a, b⟩ <;> rfl
@[simp] theorem x_frzA_fz0 {env : Env} {xs : List D} : freezeA env (fzs xs) = some (xs, env) := by
  have := x_frzA_fz (env := env) (xs := xs) (rs := [])
  simpa using this
@[simp] theorem y_clear {xs : List D} : wClear (.lst xs) [] = some (.lst [], .non) := (rfl)
theorem keysI_mkK (f : Int → D) : ∀ ks : List Int, keysI (mkK f ks) = some ks
  | [] => rfl
  | k :: ks => by
    show (keysI (mkK f ks)).map (k :: ·) = _
    rw [keysI_mkK f ks]; rfl
theorem y_sortedK {f : Int → D} {ks : List Int} (h : ks.length < 64) : bSorted [.dct (mkK f ks)] = some (.lst (dI (isort ks)), true) := by
  show (none : Option (D × Bool)).or ((keysI (mkK f ks)).bind fun ks => if Nat.blt ks.length 64 = true then some (D.lst (dI (isort ks)), true) else none) = _
  have z : Nat.blt ks.length 64 = true := Nat.ble_eq_true_of_le h
  rw [keysI_mkK, Option.bind_some, if_pos z]; rfl
theorem intsD_dI (xs : List Int) : intsD (dI xs) = some xs := intsD_ints xs
@[simp] theorem y_sortedL {xs : List Int} : bSorted [.lst (xs.map .int)] = some (.lst (dI (isort xs)), true) := by
  show ((intsD (xs.map .int)).map fun ns => (D.lst (dI (isort ns)), true)).or _ = _
  rw [show intsD (xs.map .int) = some xs from intsD_dI xs]; rfl
end VS
namespace VS
open PySem PySem.Spec PyProof.Rows L2
/-! ### [e for x in xs for y in ys] -/
section
variable {X : Cx} {c : Nat → Value} {Wx : WX}
theorem wipe_wipe {σ : L2.St} {vs1 vs : List Nat} (h : ∀ i ∈ vs1, i ∈ vs) : wipe (wipe σ vs1) vs = wipe σ vs :=
  wipe_ext (wipe_len _ _) fun j m => wipe_out _ _ _ fun z => m (h j z)
theorem wipeE_wipeE {env : Env} {vs1 vs : List Nat} (h : ∀ i ∈ vs1, i ∈ vs) : wipeE (wipeE env vs1) vs = wipeE env vs := by
  have aux : ∀ (e : Env) (j : Nat), j ∈ vs → (wipeE e vs)[j]? = if j < e.length then some none else none := by
    intro e j
    generalize vs = us
    induction us with
    | nil => intro hj; cases hj
    | cons i r ih =>
      intro hj
      show ((wipeE e r).set i none)[j]? = _
      by_cases z : i = j
      · subst z
        by_cases hl : i < e.length
        · rw [if_pos hl, List.getElem?_set_self (by rw [wipeE_len]; exact hl)]
        · rw [if_neg hl, List.getElem?_eq_none (by rw [List.length_set, wipeE_len]; omega)]
      · rw [List.getElem?_set_ne z]
        exact ih ((List.mem_cons.mp hj).resolve_left fun w => z w.symm)
  apply List.ext_getElem?
  intro j
  by_cases m : j ∈ vs
  · rw [aux _ j m, aux _ j m, wipeE_len]
  · rw [wipeE_out m, wipeE_out m, wipeE_out fun z => m (h j z)]
theorem lc_inner {W : Wd} {F : FrI} {G H : Hp} {env : Env} {σ2 : L2.St} {p : Addr} {acc : List V} {dacc : List D} {vs js : List Nat} {g : RV → Env → Out Env} {t : Env → Out (Bool × Env)} {f : Env → Out (RV × Env)} {ds : List D} {J : It} {α : Type} {post : Out α → Prop} {k : List D × Env → Out α} {Nx : Hp → Prop}
    (hj : ∀ j ∈ js, j ∈ vs) (L : Lk F p) (hi : p ∉ F.ios.map (·.2)) (it : ItW W G J ds) (R : Rel W (lockF F p (.lst acc)) G env σ2 H) (hn : ∀ i ∈ vs, notIo i env = true) (ra : RpA W G acc dacc)
    (pl : ∀ {F' G' σ'}, PL W wxN F' G' σ' post) (h : post ((lcL vs g t f ds dacc env).bind k))
    (hN : ∀ G' acc' dacc' env' H', Same G G' → Rel W (lockF F p (.lst acc')) G' (wipeE env' vs) (wipe σ2 vs) H' → RpA W G' acc' dacc' → post (k (dacc', env')) → Nx H') :
    ∃ W1 : Nat → Nat → Hp → Prop, (∃ m, W1 0 m H) ∧ ∀ j m H, W1 j m H → (J.stop j H ∧ Nx H) ∨ (J.go j H ∧ ∃ Nx1 : Hp → Prop, (∀ H', Nx1 H' → ∃ m', m' < m ∧ W1 (j + 1) m' H') ∧
      ∀ x H', J.yld j H x H' → tCanG W js g x (wipe σ2 vs) H' fun σ3 H5 => wipe σ3 vs = wipe σ2 vs ∧ tCanT W t σ3 H5 fun b H6 => if b = true then tCanE W f σ3 H6 fun y H7 => ∃ acc, H7 p = some (.lst acc) ∧ acc.length < sizeLine ∧ Nx1 (upd H7 p (.lst (acc ++ [y]))) else Nx1 H6) := by
  refine ⟨fun i m H' => ∃ G' acc' env' dacc', Same G G' ∧ Rel W (lockF F p (.lst acc')) G' (wipeE env' vs) (wipe σ2 vs) H' ∧ i ≤ ds.length ∧ m = ds.length - i ∧ RpA W G' acc' dacc' ∧ post ((lcL vs g t f (ds.drop i) dacc' env').bind k), ⟨_, G, acc, env, dacc, Same.refl G, R.wipe hn, Nat.zero_le _, rfl, ra, h⟩, ?_⟩
  rintro i m H2 ⟨G2, acc2, env2, dacc2, s2, R2, hi2, hm, ra2, h2⟩
  obtain ⟨i1, i2⟩ := it G2 i H2 s2 R2.same
  by_cases z : ds.length ≤ i
  · refine .inl ⟨i1 z, ?_⟩
    rw [List.drop_eq_nil_of_le z] at h2
    exact hN G2 acc2 dacc2 env2 H2 s2 R2 ra2 h2
  · have z : i < ds.length := Nat.lt_of_not_le z
    obtain ⟨j1, j2⟩ := i2 _ (List.getElem?_eq_getElem z)
    rw [List.drop_eq_getElem_cons z] at h2
    refine .inr ⟨j1, fun H' => ∃ G' acc' env' dacc', Same G G' ∧ Rel W (lockF F p (.lst acc')) G' (wipeE env' vs) (wipe σ2 vs) H' ∧ RpA W G' acc' dacc' ∧ post ((lcL vs g t f (ds.drop (i + 1)) dacc' env').bind k), ?_, fun x H' y => ?_⟩
    · rintro H' ⟨G', acc', env', dacc', a, b, d, e⟩
      exact ⟨ds.length - (i + 1), by omega, G', acc', env', dacc', a, b, z, rfl, d, e⟩
    · obtain ⟨G3, s3, R3, rv⟩ := R2.res (j2 x H' y)
      have u : ∀ (d : D) (dd : List D) (ac : List D) (e : Env), (lcL vs g t f (d :: dd) ac e).bind k = (lcTurn vs g t d e).bind fun p => (if p.1 = true then (f p.2).bind fun q => match freezeR q.2 q.1 with
          | some (y, e2) => if lt24 ac.length = true then lcL vs g t f dd (ac ++ [y]) e2 else .st
          | none => .st
        else lcL vs g t f dd ac p.2).bind k := fun d dd ac e => by
        show ((lcTurn vs g t d e).bind _).bind k = _
        rw [bind_assoc]
        all_goals rfl
      rw [u] at h2
      refine lc_turn (α := α) hj R3 rv (fun {G' σ'} _ => pl) h2 fun b σ4 G4 env4 H4 hw R4 s4 h4 => ?_
      cases b with
      | false =>
        have R5 := R4.wipe (vs := vs) fun i hi => Rel.notIo R2 R4 (wipeE_notIo hi)
        rw [hw] at R5
        exact ⟨G4, acc2, env4, dacc2, s2.trans (s3.trans s4), R5, ra2.mono (Le.of (s3.trans s4)), h4⟩
      | true =>
        have h4' : post ((f env4).bind fun q => (match freezeR q.2 q.1 with
          | some (y, e2) => if lt24 dacc2.length = true then lcL vs g t f (ds.drop (i + 1)) (dacc2 ++ [y]) e2 else .st
          | none => .st : Out (List D × Env)).bind k) := by
          rw [← bind_assoc]; exact h4
        refine ⟨_, G4, env4, R4, epost_bind pl h4' fun r env5 v G5 H5 R5 s5 rv5 h5 => ?_⟩
        dsimp only at h5
        cases e5 : freezeR env5 r with
        | none => rw [e5] at h5; exact (pl (F' := F) (G' := G) (σ' := σ2)).st h5 |>.elim
        | some w =>
          obtain ⟨y, e2⟩ := w
          rw [e5] at h5
          dsimp only at h5
          by_cases zl : lt24 dacc2.length = true
          · rw [if_pos zl] at h5
            obtain ⟨G6, s6, R6, rp6⟩ := rv5.freeze R5 e5
            have R7 := R6.wipe (vs := vs) fun i hi => Rel.notIo R2 R6 (wipeE_notIo hi)
            rw [hw] at R7
            have ss := s3.trans (s4.trans (s5.trans s6))
            have ra6 := ra2.mono (Le.of ss)
            exact ⟨acc2, (R7.at L hi).1, by rw [ra2.length]; exact lt24_ok zl, G6, acc2 ++ [v], e2, dacc2 ++ [y], s2.trans ss, R7.relock L hi, ra6.snoc rp6, h5⟩
          · rw [if_neg zl] at h5; exact ((pl (F' := F) (G' := G) (σ' := σ2)).st h5).elim
def lc2L (vs : List Nat) (g : RV → Env → Out Env) (t : Env → Out (Bool × Env)) (it1 : Env → Out (List D × Env)) (vs1 : List Nat) (g1 : RV → Env → Out Env) (t1 : Env → Out (Bool × Env)) (f : Env → Out (RV × Env)) : List D → List D → Env → Out (List D × Env)
  | [], acc, env => .ok (acc, env)
  | d :: ds, acc, env => (lcTurn vs g t d env).bind fun p => if p.1 = true then (it1 p.2).bind fun q => (lcL vs1 g1 t1 f q.1 acc q.2).bind fun r => lc2L vs g t it1 vs1 g1 t1 f ds r.1 r.2
    else lc2L vs g t it1 vs1 g1 t1 f ds acc p.2
def dLc2 (vs : List Nat) (it : Env → Out (List D × Env)) (g : RV → Env → Out Env) (t : Env → Out (Bool × Env)) (it1 : Env → Out (List D × Env)) (vs1 : List Nat) (g1 : RV → Env → Out Env) (t1 : Env → Out (Bool × Env)) (f : Env → Out (RV × Env)) : Env → Out (RV × Env) := fun env => (it env).bind fun p =>
  if allNotIo vs p.2 = true then (noEx (lc2L vs g t it1 vs1 g1 t1 f p.1 [] p.2)).bind fun q => .ok (.fr (.lst q.1), restE p.2 q.2 vs) else .st
theorem lc2_walk {W : Wd} {F : FrI} {G H : Hp} {env : Env} {σ : L2.St} {Q : VK} {vs js vs1 js1 : List Nat} {it it1 : Env → Out (List D × Env)} {wi : TI} {g g1 : RV → Env → Out Env} {t t1 : Env → Out (Bool × Env)} {f : Env → Out (RV × Env)} (hj : ∀ j ∈ js, j ∈ vs) (hj1 : ∀ j ∈ js1, j ∈ vs1) (hv : ∀ i ∈ vs1, i ∈ vs) (R : Rel W F G env σ H)
    (ki : ∀ {α : Type} (F : FrI) (G : Hp) (env : Env) (σ : L2.St) (H : Hp) (Q : It → Hp → Prop) (k : List D × Env → Out α) (post : Out α → Prop), PL W Wx F G σ post → Rel W F G env σ H → post ((it env).bind k) →
    (∀ ds env' J G' H', Rel W F G' env' σ H' → Same G G' → ItW W G' J ds → post (k (ds, env')) → Q J H') → wi σ H Q)
    (h : EPost W Wx F G σ Q (dLc2 vs it g t it1 vs1 g1 t1 f env)) : tLc2 wi (tCanG W js g) (tCanT W t) (tCanI W it1) (tCanG W js1 g1) (tCanT W t1) (tCanE W f) vs vs1 σ H Q := by
  refine ki F G env σ H _ _ _ pl_E R h fun ds env1 J G1 H1 R1 s1 ii1 h1 => ?_
  intro p hp
  by_cases hn : allNotIo vs env1 = true
  · rw [if_pos hn] at h1
    have hn' : ∀ i ∈ vs, notIo i env1 = true := List.all_eq_true.mp hn
    have L : Lk F p := R1.lk hp
    have hi : p ∉ F.ios.map (·.2) := L.no R1.iosE
    refine ⟨fun i m H' => ∃ G' acc env', Same G1 G' ∧ Rel W (lockF F p (.lst acc)) G' (wipeE env' vs) (wipe σ vs) H' ∧ i ≤ ds.length ∧ m = ds.length - i ∧ ∃ dacc, RpA W G' acc dacc ∧ EPost W Wx F G σ Q ((noEx (lc2L vs g t it1 vs1 g1 t1 f (ds.drop i) dacc env')).bind fun q => .ok (.fr (.lst q.1), restE env1 q.2 vs)), ⟨_, G1, [], env1, Same.refl G1, (R1.wipe hn').lock hp, Nat.zero_le _, rfl, [], .nil, h1⟩, ?_⟩
    rintro i m H2 ⟨G2, acc, env2, s2, R2, hi2, hm, dacc, ra, h2⟩
    obtain ⟨i1, i2⟩ := ii1 G2 i H2 s2 R2.same
    by_cases z : ds.length ≤ i
    · refine .inl ⟨i1 z, ?_⟩
      rw [List.drop_eq_nil_of_le z] at h2
      obtain ⟨hp2, hg2⟩ := R2.at L hi
      obtain ⟨R3, fr⟩ := R2.unlock L hi
      have R4 := Rel.mix (vs := vs) (σ := σ) R1 R3 s2 (wipe_ext (wipe_len _ _) fun j m => wipe_out _ _ _ m) hn'
      rw [restE_wipe] at R4
      refine h2 (.ref p) G2 H2 R4 (s1.trans s2) ⟨p, rfl, L.e, ⟨hg2, _, hp2, .lst ra⟩, fun j c e nf => ?_⟩
      rcases restE_get e with ⟨m, e⟩ | ⟨m, e⟩
      · exact absurd (frzC_eq e).1 nf
      · have := fr j c (by rw [wipeE_out m]; exact e) nf
        rwa [wipe_out _ _ _ m] at this
    · have z : i < ds.length := Nat.lt_of_not_le z
      obtain ⟨j1, j2⟩ := i2 _ (List.getElem?_eq_getElem z)
      rw [List.drop_eq_getElem_cons z] at h2
      refine .inr ⟨j1, fun H' => ∃ G' acc env', Same G1 G' ∧ Rel W (lockF F p (.lst acc)) G' (wipeE env' vs) (wipe σ vs) H' ∧ ∃ dacc, RpA W G' acc dacc ∧ EPost W Wx F G σ Q ((noEx (lc2L vs g t it1 vs1 g1 t1 f (ds.drop (i + 1)) dacc env')).bind fun q => .ok (.fr (.lst q.1), restE env1 q.2 vs)), ?_, fun x H' y => ?_⟩
      · rintro H' ⟨G', acc', env', a, b, d⟩
        exact ⟨ds.length - (i + 1), by omega, G', acc', env', a, b, z, rfl, d⟩
      · obtain ⟨G3, s3, R3, rv⟩ := R2.res (j2 x H' y)
        have pl : ∀ {F' : FrI} {G' : Hp} {σ' : L2.St}, PL W wxN F' G' σ' (fun o => EPost W Wx F G σ Q ((noEx o).bind fun q : List D × Env => .ok (RV.fr (.lst q.1), restE env1 q.2 vs))) := fun {F' G' σ'} => pl_no (pl_E (Wx := Wx) (F := F) (G := G) (σ := σ) (Q := Q))
        refine lc_turn (α := List D × Env) hj R3 rv (fun {G' σ'} _ => pl) h2 fun b σ4 G4 env4 H4 hw R4 s4 h4 => ?_
        cases b with
        | false =>
          have R5 := R4.wipe (vs := vs) fun i hi => Rel.notIo R2 R4 (wipeE_notIo hi)
          rw [hw] at R5
          exact ⟨G4, acc, env4, s2.trans (s3.trans s4), R5, dacc, ra.mono (Le.of (s3.trans s4)), h4⟩
        | true =>
          rw [if_pos rfl]
          refine ⟨_, G4, env4, R4, ipost_bind pl h4 fun ds1 env5 J1 G5 H5 R5 s5 ii5 h5 => ?_⟩
          refine lc_inner (G := G5) (α := List D × Env) hj1 L hi ii5 R5 (fun i hi => Rel.notIo R2 R5 (wipeE_notIo (hv i hi))) (ra.mono (Le.of (s3.trans (s4.trans s5)))) pl h5 fun G6 acc6 dacc6 env6 H6 s6 R6 ra6 h6 => ?_
          have R7 := R6.wipe (vs := vs) fun i him => Rel.notIo (R2.relock (o' := .lst acc6) L hi) R6 (wipeE_notIo him)
          rw [wipeE_wipeE hv, wipe_wipe hv, hw] at R7
          exact ⟨G6, acc6, env6, s2.trans (s3.trans (s4.trans (s5.trans s6))), R7, dacc6, ra6, h6⟩
  · rw [if_neg hn] at h1; exact h1.elim
theorem de_lc2 {elt tg iter tg1 iter1 : Expr} {ifs ifs1 : List Expr} {scope : Scope} {own : List (Str × Nat)} {vs1 : List Nat} {pos : Pos} {it it1 : Env → Out (List D × Env)} {js js1 : List Nat} {g g1 : RV → Env → Out Env} {t t1 : Env → Out (Bool × Env)} {f : Env → Out (RV × Env)}
    (hc : X.calm = true) (hN : X.N.Nodup) (hi : DI X c Wx tg iter it) (ok : BlkOk X.N X.env.scope scope own) (hv : ∀ i ∈ vs1, i ∈ own.map (·.2)) (hg : Blks X scope fun Y => DG Y c wxN tg js g) (ht : Blks X scope fun Y => DIfs Y c ifs t) (hi1 : Blks X scope fun Y => DI Y c wxN tg1 iter1 it1) (hg1 : Blks X scope fun Y => DG Y c wxN tg1 js1 g1) (ht1 : Blks X scope fun Y => DIfs Y c ifs1 t1) (he : Blks X scope fun Y => DE Y c wxN elt f)
    (hj : ∀ j ∈ js, j ∈ own.map (·.2)) (hj1 : ∀ j ∈ js1, j ∈ vs1) (hs : ∀ x : Value, foldedSetIterable iter X.env x = pure x := by intro x; rfl) (hs1 : ∀ (env : PySem.Env) (x : Value), foldedSetIterable iter1 env x = pure x := by intro env x; rfl) : DE X c Wx (.ListComp elt [⟨tg, iter, ifs, 0⟩, ⟨tg1, iter1, ifs1, 0⟩] scope pos) (dLc2 (own.map (·.2)) it g t it1 vs1 g1 t1 f) := by
  obtain ⟨wi, pi, ki⟩ := hi.run
  exact ⟨_, pe_lc2 hc hN pi ok hv (fun s H C cl fp => (hg s H C cl fp).can (W := wd X c) rfl) (fun s H C cl fp => (ht s H C cl fp).can (W := wd X c) rfl) (fun s H C cl fp => (hi1 s H C cl fp).can (W := wd X c) rfl) (fun s H C cl fp => (hg1 s H C cl fp).can (W := wd X c) rfl) (fun s H C cl fp => (ht1 s H C cl fp).can (W := wd X c) rfl) (fun s H C cl fp => (he s H C cl fp).can (W := wd X c) rfl) hs hs1, fun F G env σ H Q R h => lc2_walk hj hj1 hv R ki h⟩
/-! ### {k: v for x in xs} -/
def dcL (vs : List Nat) (g : RV → Env → Out Env) (t : Env → Out (Bool × Env)) (fk fv : Env → Out (RV × Env)) : List D → List (Key × D) → Env → Out (List (Key × D) × Env)
  | [], acc, env => .ok (acc, env)
  | d :: ds, acc, env => (lcTurn vs g t d env).bind fun p => if p.1 = true then (fk p.2).bind fun a => (fv a.2).bind fun b => match (resolve b.2 a.1).bind dKey, freezeR b.2 b.1 with
      | some k, some (y, e2) => if lt24 acc.length = true then dcL vs g t fk fv ds (setK acc k y) e2 else .st
      | _, _ => .st
    else dcL vs g t fk fv ds acc p.2
def dDc (vs : List Nat) (it : Env → Out (List D × Env)) (g : RV → Env → Out Env) (t : Env → Out (Bool × Env)) (fk fv : Env → Out (RV × Env)) : Env → Out (RV × Env) := fun env => (it env).bind fun p =>
  if allNotIo vs p.2 = true then (noEx (dcL vs g t fk fv p.1 [] p.2)).bind fun q => .ok (.fr (.dct q.1), restE p.2 q.2 vs) else .st
theorem dc_walk {W : Wd} {F : FrI} {G H : Hp} {env : Env} {σ : L2.St} {Q : VK} {vs js : List Nat} {it : Env → Out (List D × Env)} {wi : TI} {g : RV → Env → Out Env} {t : Env → Out (Bool × Env)} {fk fv : Env → Out (RV × Env)} (hj : ∀ j ∈ js, j ∈ vs) (R : Rel W F G env σ H)
    (ki : ∀ {α : Type} (F : FrI) (G : Hp) (env : Env) (σ : L2.St) (H : Hp) (Q : It → Hp → Prop) (k : List D × Env → Out α) (post : Out α → Prop), PL W Wx F G σ post → Rel W F G env σ H → post ((it env).bind k) →
    (∀ ds env' J G' H', Rel W F G' env' σ H' → Same G G' → ItW W G' J ds → post (k (ds, env')) → Q J H') → wi σ H Q)
    (h : EPost W Wx F G σ Q (dDc vs it g t fk fv env)) : tDc wi (tCanG W js g) (tCanT W t) (tCanE W fk) (tCanE W fv) vs σ H Q := by
  refine ki F G env σ H _ _ _ pl_E R h fun ds env1 J G1 H1 R1 s1 it1 h1 => ?_
  intro p hp
  by_cases hn : allNotIo vs env1 = true
  · rw [if_pos hn] at h1
    have hn' : ∀ i ∈ vs, notIo i env1 = true := List.all_eq_true.mp hn
    have L : Lk F p := R1.lk hp
    have hi : p ∉ F.ios.map (·.2) := L.no R1.iosE
    refine ⟨fun i m H' => ∃ G' acc env', Same G1 G' ∧ Rel W (lockF F p (.dK acc)) G' (wipeE env' vs) (wipe σ vs) H' ∧ i ≤ ds.length ∧ m = ds.length - i ∧ ∃ dacc, RpK W G' acc dacc ∧ EPost W Wx F G σ Q ((noEx (dcL vs g t fk fv (ds.drop i) dacc env')).bind fun q => .ok (.fr (.dct q.1), restE env1 q.2 vs)), ⟨_, G1, [], env1, Same.refl G1, (R1.wipe hn').lock hp, Nat.zero_le _, rfl, [], .nil, h1⟩, ?_⟩
    rintro i m H2 ⟨G2, acc, env2, s2, R2, hi2, hm, dacc, ra, h2⟩
    obtain ⟨i1, i2⟩ := it1 G2 i H2 s2 R2.same
    by_cases z : ds.length ≤ i
    · refine .inl ⟨i1 z, ?_⟩
      rw [List.drop_eq_nil_of_le z] at h2
      obtain ⟨hp2, hg2⟩ := R2.at L hi
      obtain ⟨R3, fr⟩ := R2.unlock L hi
      have R4 := Rel.mix (vs := vs) (σ := σ) R1 R3 s2 (wipe_ext (wipe_len _ _) fun j m => wipe_out _ _ _ m) hn'
      rw [restE_wipe] at R4
      refine h2 (.ref p) G2 H2 R4 (s1.trans s2) ⟨p, rfl, L.e, ⟨hg2, _, hp2, .dct ra⟩, fun j c e nf => ?_⟩
      rcases restE_get e with ⟨m, e⟩ | ⟨m, e⟩
      · exact absurd (frzC_eq e).1 nf
      · have := fr j c (by rw [wipeE_out m]; exact e) nf
        rwa [wipe_out _ _ _ m] at this
    · have z : i < ds.length := Nat.lt_of_not_le z
      obtain ⟨j1, j2⟩ := i2 _ (List.getElem?_eq_getElem z)
      rw [List.drop_eq_getElem_cons z] at h2
      refine .inr ⟨j1, fun H' => ∃ G' acc env', Same G1 G' ∧ Rel W (lockF F p (.dK acc)) G' (wipeE env' vs) (wipe σ vs) H' ∧ ∃ dacc, RpK W G' acc dacc ∧ EPost W Wx F G σ Q ((noEx (dcL vs g t fk fv (ds.drop (i + 1)) dacc env')).bind fun q => .ok (.fr (.dct q.1), restE env1 q.2 vs)), ?_, fun x H' y => ?_⟩
      · rintro H' ⟨G', acc', env', a, b, d⟩
        exact ⟨ds.length - (i + 1), by omega, G', acc', env', a, b, z, rfl, d⟩
      · obtain ⟨G3, s3, R3, rv⟩ := R2.res (j2 x H' y)
        have pl : ∀ {F' : FrI} {G' : Hp} {σ' : L2.St}, PL W wxN F' G' σ' (fun o => EPost W Wx F G σ Q ((noEx o).bind fun q : List (Key × D) × Env => .ok (RV.fr (.dct q.1), restE env1 q.2 vs))) := fun {F' G' σ'} => pl_no (pl_E (Wx := Wx) (F := F) (G := G) (σ := σ) (Q := Q))
        refine lc_turn (α := List (Key × D) × Env) hj R3 rv (fun {G' σ'} _ => pl) h2 fun b σ4 G4 env4 H4 hw R4 s4 h4 => ?_
        cases b with
        | false =>
          have R5 := R4.wipe (vs := vs) fun i hi => Rel.notIo R2 R4 (wipeE_notIo hi)
          rw [hw] at R5
          exact ⟨G4, acc, env4, s2.trans (s3.trans s4), R5, dacc, ra.mono (Le.of (s3.trans s4)), h4⟩
        | true =>
          rw [if_pos rfl]
          refine ⟨_, G4, env4, R4, epost_bind pl h4 fun r env5 v G5 H5 R5 s5 rv5 h5 => ?_⟩
          obtain ⟨G5', s5', R5', pv5⟩ := rv5.pend R5
          refine ⟨_, G5', env5, R5', epost_bind pl h5 fun r6 env6 v6 G6 H6 R6 s6 rv6 h6 => ?_⟩
          dsimp only at h6
          cases e5 : (resolve env6 r).bind dKey with
          | none => rw [e5] at h6; exact h6.elim
          | some key =>
            cases e6 : freezeR env6 r6 with
            | none => rw [e5, e6] at h6; exact h6.elim
            | some w =>
              obtain ⟨y, e2⟩ := w
              rw [e5, e6] at h6
              dsimp only at h6
              obtain ⟨dk, e7, e8⟩ := Option.bind_eq_some_iff.mp e5
              have ek := dKey_vw e8 ((pv5.mono (Le.of s6)).vw R6 e7)
              by_cases zl : lt24 dacc.length = true
              · rw [if_pos zl] at h6
                obtain ⟨G7, s7, R7, rp7⟩ := rv6.freeze R6 e6
                have R8 := R7.wipe (vs := vs) fun i hi => Rel.notIo R2 R7 (wipeE_notIo hi)
                rw [hw] at R8
                have ss := s3.trans (s4.trans (s5.trans (s5'.trans (s6.trans s7))))
                have ra7 := ra.mono (Le.of ss)
                exact ⟨acc, key, ek, (R8.at L hi).1, by rw [ra.length]; exact lt24_ok zl, G7, putK acc key v6, e2, s2.trans ss, R8.relock L hi, setK dacc key y, ra7.put key rp7, h6⟩
              · rw [if_neg zl] at h6; exact h6.elim
  · rw [if_neg hn] at h1; exact h1.elim
theorem de_dc {kx vx tg iter : Expr} {ifs : List Expr} {scope : Scope} {own : List (Str × Nat)} {pos : Pos} {it : Env → Out (List D × Env)} {js : List Nat} {g : RV → Env → Out Env} {t : Env → Out (Bool × Env)} {fk fv : Env → Out (RV × Env)}
    (hc : X.calm = true) (hN : X.N.Nodup) (hi : DI X c Wx tg iter it) (ok : BlkOk X.N X.env.scope scope own) (hg : Blks X scope fun Y => DG Y c wxN tg js g) (ht : Blks X scope fun Y => DIfs Y c ifs t) (hk : Blks X scope fun Y => DE Y c wxN kx fk) (hv : Blks X scope fun Y => DE Y c wxN vx fv)
    (hj : ∀ j ∈ js, j ∈ own.map (·.2)) (hs : ∀ x : Value, foldedSetIterable iter X.env x = pure x := by intro x; rfl) : DE X c Wx (.DictComp kx vx [⟨tg, iter, ifs, 0⟩] scope pos) (dDc (own.map (·.2)) it g t fk fv) := by
  obtain ⟨wi, pi, ki⟩ := hi.run
  exact ⟨_, pe_dc hc hN pi ok (fun s H C cl fp => (hg s H C cl fp).can (W := wd X c) rfl) (fun s H C cl fp => (ht s H C cl fp).can (W := wd X c) rfl) (fun s H C cl fp => (hk s H C cl fp).can (W := wd X c) rfl) (fun s H C cl fp => (hv s H C cl fp).can (W := wd X c) rfl) hs, fun F G env σ H Q R h => dc_walk hj R ki h⟩
end
/-! ### run by hand -/
theorem lc2L_ok {vs vs1 : List Nat} {g g1 : RV → Env → Out Env} {t t1 : Env → Out (Bool × Env)} {it1 : Env → Out (List D × Env)} {f : Env → Out (RV × Env)} {env1 : Env} (hv : ∀ i ∈ vs1, i ∈ vs) (p : D → Bool) (ds1 : D → List D) (p1 : D → D → Bool) (h : D → D → D) (M : Nat) : ∀ (ds acc : List D) (e : Env), wipeE e vs = wipeE env1 vs → acc.length + ds.length * M < 16777216 →
    (∀ d ∈ ds, (ds1 d).length ≤ M ∧ ∃ e1, (g (.fz d) (wipeE env1 vs)).bind t = .ok (p d, e1) ∧ wipeE e1 vs = wipeE env1 vs ∧ (p d = true → ∃ e2, it1 e1 = .ok (ds1 d, e2) ∧ wipeE e2 vs = wipeE env1 vs ∧ ∀ x ∈ ds1 d, ∃ e3, (g1 (.fz x) (wipeE e2 vs1)).bind t1 = .ok (p1 d x, e3) ∧ wipeE e3 vs1 = wipeE e2 vs1 ∧ (p1 d x = true → ∃ r e4 e5, f e3 = .ok (r, e4) ∧ freezeR e4 r = some (h d x, e5) ∧ wipeE e5 vs1 = wipeE e2 vs1))) →
    ∃ e', lc2L vs g t it1 vs1 g1 t1 f ds acc e = .ok (acc ++ (ds.filter p).flatMap (fun d => ((ds1 d).filter (p1 d)).map (h d)), e') ∧ wipeE e' vs = wipeE env1 vs
  | [], acc, e, he, _, _ => ⟨e, by show Out.ok (acc, e) = _; simp, he⟩
  | d :: ds, acc, e, he, hl, hd => by
    obtain ⟨hM, e1, h1, h2, h3⟩ := hd d List.mem_cons_self
    rw [List.length_cons, Nat.succ_mul] at hl
    have u : lc2L vs g t it1 vs1 g1 t1 f (d :: ds) acc e = (lcTurn vs g t d e).bind fun p => if p.1 = true then (it1 p.2).bind fun q => (lcL vs1 g1 t1 f q.1 acc q.2).bind fun r => lc2L vs g t it1 vs1 g1 t1 f ds r.1 r.2
      else lc2L vs g t it1 vs1 g1 t1 f ds acc p.2 := rfl
    have v : lcTurn vs g t d e = .ok (p d, e1) := by unfold lcTurn; rw [he]; exact h1
    rw [u, v, x_bind_ok]
    by_cases z : p d = true
    · obtain ⟨e2, f1, f2, f3⟩ := h3 z
      obtain ⟨e6, k1, k2⟩ := lcL_ok (p1 d) (h d) (ds1 d) acc e2 rfl (by omega) f3
      have k3 : wipeE e6 vs = wipeE env1 vs := by rw [← wipeE_wipeE hv, k2, wipeE_wipeE hv, f2]
      have hlen : (acc ++ ((ds1 d).filter (p1 d)).map (h d)).length + ds.length * M < 16777216 := by
        have := List.length_filter_le (p1 d) (ds1 d)
        rw [List.length_append, List.length_map]; omega
      obtain ⟨e', k4, k5⟩ := lc2L_ok hv p ds1 p1 h M ds _ e6 k3 hlen fun d' hm => hd d' (List.mem_cons_of_mem _ hm)
      refine ⟨e', ?_, k5⟩
      dsimp only
      rw [if_pos z, f1, x_bind_ok]
      dsimp only
      rw [k1, x_bind_ok]
      dsimp only
      rw [k4, List.filter_cons_of_pos z, List.flatMap_cons, List.append_assoc]
    · obtain ⟨e', k1, k2⟩ := lc2L_ok hv p ds1 p1 h M ds acc e1 h2 (by omega) fun d' hm => hd d' (List.mem_cons_of_mem _ hm)
      refine ⟨e', ?_, k2⟩
      dsimp only
      rw [if_neg z, k1, List.filter_cons_of_neg z]
theorem dLc2_ok {vs vs1 : List Nat} {it it1 : Env → Out (List D × Env)} {g g1 : RV → Env → Out Env} {t t1 : Env → Out (Bool × Env)} {f : Env → Out (RV × Env)} {env env1 : Env} {ds : List D} (hv : ∀ i ∈ vs1, i ∈ vs) (p : D → Bool) (ds1 : D → List D) (p1 : D → D → Bool) (h : D → D → D) (M : Nat) (hi : it env = .ok (ds, env1)) (hn : allNotIo vs env1 = true) (hl : ds.length * M < 16777216)
    (hd : ∀ d ∈ ds, (ds1 d).length ≤ M ∧ ∃ e1, (g (.fz d) (wipeE env1 vs)).bind t = .ok (p d, e1) ∧ wipeE e1 vs = wipeE env1 vs ∧ (p d = true → ∃ e2, it1 e1 = .ok (ds1 d, e2) ∧ wipeE e2 vs = wipeE env1 vs ∧ ∀ x ∈ ds1 d, ∃ e3, (g1 (.fz x) (wipeE e2 vs1)).bind t1 = .ok (p1 d x, e3) ∧ wipeE e3 vs1 = wipeE e2 vs1 ∧ (p1 d x = true → ∃ r e4 e5, f e3 = .ok (r, e4) ∧ freezeR e4 r = some (h d x, e5) ∧ wipeE e5 vs1 = wipeE e2 vs1))) :
    dLc2 vs it g t it1 vs1 g1 t1 f env = .ok (.fr (.lst ((ds.filter p).flatMap fun d => ((ds1 d).filter (p1 d)).map (h d))), restE env1 env1 vs) := by
  obtain ⟨e', k1, k2⟩ := lc2L_ok hv p ds1 p1 h M ds [] env1 rfl (by simpa using hl) hd
  unfold dLc2
  rw [hi, x_bind_ok, if_pos hn]
  dsimp only
  rw [k1, x_noEx_ok, x_bind_ok]
  dsimp only
  rw [restE_of k2, List.nil_append]
theorem setK_new {kvs : List (Key × D)} {k : Key} {v : D} (h : ∀ q ∈ kvs, q.1 ≠ k) : setK kvs k v = kvs ++ [(k, v)] := by
  unfold setK
  have : (kvs.any fun kv => decide (kv.1 = k)) = false := by
    rw [List.any_eq_false]
    intro q hq
    simpa using h q hq
  rw [this]; simp
theorem dcL_ok {vs : List Nat} {g : RV → Env → Out Env} {fk fv : Env → Out (RV × Env)} {env1 : Env} (kf : D → Int) (vf : D → D) : ∀ (ds : List D) (acc : List (Key × D)) (e : Env), wipeE e vs = wipeE env1 vs → acc.length + ds.length < 16777216 → (ds.map kf).Nodup → (∀ q ∈ acc, ∀ d ∈ ds, q.1 ≠ .inl (kf d)) →
    (∀ d ∈ ds, ∃ e1, (g (.fz d) (wipeE env1 vs)).bind tNoIf = .ok (true, e1) ∧ ∃ r1 e2 r2 e3 e4, fk e1 = .ok (r1, e2) ∧ fv e2 = .ok (r2, e3) ∧ resolve e3 r1 = some (.int (kf d)) ∧ freezeR e3 r2 = some (vf d, e4) ∧ wipeE e4 vs = wipeE env1 vs) →
    ∃ e', dcL vs g tNoIf fk fv ds acc e = .ok (acc ++ ds.map (fun d => ((.inl (kf d) : Key), vf d)), e') ∧ wipeE e' vs = wipeE env1 vs
  | [], acc, e, he, _, _, _, _ => ⟨e, by show Out.ok (acc, e) = _; simp, he⟩
  | d :: ds, acc, e, he, hl, nd, hq, hd => by
    obtain ⟨e1, h1, r1, e2, r2, e3, e4, h2, h3, h4, h5, h6⟩ := hd d List.mem_cons_self
    have hl' : acc.length + ds.length + 1 < 16777216 := by simpa [Nat.add_assoc] using hl
    rw [List.map_cons, List.nodup_cons] at nd
    have u : dcL vs g tNoIf fk fv (d :: ds) acc e = (lcTurn vs g tNoIf d e).bind fun p => if p.1 = true then (fk p.2).bind fun a => (fv a.2).bind fun b => match (resolve b.2 a.1).bind dKey, freezeR b.2 b.1 with
        | some k, some (y, e2) => if lt24 acc.length = true then dcL vs g tNoIf fk fv ds (setK acc k y) e2 else .st
        | _, _ => .st
      else dcL vs g tNoIf fk fv ds acc p.2 := rfl
    have v : lcTurn vs g tNoIf d e = .ok (true, e1) := by unfold lcTurn; rw [he]; exact h1
    have ks : setK acc (.inl (kf d)) (vf d) = acc ++ [(.inl (kf d), vf d)] := setK_new fun q hm => hq q hm d List.mem_cons_self
    obtain ⟨e', k1, k2⟩ := dcL_ok kf vf ds (acc ++ [(.inl (kf d), vf d)]) e4 h6 (by rw [List.length_append, List.length_singleton]; omega) nd.2 (fun q hm d' hd' => by
      rcases List.mem_append.mp hm with hm | hm
      · exact hq q hm d' (List.mem_cons_of_mem _ hd')
      · rw [List.mem_singleton.mp hm]
        intro z
        have z' : kf d = kf d' := Sum.inl.inj z
        exact nd.1 (z' ▸ List.mem_map_of_mem hd')) fun d' hm => hd d' (List.mem_cons_of_mem _ hm)
    refine ⟨e', ?_, k2⟩
    rw [u, v, x_bind_ok]
    dsimp only
    rw [if_pos rfl, h2, x_bind_ok]
    dsimp only
    rw [h3, x_bind_ok]
    dsimp only
    rw [h4, h5]
    show (if lt24 acc.length = true then dcL vs g tNoIf fk fv ds (setK acc (.inl (kf d)) (vf d)) e4 else .st) = _
    rw [if_pos (lt24_of (by omega)), ks, k1, List.map_cons, List.append_assoc]; rfl
theorem dDc_ok {vs : List Nat} {it : Env → Out (List D × Env)} {g : RV → Env → Out Env} {fk fv : Env → Out (RV × Env)} {env env1 : Env} {ds : List D} (kf : D → Int) (vf : D → D) (hi : it env = .ok (ds, env1)) (hn : allNotIo vs env1 = true) (hl : ds.length < 16777216) (nd : (ds.map kf).Nodup)
    (hd : ∀ d ∈ ds, ∃ e1, (g (.fz d) (wipeE env1 vs)).bind tNoIf = .ok (true, e1) ∧ ∃ r1 e2 r2 e3 e4, fk e1 = .ok (r1, e2) ∧ fv e2 = .ok (r2, e3) ∧ resolve e3 r1 = some (.int (kf d)) ∧ freezeR e3 r2 = some (vf d, e4) ∧ wipeE e4 vs = wipeE env1 vs) :
    dDc vs it g tNoIf fk fv env = .ok (.fr (.dct (ds.map fun d => ((.inl (kf d) : Key), vf d))), restE env1 env1 vs) := by
  obtain ⟨e', k1, k2⟩ := dcL_ok (g := g) (fk := fk) (fv := fv) (vs := vs) (env1 := env1) kf vf ds [] env1 rfl (by simpa using hl) nd (by simp) hd
  unfold dDc
  rw [hi, x_bind_ok, if_pos hn]
  dsimp only
  rw [k1, x_noEx_ok, x_bind_ok]
  dsimp only
  rw [restE_of k2, List.nil_append]
end VS
namespace VS
open PySem PySem.Spec PyProof.Rows L2
section
variable {X : Cx} {c : Nat → Value} {Wx : WX}
/-! ### d.get(k) -/
theorem q_get1 {o e : Expr} {apos cpos : Pos} {f h : Env → Out (RV × Env)} (hu : X.A.units + 65 < cLine) (ha : DE X c Wx o f) (hb : DE X c Wx e h) (h1 : attributeBase o "get" X.env (eval o X.env) = eval o X.env := by rfl)
    (h2 : ((backTo cpos (starEach [e] X.env)).all (fun x => !x.1) && (backToKw cpos (keywordEach [] X.env)).all (fun x => x.1.isSome) && decide (([e] : List Expr).length + ([] : List Keyword).length + (if ([] : List Keyword).isEmpty then 0 else 1) < 30)) = true := by rfl)
    (h3 : (apos.endLine == cpos.line) = true := by rfl) (h4 : backTo cpos (starEach [e] X.env) = [(false, eval e X.env)] := by rfl) : DE X c Wx (.Call (.Attribute o "get" apos) [e] [] cpos) (dGet1 f h) :=
  de_get1 (by omega) ha hb ⟨h1, h2, h3, h4⟩
end
section
variable {env : Env} {f g h : Env → Out (RV × Env)}
@[simp] theorem x_get1 : dGet1 f g env = (f env).bind fun p => (chk isDct p.1 p.2).bind fun e => (g e).bind fun q => fin2 (getOp .non) p.1 q.1 q.2 := (rfl)
@[simp] theorem y_getOp {z : D} {kvs : List (Key × D)} {k : Int} : getOp z (.dct kvs) (.int k) = some ((getK kvs (.inl k)).getD z, false) := (rfl)
@[simp] theorem y_isDct {kvs : List (Key × D)} : isDct (.dct kvs) = true := (rfl)
end
theorem getK_cons {k j : Key} {v : D} {kvs : List (Key × D)} : getK ((j, v) :: kvs) k = if j = k then some v else getK kvs k := by
  unfold getK
  by_cases e : j = k <;> simp [List.find?_cons, e]
theorem getK_app (k : Key) : ∀ {a b : List (Key × D)}, getK (a ++ b) k = (getK a k).or (getK b k)
  | [], b => rfl
  | (j, v) :: a, b => by
    rw [List.cons_append, getK_cons, getK_cons, getK_app k (a := a)]
    by_cases e : j = k <;> simp [e]
theorem getK_none {k : Key} : ∀ {kvs : List (Key × D)}, getK kvs k = none → ∀ q ∈ kvs, q.1 ≠ k
  | (j, v) :: kvs, h, q, hq => by
    rw [getK_cons] at h
    by_cases e : j = k
    · rw [if_pos e] at h; cases h
    · rw [if_neg e] at h
      rcases List.mem_cons.mp hq with rfl | hq
      · exact e
      · exact getK_none h q hq
end VS
namespace VS
open PySem PySem.Spec PyProof.Rows L2
/-! ### sorted(d.items()), the keys ints -/
/-- a pair: an int, anything -/
def IsIP (h : Heap) (v : Value) (x : Int) (y : Value) : Prop := ∃ a o t n, v = .ref a ∧ h.get? a = some o ∧ o.cls = .type "tuple" ∧ o.data = .seq #[.int x t, y] n
theorem IsIP.keeps {h h' : Heap} {v : Value} {x : Int} {y : Value} (p : IsIP h v x y) (k : ∀ b o, h.get? b = some o → o.cls = .type "tuple" → h'.get? b = some o) : IsIP h' v x y := by
  obtain ⟨a, o, t, n, e, ho, hc, hd⟩ := p
  exact ⟨a, o, t, n, e, k _ _ ho hc, hc, hd⟩
section
variable {prog : Program} {w : World} {A : Around} {s : Shared}
theorem ip_cmp {vs : List Value} {k : Value → Int} {f : Value → Value} (hp : ∀ v ∈ vs, IsIP s.heap v (k v) (f v)) (inj : ∀ v ∈ vs, ∀ u ∈ vs, k v = k u → v = u) : SrtO.Cmp prog w A s (tuples' true) (fun p => p.1 ∈ vs) (SrtO.lt2 fun v u => decide (k v < k u)) := by
  intro p q hm hm'
  have h1 := hp _ hm
  have h2 := hp _ hm'
  have hi := inj _ hm _ hm'
  show wpAny (model prog w) A (keyLt' (tuples' true) p.1 q.1) (fun r s' => s' = s ∧ r = decide (k p.1 < k q.1)) (fun _ _ => False) s
  obtain ⟨a, o, t, n, e, ho, hc, hd⟩ := h1
  obtain ⟨a', o', t', n', e', ho', hc', hd'⟩ := h2
  have ef : k p.1 = k q.1 → f p.1 = f q.1 := fun z => by rw [hi z]
  generalize k p.1 = x at *
  generalize k q.1 = x' at *
  generalize f p.1 = y at *
  generalize f q.1 = y' at *
  rw [e, e']
  refine PySem.W.kat_lt ho hd ho' hd' ?_
  show PySem.W.KatLex prog w A true (decide (2 < 2)) _ [(.int x t, .int x' t'), (y, y')] 0 s
  refine PySem.W.kat_cons (SeqAt.EqAt.int_int x t x' t' prog w _ _ ?_)
  refine PySem.W.kat_go (fun e1 => ?_) (fun e1 => ?_)
  · have ex : x = x' := by simpa using e1
    rw [ef ex]
    refine PySem.W.kat_yes (PySem.W.kat_cons (SeqAt.EqAt.same y' prog w _ _ ?_))
    refine PySem.W.kat_go (fun e2 => ?_) (fun e2 => ?_)
    · have e3 : decide (x < x') = false := by rw [ex]; exact decide_eq_false (Int.lt_irrefl _)
      exact PySem.W.kat_yes (PySem.W.kat_nil ⟨rfl, e3.symm⟩)
    · cases e2
  · exact PySem.W.kat_no (oneLt_int ⟨rfl, rfl⟩)
theorem ip_firsts {h : Heap} : ∀ {vs : List Value}, (∀ v ∈ vs, ∃ x y, IsIP h v x y) → ∃ fs : List Value, PySem.W.KatTups h vs fs ∧ fs.length = vs.length ∧ ∀ f ∈ fs, ∃ x t, f = Value.int x t
  | [], _ => ⟨[], PySem.W.KatTups.nil, rfl, fun _ hm => by simp at hm⟩
  | v :: vs, hp => by
    obtain ⟨fs, h1, h2, h3⟩ := ip_firsts (vs := vs) fun v' hm => hp v' (List.mem_cons_of_mem _ hm)
    obtain ⟨x, y, a, o, t, n, e, ho, hc, hd⟩ := hp v (List.mem_cons_self ..)
    subst e
    refine ⟨.int x t :: fs, PySem.W.KatTups.cons ho hc hd rfl h1, by rw [List.length_cons, List.length_cons, h2], fun f hm => ?_⟩
    rcases List.mem_cons.mp hm with rfl | hm
    · exact ⟨x, t, rfl⟩
    · exact h3 f hm
theorem ip_sortable {a : Addr} {vs : List Value} {k : Value → Int} {f : Value → Value} (h0 : 0 < vs.length) (hp : ∀ v ∈ vs, IsIP s.heap v (k v) (f v)) (inj : ∀ v ∈ vs, ∀ u ∈ vs, k v = k u → v = u) (ha : ∀ o, s.heap.get? a = some o → o.cls ≠ .type "tuple") : SrtO.SortableO prog w A s a vs fun v u => decide (k v < k u) := by
  intro h' keep
  have hp' : ∀ v ∈ vs, IsIP h' v (k v) (f v) := fun v hm => (hp v hm).keeps fun b o e c => keep b o (fun z => by subst z; exact ha o e c) e
  obtain ⟨fs, h1, h2, h3⟩ := ip_firsts fun v hm => ⟨_, _, hp' v hm⟩
  refine ⟨tuples' true, fun Q E hq => ?_, ip_cmp hp' inj⟩
  refine PySem.W.kat_kind (T := .type "int") h1 (by omega) (fun f hm => ?_) (by rfl) ?_
  · obtain ⟨x, t, rfl⟩ := h3 f hm
    exact PySem.W.Looks.now
  · have e : (Value.type "int" != Value.type "tuple") = true := by first | decide +kernel | rfl | decide
    rw [e]
    exact hq
theorem swo_key (k : Value → Int) : SrtO.Swo fun v u => decide (k v < k u) := by
  refine ⟨fun x y h => ?_, fun x y z h1 h2 => ?_⟩
  · have a := of_decide_eq_true h
    exact decide_eq_false (by omega)
  · have a := of_decide_eq_false h1
    have b := of_decide_eq_false h2
    exact decide_eq_false (by omega)
end
/-- the int, the thing of a pair -/
def ipK (h : Heap) (v : Value) : Int := match DT.seqAt0 h (DT.refOf (some v)) with
  | some (.int i _) => i
  | _ => 0
def entI {α : Type} (e : Int × α) : Key × α := (Sum.inl e.1, e.2)
theorem ents {P : Program} {w : World} : ∀ {kvs : List (Int × V)} {xs : List (Key × Value)} {es : List DictEntry}, KV (kvs.map entI) xs → Pairs (mixKind P w) es xs → Paired (fun (en : DictEntry) (e : Int × V) => ∃ t, en.key = .int e.1 t ∧ RelV e.2 en.val) es kvs
  | [], _, _, .nil, p => by cases p; exact .nil
  | (i, v) :: kvs, _, _, .cons (b := x) h t, p => by
    cases p with
    | cons h1 h2 r =>
      refine .cons ?_ (ents t r)
      have e1 : (Sum.inl i : Key) = x.1 := h.1
      rcases keyIs_shape (show keyIs x.1 _ = true from h1) with ⟨j, t, e2, e3⟩ | ⟨y, t, e2, e3⟩
      · rw [← e1] at e2
        cases e2
        exact ⟨t, e3, by rw [h2]; exact h.2⟩
      · rw [← e1] at e2; cases e2
theorem KV.fst : ∀ {kvs : List (Int × V)} {xs : List (Key × Value)}, KV (kvs.map entI) xs → xs.map (·.1) = kvs.map fun e => (Sum.inl e.1 : Key)
  | [], _, .nil => rfl
  | (i, v) :: kvs, _, .cons (b := x) h t => by
    rw [List.map_cons, List.map_cons, KV.fst t]
    rw [← h.1]; rfl
section
variable {X : Cx}
def tItems (td : TE) : TE := fun σ H Q => td σ H fun x H1 => ∃ a kvs, x = .ref a ∧ Rd H1 a (.dK kvs) ∧ ∀ p, H1 p = none → Q (.ref p) (upd H1 p (DX.itemsO p a))
theorem pe_items {o : Expr} {apos cpos : Pos} {td : TE} (ho : PE X o td) (hbase : attributeBase o "items" X.env (eval o X.env) = eval o X.env) (hline : (apos.endLine == cpos.line) = true) : PE X (.Call (.Attribute o "items" apos) [] [] cpos) (tItems td) := by
  refine ⟨fun pins s σ H Q I h => ?_⟩
  refine wpAny_Call_method0_late hbase hline (thn (ho.run pins s σ H _ I h) fun v s1 ⟨x, H1, I1, r1, a, kvs, ex, hd, q1⟩ => ?_)
  subst ex
  obtain rfl : v = Value.ref a := r1
  obtain ⟨h1, h2, h3⟩ := isD_at I1 (.inl ⟨kvs, hd⟩)
  refine ⟨"dict", "dict.items", PySem.F.plainAttrs_dict, PySem.F.slot_dict_items, PySem.F.type_dict_items, h1, h2, Calls.callWith_builtin rfl (PySem.evalArgs_none ?_)⟩
  obtain ⟨z, hds, xs, rel, o', es, ep, ho', hx, hdat, _⟩ := dk_rd I1.hok hd
  refine DT.callItems (es := es) (ep := ep) hds ⟨o', ho', hx, hdat⟩ ?_
  have hf : H1 s1.heap.objs.size = none := I1.hok.fresh (Nat.le_refl _)
  exact ⟨.ref s1.heap.objs.size, upd H1 s1.heap.objs.size (DX.itemsO s1.heap.objs.size a), I1.laid (t' := s1.toks) (fun b u e => Heap.get?_push_of_some _ e) (Nat.le_refl _) (DX.itemsO_ok (Heap.get?_push_size _ rfl)), rfl, q1 _ hf⟩
def rSortIK : List V → Hp → VK → Prop := fun vs H Q => ∃ (p a : Addr) (kvs : List (Int × V)), vs = [.ref p] ∧ H p = some (DX.itemsO p a) ∧ Rd H a (.dK (kvs.map entI)) ∧
  ∀ (H' : Hp) (l : Addr) (ps : List (Addr × Int × V)), (∀ b o, H b = some o → H' b = some o) → (ps.map (·.2)).Perm kvs → (ps.map (·.2)).Pairwise (fun e f => e.1 ≤ f.1) → H l = none → H' l = some (.lst (ps.map fun z => V.ref z.1)) → (∀ z ∈ ps, H z.1 = none ∧ H' z.1 = some (.tup [.int z.2.1, z.2.2])) → Q (.ref l) H'
theorem cr_sortIK (hc : X.calm = true) : CallR X (.builtin "sorted") rSortIK := by
  intro pins s σ H xs us Q I r h
  obtain ⟨p, a, kvs, rfl, hp, ha, q⟩ := h
  obtain rfl := Vals.ref1 r
  have view : s.heap.IsItemsView p a := (show ObjOk X.prog X.w H s.heap p (DX.itemsO p a) from I.hok p _ hp).1
  obtain ⟨z, hd, xs', rel, o, es, ep, ho, hx, hdat, hkeys, hprs, hn⟩ := dk_rd I.hok ha
  have pr0 := ents rel hprs
  have l1 : es.size = kvs.length := by
    have := Paired.length pr0
    rw [← this]; simp
  have hz : kvs.length ≤ sizeLine := by rw [List.length_map] at z; exact z
  have hh : X.A.handled = none := I.ok.hd hc
  refine DT.sortedI (es := es) (ep := ep) hh view ⟨o, ho, hx, hdat⟩ (by omega) fun h' tk as hk hlt hl hG => ?_
  have lak : as.length = kvs.length := by omega
  have nd : as.Nodup := List.Pairwise.imp (fun h => Nat.ne_of_lt h) hG.rise
  -- the pairs that were made
  have pr : ∀ (j : Nat) (b : Addr), as[j]? = some b → ∃ (e : Int × V) (t : Tok) (y : Value), kvs[j]? = some e ∧ RelV e.2 y ∧ h'.get? b = some { cls := .type "tuple", data := .seq #[Value.int e.1 t, y] } := by
    intro j b hj
    obtain ⟨en, he, hg⟩ := hG.pairs j b hj
    have hjl : j < kvs.length := by rw [← lak]; exact (List.getElem?_eq_some_iff.mp hj).1
    obtain ⟨en', e1, t, e2, e3⟩ := DX.pget pr0 (List.getElem?_eq_getElem hjl)
    have : en' = en := by
      have e1' : es[j]? = some en' := by simpa using e1
      rw [he] at e1'; exact (Option.some.inj e1').symm
    subst this
    exact ⟨_, t, en'.val, List.getElem?_eq_getElem hjl, e3, by rw [hg, e2]⟩
  -- the heap of the sort
  have hob : (h'.push { cls := .type "list", data := .seq (as.map Value.ref).toArray }).get? h'.objs.size = some (seqObj "list" (as.map Value.ref).toArray 0) := Heap.get?_push_size _ rfl
  have kb : ∀ b o, s.heap.get? b = some o → (h'.push { cls := .type "list", data := .seq (as.map Value.ref).toArray }).get? b = some o := fun b o e => Heap.get?_push_of_some _ (hk b o e)
  have ne0 : ∀ b o, h'.get? b = some o → b ≠ h'.objs.size := fun b o e => Nat.ne_of_lt (Heap.lt_size e)
  generalize hh2 : h'.push { cls := .type "list", data := .seq (as.map Value.ref).toArray } = h2 at hob kb ⊢
  have ka : ∀ b o, h'.get? b = some o → h2.get? b = some o := fun b o e => by rw [← hh2]; exact Heap.get?_push_of_some _ e
  have pin : ∀ (j : Nat) (b : Addr), as[j]? = some b → ∃ (e : Int × V) (y : Value), kvs[j]? = some e ∧ IsIP h2 (.ref b) e.1 y ∧ ipK h2 (.ref b) = e.1 := by
    intro j b hj
    obtain ⟨e, t, y, he, _, hg⟩ := pr j b hj
    refine ⟨e, y, he, ⟨b, _, t, 0, rfl, ka _ _ hg, rfl, rfl⟩, ?_⟩
    unfold ipK
    show (match DT.seqAt0 h2 b with
      | some (.int i _) => i
      | _ => 0) = e.1
    rw [DT.seqAt0_of (items := #[Value.int e.1 t, y]) ⟨_, ka _ _ hg, rfl, 0, rfl⟩]
    rfl
  have at_ : ∀ v ∈ as.map Value.ref, ∃ (j : Nat) (b : Addr) (e : Int × V) (y : Value), v = .ref b ∧ as[j]? = some b ∧ kvs[j]? = some e ∧ IsIP h2 v (ipK h2 v) y ∧ ipK h2 v = e.1 := by
    intro v hv'
    obtain ⟨b, hb, rfl⟩ := List.mem_map.mp hv'
    obtain ⟨j, hj⟩ := List.mem_iff_getElem?.mp hb
    obtain ⟨e, y, he, hi, hk'⟩ := pin j b hj
    exact ⟨j, b, e, y, rfl, hj, he, by rw [hk']; exact hi, hk'⟩
  have nk : (kvs.map (·.1)).Nodup := by
    have h1 : (xs'.map (·.1)).Nodup := hn
    rw [KV.fst rel] at h1
    have : (kvs.map fun e => (Sum.inl e.1 : Key)) = (kvs.map (·.1)).map Sum.inl := by rw [List.map_map]; rfl
    rw [this] at h1
    exact List.Pairwise.imp (fun h e => h (by rw [e])) (List.pairwise_map.mp h1)
  have inj : ∀ v ∈ as.map Value.ref, ∀ u ∈ as.map Value.ref, ipK h2 v = ipK h2 u → v = u := by
    intro v hv u hu e
    obtain ⟨j, b, e1, y1, rfl, j1, j2, _, j3⟩ := at_ v hv
    obtain ⟨i, b', e2, y2, rfl, i1, i2, _, i3⟩ := at_ u hu
    rw [j3, i3] at e
    have m1 : (kvs.map (·.1))[j]? = some e1.1 := by rw [List.getElem?_map, j2]; rfl
    have m2 : (kvs.map (·.1))[i]? = some e2.1 := by rw [List.getElem?_map, i2]; rfl
    have : j = i := (List.getElem?_inj (List.getElem?_eq_some_iff.mp m1).1 nk).mp (m1.trans (by rw [m2, e]))
    subst this
    rw [j1] at i1; cases i1; rfl
  have hp' : ∃ f : Value → Value, ∀ v ∈ as.map Value.ref, IsIP h2 v (ipK h2 v) (f v) := by
    have hex : ∀ v, ∃ y, v ∈ as.map Value.ref → IsIP h2 v (ipK h2 v) y := fun v => by
      by_cases hv : v ∈ as.map Value.ref
      · obtain ⟨j, b, e, y, _, _, _, hi, _⟩ := at_ v hv
        exact ⟨y, fun _ => hi⟩
      · exact ⟨.none, fun h => absurd h hv⟩
    exact ⟨fun v => (hex v).choose, fun v hv => (hex v).choose_spec hv⟩
  obtain ⟨f, hf⟩ := hp'
  refine wpAny_call_entry PyProof.Rows.slot_list_sort ⟨_, hob, rfl⟩ PyProof.Rows.entry_list_sort
    (SrtO.list_sort_ord (s := { s with heap := h2, toks := tk }) (swo_key (ipK h2)) hob (by rw [List.length_map]; omega) (fun h2' => ip_sortable (s := { s with heap := h2, toks := tk }) (by omega) hf inj fun o e => ?_) fun out o1 o2 => ⟨.none, rfl, ?_⟩) (PyProof.Rows.args_list_sort _)
  · have e' : some o = some (seqObj "list" (as.map Value.ref).toArray 0) := e.symm.trans hob
    cases e'
    intro c
    exact absurd (Value.type.inj c) (by decide)
  · show EP X pins σ Q (.ref h'.objs.size) { s with heap := sortedHeap h2 h'.objs.size (as.map Value.ref) out.toArray, toks := tk }
    have ez0 : (as.zip kvs).map (fun z => Value.ref z.1) = as.map Value.ref := by
      have : (as.zip kvs).map (fun z => Value.ref z.1) = ((as.zip kvs).map (·.1)).map Value.ref := by rw [List.map_map]; rfl
      rw [this, List.map_fst_zip (by omega)]
    obtain ⟨zs, pz, ez⟩ := perm_lift (fun z : Addr × Int × V => Value.ref z.1) o2.perm (as.zip kvs) ez0
    have idx : ∀ z ∈ zs, ∃ j : Nat, as[j]? = some z.1 ∧ kvs[j]? = some z.2 := by
      intro z' hz'
      obtain ⟨j, hj⟩ := List.mem_iff_getElem?.mp (pz.mem_iff.mp hz')
      exact ⟨j, List.getElem?_zip_eq_some.mp hj⟩
    have hperm : (zs.map (·.2)).Perm kvs := by
      have e := pz.map (·.2)
      have m2 : (as.zip kvs).map (·.2) = kvs := List.map_snd_zip (by omega)
      rw [m2] at e
      exact e
    have hsort : (zs.map (·.2)).Pairwise (fun e f => e.1 ≤ f.1) := by
      have o3 : out.Pairwise fun x y => decide (ipK h2 y < ipK h2 x) = false := o1
      rw [← ez, List.pairwise_map] at o3
      rw [List.pairwise_map]
      refine List.Pairwise.imp_of_mem (fun {x y} hx hy h => ?_) o3
      obtain ⟨j, j1, j2⟩ := idx x hx
      obtain ⟨i, i1, i2⟩ := idx y hy
      obtain ⟨e1, _, j3, _, j4⟩ := pin j x.1 j1
      obtain ⟨e2, _, i3, _, i4⟩ := pin i y.1 i1
      rw [j2] at j3; cases j3
      rw [i2] at i3; cases i3
      rw [j4, i4] at h
      have := of_decide_eq_false h
      omega
    -- behind the sort
    have kF : ∀ b o, b ≠ h'.objs.size → h2.get? b = some o → (sortedHeap h2 h'.objs.size (as.map Value.ref) out.toArray).get? b = some o := fun b o hb e => (PyProof.Rows.sortedHeap_old hb (Heap.lt_size e)).trans e
    have kS : ∀ b o, s.heap.get? b = some o → (sortedHeap h2 h'.objs.size (as.map Value.ref) out.toArray).get? b = some o := fun b o e => kF b o (ne0 _ _ (hk b o e)) (kb b o e)
    obtain ⟨eF, heF⟩ := PyProof.Rows.sortedHeap_at (vs := as.map Value.ref) (out := out.toArray) hob
    have I1 : L2.Inv X pins σ H { s with heap := sortedHeap h2 h'.objs.size (as.map Value.ref) out.toArray, toks := tk } := I.kept (t' := tk) kS
    have hn0 : H h'.objs.size = none := I.hok.fresh (Nat.le_of_lt hlt)
    have hlen : (zs.map fun z => V.ref z.1).length ≤ sizeLine := by
      have e := hperm.length_eq
      rw [List.length_map] at e
      rw [List.length_map]
      omega
    have rv : Vals (zs.map fun z => V.ref z.1) out := by
      rw [← ez]
      exact vals_maps (fun z : Addr × Int × V => V.ref z.1) (fun z => Value.ref z.1) zs fun _ _ => rfl
    have I2 : L2.Inv X pins σ (upd H h'.objs.size (.lst (zs.map fun z => V.ref z.1))) { s with heap := sortedHeap h2 h'.objs.size (as.map Value.ref) out.toArray, toks := tk } :=
      I1.take (h' := sortedHeap h2 h'.objs.size (as.map Value.ref) out.toArray) (t' := tk) (fun b ob _ e => e) (I.fpOk (Nat.le_of_lt hlt) hn0) ⟨hlen, out, eF, rv, heF⟩
    obtain ⟨H2, I3, g, qt⟩ := DX.takeT (P := fun b vs => ∃ (j : Nat) (e : Int × V), as[j]? = some b ∧ kvs[j]? = some e ∧ vs = [.int e.1, e.2]) I as _ I2 nd fun b hb => by
      obtain ⟨j, hj⟩ := List.mem_iff_getElem?.mp hb
      obtain ⟨e, t, y, he, hry, hg⟩ := pr j b hj
      have hbl : s.heap.objs.size ≤ b := Nat.le_of_lt (hG.above b hb)
      refine ⟨hbl, ?_, [.int e.1, e.2], ⟨j, e, hj, he, rfl⟩, fun H3 => ⟨(by rw [sizeLine_eq]; show 2 ≤ 16777216; omega), [Value.int e.1 t, y], .cons ⟨t, rfl⟩ (.cons hry .nil), ⟨_, kF _ _ (ne0 _ _ hg) (ka _ _ hg), rfl, 0, rfl⟩⟩⟩
      rw [upd_ne (ne0 _ _ hg)]
      exact I.hok.fresh hbl
    have gr : ∀ b o, H b = some o → H2 b = some o := fun b o e => g b o (by rw [upd_ne (ne_of_none e hn0)]; exact e)
    refine ⟨.ref h'.objs.size, H2, I3, rfl, q H2 h'.objs.size zs gr hperm hsort hn0 (g _ _ upd_same) fun z' hz' => ?_⟩
    obtain ⟨i, i1, i2⟩ := idx z' hz'
    obtain ⟨vs, ⟨j, e, j1, j2, ev⟩, hH⟩ := qt z'.1 (List.mem_of_getElem? i1)
    have eij : i = j := (List.getElem?_inj (List.getElem?_eq_some_iff.mp i1).1 nd).mp (i1.trans j1.symm)
    subst eij
    have ee : e = z'.2 := Option.some.inj (j2.symm.trans i2)
    rw [ev, ee] at hH
    exact ⟨I.hok.fresh (Nat.le_of_lt (hG.above _ (List.mem_of_getElem? i1))), hH⟩
end
end VS
namespace VS
open PySem PySem.Spec PyProof.Rows L2
section
variable {α : Type}
def insP (x : Int × α) : List (Int × α) → List (Int × α)
  | [] => [x]
  | y :: ys => if x.1 ≤ y.1 then x :: y :: ys else y :: insP x ys
def sortP : List (Int × α) → List (Int × α)
  | [] => []
  | x :: xs => insP x (sortP xs)
theorem insP_perm (x : Int × α) : ∀ ys : List (Int × α), (insP x ys).Perm (x :: ys)
  | [] => .refl _
  | y :: ys => by
    unfold insP
    split
    · exact .refl _
    · exact (List.Perm.cons y (insP_perm x ys)).trans (List.Perm.swap x y ys)
theorem sortP_perm : ∀ xs : List (Int × α), (sortP xs).Perm xs
  | [] => .refl _
  | x :: xs => (insP_perm x _).trans (List.Perm.cons x (sortP_perm xs))
theorem insP_sorted (x : Int × α) : ∀ {ys : List (Int × α)}, ys.Pairwise (fun e f => e.1 ≤ f.1) → (insP x ys).Pairwise (fun e f => e.1 ≤ f.1)
  | [], _ => by simp [insP]
  | y :: ys, h => by
    obtain ⟨h1, h2⟩ := List.pairwise_cons.mp h
    unfold insP
    split
    · rename_i hxy
      refine .cons (fun z hz => ?_) h
      rcases List.mem_cons.mp hz with rfl | hz
      · exact hxy
      · exact Int.le_trans hxy (h1 z hz)
    · rename_i hxy
      refine .cons (fun z hz => ?_) (insP_sorted x h2)
      rcases List.mem_cons.mp ((insP_perm x ys).mem_iff.mp hz) with rfl | hz
      · omega
      · exact h1 z hz
theorem sortP_sorted : ∀ xs : List (Int × α), (sortP xs).Pairwise (fun e f => e.1 ≤ f.1)
  | [] => .nil
  | x :: xs => insP_sorted x (sortP_sorted xs)
theorem sortedP_unique : ∀ {xs ys : List (Int × α)}, (ys.map (·.1)).Nodup → xs.Perm ys → xs.Pairwise (fun e f => e.1 ≤ f.1) → ys.Pairwise (fun e f => e.1 ≤ f.1) → xs = ys
  | [], ys, _, p, _, _ => (List.Perm.nil_eq p)
  | x :: xs, [], _, p, _, _ => by have := p.length_eq; simp at this
  | x :: xs, y :: ys, nd, p, h1, h2 => by
    obtain ⟨a1, a2⟩ := List.pairwise_cons.mp h1
    obtain ⟨b1, b2⟩ := List.pairwise_cons.mp h2
    have nd2 := nd
    rw [List.map_cons, List.nodup_cons] at nd
    have e : x = y := by
      have m1 : x ∈ y :: ys := p.mem_iff.mp List.mem_cons_self
      have m2 : y ∈ x :: xs := p.mem_iff.mpr List.mem_cons_self
      rcases List.mem_cons.mp m1 with e | m1
      · exact e
      · rcases List.mem_cons.mp m2 with e | m2
        · exact e.symm
        · have h3 := a1 y m2
          have h4 := b1 x m1
          have h5 : x.1 = y.1 := by omega
          exact absurd (List.mem_map.mpr ⟨x, m1, h5⟩) nd.1
    subst e
    rw [sortedP_unique nd.2 (List.Perm.cons_inv p) a2 b2]
theorem sortP_of {xs ys : List (Int × α)} (nd : (xs.map (·.1)).Nodup) (p : ys.Perm xs) (h : ys.Pairwise (fun e f => e.1 ≤ f.1)) : ys = sortP xs :=
  sortedP_unique (((sortP_perm xs).map (·.1)).nodup_iff.mpr nd) (p.trans (sortP_perm xs).symm) h (sortP_sorted xs)
theorem sortP_map {β : Type} (f : Int → β) : ∀ ks : List Int, sortP (ks.map fun k => (k, f k)) = (isort ks).map fun k => (k, f k)
  | [] => rfl
  | k :: ks => by
    have ins : ∀ ys : List Int, insP (k, f k) (ys.map fun k => (k, f k)) = (insI k ys).map fun k => (k, f k) := by
      intro ys
      induction ys with
      | nil => rfl
      | cons y ys ih =>
        show (if k ≤ y then _ else _) = _
        unfold insI
        by_cases h : k ≤ y
        · rw [if_pos h, if_pos h]; rfl
        · rw [if_neg h, if_neg h, List.map_cons]
          show _ :: insP (k, f k) (ys.map fun k => (k, f k)) = _
          rw [ih]
    show insP (k, f k) (sortP (ks.map fun k => (k, f k))) = (insI k (isort ks)).map fun k => (k, f k)
    rw [sortP_map f ks, ins]
end
/-- the entries of a dict with int keys -/
def entsI : List (Key × D) → Option (List (Int × D))
  | [] => some []
  | (.inl k, d) :: r => (entsI r).map ((k, d) :: ·)
  | _ :: _ => none
abbrev PR (W : Wd) (G : Hp) : List (Int × V) → List (Int × D) → Prop := Paired fun (p : Int × V) (q : Int × D) => p.1 = q.1 ∧ Rp W G p.2 q.2
theorem entsI_ok {W : Wd} {G : Hp} : ∀ {vs : List (Key × V)} {kds : List (Key × D)} {ks : List (Int × D)}, RpK W G vs kds → entsI kds = some ks → ∃ vi, vs = vi.map entI ∧ PR W G vi ks
  | _, _, ks, .nil, e => by cases e; exact ⟨[], rfl, .nil⟩
  | _, _, ks, .cons (k := k) (v := v) (d := d) (s := s) a r, e => by
    cases k with
    | inl k =>
      obtain ⟨js, e1, e2⟩ := Option.map_eq_some_iff.mp (show (entsI s).map ((k, d) :: ·) = some ks from e)
      subst e2
      obtain ⟨vi, h1, h2⟩ := entsI_ok r e1
      exact ⟨(k, v) :: vi, by rw [h1]; rfl, .cons ⟨rfl, a⟩ h2⟩
    | inr x => cases e
theorem PR.keys {W : Wd} {G : Hp} : ∀ {vi : List (Int × V)} {ks : List (Int × D)}, PR W G vi ks → vi.map (·.1) = ks.map (·.1)
  | _, _, .nil => rfl
  | _, _, .cons h t => by rw [List.map_cons, List.map_cons, h.1, PR.keys t]
theorem PR.ins {W : Wd} {G : Hp} {p : Int × V} {q : Int × D} (h0 : p.1 = q.1 ∧ Rp W G p.2 q.2) : ∀ {vi : List (Int × V)} {ks : List (Int × D)}, PR W G vi ks → PR W G (insP p vi) (insP q ks)
  | _, _, .nil => .cons h0 .nil
  | _, _, .cons (a := x) (b := y) h t => by
    unfold insP
    rw [h0.1, h.1]
    by_cases z : q.1 ≤ y.1
    · rw [if_pos z, if_pos z]; exact .cons h0 (.cons h t)
    · rw [if_neg z, if_neg z]; exact .cons h (PR.ins h0 t)
theorem PR.sort {W : Wd} {G : Hp} : ∀ {vi : List (Int × V)} {ks : List (Int × D)}, PR W G vi ks → PR W G (sortP vi) (sortP ks)
  | _, _, .nil => .nil
  | _, _, .cons h t => PR.ins h (PR.sort t)
def pairD (e : Int × D) : D := .tup [.int e.1, e.2]
def opSortIt : D → Option (D × Bool)
  | .dct kvs => (entsI kvs).bind fun ks => if decide (ks.map (·.1)).Nodup = true then some (.lst ((sortP ks).map pairD), true) else none
  | _ => none
/-- new tuples and a list of them -/
theorem sortIt_rp {W : Wd} {G' : Hp} : ∀ {ps : List (Addr × Int × V)} {ks : List (Int × D)}, PR W G' (ps.map (·.2)) ks → (∀ z ∈ ps, G' z.1 = some (.tup [.int z.2.1, z.2.2])) → RpA W G' (ps.map fun z => V.ref z.1) (ks.map pairD)
  | [], _, .nil, _ => .nil
  | z :: ps, _, .cons (b := y) h t, g => by
    refine .cons ?_ (sortIt_rp t fun u hu => g u (List.mem_cons_of_mem _ hu))
    refine .tup (g z List.mem_cons_self) (.cons ?_ (.cons h.2 .nil))
    rw [h.1]; exact .int _
section
variable {X : Cx} {c : Nat → Value} {Wx : WX}
theorem de_sortIt {x : Str} {p pos : Pos} {o : Expr} {apos cpos : Pos} {f : Env → Out (RV × Env)} (hc : X.calm = true) (hg : Gl X x) (hm : X.mg x = none) (hv : bootBuiltins x = some (.builtin "sorted")) (ha : DE X c Wx o f) (hbase : attributeBase o "items" X.env (eval o X.env) = eval o X.env) (hline : (apos.endLine == cpos.line) = true)
    (hn : x ≠ "__name__") (hd : (x == ("__debug__" : Str)) = false) (he : starEach [.Call (.Attribute o "items" apos) [] [] cpos] X.env = (false, eval (.Call (.Attribute o "items" apos) [] [] cpos) X.env) :: starEach [] X.env) (hp : (backTo pos (starEach [] X.env)).any (·.1) = false) : DE X c Wx (.Call (.Name x p) [.Call (.Attribute o "items" apos) [] [] cpos] [] pos) (dUn opSortIt f) := by
  obtain ⟨ta, pa, ka⟩ := ha.runP
  refine ⟨_, pe_callB (cr_sortIK hc) hg hm hv (pa_cons (pe_items pa hbase hline) pa_nil he) hn hd he hp, fun F G env σ H Q R h => ?_⟩
  refine ka F G env σ H _ _ _ pl_E R h fun ra env1 v G1 H1 R1 s1 p1 h1 => ?_
  obtain ⟨dx, d, fr, vx, eo, k⟩ := fin1_ok R1 s1 p1 h1
  unfold opSortIt at eo
  split at eo
  · rename_i kvs
    obtain ⟨ks, e1, e2⟩ := Option.bind_eq_some_iff.mp eo
    by_cases z : decide (ks.map (·.1)).Nodup = true
    · rw [if_pos z] at e2
      cases e2
      have nd := of_decide_eq_true z
      obtain ⟨a, vs, rfl, hrd, rk⟩ := vx.dct R1.same
      obtain ⟨vi, rfl, pr⟩ := entsI_ok rk e1
      refine ⟨a, _, rfl, hrd, fun q hq => ⟨q, a, vi, rfl, upd_same, Le.Rd (same_new hq) hrd, fun H' l ps gr hperm hsort hl0 hl ht => ?_⟩⟩
      have gr0 : Same H1 H' := fun b o e => gr b o (by rw [upd_ne (ne_of_none e hq)]; exact e)
      have en : ps.map (·.2) = sortP vi := sortP_of (by rw [pr.keys]; exact nd) hperm hsort
      have prs := PR.sort pr
      rw [← en] at prs
      have old : ∀ b, H1 b ≠ none → b ∉ ps.map (·.1) := fun b hb hm => by
        obtain ⟨z, hz, rfl⟩ := List.mem_map.mp hm
        have := (ht z hz).1
        by_cases zq : z.1 = q
        · rw [zq, upd_same] at this; cases this
        · rw [upd_ne zq] at this; exact hb this
      have hln : H1 l = none := by
        by_cases zq : l = q
        · rw [zq]; exact hq
        · rw [upd_ne zq] at hl0; exact hl0
      have hlps : l ∉ ps.map (·.1) := fun hm => by
        obtain ⟨z, hz, e⟩ := List.mem_map.mp hm
        have := (ht z hz).2
        rw [e, hl] at this; cases this
      let G2 : Hp := fun b => if b ∈ ps.map (·.1) then H' b else G1 b
      have g2in : ∀ b ∈ ps.map (·.1), G2 b = H' b := fun b hb => if_pos hb
      have g2out : ∀ b, b ∉ ps.map (·.1) → G2 b = G1 b := fun b hb => if_neg hb
      have s12 : Same G1 G2 := fun b o e => by
        have : b ∉ ps.map (·.1) := old b (by rw [R1.same b o e]; simp)
        rw [g2out b this]; exact e
      refine k _ _ ⟨G2, s12, fun b o e => ?_, gr0, fun b hb => g2out b (old b hb), ?_⟩
      · by_cases hb : b ∈ ps.map (·.1)
        · rw [g2in b hb] at e; exact e
        · rw [g2out b hb] at e; exact gr0 b o (R1.same b o e)
      · rw [if_pos rfl]
        refine ⟨l, rfl, hln, ?_, _, hl, .lst ?_⟩
        · rw [g2out l hlps]; exact R1.same.free hln
        · refine sortIt_rp (Paired.mapP prs fun _ _ z => ⟨z.1, z.2.mono (Le.of s12)⟩) fun z hz => ?_
          rw [g2in z.1 (List.mem_map.mpr ⟨z, hz, rfl⟩)]; exact (ht z hz).2
    · rw [if_neg z] at e2; cases e2
  · cases eo
theorem q_sortIt {x : Str} {p pos : Pos} {o : Expr} {apos cpos : Pos} {f : Env → Out (RV × Env)} (hc : X.calm = true) (hm : X.mg x = none) (ha : DE X c Wx o f) (hg : Gl X x := by first | exact .inl rfl | exact .inr rfl | rfl) (hv : bootBuiltins x = some (.builtin "sorted") := by rfl) (hbase : attributeBase o "items" X.env (eval o X.env) = eval o X.env := by rfl) (hline : (apos.endLine == cpos.line) = true := by rfl)
    (hn : x ≠ "__name__" := by decide) (hd : (x == ("__debug__" : Str)) = false := by decide) (he : starEach [.Call (.Attribute o "items" apos) [] [] cpos] X.env = (false, eval (.Call (.Attribute o "items" apos) [] [] cpos) X.env) :: starEach [] X.env := by rfl) (hp : (backTo pos (starEach [] X.env)).any (·.1) = false := by rfl) : DE X c Wx (.Call (.Name x p) [.Call (.Attribute o "items" apos) [] [] cpos] [] pos) (dUn opSortIt f) :=
  de_sortIt hc hg hm hv ha hbase hline hn hd he hp
end
theorem entsI_mkK (f : Int → D) : ∀ ks : List Int, entsI (mkK f ks) = some (ks.map fun k => (k, f k))
  | [] => rfl
  | k :: ks => by
    show (entsI (mkK f ks)).map ((k, f k) :: ·) = _
    rw [entsI_mkK f ks]; rfl
theorem y_sortIt {f : Int → D} {ks : List Int} (nd : ks.Nodup) : opSortIt (.dct (mkK f ks)) = some (.lst ((isort ks).map fun k => .tup [.int k, f k]), true) := by
  show ((entsI (mkK f ks)).bind fun ks => if decide (ks.map (·.1)).Nodup = true then some (D.lst ((sortP ks).map pairD), true) else none) = _
  have e : ((ks.map fun k => (k, f k)).map (·.1)) = ks := by rw [List.map_map]; exact List.map_id' ks
  rw [entsI_mkK, Option.bind_some, e, if_pos (decide_eq_true nd), sortP_map, List.map_map]
  rfl
end VS
namespace VS
open PySem PySem.Spec PyProof.Rows L2
/-! ### repr of ints, none, bools and lists, tuples of them -/
mutual
def smallD : D → Bool
  | .non => true
  | .bl _ => true
  | .int i => decide (i.natAbs < 10 ^ 40)
  | .str x => (PyData.str x).showable && (Nat.ble (PyData.str x).shown.length 41 && PyData.strOk (PyData.str x).shown)
  | .lst xs => smallA xs
  | .tup xs => smallA xs
  | .tpl xs => smallA xs
  | _ => false
def smallA : List D → Bool
  | [] => true
  | x :: xs => smallD x && smallA xs
end
mutual
def widD : D → Nat
  | .non => 4
  | .bl _ => 5
  | .int _ => 41
  | .str _ => 41
  | .lst xs => widA xs + 3
  | .tup xs => widA xs + 3
  | .tpl xs => widA xs + 3
  | _ => 0
def widA : List D → Nat
  | [] => 0
  | x :: xs => widD x + 2 + widA xs
end
theorem strOk_app {x y : Str} (hx : PyData.strOk x = true) (hy : PyData.strOk y = true) : PyData.strOk (x ++ y) = true := by
  unfold PyData.strOk at *
  show (x.cps ++ y.cps).all _ = true
  rw [Array.all_append, hx, hy]; rfl
theorem strOk_join {sep : Str} (hs : PyData.strOk sep = true) : ∀ ts : List Str, (∀ t ∈ ts, PyData.strOk t = true) → PyData.strOk (Str.join sep ts) = true
  | [], _ => by show PyData.strOk (Str.ofString "") = true; decide +kernel
  | [x], h => h x List.mem_cons_self
  | x :: y :: r, h => by
    show PyData.strOk (x ++ sep ++ Str.join sep (y :: r)) = true
    exact strOk_app (strOk_app (h x List.mem_cons_self) hs) (strOk_join hs (y :: r) fun t ht => h t (List.mem_cons_of_mem _ ht))
theorem strOk_lb : PyData.strOk (Str.ofString "[") = true := by decide +kernel
theorem strOk_rb : PyData.strOk (Str.ofString "]") = true := by decide +kernel
theorem strOk_lp : PyData.strOk (Str.ofString "(") = true := by decide +kernel
theorem strOk_cm : PyData.strOk (Str.ofString ", ") = true := by decide +kernel
theorem strOk_int (i : Int) : PyData.strOk (Str.ofString (toString i)) = true := by
  unfold PyData.strOk
  rw [Array.all_eq_true']
  intro x hx
  rw [Str.ofString_eq_toList] at hx
  have hx' : x ∈ ((toString i).toList.map Char.toNat) := by simpa using hx
  obtain ⟨ch, hc, rfl⟩ := List.mem_map.mp hx'
  have := int_ascii i ch hc
  exact decide_eq_true (by omega)
theorem log_small {i : Int} (h : i.natAbs < 10 ^ 40) : i.natAbs.log2 < 1920 := by
  have h2 : i.natAbs < 2 ^ 140 := Nat.lt_of_lt_of_le h (by decide)
  have := log2_lt h2
  omega
mutual
theorem small_ok : ∀ d : D, smallD d = true → (toPy d).showable = true ∧ (toPy d).shown.length ≤ widD d ∧ PyData.strOk (toPy d).shown = true
  | .non, _ => ⟨rfl, by decide +kernel, by decide +kernel⟩
  | .bl b, _ => by cases b <;> exact ⟨rfl, by decide +kernel, by decide +kernel⟩
  | .int i, h => by
    have hi : i.natAbs < 10 ^ 40 := of_decide_eq_true (by simpa [smallD] using h)
    refine ⟨by simpa [toPy, PyData.showable] using log_small hi, ?_, ?_⟩
    · show (Str.ofString (toString i)).length ≤ 41
      rw [PySem.ofString_length]
      exact int_text_length_le10 (k := 40) (by decide) hi
    · exact strOk_int i
  | .str x, h => by
    have h' : (PyData.str x).showable = true ∧ Nat.ble (PyData.str x).shown.length 41 = true ∧ PyData.strOk (PyData.str x).shown = true := by simpa [smallD, Bool.and_eq_true] using h
    refine ⟨by rw [toPy]; exact h'.1, by rw [toPy]; exact Nat.le_of_ble_eq_true h'.2.1, by rw [toPy]; exact h'.2.2⟩
  | .lst xs, h => by
    obtain ⟨h1, h2, h3⟩ := smallA_ok xs (by simpa [smallD] using h)
    refine ⟨by simpa [toPy, PyData.showable] using h1, ?_, ?_⟩
    · simp only [toPy, PyData.shown, widD]
      have : (listText (PyData.shownAll (toPyA xs))).length ≤ piled (PyData.shownAll (toPyA xs)) + 2 := by
        rw [listText_eq_join, strLen_append, strLen_append]
        have e1 : ((("[" : String) : Str)).length = 1 := rfl
        have e2 : ((("]" : String) : Str)).length = 1 := rfl
        rw [e1, e2]
        by_cases z : PyData.shownAll (toPyA xs) = []
        · have e0 : (Str.join ", " []).length = 0 := by decide +kernel
          rw [z, e0]; omega
        · have := join_length_add _ z; omega
      omega
    · simp only [toPy, PyData.shown]
      rw [listText_eq_join]
      exact strOk_app (strOk_app strOk_lb (strOk_join strOk_cm _ h3)) strOk_rb
  | .tup xs, h => by
    obtain ⟨h1, h2, h3⟩ := smallA_ok xs (by simpa [smallD] using h)
    refine ⟨by simpa [toPy, PyData.showable] using h1, ?_, ?_⟩
    · simp only [toPy, PyData.shown, widD]
      have : (tupleText (PyData.shownAll (toPyA xs))).length ≤ piled (PyData.shownAll (toPyA xs)) + 3 := by
        unfold tupleText
        rw [strLen_append, strLen_append]
        have e1 : ((("(" : String) : Str)).length = 1 := rfl
        have e2 : (((if (PyData.shownAll (toPyA xs)).length == 1 then ",)" else ")" : String) : Str)).length ≤ 2 := by split <;> decide
        rw [e1]
        by_cases z : PyData.shownAll (toPyA xs) = []
        · have e0 : (Str.join ", " []).length = 0 := by decide +kernel
          rw [z] at e2 ⊢
          rw [e0]; omega
        · have := join_length_add _ z; omega
      omega
    · simp only [toPy, PyData.shown]
      unfold tupleText
      exact strOk_app (strOk_app strOk_lp (strOk_join strOk_cm _ h3)) (by split <;> decide +kernel)
  | .tpl xs, h => by
    obtain ⟨h1, h2, h3⟩ := smallA_ok xs (by simpa [smallD] using h)
    refine ⟨by simpa [toPy, PyData.showable] using h1, ?_, ?_⟩
    · simp only [toPy, PyData.shown, widD]
      have : (tupleText (PyData.shownAll (toPyA xs))).length ≤ piled (PyData.shownAll (toPyA xs)) + 3 := by
        unfold tupleText
        rw [strLen_append, strLen_append]
        have e1 : ((("(" : String) : Str)).length = 1 := rfl
        have e2 : (((if (PyData.shownAll (toPyA xs)).length == 1 then ",)" else ")" : String) : Str)).length ≤ 2 := by split <;> decide
        rw [e1]
        by_cases z : PyData.shownAll (toPyA xs) = []
        · have e0 : (Str.join ", " []).length = 0 := by decide +kernel
          rw [z] at e2 ⊢
          rw [e0]; omega
        · have := join_length_add _ z; omega
      omega
    · simp only [toPy, PyData.shown]
      unfold tupleText
      exact strOk_app (strOk_app strOk_lp (strOk_join strOk_cm _ h3)) (by split <;> decide +kernel)
  | .dct _, h => by simp [smallD] at h
  | .dctT _, h => by simp [smallD] at h
  | .set _, h => by simp [smallD] at h
  | .scr _, h => by simp [smallD] at h
theorem smallA_ok : ∀ ds : List D, smallA ds = true → PyData.showableAll (toPyA ds) = true ∧ piled (PyData.shownAll (toPyA ds)) ≤ widA ds ∧ ∀ t ∈ PyData.shownAll (toPyA ds), PyData.strOk t = true
  | [], _ => ⟨by simp [toPyA, PyData.showableAll], by simp [toPyA, PyData.shownAll, piled], by simp [toPyA, PyData.shownAll]⟩
  | d :: ds, h => by
    have h' : smallD d = true ∧ smallA ds = true := by simpa [smallA] using h
    obtain ⟨a1, a2, a3⟩ := small_ok d h'.1
    obtain ⟨b1, b2, b3⟩ := smallA_ok ds h'.2
    refine ⟨by simp [toPyA, PyData.showableAll, a1, b1], ?_, ?_⟩
    · simp only [toPyA, PyData.shownAll, widA]
      rw [piled_cons]; omega
    · intro t ht
      simp only [toPyA, PyData.shownAll] at ht
      rcases List.mem_cons.mp ht with rfl | ht
      · exact a3
      · exact b3 t ht
end
/-- the text that repr gives -/
def reprD (d : D) : Str := (toPy d).shown
theorem y_reprD {d : D} (h1 : plain d 60 = true) (h2 : smallD d = true) (h3 : widD d ≤ 16777216) : bRepr [d] = some (.str (reprD d), false) ∧ plain (.str (reprD d)) 60 = true := by
  obtain ⟨a1, a2, a3⟩ := small_ok d h2
  have h : (plain d 60 && (toPy d).showable && le24 (toPy d).shown.length) = true := by
    rw [h1, a1, le24_of (Nat.le_trans a2 h3)]; rfl
  refine ⟨?_, by simpa [plain, reprD] using a3⟩
  show (if (plain d 60 && (toPy d).showable && le24 (toPy d).shown.length) = true then some (D.str (toPy d).shown, false) else none) = _
  rw [if_pos h]; rfl
theorem y_neStr {x : Str} (h : plain (.str x) 60 = true) : neOp (.str x) (.str x) = some (.bl false, false) := by
  unfold neOp
  rw [h]
  have : PyData.eqv (toPy (.str x)) (toPy (.str x)) = true := by simp [toPy, PyData.eqv]
  rw [this]; rfl
theorem y_eqStr {x : Str} (h : plain (.str x) 60 = true) : eqOp (.str x) (.str x) = some (.bl true, false) := by
  unfold eqOp
  rw [h]
  have : PyData.eqv (toPy (.str x)) (toPy (.str x)) = true := by simp [toPy, PyData.eqv]
  rw [this]; rfl
end VS
namespace VS
open PySem PySem.Spec PyProof.Rows L2
/-! ### a frozen dict is locked while it is walked -/
def lkF (F : FrI) (a : Addr) (o : HO) : FrI := ⟨upd F.E a o, upd F.G0 a o, F.ios⟩
section
variable {W : Wd} {Wx : WX} {F : FrI} {G H : Hp} {env : Env} {σ : L2.St} {a : Addr} {kvs : List (Key × V)} {od : Obj}
theorem le_lock (hg : G a = some (.dK kvs)) : Le G (upd G a (.frz od (.dK kvs))) := by
  refine ⟨fun b w st e => ?_, fun b w nf r => ?_⟩
  · by_cases z : b = a
    · subst z; rw [hg] at e; cases e; exact st.elim
    · rw [upd_ne z]; exact e
  · by_cases z : b = a
    · subst z
      rcases r with e | ⟨o, e⟩
      · rw [hg] at e; cases e; exact .inr ⟨od, upd_same⟩
      · rw [hg] at e; cases e
    · rcases r with e | ⟨o, e⟩
      · exact .inl (by rw [upd_ne z]; exact e)
      · exact .inr ⟨o, by rw [upd_ne z]; exact e⟩
theorem le_unlock (hg : G a = some (.frz od (.dK kvs))) : Le G (upd G a (.dK kvs)) := by
  refine ⟨fun b w st e => ?_, fun b w nf r => ?_⟩
  · by_cases z : b = a
    · subst z; rw [hg] at e; cases e; exact st.elim
    · rw [upd_ne z]; exact e
  · by_cases z : b = a
    · subst z
      rcases r with e | ⟨o, e⟩
      · rw [hg] at e; cases e; exact nf.elim
      · rw [hg] at e; cases e; exact .inl upd_same
    · rcases r with e | ⟨o, e⟩
      · exact .inl (by rw [upd_ne z]; exact e)
      · exact .inr ⟨o, by rw [upd_ne z]; exact e⟩
theorem Rel.lockD (R : Rel W F G env σ H) (hg : G a = some (.dK kvs)) : Rel W (lkF F a (.frz od (.dK kvs))) (upd G a (.frz od (.dK kvs))) env σ (upd H a (.frz od (.dK kvs))) := by
  have ne : ∀ {b : Addr}, G b = none → b ≠ a := fun e z => by rw [z, hg] at e; cases e
  have own : ∀ {b : Addr} {d : D}, Own W G H b d → Own W (upd G a (.frz od (.dK kvs))) (upd H a (.frz od (.dK kvs))) b d := fun {b d} ow => by
    obtain ⟨g, o, ho, sh⟩ := ow
    exact ⟨by rw [upd_ne (ne g)]; exact g, o, by rw [upd_ne (ne g)]; exact ho, sh.mono (le_lock hg)⟩
  refine ⟨fun b o e => ?_, fun b o e => ?_, fun b e => ?_, fun b o e n => ?_, fun b e => ?_, fun i c e => ?_, R.dis, fun p hp => ?_, R.len⟩
  · by_cases z : b = a
    · subst z; rw [upd_same] at e ⊢; exact e
    · rw [upd_ne z] at e ⊢; exact R.same b o e
  · by_cases z : b = a
    · subst z
      have e' : upd F.G0 b (.frz od (.dK kvs)) b = some o := e
      rw [upd_same] at e' ⊢; exact e'
    · have e' : upd F.G0 a (.frz od (.dK kvs)) b = some o := e
      rw [upd_ne z] at e' ⊢; exact R.g0 b o e'
  · show upd G a (.frz od (.dK kvs)) b = upd F.G0 a (.frz od (.dK kvs)) b
    by_cases z : b = a
    · subst z; rw [upd_same, upd_same]
    · have e' : upd F.E a (.frz od (.dK kvs)) b ≠ none := e
      rw [upd_ne z] at e'
      rw [upd_ne z, upd_ne z]; exact R.gE b e'
  · have e' : upd F.E a (.frz od (.dK kvs)) b = some o := e
    by_cases z : b = a
    · subst z; rw [upd_same] at e' ⊢; exact e'
    · rw [upd_ne z] at e' ⊢; exact R.out b o e' n
  · show upd F.E a (.frz od (.dK kvs)) b = none
    by_cases z : b = a
    · subst z; rw [upd_same] at e; cases e
    · rw [upd_ne z] at e ⊢; exact R.dom b e
  · obtain ⟨v, hv, ok⟩ := R.cells i c e
    refine ⟨v, hv, ?_⟩
    obtain ⟨d, ow⟩ := c
    cases ow with
    | frz => exact Rp.mono (le_lock hg) ok
    | own =>
      obtain ⟨b, e1, e2, e3⟩ := ok
      exact ⟨b, e1, by show upd F.E a (.frz od (.dK kvs)) b = none; rw [upd_ne (ne e3.1)]; exact e2, own e3⟩
    | io =>
      obtain ⟨b, e1, e2, e3⟩ := ok
      exact ⟨b, e1, e2, own e3⟩
  · obtain ⟨e1, e2, e3⟩ := R.ioc p hp
    refine ⟨?_, e2, e3⟩
    show upd F.E a (.frz od (.dK kvs)) p.2 ≠ none
    by_cases z : p.2 = a
    · rw [z, upd_same]; intro q; cases q
    · rw [upd_ne z]; exact e1
theorem Rel.unlockD {G1 H1 : Hp} {env1 : Env} {σ1 : L2.St} (R0 : Rel W F G env σ H) (hg : G a = some (.dK kvs)) (R : Rel W (lkF F a (.frz od (.dK kvs))) G1 env1 σ1 H1) :
    G1 a = some (.frz od (.dK kvs)) ∧ H1 a = some (.frz od (.dK kvs)) ∧ Rel W F (upd G1 a (.dK kvs)) env1 σ1 (upd H1 a (.dK kvs)) := by
  have hE : (lkF F a (.frz od (.dK kvs))).E a = some (.frz od (.dK kvs)) := upd_same
  have h1 : G1 a = some (.frz od (.dK kvs)) := by
    rw [R.gE a (by rw [hE]; intro q; cases q)]; exact upd_same
  have h2 : H1 a = some (.frz od (.dK kvs)) := R.same a _ h1
  have ne : ∀ {b : Addr}, G1 b = none → b ≠ a := fun e z => by rw [z, h1] at e; cases e
  have own : ∀ {b : Addr} {d : D}, Own W G1 H1 b d → Own W (upd G1 a (.dK kvs)) (upd H1 a (.dK kvs)) b d := fun {b d} ow => by
    obtain ⟨g, o, ho, sh⟩ := ow
    exact ⟨by rw [upd_ne (ne g)]; exact g, o, by rw [upd_ne (ne g)]; exact ho, sh.mono (le_unlock h1)⟩
  refine ⟨h1, h2, fun b o e => ?_, fun b o e => ?_, fun b e => ?_, fun b o e n => ?_, fun b e => ?_, fun i c e => ?_, R.dis, fun p hp => ?_, R.len⟩
  · by_cases z : b = a
    · subst z; rw [upd_same] at e ⊢; exact e
    · rw [upd_ne z] at e ⊢; exact R.same b o e
  · by_cases z : b = a
    · subst z
      have := R0.g0 b o e
      rw [hg] at this; cases this
      exact upd_same
    · rw [upd_ne z]
      exact R.g0 b o (by show upd F.G0 a _ b = _; rw [upd_ne z]; exact e)
  · by_cases z : b = a
    · subst z; rw [upd_same, ← hg]; exact R0.gE b e
    · have h3 : upd F.E a (.frz od (.dK kvs)) b ≠ none := by rw [upd_ne z]; exact e
      have := R.gE b h3
      have h4 : G1 b = upd F.G0 a (.frz od (.dK kvs)) b := this
      rw [upd_ne z] at h4 ⊢; exact h4
  · by_cases z : b = a
    · subst z
      have h3 := R0.out b o e n
      rw [R0.same b _ hg] at h3; cases h3
      exact upd_same
    · rw [upd_ne z]
      exact R.out b o (by show upd F.E a _ b = _; rw [upd_ne z]; exact e) n
  · by_cases z : b = a
    · subst z; rw [upd_same] at e; cases e
    · rw [upd_ne z] at e
      have h3 : upd F.E a (.frz od (.dK kvs)) b = none := R.dom b e
      rw [upd_ne z] at h3; exact h3
  · obtain ⟨v, hv, ok⟩ := R.cells i c e
    refine ⟨v, hv, ?_⟩
    obtain ⟨d, ow⟩ := c
    cases ow with
    | frz => exact Rp.mono (le_unlock h1) ok
    | own =>
      obtain ⟨b, e1, e2, e3⟩ := ok
      have e2' : upd F.E a (.frz od (.dK kvs)) b = none := e2
      rw [upd_ne (ne e3.1)] at e2'
      exact ⟨b, e1, e2', own e3⟩
    | io =>
      obtain ⟨b, e1, e2, e3⟩ := ok
      exact ⟨b, e1, e2, own e3⟩
  · obtain ⟨_, e2, e3⟩ := R.ioc p hp
    exact ⟨(R0.ioc p hp).1, e2, e3⟩
theorem RVok.unlock {G1 H1 : Hp} {env1 : Env} {σ1 : L2.St} {v : V} (h1 : G1 a = some (.frz od (.dK kvs))) : ∀ {r : RV}, RVok W (lkF F a (.frz od (.dK kvs))) G1 env1 σ1 H1 v r → RVok W F (upd G1 a (.dK kvs)) env1 σ1 (upd H1 a (.dK kvs)) v r
  | .fz _, h => Rp.mono (le_unlock h1) h
  | .bo _, h => h
  | .fr d, ⟨p, e, hE, ⟨g, o, ho, sh⟩, fr⟩ => by
    have ne : p ≠ a := fun z => by rw [z, h1] at g; cases g
    have hE' : upd F.E a (.frz od (.dK kvs)) p = none := hE
    rw [upd_ne ne] at hE'
    exact ⟨p, e, hE', ⟨by rw [upd_ne ne]; exact g, o, by rw [upd_ne ne]; exact ho, sh.mono (le_unlock h1)⟩, fr⟩
theorem same_unlock {G1 : Hp} (hg : G a = some (.dK kvs)) (s : Same (upd G a (.frz od (.dK kvs))) G1) : Same G (upd G1 a (.dK kvs)) := fun b o e => by
  by_cases z : b = a
  · subst z; rw [hg] at e; cases e; exact upd_same
  · rw [upd_ne z]
    exact s b o (by rw [upd_ne z]; exact e)
/-- slot i holds a dict that is locked -/
structure LkP (W : Wd) (G : Hp) (i : Nat) (env : Env) (σ : L2.St) : Prop where
  ex : ∃ a o kvs kds, σ[i]? = some (some (V.ref a)) ∧ env[i]? = some (some (.dct kds, .frz)) ∧ G a = some (.frz o (.dK kvs)) ∧ RpK W G kvs kds
def lockEnv (i : Nat) (env : Env) : Out Env := match freezeR env (.bo i) with
  | some (.dct _, e) => .ok e
  | _ => .st
theorem lockEnv_ok {i : Nat} {env1 : Env} (R : Rel W F G env σ H) (e : lockEnv i env = .ok env1) : ∃ a G1 kds, σ[i]? = some (some (V.ref a)) ∧ env1[i]? = some (some (.dct kds, .frz)) ∧ Same G G1 ∧ Rel W F G1 env1 σ H ∧
    ∃ kvs, Rd G1 a (.dK kvs) ∧ RpK W G1 kvs kds := by
  unfold lockEnv at e
  cases ef : freezeR env (.bo i) with
  | none => rw [ef] at e; cases e
  | some w =>
    obtain ⟨d, env2⟩ := w
    rw [ef] at e
    cases d with
    | dct kds =>
      cases e
      have hc : ∃ ow, env[i]? = some (some (.dct kds, ow)) ∧ env1[i]? = some (some (.dct kds, .frz)) := by
        rcases freeze_bo ef with ⟨he, rfl⟩ | ⟨he, rfl⟩
        · exact ⟨_, he, he⟩
        · exact ⟨_, he, set_at (List.getElem?_eq_some_iff.mp he).1⟩
      obtain ⟨ow, he, he1⟩ := hc
      obtain ⟨v, hv, _⟩ := R.cells i _ he
      obtain ⟨G1, s1, R1, rp⟩ := PV.freeze (r := .bo i) R (show PV W G σ v (.bo i) from hv) ef
      cases rp with
      | dct r k => exact ⟨_, G1, kds, hv, he1, s1, R1, _, r, k⟩
    | _ => cases e
/-- an expression under the lock -/
theorem lockE {i : Nat} {tl : TE} {Q : VK} {f : Env → Out (RV × Env)} (R : Rel W F G env σ H) (h : EPost W Wx F G σ Q ((lockEnv i env).bind fun e => noEx (f e)))
    (k : ∀ F' G' env' H' Q', Rel W F' G' env' σ H' → LkP W G' i env' σ → EPost W Wx F' G' σ Q' (noEx (f env')) → tl σ H' Q') : tl σ H Q ∨ tLockE tl σ H Q := by
  cases e : lockEnv i env with
  | st => rw [e] at h; exact h.elim
  | ex x e' =>
    unfold lockEnv at e
    split at e <;> cases e
  | ok env1 =>
    rw [e] at h
    obtain ⟨a, G1, kds, hv, he1, s1, R1, kvs, hr, rk⟩ := lockEnv_ok R e
    have h' : EPost W Wx F G σ Q (noEx (f env1)) := h
    rcases hr with hg | ⟨o, hg⟩
    · refine .inr ⟨a, .dK kvs, R1.same a _ hg, trivial, fun od => k _ _ _ _ _ (R1.lockD (od := od) hg) ⟨a, od, kvs, kds, hv, he1, upd_same, ?_⟩ ?_⟩
      · exact rk.mono (le_lock hg)
      · cases ef : noEx (f env1) with
        | st => rw [ef] at h'; exact h'.elim
        | ex x e' =>
          cases q : f env1 <;> rw [q] at ef <;> cases ef
        | ok p =>
          obtain ⟨r, env2⟩ := p
          rw [ef] at h'
          intro v G2 H2 R2 s2 rv
          obtain ⟨h1, h2, R3⟩ := R1.unlockD hg R2
          exact ⟨h2, h' v _ _ R3 (s1.trans (same_unlock hg s2)) (rv.unlock h1)⟩
    · exact .inl (k F G1 env1 H Q R1 ⟨a, o, kvs, kds, hv, he1, hg, rk⟩ (EPost.grow s1 h'))
/-- a statement under the lock -/
theorem lockS {i : Nat} {tl : TS} {D : Ends} {f : Env → Out Fl} (R : Rel W F G env σ H) (h : SPost W Wx F G D ((lockEnv i env).bind fun e => noEx (f e)))
    (k : ∀ F' G' env' H' D', Rel W F' G' env' σ H' → LkP W G' i env' σ → SPost W Wx F' G' D' (noEx (f env')) → tl D' σ H') : tl D σ H ∨ tLock tl D σ H := by
  cases e : lockEnv i env with
  | st => rw [e] at h; exact h.elim
  | ex x e' =>
    unfold lockEnv at e
    split at e <;> cases e
  | ok env1 =>
    rw [e] at h
    obtain ⟨a, G1, kds, hv, he1, s1, R1, kvs, hr, rk⟩ := lockEnv_ok R e
    have h' : SPost W Wx F G D (noEx (f env1)) := h
    rcases hr with hg | ⟨o, hg⟩
    · refine .inr ⟨a, .dK kvs, R1.same a _ hg, trivial, fun od => k _ _ _ _ _ (R1.lockD (od := od) hg) ⟨a, od, kvs, kds, hv, he1, upd_same, ?_⟩ ?_⟩
      · exact rk.mono (le_lock hg)
      · cases ef : noEx (f env1) with
        | st => rw [ef] at h'; exact h'.elim
        | ex x e' =>
          cases q : f env1 <;> rw [q] at ef <;> cases ef
        | ok p =>
          rw [ef] at h'
          cases p with
          | nx env2 =>
            intro σ' G2 H2 R2 s2
            obtain ⟨h1, h2, R3⟩ := R1.unlockD hg R2
            exact ⟨h2, h' σ' _ _ R3 (s1.trans (same_unlock hg s2))⟩
          | bk env2 =>
            intro σ' G2 H2 R2 s2
            obtain ⟨h1, h2, R3⟩ := R1.unlockD hg R2
            exact ⟨h2, h' σ' _ _ R3 (s1.trans (same_unlock hg s2))⟩
          | ct env2 =>
            intro σ' G2 H2 R2 s2
            obtain ⟨h1, h2, R3⟩ := R1.unlockD hg R2
            exact ⟨h2, h' σ' _ _ R3 (s1.trans (same_unlock hg s2))⟩
          | rt r env2 =>
            intro v σ' G2 H2 R2 s2 rv
            obtain ⟨h1, h2, R3⟩ := R1.unlockD hg R2
            exact ⟨h2, h' v σ' _ _ R3 (s1.trans (same_unlock hg s2)) (rv.unlock h1)⟩
    · exact .inl (k F G1 env1 H D R1 ⟨a, o, kvs, kds, hv, he1, hg, rk⟩ (SPost.grow s1 h'))
end
end VS
namespace VS
open PySem PySem.Spec PyProof.Rows L2
/-! ### d, d.items(), d.values() walked -/
def keysD (kds : List (Key × D)) : List D := kds.map fun q => keyD q.1
def itemsD (kds : List (Key × D)) : List D := kds.map fun q => .tup [keyD q.1, q.2]
def valsD (kds : List (Key × D)) : List D := kds.map fun q => q.2
def itDct (sel : List (Key × D) → List D) (i : Nat) : Env → Out (List D × Env) := fun env => match env[i]? with
  | some (some (.dct kds, .frz)) => .ok (sel kds, env)
  | _ => .st
theorem RpK.at {W : Wd} {G : Hp} : ∀ {kvs : List (Key × V)} {kds : List (Key × D)} {i : Nat} {k : Key} {d : D}, RpK W G kvs kds → kds[i]? = some (k, d) → ∃ v, kvs[i]? = some (k, v) ∧ Rp W G v d
  | _, _, _, _, _, .nil, e => by simp at e
  | _, _, 0, _, _, .cons a _, e => by simp at e; obtain ⟨rfl, rfl⟩ := e; exact ⟨_, rfl, a⟩
  | _, _, i + 1, _, _, .cons _ t, e => by
    obtain ⟨v, h1, h2⟩ := RpK.at (i := i) t (by simpa using e)
    exact ⟨v, by simpa using h1, h2⟩
section
variable {W : Wd} {G : Hp} {a : Addr} {o : Obj} {kvs : List (Key × V)} {kds : List (Key × D)}
theorem itw_items (hG : G a = some (.frz o (.dK kvs))) (rk : RpK W G kvs kds) : ItW W G (Iti a o kvs) (itemsD kds) := fun G' i H s1 s2 => by
  have hH : H a = some (.frz o (.dK kvs)) := s2 _ _ (s1 _ _ hG)
  refine ⟨fun hl => ⟨hH, by rw [rk.length]; unfold itemsD at hl; rw [List.length_map] at hl; exact hl⟩, fun d hd => ?_⟩
  unfold itemsD at hd
  rw [List.getElem?_map] at hd
  cases e : kds[i]? with
  | none => rw [e] at hd; cases hd
  | some q =>
    obtain ⟨k, dv⟩ := q
    rw [e] at hd; cases hd
    obtain ⟨v, h1, h2⟩ := rk.at e
    refine ⟨⟨hH, (List.getElem?_eq_some_iff.mp h1).1⟩, ?_⟩
    rintro x H' ⟨T, k', v', e1, rfl, hT, rfl⟩
    rw [h1] at e1; cases e1
    exact Res.tup s2 hT (.cons (keyD_rp k) (.cons (h2.mono (Le.of s1)) .nil))
theorem itw_keys (hG : G a = some (.frz o (.dK kvs))) (rk : RpK W G kvs kds) : ItW W G (Itk a o kvs) (keysD kds) := fun G' i H s1 s2 => by
  have hH : H a = some (.frz o (.dK kvs)) := s2 _ _ (s1 _ _ hG)
  refine ⟨fun hl => ⟨hH, by rw [rk.length]; unfold keysD at hl; rw [List.length_map] at hl; exact hl⟩, fun d hd => ?_⟩
  unfold keysD at hd
  rw [List.getElem?_map] at hd
  cases e : kds[i]? with
  | none => rw [e] at hd; cases hd
  | some q =>
    obtain ⟨k, dv⟩ := q
    rw [e] at hd; cases hd
    obtain ⟨v, h1, h2⟩ := rk.at e
    refine ⟨⟨hH, (List.getElem?_eq_some_iff.mp h1).1⟩, ?_⟩
    rintro x H' ⟨rfl, k', v', e1, rfl⟩
    rw [h1] at e1; cases e1
    exact Res.same s2 (keyD_rp k)
theorem itw_vals (hG : G a = some (.frz o (.dK kvs))) (rk : RpK W G kvs kds) : ItW W G (Itd a o kvs) (valsD kds) := fun G' i H s1 s2 => by
  have hH : H a = some (.frz o (.dK kvs)) := s2 _ _ (s1 _ _ hG)
  refine ⟨fun hl => ⟨hH, by rw [rk.length]; unfold valsD at hl; rw [List.length_map] at hl; exact hl⟩, fun d hd => ?_⟩
  unfold valsD at hd
  rw [List.getElem?_map] at hd
  cases e : kds[i]? with
  | none => rw [e] at hd; cases hd
  | some q =>
    obtain ⟨k, dv⟩ := q
    rw [e] at hd; cases hd
    obtain ⟨v, h1, h2⟩ := rk.at e
    refine ⟨⟨hH, (List.getElem?_eq_some_iff.mp h1).1⟩, ?_⟩
    rintro x H' ⟨rfl, k', e1⟩
    rw [h1] at e1; cases e1
    exact Res.same s2 (h2.mono (Le.of s1))
end
/-- what is walked while slot i is locked -/
structure DIL (X : Cx) (c : Nat → Value) (i : Nat) (tg iter : Expr) (it : Env → Out (List D × Env)) : Prop where
  ex : ∃ wi, PI X tg iter wi ∧ ∀ (Wx : WX) F G env σ H Q, Rel (wd X c) F G env σ H → LkP (wd X c) G i env σ → IPost (wd X c) Wx F G σ Q (it env) → wi σ H Q
section
variable {X : Cx} {c : Nat → Value} {Wx : WX}
theorem DIL.run {i : Nat} {tg iter : Expr} {it : Env → Out (List D × Env)} (h : DIL X c i tg iter it) : ∃ wi, PI X tg iter wi ∧ ∀ {α : Type} (Wx : WX) (F : FrI) (G : Hp) (env : Env) (σ : L2.St) (H : Hp), Rel (wd X c) F G env σ H → LkP (wd X c) G i env σ →
    ∀ (Q : It → Hp → Prop) (k : List D × Env → Out α) (post : Out α → Prop), PL (wd X c) Wx F G σ post → post ((it env).bind k) →
    (∀ ds env' J G' H', Rel (wd X c) F G' env' σ H' → Same G G' → ItW (wd X c) G' J ds → post (k (ds, env')) → Q J H') → wi σ H Q := by
  obtain ⟨wi, pi, g⟩ := h.ex
  refine ⟨wi, pi, fun {α} Wx F G env σ H R L Q k post pl hp hk => g Wx F G env σ H Q R L ?_⟩
  cases e : it env with
  | ok p => rw [e] at hp; exact fun v G' H' R' s r => hk _ _ v G' H' R' s r hp
  | ex x env' => rw [e] at hp; exact fun G' H' cls dx R' s r => pl.ex x env' hp G' H' cls dx R' s r
  | st => rw [e] at hp; exact pl.st hp
theorem itDct_ok {W : Wd} {F : FrI} {G : Hp} {env : Env} {σ : L2.St} {sel : List (Key × D) → List D} {i : Nat} {kds : List (Key × D)} {Q : It → Hp → Prop} (e : env[i]? = some (some (.dct kds, .frz))) (h : IPost W Wx F G σ Q (itDct sel i env)) :
    ∀ J G' H', Rel W F G' env σ H' → Same G G' → ItW W G' J (sel kds) → Q J H' := by
  have : itDct sel i env = .ok (sel kds, env) := by unfold itDct; rw [e]
  rw [this] at h; exact h
theorem dil_items {x : Str} {p apos cpos tpos : Pos} {i kk : Nat} {elts : List Expr} (ha : PE X (.Name x p) (tVar i)) (hbase : attributeBase (.Name x p) "items" X.env (eval (.Name x p) X.env) = eval (.Name x p) X.env := by rfl) (hline : (apos.endLine == cpos.line) = true := by rfl) :
    DIL X c i (.Tuple elts kk tpos) (.Call (.Attribute (.Name x p) "items" apos) [] [] cpos) (itDct itemsD i) :=
  ⟨_, pi_items ha hbase hline, fun Wx F G env σ H Q R L h => by
    obtain ⟨a, o, kvs, kds, hv, he, hg, rk⟩ := L.ex
    exact ⟨_, hv, a, o, kvs, rfl, R.same _ _ hg, itDct_ok he h _ G H R (Same.refl G) (itw_items hg rk)⟩⟩
theorem dil_values {x : Str} {p apos cpos : Pos} {i : Nat} {tg : Expr} (ha : PE X (.Name x p) (tVar i)) (hbase : attributeBase (.Name x p) "values" X.env (eval (.Name x p) X.env) = eval (.Name x p) X.env := by rfl) (hline : (apos.endLine == cpos.line) = true := by rfl) :
    DIL X c i tg (.Call (.Attribute (.Name x p) "values" apos) [] [] cpos) (itDct valsD i) :=
  ⟨_, pi_values ha hbase hline, fun Wx F G env σ H Q R L h => by
    obtain ⟨a, o, kvs, kds, hv, he, hg, rk⟩ := L.ex
    exact ⟨_, hv, a, o, kvs, rfl, R.same _ _ hg, itDct_ok he h _ G H R (Same.refl G) (itw_vals hg rk)⟩⟩
theorem dil_keys {x : Str} {p : Pos} {i : Nat} {tg : Expr} (ha : PE X (.Name x p) (tVar i)) : DIL X c i tg (.Name x p) (itDct keysD i) :=
  ⟨_, pi_keys ha, fun Wx F G env σ H Q R L h => by
    obtain ⟨a, o, kvs, kds, hv, he, hg, rk⟩ := L.ex
    exact ⟨_, hv, a, o, rfl, .inl ⟨kvs, R.same _ _ hg, itDct_ok he h _ G H R (Same.refl G) (itw_keys hg rk)⟩⟩⟩
theorem pe_orLock {e : Expr} {t : TE} (h : PE X e t) : PE X e (fun σ H Q => t σ H Q ∨ tLockE t σ H Q) := ⟨fun pins s σ H Q I q => q.elim (h.run pins s σ H Q I) ((pe_lock h).run pins s σ H Q I)⟩
theorem ps_orLock {e : Stmt} {t : TS} (h : PS X e t) : PS X e (fun D σ H => t D σ H ∨ tLock t D σ H) := ⟨fun pins s σ H D I q => q.elim (h.run pins s σ H D I) ((ps_lock h).run pins s σ H D I)⟩
/-- under the lock of slot i -/
def dLk {α : Type} (i : Nat) (f : Env → Out α) : Env → Out α := fun env => (lockEnv i env).bind fun e => noEx (f e)
theorem epost_noEx {W : Wd} {Wx' : WX} {F : FrI} {G : Hp} {σ : L2.St} {Q : VK} : ∀ {o : Out (RV × Env)}, EPost W Wx F G σ Q (noEx o) → EPost W Wx' F G σ Q o
  | .ok (_, _), h => h
  | .ex _ _, h => h.elim
  | .st, h => h.elim
theorem spost_noEx {W : Wd} {Wx' : WX} {F : FrI} {G : Hp} {D : Ends} : ∀ {o : Out Fl}, SPost W Wx F G D (noEx o) → SPost W Wx' F G D o
  | .ok (.nx _), h => h
  | .ok (.bk _), h => h
  | .ok (.ct _), h => h
  | .ok (.rt _ _), h => h
  | .ex _ _, h => h.elim
  | .st, h => h.elim
theorem de_lcL {i : Nat} {elt tg iter : Expr} {ifs : List Expr} {scope : Scope} {own : List (Str × Nat)} {pos : Pos} {it : Env → Out (List D × Env)} {js : List Nat} {g : RV → Env → Out Env} {t : Env → Out (Bool × Env)} {f : Env → Out (RV × Env)}
    (hc : X.calm = true) (hN : X.N.Nodup) (hi : DIL X c i tg iter it) (ok : BlkOk X.N X.env.scope scope own) (hg : Blks X scope fun Y => DG Y c wxN tg js g) (ht : Blks X scope fun Y => DIfs Y c ifs t) (he : Blks X scope fun Y => DE Y c wxN elt f)
    (hj : ∀ j ∈ js, j ∈ own.map (·.2)) (hs : ∀ x : Value, foldedSetIterable iter X.env x = pure x := by intro x; rfl) : DE X c Wx (.ListComp elt [⟨tg, iter, ifs, 0⟩] scope pos) (dLk i (dLc (own.map (·.2)) it g t f)) := by
  obtain ⟨wi, pi, ki⟩ := hi.run
  refine ⟨_, pe_orLock (pe_lc hc hN pi ok (fun s H C cl fp => (hg s H C cl fp).can (W := wd X c) rfl) (fun s H C cl fp => (ht s H C cl fp).can (W := wd X c) rfl) (fun s H C cl fp => (he s H C cl fp).can (W := wd X c) rfl) hs), fun F G env σ H Q R h => ?_⟩
  exact lockE R h fun F' G' env' H' Q' R' L h' => lc_walk hj R' (fun Q k post pl => ki Wx F' G' env' σ H' R' L Q k post pl) (epost_noEx h')
theorem ds_setLcL {k : Nat} {i : Nat} {y : Str} {py : Pos} {elt tg iter : Expr} {ifs : List Expr} {scope : Scope} {own : List (Str × Nat)} {pos spos : Pos} {it : Env → Out (List D × Env)} {js : List Nat} {g : RV → Env → Out Env} {t : Env → Out (Bool × Env)} {f : Env → Out (RV × Env)}
    (hc : X.calm = true) (hN : X.N.Nodup) (hy : X.N[i]? = some y) (hyl : List.lookup y X.env.scope.names = some NameKind.local) (hsw : swapsWith (.ListComp elt [⟨tg, iter, ifs, 0⟩] scope pos) (some (.Name y py)) spos.line X.env = pure true)
    (hi : DIL X c k tg iter it) (ok : BlkOk X.N X.env.scope scope own) (hg : Blks X scope fun Y => DG Y c wxN tg js g) (ht : Blks X scope fun Y => DIfs Y c ifs t) (he : Blks X scope fun Y => DE Y c wxN elt f)
    (hj : ∀ j ∈ js, j ∈ own.map (·.2)) (hs : ∀ x : Value, foldedSetIterable iter X.env x = pure x := by intro x; rfl) : DS X c Wx (.Assign [.Name y py] (.ListComp elt [⟨tg, iter, ifs, 0⟩] scope pos) spos) (dLk k (sAsg (dLc (own.map (·.2)) it g t f) (gName' i))) := by
  obtain ⟨wi, pi, ki⟩ := hi.run
  refine ⟨_, ps_orLock (ps_setLc hc hN hy hyl hsw pi ok (fun s H C cl fp => (hg s H C cl fp).can (W := wd X c) rfl) (fun s H C cl fp => (ht s H C cl fp).can (W := wd X c) rfl) (fun s H C cl fp => (he s H C cl fp).can (W := wd X c) rfl) hs), fun F G env σ H D R h => ?_⟩
  refine lockS R h fun F G env H D R L h => lc_walk hj R (fun Q k post pl => ki Wx F G env σ H R L Q k post pl) (epost_bind (k := fun p => (gName' i p.1 p.2).bind fun e => .ok (.nx e)) pl_S (spost_noEx h) fun r env1 v G1 H1 R1 s1 rv h1 => ?_)
  have h' : SPost (wd X c) Wx F G D ((Out.of (storeR i r env1)).bind fun e => .ok (.nx e)) := h1
  cases e : storeR i r env1 with
  | none => rw [e] at h'; exact h'.elim
  | some env' =>
    rw [e] at h'
    obtain ⟨G2, s2, R2⟩ := storeR_ok R1 rv e
    exact h' _ G2 H1 R2 (s1.trans s2)
theorem ds_forL {i : Nat} {tg it : Expr} {b : List Stmt} {pos : Pos} {js : List Nat} {w : Env → Out (List D × Env)} {g : RV → Env → Out Env} {f : Env → Out Fl} (hp : PassesOwn (model X.prog X.w) X.A X.env X.xe) (hc : X.calm = true) (hi : DIL X c i tg it w) (hg : DG X c Wx tg js g) (hb : DSs X c Wx b f) (hs : ∀ x : Value, foldedSetIterable it X.env x = pure x := by intro x; rfl) : DS X c Wx (.For tg it b [] pos) (dLk i (sFor w g f)) := by
  obtain ⟨ti, pi, ki⟩ := hi.run
  obtain ⟨tg', pg, kg⟩ := hg.ex
  obtain ⟨tb, pb, kb⟩ := hb.ex
  refine ⟨_, ps_orLock (ps_for hp hc pi pg pb hs), fun F G env σ H D R h => ?_⟩
  exact lockS R h fun F' G' env' H' D' R' L h' => for_walk (fun Q k post pl => ki Wx F' G' env' σ H' R' L Q k post pl) kg kb R' (spost_noEx h')
end
end VS
namespace VS
open PySem PySem.Spec PyProof.Rows L2
/-! ### dict(t), t a tuple of pairs -/
theorem tuple_keys_none : typeLookup (.type "tuple") "keys" = pure none := am_miss_of_fast (by first | decide +kernel | rfl)
section
variable {prog : Program} {w : World} {A : Around} {E : Value → Shared → Prop}
theorem miss_tup {s : Shared} {a : Addr} {o : Obj} {xs : Array Value} {k : Nat} {Q : Option Value → Shared → Prop} (hx : s.heap.get? a = some o) (hc : o.cls = .type "tuple") (datE : o.data = .seq xs k) (hd : o.dict = none) (hA : A.handled = none)
    (h : ∀ h' tk, (∀ b ob, s.heap.get? b = some ob → h'.get? b = some ob) → Q none { s with heap := h', toks := tk }) : wpAny (model prog w) A (getAttr? (.ref a) "keys") Q E s := by
  obtain ⟨c, dct, dat, sl⟩ := o
  simp only at hc datE hd
  subst hc datE hd
  obtain ⟨hp, g, d, tk, os⟩ := s
  have hT : ∀ tk', (⟨hp, g, d, tk', os⟩ : Shared).TypeIs (.ref a) "tuple" := fun _ => ⟨_, hx, rfl⟩
  have hmiss := tuple_keys_none
  have hname : (["__module__", "__name__", "__qualname__", "__doc__", "__annotations__"] : List Str).contains "keys" = false := by decide +kernel
  have szE : ("keys" : Str).length + 100 ≤ sizeLine := by first | size_fits | decide +kernel
  have f1 := sub_AttributeError
  have f3 := PySem.F.slot_tuple_getattribute.lookup
  have f4 := PySem.F.slot_tuple_getattribute.bind (.ref a)
  have f5 := am_tuple_getattr_none
  unfold getAttr? getAttrBy? getAttrBy
  repeat (any_goals (first | assumption | exact hT _ | ((with_reducible show wpAny _ _ (call (Value.builtin "tuple.__getattribute__") _ _) _ _ _); refine call_meets PySem.F.slot_tuple_getattribute (hT _) am_entry_tuple_getattribute (PySem.F.args_tuple_getattribute_2 _ _) (meets_getattribute_miss_tuple a xs k sl "keys" _ hmiss hname szE) ⟨hx, hA, fun h' tk' e hx' => ?_⟩) | wp_step))
  obtain ⟨t', u', he⟩ := hx'.there
  show wpAny _ _ (getattributeRaised _ _ _ _ _ _ _) _ _ _
  unfold getattributeRaised
  repeat (any_goals (first | assumption | wp_step))
  all_goals first | exact h _ _ hx'.keeps | (dsimp only; repeat (any_goals (first | assumption | exact h _ _ hx'.keeps | wp_step)))
theorem updT_loop {R : Result → Shared → Prop} {S I l : Addr} {items : Array Value} {res : Value} (hnd : A.handled = none) (nLI : l ≠ I) (nSI : S ≠ I) (nSl : S ≠ l) :
    ∀ (rest : List (Key × Value)) (i : Nat) (acc : List (Key × Value)) (ix : Int) (t : Tok) (s : Shared), items.size = i + rest.length → acc.length + rest.length ≤ sizeLine →
      (∀ (j : Nat) (q : Key × Value), rest[j]? = some q → ∃ (b : Addr) (u : Value), items[i + j]? = some (.ref b) ∧ b ≠ S ∧ b ≠ I ∧ IsTup s.heap b #[u, q.2] ∧ keyIs q.1 u = true) →
      s.heap.IsTupleIter I l i → s.heap.IsTuple l items → s.heap.DictOf (mixKind prog w) S acc →
      (∀ h' tk, h'.DictOf (mixKind prog w) S (merged acc rest) → (∀ b o, b ≠ S → b ≠ I → s.heap.get? b = some o → h'.get? b = some o) → R (.ok (.ret res)) { s with heap := h', toks := tk }) →
      codeAny (model prog w) A (.builtin "dict.update.loop" ⟨[.ref S, .ref I, .int ix t, res], []⟩) R s
  | [], i, acc, ix, t, s, szE, lnB, prH, itH, lH, dH, fin => by
    refine codeAny_builtin ud_entry ?_
    rw [Around.under_plainId ud_plain _]
    show wpAny _ A.in1 (pyNext (.ref I) >>= _) _ _ s
    refine wpAny_bind (wpAny_pyNext_tuple_end (A := A.in1) hnd itH lH (by first | exact Array.getElem?_eq_none (Nat.le_of_eq szE) | (simp at szE; simp; omega)) fun h' he => ?_)
    show wpAny _ A.in1 (Builtin.Dict.addKeywords S [] >>= _) _ _ _
    refine wpAny_bind (wpAny_pure (wpAny_pure ?_))
    exact fin h' s.toks (dH.extBut he nSI) fun b o _ gtB e => he b o gtB e
  | q :: rest, i, acc, ix, t, s, szE, lnB, prH, itH, lH, dH, fin => by
    obtain ⟨b, u, gtB, neS, neI, tpH, keyH⟩ := prH 0 q rfl
    rw [List.length_cons] at szE lnB
    refine codeAny_builtin ud_entry ?_
    rw [Around.under_plainId ud_plain _]
    show wpAny _ A.in1 (pyNext (.ref I) >>= _) _ _ s
    refine wpAny_bind (wpAny_pyNext_tuple_item (x := .ref b) itH lH (by simpa using gtB) fun h1 itH1 sb1 => ?_)
    have ht1 : IsTup h1 b #[u, q.2] := tpH.extBut sb1.extBut neI
    have lH1 : h1.IsTuple l items := lH.extBut sb1.extBut nLI
    have dH1 : h1.DictOf (mixKind prog w) S acc := dH.extBut sb1.extBut nSI
    obtain ⟨o, ho, hc, n, hd⟩ := id ht1
    show wpAny _ A.in1 (holding [Value.ref b] _ >>= _) _ _ _
    refine wpAny_bind (wpAny_holding ?_)
    refine wpAny_bind (wpAny_tryCatch ?_)
    unfold Builtin.Dict.pairItems
    refine wpAny_bind (wpAny_typeOf (T := "tuple") ⟨o, ho, hc⟩ ?_)
    rw [if_pos (by first | decide | rfl | simp)]
    refine wpAny_bind (wpAny_seqItems ho hd (wpAny_pure ?_))
    show wpAny _ A.in1 (holding [u, q.2] (dictSet S u q.2)) _ _ _
    refine wpAny_holding (wpAny_dictSet_pairs (knd := mixKind prog w) (k := q.1) keyH dH1 (fun h2 dH2 sb2 => ?_) (by omega))
    refine wpAny_pure ⟨plainId_quiet ud_plain _, updT_loop (items := items) hnd nLI nSI nSl rest (i + 1) (stored acc q.1 q.2) (ix + 1) 0 _ (show items.size = i + 1 + rest.length by omega) ?_ (fun j q' e => ?_) ?_ ?_ dH2 fun h' tk hd' k => ?_⟩
    · have z := stored_length_le acc q.1 q.2
      omega
    · obtain ⟨b', u', gtB', neS', neI', tpH', keyH'⟩ := prH (j + 1) q' (by simpa using e)
      refine ⟨b', u', ?_, neS', neI', (tpH'.extBut sb1.extBut neI').extBut sb2.extBut neS', keyH'⟩
      rw [show i + 1 + j = i + (j + 1) by omega]
      exact gtB'
    · exact itH1.at fun o' e => sb2.extBut I o' (Ne.symm nSI) e
    · exact lH1.extBut sb2.extBut (Ne.symm nSl)
    · exact fin h' tk hd' fun c oc h3 h4 e => k c oc h3 h4 (sb2.extBut c oc h3 (sb1.extBut c oc h4 e))
theorem call_dict_tpairs {s : Shared} {l : Addr} {ol : Obj} {items : Array Value} {n : Nat} {prs : List (Key × Value)} {Q : Value → Shared → Prop} (hnd : A.handled = none) (lH : s.heap.get? l = some ol) (hc : ol.cls = .type "tuple") (hd : ol.dict = none)
    (datE : ol.data = .seq items n) (szE : items.size = prs.length) (lnB : prs.length ≤ sizeLine)
    (prH : ∀ (j : Nat) (q : Key × Value), prs[j]? = some q → ∃ (b : Addr) (u : Value), items[j]? = some (.ref b) ∧ IsTup s.heap b #[u, q.2] ∧ keyIs q.1 u = true)
    (h : ∀ h' tk, h'.DictOf (mixKind prog w) s.heap.objs.size (merged [] prs) → (∀ b o, s.heap.get? b = some o → h'.get? b = some o) → Q (.ref s.heap.objs.size) { s with heap := h', toks := tk }) :
    wpAny (model prog w) A (call (.type "dict") [.ref l]) Q E s := by
  refine callType_codes (Q₁ := fun obj s₁ => obj = .ref s.heap.objs.size ∧ s₁ = { s with heap := s.heap.push { cls := .type "dict", data := .dict #[] } }) PySem.F.kt_called_dict (PySem.F.kt_typeCall_dict_1 _) PySem.F.entry_dict_init (kt_code_dict_new _ ⟨rfl, rfl⟩) ?_
  rintro obj s₁ ⟨rfl, rfl⟩
  have newD : (s.heap.push { cls := .type "dict", data := .dict #[] }).DictOf (mixKind prog w) s.heap.objs.size [] := Heap.DictOf.new s.heap
  have kp0 : ∀ b o, s.heap.get? b = some o → (s.heap.push { cls := .type "dict", data := .dict #[] }).get? b = some o := fun b o e => Heap.get?_push_of_some _ e
  refine ⟨newD.typeIs, PySem.F.args_dict_init_2 _ _, ?_⟩
  unfold Builtin.«dict.__init__»
  refine wpAny_bind ?_
  unfold Builtin.Dict.selfAndRest
  refine wpAny_bind (wpAny_notOrdered_dict newD.typeIs ?_)
  show wpAny _ _ (pure (s.heap.objs.size, [Value.ref l])) _ _ _
  refine wpAny_pure ?_
  show wpAny _ _ (Builtin.Dict.updateFrom "dict.__init__" s.heap.objs.size (.ref l) [] .none) _ _ _
  unfold Builtin.Dict.updateFrom
  refine wpAny_bind (wpAny_typeOf (T := "tuple") ⟨ol, kp0 _ _ lH, hc⟩ ?_)
  rw [if_pos (by first | decide | rfl | simp)]
  refine wpAny_bind (miss_tup (kp0 _ _ lH) hc datE hd hnd fun h1 tk1 kp1 => ?_)
  rw [if_pos (show (none : Option Value).isNone = true from rfl)]
  refine wpAny_bind (wpAny_rule ?_)
  have lH1 : h1.IsTuple l items := ⟨ol, kp1 _ _ (kp0 _ _ lH), hc, n, datE⟩
  have ltS : s.heap.objs.size < h1.objs.size := by
    have e : (s.heap.push { cls := .type "dict", data := .dict #[] }).get? s.heap.objs.size = some { cls := .type "dict", data := .dict #[] } := Heap.get?_push_size _ rfl
    exact Heap.lt_size (kp1 _ _ e)
  refine wpAny_bind (wpAny_pyIter_tuple lH1 ?_)
  have kp2 : ∀ b o, h1.get? b = some o → (h1.push { cls := .type "tuple_iterator", data := .fields #[.ref l, .int 0 0] }).get? b = some o := fun b o e => Heap.get?_push_of_some _ e
  have hlt : l < s.heap.objs.size := Heap.lt_size lH
  have walk := updT_loop (prog := prog) (w := w) (A := A.in1) (R := wants (fun r s₂ => r = .none ∧ Q (.ref s.heap.objs.size) s₂) E) (S := s.heap.objs.size) (I := h1.objs.size) (l := l) (items := items) (res := Value.none) hnd
    (Nat.ne_of_lt (Nat.lt_trans hlt ltS)) (Nat.ne_of_lt ltS) (Nat.ne_of_gt hlt) prs 0 [] 0 0
    { s with heap := h1.push { cls := .type "tuple_iterator", data := .fields #[.ref l, .int 0 0] }, toks := tk1 } (by rw [szE, Nat.zero_add]) (by rw [List.length_nil, Nat.zero_add]; exact lnB)
    (fun j q e => by
      obtain ⟨b, u, e1, e2, e3⟩ := prH j q e
      have gtB : b < s.heap.objs.size := e2.lt
      exact ⟨b, u, by rw [Nat.zero_add]; exact e1, Nat.ne_of_lt gtB, Nat.ne_of_lt (Nat.lt_trans gtB ltS), e2.keeps fun c o z => kp2 _ _ (kp1 _ _ (kp0 _ _ z)), e3⟩)
    ⟨_, Heap.get?_push_size _ rfl, rfl, rfl⟩ (lH1.at fun o e => kp2 _ _ e) ((newD.at fun o e => kp1 _ _ e).at fun o e => kp2 _ _ e)
    (fun h' tk hd' k => ⟨rfl, h h' tk hd' fun b o e => k b o (Nat.ne_of_lt (Heap.lt_size e)) (Nat.ne_of_lt (Nat.lt_trans (Heap.lt_size e) ltS)) (kp2 _ _ (kp1 _ _ (kp0 _ _ e)))⟩)
  first
    | exact wpAny_pure ⟨plainId_quiet ud_plain _, walk⟩
    | exact wpAny_bind (wpAny_pure (wpAny_pure ⟨plainId_quiet ud_plain _, walk⟩))
end
/-- the pairs of a list of tuples -/
def pairsD : List D → Option (List (Key × D))
  | [] => some []
  | .tup [k, v] :: r => match dKey k, pairsD r with
    | some k, some s => some ((k, v) :: s)
    | _, _ => none
  | _ :: _ => none
def mergeD : List (Key × D) → List (Key × D) → List (Key × D)
  | acc, [] => acc
  | acc, (k, v) :: r => mergeD (setK acc k v) r
theorem RpK.merge {W : Wd} {G : Hp} : ∀ {kvs : List (Key × V)} {kds : List (Key × D)} {acc : List (Key × V)} {dacc : List (Key × D)}, RpK W G kvs kds → RpK W G acc dacc → RpK W G (mergeK acc kvs) (mergeD dacc kds)
  | _, _, _, _, .nil, h => h
  | _, _, acc, dacc, .cons (k := k) (v := v) (d := d) (r := r) (s := s) a t, h => by
    have ih := RpK.merge t (h.put k a)
    exact (ih : RpK W G (mergeK (putK acc k v) r) (mergeD (setK dacc k d) s))
theorem pairsD_ok {W : Wd} {G H : Hp} (s : Same G H) : ∀ {ds : List D} {vs : List V} {kds : List (Key × D)}, RpA W G vs ds → pairsD ds = some kds → ∃ (ps : List Addr) (kvs : List (Key × V)), vs = ps.map V.ref ∧ Paired (fun p kv => SqT W.K H p [kV kv.1, kv.2]) ps kvs ∧ RpK W G kvs kds
  | [], _, kds, .nil, e => by cases e; exact ⟨[], [], rfl, .nil, .nil⟩
  | d :: r, _, kds, .cons a t, e => by
    unfold pairsD at e
    split at e
    · rename_i h; cases h
    · rename_i k v r' h
      cases h
      cases e1 : dKey k with
      | none => rw [e1] at e; cases e
      | some k' =>
        cases e2 : pairsD r with
        | none => rw [e1, e2] at e; cases e
        | some s' =>
          rw [e1, e2] at e
          cases e
          obtain ⟨ps, kvs, h1, h2, h3⟩ := pairsD_ok s t e2
          cases a with
          | tup g ra =>
            cases ra with
            | cons rk rb =>
              cases rb with
              | cons rv rc =>
                cases rc
                rename_i p _ _
                have := dKey_rp e1 rk
                subst this
                exact ⟨p :: ps, (k', _) :: kvs, by rw [h1]; rfl, .cons (SqT.of (s _ _ g)) h2, .cons rv h3⟩
    · cases e
section
variable {X : Cx} {c : Nat → Value}
theorem call_dictT (hcalm : X.calm = true) : CallR X (.type "dict") (fun xs H Q => ∃ (a : Addr) (o : Obj) (ps : List Addr) (kvs : List (Key × V)), xs = [.ref a] ∧ H a = some (.frz o (.tup (ps.map V.ref))) ∧ o.dict = none ∧ Paired (fun p kv => SqT X.K H p [kV kv.1, kv.2]) ps kvs ∧
    ∀ p, H p = none → Q (.ref p) (upd H p (.dK (mergeK [] kvs)))) := by
  intro pins s σ H xs us Q I r q
  obtain ⟨a, o, ps, kvs, ex, hq, hd, hp, fin⟩ := q
  subst ex
  obtain ⟨u, eu, rx⟩ := L2.vals1 r
  subst eu
  cases rx
  obtain ⟨ho, hz, its, rv, o', ho', hcl, n, hdat⟩ := (show ObjOk X.prog X.w H s.heap a (.frz o (.tup (ps.map V.ref))) from I.hok a _ hq)
  rw [ho] at ho'; cases ho'
  have ei := refs_at rv
  subst ei
  rw [List.length_map] at hz
  obtain ⟨prs, rel, hl, hpr⟩ := pairs_of I hp
  refine call_dict_tpairs (prs := prs) (I.ok.hd hcalm) ho hcl hd hdat (by simp [hl]) (by rw [hl]; exact hz) (fun j q' e => ?_) fun h' tk hd' k => ?_
  · obtain ⟨b, u, e1, e2, e3⟩ := hpr j q' e
    exact ⟨b, u, by simp [e1], e2, e3⟩
  · have hm : (s.heap.objs.size == sysModules) = false := beq_eq_false_iff_ne.mpr (Nat.ne_of_gt I.big)
    have hlen : (mergeK [] kvs).length ≤ sizeLine := by
      refine Nat.le_trans (length_mergeK kvs []) ?_
      rw [List.length_nil, Nat.zero_add, rel.length, hl]
      exact hz
    exact ⟨.ref s.heap.objs.size, upd H s.heap.objs.size (.dK (mergeK [] kvs)), I.laid (t' := tk) k (Nat.le_refl _) (show ObjOk X.prog X.w _ _ _ (.dK (mergeK [] kvs)) from ⟨hlen, hm, merged [] prs, KV.merge rel .nil, hd'⟩), rfl, fin _ (I.hok.fresh (Nat.le_refl _))⟩
def bDictT : OpN
  | [.tpl ds] => (pairsD ds).map fun kvs => (.dct (mergeD [] kvs), true)
  | _ => none
def bDictP : OpN
  | [.lst ds] => (pairsD ds).map fun kvs => (.dct (mergeD [] kvs), true)
  | _ => none
def bDictD : OpN
  | [.dct kvs] => some (.dct kvs, true)
  | _ => none
def bDict : OpN := fun ds => (bDictT ds).or ((bDictP ds).or (bDictD ds))
theorem bDict_ok (hc : X.calm = true) : CallOk X c (.type "dict") bDict := by
  refine CallOk.or (op := bDictT) (op' := fun ds => (bDictP ds).or (bDictD ds)) ?_ (CallOk.or (op := bDictP) (op' := bDictD) ?_ ?_)
  · refine ⟨_, call_dictT hc, fun G H vs ds d fr Q s hv e q => ?_⟩
    unfold bDictT at e
    split at e
    · obtain ⟨kds, e1, e2⟩ := Option.map_eq_some_iff.mp e
      cases e2
      obtain ⟨v, rfl, h⟩ := vw1 hv
      obtain ⟨a, o, ws, rfl, h1, g, hd, r⟩ := h.tpl s
      obtain ⟨ps, kvs, rfl, pp, rk⟩ := pairsD_ok s r e1
      exact ⟨a, o, ps, kvs, rfl, h1, hd, pp, fun p hp => q _ _ (Res.fresh s hp (.dct (RpK.merge rk .nil)))⟩
    · cases e
  · refine ⟨_, call_dictP hc, fun G H vs ds d fr Q s hv e q => ?_⟩
    unfold bDictP at e
    split at e
    · obtain ⟨kds, e1, e2⟩ := Option.map_eq_some_iff.mp e
      cases e2
      obtain ⟨v, rfl, h⟩ := vw1 hv
      obtain ⟨a, ws, rfl, h1, r⟩ := h.lst s
      obtain ⟨ps, kvs, rfl, pp, rk⟩ := pairsD_ok s r e1
      exact ⟨a, ps, kvs, rfl, SqL.of h1, pp, fun p hp => q _ _ (Res.fresh s hp (.dct (RpK.merge rk .nil)))⟩
    · cases e
  · refine ⟨_, call_dictD, fun G H vs ds d fr Q s hv e q => ?_⟩
    unfold bDictD at e
    split at e
    · cases e
      obtain ⟨v, rfl, h⟩ := vw1 hv
      obtain ⟨a, ws, rfl, h1, r⟩ := h.dct s
      exact ⟨a, ws, rfl, h1, fun p hp => q _ _ (Res.fresh s hp (.dct r))⟩
    · cases e
end
theorem mergeD_new (f : Int → D) : ∀ (ks js : List Int), (js ++ ks).Nodup → mergeD (mkK f js) (mkK f ks) = mkK f (js ++ ks)
  | [], js, _ => by rw [List.append_nil]; rfl
  | k :: ks, js, nd => by
    have hk : k ∉ js := fun m => (List.nodup_append.mp nd).2.2 k m k List.mem_cons_self rfl
    show mergeD (setK (mkK f js) (.inl k) (f k)) (mkK f ks) = _
    rw [setK_mkK f hk, mergeD_new f ks (js ++ [k]) (by simpa using nd)]
    simp
theorem pairsD_mk (f : Int → D) : ∀ ks : List Int, pairsD (ks.map fun k => .tup [.int k, f k]) = some (mkK f ks)
  | [] => rfl
  | k :: ks => by
    have ih := pairsD_mk f ks
    show (match dKey (.int k), pairsD (ks.map fun k => D.tup [.int k, f k]) with
      | some k', some s => some ((k', f k) :: s)
      | _, _ => none) = _
    rw [ih]; rfl
theorem y_dictT (f : Int → D) {ks : List Int} (nd : ks.Nodup) : bDict [.tpl (ks.map fun k => .tup [.int k, f k])] = some (.dct (mkK f ks), true) := by
  show ((pairsD (ks.map fun k => D.tup [.int k, f k])).map fun kvs => (D.dct (mergeD [] kvs), true)).or _ = _
  rw [pairsD_mk]
  have := mergeD_new f ks [] (by simpa using nd)
  have e0 : mkK f [] = [] := rfl
  rw [e0] at this
  show (some (D.dct (mergeD [] (mkK f ks)), true)).or _ = _
  rw [this]; rfl
theorem y_dictP (f : Int → D) {ks : List Int} (nd : ks.Nodup) : bDict [.lst (ks.map fun k => .tup [.int k, f k])] = some (.dct (mkK f ks), true) := by
  show (none : Option (D × Bool)).or (((pairsD (ks.map fun k => D.tup [.int k, f k])).map fun kvs => (D.dct (mergeD [] kvs), true)).or _) = _
  rw [pairsD_mk]
  have := mergeD_new f ks [] (by simpa using nd)
  have e0 : mkK f [] = [] := rfl
  rw [e0] at this
  show (none : Option (D × Bool)).or ((some (D.dct (mergeD [] (mkK f ks)), true)).or _) = _
  rw [this]; rfl
end VS
namespace VS
open PySem PySem.Spec PyProof.Rows L2
section
variable {env : Env}
/-- the slot's dict, locked -/
def lockK : D × Env → Out Env
  | (.dct _, e) => .ok e
  | _ => .st
@[simp] theorem x_lockK {kds : List (Key × D)} {e : Env} : lockK (.dct kds, e) = .ok e := (rfl)
@[simp] theorem x_lockEnv {i : Nat} : lockEnv i env = (Out.of (freezeR env (.bo i))).bind lockK := by
  unfold lockEnv
  rcases freezeR env (.bo i) with _ | ⟨d, e⟩
  · rfl
  · cases d <;> rfl
@[simp] theorem x_dLk {α : Type} {i : Nat} {f : Env → Out α} : dLk i f env = (lockEnv i env).bind fun e => noEx (f e) := (rfl)
def itSlot (sel : List (Key × D) → List D) (env : Env) : D × Ow → Out (List D × Env)
  | (.dct kds, .frz) => .ok (sel kds, env)
  | _ => .st
@[simp] theorem x_itSlot {sel : List (Key × D) → List D} {kds : List (Key × D)} : itSlot sel env (.dct kds, .frz) = .ok (sel kds, env) := (rfl)
@[simp] theorem x_itDct {sel : List (Key × D) → List D} {i : Nat} : itDct sel i env = (Out.of (env[i]?.bind id)).bind (itSlot sel env) := by
  unfold itDct
  rcases env[i]? with _ | _ | ⟨d, w⟩
  · rfl
  · rfl
  · cases d <;> cases w <;> rfl
end
theorem itemsD_mkK (f : Int → D) : ∀ ks : List Int, itemsD (mkK f ks) = ks.map fun k => .tup [.int k, f k]
  | [] => rfl
  | k :: ks => by
    have ih := itemsD_mkK f ks
    show D.tup [.int k, f k] :: itemsD (mkK f ks) = _
    rw [ih]; rfl
theorem keysD_mkK (f : Int → D) : ∀ ks : List Int, keysD (mkK f ks) = dI ks
  | [] => rfl
  | k :: ks => by
    have ih := keysD_mkK f ks
    show D.int k :: keysD (mkK f ks) = _
    rw [ih]; rfl
theorem valsD_mkK (f : Int → D) : ∀ ks : List Int, valsD (mkK f ks) = ks.map f
  | [] => rfl
  | k :: ks => by
    have ih := valsD_mkK f ks
    show f k :: valsD (mkK f ks) = _
    rw [ih]; rfl
section
variable {a : Int}
@[simp] theorem y_idxP {xs : List D} : dIdx (.tpl xs) (.int a) = (atI xs a).map (·, false) := by
  show ((atI xs a).map (·, false)).or _ = _
  cases atI xs a <;> rfl
@[simp] theorem y_lenP {xs : List D} : bLen [.tpl xs] = some (.int xs.length, false) := (rfl)
@[simp] theorem y_listP {xs : List D} : bList [.tpl xs] = some (.lst xs, true) := (rfl)
@[simp] theorem y_itP {xs : List D} : itemsT (.tpl xs) = some xs := (rfl)
@[simp] theorem y_seqP {xs : List D} : seqOf (.tpl xs) = some xs := (rfl)
@[simp] theorem y_tupL {xs : List D} : bTuple [.lst xs] = some (.tpl xs, false) := (rfl)
@[simp] theorem y_isiT {T : String} {xs : List D} : isiD T (.tup xs) = some ("tuple" == T || ("tuple" == "bool" && T == "int")) := (rfl)
@[simp] theorem y_isiP {T : String} {xs : List D} : isiD T (.tpl xs) = some ("tuple" == T || ("tuple" == "bool" && T == "int")) := (rfl)
theorem toPy_tpl (ys : List D) : toPy (.tpl ys) = .tuple (toPyA ys) := by simp [toPy]
@[simp] theorem y_allB {bs : List Bool} : bAll [.lst (bs.map .bl)] = some (.bl (bs.all id), false) := by
  have : ∀ bs : List Bool, blsD (bs.map .bl) = some bs := fun bs => by
    induction bs with
    | nil => rfl
    | cons b bs ih => show (blsD (bs.map .bl)).map (b :: ·) = _; rw [ih]; rfl
  show (blsD (bs.map .bl)).map (fun bs => (D.bl (bs.all id), false)) = _
  rw [this]; rfl
@[simp] theorem y_nnL {xs : List D} : VS.isNon (.lst xs) = false := (rfl)
@[simp] theorem y_nnT {xs : List D} : VS.isNon (.tup xs) = false := (rfl)
@[simp] theorem y_nnP {xs : List D} : VS.isNon (.tpl xs) = false := (rfl)
@[simp] theorem y_nnD {xs : List (Key × D)} : VS.isNon (.dct xs) = false := (rfl)
/-! len, of dicts too -/
theorem call_lenRd {X : Cx} : CallR X (.builtin "len") (fun xs H Q => ∃ a kvs, xs = [V.ref a] ∧ Rd H a (.dK kvs) ∧ Q (.int kvs.length) H) := by
  intro pins s σ H xs us Q I r h
  obtain ⟨a, kvs, rfl, ha, q⟩ := h
  obtain ⟨u, rfl, ru⟩ := L2.vals1 r
  cases ru
  exact d_len I ha fun t s' I' => ⟨.int kvs.length, H, I', ⟨t, rfl⟩, q⟩
def bLenD : OpN
  | [.dct kvs] => some (.int kvs.length, false)
  | _ => none
def bLenA : OpN := fun ds => (bLen ds).or (bLenD ds)
theorem bLenA_ok {X : Cx} {c : Nat → Value} : CallOk X c (.builtin "len") bLenA := by
  refine CallOk.or bLen_ok ⟨_, call_lenRd, fun G H vs ds d fr Q s hv e q => ?_⟩
  unfold bLenD at e
  split at e
  · cases e
    obtain ⟨v, rfl, h⟩ := vw1 hv
    obtain ⟨a, ws, rfl, h1, r⟩ := h.dct s
    exact ⟨a, ws, rfl, h1, by rw [r.length]; exact res_int s q⟩
  · cases e
@[simp] theorem y_lenAL {xs : List D} : bLenA [.lst xs] = some (.int xs.length, false) := (rfl)
@[simp] theorem y_lenAT {xs : List D} : bLenA [.tup xs] = some (.int xs.length, false) := (rfl)
@[simp] theorem y_lenAP {xs : List D} : bLenA [.tpl xs] = some (.int xs.length, false) := (rfl)
@[simp] theorem y_lenAS {xs : List Int} : bLenA [.scr xs] = some (.int xs.length, false) := (rfl)
@[simp] theorem y_lenAD {kvs : List (Key × D)} : bLenA [.dct kvs] = some (.int kvs.length, false) := (rfl)
theorem y_inD (f : Int → D) (ks : List Int) (k : Int) : dIn false (.int k) (.dct (mkK f ks)) = some (.bl (decide (k ∈ ks)), false) := by
  have e : inDct false (.int k) (.dct (mkK f ks)) = some (.bl (decide (k ∈ ks)), false) := by
    show ((some (getK (mkK f ks) (.inl k))).map fun o => (D.bl (blIf false o.isSome), false)) = _
    rw [getK_mkK]
    by_cases h : k ∈ ks
    · rw [if_pos h, decide_eq_true h]; rfl
    · rw [if_neg h, decide_eq_false h]; rfl
  show (none : Option (D × Bool)).or ((inDct false (.int k) (.dct (mkK f ks))).or ((inSet false (.int k) (.dct (mkK f ks))).or (inStr false (.int k) (.dct (mkK f ks))))) = _
  rw [e]; rfl
/-- the first of a pair -/
def fstI : D → Int
  | .tup (.int k :: _) => k
  | _ => 0
@[simp] theorem fstI_tup {k : Int} {r : List D} : fstI (.tup (.int k :: r)) = k := (rfl)
/-- None or an int among Nones and ints -/
theorem y_inO (x : Option Int) : ∀ xs : List (Option Int), dIn false (dO x) (.lst (xs.map dO)) = some (.bl (decide (x ∈ xs)), false) := by
  intro xs
  have pl : plain (.lst (xs.map dO)) 60 = true := by
    show plain (.lst (xs.map dO)) (59 + 1) = true
    simp only [plain]
    induction xs with
    | nil => rfl
    | cons y ys ih => rw [List.map_cons]; simp only [plainA]; rw [ih]; cases y <;> rfl
  have px : plain (dO x) 60 = true := by cases x <;> rfl
  have eq : ∀ y : Option Int, PyData.eqv (toPy (dO y)) (toPy (dO x)) = decide (x = y) := fun y => by
    cases x <;> cases y <;> simp [toPy, PyData.eqv, eqv_int, eq_comm]
  have any : ((toPyA (xs.map dO)).any fun z => PyData.eqv z (toPy (dO x))) = decide (x ∈ xs) := by
    induction xs with
    | nil => simp [toPyA]
    | cons y ys ih =>
      have pl' : plain (.lst (ys.map dO)) 60 = true := by
        show plain (.lst (ys.map dO)) (59 + 1) = true
        have : plain (.lst ((y :: ys).map dO)) (59 + 1) = true := pl
        simp only [plain, List.map_cons, plainA, Bool.and_eq_true] at this ⊢
        exact this.2
      rw [List.map_cons]
      simp only [toPyA, List.any_cons, ih pl', eq, List.mem_cons]
      by_cases h : x = y <;> by_cases h2 : x ∈ ys <;> simp [h, h2]
  show ((if (plain (dO x) 60 && plain (.lst (xs.map dO)) 60) = true then some (D.bl (blIf false ((toPyA (xs.map dO)).any fun z => PyData.eqv z (toPy (dO x)))), false) else none) : Option (D × Bool)).or _ = _
  rw [px, pl, any]; rfl
end
end VS
namespace VS
open PySem PySem.Spec PyProof.Rows L2
/-! ### sorted(xs), xs pairs of an int and anything, the ints different -/
def rSortIP (K : PySem.W.Frag) : List V → Hp → VK → Prop := fun vs H Q => ∃ (a : Addr) (zs : List (Addr × Int)), vs = [.ref a] ∧ SqL K H a (zs.map fun z => V.ref z.1) ∧ (∀ z ∈ zs, ∃ w, H z.1 = some (.tup [.int z.2, w])) ∧ (zs.map (·.2)).Nodup ∧
  ∀ (l : Addr) (ys : List (Addr × Int)), ys.Perm zs → ys.Pairwise (fun e f => e.2 ≤ f.2) → H l = none → Q (.ref l) (upd H l (.lst (ys.map fun z => V.ref z.1)))
section
variable {X : Cx} {c : Nat → Value}
theorem cr_sortIP : CallR X (.builtin "sorted") (rSortIP X.K) := by
  intro pins s σ H vs us Q I r h
  obtain ⟨a, zs, rfl, hs, hp, nd, q⟩ := h
  obtain ⟨its, rv, hl, hz⟩ := I.list hs
  rw [Vals.ref1 r]
  have ei : its = zs.map fun z => Value.ref z.1 := by
    have e1 : (zs.map fun z => V.ref z.1) = (zs.map (·.1)).map V.ref := by rw [List.map_map]; rfl
    rw [e1] at rv
    rw [refs_at rv, List.map_map]; rfl
  subst ei
  have at_ : ∀ z ∈ zs, ∃ y, IsIP s.heap (.ref z.1) z.2 y ∧ ipK s.heap (.ref z.1) = z.2 := fun z hz => by
    obtain ⟨w, hw⟩ := hp z hz
    obtain ⟨_, its, r2, o, ho, hc, n, hd⟩ := (show ObjOk X.prog X.w H s.heap z.1 (.tup [.int z.2, w]) from I.hok _ _ hw)
    obtain ⟨u, y, rfl, ru, ry⟩ := vals2 r2
    obtain ⟨t, rfl⟩ := ru
    refine ⟨y, ⟨z.1, o, t, n, rfl, ho, hc, hd⟩, ?_⟩
    unfold ipK
    show (match DT.seqAt0 s.heap z.1 with
      | some (.int i _) => i
      | _ => 0) = z.2
    rw [DT.seqAt0_of (items := #[Value.int z.2 t, y]) ⟨_, ho, hc, n, hd⟩]
    rfl
  have mem : ∀ v ∈ zs.map (fun z => Value.ref z.1), ∃ z ∈ zs, v = .ref z.1 := fun v hv => by
    obtain ⟨z, hz, rfl⟩ := List.mem_map.mp hv
    exact ⟨z, hz, rfl⟩
  have inj2 : ∀ z ∈ zs, ∀ y ∈ zs, z.2 = y.2 → z = y := fun z hz y hy e => by
    obtain ⟨i, hi⟩ := List.mem_iff_getElem?.mp hz
    obtain ⟨j, hj⟩ := List.mem_iff_getElem?.mp hy
    have m1 : (zs.map (·.2))[i]? = some z.2 := by rw [List.getElem?_map, hi]; rfl
    have m2 : (zs.map (·.2))[j]? = some y.2 := by rw [List.getElem?_map, hj]; rfl
    have : i = j := (List.getElem?_inj (List.getElem?_eq_some_iff.mp m1).1 nd).mp (m1.trans (by rw [m2, e]))
    subst this
    rw [hi] at hj; exact Option.some.inj hj
  have inj : ∀ v ∈ zs.map (fun z => Value.ref z.1), ∀ u ∈ zs.map (fun z => Value.ref z.1), ipK s.heap v = ipK s.heap u → v = u := fun v hv u hu e => by
    obtain ⟨z, hz, rfl⟩ := mem v hv
    obtain ⟨y, hy, rfl⟩ := mem u hu
    obtain ⟨_, _, k1⟩ := at_ z hz
    obtain ⟨_, _, k2⟩ := at_ y hy
    rw [k1, k2] at e
    rw [inj2 z hz y hy e]
  have hf : ∃ f : Value → Value, ∀ v ∈ zs.map (fun z => Value.ref z.1), IsIP s.heap v (ipK s.heap v) (f v) := by
    have hex : ∀ v, ∃ y, v ∈ zs.map (fun z => Value.ref z.1) → IsIP s.heap v (ipK s.heap v) y := fun v => by
      by_cases hv : v ∈ zs.map fun z => Value.ref z.1
      · obtain ⟨z, hz, rfl⟩ := mem v hv
        obtain ⟨y, h1, h2⟩ := at_ z hz
        exact ⟨y, fun _ => by rw [h2]; exact h1⟩
      · exact ⟨.none, fun h => absurd h hv⟩
    exact ⟨fun v => (hex v).choose, fun v hv => (hex v).choose_spec hv⟩
  obtain ⟨f, hf⟩ := hf
  rw [List.length_map] at hz
  refine SrtO.sorted_ord (swo_key (ipK s.heap)) hl.isList (by rw [List.length_map]; exact hz) (fun h2 h₁ a' ha' kk => ip_sortable (s := { s with heap := h₁ }) (by omega) (f := f) (fun v hv => (hf v hv).keeps fun b o e _ => (kk b o e).2) inj fun o e => ?_) fun out h1 h2 => ?_
  · have e' : some o = some (seqObj "list" (zs.map fun z => Value.ref z.1).toArray 0) := e.symm.trans ha'
    cases e'
    intro c
    exact absurd (Value.type.inj c) (by decide)
  · obtain ⟨ys, py, ey⟩ := perm_lift (fun z : Addr × Int => Value.ref z.1) h2.perm zs rfl
    have hsort : ys.Pairwise (fun e f => e.2 ≤ f.2) := by
      have o3 : out.Pairwise fun x y => decide (ipK s.heap y < ipK s.heap x) = false := h1
      rw [← ey, List.pairwise_map] at o3
      refine List.Pairwise.imp_of_mem (fun {x y} hx hy h => ?_) o3
      obtain ⟨_, _, k1⟩ := at_ x (py.mem_iff.mp hx)
      obtain ⟨_, _, k2⟩ := at_ y (py.mem_iff.mp hy)
      rw [k1, k2] at h
      have := of_decide_eq_false h
      omega
    obtain ⟨ep, he'⟩ := PyProof.Rows.sortedAll_at s.heap (zs.map fun z => Value.ref z.1) out.toArray
    have hlen : (ys.map fun z => V.ref z.1).length ≤ sizeLine := by
      rw [List.length_map, py.length_eq]; exact hz
    have rv2 : Vals (ys.map fun z => V.ref z.1) out := by
      rw [← ey]
      exact vals_maps (fun z : Addr × Int => V.ref z.1) (fun z => Value.ref z.1) ys fun _ _ => rfl
    exact ⟨.ref _, upd H (s.heap.objs.size + 1) (.lst (ys.map fun z => V.ref z.1)), I.laid (t' := s.toks) (fun _ _ => PyProof.Rows.sortedAll_old) (Nat.le_succ _) ⟨hlen, out, ep, rv2, he'⟩, rfl, q _ _ py hsort (I.hok.fresh (Nat.le_succ _))⟩
/-- the pairs of a list -/
def prsI : List D → Option (List (Int × D))
  | [] => some []
  | .tup [.int k, v] :: r => (prsI r).map ((k, v) :: ·)
  | _ :: _ => none
theorem prsI_ok {W : Wd} {G : Hp} : ∀ {ds : List D} {vs : List V} {ks : List (Int × D)}, RpA W G vs ds → prsI ds = some ks → ∃ zs : List (Addr × Int), vs = (zs.map fun z => V.ref z.1) ∧ zs.map (·.2) = ks.map (·.1) ∧ Paired (fun z k => z.2 = k.1 ∧ ∃ w, G z.1 = some (.tup [.int k.1, w]) ∧ Rp W G w k.2) zs ks
  | [], _, ks, .nil, e => by cases e; exact ⟨[], rfl, rfl, .nil⟩
  | d :: r, _, ks, .cons a t, e => by
    unfold prsI at e
    split at e
    · rename_i h; cases h
    · rename_i k v r' h
      cases h
      obtain ⟨js, e1, e2⟩ := Option.map_eq_some_iff.mp e
      subst e2
      obtain ⟨zs, h1, h2, h3⟩ := prsI_ok t e1
      cases a with
      | tup g ra =>
        cases ra with
        | cons rk rb =>
          cases rb with
          | cons rv rc =>
            cases rc
            rename_i p _ _
            cases rk
            exact ⟨(p, k) :: zs, by rw [h1]; rfl, by rw [List.map_cons, List.map_cons, h2], .cons ⟨rfl, _, g, rv⟩ h3⟩
    · cases e
theorem pair_perm {W : Wd} {G : Hp} {zs ys : List (Addr × Int)} {ks : List (Int × D)} (h : Paired (fun z k => z.2 = k.1 ∧ ∃ w, G z.1 = some (.tup [.int k.1, w]) ∧ Rp W G w k.2) zs ks) (p : ys.Perm zs) : ∃ js : List (Int × D), js.Perm ks ∧ js.map (·.1) = ys.map (·.2) ∧ RpA W G (ys.map fun z => V.ref z.1) (js.map pairD) := by
  have hl := h.length
  have key : ∀ {zs : List (Addr × Int)} {ks : List (Int × D)}, Paired (fun z k => z.2 = k.1 ∧ ∃ w, G z.1 = some (.tup [.int k.1, w]) ∧ Rp W G w k.2) zs ks → ∀ q ∈ zs.zip ks, q.1.2 = q.2.1 ∧ ∃ w, G q.1.1 = some (.tup [.int q.2.1, w]) ∧ Rp W G w q.2.2 := by
    intro zs ks h
    induction h with
    | nil => intro q hq; cases hq
    | cons a t ih =>
      intro q hq
      rcases List.mem_cons.mp hq with rfl | hq
      · exact a
      · exact ih q hq
  have e0 : (zs.zip ks).map (·.1) = zs := List.map_fst_zip (by omega)
  obtain ⟨qs, pq, eq⟩ := perm_lift (fun q : (Addr × Int) × Int × D => q.1) p (zs.zip ks) e0
  refine ⟨qs.map (·.2), ?_, ?_, ?_⟩
  · have := pq.map (·.2)
    rw [List.map_snd_zip (by omega)] at this
    exact this
  · rw [← eq, List.map_map, List.map_map]
    refine List.map_congr_left fun q hq => ?_
    exact (key h q (pq.mem_iff.mp hq)).1.symm
  · have all : ∀ q ∈ qs, q.1.2 = q.2.1 ∧ ∃ w, G q.1.1 = some (.tup [.int q.2.1, w]) ∧ Rp W G w q.2.2 := fun q hq => key h q (pq.mem_iff.mp hq)
    rw [← eq, List.map_map, List.map_map]
    clear pq eq
    induction qs with
    | nil => exact .nil
    | cons q qs ih =>
      obtain ⟨_, w, g, rw'⟩ := all q List.mem_cons_self
      exact .cons (.tup g (.cons (.int _) (.cons rw' .nil))) (ih fun x hx => all x (List.mem_cons_of_mem _ hx))
def bSortedT : OpN
  | [.lst ds] => (prsI ds).bind fun ks => if decide (ks.map (·.1)).Nodup = true then some (.lst ((sortP ks).map pairD), true) else none
  | _ => none
def bSortedA : OpN := fun ds => (bSorted ds).or (bSortedT ds)
theorem bSortedA_ok (hc : X.calm = true) : CallOk X c (.builtin "sorted") bSortedA := by
  refine CallOk.or (bSorted_ok hc) ⟨_, cr_sortIP, fun G H vs ds d fr Q s hv e q => ?_⟩
  unfold bSortedT at e
  split at e
  · obtain ⟨ks, e1, e2⟩ := Option.bind_eq_some_iff.mp e
    by_cases z : decide (ks.map (·.1)).Nodup = true
    · rw [if_pos z] at e2
      cases e2
      have nd := of_decide_eq_true z
      obtain ⟨v, rfl, h⟩ := vw1 hv
      obtain ⟨a, ws, rfl, h1, r⟩ := h.lst s
      obtain ⟨zs, rfl, h2, h3⟩ := prsI_ok r e1
      refine ⟨a, zs, rfl, SqL.of h1, fun z hz => ?_, by rw [h2]; exact nd, fun l ys py hsort hl => ?_⟩
      · obtain ⟨i, hi⟩ := List.mem_iff_getElem?.mp hz
        have hlt : i < ks.length := by rw [← h3.length]; exact (List.getElem?_eq_some_iff.mp hi).1
        obtain ⟨z', e', e3, w, g, _⟩ := DX.pget h3 (List.getElem?_eq_getElem hlt)
        rw [hi] at e'; cases e'
        exact ⟨w, by rw [e3]; exact s _ _ g⟩
      · obtain ⟨js, pj, ej, rj⟩ := pair_perm h3 py
        have es : js = sortP ks := by
          refine sortP_of nd pj ?_
          have h5 : (ys.map (·.2)).Pairwise (· ≤ ·) := List.pairwise_map.mpr hsort
          rw [← ej] at h5
          exact List.pairwise_map.mp h5
        rw [es] at rj
        exact q _ _ (Res.fresh s hl (.lst rj))
    · rw [if_neg z] at e2; cases e2
  · cases e
end
@[simp] theorem y_sortedAL {xs : List Int} : bSortedA [.lst (xs.map .int)] = some (.lst (dI (isort xs)), true) := by
  show (bSorted [.lst (xs.map .int)]).or _ = _
  rw [y_sortedL]; rfl
theorem y_sortedAK {f : Int → D} {ks : List Int} (h : ks.length < 64) : bSortedA [.dct (mkK f ks)] = some (.lst (dI (isort ks)), true) := by
  show (bSorted [.dct (mkK f ks)]).or _ = _
  rw [y_sortedK h]; rfl
theorem prsI_mk (f : Int → D) : ∀ ks : List Int, prsI (ks.map fun k => .tup [.int k, f k]) = some (ks.map fun k => (k, f k))
  | [] => rfl
  | k :: ks => by
    show (prsI (ks.map fun k => D.tup [.int k, f k])).map ((k, f k) :: ·) = _
    rw [prsI_mk f ks]; rfl
theorem y_sortedAT (f : Int → D) {ks : List Int} (nd : ks.Nodup) (h0 : ks ≠ []) : bSortedA [.lst (ks.map fun k => .tup [.int k, f k])] = some (.lst ((isort ks).map fun k => .tup [.int k, f k]), true) := by
  have e1 : bSorted [.lst (ks.map fun k => D.tup [.int k, f k])] = none := by
    cases ks with
    | nil => exact absurd rfl h0
    | cons k ks => rfl
  have e : ((ks.map fun k => (k, f k)).map (·.1)) = ks := by rw [List.map_map]; exact List.map_id' ks
  show (bSorted [.lst (ks.map fun k => D.tup [.int k, f k])]).or ((prsI (ks.map fun k => D.tup [.int k, f k])).bind fun ks => if decide (ks.map (·.1)).Nodup = true then some (D.lst ((sortP ks).map pairD), true) else none) = _
  rw [e1, prsI_mk, Option.bind_some, e, if_pos (decide_eq_true nd), sortP_map, List.map_map]
  rfl
end VS
namespace VS
open PySem PySem.Spec PyProof.Rows L2
section
variable {X : Cx} {c : Nat → Value} {Wx : WX}
/-! ### a, b = xs, xs a list or a tuple -/
def gSeqD (n : Nat) (gs : List D → Env → Out Env) : RV → Env → Out Env := fun r env => match (resolve env r).bind seqOf with
  | some ds => if Nat.beq ds.length n = true then gs ds env else .st
  | none => .st
theorem pg_or {e : Expr} {t u : TG} (h : PG X e t) (k : PG X e u) : PG X e (fun v σ H Q => t v σ H Q ∨ u v σ H Q) := ⟨fun pins s σ H v w Q I rv q => q.elim (h.run pins s σ H v w Q I rv) (k.run pins s σ H v w Q I rv)⟩
theorem dg_seq {es : List Expr} {k : Nat} {pos : Pos} {js : List Nat} {gs : List D → Env → Out Env} {n : Nat} (hc : X.calm = true) (ha : DGs X c Wx es js gs) (hn : (assignEach es X.env).length = n := by rfl) (hf : List.findIdx? (fun x => x.fst) (assignEach es X.env) = none := by rfl) : DG X c Wx (.Tuple es k pos) js (gSeqD n gs) := by
  obtain ⟨t, pa, ka⟩ := ha.ex
  refine ⟨_, pg_or (pg_tup hc pa hn hf) (pg_lst hc pa hn hf), fun F G env σ H v r Q R rv h => ?_⟩
  have h' : GPost (wd X c) Wx F G σ js Q (match (resolve env r).bind seqOf with
    | some ds => if Nat.beq ds.length n = true then gs ds env else .st
    | none => .st) := h
  cases e : resolve env r with
  | none => rw [e] at h'; exact h'.elim
  | some d =>
    rw [e] at h'
    cases e2 : seqOf d with
    | none => rw [show (some d).bind seqOf = none from e2] at h'; exact h'.elim
    | some ds =>
      rw [show (some d).bind seqOf = some ds from e2] at h'
      dsimp only at h'
      by_cases z : Nat.beq ds.length n = true
      · rw [if_pos z] at h'
        obtain ⟨a, vs, rfl, h1, hr⟩ := (rv.vw R e).seq R.same e2
        rcases h1 with h1 | h1
        · exact .inl ⟨a, vs, rfl, h1, by rw [hr.length]; exact Nat.eq_of_beq_eq_true z, ka F G env σ H vs ds Q R hr h'⟩
        · exact .inr ⟨a, vs, rfl, h1, by rw [hr.length]; exact Nat.eq_of_beq_eq_true z, ka F G env σ H vs ds Q R hr h'⟩
      · rw [if_neg z] at h'; exact h'.elim
end
@[simp] theorem x_gseq {n : Nat} {ks : List D → Env → Out Env} {r : RV} {env : Env} : gSeqD n ks r env = (Out.of ((resolve env r).bind seqOf)).bind fun ds => if Nat.beq ds.length n = true then ks ds env else .st := by
  unfold gSeqD
  cases (resolve env r).bind seqOf <;> rfl
end VS
namespace VS
open PySem PySem.Spec PyProof.Rows
/-! ### {**d, k: v, ..} -/
section
variable {prog : Program} {w : World} {K : Type} [DecidableEq K] {knd : KeyKind prog w K} {A : Around} {E : Value → Shared → Prop} {s : Shared}
theorem wp_dictPut {d : Addr} {kvs : List (K × Value)} {k : K} {key v : Value} {Q : Unit → Shared → Prop} (hkey : knd.is k key = true) (hm : s.heap.DictOf knd d kvs)
    (hQ : ∀ h', h'.DictOf knd d (stored kvs k v) → Heap.SameBut d s.heap h' → Q () { s with heap := h' })
    (hsz : kvs.length ≤ sizeLine) :
    wpAny (model prog w) A (dictPut d (knd.hash k) key v) Q E s := by
  obtain ⟨o, es, ep, ho, hc, hd, hk, hp, hn⟩ := hm
  have hes : es.size ≤ sizeLine := by have e1 := hp.length; have e2 : es.toList.length = es.size := by simp
                                      omega
  unfold dictPut
  refine wpAny_bind (wpAny_dictFind_of hkey ho hd hk ?_)
  have hidx : (es.findIdx? fun e => knd.is k e.key) = kvs.findIdx? fun kv => decide (kv.1 = k) := by
    rw [← hp.findIdx k]; obtain ⟨l⟩ := es; simp
  cases hi : es.findIdx? fun e => knd.is k e.key with
  | some i =>
    refine (wpAny_updateDict ho hd (hQ _ ⟨_, _, ep, Heap.get?_update_self _ ho (Obj.isFreed_of_dict (Obj.data_mapDict hd _)),
      hc.mapDict _, Obj.data_mapDict hd _, hk.modify _ _, ?_, ?_⟩ (Heap.SameBut.update ..)))
    · rw [stored, if_pos (any_of_findIdx_some (hidx ▸ hi))]
      have hl : (es.toList.findIdx? fun e => knd.is k e.key) = some i := by rw [← hi]; obtain ⟨l⟩ := es; simp
      have := hp.modify hn hl v
      obtain ⟨l⟩ := es
      simpa using this
    · rw [stored, if_pos (any_of_findIdx_some (hidx ▸ hi)), keys_map_store]; exact hn
  | none =>
    have hnot : k ∉ kvs.map (·.1) := not_mem_of_findIdx_none (hidx ▸ hi)
    have hany : ¬ (kvs.any fun kv => decide (kv.1 = k)) = true := by
      rw [List.any_eq_true]; rintro ⟨kv, hkv, he⟩
      exact hnot (List.mem_map.mpr ⟨kv, hkv, of_decide_eq_true he⟩)
    refine (wpAny_updateDictKeys (hz := hes) ho hd (hQ _ ⟨_, _, ep + 1, Heap.get?_update_self _ ho (Obj.isFreed_of_dict (Obj.data_mapDictKeys hd _)),
      hc.mapDictKeys _, Obj.data_mapDictKeys hd _, hk.push hkey _, ?_, ?_⟩ (Heap.SameBut.update ..)))
    · rw [stored, if_neg hany]
      have := hp.append hkey (knd.hash k) v
      obtain ⟨l⟩ := es
      simpa using this
    · rw [stored, if_neg hany, List.map_append, List.nodup_append]
      refine ⟨hn, by simp, ?_⟩
      intro a ha b hb
      simp only [List.map_cons, List.map_nil, List.mem_singleton] at hb
      subst hb
      exact fun e => hnot (e ▸ ha)
theorem wp_merge {d o : Addr} {kvs more : List (K × Value)} {Q : Unit → Shared → Prop} (hdo : d ≠ o) (hoS : (o == sysModules) = false)
    (hd : s.heap.DictOf knd d kvs) (ho : s.heap.DictOf knd o more)
    (hQ : ∀ h', h'.DictOf knd d (merged kvs more) → h'.DictOf knd o more → Heap.SameBut d s.heap h' → Q () { s with heap := h' })
    (hsz : kvs.length + more.length ≤ sizeLine) :
    wpAny (model prog w) A (mergeMapping d (.ref o) false) Q E s := by
  obtain ⟨od, esd, epd, hod, hcd, hdd, hkd, hpd, hnd⟩ := id hd
  obtain ⟨oo, eso, epo, hoo, hco, hdo', hko, hpo, hno⟩ := id ho
  have hlen : more.length = eso.size := by rw [← hpo.length]; simp
  have loop : wpAny (model prog w) A (do
      let size := (← dictEntries o).size
      let epoch ← dictEpoch o
      forIn (List.range size) PUnit.unit fun i (_ : PUnit) => (do
          let l' ← dictEntries o
          match l'[i]? with
            | some e => do
              holding [e.key, e.val] (dictPut d e.hash e.key e.val)
              let ep' ← dictEpoch o
              if (ep' != epoch) = true then do
                  (unsupported "dict.changed-during-merge" : Sem PUnit)
                  pure (ForInStep.yield PUnit.unit)
                else pure (ForInStep.yield PUnit.unit)
            | _ => do
              (unsupported "dict.changed-during-merge" : Sem PUnit)
              pure (ForInStep.yield PUnit.unit) : Sem (ForInStep PUnit))
      pure ()) Q E s := by
    refine wpAny_bind (wpAny_dictEntries hoo hdo' ?_)
    refine wpAny_bind (wpAny_dictEpoch hoo hdo' ?_)
    refine wpAny_bind ?_
    rw [List.range_eq_range']
    refine wpAny_forIn_list _
      (fun rest _ s' => ∃ h' i, s' = { s with heap := h' } ∧ rest = List.range' i (eso.size - i) ∧ i ≤ eso.size ∧ h'.DictOf knd d (merged kvs (more.take i)) ∧ h'.get? o = some oo ∧ Heap.SameBut d s.heap h')
      _ ?_ ?_ _ _ ⟨s.heap, 0, rfl, by simp, Nat.zero_le _, by simpa [merged] using hd, hoo, Heap.SameBut.refl _ _⟩
    · rintro x rest b s' ⟨h', i, rfl, hr, hi, hd', hoo', hs'⟩
      have hlt : i < eso.size := by
        rcases Nat.lt_or_ge i eso.size with h | h
        · exact h
        · rw [Nat.sub_eq_zero_of_le h] at hr; simp at hr
      obtain ⟨rfl, hrest⟩ : x = i ∧ rest = List.range' (i + 1) (eso.size - (i + 1)) := by
        have e : eso.size - i = (eso.size - (i + 1)) + 1 := by omega
        rw [e, List.range'_succ] at hr
        injection hr with h1 h2
        exact ⟨h1, h2⟩
      refine wpAny_bind (wpAny_dictEntries hoo' hdo' ?_)
      rw [Array.getElem?_eq_getElem hlt]
      obtain ⟨kv, hkv⟩ : ∃ kv, more[x]? = some kv := ⟨more[x]'(by rw [hlen]; exact hlt), List.getElem?_eq_getElem _⟩
      obtain ⟨k, v⟩ := kv
      obtain ⟨hkey, hval⟩ := hpo.get? (e := eso[x]) (by simp [hlt]) hkv
      obtain ⟨k', hkey', hhash⟩ := hko eso[x] (Array.getElem_mem hlt)
      obtain rfl : k' = k := knd.inj _ _ _ hkey' hkey
      show wpAny _ _ (holding [eso[x].key, eso[x].val] (dictPut d eso[x].hash eso[x].key eso[x].val) >>= _) _ _ _
      rw [hhash, hval]
      have hmx : (merged kvs (more.take x)).length ≤ sizeLine := by
        have e1 := merged_length_le kvs (more.take x)
        have e2 : (more.take x).length ≤ more.length := by rw [List.length_take]; omega
        omega
      refine wpAny_bind (wpAny_holding (wp_dictPut hkey hd' (fun h'' hd'' hs'' => ?_) hmx))
      have hoo'' : h''.get? o = some oo := (hs''.2 o (Ne.symm hdo)).trans hoo'
      refine wpAny_bind (wpAny_dictEpoch hoo'' hdo' ?_)
      rw [if_neg (by simp)]
      exact wpAny_pure ⟨h'', x + 1, rfl, hrest, hlt, by rw [merged_take_succ kvs more x (k', v) hkv]; exact hd'', hoo'', hs'.trans hs''⟩
    · rintro b s' ⟨h', i, rfl, hr, hi, hd', hoo', hs'⟩
      have hin : i = eso.size := by
        rcases Nat.lt_or_ge i eso.size with h | h
        · have e : eso.size - i = (eso.size - (i + 1)) + 1 := by omega
          rw [e, List.range'_succ] at hr; exact nomatch hr
        · exact Nat.le_antisymm hi h
      refine wpAny_pure (hQ h' ?_ ⟨oo, eso, epo, hoo', hco, hdo', hko, hpo, hno⟩ hs')
      rw [hin, ← hlen, List.take_length] at hd'; exact hd'
  have keys : ∀ (f : DictEntry → PUnit → Sem (ForInStep PUnit)), (∀ e, e ∈ eso.toList → ∀ c, f e c = pure (ForInStep.yield c)) → forIn eso PUnit.unit f = pure PUnit.unit := by
    intro f hf
    rw [← Array.forIn_toList]
    exact forIn_yield_id _ fun e he c => hf e he c
  unfold mergeMapping
  refine wpAny_bind (wpAny_isInstance ho.typeIs isSubtype_dict_dict ?_)
  dsimp only
  rw [if_pos rfl]
  refine wpAny_bind (wpAny_specialOf ho.typeIs F.slot_dict_iter.lookup ?_)
  have e1 : ((some (Value.builtin "dict.__iter__") : Option Value) == some (Value.builtin "dict.__iter__")) = true := by simp
  rw [e1]
  refine wpAny_bind (wpAny_pure ?_)
  dsimp only
  rw [if_neg (by rw [hoS]; exact Bool.false_ne_true)]
  refine wpAny_bind (wpAny_dictEntries hod hdd ?_)
  simp only [Bool.false_eq_true, if_false]
  split
  · refine wpAny_bind (wpAny_dictEntries hoo hdo' ?_)
    refine wpAny_bind ?_
    rw [keys _ fun e he c => ?_]
    · exact wpAny_pure loop
    · obtain ⟨k, hkey, _⟩ := hko e (Array.mem_toList_iff.mp he)
      have hv := knd.byValue k _ hkey
      cases h : e.key <;> first | rfl | (rw [h] at hv; exact nomatch hv)
  · exact loop
theorem forIn_gather' (d : Addr) (f : (Option (Sem Value) × Sem Value) → (Option Addr × List (Sem Value × Sem Value)) → Sem (ForInStep (Option Addr × List (Sem Value × Sem Value))))
    (hf : ∀ (p : Sem Value × Sem Value) (run : List (Sem Value × Sem Value)), run.length + 1 < 17 → f (some p.1, p.2) (some d, run) = pure (.yield (some d, run ++ [p]))) :
    ∀ (items run : List (Sem Value × Sem Value)), run.length + items.length < 17 → forIn (items.map fun p => (some p.1, p.2)) ((some d : Option Addr), run) f = pure (some d, run ++ items)
  | [], run, _ => by simp
  | p :: rest, run, h => by
    rw [List.map_cons, List.forIn_cons, hf p run (by simp at h; omega), pure_bind]
    have := forIn_gather' d f hf rest (run ++ [p]) (by simp at h ⊢; omega)
    simpa using this
theorem wp_dispUp {t0 : Sem Value} {pairs : List (Sem Value × Sem Value)} {Q : Value → Shared → Prop} (h0 : pairs ≠ []) (hlen : pairs.length ≤ 15)
    (h : wpAny (model prog w) A t0 (fun m s1 => ∃ b more, m = .ref b ∧ s.heap.objs.size ≠ b ∧ (b == sysModules) = false ∧ s1.heap.DictOf knd s.heap.objs.size [] ∧ s1.heap.DictOf knd b more ∧ more.length ≤ sizeLine ∧
      ∀ h1, h1.DictOf knd s.heap.objs.size (merged [] more) → Heap.SameBut s.heap.objs.size s1.heap h1 →
        s.heap.objs.size ≠ h1.objs.size ∧ (h1.objs.size == sysModules) = false ∧
        wpAny (model prog w) A (evalPairs pairs) (fun vs s2 => ∃ kvs more', Carries knd vs kvs ∧ s2.heap.DictOf knd h1.objs.size [] ∧ s2.heap.DictOf knd s.heap.objs.size more' ∧ more'.length + (merged [] kvs).length ≤ sizeLine ∧
          ∀ h3 h4, h3.DictOf knd h1.objs.size (merged [] kvs) → Heap.SameBut h1.objs.size s2.heap h3 → h4.DictOf knd s.heap.objs.size (merged more' (merged [] kvs)) → h4.DictOf knd h1.objs.size (merged [] kvs) → Heap.SameBut s.heap.objs.size h3 h4 →
            Q (.ref s.heap.objs.size) { s2 with heap := h4, toks := s2.toks + vs.length }) E { s1 with heap := h1.push { cls := .type "dict", data := .dict #[] } }) E
      { s with heap := s.heap.push { cls := .type "dict", data := .dict #[] } }) :
    wpAny (model prog w) A (dictDisplay ((none, t0) :: pairs.map fun p => (some p.1, p.2))) Q E s := by
  unfold dictDisplay
  dsimp only
  rw [List.forIn_cons]
  simp only [List.isEmpty_nil, if_true, pure_bind, bind_assoc]
  refine wpAny_bind (wpAny_bind (wpAny_bind (wpAny_alloc ?_)))
  refine wpAny_bind (wpAny_holding (wpAny_mono h (fun m s1 h1 => ?_) fun _ _ e => e))
  obtain ⟨b, more, rfl, hne, hsys, hd, hb, hsz, hk⟩ := h1
  refine wpAny_bind (wpAny_onRaise (wpAny_tryCatch (wpAny_onRaise (wpAny_holding (wp_merge hne hsys hd hb (fun h1 hd1 hb1 hs1 => ?_) (by simpa using hsz))))))
  obtain ⟨hne2, hsys2, hev⟩ := hk h1 hd1 hs1
  refine wpAny_pure ?_
  dsimp only
  rw [forIn_gather' _ _ (fun p run h => by
    have hne : ((run ++ [(p.1, p.2)]).length == 17) = false := by simp; omega
    simp only [hne, Bool.false_eq_true, if_false]) pairs [] (by simp; omega)]
  have hemp : pairs.isEmpty = false := by
    cases pairs with
    | nil => exact absurd rfl h0
    | cons a b => rfl
  refine wpAny_pure ?_
  simp only [List.nil_append, hemp, Bool.false_eq_true, if_false]
  refine wpAny_bind (wpAny_bind (wpAny_holding (wpAny_subDict (knd := knd) hlen (wpAny_mono hev (fun vs s2 h2 => ?_) fun _ _ e => e))))
  obtain ⟨kvs, more', hc, hd2, hd3, hsz2, hq⟩ := h2
  refine ⟨kvs, hc, hd2, fun h3 hd4 hs3 => ?_⟩
  have hd5 : h3.DictOf knd s.heap.objs.size more' := hd3.sameBut hs3 hne2
  refine wpAny_bind (wpAny_onRaise (wpAny_holding (wp_merge hne2 hsys2 hd5 hd4 (fun h4 hd6 hd7 hs4 => ?_) hsz2)))
  exact wpAny_pure (wpAny_pure (hq h3 h4 hd4 hs3 hd6 hd7 hs4))
end
section
open L2
def tDispUp (t0 : TE) (trs : List (TE × TE)) : TE := fun σ H Q => ∀ p, H p = none → t0 σ (upd H p (.dK [])) fun m H1 => H1 p = some (.dK []) ∧ ∃ b kvs0, m = .ref b ∧ b ≠ p ∧ Rd H1 b (.dK kvs0) ∧ kvs0.length ≤ 1000000 ∧
  ∀ p2, upd H1 p (.dK kvs0) p2 = none → tPairs trs σ (upd (upd H1 p (.dK kvs0)) p2 (.dK [])) fun ps H3 => H3 p = some (.dK kvs0) ∧ H3 p2 = some (.dK []) ∧ ∃ kvs : List (Key × V), ps = kvs.map (fun kv => (kV kv.1, kv.2)) ∧ kvs.length ≤ 15 ∧
    Q (.ref p) (upd (upd H3 p2 (.dK (mergeK [] kvs))) p (.dK (mergeK kvs0 (mergeK [] kvs))))
theorem pe_dispUp {X : Cx} {pos : Pos} {e0 : Expr} {t0 : TE} {keys : List (Option Expr)} {values : List Expr} {trs : List (TE × TE)} (ha : PE X e0 t0) (h : PPs X pos keys values trs) (hall : keys.all (·.isSome) = true) (hl : keys.length = values.length) (h0 : keys ≠ [])
    (h15 : keys.length ≤ 15) : PE X (.Dict (none :: keys) (e0 :: values) pos) (tDispUp t0 trs) := by
  refine ⟨fun pins s σ H Q I q => ?_⟩
  have hn := I.hok.fresh (Nat.le_refl s.heap.objs.size)
  have I1 := I.laid (a := s.heap.objs.size) (o := .dK []) (h' := s.heap.push { cls := .type "dict", data := .dict #[] }) (t' := s.toks) (fun _ _ q => Heap.get?_push_of_some _ q) (Nat.le_refl _) (dk_empty s.heap I.big)
  have hlen := pairTrees_length keys values X.env pos hall hl
  rw [arm_eval_Dict]
  have hshape : (evalEachOpt (none :: keys) X.env).zip ((evalEach (e0 :: values) X.env).map fun v => do let x ← v; standAt pos; pure x) = (none, do let x ← eval e0 X.env; standAt pos; pure x) :: (pairTrees keys values X.env pos).map fun p => (some p.1, p.2) := by
    rw [← zip_pairTrees keys values X.env pos hall hl]; rfl
  rw [hshape]
  refine wpAny_bind (wpAny_standAt (wp_dispUp (knd := mixKind X.prog X.w) ?_ (by rw [hlen]; exact h15) ?_))
  · intro he
    rw [he] at hlen
    exact h0 (List.length_eq_zero_iff.mp hlen.symm)
  refine wpAny_bind (thn (ha.run pins _ σ _ _ I1 (q _ hn)) fun m s1 ⟨v, H1, I2, rm, e, b, kvs0, ev, hb, hr, hz, q2⟩ => ?_)
  refine wpAny_bind (wpAny_standAt (wpAny_pure ?_))
  subst ev
  have em : m = .ref b := rm
  subst em
  obtain ⟨z, hsys, vs0, r0, dd⟩ := dk_rd I2.hok hr
  obtain ⟨z1, hsys1, vs1, r1, dd1⟩ := dk_of I2.hok e
  cases r1
  have hl0 : vs0.length = kvs0.length := r0.length.symm
  have hno : (vs0.map (·.1)).Nodup := by obtain ⟨_, _, _, _, _, _, _, _, n⟩ := dd; exact n
  refine ⟨b, vs0, rfl, Ne.symm hb, hsys, dd1, dd, by rw [hl0, sizeLine_eq]; omega, fun h1 hd1 hs1 => ?_⟩
  rw [merged_nil_of_nodup vs0 hno] at hd1
  have he1 : ∃ q, h1.get? s.heap.objs.size = some q := let ⟨q, _, _, hq, _⟩ := hd1; ⟨q, hq⟩
  have I3 := d_write (t' := s1.toks) I2 (by rw [e]; exact True.intro) hs1 he1 (dk_new z hsys1 r0 hd1)
  have hn2 := I3.hok.fresh (Nat.le_refl h1.objs.size)
  have hne : s.heap.objs.size ≠ h1.objs.size := fun ez => by
    have e2 : upd H1 s.heap.objs.size (.dK kvs0) h1.objs.size = none := hn2
    rw [← ez, upd_same] at e2; cases e2
  have I4 := I3.laid (a := h1.objs.size) (o := .dK []) (h' := h1.push { cls := .type "dict", data := .dict #[] }) (t' := s1.toks) (fun _ _ q => Heap.get?_push_of_some _ q) (Nat.le_refl _) (dk_empty h1 I3.big)
  refine ⟨hne, beq_eq_false_iff_ne.mpr (Ne.symm (Nat.ne_of_lt I3.big)), thn (h.run pins _ σ _ _ I4 (q2 _ hn2)) fun ws s2 ⟨ps, H3, I5, rel, e3, e4, kvs, ep, lk, q3⟩ => ?_⟩
  subst ep
  obtain ⟨rs, c, rk⟩ := carries_of (P := X.prog) (w := X.w) rel
  obtain ⟨z3, _, vs3, r3, dd3⟩ := dk_of I5.hok e3
  obtain ⟨_, _, vs4, r4, dd4⟩ := dk_of I5.hok e4
  cases r4
  have hl3 : vs3.length = kvs0.length := r3.length.symm
  have hz5 : (mergeK [] kvs).length ≤ 15 := by
    have h1 := length_mergeK kvs []
    rw [List.length_nil] at h1; omega
  have rk5 : KV (mergeK [] kvs) (merged [] rs) := rk.merge .nil
  have hz6 : (mergeK kvs0 (mergeK [] kvs)).length ≤ sizeLine := by
    have h1 := length_mergeK (mergeK [] kvs) kvs0
    rw [sizeLine_eq]; omega
  refine ⟨rs, vs3, c, dd4, dd3, by rw [hl3, ← rk5.length, sizeLine_eq]; omega, fun h3 h4 hd3 hs3 hd4 hd5 hs4 => ?_⟩
  have he3 : ∃ q, h3.get? h1.objs.size = some q := let ⟨q, _, _, hq, _⟩ := hd3; ⟨q, hq⟩
  have I6 := d_write (t' := s2.toks) I5 (by rw [e4]; exact True.intro) hs3 he3 (dk_new (by rw [sizeLine_eq]; omega) (beq_eq_false_iff_ne.mpr (Ne.symm (Nat.ne_of_lt I3.big))) rk5 hd3)
  have he4 : ∃ q, h4.get? s.heap.objs.size = some q := let ⟨q, _, _, hq, _⟩ := hd4; ⟨q, hq⟩
  have I7 := d_write (t' := s2.toks + ws.length) I6 (by rw [upd_ne hne, e3]; exact True.intro) hs4 he4 (dk_new hz6 hsys1 (rk5.merge r3) hd4)
  exact ⟨.ref s.heap.objs.size, _, I7, rfl, q3⟩
end
section
open L2
variable {X : Cx} {c : Nat → Value} {Wx : WX}
def ixrD : V → V → Hp → VK → Prop := fun x y H Q => ∃ a v, x = .ref a ∧ DGet H a y (some v) ∧ Q v H
/-- {**d, x: d[y], y: x} -/
def dUp (i j k : Nat) : Env → Out (RV × Env) := fun env => (lockEnv i env).bind fun e => match e[i]?, e[j]?, e[k]? with
  | some (some (.dct kds, _)), some (some (.int x, .frz)), some (some (.int y, .frz)) => if Nat.ble kds.length 1000000 = true then (match getK kds (.inl y) with
    | some v => .ok (.fr (.dct (mergeD kds (mergeD [] [(.inl x, v), (.inl y, .int x)]))), e)
    | none => .st) else .st
  | _, _, _ => .st
theorem de_up {i j k : Nat} {e0 ek ep es ek2 : Expr} {pos : Pos} (h0 : PE X e0 (tVar i)) (hk : PE X ek (tVar j)) (hix : PE X es (tOp ixrD (tVar i) (tVar k))) (hp : PE X ep (tVar k)) (hk2 : PE X ek2 (tVar j)) :
    DE X c Wx (.Dict [none, some ek, some ep] [e0, es, ek2] pos) (dUp i j k) := by
  refine ⟨_, pe_dispUp h0 (pps_cons hk hix (pps_cons hp hk2 pps_nil)) rfl rfl (by simp) (by simp), fun F G env σ H Q R h => ?_⟩
  unfold dUp at h
  cases e : lockEnv i env with
  | st => rw [e] at h; exact h.elim
  | ex x e' =>
    unfold lockEnv at e
    split at e <;> cases e
  | ok e1 =>
    rw [e] at h
    obtain ⟨a, G1, kds, hv, he1, s1, R1, kvs, hr, rk⟩ := lockEnv_ok R e
    have h' : EPost (wd X c) Wx F G σ Q (match e1[i]?, e1[j]?, e1[k]? with
      | some (some (.dct kds, _)), some (some (.int x, .frz)), some (some (.int y, .frz)) => if Nat.ble kds.length 1000000 = true then (match getK kds (.inl y) with
        | some v => .ok (.fr (.dct (mergeD kds (mergeD [] [(.inl x, v), (.inl y, .int x)]))), e1)
        | none => .st) else .st
      | _, _, _ => .st) := h
    clear h
    rw [he1] at h'
    split at h'
    case h_2 => exact h'.elim
    rename_i kds' ow x y ei ej ek
    cases ei
    by_cases hz : Nat.ble kds.length 1000000 = true
    case neg => rw [if_neg hz] at h'; exact h'.elim
    rw [if_pos hz] at h'
    split at h'
    case h_2 => exact h'.elim
    rename_i dv hg
    obtain ⟨vx, hx, rx⟩ := R1.cells j _ ej
    obtain ⟨vy, hy, ry⟩ := R1.cells k _ ek
    have rx' : Rp (wd X c) G1 vx (.int x) := rx
    have ry' : Rp (wd X c) G1 vy (.int y) := ry
    cases rx'
    cases ry'
    obtain ⟨v, dv', w1, w2, w3⟩ | ⟨w1, w2⟩ := RpK.get (.inl y) rk
    case inr => rw [w2] at hg; cases hg
    rw [hg] at w2
    cases w2
    intro p hp
    have hRd : ∀ {H' : Hp}, (∀ b o, H b = some o → H' b = some o) → Rd H' a (.dK kvs) := fun k => hr.elim (fun g => .inl (k _ _ (R1.same _ _ g))) fun ⟨o, g⟩ => .inr ⟨o, k _ _ (R1.same _ _ g)⟩
    have hap : a ≠ p := fun z => by
      subst z
      rcases hr with g | ⟨o, g⟩
      · rw [R1.same _ _ g] at hp; cases hp
      · rw [R1.same _ _ g] at hp; cases hp
    have k1 : ∀ (o : HO) b u, H b = some u → upd H p o b = some u := fun o b u q => by
      rw [upd_ne (fun z => by rw [z, hp] at q; cases q)]; exact q
    have hl : kvs.length ≤ 1000000 := by rw [rk.length]; exact Nat.le_of_ble_eq_true hz
    refine ⟨_, hv, upd_same, a, kvs, rfl, hap, hRd (k1 _), hl, fun p2 hp2 => ?_⟩
    have hne : p2 ≠ p := fun z => by rw [z, upd_same] at hp2; cases hp2
    rw [upd_ne hne, upd_ne hne] at hp2
    have k2 : ∀ b u, H b = some u → upd (upd (upd H p (.dK [])) p (.dK kvs)) p2 (.dK []) b = some u := fun b u q => by
      rw [upd_ne (fun z => by rw [z, hp2] at q; cases q), upd_ne (fun z => by rw [z, hp] at q; cases q), upd_ne (fun z => by rw [z, hp] at q; cases q)]; exact q
    have hfin : upd (upd (upd (upd (upd H p (.dK [])) p (.dK kvs)) p2 (.dK [])) p2 (.dK (mergeK [] [(.inl x, v), (.inl y, V.int x)]))) p (.dK (mergeK kvs (mergeK [] [(.inl x, v), (.inl y, V.int x)])))
        = upd (upd H p2 (.dK (mergeK [] [(.inl x, v), (.inl y, V.int x)]))) p (.dK (mergeK kvs (mergeK [] [(.inl x, v), (.inl y, V.int x)]))) := by
      funext b
      by_cases z : b = p
      · rw [z, upd_same, upd_same]
      · rw [upd_ne z, upd_ne z]
        by_cases z2 : b = p2
        · rw [z2, upd_same, upd_same]
        · rw [upd_ne z2, upd_ne z2, upd_ne z2, upd_ne z, upd_ne z]
    refine ⟨_, hx, _, hv, _, hy, a, v, rfl, .inl ⟨kvs, .inl y, hRd k2, rfl, w1.symm⟩, _, hy, _, hx, ?_, upd_same, [(.inl x, v), (.inl y, V.int x)], rfl, by simp, ?_⟩
    · rw [upd_ne (Ne.symm hne), upd_same]
    · rw [hfin]
      have R2 := R1.alloc (o := .dK (mergeK [] [(.inl x, v), (.inl y, V.int x)])) hp2
      have hp' : upd H p2 (.dK (mergeK [] [(.inl x, v), (.inl y, V.int x)])) p = none := by rw [upd_ne (Ne.symm hne)]; exact hp
      have rk2 : RpK (wd X c) G1 (mergeK [] [(.inl x, v), (.inl y, V.int x)]) (mergeD [] [(.inl x, dv), (.inl y, D.int x)]) := RpK.merge (.cons w3 (.cons (.int x) .nil)) .nil
      obtain ⟨G2, s2, R3, ok⟩ := R2.res (Res.fresh R2.same hp' (.dct (RpK.merge rk2 rk)))
      exact h' _ G2 _ R3 (s1.trans s2) ok
theorem ix_dct' (hu : X.A.units + 1 < cLine) : IxR X ixrD := ix_dct hu
theorem q_up {i j k : Nat} {e0 ek ep ea eb ek2 : Expr} {pos pos1 : Pos} (hu : X.A.units + 1 < cLine) (h0 : PE X e0 (tVar i)) (hk : PE X ek (tVar j)) (ha : PE X ea (tVar i)) (hb : PE X eb (tVar k)) (hs : PlainIx eb) (hp : PE X ep (tVar k)) (hk2 : PE X ek2 (tVar j)) :
    DE X c Wx (.Dict [none, some ek, some ep] [e0, .Subscript ea eb pos1, ek2] pos) (dUp i j k) := de_up h0 hk (pe_ix (ix_dct' hu) ha hb hs) hp hk2
end
@[simp] theorem y_isB {neg : Bool} {b : Bool} {d : D} : isOp neg d (.bl b) = some (.bl (blIf neg (isBl b d)), false) := by unfold isOp; rfl
@[simp] theorem isBl_bl {b c : Bool} : isBl b (.bl c) = (c == b) := (rfl)
@[simp] theorem isBl_non {b : Bool} : isBl b .non = false := (rfl)
@[simp] theorem isBl_int {b : Bool} {i : Int} : isBl b (.int i) = false := (rfl)
end VS
namespace VS
open PySem PySem.Spec PyProof.Rows L2
/-! ### x *= e, xs[i] += e -/
section
variable {X : Cx} {c : Nat → Value} {Wx : WX}
theorem iop_mulI : OpR X (inplaceOp .Mult) (rI IntMulOk fun i j => .int (i * j)) := opI fun _ _ _ _ _ _ _ hc q => imul_int q hc
theorem iMul_ok : OpOk X c (inplaceOp .Mult) (iiOp mulOk fun i j => i * j) := iiOp_ok iop_mulI fun _ _ h => mulOk_ok h
def rGetL : V → V → Hp → VK → Prop := fun o i H Q => ∃ (p : Addr) (xs : List V) (k : Int) (v : V), o = .ref p ∧ i = .int k ∧ 0 ≤ k ∧ H p = some (.lst xs) ∧ xs[k.toNat]? = some v ∧ Q v H
theorem get_list : PGet X rGetL := by
  intro pins s σ H o i ov iv Q I ro ri h
  obtain ⟨p, xs, k, v, rfl, rfl, h0, hp, hx, q⟩ := h
  cases ro
  obtain ⟨t, rfl⟩ := ri
  obtain ⟨its, n, r, ho, hz⟩ := I.lst hp
  have hk : k.toNat < xs.length := (List.getElem?_eq_some_iff.mp hx).1
  have hn := line63
  obtain ⟨u, hu, ru⟩ : ∃ u, its[k.toNat]? = some u ∧ RelV v u := Vals.get r hx
  exact wpAny_getItem_list (x := u) ⟨_, ho, rfl, n, rfl⟩ h0 (by omega) (by simpa using hu) ⟨v, H, I, ru, q⟩
def getLD : D → D → Option D
  | .lst xs, .int k => if 0 ≤ k then xs[k.toNat]? else none
  | _, _ => none
/-- xs[f] += g, ints -/
def sAugL (i : Nat) (f g : Env → Out (RV × Env)) : Env → Out Fl := fun env => (chkOwn isLst i env).bind fun env1 => (f env1).bind fun q => match ownAt i q.2, resolve q.2 q.1 with
  | some (d2, _), some di => match getLD d2 di with
    | some (.int a) => (g q.2).bind fun r => match resolve r.2 r.1 with
      | some (.int b) => (finS wSetL i (.int (a + b)) q.1 r.2).bind fun e => .ok (.nx e)
      | _ => .st
    | _ => .st
  | _, _ => .st
theorem ds_augL {x : Str} {i : Nat} {ei e : Expr} {p0 tpos pos : Pos} {f g : Env → Out (RV × Env)} (ha : PE X (.Name x p0) (tVar i)) (hb : DE X c Wx ei f) (he : DE X c Wx e g)
    (hs : ∀ ov iv new, augStore ei ov iv new = (do holding [new, ov, iv] (setItem ov iv new); release [new, ov, iv] []; pure .next) := by intros; rfl) :
    DS X c Wx (.AugAssign (.Subscript (.Name x p0) ei tpos) .Add e pos) (sAugL i f g) := by
  obtain ⟨tb, pb, kb⟩ := hb.runP
  obtain ⟨te, pe, ke⟩ := he.runP
  refine ⟨_, ps_augS ha pb get_list pe ip_add set_list hs, fun F G env σ H D R h => ?_⟩
  obtain ⟨a, o, d, ha', ho, sh, hp, h1⟩ := chkOwn_ok (k := fun env1 => (f env1).bind fun q => match ownAt i q.2, resolve q.2 q.1 with
    | some (d2, _), some di => match getLD d2 di with
      | some (.int a) => (g q.2).bind fun r => match resolve r.2 r.1 with
        | some (.int b) => (finS wSetL i (.int (a + b)) q.1 r.2).bind fun e => .ok (.nx e)
        | _ => .st
      | _ => .st
    | _, _ => .st) R pl_S h
  refine ⟨_, ha', ?_⟩
  refine kb F G env σ H _ _ _ pl_S R h1 fun ri env2 u G2 H2 R2 s2 p2 h2 => ?_
  dsimp only at h2
  cases e1 : ownAt i env2 with
  | none => rw [e1] at h2; exact h2.elim
  | some w =>
    obtain ⟨d2, ow⟩ := w
    cases e2 : resolve env2 ri with
    | none => rw [e1, e2] at h2; exact h2.elim
    | some di =>
      rw [e1, e2] at h2
      dsimp only at h2
      obtain ⟨he1, hw⟩ := ownAt_eq e1
      obtain ⟨a2, ha2, ⟨hg, o2, ho2, sh2⟩, _⟩ := R2.own he1 hw
      rw [ha'] at ha2; cases ha2
      cases e3 : getLD d2 di with
      | none => rw [e3] at h2; exact h2.elim
      | some old =>
        rw [e3] at h2
        cases old with
        | int a0 =>
          unfold getLD at e3
          split at e3
          case h_2 => cases e3
          rename_i xs k
          split at e3
          case isFalse => cases e3
          rename_i hk0
          cases sh2 with
          | lst r =>
            rename_i vs
            have hu := (p2.vw R2 e2).int
            subst hu
            obtain ⟨v, hv, rv⟩ := r.get e3
            cases rv
            refine ⟨a, vs, k, .int a0, rfl, rfl, hk0, ho2, hv, ?_⟩
            refine ke F G2 env2 σ H2 _ _ _ (pl_S.grow s2) R2 h2 fun rb env3 w G3 H3 R3 s3 p3 h3 => ?_
            dsimp only at h3
            cases e4 : resolve env3 rb with
            | none => rw [e4] at h3; exact h3.elim
            | some y =>
              rw [e4] at h3
              cases y with
              | int b =>
                have hw2 := (p3.vw R3 e4).int
                subst hw2
                refine ⟨a0, b, rfl, rfl, ?_⟩
                unfold finS at h3
                cases e5 : ownAt i env3 with
                | none => rw [e5] at h3; exact h3.elim
                | some w3 =>
                  obtain ⟨d3, ow3⟩ := w3
                  cases e6 : resolve env3 ri with
                  | none => rw [e5, e6] at h3; exact h3.elim
                  | some di3 =>
                    rw [e5, e6] at h3
                    dsimp only at h3
                    cases e7 : wSetL d3 di3 (.int (a0 + b)) with
                    | none => rw [e7] at h3; exact h3.elim
                    | some d' =>
                      rw [e7] at h3
                      obtain ⟨he3, hw3⟩ := ownAt_eq e5
                      obtain ⟨a3, ha3, ⟨hg3, o3, ho3, sh3⟩, _⟩ := R3.own he3 hw3
                      rw [ha'] at ha3; cases ha3
                      unfold wSetL at e7
                      split at e7
                      case h_2 => cases e7
                      rename_i xs3 k3
                      obtain ⟨j, q1, q2⟩ := Option.map_eq_some_iff.mp e7
                      cases q2
                      cases sh3 with
                      | lst r3 =>
                        rename_i vs3
                        have hk3 := ((p2.mono (Le.of s3)).vw R3 e6).int
                        cases hk3
                        refine ⟨a, vs3, _, j, rfl, rfl, ho3, by rw [r3.length]; exact q1, ?_⟩
                        exact h3 _ G3 _ (R3.write he3 hw3 ha' (.lst (r3.set (.int (a0 + b)) j))) (s2.trans s3)
              | _ => exact h3.elim
        | _ => exact h2.elim
/-! ### xs.count(k), list(range(..)) -/
def mCount : OpM
  | .lst ys, [.int k] => match intsD ys with
    | some ns => some (.int ((ns.count k : Nat) : Int), false)
    | none => none
  | _, _ => none
theorem mCount_ok : MtOk X c "list.count" mCount := by
  refine ⟨_, mt_lcount, fun G H x vs dx ds d fr Q s hx hv e q => ?_⟩
  unfold mCount at e
  split at e
  · rename_i ys k
    split at e
    · rename_i ns hi
      cases e
      obtain ⟨v, rfl, h⟩ := vw1 hv
      obtain ⟨a, xs, rfl, h1, r⟩ := hx.lst s
      rw [intsD_eq hi] at r
      rw [r.ints] at h1
      have hk := h.int
      subst hk
      exact ⟨a, ns, k, rfl, rfl, SqL.of h1, res_int s q⟩
    · cases e
  · cases e
theorem q_count {o e : Expr} {apos cpos : Pos} {f h : Env → Out (RV × Env)} (ha : DE X c Wx o f) (hb : DE X c Wx e h) (h1 : attributeBase o "count" X.env (eval o X.env) = eval o X.env := by rfl)
    (h2 : ((backTo cpos (starEach [e] X.env)).all (fun x => !x.1) && (backToKw cpos (keywordEach [] X.env)).all (fun x => x.1.isSome) && decide ([e].length + ([] : List Keyword).length + (if ([] : List Keyword).isEmpty then 0 else 1) < 30)) = true := by rfl)
    (h3 : (apos.endLine == cpos.line) = true := by rfl) (h4 : starEach [e] X.env = (false, eval e X.env) :: starEach [] X.env := by rfl) (h5 : (backTo cpos (starEach [] X.env)).any (·.1) = false := by rfl) : DE X c Wx (.Call (.Attribute o "count" apos) [e] [] cpos) (dMeth mCount f (dCons h dNil)) :=
  de_methL mCount_ok PySem.F.slot_list_count PySem.F.type_list_count ha (da_cons hb da_nil h4) h1 h2 h3 h4 h5
def okRg (a b : Int) : Bool := decide (0 ≤ a) && decide (a ≤ 16777216) && decide (0 ≤ b) && decide (b ≤ 16777216)
theorem okRg_ok {a b : Int} (h : okRg a b = true) : RgOk a b := by
  unfold okRg at h
  simp only [Bool.and_eq_true, decide_eq_true_eq] at h
  exact RgOk.of_le h.1.1.1 h.2 h.1.1.2 h.1.2
theorem rg_rp {W : Wd} {G : Hp} (a b : Int) : RpA W G (rgV a b) (itRange a (b - a).toNat) := by
  unfold rgV itRange
  generalize List.range (b - a).toNat = L
  induction L with
  | nil => exact .nil
  | cons x L ih => exact .cons (.int _) ih
def dLstRg (f g : Env → Out (RV × Env)) : Env → Out (RV × Env) := fun env => (f env).bind fun p => (g p.2).bind fun q => match optI p.1 q.2, optI q.1 q.2 with
  | some a, some b => if okRg a b = true then .ok (.fr (.lst (itRange a (b - a).toNat)), q.2) else .st
  | _, _ => .st
def dLstRg1 (f : Env → Out (RV × Env)) : Env → Out (RV × Env) := fun env => (f env).bind fun p => match optI p.1 p.2 with
  | some b => if okRg 0 b = true then .ok (.fr (.lst (itRange 0 b.toNat)), p.2) else .st
  | _ => .st
theorem q_listRg1 {e : Expr} {p1 pos1 p pos : Pos} {f : Env → Out (RV × Env)} (hc : X.calm = true) (hg : Gl X "list") (hm : X.mg "list" = none) (hg' : Gl X "range") (hm' : X.mg "range" = none) (ha : DE X c Wx e f)
    (na : starEach [e] X.env = (false, eval e X.env) :: starEach [] X.env := by rfl) (nb : starEach [.Call (.Name "range" p1) [e] [] pos1] X.env = (false, eval (.Call (.Name "range" p1) [e] [] pos1) X.env) :: starEach [] X.env := by rfl) :
    DE X c Wx (.Call (.Name "list" p) [.Call (.Name "range" p1) [e] [] pos1] [] pos) (dLstRg1 f) := by
  obtain ⟨t, pa, ka⟩ := ha.runP
  refine ⟨_, pe_listRg hc hg hm (prg_1 hg' hm' pa na) nb, fun F G env σ H Q R h => ?_⟩
  refine ka F G env σ H _ _ _ pl_E R h fun r env1 v G1 H1 R1 s1 rv h1 => ?_
  dsimp only at h1
  cases e1 : optI r env1 with
  | none => rw [e1] at h1; exact h1.elim
  | some b =>
    rw [e1] at h1
    dsimp only at h1
    by_cases z : okRg 0 b = true
    · rw [if_pos z] at h1
      refine ⟨b, optI_ok R1 rv e1, okRg_ok z, fun q hq => ?_⟩
      obtain ⟨G2, s2, R2, ok⟩ := R1.res (Res.fresh R1.same hq (.lst (rg_rp 0 b)))
      rw [Int.sub_zero] at ok
      exact h1 _ G2 _ R2 (s1.trans s2) ok
    · rw [if_neg z] at h1; exact h1.elim
theorem q_listRg2 {e e2 : Expr} {p1 pos1 p pos : Pos} {f g : Env → Out (RV × Env)} (hc : X.calm = true) (hg : Gl X "list") (hm : X.mg "list" = none) (hg' : Gl X "range") (hm' : X.mg "range" = none) (ha : DE X c Wx e f) (hb : DE X c Wx e2 g)
    (na : starEach [e, e2] X.env = (false, eval e X.env) :: starEach [e2] X.env := by rfl) (na2 : starEach [e2] X.env = (false, eval e2 X.env) :: starEach [] X.env := by rfl)
    (nb : starEach [.Call (.Name "range" p1) [e, e2] [] pos1] X.env = (false, eval (.Call (.Name "range" p1) [e, e2] [] pos1) X.env) :: starEach [] X.env := by rfl) :
    DE X c Wx (.Call (.Name "list" p) [.Call (.Name "range" p1) [e, e2] [] pos1] [] pos) (dLstRg f g) := by
  obtain ⟨t, pa, ka⟩ := ha.runP
  obtain ⟨t2, pb, kb⟩ := hb.runP
  refine ⟨_, pe_listRg hc hg hm (prg_2 hg' hm' pa pb na na2 (by rw [na2]; rfl)) nb, fun F G env σ H Q R h => ?_⟩
  refine ka F G env σ H _ _ _ pl_E R h fun r env1 v G1 H1 R1 s1 rv h1 => ?_
  refine kb F G1 env1 σ H1 _ _ _ (pl_E.grow s1) R1 h1 fun r2 env2 v2 G2 H2 R2 s2 rv2 h2 => ?_
  dsimp only at h2
  cases e1 : optI r env2 with
  | none => rw [e1] at h2; exact h2.elim
  | some a =>
    cases e2 : optI r2 env2 with
    | none => rw [e1, e2] at h2; exact h2.elim
    | some b =>
      rw [e1, e2] at h2
      dsimp only at h2
      by_cases z : okRg a b = true
      · rw [if_pos z] at h2
        refine ⟨a, b, optI_ok R2 (rv.mono (Le.of s2)) e1, optI_ok R2 rv2 e2, okRg_ok z, fun q hq => ?_⟩
        obtain ⟨G3, s3, R3, ok⟩ := R2.res (Res.fresh R2.same hq (.lst (rg_rp a b)))
        exact h2 _ G3 _ R3 (s1.trans (s2.trans s3)) ok
      · rw [if_neg z] at h2; exact h2.elim
end
end VS
namespace VS
open PySem PySem.Spec PyProof.Rows
/-! ### max(xs, default=d) -/
section
variable {prog : Program} {w : World} {A : Around} {R : Result → Shared → Prop} {I : Addr} {fp wr : List Addr} {n : Nat} {P : Nat → Value → Prop} {St : Nat → Heap → Prop} {kw : List (Str × Value)}
theorem maxK_loop (W : Walks prog w A.in1 I fp wr n P St) (bt : Nat → Nat → Bool) (hcmp : CmpOf prog w A.in1 .Gt P bt) (S : Addr) (hSf : S ∉ fp) :
    ∀ (k j : Nat) (s : Shared) (vb : Value) (c : Nat), n - (j + 1) = k → j + 1 ≤ n → St (j + 1) s.heap → P (argBest bt j) vb →
    s.heap.get? S = some { cls := .type "list", dict := none, data := .seq #[vb, vb] c, slots := #[] } →
    (∀ v h' tk, P (argBest bt (n - 1)) v → (∀ b o, b ∉ wr → b ≠ S → s.heap.get? b = some o → h'.get? b = some o) → R (.ok (.ret v)) { s with heap := h', toks := tk }) →
    codeAny (model prog w) A (.builtin "max.loop" ⟨[.ref I, .none, .ref S], kw⟩) R s := by
  have hSw : S ∉ wr := fun h => hSf (W.sub _ h)
  have hname : (toString "max" ++ toString ".loop" : String) = "max.loop" := by decide
  intro k
  induction k with
  | zero =>
    intro j s vb c hk hj hst hPb hS hR
    have hin : j + 1 = n := by omega
    refine codeAny_builtin F.entry_max_loop ?_
    rw [Around.under_plainId F.plain_max_loop _]
    show wpAny _ A.in1 (seqItems? (.ref S) >>= _) _ _ s
    refine wpAny_bind (wpAny_seqItems hS rfl ?_)
    show wpAny _ A.in1 (tryCatch (pyNext (.ref I)) _ >>= _) _ _ s
    refine wpAny_bind (wpAny_tryCatch (W.done s _ _ (hin ▸ hst) fun h' tk hk' => ?_))
    have hS' := hk' S _ hSw hS
    show wpAny _ A.in1 (updateSeq S (fun _ => #[]) >>= _) _ _ _
    refine wpAny_bind ?_
    refine wpAny_updateSeq hS' rfl (wpAny_bind (wpAny_letGo (wpAny_pure ?_)))
    refine hR vb _ tk (by rw [← hin]; exact hPb) fun b o hbw hbS e => (Heap.get?_update_other _ _ (Ne.symm hbS)).trans (hk' b o hbw e)
  | succ k ih =>
    intro j s vb c hk hj hst hPb hS hR
    have hlt : j + 1 < n := by omega
    refine codeAny_builtin F.entry_max_loop ?_
    rw [Around.under_plainId F.plain_max_loop _]
    show wpAny _ A.in1 (seqItems? (.ref S) >>= _) _ _ s
    refine wpAny_bind (wpAny_seqItems hS rfl ?_)
    show wpAny _ A.in1 (tryCatch (pyNext (.ref I)) _ >>= _) _ _ s
    refine wpAny_bind (wpAny_tryCatch (W.item (j + 1) s _ _ hlt hst fun v h' tk hP hst' hk' => ?_))
    have hS' := hk' S _ hSw hS
    show wpAny _ A.in1 (tryCatch (holding [v, v] (richCompare .Gt v vb >>= _)) _ >>= _) _ _ _
    refine wpAny_bind (wpAny_tryCatch (wpAny_holding (wpAny_bind (hcmp (j + 1) (argBest bt j) v vb _ _ _ hP hPb ?_))))
    refine wpAny_bind (wpAny_holding (wpAny_truthy_bool ?_))
    refine wpAny_bind (wpAny_letGo (wpAny_pure ?_))
    cases hb : bt (j + 1) (argBest bt j) with
    | true =>
      simp only [if_true]
      refine wpAny_bind ?_
      refine wpAny_updateSeq hS' rfl (wpAny_bind (wpAny_letGo ?_))
      rw [hname]
      refine wpAny_pure ⟨plainId_quiet F.plain_max_loop _, ih (j + 1) _ v _ (by omega) hlt (W.frame _ _ _ hst' fun b hbf o e => ?_) (by simp only [argBest, hb, if_true]; exact hP) (Heap.get?_update_self _ hS' rfl)
        fun v' h'' tk'' hP' hk'' => ?_⟩
      · exact (Heap.get?_update_other _ _ (fun h : S = b => hSf (by rw [h]; exact hbf))).trans e
      · exact hR v' h'' tk'' hP' fun b o hbw hbS e => hk'' b o hbw hbS ((Heap.get?_update_other _ _ (Ne.symm hbS)).trans (hk' b o hbw e))
    | false =>
      simp only [Bool.false_eq_true, if_false]
      refine wpAny_bind (wpAny_letGo ?_)
      rw [hname]
      refine wpAny_pure ⟨plainId_quiet F.plain_max_loop _, ih (j + 1) _ vb c (by omega) hlt hst' (by simp only [argBest, hb, Bool.false_eq_true, if_false]; exact hPb) hS' fun v' h'' tk'' hP' hk'' => ?_⟩
      exact hR v' h'' tk'' hP' fun b o hbw hbS e => hk'' b o hbw hbS (hk' b o hbw e)
theorem maxK_first (W : Walks prog w A.in1 I fp wr n P St) (bt : Nat → Nat → Bool) (hcmp : CmpOf prog w A.in1 .Gt P bt) (S : Addr) (hSf : S ∉ fp) (hn : 0 < n) {s : Shared} {c : Nat} (hst : St 0 s.heap)
    (hS : s.heap.get? S = some { cls := .type "list", dict := none, data := .seq #[] c, slots := #[] })
    (hR : ∀ v h' tk, P (argBest bt (n - 1)) v → (∀ b o, b ∉ wr → b ≠ S → s.heap.get? b = some o → h'.get? b = some o) → R (.ok (.ret v)) { s with heap := h', toks := tk }) :
    codeAny (model prog w) A (.builtin "max.loop" ⟨[.ref I, .none, .ref S], kw⟩) R s := by
  have hSw : S ∉ wr := fun h => hSf (W.sub _ h)
  have hname : (toString "max" ++ toString ".loop" : String) = "max.loop" := by decide
  refine codeAny_builtin F.entry_max_loop ?_
  rw [Around.under_plainId F.plain_max_loop _]
  show wpAny _ A.in1 (seqItems? (.ref S) >>= _) _ _ s
  refine wpAny_bind (wpAny_seqItems hS rfl ?_)
  show wpAny _ A.in1 (tryCatch (pyNext (.ref I)) _ >>= _) _ _ s
  refine wpAny_bind (wpAny_tryCatch (W.item 0 s _ _ hn hst fun v h' tk hP hst' hk' => ?_))
  have hS' := hk' S _ hSw hS
  show wpAny _ A.in1 (updateSeq S (fun _ => #[v, v]) >>= _) _ _ _
  refine wpAny_bind ?_
  refine wpAny_updateSeq hS' rfl ?_
  rw [hname]
  refine wpAny_pure ⟨plainId_quiet F.plain_max_loop _, maxK_loop W bt hcmp S hSf _ 0 _ v _ rfl hn (W.frame _ _ _ hst' fun b hbf o e => ?_) hP (Heap.get?_update_self _ hS' rfl) fun v' h'' tk'' hP' hk'' => ?_⟩
  · exact (Heap.get?_update_other _ _ (fun h : S = b => hSf (by rw [h]; exact hbf))).trans e
  · exact hR v' h'' tk'' hP' fun b o hbw hbS e => hk'' b o hbw hbS ((Heap.get?_update_other _ _ (Ne.symm hbS)).trans (hk' b o hbw e))
theorem maxK_empty {x : Str} {d : Value} (W : Walks prog w A.in1 I fp wr n P St) (S : Addr) (hSf : S ∉ fp) (hn : n = 0) {s : Shared} {c : Nat} (hst : St 0 s.heap)
    (hS : s.heap.get? S = some { cls := .type "list", dict := none, data := .seq #[] c, slots := #[] })
    (hR : ∀ h' tk, (∀ b o, b ∉ wr → b ≠ S → s.heap.get? b = some o → h'.get? b = some o) → R (.ok (.ret d)) { s with heap := h', toks := tk }) :
    codeAny (model prog w) A (.builtin "max.loop" ⟨[.ref I, .none, .ref S], [(x, d)]⟩) R s := by
  refine codeAny_builtin F.entry_max_loop ?_
  rw [Around.under_plainId F.plain_max_loop _]
  show wpAny _ A.in1 (seqItems? (.ref S) >>= _) _ _ s
  refine wpAny_bind (wpAny_seqItems hS rfl ?_)
  show wpAny _ A.in1 (tryCatch (pyNext (.ref I)) _ >>= _) _ _ s
  refine wpAny_bind (wpAny_tryCatch (W.done s _ _ (hn ▸ hst) fun h' tk hk' => ?_))
  exact wpAny_bind (wpAny_rule (wpAny_pure (hR h' tk fun b o hbw _ e => hk' b o hbw e)))
end
section
variable {prog : Program} {w : World} {A : Around} {E : Value → Shared → Prop} {s : Shared}
theorem args_maxD (a d : Value) : argsOk "max" ⟨[a], [(Str.ofString "default", d)]⟩ := by unfold argsOk; kernel_rfl
theorem tree_kw {id : String} {b : Builtin} {args : Args} {Q : Value → Shared → Prop} (hk : builtinKind id = none) (hp : plainId id = true)
    (hb : entryFor table id = some b) (ha : argsOk id args)
    (hc : wpAny (model prog w) A.in1 (b args) (fun fin s' => match fin with
      | .done f => (match (Except.ok f : Result) with | .ok (.ret v) => Q v s' | .ok _ => False | .error e => E e s')
      | .again c' => c'.quiet = true ∧ codeAny (model prog w) A c' (fun r s' => match r with | .ok (.ret v) => Q v s' | .ok _ => False | .error e => E e s') s') E s) :
    wpAny (model prog w) A (call (.builtin id) args.pos args.kw) Q E s := by
  refine wpAny_call (codeAny_call_builtin hp hb ?_)
  simp only [checkBuiltinCall, hk]
  cases hsig : Manifest.signature? id with
  | none => exact wpAny_pure hc
  | some sig =>
    simp only [argsOk, hsig] at ha
    have h2 : Bind.checkArgs id sig args = pure () := ha
    show wpAny _ A.in1 (Bind.checkArgs id sig args) _ _ s
    rw [h2]; exact wpAny_pure hc
theorem call_maxD {x d : Value} {Q : Value → Shared → Prop}
    (h : wpAny (model prog w) A.in1 (pyIter x) (fun it s₂ => ∃ I fp wr n P St bt, it = .ref I ∧ Walks prog w A.in1 I fp wr n P St ∧ St 0 s₂.heap ∧ (∀ b ∈ fp, b < s₂.heap.objs.size) ∧ CmpOf prog w A.in1 .Gt P bt ∧
      (0 < n → ∀ v h' tk, P (argBest bt (n - 1)) v → (∀ b o, b ∉ wr → s₂.heap.get? b = some o → h'.get? b = some o) → Q v { s₂ with heap := h', toks := tk }) ∧
      (n = 0 → ∀ h' tk, (∀ b o, b ∉ wr → s₂.heap.get? b = some o → h'.get? b = some o) → Q d { s₂ with heap := h', toks := tk })) E s) :
    wpAny (model prog w) A (call (.builtin "max") [x] [(Str.ofString "default", d)]) Q E s := by
  have hname : (toString "max" ++ toString ".loop" : String) = "max.loop" := by decide
  refine tree_kw (args := ⟨[x], [(Str.ofString "default", d)]⟩) F.kind_max F.plain_max F.entry_max (args_maxD x d) ?_
  show wpAny _ A.in1 (Builtin.Builtins.bindParams "max" ["key", "default"] 0 ⟨[], [(Str.ofString "default", d)]⟩ >>= _) _ _ s
  refine wpAny_bind (wpAny_of_eq (show Builtin.Builtins.bindParams "max" ["key", "default"] 0 ⟨[], [(Str.ofString "default", d)]⟩ = pure [none, some d] from by rfl) ?_)
  refine wpAny_bind (wpAny_pure ?_)
  refine wpAny_bind (wpAny_mono h (fun it s₂ h₂ => ?_) fun _ _ e => e)
  obtain ⟨I, fp, wr, n, P, St, bt, rfl, W, hst, hfp, hcmp, hQ, hQ0⟩ := h₂
  refine wpAny_bind (wpAny_newObj_type ?_)
  have hSf : s₂.heap.objs.size ∉ fp := fun hm => Nat.lt_irrefl _ (hfp _ hm)
  rw [hname]
  by_cases hn : n = 0
  · refine wpAny_pure ⟨plainId_quiet F.plain_max_loop _, maxK_empty W s₂.heap.objs.size hSf hn (W.frame _ _ _ hst fun b _ o e => Heap.get?_push_of_some _ e) (Heap.get?_push_size _ rfl) fun h' tk hk => ?_⟩
    exact hQ0 hn h' tk fun b o hbw e => hk b o hbw (Nat.ne_of_lt (Heap.lt_size e)) (Heap.get?_push_of_some _ e)
  · refine wpAny_pure ⟨plainId_quiet F.plain_max_loop _, maxK_first W bt hcmp s₂.heap.objs.size hSf (by omega) (W.frame _ _ _ hst fun b _ o e => Heap.get?_push_of_some _ e) (Heap.get?_push_size _ rfl) fun v h' tk hP hk => ?_⟩
    exact hQ (by omega) v h' tk hP fun b o hbw e => hk b o hbw (Nat.ne_of_lt (Heap.lt_size e)) (Heap.get?_push_of_some _ e)
end
section
open L2
theorem maxD_raw {prog : Program} {w : World} {A : Around} {E : Value → Shared → Prop} {s : Shared} {l : Addr} {its : List Value} {ns : List Int} {d : Value} {Q : Value → Shared → Prop} (hh : A.handled = none) (hl : s.heap.IsList l its.toArray) (hi : IntsAre its ns)
    (h : 0 < ns.length → ∀ h' tk M t', (∀ b o, s.heap.get? b = some o → h'.get? b = some o) → M ∈ ns → (∀ a, a ∈ ns → a ≤ M) → Q (.int M t') { s with heap := h', toks := tk })
    (h0 : ns.length = 0 → ∀ h' tk, (∀ b o, s.heap.get? b = some o → h'.get? b = some o) → Q d { s with heap := h', toks := tk }) :
    wpAny (model prog w) A (call (.builtin "max") [.ref l] [(Str.ofString "default", d)]) Q E s := by
  obtain ⟨xs, e⟩ := hi.allInts.items
  have hn : numsOf (intItems xs).toList = ns := by rw [← e]; exact hi.numsOf
  rw [nums_intItems] at hn
  subst hn
  rw [e] at hl
  have hsz : (xs.toList.map (·.1)).length = xs.size := by simp
  refine call_maxD (iter_intList hl fun s₂ e st hfp hlI => ?_)
  subst e
  refine ⟨_, _, _, _, _, _, _, rfl, Walks.list (A := A.in1) hh _ l hlI (intItems xs), st, hfp, CmpOf.ints_gt (numAt xs) (fun _ _ => intItems_at), fun hn v h' tk hP hk => ?_, fun hn h' tk hk => ?_⟩
  · have hn' : 0 < xs.size := by simpa [intItems] using hn
    have hP' : (intItems xs)[argBest (fun i j => decide (numAt xs i > numAt xs j)) (xs.size - 1)]? = some v := by simpa [intItems] using hP
    obtain ⟨t, rfl⟩ := intItems_at hP'
    obtain ⟨h1, h2⟩ := argBest_gt (numAt xs) (xs.size - 1)
    refine h (by rw [hsz]; exact hn') h' tk _ t (old_kept hk) ?_ fun a ha => ?_
    · rw [numAt_eq]; exact PySem.getD_mem (by rw [List.length_map, Array.length_toList]; omega)
    · obtain ⟨j, hj, rfl⟩ := mem_getD ha
      rw [List.length_map, Array.length_toList] at hj
      rw [← numAt_eq]; exact h2 j (by omega)
  · have hn' : xs.size = 0 := by simpa [intItems] using hn
    exact h0 (by rw [hsz]; exact hn') h' tk (old_kept hk)
def rMaxD (K : PySem.W.Frag) : List V → List V → Hp → VK → Prop := fun xs zs H Q => ∃ (a : Addr) (ns : List Int) (dv : V), xs = [.ref a] ∧ zs = [dv] ∧ SqL K H a (ns.map V.int) ∧ (0 < ns.length → ∀ m, m ∈ ns → (∀ y, y ∈ ns → y ≤ m) → Q (.int m) H) ∧ (ns.length = 0 → Q dv H)
theorem cr_maxD {X : Cx} (hc : X.calm = true) : CallRK X (.builtin "max") [Str.ofString "default"] (rMaxD X.K) := by
  intro pins s σ H xs zs us ws Q I r1 r2 h
  obtain ⟨a, ns, dv, rfl, rfl, hs, q, q0⟩ := h
  obtain ⟨its, rv, hl, _⟩ := I.list hs
  rw [Vals.ref1 r1]
  obtain ⟨wd, rfl, rd⟩ := Vals.one r2
  exact maxD_raw (I.ok.hd hc) hl.isList rv.ints (fun hne h' tk m t' hk h1 h2 => ⟨.int _, H, I.kept hk, ⟨_, rfl⟩, q hne m h1 h2⟩) fun hne h' tk hk => ⟨dv, H, I.kept hk, rd, q0 hne⟩
variable {X : Cx} {c : Nat → Value} {Wx : WX}
/-- max(f, default=g) -/
def dMaxD (f g : Env → Out (RV × Env)) : Env → Out (RV × Env) := fun env => (f env).bind fun p => (g p.2).bind fun q => match resolve q.2 p.1, resolve q.2 q.1 with
  | some (.lst ds), some (.int d) => match intsD ds with
    | some [] => .ok (.fz (.int d), q.2)
    | some (n :: ns) => .ok (.fz (.int (maxL (n :: ns))), q.2)
    | none => .st
  | _, _ => .st
theorem q_maxD {e d : Expr} {p kpos pos : Pos} {f g : Env → Out (RV × Env)} (hc : X.calm = true) (hg : Gl X "max") (hm : X.mg "max" = none) (ha : DE X c Wx e f) (hb : DE X c Wx d g)
    (h1 : starEach [e] X.env = (false, eval e X.env) :: starEach [] X.env := by rfl)
    (he : backTo pos (starEach [e] X.env) = (false, eval e X.env) :: backTo pos (starEach [] X.env) := by rfl) (hpl : (backTo pos (starEach [e] X.env)).any (·.1) = false := by rfl)
    (hall : (backToKw pos (keywordEach [⟨some "default", d, kpos⟩] X.env)).all (·.1.isSome) = true := by rfl) (hnone : (backToKw pos (keywordEach [⟨some "default", d, kpos⟩] X.env)).any (·.1.isNone) = false := by rfl) (hks : (backToKw pos (keywordEach [⟨some "default", d, kpos⟩] X.env)).filterMap (·.1) = [Str.ofString "default"] := by rfl) :
    DE X c Wx (.Call (.Name "max" p) [e] [⟨some "default", d, kpos⟩] pos) (dMaxD f g) := by
  obtain ⟨ta, pa, ka⟩ := ha.runP
  obtain ⟨tb, pb, kb⟩ := hb.runP
  refine ⟨_, pe_callBK (cr_maxD hc) hg hm rfl (pa_cons pa pa_nil h1) (pk_cons pb pk_nil) (he := he) (hpl := hpl) (hall := hall) (hnone := hnone) (hks := hks), fun F G env σ H Q R h => ?_⟩
  refine ka F G env σ H _ _ _ pl_E R h fun ra env1 v G1 H1 R1 s1 p1 h1 => ?_
  refine kb F G1 env1 σ H1 _ _ _ (pl_E.grow s1) R1 h1 fun rb env2 u G2 H2 R2 s2 p2 h2 => ?_
  dsimp only at h2
  cases e1 : resolve env2 ra with
  | none => rw [e1] at h2; exact h2.elim
  | some x =>
    cases e2 : resolve env2 rb with
    | none => rw [e1, e2] at h2; cases x <;> exact h2.elim
    | some y =>
      rw [e1, e2] at h2
      cases x with
      | lst ds =>
        cases y with
        | int dd =>
          dsimp only at h2
          cases e3 : intsD ds with
          | none => rw [e3] at h2; exact h2.elim
          | some ns =>
            rw [e3] at h2
            have vx := (p1.mono (Le.of s2)).vw R2 e1
            have vy := (p2.vw R2 e2).int
            subst vy
            obtain ⟨a, vs, rfl, g1, r⟩ := vx.lst R2.same
            rw [intsD_eq e3] at r
            rw [r.ints] at g1
            refine ⟨a, ns, .int dd, rfl, rfl, SqL.of g1, fun hne m hm hy => ?_, fun hz => ?_⟩
            · cases ns with
              | nil => cases hne
              | cons n ns =>
                obtain ⟨k1, k2⟩ := maxL_go ns n
                have em : m = maxL (n :: ns) := Int.le_antisymm (k2 m hm) (hy _ k1)
                rw [em]
                exact h2 _ G2 _ R2 (s1.trans s2) (.int _)
            · cases ns with
              | nil => exact h2 _ G2 _ R2 (s1.trans s2) (.int _)
              | cons n ns => cases hz
        | _ => exact h2.elim
      | _ => cases y <;> exact h2.elim
/-! ### e.values() of a new dict: frozen for good -/
def tFrzA (t : TE) : TE := fun σ H Q => t σ H fun v H1 => ∃ a kvs, v = .ref a ∧ H1 a = some (.dK kvs) ∧ ∀ od, Q v (upd H1 a (.frz od (.dK kvs)))
theorem pe_frzA {e : Expr} {t : TE} (h : PE X e t) : PE X e (tFrzA t) := ⟨fun pins s σ H Q I q => thn (h.run pins s σ H _ I q) fun v s1 ⟨x, H1, I1, r, a, kvs, ex, ha, q1⟩ => by
  obtain ⟨od, I2⟩ := I1.lock ha True.intro
  exact ⟨x, _, I2, r, q1 od⟩⟩
theorem Rel.frzNew {W : Wd} {F : FrI} {G H : Hp} {env : Env} {σ : L2.St} {p : Addr} {od : Obj} {kvs : List (Key × V)} (R : Rel W F G env σ H) (hp : H p = some (.dK kvs)) (hg : G p = none) (hE : F.E p = none) (fr : Free env σ p) :
    Rel W F (upd G p (.frz od (.dK kvs))) env σ (upd H p (.frz od (.dK kvs))) := by
  refine R.step (same_new hg) (fun b o e => ?_) (fun a ha => ?_) (fun a o ha e _ => ?_) (fun a e => ?_) (fun i c a e nf hs g => ?_) fun i c a o e nf hs ho => ?_
  · by_cases z : b = p
    · subst z; rw [upd_same] at e ⊢; exact e
    · rw [upd_ne z] at e ⊢; exact R.same b o e
  · have hne : a ≠ p := fun z => ha (by rw [z]; exact hE)
    rw [upd_ne hne]
  · have hne : a ≠ p := fun z => by rw [z, hE] at ha; cases ha
    rw [upd_ne hne]; exact e
  · by_cases z : a = p
    · subst z; rw [upd_same] at e; cases e
    · rw [upd_ne z] at e; exact e
  · have hne : a ≠ p := fun z => fr i c e nf (by rw [← z]; exact hs)
    rw [upd_ne hne]; exact g
  · have hne : a ≠ p := fun z => fr i c e nf (by rw [← z]; exact hs)
    rw [upd_ne hne]; exact ho
def itFr (sel : List (Key × D) → List D) (f : Env → Out (RV × Env)) : Env → Out (List D × Env) := fun env => (f env).bind fun p => match p.1 with
  | .fr (.dct kds) => .ok (sel kds, p.2)
  | _ => .st
theorem di_valsF {e tg : Expr} {apos cpos : Pos} {f : Env → Out (RV × Env)} (ha : DE X c Wx e f) (hbase : attributeBase e "values" X.env (eval e X.env) = eval e X.env := by rfl) (hline : (apos.endLine == cpos.line) = true := by rfl) :
    DI X c Wx tg (.Call (.Attribute e "values" apos) [] [] cpos) (itFr valsD f) := by
  obtain ⟨t, pa, ka⟩ := ha.run
  refine ⟨_, pi_values (pe_frzA pa) hbase hline, fun F G env σ H Q R h => ?_⟩
  refine ka F G env σ H _ _ _ pl_I R h fun r env1 v G1 H1 R1 s1 rv h1 => ?_
  dsimp only at h1
  cases r with
  | fr d =>
    cases d with
    | dct kds =>
      obtain ⟨p, rfl, hE, ⟨hg, o, ho, sh⟩, fr⟩ := rv
      cases sh with
      | dct rk =>
        rename_i kvs
        refine ⟨p, kvs, rfl, ho, fun od => ?_⟩
        refine ⟨p, od, kvs, rfl, upd_same, ?_⟩
        exact h1 _ _ _ (R1.frzNew ho hg hE fr) (s1.trans (same_new hg)) (itw_vals upd_same (rk.mono (Le.of (same_new hg))))
    | _ => exact h1.elim
  | _ => exact h1.elim
/-! ### () -/
theorem pe_tup0 {k : Nat} {pos : Pos} : PE X (.Tuple [] k pos) (fun _ H Q => ∀ p o, H p = none → o.dict = none → Q (.ref p) (upd H p (.frz o (.tup [])))) := by
  refine ⟨fun pins s σ H Q I hq => ?_⟩
  refine wpAny_Tuple_spliced (thn ((pa_nil : PA X [] tNil).run pos pins s σ H (fun xs H1 => xs = [] ∧ H1 = H) I ⟨rfl, rfl⟩) fun us s1 hh => ?_)
  obtain ⟨xs, H1, I1, r, z, q⟩ := hh
  subst z
  subst q
  cases r
  refine ⟨by decide, ?_⟩
  have hf : H1 s1.heap.objs.size = none := I1.hok.fresh (Nat.le_refl _)
  refine ⟨.ref s1.heap.objs.size, upd H1 s1.heap.objs.size (.frz { cls := .type "tuple", data := .seq #[] } (.tup [])), I1.laid (t' := s1.toks) (fun b u e => Heap.get?_push_of_some _ e) (Nat.le_refl _) ?_, rfl, hq _ _ hf rfl⟩
  exact (show ObjOk X.prog X.w _ _ _ (.frz _ (.tup [])) from ⟨Heap.get?_push_size _ rfl, by decide, [], .nil, IsTup.new _ _⟩)
def dTpl0 : Env → Out (RV × Env) := fun env => .ok (.fz (.tpl []), env)
theorem de_tpl0 {k : Nat} {pos : Pos} : DE X c Wx (.Tuple [] k pos) dTpl0 := by
  refine ⟨_, pe_tup0, fun F G env σ H Q R h => fun p o hp hd => ?_⟩
  obtain ⟨G2, s2, R2, ok⟩ := R.res (Res.tpl R.same hp hd .nil)
  exact h _ G2 _ R2 s2 ok
@[simp] theorem x_dTpl0 {env : Env} : dTpl0 env = .ok (.fz (.tpl []), env) := (rfl)
end
end VS
namespace VS
open PySem PySem.Spec PyProof.Rows L2
/-! ### exceptions of the program's own classes -/
section
variable {X : Cx} {e : Expr} {es : List Expr} {ta : TA} {p p1 p2 pos : Pos}
/-- B.__init__(self, ..), B a class of the program without an __init__ of its own -/
theorem pe_cinit {pl : Sem Bool} {b : Str} {CB : Addr} (hg : Gl X b) (hm : X.mg b = some (.ref CB)) (r : ClX.CRead X.K CB (.type "type")) (vV : PySem.W.findCls X.K (.ref CB) (.type "type") "__init__" = some (.val (.builtin "ValueError.__init__"))) (ha : PA X (e :: es) ta)
    (hdb : (b == ("__debug__" : Str)) = false := by decide)
    (hc : eval (.Call (.Attribute (.Name b p1) "__init__" p2) (e :: es) [] pos) X.env = (do
      let ov ← eval (.Name b p1) X.env
      standAt p2.atName
      let (f, first) ← holding [ov] (getMethod ov "__init__" pl)
      callWith pos f first (backTo pos (starEach (e :: es) X.env)) (backToKw pos (keywordEach [] X.env))) := by rfl)
    (he : starEach (e :: es) X.env = (false, eval e X.env) :: starEach es X.env := by rfl) (hpl : (backTo pos (starEach es X.env)).any (·.1) = false := by rfl) :
    PE X (.Call (.Attribute (.Name b p1) "__init__" p2) (e :: es) [] pos) (tVeI X.K ta) := by
  refine ⟨fun pins s σ H Q I h => ?_⟩
  refine PySem.W.methodCall_KW (ld_glob I hg hm ?_ hdb) hc
  refine PySem.W.method_cls I.kIn r.ga (PySem.W.cls_value I.kIn r.rd vV (by decide +kernel) ?_)
  show wpAny _ _ (callWith pos (Value.builtin "ValueError.__init__") [] (backTo pos (starEach (e :: es) X.env)) []) _ _ _
  refine PyProof.Rows.callWith_method1 (thn (ha.run pos pins _ σ H _ (I.tok _) h) fun us s1 ⟨vs, H1, I1, r1, a, C, ws, ev, hl, T, ea, q⟩ => ?_) he hpl
  subst ev
  cases r1 with
  | @cons _ u0 _ ur ra rw' =>
    obtain rfl : u0 = Value.ref a := ra
    have hlen : ur.length ≤ sizeLine := by
      rw [← Paired.length rw', sizeLine_eq]
      omega
    exact oinit_ok T I1 ea hlen fun s' J => ⟨.non, H1, J, rfl, q⟩
end
/-! ### the facts of a class of errors with a field -/
structure ExK (K : PySem.W.Frag) (C CB fI : Addr) (f : Str) : Prop where
  T : OexC K C
  iC : PySem.W.findIn K (.ref C) "__init__" = some (some (.ref fI))
  tI : PySem.W.typeIn K (.ref fI) = some (.type "function")
  no : PySem.W.findIn K (.ref C) f = some none
  rd : ClX.CRead K CB (.type "type")
  vV : PySem.W.findCls K (.ref CB) (.type "type") "__init__" = some (.val (.builtin "ValueError.__init__"))
  xf : XfC K C
  ex : PySem.W.exmOne K (.ref C) (.ref C) = some true
  cl : (PySem.W.clsIn K C).isSome = true
  cc : PySem.W.findIn K (.ref C) "__class__" = some (some (.builtin "object.__class__"))
  cg : PySem.W.specialIn K (.builtin "object.__class__") "__get__" = some (some (.builtin "getset_descriptor.__get__"))
  ct : PySem.W.takesIn K (.builtin "object.__class__") = some true
  cm : PySem.W.mroIn K C (.type "object") = some true
def oexB (K : PySem.W.Frag) (C : Addr) : Bool := match K.lookup C with
  | some ⟨.type t, _, .cls cd, sl⟩ => (match cd.mro, sl.toList with
    | .ref C' :: bm, [_, _, _, _, some (.builtin n), _] => decide (t = "type") && (decide (C' = C) && (decide (n = "ValueError.__new__") && (cd.hasDict && (!cd.hasDel && PySem.HandSPX.refsVE bm))))
    | _, _ => false)
  | _ => false
theorem oexB_ok {K : PySem.W.Frag} {C : Addr} (h : oexB K C = true) : ∃ nm q N bs bm sn sub ab col dd k0 k1 k2 k3 k5, K.lookup C = some (excClassObj nm q C N bs bm true sn sub ab col dd k0 k1 k2 k3 k5 "ValueError.__new__") ∧ PySem.HandSPX.refsVE bm = true := by
  unfold oexB at h
  split at h
  · rename_i t dd cd sl hl
    split at h
    · rename_i C' bm k0 k1 k2 k3 n k5 em es
      simp only [Bool.and_eq_true, decide_eq_true_eq] at h
      obtain ⟨rfl, rfl, rfl, h4, h5, h6⟩ := h
      obtain ⟨nm, bs, mro, ns, qn, hd, sn, sb, ab, col, del⟩ := cd
      dsimp only at em h4 h5
      subst em
      subst h4
      have h5' : del = false := by simpa using h5
      subst h5'
      refine ⟨nm, qn, ns, bs, bm, sn, sb, ab, col, dd, k0, k1, k2, k3, k5, ?_, h6⟩
      rw [hl]
      have esl : sl = #[k0, k1, k2, k3, some (.builtin "ValueError.__new__"), k5] := by
        apply Array.ext'
        rw [es]
      rw [esl]
    · cases h
  · cases h
def exB (K : PySem.W.Frag) (C CB fI : Addr) (f : Str) : Bool :=
  oexB K C && (decide (PySem.W.findIn K (.ref C) "__setattr__" = some (some (.builtin "object.__setattr__"))) && (decide (PySem.W.subIn K (.ref C) (.type "BaseException") = some true) && (decide (PySem.W.typeIn K (.ref C) = some (.type "type")) && (PySem.W.keepIn K (.ref C) &&
  (decide (PySem.W.findIn K (.ref C) "__init__" = some (some (.ref fI))) && (decide (PySem.W.typeIn K (.ref fI) = some (.type "function")) && (decide (PySem.W.findIn K (.ref C) f = some none) && (PySem.W.readsIn K CB (.type "type") &&
  (decide (PySem.W.specialIn K (.ref CB) "__getattribute__" = some (some (.builtin "type.__getattribute__"))) && ((match PySem.W.findCls K (.ref CB) (.type "type") "__init__" with | some (.val (.builtin s)) => decide (s = "ValueError.__init__") | _ => false) && (xfB K C &&
  (decide (PySem.W.exmOne K (.ref C) (.ref C) = some true) && ((PySem.W.clsIn K C).isSome && (decide (PySem.W.findIn K (.ref C) "__class__" = some (some (.builtin "object.__class__"))) && (decide (PySem.W.specialIn K (.builtin "object.__class__") "__get__" = some (some (.builtin "getset_descriptor.__get__"))) &&
  (decide (PySem.W.takesIn K (.builtin "object.__class__") = some true) && decide (PySem.W.mroIn K C (.type "object") = some true)))))))))))))))))
theorem exB_ok {K : PySem.W.Frag} {C CB fI : Addr} {f : Str} (h : exB K C CB fI f = true) : ExK K C CB fI f := by
  unfold exB at h
  simp only [Bool.and_eq_true, decide_eq_true_eq] at h
  obtain ⟨a1, a2, a3, a4, a5, a6, a7, a8, a9, a10, a11, a12, a13, a14, a15, a16, a17, a18⟩ := h
  refine ⟨⟨oexB_ok a1, a2, a3, a4, a5⟩, a6, a7, a8, ⟨a9, a10⟩, ?_, xfB_ok a12, a13, a14, a15, a16, a17, a18⟩
  split at a11
  · rename_i s e
    rw [e, of_decide_eq_true a11]
  · cases a11
/-! ### an __init__ -/
def spI (C : Addr) (f : Str) : Sp := fun vs H Q _ => ∃ a y, vs = [.ref a, y] ∧ H a = some (exo a C none) ∧ ∀ dx, H dx = none → dx ≠ a → Q .non (upd (upd H dx (exd dx [(f, y)])) a (exo a C (some dx)))
theorem spI_len {C : Addr} {f : Str} : ∀ vs H Q E, spI C f vs H Q E → vs.length = 2 := fun vs H Q E ⟨_, _, e, _⟩ => by rw [e]; rfl
theorem spI_read {K : PySem.W.Frag} {C CB fI : Addr} {f m : Str} (E : ExK K C CB fI f) {N : List Str} {vs : List V} {H : Hp} {Q : VK} {X : XK} {D : Ends} (hD : D.nx = fun _ H' => Q .non H') (h : spI C f vs H Q X) :
    tVeI K (tCons (tVar 0) (tCons (tC (.str m)) tNil)) (L2.start N vs) H fun _ H1 => tOst K f (tVar 0) (tVar 1) D (L2.start N vs) H1 := by
  obtain ⟨a, y, rfl, ha, q⟩ := h
  refine ⟨.ref a, rfl, ?_⟩
  refine ⟨a, C, [.str m], rfl, by simp, E.T, ha, ?_⟩
  refine ⟨y, rfl, .ref a, rfl, a, C, rfl, E.T, E.no, .inl ⟨ha, fun dx h1 h2 => ?_⟩⟩
  rw [hD]
  exact q dx h1 h2
/-! ### raise C(e) -/
theorem Rel.both {W : Wd} {F : FrI} {G H : Hp} {env : Env} {σ : L2.St} {p : Addr} {o : HO} (R : Rel W F G env σ H) (hp : H p = none) : Rel W F (upd G p o) env σ (upd H p o) := by
  have hg : G p = none := R.same.free hp
  refine R.step (same_new hg) (fun b u e => ?_) (fun a ha => ?_) (fun a u ha e _ => ?_) (fun a e => ?_) (fun i c a e nf hs g => ?_) fun i c a u e nf hs ho => ?_
  · by_cases z : b = p
    · subst z; rw [upd_same] at e ⊢; exact e
    · rw [upd_ne z] at e ⊢; exact R.same b u e
  · have hne : a ≠ p := fun z => ha (by rw [z]; exact R.dom p hp)
    rw [upd_ne hne]
  · have hne : a ≠ p := fun z => by rw [z, hp] at e; cases e
    rw [upd_ne hne]; exact e
  · by_cases z : a = p
    · subst z; rw [upd_same] at e; cases e
    · rw [upd_ne z] at e; exact e
  · obtain ⟨v', hv, ok⟩ := R.cells i c e
    rw [hs] at hv; cases hv
    have hne : a ≠ p := fun z => by
      have hH : H a ≠ none := by
        obtain ⟨d', ow⟩ := c
        cases ow with
        | frz => exact absurd rfl nf
        | own => obtain ⟨b, e, _, _, o, ho, _⟩ := ok; cases e; rw [ho]; simp
        | io => obtain ⟨b, e, _, _, o, ho, _⟩ := ok; cases e; rw [ho]; simp
      exact hH (by rw [z]; exact hp)
    rw [upd_ne hne]; exact g
  · have hne : a ≠ p := fun z => by rw [z, hp] at ho; cases ho
    rw [upd_ne hne]; exact ho
section
variable {X : Cx} {c : Nat → Value} {Wx : WX}
def sRaise (cid : Nat) (f : Str) (fe : Env → Out (RV × Env)) : Env → Out Fl := fun env => (fe env).bind fun p => match freezeR p.2 p.1 with
  | some (d, env') => .ex ⟨cid, some (f, d)⟩ env'
  | none => .st
theorem ds_raise {x f pn : Str} {C CB fI : Addr} {fd : FuncData} {k cid : Nat} {e : Expr} {p pos1 pos : Pos} {fe : Env → Out (RV × Env)} (E : ExK X.K C CB fI f) (F1 : FnOk X.prog X.w X.K X.mg X.base CX0 k fI fd ["self", pn] (spI C f)) (hr : Room (k + 1) X.A) (hb : Binds X.K fd ["self", pn] [])
    (hc : X.calm = true) (tk : Takes X Wx) (hg : Gl X x) (hm : X.mg x = some (.ref C)) (hcid : c cid = .ref C) (ha : DE X c Wx e fe) (hdb : (x == ("__debug__" : Str)) = false := by decide)
    (he : starEach [e] X.env = (false, eval e X.env) :: starEach [] X.env := by rfl) (hpl : (backTo pos1 (starEach [] X.env)).any (·.1) = false := by rfl) :
    DS X c Wx (.Raise (some (.Call (.Name x p) [e] [] pos1)) none pos) (sRaise cid f fe) := by
  obtain ⟨t, pa, ka⟩ := ha.runP
  refine ⟨_, ps_raise hc tk (pmk_oex E.T E.iC E.tI F1 hr hb .nil pass0 hg hm (pa_cons pa pa_nil he) hdb he hpl), fun F G env σ H D R h => ?_⟩
  refine ka F G env σ H _ _ _ pl_S R h fun r env1 v G1 H1 R1 s1 p1 h1 => ?_
  dsimp only at h1
  cases e0 : freezeR env1 r with
  | none => rw [e0] at h1; exact h1.elim
  | some w =>
    obtain ⟨d, env'⟩ := w
    rw [e0] at h1
    obtain ⟨G2, s2, R2, rp⟩ := p1.freeze R1 e0
    refine ⟨by simp, fun a ha => ⟨a, v, rfl, upd_same, fun dx hdx hne => ⟨rfl, dx, [(f, v)], upd_same, ?_, ?_, ?_⟩⟩⟩
    · rw [upd_ne hne, upd_same]
    · rw [upd_ne hne] at hdx; exact hdx
    · rw [upd_ne hne] at hdx
      have eq : upd (del (upd (upd (upd H1 a (exo a C none)) dx (exd dx [(f, v)])) a (exo a C (some dx))) a) dx (.xd [(f, v)]) = upd H1 dx (.xd [(f, v)]) := by
        funext b
        by_cases z : b = dx
        · rw [z, upd_same, upd_same]
        · rw [upd_ne z, upd_ne z]
          by_cases z2 : b = a
          · rw [z2, del_same, ha]
          · rw [del_ne z2, upd_ne z2, upd_ne z, upd_ne z2]
      rw [eq]
      have R3 := R2.both (o := .xd [(f, v)]) hdx
      have hg : G2 dx = none := R2.same.free hdx
      exact h1 σ _ _ (.ref C) (some dx) R3 (s1.trans (s2.trans (same_new hg))) ⟨hcid.symm, dx, v, rfl, upd_same, rp.mono (Le.of (same_new hg))⟩
end
end VS
namespace VS
open PySem PySem.Spec PyProof.Rows L2
/-! ### try .. except C as n: return e -/
section
variable {X : Cx} {c : Nat → Value} {Wx : WX}
def tCanS (W : Wd) (Wx : WX) (f : Env → Out Fl) : TS := fun D σ H => ∃ F G env, Rel W F G env σ H ∧ SPost W Wx F G D (f env)
theorem DSs.can {W : Wd} {ss : List Stmt} {f : Env → Out Fl} (h : DSs X c Wx ss f) (hW : wd X c = W) : PSs X ss (tCanS W Wx f) := by
  subst hW
  obtain ⟨t, ps, k⟩ := h.ex
  exact ⟨fun pins s σ H D I ⟨F, G, env, R, p⟩ => ps.run pins s σ H D I (k F G env σ H D R p)⟩
/-- an expression of an except suite; the error stands in slot i -/
structure DX (X : Cx) (c : Nat → Value) (i cid : Nat) (e : Expr) (fx : Exc → Env → Option D) : Prop where
  ex : ∃ t : Addr → Value → Option Addr → TE, (∀ a oe cls d pn, Zc cls d oe → (∃ vs, oe.data = .fields vs) → PE (X.suite a ((a, oe) :: pn)) e (t a cls d)) ∧
    ∀ a cls d F G env σ H Q x dv, Rel (wd X c) F G env σ H → σ[i]? = some (some (.ref a)) → x.cls = cid → ExcOk (wd X c) G H x cls d → fx x env = some dv →
      (∀ v G' H', Rel (wd X c) F G' env σ H' → Same G G' → Rp (wd X c) G' v dv → Q v H') → t a cls d σ H Q
structure DXs (X : Cx) (c : Nat → Value) (i cid : Nat) (es : List Expr) (fx : Exc → Env → Option (List D)) : Prop where
  ex : ∃ t : Addr → Value → Option Addr → TA, (∀ a oe cls d pn, Zc cls d oe → (∃ vs, oe.data = .fields vs) → PA (X.suite a ((a, oe) :: pn)) es (t a cls d)) ∧
    ∀ a cls d F G env σ H Q x dvs, Rel (wd X c) F G env σ H → σ[i]? = some (some (.ref a)) → x.cls = cid → ExcOk (wd X c) G H x cls d → fx x env = some dvs →
      (∀ vs G' H', Rel (wd X c) F G' env σ H' → Same G G' → RpA (wd X c) G' vs dvs → Q vs H') → t a cls d σ H Q
theorem ExcOk.same {W : Wd} {G G' H H' : Hp} {x : Exc} {cls : Value} {d : Option Addr} (s : Same G G') (h : ExcOk W G H x cls d) : ExcOk W G' H' x cls d := by
  obtain ⟨h1, h2⟩ := h
  refine ⟨h1, ?_⟩
  cases e : x.fld with
  | none => rw [e] at h2; exact h2
  | some w =>
    obtain ⟨nm, dv⟩ := w
    rw [e] at h2
    obtain ⟨q, v, e1, e2, e3⟩ := h2
    exact ⟨q, v, e1, s _ _ e2, e3.mono (Le.of s)⟩
def xFld (f : Str) : Exc → Env → Option D := fun x _ => match x.fld with
  | some (nm, dv) => if nm = f then some dv else none
  | none => none
theorem dx_fld {i cid : Nat} {f n : Str} {p pos : Pos} {C CB fI : Addr} (E : ExK X.K C CB fI f) (hcid : c cid = .ref C) (hn : ∀ a pn, PE (X.suite a pn) (.Name n p) (tVar i))
    (hb : attributeBase (.Name n p) f X.env (eval (.Name n p) X.env) = eval (.Name n p) X.env := by rfl) : DX X c i cid (.Attribute (.Name n p) f pos) (xFld f) := by
  refine ⟨fun a cls d => tXf a cls d C f (tVar i), fun a oe cls d pn hz hf => pe_xf E.xf E.no hz hf (hn a _) hb, fun a cls d F G env σ H Q x dv R hv hx ok e q => ?_⟩
  obtain ⟨h1, h2⟩ := ok
  unfold xFld at e
  split at e
  · rename_i nm d' ef
    rw [ef] at h2
    split at e
    · rename_i en
      cases e
      subst en
      obtain ⟨dd, v, e1, e2, e3⟩ := h2
      refine ⟨_, hv, rfl, ?_, dd, [(nm, v)], v, e1, R.same _ _ e2, ?_, q v G H R (Same.refl G) e3⟩
      · rw [h1, hx]; exact hcid
      · simp
    · cases e
  · cases e
theorem dx_bl {i cid : Nat} {b : Bool} {j : Nat} {p : Pos} (hp : ∀ a pn, PE (X.suite a pn) (.Constant (.bool b) j p) (tC (.bl b))) : DX X c i cid (.Constant (.bool b) j p) (fun _ _ => some (.bl b)) := by
  refine ⟨fun a cls d => tC (.bl b), fun a oe cls d pn hz hf => hp a _, fun a cls d F G env σ H Q x dv R hv hx ok e q => ?_⟩
  cases e
  exact q _ G H R (Same.refl G) (.bl b)
def rIsED (K : PySem.W.Frag) (D a : Addr) (cls : Value) (d : Option Addr) : List V → Hp → VK → Prop := fun xs H Q => ∃ (cc : V) (cv : Value) (b : Bool) (dd : Addr) (fs : List (Str × V)), xs = [.ref a, cc] ∧ (∀ u, RelV cc u → u = cv) ∧ PySem.W.kitOne K (.ref D) cv = some b ∧
  cls = .ref D ∧ d = some dd ∧ H dd = some (.xd fs) ∧ Q (.bl b) H
theorem call_isED {a D CB fI : Addr} {f : Str} {oe : Obj} {cls : Value} {d : Option Addr} {pn : List (Addr × Obj)} (E : ExK X.K D CB fI f) (hz : Zc cls d oe) (hf : ∃ vs, oe.data = .fields vs) : CallR (X.suite a ((a, oe) :: pn)) (.builtin "isinstance") (rIsED X.K D a cls d) := by
  intro pins s σ H xs us Q I r h
  obtain ⟨cc, cv, b, dd, fs, rfl, hcv, e, ec, ed, ea, q⟩ := h
  cases r with
  | cons rx rr =>
    cases rr with
    | cons rt rr =>
      cases rr
      cases rx
      have ecv := hcv _ rt
      subst ecv
      subst ec
      subst ed
      obtain ⟨ha, _⟩ := I.pin (a, oe) (List.mem_append_left _ List.mem_cons_self)
      obtain ⟨vs, hd⟩ := hf
      have hx : ObjOk X.prog X.w H s.heap dd (.xd fs) := I.hok dd _ ea
      obtain ⟨mA, hns, hr⟩ := hx
      obtain ⟨od, ho, hl⟩ := lookIn_ns hns
      have J : PySem.W.InstAt s.heap a oe D (some od) := ⟨ha, hz.1, by unfold PySem.W.notCls; rw [hd] <;> rfl, by rw [hz.2]; exact ho⟩
      exact PySem.W.kia_one (PySem.W.kitx_exc E.cl E.xf.ga E.xf.gg E.xf.exC E.cc E.cg E.ct E.cm) I.kIn J e (fun z => nomatch z) fun tk => ⟨.bl b, H, I.kept (t' := tk) fun _ _ z => z, rfl, q⟩
theorem dx_is {i cid : Nat} {f n y : Str} {p1 p2 p3 pos : Pos} {C CB fI CY : Addr} {b : Bool} (E : ExK X.K C CB fI f) (hcid : c cid = .ref C) (hn : ∀ a pn, PE (X.suite a pn) (.Name n p2) (tVar i)) (hk : PySem.W.kitOne X.K (.ref C) (.ref CY) = some b)
    (hgi : Gl X "isinstance") (hmi : X.mg "isinstance" = none) (hgy : Gl X y) (hmy : X.mg y = some (.ref CY)) (hdy : (y == ("__debug__" : Str)) = false := by decide)
    (he : ∀ (e1 e2 : Expr), starEach [.Name n p2, .Name y p3] X.env = (false, eval (.Name n p2) X.env) :: starEach [.Name y p3] X.env := by intros; rfl) (he2 : starEach [.Name y p3] X.env = (false, eval (.Name y p3) X.env) :: starEach [] X.env := by rfl)
    (hpl : (backTo pos (starEach [.Name y p3] X.env)).any (·.1) = false := by rfl) :
    DX X c i cid (.Call (.Name "isinstance" p1) [.Name n p2, .Name y p3] [] pos) (fun x _ => if x.fld.isSome = true then some (.bl b) else none) := by
  refine ⟨fun a cls d => tCB (rIsED X.K C a cls d) (tCons (tVar i) (tCons (tC (.ref CY)) tNil)), fun a oe cls d pn hz hf => pe_callB (call_isED E hz hf) hgi hmi rfl (pa_cons (hn a _) (pa_cons (pe_glob hgy hmy rfl hdy) pa_nil he2) (he (.Name n p2) (.Name n p2))) (he := he (.Name n p2) (.Name n p2)) (hpl := hpl), fun a cls d F G env σ H Q x dv R hv hx ok e q => ?_⟩
  split at e
  · rename_i hs
    cases e
    obtain ⟨h1, h2⟩ := ok
    cases ef : x.fld with
    | none => rw [ef] at hs; cases hs
    | some w =>
      obtain ⟨nm, d'⟩ := w
      rw [ef] at h2
      obtain ⟨dd, v, e1, e2, e3⟩ := h2
      refine ⟨_, hv, ?_⟩
      exact ⟨.ref CY, .ref CY, b, dd, [(nm, v)], rfl, fun u r => r, hk, by rw [h1, hx]; exact hcid, e1, R.same _ _ e2, q _ G H R (Same.refl G) (.bl b)⟩
  · cases e
theorem dxs_nil {i cid : Nat} : DXs X c i cid [] (fun _ _ => some []) :=
  ⟨fun _ _ _ => tNil, fun a oe cls d pn hz hf => pa_nil, fun a cls d F G env σ H Q x dvs R hv hx ok e q => by cases e; exact q [] G H R (Same.refl G) .nil⟩
def xCons (f : Exc → Env → Option D) (g : Exc → Env → Option (List D)) : Exc → Env → Option (List D) := fun x env => (f x env).bind fun d => (g x env).map fun ds => d :: ds
theorem dxs_cons {i cid : Nat} {e : Expr} {es : List Expr} {f : Exc → Env → Option D} {g : Exc → Env → Option (List D)} (he : DX X c i cid e f) (hs : DXs X c i cid es g) (h1 : starEach (e :: es) X.env = (false, eval e X.env) :: starEach es X.env := by rfl) :
    DXs X c i cid (e :: es) (xCons f g) := by
  obtain ⟨t, pe, ke⟩ := he.ex
  obtain ⟨u, ps, ks⟩ := hs.ex
  refine ⟨fun a cls d => tCons (t a cls d) (u a cls d), fun a oe cls d pn hz hf => pa_cons (pe a oe cls d pn hz hf) (ps a oe cls d pn hz hf) h1, fun a cls d F G env σ H Q x dvs R hv hx ok e q => ?_⟩
  unfold xCons at e
  obtain ⟨d1, e1, e2⟩ := Option.bind_eq_some_iff.mp e
  obtain ⟨ds, e3, e4⟩ := Option.map_eq_some_iff.mp e2
  subst e4
  refine ke a cls d F G env σ H _ x d1 R hv hx ok e1 fun v G1 H1 R1 s1 r1 => ?_
  refine ks a cls d F G1 env σ H1 _ x ds R1 hv hx (ok.same s1) e3 fun vs G2 H2 R2 s2 r2 => ?_
  exact q (v :: vs) G2 H2 R2 (s1.trans s2) (.cons (r1.mono (Le.of s2)) r2)
def xTup (g : Exc → Env → Option (List D)) : Exc → Env → Option D := fun x env => (g x env).bind fun ds => if le24 ds.length = true then some (.tup ds) else none
theorem dx_tup {i cid : Nat} {es : List Expr} {k : Nat} {pos : Pos} {g : Exc → Env → Option (List D)} (hs : DXs X c i cid es g) : DX X c i cid (.Tuple es k pos) (xTup g) := by
  obtain ⟨u, ps, ks⟩ := hs.ex
  refine ⟨fun a cls d => tTup (u a cls d), fun a oe cls d pn hz hf => pe_tup (ps a oe cls d pn hz hf), fun a cls d F G env σ H Q x dv R hv hx ok e q => ?_⟩
  unfold xTup at e
  obtain ⟨ds, e1, e2⟩ := Option.bind_eq_some_iff.mp e
  by_cases hz : le24 ds.length = true
  · rw [if_pos hz] at e2
    cases e2
    refine ks a cls d F G env σ H _ x ds R hv hx ok e1 fun vs G1 H1 R1 s1 r1 => ?_
    refine ⟨by rw [r1.length]; exact le24_ok hz, fun p hp => ?_⟩
    obtain ⟨G2, s2, R2, rv⟩ := R1.res (Res.tup R1.same hp r1)
    exact q _ G2 _ R2 (s1.trans s2) rv
  · rw [if_neg hz] at e2; cases e2
def freeAt (i : Nat) (env : Env) : Bool := match env[i]? with
  | some none => true
  | _ => false
def sTry (cid i : Nat) (fb : Env → Out Fl) (fx : Exc → Env → Option D) : Env → Out Fl := fun env => match fb env with
  | .ex x env' => if x.cls = cid ∧ freeAt i env' = true then (match fx x env' with
    | some dv => .ok (.rt (.fz dv) (env'.set i none))
    | none => .st) else .st
  | r => r
theorem ds_try1 {k : Nat} {x n : Str} {C : Addr} {cid i : Nat} {body : List Stmt} {e : Expr} {np rp pos' pos : Pos} {fb : Env → Out Fl} {fx : Exc → Env → Option D} (g : Good X Wx k) (hs : X.stack = X.env :: X.outer) (hf : X.env.frame = some X.env.locals) (hi : X.N[i]? = some n)
    (hln : X.env.kindOf n = some .local) (hcx : Names X x (.ref C)) (hex : PySem.W.exmOne X.K (.ref C) (.ref C) = some true) (hcid : c cid = .ref C)
    (hb : ∀ W pn xe, Good (X.tr pn xe) W k → DSs (X.tr pn xe) c W body fb) (hsu : DX X c i cid e fx) :
    DS X c Wx (.Try body [.ExceptHandler (some (.Name x np)) (some n) [.Return (some e) rp] pos'] [] [] pos) (sTry cid i fb fx) := by
  obtain ⟨t, pt, kt⟩ := hsu.ex
  refine ⟨_, ps_try_as (tb := fun W => tCanS (wd X c) W fb) hs hf g.nd hi hln hcx g.tk (fun W pn xe tk po => (hb W pn xe ⟨g.nd, g.calm, po, tk, g.room, g.gd⟩).can rfl)
    (fun a oe cls d pn hz hf' => pss_cons (ps_ret (pt a oe cls d pn hz hf')) pss_nil), fun F G env σ H D R h => ?_⟩
  refine ⟨F, G, env, R, ?_⟩
  unfold sTry at h
  cases ef : fb env with
  | st => rw [ef] at h; exact h.elim
  | ok fl => rw [ef] at h; dsimp only at h; cases fl <;> exact h
  | ex xx env' =>
    rw [ef] at h
    dsimp only at h
    by_cases hz : xx.cls = cid ∧ freeAt i env' = true
    · rw [if_pos hz] at h
      obtain ⟨hx, hfree⟩ := hz
      cases ev : fx xx env' with
      | none => rw [ev] at h; exact h.elim
      | some dv =>
        rw [ev] at h
        intro σ' G' H' cls dx R1 s1 ok
        have hcl : cls = .ref C := by rw [ok.1, hx]; exact hcid
        have he : env'[i]? = some none := by
          unfold freeAt at hfree
          split at hfree
          · assumption
          · cases hfree
        have hlt : i < σ'.length := by rw [← R1.len]; exact (List.getElem?_eq_some_iff.mp he).1
        refine ⟨true, by rw [hcl]; exact hex, fun _ a ha => ?_, fun q => by cases q⟩
        have R2 : Rel (wd X c) F G' (env'.set i none) (σ'.set i (some (.ref a))) H' := R1.drop fun d' z => by rw [he] at z; cases z
        have hset : env'.set i none = env' := by
          apply List.ext_getElem?
          intro j
          by_cases hj : j = i
          · rw [hj, List.getElem?_set_self (by rw [R1.len]; exact hlt), he]
          · rw [List.getElem?_set_ne (fun z => hj z.symm)]
        refine kt a cls dx F G' (env'.set i none) (σ'.set i (some (.ref a))) H' _ xx dv R2 (by rw [List.getElem?_set_self hlt]) hx ok (by rw [hset]; exact ev) fun v G2 H2 R3 s3 rv => ?_
        exact h v _ G2 H2 R3 (s1.trans s3) rv
    · rw [if_neg hz] at h; exact h.elim
end
end VS
namespace VS
open PySem PySem.Spec PyProof.Rows L2
/-! ### a class of errors, all told -/
/-- x: the class, over b; its __init__ has the parameter pn and sets the field f; cid: its number -/
structure ExP (P : Program) (w : World) (K : PySem.W.Frag) (mg : Str → Option Value) (c : Nat → Value) (x f pn b : Str) (cid : Nat) : Prop where
  ex : ∃ C CB fI fd, ExK K C CB fI f ∧ (∀ base, FnOk P w K mg base CX0 1 fI fd ["self", pn] (spI C f)) ∧ Binds K fd ["self", pn] [] ∧ mg x = some (.ref C) ∧ c cid = .ref C ∧ mg b = some (.ref CB) ∧ PySem.W.kitOne K (.ref C) (.ref CB) = some true
section
variable {X : Cx} {c : Nat → Value} {Wx : WX}
theorem ds_raise2 {x f pn b : Str} {cid : Nat} {e : Expr} {p pos1 pos : Pos} {fe : Env → Out (RV × Env)} (A : ExP X.prog X.w X.K X.mg c x f pn b cid) (hr : Room 2 X.A) (hc : X.calm = true) (tk : Takes X Wx) (hg : Gl X x) (ha : DE X c Wx e fe) (hdb : (x == ("__debug__" : Str)) = false := by decide)
    (he : starEach [e] X.env = (false, eval e X.env) :: starEach [] X.env := by rfl) (hpl : (backTo pos1 (starEach [] X.env)).any (·.1) = false := by rfl) :
    DS X c Wx (.Raise (some (.Call (.Name x p) [e] [] pos1)) none pos) (sRaise cid f fe) := by
  obtain ⟨C, CB, fI, fd, E, F1, hb, hm, hcid, _, _⟩ := A.ex
  exact ds_raise E (F1 X.base) hr hb hc tk hg hm hcid ha hdb he hpl
theorem dx_fld2 {i cid : Nat} {x f pn b n : Str} {p pos : Pos} (A : ExP X.prog X.w X.K X.mg c x f pn b cid) (hn : ∀ a pn, PE (X.suite a pn) (.Name n p) (tVar i))
    (hb : attributeBase (.Name n p) f X.env (eval (.Name n p) X.env) = eval (.Name n p) X.env := by rfl) : DX X c i cid (.Attribute (.Name n p) f pos) (xFld f) := by
  obtain ⟨C, CB, fI, fd, E, _, _, _, hcid, _, _⟩ := A.ex
  exact dx_fld E hcid hn hb
theorem dx_is2 {i cid : Nat} {x f pn b n : Str} {p1 p2 p3 pos : Pos} (A : ExP X.prog X.w X.K X.mg c x f pn b cid) (hn : ∀ a pn, PE (X.suite a pn) (.Name n p2) (tVar i))
    (hgi : Gl X "isinstance") (hmi : X.mg "isinstance" = none) (hgy : Gl X b) (hdy : (b == ("__debug__" : Str)) = false := by decide)
    (he : ∀ (e1 e2 : Expr), starEach [.Name n p2, .Name b p3] X.env = (false, eval (.Name n p2) X.env) :: starEach [.Name b p3] X.env := by intros; rfl) (he2 : starEach [.Name b p3] X.env = (false, eval (.Name b p3) X.env) :: starEach [] X.env := by rfl)
    (hpl : (backTo pos (starEach [.Name b p3] X.env)).any (·.1) = false := by rfl) :
    DX X c i cid (.Call (.Name "isinstance" p1) [.Name n p2, .Name b p3] [] pos) (fun x _ => if x.fld.isSome = true then some (.bl true) else none) := by
  obtain ⟨C, CB, fI, fd, E, _, _, _, hcid, hmb, hk⟩ := A.ex
  exact dx_is E hcid hn hk hgi hmi hgy hmb hdy he he2 hpl
theorem ds_try2 {k : Nat} {x f pn b n : Str} {cid i : Nat} {body : List Stmt} {e : Expr} {np rp pos' pos : Pos} {fb : Env → Out Fl} {fx : Exc → Env → Option D} (A : ExP X.prog X.w X.K X.mg c x f pn b cid) (g : Good X Wx k) (hs : X.stack = X.env :: X.outer) (hf : X.env.frame = some X.env.locals) (hi : X.N[i]? = some n)
    (hln : X.env.kindOf n = some .local) (hgx : Gl X x) (hb : ∀ W pn xe, Good (X.tr pn xe) W k → DSs (X.tr pn xe) c W body fb) (hsu : DX X c i cid e fx) (hdb : (x == ("__debug__" : Str)) = false := by decide) :
    DS X c Wx (.Try body [.ExceptHandler (some (.Name x np)) (some n) [.Return (some e) rp] pos'] [] [] pos) (sTry cid i fb fx) := by
  obtain ⟨C, CB, fI, fd, E, _, _, hm, hcid, _, _⟩ := A.ex
  exact ds_try1 g hs hf hi hln ⟨hgx, hdb, .inl hm⟩ E.ex hcid hb hsu
end
/-! ### the Hook, with a further fact -/
def obsX (fa : List He.Fa) (fn : List He.DefD) (fx : PySem.W.Frag → Bool) (K : PySem.W.Frag) : He.AlD := (((fa.all fun f => f.ok K) && fn.all fun d => d.ok K) && fx K, fn.map fun d => He.fnW K d.at_)
def SaysX (fa : List He.Fa) (fn : List He.DefD) (fx : PySem.W.Frag → Bool) (K : PySem.W.Frag) : Prop := obsX fa fn fx K = He.valD fn
def obsXG (n : Nat) (fa : List He.Fa) (fn : List He.DefD) (fx : PySem.W.Frag → Bool) (g : Addr → Option Obj) : He.AlD := obsX fa fn fx (He.frG g (cStatics :: He.asD g n))
def hookX (n : Nat) (fa : List He.Fa) (fn : List He.DefD) (fx : PySem.W.Frag → Bool) : PySem.W.Hook where
  α := He.AlD
  obs := fun s => obsXG n fa fn fx s.heap.get?
  val := fun _ => He.valD fn
  says := fun _ h => ∃ K : PySem.W.Frag, K.In h ∧ SaysX fa fn fx K
  of := fun _ _ e => ⟨_, He.frG_in, e⟩
  keeps := fun _ _ _ ⟨K, hK, c⟩ k => ⟨K, PySem.W.Frag.In.keeps hK k, c⟩
theorem obsXG_eq {n : Nat} {fa : List He.Fa} {fn : List He.DefD} {fx : PySem.W.Frag → Bool} {g : Addr → Option Obj} {s : Shared} (h : ∀ a, g a = s.heap.get? a) : obsXG n fa fn fx g = (hookX n fa fn fx).obs s := by
  have e : g = s.heap.get? := funext h
  rw [e] <;> rfl
theorem SaysX.split {fa : List He.Fa} {fn : List He.DefD} {fx : PySem.W.Frag → Bool} {K : PySem.W.Frag} (c : SaysX fa fn fx K) : He.SaysD fa fn K ∧ fx K = true := by
  have c1 : (((fa.all fun f => f.ok K) && fn.all fun d => d.ok K) && fx K) = true := congrArg (fun z : He.AlD => z.1) c
  have c2 : fn.map (fun d => He.fnW K d.at_) = fn.map He.DefD.val := congrArg (fun z : He.AlD => z.2) c
  obtain ⟨h1, h2⟩ := Bool.and_eq_true_iff.mp c1
  refine ⟨?_, h2⟩
  show ((fa.all fun f => f.ok K) && fn.all fun d => d.ok K, fn.map fun d => He.fnW K d.at_) = (true, fn.map He.DefD.val)
  rw [h1, c2]
/-- the facts of a class, to be read off the text -/
def exF (x b f : Str) (K : PySem.W.Frag) : Bool := exB K (He.ga K x) (He.ga K b) (He.ma K (He.ga K x) "__init__") f && decide (PySem.W.kitOne K (.ref (He.ga K x)) (.ref (He.ga K b)) = some true)
theorem exF_ok {x b f : Str} {K : PySem.W.Frag} (h : exF x b f K = true) : ExK K (He.ga K x) (He.ga K b) (He.ma K (He.ga K x) "__init__") f ∧ PySem.W.kitOne K (.ref (He.ga K x)) (.ref (He.ga K b)) = some true := by
  obtain ⟨h1, h2⟩ := Bool.and_eq_true_iff.mp h
  exact ⟨exB_ok h1, of_decide_eq_true h2⟩
end VS
namespace VS
open PySem PySem.Spec PyProof.Rows L2
/-! ### a list of the frame's own, walked and kept -/
def lendF (F : FrI) (i : Nat) (a : Addr) (o : HO) : FrI := ⟨upd F.E a o, F.G0, (i, a) :: F.ios⟩
section
variable {W : Wd} {Wx : WX} {F : FrI} {G H : Hp} {env : Env} {σ : L2.St} {i : Nat} {d : D} {a : Addr} {o : HO}
theorem Rel.own_at (R : Rel W F G env σ H) (e : env[i]? = some (some (d, .own))) : ∃ a o, σ[i]? = some (some (V.ref a)) ∧ F.E a = none ∧ G a = none ∧ H a = some o ∧ Sh W G a o d := by
  obtain ⟨v, hv, ok⟩ := R.cells i _ e
  obtain ⟨a, rfl, h1, h2, o, h3, h4⟩ := ok
  exact ⟨a, o, hv, h1, h2, h3, h4⟩
theorem Rel.lend (R : Rel W F G env σ H) (e : env[i]? = some (some (d, .own))) (hv : σ[i]? = some (some (V.ref a))) (hE : F.E a = none) (hG : G a = none) (hH : H a = some o) (hs : Sh W G a o d) :
    Rel W (lendF F i a o) G (env.set i (some (d, .io))) σ H := by
  have hlt : i < env.length := (List.getElem?_eq_some_iff.mp e).1
  refine ⟨R.same, R.g0, fun b hb => ?_, fun b o' hb n => ?_, fun b hb => ?_, fun j c ej => ?_, fun j k cj ck b n ej ek nj nk => ?_, fun p hp => ?_, by rw [List.length_set]; exact R.len⟩
  · by_cases z : b = a
    · subst z
      show G b = F.G0 b
      cases q : F.G0 b with
      | none => exact hG
      | some u => have := R.g0 b u q; rw [hG] at this; cases this
    · exact R.gE b (by have h' : upd F.E a o b ≠ none := hb; rw [upd_ne z] at h'; exact h')
  · have h' : upd F.E a o b = some o' := hb
    by_cases z : b = a
    · subst z; rw [upd_same] at h'; cases h'; exact hH
    · rw [upd_ne z] at h'
      exact R.out b o' h' fun m => n (List.mem_cons_of_mem _ m)
  · show upd F.E a o b = none
    by_cases z : b = a
    · subst z; rw [hH] at hb; cases hb
    · rw [upd_ne z]; exact R.dom b hb
  · rcases set_of ej with ⟨rfl, z⟩ | ⟨n, ej⟩
    · cases z
      exact ⟨_, hv, a, rfl, List.mem_cons_self, hG, o, hH, hs⟩
    · obtain ⟨v, hv', ok⟩ := R.cells j c ej
      refine ⟨v, hv', ?_⟩
      obtain ⟨d', ow⟩ := c
      cases ow with
      | frz => exact ok
      | own =>
        obtain ⟨b, e1, e2, e3⟩ := ok
        subst e1
        have hne : b ≠ a := fun z => by
          subst z
          exact R.dis i j (d, .own) (d', .own) b n e ej (by simp) (by simp) hv hv'
        exact ⟨b, rfl, by show upd F.E a o b = none; rw [upd_ne hne]; exact e2, e3⟩
      | io =>
        obtain ⟨b, e1, e2, e3⟩ := ok
        exact ⟨b, e1, List.mem_cons_of_mem _ e2, e3⟩
  · have q : ∀ {j : Nat} {c : D × Ow}, (env.set i (some (d, .io)))[j]? = some (some c) → c.2 ≠ .frz → ∃ c', env[j]? = some (some c') ∧ c'.2 ≠ .frz := fun {j c} ej nj => by
      rcases set_of ej with ⟨rfl, z⟩ | ⟨_, ej⟩
      · exact ⟨_, e, by simp⟩
      · exact ⟨_, ej, nj⟩
    obtain ⟨cj', ej', nj'⟩ := q ej nj
    obtain ⟨ck', ek', nk'⟩ := q ek nk
    exact R.dis j k cj' ck' b n ej' ek' nj' nk'
  · rcases List.mem_cons.mp hp with rfl | hp
    · exact ⟨by show upd F.E a o a ≠ none; rw [upd_same]; simp, hv, d, set_at hlt⟩
    · obtain ⟨e1, e2, d', e3⟩ := R.ioc p hp
      refine ⟨?_, e2, d', ?_⟩
      · show upd F.E a o p.2 ≠ none
        by_cases z : p.2 = a
        · rw [z, upd_same]; simp
        · rw [upd_ne z]; exact e1
      · have hne : i ≠ p.1 := fun z => by rw [z] at e; rw [e3] at e; cases e
        rw [List.getElem?_set_ne hne]; exact e3
def backO (i : Nat) (env : Env) : Option Env := match env[i]? with
  | some (some (d, .io)) => some (env.set i (some (d, .own)))
  | _ => none
theorem backO_some {env env' : Env} (e : backO i env = some env') : ∃ d, env[i]? = some (some (d, .io)) ∧ env' = env.set i (some (d, .own)) := by
  unfold backO at e
  split at e
  · rename_i d h
    cases e
    exact ⟨d, h, rfl⟩
  · cases e
theorem Rel.lent {G1 H1 : Hp} {env1 : Env} {σ1 : L2.St} {d1 : D} (R0 : Rel W F G env σ H) (e0 : env[i]? = some (some (d, .own))) (hE : F.E a = none) (R : Rel W (lendF F i a o) G1 env1 σ1 H1) (e : env1[i]? = some (some (d1, .io))) :
    Rel W F G1 (env1.set i (some (d1, .own))) σ1 H1 := by
  have hv : σ1[i]? = some (some (V.ref a)) := (R.ioc (i, a) List.mem_cons_self).2.1
  have hlt : i < env1.length := (List.getElem?_eq_some_iff.mp e).1
  have hEn : ∀ {b : Addr}, F.E b ≠ none → b ≠ a := fun h z => h (z ▸ hE)
  have up : ∀ {b : Addr}, b ≠ a → upd F.E a o b = F.E b := fun z => upd_ne z
  refine ⟨R.same, R.g0, fun b hb => R.gE b ?_, fun b o' hb n => R.out b o' ?_ ?_, fun b hb => ?_, fun j c ej => ?_, fun j k cj ck b n ej ek nj nk => ?_, fun p hp => ?_, by rw [List.length_set]; exact R.len⟩
  · show upd F.E a o b ≠ none
    rw [up (hEn hb)]; exact hb
  · show upd F.E a o b = some o'
    rw [up (hEn (by rw [hb]; simp))]; exact hb
  · intro m
    rcases List.mem_cons.mp (show b ∈ a :: F.ios.map (·.2) from m) with z | m
    · exact hEn (by rw [hb]; simp) z
    · exact n m
  · have := R.dom b hb
    by_cases z : b = a
    · rw [z]; exact hE
    · have h' : upd F.E a o b = none := this
      rw [up z] at h'; exact h'
  · rcases set_of ej with ⟨rfl, z⟩ | ⟨n, ej⟩
    · cases z
      obtain ⟨v, hv', ok⟩ := R.cells i _ e
      rw [hv] at hv'; cases hv'
      obtain ⟨b, e1, _, e3⟩ := ok
      cases e1
      exact ⟨_, hv, a, rfl, hE, e3⟩
    · obtain ⟨v, hv', ok⟩ := R.cells j c ej
      refine ⟨v, hv', ?_⟩
      obtain ⟨d', ow⟩ := c
      cases ow with
      | frz => exact ok
      | own =>
        obtain ⟨b, e1, e2, e3⟩ := ok
        have h' : upd F.E a o b = none := e2
        have hne : b ≠ a := fun z => by rw [z, upd_same] at h'; cases h'
        rw [up hne] at h'
        exact ⟨b, e1, h', e3⟩
      | io =>
        obtain ⟨b, e1, e2, e3⟩ := ok
        refine ⟨b, e1, ?_, e3⟩
        rcases List.mem_cons.mp e2 with z | m
        · cases z; exact absurd rfl n
        · exact m
  · have q : ∀ {j : Nat} {c : D × Ow}, (env1.set i (some (d1, .own)))[j]? = some (some c) → c.2 ≠ .frz → ∃ c', env1[j]? = some (some c') ∧ c'.2 ≠ .frz := fun {j c} ej nj => by
      rcases set_of ej with ⟨rfl, z⟩ | ⟨_, ej⟩
      · exact ⟨_, e, by simp⟩
      · exact ⟨_, ej, nj⟩
    obtain ⟨cj', ej', nj'⟩ := q ej nj
    obtain ⟨ck', ek', nk'⟩ := q ek nk
    exact R.dis j k cj' ck' b n ej' ek' nj' nk'
  · obtain ⟨_, e2, d', e3⟩ := R.ioc p (List.mem_cons_of_mem _ hp)
    refine ⟨(R0.ioc p hp).1, e2, d', ?_⟩
    have hne : i ≠ p.1 := fun z => by
      obtain ⟨_, _, d2, e4⟩ := R0.ioc p hp
      rw [← z, e0] at e4; cases e4
    rw [List.getElem?_set_ne hne]; exact e3
theorem RVok.lent {G1 H1 : Hp} {env1 : Env} {σ1 : L2.St} {d1 : D} {v : V} (R : Rel W (lendF F i a o) G1 env1 σ1 H1) (e : env1[i]? = some (some (d1, .io))) : ∀ {r : RV}, RVok W (lendF F i a o) G1 env1 σ1 H1 v r → RVok W F G1 (env1.set i (some (d1, .own))) σ1 H1 v r
  | .fz _, h => h
  | .bo _, h => h
  | .fr _, ⟨p, e1, e2, e3, fr⟩ => by
    have h' : upd F.E a o p = none := e2
    have hne : p ≠ a := fun z => by rw [z, upd_same] at h'; cases h'
    rw [upd_ne hne] at h'
    refine ⟨p, e1, h', e3, fun j c ej nj => ?_⟩
    rcases set_of ej with ⟨rfl, z⟩ | ⟨_, ej⟩
    · rw [(R.ioc (i, a) List.mem_cons_self).2.1]
      intro q; cases q; exact hne rfl
    · exact fr j c ej nj
end
/-! ### the walk -/
open Classical in
/-- all: what the list holds; looked at before each turn -/
noncomputable def forO (i : Nat) (all : List D) (g : RV → Env → Out Env) (b : Env → Out Fl) : List D → Env → Out Fl
  | [], env => if env[i]? = some (some (.lst all, .io)) then .ok (.nx env) else .st
  | d :: ds, env => if env[i]? = some (some (.lst all, .io)) then (g (.fz d) env).bind fun e => (b e).bind (loopK (forO i all g b ds)) else .st
def backF (i : Nat) : Fl → Out Fl
  | .nx e => match backO i e with
    | some e' => .ok (.nx e')
    | none => .st
  | .rt r e => match backO i e with
    | some e' => .ok (.rt r e')
    | none => .st
  | _ => .st
noncomputable def sForO (i : Nat) (sel : List D → List D) (g : RV → Env → Out Env) (b : Env → Out Fl) : Env → Out Fl := fun env => match env[i]? with
  | some (some (.lst ds, .own)) => (noEx (forO i ds g b (sel ds) (env.set i (some (.lst ds, .io))))).bind (backF i)
  | _ => sFor (dIt (fun d => (itemsL d).map sel) (dVar i)) g b env
/-- what is walked: a list at a, with the items vs; told by the state -/
def ItO (W : Wd) (a : Addr) (J : It) (ds : List D) (sel : List D → List D) : Prop := ∀ (G : Hp) (i : Nat) (H : Hp) (vs : List V), H a = some (.lst vs) → RpA W G vs ds → Same G H → ((sel ds).length ≤ i → J.stop i H) ∧ ∀ d, (sel ds)[i]? = some d → J.go i H ∧ ∀ x H', J.yld i H x H' → Res W G H d false x H'
section
variable {X : Cx} {c : Nat → Value} {Wx : WX}
theorem ito_list {W : Wd} {a : Addr} {ds : List D} : ItO W a (Itl W.K a) ds id := fun G i H vs ha ra sm => by
  have hh : SqL W.K H a vs := .inl (.inl ha)
  refine ⟨fun z => ⟨vs, hh, by rw [ra.length]; exact z⟩, fun d e => ?_⟩
  obtain ⟨v, ev, rv⟩ := ra.get e
  refine ⟨⟨vs, v, hh, ev⟩, fun x H' y => ?_⟩
  obtain ⟨rfl, y⟩ := y
  have := y vs hh
  rw [ev] at this; cases this
  exact Res.same sm rv
theorem ito_enum {W : Wd} {a : Addr} {ds : List D} : ItO W a (Ite W.K a) ds enumD := fun G i H vs ha ra sm => by
  have hh : SqL W.K H a vs := .inl (.inl ha)
  refine ⟨fun z => ⟨vs, hh, by rw [ra.length]; simpa [enumD] using z⟩, fun d e => ?_⟩
  obtain ⟨x, ex, rfl⟩ := enumD_get e
  obtain ⟨v, ev, rv⟩ := ra.get ex
  refine ⟨⟨vs, v, hh, ev⟩, fun u H' y => ?_⟩
  obtain ⟨T, y1, rfl, hT, rfl, y2⟩ := y
  have := y2 vs hh
  rw [ev] at this; cases this
  exact Res.tup sm hT (.cons (.int _) (.cons rv .nil))
theorem forO_walk {js : List Nat} {i : Nat} {all : List VS.D} {sel : List VS.D → List VS.D} {g : RV → Env → Out Env} {f : Env → Out Fl} {tg' : TG} {tb : TS} {F : FrI} {a : Addr} {o : HO} {J : It} (it : ItO (wd X c) a J all sel)
    (kg : ∀ F G env σ H v r Q, Rel (wd X c) F G env σ H → RVok (wd X c) F G env σ H v r → GPost (wd X c) Wx F G σ js Q (g r env) → tg' v σ H Q)
    (kb : ∀ F G env σ H D, Rel (wd X c) F G env σ H → SPost (wd X c) Wx F G D (f env) → tb D σ H) {ti : TI} {G H : Hp} {env : Env} {σ : L2.St} {D : Ends} (hti : ∀ Q : It → Hp → Prop, Q J H → ti σ H Q)
    (R : Rel (wd X c) (lendF F i a o) G env σ H) (h : SPost (wd X c) Wx (lendF F i a o) G D (forO i all g f (sel all) env)) : tFor ti tg' tb D σ H := by
  refine hti _ ⟨fun n m σ' H' => ∃ G' env', Same G G' ∧ Rel (wd X c) (lendF F i a o) G' env' σ' H' ∧ n ≤ (sel all).length ∧ m = (sel all).length - n ∧ SPost (wd X c) Wx (lendF F i a o) G' D (forO i all g f ((sel all).drop n) env'), ⟨_, G, env, Same.refl G, R, Nat.zero_le _, rfl, h⟩, ?_⟩
  rintro n m σ2 H2 ⟨G2, env2, s2, R2, hi, hm, h2⟩
  have hat : ∀ {e : env2[i]? = some (some (.lst all, .io))}, ∃ vs, H2 a = some (.lst vs) ∧ RpA (wd X c) G2 vs all := fun {e} => by
    obtain ⟨v, hv, ok⟩ := R2.cells i _ e
    obtain ⟨b, rfl, _, _, o', ho, sh⟩ := ok
    have hv2 := (R2.ioc (i, a) List.mem_cons_self).2.1
    rw [hv] at hv2; cases hv2
    cases sh with
    | lst ra => exact ⟨_, ho, ra⟩
  by_cases z : (sel all).length ≤ n
  · rw [List.drop_eq_nil_of_le z] at h2
    unfold forO at h2
    split at h2
    · rename_i e
      obtain ⟨vs, ha, ra⟩ := hat (e := e)
      exact .inl ⟨(it G2 n H2 vs ha ra R2.same).1 z, h2 σ2 G2 H2 R2 (Same.refl G2)⟩
    · exact h2.elim
  · have z : n < (sel all).length := Nat.lt_of_not_le z
    rw [List.drop_eq_getElem_cons z] at h2
    unfold forO at h2
    split at h2
    · rename_i e
      obtain ⟨vs, ha, ra⟩ := hat (e := e)
      obtain ⟨j1, j2⟩ := (it G2 n H2 vs ha ra R2.same).2 _ (List.getElem?_eq_getElem z)
      refine .inr ⟨j1, fun σ' H' => ∃ G' env', Same G G' ∧ Rel (wd X c) (lendF F i a o) G' env' σ' H' ∧ SPost (wd X c) Wx (lendF F i a o) G' D (forO i all g f ((sel all).drop (n + 1)) env'), ?_, fun x H' y => ?_⟩
      · rintro σ' H' ⟨G', env', a', b', d'⟩
        exact ⟨(sel all).length - (n + 1), by omega, G', env', a', b', z, rfl, d'⟩
      · obtain ⟨G3, s3, R3, rv⟩ := R2.res (j2 x H' y)
        refine kg _ G3 env2 σ2 H' x (.fz (sel all)[n]) _ R3 rv (gpost_then (α := Fl) (k := fun e => (f e).bind (loopK (forO i all g f ((sel all).drop (n + 1))))) (post := SPost (wd X c) Wx (lendF F i a o) G3 D) (fun h => h) (fun _ _ h => h) (SPost.grow s3 h2) fun e σ4 G4 H4 R4 s4 _ h4 => ?_)
        exact kb _ G4 e σ4 H4 _ R4 (loop_turn (SPost.grow s4 h4) fun σ' G' H' e' R' s' h5 => ⟨G', e', s2.trans (s3.trans (s4.trans s')), R', h5⟩)
    · exact h2.elim
/-- an iterator over the list in slot i -/
structure DIO (X : Cx) (c : Nat → Value) (i : Nat) (sel : List D → List D) (tg iter : Expr) : Prop where
  ex : ∃ (ti : TI) (J : Addr → It), PI X tg iter ti ∧ (∀ a all, ItO (wd X c) a (J a) all sel) ∧ (∀ σ H Q a vs, σ[i]? = some (some (V.ref a)) → H a = some (.lst vs) → Q (J a) H → ti σ H Q) ∧
    ∀ (Wx : WX) F G env σ H Q, Rel (wd X c) F G env σ H → IPost (wd X c) Wx F G σ Q (dIt (fun d => (itemsL d).map sel) (dVar i) env) → ti σ H Q
theorem DIO.di {i : Nat} {sel : List D → List D} {ti : TI} (ki : ∀ (Wx : WX) F G env σ H Q, Rel (wd X c) F G env σ H → IPost (wd X c) Wx F G σ Q (dIt (fun d => (itemsL d).map sel) (dVar i) env) → ti σ H Q) {α : Type} (Wx : WX) (F : FrI) (G : Hp) (env : Env) (σ : L2.St) (H : Hp) (R : Rel (wd X c) F G env σ H)
    (Q : It → Hp → Prop) (k : List VS.D × Env → Out α) (post : Out α → Prop) (pl : PL (wd X c) Wx F G σ post) (hp : post ((dIt (fun d => (itemsL d).map sel) (dVar i) env).bind k))
    (hk : ∀ ds env' J G' H', Rel (wd X c) F G' env' σ H' → Same G G' → ItW (wd X c) G' J ds → post (k (ds, env')) → Q J H') : ti σ H Q := by
  refine ki Wx F G env σ H Q R ?_
  cases e : dIt (fun d => (itemsL d).map sel) (dVar i) env with
  | ok p => rw [e] at hp; exact fun v G' H' R' s r => hk _ _ v G' H' R' s r hp
  | ex x env' => rw [e] at hp; exact fun G' H' cls dx R' s r => pl.ex x env' hp G' H' cls dx R' s r
  | st => rw [e] at hp; exact pl.st hp
theorem ds_forO {i : Nat} {sel : List D → List D} {tg it : Expr} {b : List Stmt} {pos : Pos} {js : List Nat} {g : RV → Env → Out Env} {f : Env → Out Fl} (hp : PassesOwn (model X.prog X.w) X.A X.env X.xe) (hc : X.calm = true) (hi : DIO X c i sel tg it) (hg : DG X c Wx tg js g) (hb : DSs X c Wx b f) (hs : ∀ x : Value, foldedSetIterable it X.env x = pure x := by intro x; rfl) : DS X c Wx (.For tg it b [] pos) (sForO i sel g f) := by
  obtain ⟨ti, J, pi, hJ, hown, ki⟩ := hi.ex
  obtain ⟨tg', pg, kg⟩ := hg.ex
  obtain ⟨tb, pb, kb⟩ := hb.ex
  refine ⟨_, ps_for hp hc pi pg pb hs, fun F G env σ H D R h => ?_⟩
  unfold sForO at h
  split at h
  · rename_i ds e
    obtain ⟨a, o, hv, hE, hG, hH, sh⟩ := R.own_at e
    have sh' := sh
    cases sh with
    | @lst vs _ ra =>
      refine forO_walk (F := F) (o := .lst vs) (hJ a ds) kg kb (fun Q q => hown σ H Q a vs hv hH q) (R.lend e hv hE hG hH sh') ?_
      cases q : forO i ds g f (sel ds) (env.set i (some (.lst ds, .io))) with
      | st => rw [q] at h; exact h.elim
      | ex x e' => rw [q] at h; exact h.elim
      | ok fl =>
        rw [q] at h
        have h' : SPost (wd X c) Wx F G D (backF i fl) := h
        cases fl with
        | nx e1 =>
          unfold backF at h'
          cases eb : backO i e1 with
          | none => simp only [eb] at h'; exact h'.elim
          | some e2 =>
            simp only [eb] at h'
            obtain ⟨d1, hd, rfl⟩ := backO_some eb
            exact fun σ' G' H' R' s' => h' σ' G' H' (R.lent e hE R' hd) s'
        | rt r e1 =>
          unfold backF at h'
          cases eb : backO i e1 with
          | none => simp only [eb] at h'; exact h'.elim
          | some e2 =>
            simp only [eb] at h'
            obtain ⟨d1, hd, rfl⟩ := backO_some eb
            exact fun v σ' G' H' R' s' rv => h' v σ' G' H' (R.lent e hE R' hd) s' (rv.lent R' hd)
        | bk e1 => exact h'.elim
        | ct e1 => exact h'.elim
  · exact for_walk (fun Q k post pl => DIO.di ki Wx F G env σ H R Q k post pl) kg kb R h
theorem dVar_it {W : Wd} {F : FrI} {G H : Hp} {env : Env} {σ : L2.St} {i : Nat} {Q : It → Hp → Prop} {f : VS.D → Option (List VS.D)} (R : Rel W F G env σ H) (h : IPost W Wx F G σ Q (dIt f (dVar i) env)) :
    ∃ v d ds G', σ[i]? = some (some v) ∧ f d = some ds ∧ Same G' H ∧ Rp W G' v d ∧ ∀ J, ItW W G' J ds → Q J H := by
  unfold dIt dVar at h
  cases q : env[i]? with
  | none => rw [q] at h; exact h.elim
  | some o =>
    cases o with
    | none => rw [q] at h; exact h.elim
    | some p =>
      obtain ⟨d, ow⟩ := p
      rw [q] at h
      obtain ⟨v, hv, ok⟩ := R.cells i _ q
      cases ow with
      | frz =>
        obtain ⟨d', ds, G', e1, sm, rp, k⟩ := frzItems_ok R (Same.refl G) (r := .fz d) ok h
        exact ⟨v, d', ds, G', hv, e1, sm, rp, k⟩
      | own =>
        obtain ⟨d', ds, G', e1, sm, rp, k⟩ := frzItems_ok R (Same.refl G) (r := .bo i) hv h
        exact ⟨v, d', ds, G', hv, e1, sm, rp, k⟩
      | io =>
        obtain ⟨d', ds, G', e1, sm, rp, k⟩ := frzItems_ok R (Same.refl G) (r := .bo i) hv h
        exact ⟨v, d', ds, G', hv, e1, sm, rp, k⟩
theorem dio_list {x : Str} {p : Pos} {i : Nat} {tg : Expr} (ha : PE X (.Name x p) (tVar i)) : DIO X c i id tg (.Name x p) := by
  refine ⟨_, fun a => Itl X.K a, pi_list ha, fun a all => ito_list, fun σ H Q a vs hv hH q => ⟨_, hv, a, rfl, ⟨vs, .inl (.inl hH)⟩, q⟩, fun Wx F G env σ H Q R h => ?_⟩
  obtain ⟨v, d, ds, G', hv, e1, sm, rp, k⟩ := dVar_it R h
  obtain ⟨es, e2, e3⟩ := Option.map_eq_some_iff.mp (show (itemsL d).map id = some ds from e1)
  cases e3
  obtain ⟨a, vs, rfl, sq, ra⟩ := rp.seqL e2
  exact ⟨_, hv, a, rfl, ⟨vs, SqL.grow sm sq⟩, k _ (itw_list sq ra)⟩
theorem dio_enum {x : Str} {p p2 pos tpos : Pos} {elts : List Expr} {kk i : Nat} (hg : Gl X "enumerate") (hm : X.mg "enumerate" = none) (ha : PE X (.Name x p2) (tVar i)) (hs : starEach [.Name x p2] X.env = [(false, eval (.Name x p2) X.env)] := by rfl) :
    DIO X c i enumD (.Tuple elts kk tpos) (.Call (.Name "enumerate" p) [.Name x p2] [] pos) := by
  refine ⟨_, fun a => Ite X.K a, pi_enum hg hm (pa_cons ha pa_nil hs) hs, fun a all => ito_enum, fun σ H Q a vs hv hH q => ⟨_, hv, a, vs, rfl, .inl (.inl hH), q⟩, fun Wx F G env σ H Q R h => ?_⟩
  obtain ⟨v, d, ds, G', hv, e1, sm, rp, k⟩ := dVar_it R h
  obtain ⟨es, e2, e3⟩ := Option.map_eq_some_iff.mp (show (itemsL d).map enumD = some ds from e1)
  subst e3
  obtain ⟨a, vs, rfl, sq, ra⟩ := rp.seqL e2
  refine ⟨_, hv, a, vs, rfl, SqL.grow sm sq, k _ fun G2 i H2 s2 sm2 => ?_⟩
  have hh := SqL.grow (s2.trans sm2) sq
  refine ⟨fun z => ⟨vs, hh, by rw [ra.length]; simpa [enumD] using z⟩, fun d e => ?_⟩
  obtain ⟨x, ex, rfl⟩ := enumD_get e
  obtain ⟨v, ev, rv⟩ := ra.get ex
  refine ⟨⟨vs, v, hh, ev⟩, fun u H' y => ?_⟩
  obtain ⟨T, y1, rfl, hT, rfl, y2⟩ := y
  have := y2 vs hh
  rw [ev] at this; cases this
  exact Res.tup sm2 hT (.cons (.int _) (.cons (rv.mono (Le.of s2)) .nil))
end
/-! ### readings of it -/
section
variable {i : Nat} {all : List D} {g : RV → Env → Out Env} {b : Env → Out Fl} {env : Env}
theorem forO_nil (h : env[i]? = some (some (.lst all, .io))) : forO i all g b [] env = .ok (.nx env) := by unfold forO; rw [if_pos h]
theorem forO_cons {d : D} {ds : List D} (h : env[i]? = some (some (.lst all, .io))) : forO i all g b (d :: ds) env = (g (.fz d) env).bind fun e => (b e).bind (loopK (forO i all g b ds)) := by
  conv => lhs; unfold forO
  rw [if_pos h]
theorem sForO_own {sel : List D → List D} {ds : List D} {e1 e2 : Env} (h : env[i]? = some (some (.lst ds, .own))) (he : forO i ds g b (sel ds) (env.set i (some (.lst ds, .io))) = .ok (.nx e1)) (hb : backO i e1 = some e2) : sForO i sel g b env = .ok (.nx e2) := by
  unfold sForO
  rw [h]
  show (noEx (forO i ds g b (sel ds) (env.set i (some (.lst ds, .io))))).bind (backF i) = _
  rw [he]
  show backF i (.nx e1) = _
  unfold backF
  simp only [hb]
end
end VS
namespace VS
open PySem PySem.Spec PyProof.Rows L2
/-! ### a display of a tuple, known whole -/
def tTupF (t : TA) : TE := fun σ H Q => t σ H fun xs H1 => xs.length ≤ sizeLine ∧ ∀ p o, H1 p = none → o.dict = none → Q (.ref p) (upd H1 p (.frz o (.tup xs)))
section
variable {X : Cx} {c : Nat → Value} {Wx : WX}
theorem pe_tupF {es : List Expr} {t : TA} {x1 : Nat} {pos : Pos} (h : PA X es t) : PE X (.Tuple es x1 pos) (tTupF t) := by
  refine ⟨fun pins s σ H Q I hq => ?_⟩
  refine wpAny_Tuple_spliced (thn (h.run pos pins s σ H _ I hq) fun us s1 ⟨xs, H1, I1, r, z, q⟩ => ⟨by rw [← r.length]; exact z, ?_⟩)
  have hf : H1 s1.heap.objs.size = none := I1.hok.fresh (Nat.le_refl _)
  refine ⟨.ref s1.heap.objs.size, upd H1 s1.heap.objs.size (.frz { cls := .type "tuple", data := .seq us.toArray } (.tup xs)), I1.laid (t' := s1.toks) (fun b u e => Heap.get?_push_of_some _ e) (Nat.le_refl _) ?_, rfl, q _ _ hf rfl⟩
  exact (show ObjOk X.prog X.w _ _ _ (.frz _ (.tup xs)) from ⟨Heap.get?_push_size _ rfl, z, us, r, ⟨_, Heap.get?_push_size _ rfl, rfl, _, rfl⟩⟩)
def dTplF (g : Env → Out (List RV × Env)) : Env → Out (RV × Env) := fun env => (g env).bind fun p => mkDisp .tpl false p.1 p.2
theorem de_tupF {es : List Expr} {pos : Pos} {x1 : Nat} {g : Env → Out (List RV × Env)} (h : DA X c Wx es g) : DE X c Wx (.Tuple es x1 pos) (dTplF g) := by
  obtain ⟨t, pa, ka⟩ := h.run
  refine ⟨_, pe_tupF pa, fun F G env σ H Q R hq => ?_⟩
  refine ka F G env σ H _ _ _ pl_E R hq fun rs env1 vs G1 H1 R1 s1 p1 h1 => ?_
  obtain ⟨ds, env', G', z, s', R', r, k⟩ := mkDisp_ok R1 s1 p1 h1
  exact ⟨by rw [r.length]; exact le24_ok z, fun p o hp hd => k _ _ (Res.tpl R'.same hp hd r)⟩
@[simp] theorem x_tupF {a : Env → Out (List RV × Env)} {env : Env} : dTplF a env = (a env).bind fun p => mkDisp .tpl false p.1 p.2 := (rfl)
end
@[simp] theorem x_finE {x : Exc} {env : Env} : finF none (.ex x env) = .ex x .non := (rfl)
@[simp] theorem y_isiS {T : String} {s : PySem.Str} : isiD T (.str s) = some ("str" == T || ("str" == "bool" && T == "int")) := (rfl)
@[simp] theorem y_isiDct {T : String} {kvs : List (Key × D)} : isiD T (.dct kvs) = some ("dict" == T || ("dict" == "bool" && T == "int")) := (rfl)
end VS
namespace VS
open PySem PySem.Spec PyProof.Rows L2
/-! ### a, *b = xs -/
section
variable {prog : Program} {w : World} {A : Around} {E : Value → Shared → Prop} {s : Shared}
theorem head_rest {l : Addr} {items : Array Value} {x : Value} {r : List Value} {Q : List Value → Shared → Prop} (hl : s.heap.IsList l items) (hh : A.handled = none) (he : items.toList = x :: r) (hz : items.size ≤ sizeLine)
    (hQ : ∀ (h2 : Heap) (tk : Nat), (∀ b o, s.heap.get? b = some o → h2.get? b = some o) → Q [x, .ref h2.objs.size] { s with heap := h2.push { cls := .type "list", data := .seq r.toArray }, toks := tk }) : wpAny (model prog w) A (unpackItems (.ref l) 2 (some 1)) Q E s := by
  have nI : l ≠ s.heap.objs.size := by
    obtain ⟨o, ho, _⟩ := hl
    exact Nat.ne_of_lt (Heap.lt_size ho)
  have sz : items.size = r.length + 1 := by rw [← Array.length_toList, he]; rfl
  unfold unpackItems
  refine wpAny_bind ?_
  unfold notIterableAtAll
  refine wpAny_bind (wpAny_specialOf hl.typeIs slot_list_iter.lookup (wpAny_pure ?_))
  simp only [Bool.false_eq_true, if_false]
  refine wpAny_bind (wpAny_holding (wpAny_pyIter_list hl ?_))
  refine wpAny_bind (wpAny_holding (PySem.W.kun_draw nI 1 0 _ _ ⟨_, Heap.get?_push_size _ rfl, rfl, rfl⟩ (hl.push _) (by omega) fun g1 it1 sb1 => ?_))
  have l1 : g1.IsList l items := (hl.push _).extBut sb1.extBut nI
  rw [List.drop_zero, he]
  obtain ⟨o1, ho1, _⟩ := id it1
  obtain ⟨o2, ho2, _⟩ := id l1
  refine wpAny_bind (wpAny_holding (PySem.W.kun_collect (s := { s with heap := g1 }) (T := "list_iterator") (.inr (.inr (.inl rfl))) (Walks.list (A := A.in1) hh s.heap.objs.size l nI items) (fun j u st => st.1.typeIs) (k := 1) (by omega) ⟨it1, l1⟩ (Heap.lt_size ho1) (Heap.lt_size ho2) (fun g2 tk kp => ?_) hz))
  rw [he]
  have eb : ∀ b o, s.heap.get? b = some o → g2.get? b = some o := fun b o e => by
    have ne : b ≠ s.heap.objs.size := Nat.ne_of_lt (Heap.lt_size e)
    exact kp b o ne (sb1.extBut b o ne (Heap.get?_push_of_some _ e))
  show wpAny _ _ (newList (r.take r.length) >>= fun d => pure ([x] ++ [d] ++ r.drop r.length)) _ _ _
  rw [List.take_length, List.drop_length]
  exact wpAny_bind (wpAny_newList (wpAny_pure (hQ g2 tk eb)))
end
def gHead (K : PySem.W.Frag) (t : TGs) : TG := fun v σ H Q => ∃ a x r, v = .ref a ∧ SqL K H a (x :: r) ∧ r.length ≤ sizeLine ∧ ∀ p, H p = none → t [x, .ref p] σ (upd H p (.lst r)) Q
section
variable {X : Cx} {c : Nat → Value} {Wx : WX}
theorem pg_head {e1 e2 : Expr} {k : Nat} {pos p2 : Pos} {t : TGs} (hc : X.calm = true) (h : PGs X [e1, e2] t) (hn : (assignEach [e1, .Starred e2 p2] X.env).length = 2 := by rfl) (hst : (assignEach [e1, .Starred e2 p2] X.env).findIdx? (·.1) = some 1 := by rfl)
    (hm : (assignEach [e1, .Starred e2 p2] X.env).map (·.2) = (assignEach [e1, e2] X.env).map (·.2) := by rfl) : PG X (.Tuple [e1, .Starred e2 p2] k pos) (gHead X.K t) := by
  refine ⟨fun pins s σ H v u Q I r hw => ?_⟩
  obtain ⟨a, x, xs, ev, hq, hl, q⟩ := hw
  subst ev
  cases r
  obtain ⟨its, rv, pl, hz⟩ := I.list hq
  rw [PyProof.Rows.assign_Tuple]
  refine wpAny_bind (wpAny_standAt ?_)
  unfold unpack
  rw [hn, hst, hm]
  cases rv with
  | @cons _ y _ ys ry rr =>
    refine wpAny_bind (wpAny_holding (head_rest pl.isList (I.ok.hd hc) (x := y) (r := ys) (by simp) (show ys.length + 1 ≤ sizeLine from (Paired.length rr) ▸ (show xs.length + 1 ≤ sizeLine from hz)) fun g tk kp => ?_))
    have I1 : Inv X pins σ H { s with heap := g, toks := tk } := I.kept (t' := tk) kp
    have hf : H g.objs.size = none := I1.hok.fresh (Nat.le_refl _)
    have I2 : Inv X pins σ (upd H g.objs.size (.lst xs)) { s with heap := g.push { cls := .type "list", data := .seq ys.toArray }, toks := tk } :=
      I1.laid (t' := tk) (fun b o e => Heap.get?_push_of_some _ e) (Nat.le_refl _) (show ObjOk X.prog X.w _ _ _ (.lst xs) from ⟨hl, ys, 0, rr, Heap.get?_push_size _ rfl⟩)
    exact h.run pins _ σ _ [x, .ref g.objs.size] [y, .ref g.objs.size] Q I2 (.cons ry (.cons rfl .nil)) (q _ hf)
def gHeadD (gs : List D → Env → Out Env) : RV → Env → Out Env := fun r env => match resolve env r with
  | some (.lst (d :: ds)) => if le24 ds.length = true then gs [d, .lst ds] env else .st
  | _ => .st
theorem dg_head {e1 e2 : Expr} {k : Nat} {pos p2 : Pos} {js : List Nat} {gs : List D → Env → Out Env} (hc : X.calm = true) (ha : DGs X c Wx [e1, e2] js gs) (hn : (assignEach [e1, .Starred e2 p2] X.env).length = 2 := by rfl) (hst : (assignEach [e1, .Starred e2 p2] X.env).findIdx? (·.1) = some 1 := by rfl)
    (hm : (assignEach [e1, .Starred e2 p2] X.env).map (·.2) = (assignEach [e1, e2] X.env).map (·.2) := by rfl) : DG X c Wx (.Tuple [e1, .Starred e2 p2] k pos) js (gHeadD gs) := by
  obtain ⟨t, pa, ka⟩ := ha.ex
  refine ⟨_, pg_head hc pa hn hst hm, fun F G env σ H v r Q R rv h => ?_⟩
  have h' : GPost (wd X c) Wx F G σ js Q (match resolve env r with
    | some (.lst (d :: ds)) => if le24 ds.length = true then gs [d, .lst ds] env else .st
    | _ => .st) := h
  cases e : resolve env r with
  | none => rw [e] at h'; exact h'.elim
  | some d0 =>
    rw [e] at h'
    cases d0 with
    | lst dl =>
      cases dl with
      | nil => exact h'.elim
      | cons d ds =>
        dsimp only at h'
        by_cases z : le24 ds.length = true
        · rw [if_pos z] at h'
          obtain ⟨a, vs, rfl, h1, hr⟩ := (rv.vw R e).lst R.same
          cases hr with
          | @cons x xs _ _ rx rr =>
            refine ⟨a, x, xs, rfl, SqL.of h1, by rw [rr.length]; exact le24_ok z, fun p hp => ?_⟩
            have hg : G p = none := R.same.free hp
            have le := Le.of (same_new (o := .lst xs) hg)
            have h2 : GPost (wd X c) Wx F (upd G p (.lst xs)) σ js Q (gs [d, .lst ds] env) := GPost.grow (same_new hg) h'
            exact ka F _ env σ _ [x, .ref p] [d, .lst ds] Q (R.both hp) (.cons (rx.mono le) (.cons (.lst upd_same (rr.mono le)) .nil)) h2
        · rw [if_neg z] at h'; exact h'.elim
    | _ => exact h'.elim
@[simp] theorem x_ghead {gs : List D → Env → Out Env} {r : RV} {env : Env} {d : D} {ds : List D} (h : resolve env r = some (.lst (d :: ds))) (hz : le24 ds.length = true) : gHeadD gs r env = gs [d, .lst ds] env := by
  unfold gHeadD
  rw [h]
  simp only [hz, if_true]
end
end VS
namespace VS
open PySem PySem.Spec PyProof.Rows L2
/-! ### sorted(xs), xs pairs of ints -/
def pII (p : Int × Int) : D := .tup [.int p.1, .int p.2]
def ppD : List D → Option (List (Int × Int))
  | [] => some []
  | .tup [.int i, .int j] :: r => (ppD r).map ((i, j) :: ·)
  | _ :: _ => none
theorem ppD_eq : ∀ {ds : List D} {ps : List (Int × Int)}, ppD ds = some ps → ds = ps.map pII
  | [], ps, e => by cases e; rfl
  | d :: r, ps, e => by
    unfold ppD at e
    split at e
    · rename_i h; cases h
    · rename_i i j r' h
      cases h
      obtain ⟨qs, e1, e2⟩ := Option.map_eq_some_iff.mp e
      subst e2
      rw [ppD_eq e1]; rfl
    · cases e
theorem ppD_map : ∀ ps : List (Int × Int), ppD (ps.map pII) = some ps
  | [] => rfl
  | (i, j) :: ps => by
    show (ppD (ps.map pII)).map ((i, j) :: ·) = _
    rw [ppD_map ps]; rfl
/-- p stands before q, or both are one -/
def leL (p q : Int × Int) : Prop := p.1 < q.1 ∨ (p.1 = q.1 ∧ p.2 ≤ q.2)
instance (p q : Int × Int) : Decidable (leL p q) := by unfold leL; infer_instance
theorem leL_anti {p q : Int × Int} (h1 : leL p q) (h2 : leL q p) : p = q := by
  obtain ⟨a, b⟩ := p
  obtain ⟨c, d⟩ := q
  unfold leL at h1 h2
  simp only at h1 h2
  have : a = c ∧ b = d := by omega
  rw [this.1, this.2]
theorem leL_trans {p q r : Int × Int} (h1 : leL p q) (h2 : leL q r) : leL p r := by
  unfold leL at *; omega
theorem leL_total (p q : Int × Int) : leL p q ∨ leL q p := by
  unfold leL; omega
def insL (x : Int × Int) : List (Int × Int) → List (Int × Int)
  | [] => [x]
  | y :: ys => if leL x y then x :: y :: ys else y :: insL x ys
def sortL : List (Int × Int) → List (Int × Int)
  | [] => []
  | x :: xs => insL x (sortL xs)
theorem insL_perm (x : Int × Int) : ∀ ys, (insL x ys).Perm (x :: ys)
  | [] => .refl _
  | y :: ys => by
    unfold insL
    by_cases h : leL x y
    · rw [if_pos h]
    · rw [if_neg h]
      exact (List.Perm.cons y (insL_perm x ys)).trans (List.Perm.swap x y ys)
theorem sortL_perm : ∀ xs, (sortL xs).Perm xs
  | [] => .refl _
  | x :: xs => (insL_perm x _).trans (List.Perm.cons x (sortL_perm xs))
theorem insL_sorted (x : Int × Int) : ∀ {ys : List (Int × Int)}, ys.Pairwise leL → (insL x ys).Pairwise leL
  | [], _ => List.pairwise_singleton _ _
  | y :: ys, h => by
    obtain ⟨h1, h2⟩ := List.pairwise_cons.mp h
    unfold insL
    by_cases z : leL x y
    · rw [if_pos z]
      refine List.pairwise_cons.mpr ⟨fun w hw => ?_, h⟩
      rcases List.mem_cons.mp hw with rfl | hw
      · exact z
      · exact leL_trans z (h1 w hw)
    · rw [if_neg z]
      refine List.pairwise_cons.mpr ⟨fun w hw => ?_, insL_sorted x h2⟩
      rcases List.mem_cons.mp ((insL_perm x ys).mem_iff.mp hw) with rfl | hw
      · exact (leL_total w y).resolve_left z
      · exact h1 w hw
theorem sortL_sorted : ∀ xs, (sortL xs).Pairwise leL
  | [] => .nil
  | x :: xs => insL_sorted x (sortL_sorted xs)
theorem sortedL_unique : ∀ {xs ys : List (Int × Int)}, xs.Perm ys → xs.Pairwise leL → ys.Pairwise leL → xs = ys
  | [], ys, p, _, _ => (List.Perm.nil_eq p)
  | x :: xs, [], p, _, _ => absurd p.length_eq (by simp)
  | x :: xs, y :: ys, p, h1, h2 => by
    obtain ⟨a1, a2⟩ := List.pairwise_cons.mp h1
    obtain ⟨b1, b2⟩ := List.pairwise_cons.mp h2
    have e : x = y := by
      have m1 : x ∈ y :: ys := p.mem_iff.mp List.mem_cons_self
      have m2 : y ∈ x :: xs := p.mem_iff.mpr List.mem_cons_self
      rcases List.mem_cons.mp m1 with e | m1
      · exact e
      · rcases List.mem_cons.mp m2 with e | m2
        · exact e.symm
        · exact leL_anti (a1 y m2) (b1 x m1)
    subst e
    rw [sortedL_unique ((List.perm_cons x).mp p) a2 b2]
theorem sortL_of {xs ys : List (Int × Int)} (p : ys.Perm xs) (h : ys.Pairwise leL) : ys = sortL xs := sortedL_unique (p.trans (sortL_perm xs).symm) h (sortL_sorted xs)
theorem sortL_congr {xs ys : List (Int × Int)} (p : ys.Perm xs) : sortL ys = sortL xs := sortL_of ((sortL_perm ys).trans p) (sortL_sorted ys)
def bSortedPP : OpN
  | [.lst ds] => (ppD ds).map fun ps => (.lst ((sortL ps).map pII), true)
  | _ => none
/-- the pair at a value -/
def pairAt (G : Hp) : V → Int × Int
  | .ref t => match G t with
    | some (.tup [.int i, .int j]) => (i, j)
    | _ => (0, 0)
  | _ => (0, 0)
section
variable {X : Cx} {c : Nat → Value}
theorem pairs_at {W : Wd} {G : Hp} : ∀ {vs : List V} {ps : List (Int × Int)}, RpA W G vs (ps.map pII) → vs.map (pairAt G) = ps ∧ ∀ v ∈ vs, ∃ t, v = V.ref t ∧ G t = some (.tup [.int (pairAt G v).1, .int (pairAt G v).2])
  | _, [], .nil => ⟨rfl, fun v hv => by cases hv⟩
  | _, (i, j) :: ps, .cons a t => by
    obtain ⟨h1, h2⟩ := pairs_at t
    cases a with
    | @tup b _ _ g ra =>
      cases ra with
      | cons ri rb =>
        cases ri
        cases rb with
        | cons rj rc =>
          cases rj
          cases rc
          have e : pairAt G (V.ref b) = (i, j) := by
            show (match G b with
              | some (.tup [.int i, .int j]) => (i, j)
              | _ => (0, 0)) = (i, j)
            rw [g]
          refine ⟨by rw [List.map_cons, e, h1], fun v hv => ?_⟩
          rcases List.mem_cons.mp hv with rfl | hv
          · exact ⟨b, rfl, by rw [e]; exact g⟩
          · exact h2 v hv
theorem pairs_rp {W : Wd} {G : Hp} : ∀ {vs : List V}, (∀ v ∈ vs, ∃ t, v = V.ref t ∧ G t = some (.tup [.int (pairAt G v).1, .int (pairAt G v).2])) → RpA W G vs ((vs.map (pairAt G)).map pII)
  | [], _ => .nil
  | v :: vs, h => by
    obtain ⟨t, e, g⟩ := h v List.mem_cons_self
    rw [List.map_cons, List.map_cons]
    refine .cons ?_ (pairs_rp fun y hy => h y (List.mem_cons_of_mem _ hy))
    subst e
    exact .tup g (.cons (.int _) (.cons (.int _) .nil))
theorem bSortedPP_ok : CallOk X c (.builtin "sorted") bSortedPP := by
  refine ⟨_, cr_sortedPO, fun G H vs ds d fr Q s hv e q => ?_⟩
  unfold bSortedPP at e
  split at e
  · rename_i ds'
    obtain ⟨ps, e1, e2⟩ := Option.map_eq_some_iff.mp e
    cases e2
    obtain ⟨v, rfl, h⟩ := vw1 hv
    obtain ⟨a, ws, rfl, h1, r⟩ := h.lst s
    rw [ppD_eq e1] at r
    obtain ⟨k1, k2⟩ := pairs_at r
    refine ⟨a, ws, pairAt G, rfl, SqL.of h1, fun x hx => ?_, fun ys p hs hb hp => ?_⟩
    · obtain ⟨t, e, g⟩ := k2 x hx
      exact ⟨t, e, s _ _ g⟩
    · have hr : RpA (wd X c) G ys ((ys.map (pairAt G)).map pII) := pairs_rp fun y hy => k2 y (hb.perm.mem_iff.mp hy)
      have hso : (ys.map (pairAt G)).Pairwise leL := by
        rw [List.pairwise_map]
        refine hs.imp fun {x y} h => ?_
        have := SrtO.lexB_no.mp h
        unfold leL; omega
      have hpm : (ys.map (pairAt G)).Perm ps := by rw [← k1]; exact hb.perm.map _
      rw [sortL_of hpm hso] at hr
      exact q _ _ (Res.fresh s hp (.lst hr))
  · cases e
end
theorem y_sortedPP (ps : List (Int × Int)) : bSortedPP [.lst (ps.map pII)] = some (.lst ((sortL ps).map pII), true) := by
  show (ppD (ps.map pII)).map (fun ps => (D.lst ((sortL ps).map pII), true)) = _
  rw [ppD_map]; rfl
theorem eqv_pII (p q : Int × Int) : PyData.eqv (toPy (pII p)) (toPy (pII q)) = decide (p = q) := by
  obtain ⟨a, b⟩ := p
  obtain ⟨c, d⟩ := q
  simp [pII, toPy, toPyA, PyData.eqv, PyData.eqvAll, eqv_int]
  rfl
theorem plain_pIIs : ∀ (ps : List (Int × Int)) (n : Nat), plainA (ps.map pII) (n + 1) = true
  | [], n => rfl
  | p :: ps, n => by
    rw [List.map_cons]
    simp [plainA, pII, plain, plain_pIIs ps n]
theorem plain_pL (ps : List (Int × Int)) : plain (.lst (ps.map pII)) 60 = true := by
  show plain (.lst (ps.map pII)) (59 + 1) = true
  simp only [plain]
  exact plain_pIIs ps 58
theorem plain_p1 (p : Int × Int) : plain (pII p) 60 = true := by simp [pII, plain, plainA]
theorem y_inPP {neg : Bool} (p : Int × Int) (ps : List (Int × Int)) : dIn neg (pII p) (.lst (ps.map pII)) = some (.bl (blIf neg (decide (p ∈ ps))), false) := by
  have any : ((toPyA (ps.map pII)).any fun z => PyData.eqv z (toPy (pII p))) = decide (p ∈ ps) := by
    induction ps with
    | nil => rfl
    | cons y ys ih =>
      rw [List.map_cons]
      simp only [toPyA, List.any_cons]
      rw [ih, eqv_pII]
      by_cases h : y = p
      · subst h; simp
      · have h' : ¬ p = y := fun e => h e.symm
        simp [h, h']
  have e : inLst neg (pII p) (.lst (ps.map pII)) = some (.bl (blIf neg (decide (p ∈ ps))), false) := by
    show (if (plain (pII p) 60 && plain (.lst (ps.map pII)) 60) = true then some (D.bl (blIf neg ((toPyA (ps.map pII)).any fun z => PyData.eqv z (toPy (pII p)))), false) else none) = _
    rw [plain_p1, plain_pL, any]; rfl
  show (inLst neg (pII p) (.lst (ps.map pII))).or _ = _
  rw [e]; rfl
theorem y_eqPP (ps qs : List (Int × Int)) : eqOp (.lst (ps.map pII)) (.lst (qs.map pII)) = some (.bl (decide (ps = qs)), false) := by
  have key : ∀ ps qs : List (Int × Int), PyData.eqvAll (toPyA (ps.map pII)) (toPyA (qs.map pII)) = decide (ps = qs) := by
    intro ps
    induction ps with
    | nil => intro qs; cases qs <;> simp [toPyA, PyData.eqvAll]
    | cons p ps ih =>
      intro qs
      cases qs with
      | nil => simp [toPyA, PyData.eqvAll]
      | cons q qs =>
        rw [List.map_cons, List.map_cons]
        simp only [toPyA, PyData.eqvAll]
        rw [eqv_pII, ih]
        simp
  unfold eqOp
  rw [plain_pL, plain_pL, toPy_lst, toPy_lst]
  have := key ps qs
  simp [PyData.eqv, this]
theorem y_nePP (ps qs : List (Int × Int)) : neOp (.lst (ps.map pII)) (.lst (qs.map pII)) = some (.bl (!decide (ps = qs)), false) := by
  have h := y_eqPP ps qs
  unfold eqOp at h
  unfold neOp
  rw [plain_pL, plain_pL] at h ⊢
  have h2 : PyData.eqv (toPy (.lst (ps.map pII))) (toPy (.lst (qs.map pII))) = decide (ps = qs) := by
    simpa using h
  simp [h2]
end VS
namespace VS
open PySem PySem.Spec PyProof.Rows L2
/-! ### a call that hands its arguments back: the answer is a plain value, nothing is frozen -/
def scal : D → Bool
  | .non => true
  | .bl _ => true
  | .int _ => true
  | .str _ => true
  | _ => false
theorem scal_rp {W : Wd} {G G' : Hp} {v : V} : ∀ {d : D}, scal d = true → Rp W G v d → Rp W G' v d
  | _, _, .non => .non
  | _, _, .bl b => .bl b
  | _, _, .int i => .int i
  | _, _, .str x => .str x
  | .lst _, h, _ => by cases h
  | .tup _, h, _ => by cases h
  | .tpl _, h, _ => by cases h
  | .dct _, h, _ => by cases h
  | .dctT _, h, _ => by cases h
  | .set _, h, _ => by cases h
  | .scr _, h, _ => by cases h
def callB (fn : Fn) (rs : List RV) (env : Env) : Out (RV × Env) := match frzNon none 0 env rs with
  | some (ds, _) => match fn ds with
    | .ok d fr _ => if (!fr && scal d) = true then .ok (.fz d, env) else .st
    | _ => .st
  | none => .st
def dCallB (fn : Fn) (g : Env → Out (List RV × Env)) : Env → Out (RV × Env) := fun env => (g env).bind fun p => callB fn p.1 p.2
theorem Rel.back {W : Wd} {F : FrI} {G H H' : Hp} {env : Env} {σ : L2.St} (R : Rel W F G env σ H) (all : ∀ b o, H b = some o → H' b = some o) (dom : ∀ a, H' a = none → H a = none) : Rel W F G env σ H' :=
  R.step (Same.refl G) (fun b u e => all b u (R.same b u e)) (fun _ _ => rfl) (fun b o _ h _ => all b o h) dom (fun _ _ _ _ _ _ g => g) fun _ _ b o _ _ _ h => all b o h
section
variable {X : Cx} {c : Nat → Value} {Wx : WX}
theorem callB_ok {F : FrI} {G0 G H : Hp} {env : Env} {σ : L2.St} {Q : VK} {fn : Fn} {rs : List RV} {vs : List V} (R : Rel (wd X c) F G env σ H) (s0 : Same G0 G) (pv : PVA (wd X c) G σ vs rs) (h : EPost (wd X c) Wx F G0 σ Q (callB fn rs env)) : spOf (wd X c) none fn vs H Q (WE Wx σ) := by
  unfold callB at h
  cases e1 : frzNon none 0 env rs with
  | none => rw [e1] at h; exact h.elim
  | some w =>
    obtain ⟨ds, env1⟩ := w
    rw [e1] at h
    dsimp only at h
    obtain ⟨G1, s1, R1, l1, h1, pv1⟩ := frzNon_ok R pv e1
    refine ⟨G1, ds, R1.same, ⟨l1, fun i v d hv hd n => h1 i v d hv hd (by intro z; cases z), by intro i z; cases z⟩, ?_⟩
    cases e2 : fn ds with
    | st => rw [e2] at h; exact h.elim
    | ex x out => rw [e2] at h; exact h.elim
    | ok d fr out =>
      rw [e2] at h
      dsimp only at h
      by_cases z : (!fr && scal d) = true
      · rw [if_pos z] at h
        obtain ⟨z1, z2⟩ := Bool.and_eq_true_iff.mp z
        have z3 : fr = false := by simpa using z1
        subst z3
        intro v G' H' a rv
        have all : ∀ b o, H b = some o → H' b = some o := fun b o hb => a.keep b o hb fun i e => by cases e
        have rv' : Rp (wd X c) G' v d := rv
        exact h v G H' (R.back all a.dom) s0 (scal_rp z2 rv')
      · rw [if_neg z] at h; exact h.elim
theorem de_callBk {k : Nat} {x : Str} {fn : Fn} {p pos : Pos} {e : Expr} {es : List Expr} {g : Env → Out (List RV × Env)} (C : Cal X.prog X.w X.K X.mg X.base c k x none fn) (hr : Room k X.A) (hg : X.A.guards = some []) (gx : Gl X x) (tk : Takes X Wx) (ha : DA X c Wx (e :: es) g)
    (hd : (x == ("__debug__" : Str)) = false := by rfl) (he : starEach (e :: es) X.env = (false, eval e X.env) :: starEach es X.env := by rfl) (hp : (backTo pos (starEach es X.env)).any (·.1) = false := by rfl) : DE X c Wx (.Call (.Name x p) (e :: es) [] pos) (dCallB fn g) := by
  obtain ⟨f, fd, ps, F, hm, kp, hb⟩ := C.ex
  obtain ⟨t, pa, ka⟩ := ha.run
  refine ⟨_, pe_callG F hr hg gx hm kp hb tk pa hd he hp, fun F G env σ H Q R h => ?_⟩
  exact ka F G env σ H _ _ _ pl_E R h fun rs env1 vs G1 H1 R1 s1 pv h1 => callB_ok R1 s1 pv h1
end
def fbOut (env : Env) : FO → Out (RV × Env)
  | .ok d fr _ => if (!fr && scal d) = true then .ok (.fz d, env) else .st
  | _ => .st
@[simp] theorem x_fb {env : Env} {d o : D} {fr : Bool} : fbOut env (.ok d fr o) = if (!fr && scal d) = true then .ok (.fz d, env) else .st := (rfl)
@[simp] theorem x_dcallB {fn : Fn} {g : Env → Out (List RV × Env)} {env : Env} : dCallB fn g env = (g env).bind fun p => (Out.of (frzNon none 0 p.2 p.1)).bind fun q => fbOut p.2 (fn q.1) := by
  unfold dCallB
  congr 1
  funext p
  unfold callB
  rcases frzNon none 0 p.2 p.1 with _ | ⟨ds, e⟩
  · rfl
  · simp only [x_of_some, x_bind_ok]
    cases fn ds <;> rfl
@[simp] theorem sc_non : scal .non = true := (rfl)
@[simp] theorem sc_bl {b : Bool} : scal (.bl b) = true := (rfl)
@[simp] theorem sc_int {i : Int} : scal (.int i) = true := (rfl)
@[simp] theorem sc_str {x : PySem.Str} : scal (.str x) = true := (rfl)
end VS
namespace VS
open PySem PySem.Spec PyProof.Rows L2
/-! ### tests a < b <= c < .. of any length -/
abbrev TTn := V → TT
/-- the rest of a chain, behind the value of its left end -/
structure PTn (X : Cx) (ops : List CmpOp) (es : List Expr) (t : TTn) : Prop where
  go : ∀ (pos : Pos) (pins : List (Addr × Obj)) (s : Shared) (σ : L2.St) (H : Hp) (x : V) (u : Value) (Q : Bool → Hp → Prop), Inv X pins σ H s → RelV x u → t x σ H Q →
    wpAny (model X.prog X.w) X.A (testChain pos u ops (evalEach es X.env)) (TP X pins σ Q) X.xe s
section
variable {X : Cx} {o o' : CmpOp} {os : List CmpOp} {e e' : Expr} {es : List Expr} {r : R2} {te : TE} {tn : TTn}
def tnEnd (r : R2) (te : TE) : TTn := fun x σ H Q => te σ H fun y H1 => r x y H1 fun z H2 => ∃ b, z = .bl b ∧ Q b H2
def tnMore (r : R2) (te : TE) (tn : TTn) : TTn := fun x σ H Q => te σ H fun y H1 => r x y H1 fun z H2 => ∃ b, z = .bl b ∧ (b = false → Q false H2) ∧ (b = true → tn y σ H2 Q)
theorem ptn_end (ho : OpR X (compareOp o) r) (he : PE X e te) : PTn X [o] [e] (tnEnd r te) := by
  refine ⟨fun pos pins s σ H x u Q I rx h => ?_⟩
  refine test_last (thn (he.run pins s σ H _ I h) fun u2 s2 ⟨y, H2, I2, ry, h2⟩ => ?_)
  refine thn (ho pins s2 σ H2 x y u u2 _ I2 rx ry h2) fun u3 s3 ⟨z, H3, I3, rz, b, ez, h3⟩ => ?_
  cases ez; cases rz
  exact wpAny_truthy_bool ⟨H3, I3, h3⟩
theorem ptn_more (ho : OpR X (compareOp o) r) (he : PE X e te) (ht : PTn X (o' :: os) (e' :: es) tn) : PTn X (o :: o' :: os) (e :: e' :: es) (tnMore r te tn) := by
  refine ⟨fun pos pins s σ H x u Q I rx h => ?_⟩
  show wpAny _ _ (testChain pos u (o :: o' :: os) (eval e X.env :: eval e' X.env :: evalEach es X.env)) _ _ _
  refine test_link (thn (he.run pins s σ H _ I h) fun u2 s2 ⟨y, H2, I2, ry, h2⟩ => ?_)
  refine thn (ho pins s2 σ H2 x y u u2 _ I2 rx ry h2) fun u3 s3 ⟨z, H3, I3, rz, b, ez, no, yes⟩ => ?_
  cases ez; cases rz
  refine wpAny_truthy_bool ?_
  cases b with
  | false => exact ite_ff ⟨H3, I3, no rfl⟩
  | true => exact ite_tt (ht.go pos pins s3 σ H3 y u2 Q I3 ry (yes rfl))
theorem pt_many {l : Expr} {tl : TE} {pos : Pos} (hl : PE X l tl) (ht : PTn X (o :: o' :: os) (e :: e' :: es) tn) (hm : lastMarks (o :: o' :: os) (e :: e' :: es) = false) :
    PT X (.Compare l (o :: o' :: os) (e :: e' :: es) pos) (fun σ H Q => tl σ H fun x H1 => tn x σ H1 Q) := by
  refine ⟨fun pins s σ H Q I h => ?_⟩
  refine isTrue_chain (thn (hl.run pins s σ H _ I h) fun u s1 ⟨x, H1, I1, rx, h1⟩ => ?_) hm
  exact ht.go pos pins s1 σ H1 x u Q I1 rx h1
end
def onB (r : RV × Env) (k : Env → Out (Bool × Env)) : Out (Bool × Env) := match r.1 with
  | .fz (.bl true) => k r.2
  | .fz (.bl false) => .ok (false, r.2)
  | _ => .st
structure DTn (X : Cx) (c : Nat → Value) (Wx : WX) (ops : List CmpOp) (es : List Expr) (f : RV → Env → Out (Bool × Env)) : Prop where
  ex : ∃ t, PTn X ops es t ∧ ∀ F G env σ H Q v r, Rel (wd X c) F G env σ H → PV (wd X c) G σ v r → TPost (wd X c) Wx F G σ Q (f r env) → t v σ H Q
section
variable {X : Cx} {c : Nat → Value} {Wx : WX}
theorem fin2_at {W : Wd} {F : FrI} {G0 G H : Hp} {env : Env} {σ : L2.St} {r2 : R2} {op : Op2} {ra rb : RV} {v u : V} {k : Env → Out (Bool × Env)} {Q : Bool → Hp → Prop} {Z : VK} (sem : OpSem W r2 op) (R : Rel W F G env σ H) (s : Same G0 G) (pa : PV W G σ v ra) (pb : PV W G σ u rb)
    (h : TPost W Wx F G0 σ Q ((fin2 op ra rb env).bind fun r => onB r k)) (hz : ∀ b G' H', Rel W F G' env σ H' → Same G G' → (b = false → Q false H') → (b = true → TPost W Wx F G0 σ Q (k env)) → Z (.bl b) H') : r2 v u H Z := by
  unfold fin2 at h
  cases ea : resolve env ra with
  | none => rw [ea] at h; exact h.elim
  | some x =>
    cases eb : resolve env rb with
    | none => rw [ea, eb] at h; exact h.elim
    | some y =>
      rw [ea, eb] at h
      dsimp only at h
      cases eo : op x y with
      | none => rw [eo] at h; exact h.elim
      | some q =>
        obtain ⟨d, fr⟩ := q
        rw [eo] at h
        refine sem G H v u x y d fr Z R.same (pa.vw R ea) (pb.vw R eb) eo fun w H' rs => ?_
        cases fr with
        | true => exact h.elim
        | false =>
          cases d with
          | bl b =>
            obtain ⟨G', s', R', ok⟩ := R.res rs
            cases ok
            refine hz b G' H' R' s' (fun eb => ?_) fun eb => ?_
            · subst eb; exact h G' H' R' (s.trans s')
            · subst eb; exact h
          | _ => exact h.elim
def tnD1 (op : Op2) (f : Env → Out (RV × Env)) : RV → Env → Out (Bool × Env) := fun r env => (f env).bind fun w => (fin2 op r w.1 w.2).bind fun q => onB q fun env => .ok (true, env)
def tnDs (op : Op2) (f : Env → Out (RV × Env)) (g : RV → Env → Out (Bool × Env)) : RV → Env → Out (Bool × Env) := fun r env => (f env).bind fun w => (fin2 op r w.1 w.2).bind fun q => onB q (g w.1)
theorem dtn_end {o : CmpOp} {op : Op2} {e : Expr} {f : Env → Out (RV × Env)} (ho : OpOk X c (compareOp o) op) (he : DE X c Wx e f) : DTn X c Wx [o] [e] (tnD1 op f) := by
  obtain ⟨r2, hr, sem⟩ := ho
  obtain ⟨te, pe, ke⟩ := he.runP
  refine ⟨_, ptn_end hr pe, fun F G env σ H Q v r R pv h => ?_⟩
  refine ke F G env σ H _ _ _ pl_T R h fun rb env1 u G1 H1 R1 s1 p1 h1 => ?_
  refine fin2_at sem R1 s1 (pv.mono (Le.of s1)) p1 h1 fun b G2 H2 R2 s2 no yes => ⟨b, rfl, ?_⟩
  cases b with
  | false => exact no rfl
  | true => exact yes rfl G2 H2 R2 (s1.trans s2)
theorem dtn_more {o o' : CmpOp} {os : List CmpOp} {op : Op2} {e e' : Expr} {es : List Expr} {f : Env → Out (RV × Env)} {g : RV → Env → Out (Bool × Env)} (ho : OpOk X c (compareOp o) op) (he : DE X c Wx e f) (hg : DTn X c Wx (o' :: os) (e' :: es) g) : DTn X c Wx (o :: o' :: os) (e :: e' :: es) (tnDs op f g) := by
  obtain ⟨r2, hr, sem⟩ := ho
  obtain ⟨te, pe, ke⟩ := he.runP
  obtain ⟨tn, pn, kn⟩ := hg.ex
  refine ⟨_, ptn_more hr pe pn, fun F G env σ H Q v r R pv h => ?_⟩
  refine ke F G env σ H _ _ _ pl_T R h fun rb env1 u G1 H1 R1 s1 p1 h1 => ?_
  refine fin2_at sem R1 s1 (pv.mono (Le.of s1)) p1 h1 fun b G2 H2 R2 s2 no yes => ⟨b, rfl, no, fun eb => ?_⟩
  exact kn F G2 env1 σ H2 Q u rb R2 (p1.mono (Le.of s2)) (TPost.grow (s1.trans s2) (yes eb))
def dTn (f : Env → Out (RV × Env)) (g : RV → Env → Out (Bool × Env)) : Env → Out (Bool × Env) := fun env => (f env).bind fun w => g w.1 w.2
theorem dt_many {o o' : CmpOp} {os : List CmpOp} {l e e' : Expr} {es : List Expr} {pos : Pos} {f : Env → Out (RV × Env)} {g : RV → Env → Out (Bool × Env)} (hl : DE X c Wx l f) (hg : DTn X c Wx (o :: o' :: os) (e :: e' :: es) g) (hm : lastMarks (o :: o' :: os) (e :: e' :: es) = false := by rfl) :
    DT X c Wx (.Compare l (o :: o' :: os) (e :: e' :: es) pos) (dTn f g) := by
  obtain ⟨tl, pl, kl⟩ := hl.runP
  obtain ⟨tn, pn, kn⟩ := hg.ex
  refine ⟨_, pt_many pl pn hm, fun F G env σ H Q R h => ?_⟩
  refine kl F G env σ H _ _ _ pl_T R h fun r env1 v G1 H1 R1 s1 p1 h1 => ?_
  exact kn F G1 env1 σ H1 Q v r R1 p1 (TPost.grow s1 h1)
end
section
variable {op : Op2} {f : Env → Out (RV × Env)} {g : RV → Env → Out (Bool × Env)} {r : RV} {env : Env}
@[simp] theorem x_tn : dTn f g env = (f env).bind fun w => g w.1 w.2 := (rfl)
@[simp] theorem x_tnD1 : tnD1 op f r env = (f env).bind fun w => (fin2 op r w.1 w.2).bind fun q => onB q fun env => .ok (true, env) := (rfl)
@[simp] theorem x_tnDs : tnDs op f g r env = (f env).bind fun w => (fin2 op r w.1 w.2).bind fun q => onB q (g w.1) := (rfl)
@[simp] theorem x_onB_t {k : Env → Out (Bool × Env)} : onB (.fz (.bl true), env) k = k env := (rfl)
@[simp] theorem x_onB_f {k : Env → Out (Bool × Env)} : onB (.fz (.bl false), env) k = .ok (false, env) := (rfl)
theorem x_onB {b : Bool} {k : Env → Out (Bool × Env)} : onB (.fz (.bl b), env) k = if b = true then k env else .ok (false, env) := by cases b <;> rfl
end
end VS
namespace VS
open PySem PySem.Spec PyProof.Rows L2
/-! ### try with several clauses, with or without a name -/
structure Cl where
  cv : Value
  sl : Option Nat
  ts : Addr → Value → Option Addr → TS
def unD (sl : Option Nat) (D : Ends) : Ends := match sl with
  | none => D
  | some i => { nx := fun τ K => D.nx (τ.set i none) K, rt := D.rt, bk := fun τ K => D.bk (τ.set i none) K, ct := fun τ K => D.ct (τ.set i none) K }
def atS (sl : Option Nat) (a : Addr) (τ : L2.St) : L2.St := match sl with
  | none => τ
  | some i => τ.set i (some (.ref a))
def wCl (K : PySem.W.Frag) (Wo : WX) (D : Ends) : List Cl → WX
  | [], cls, d, τ, G => Wo cls d τ G
  | k :: ks, cls, d, τ, G => ∃ m, PySem.W.exmOne K cls k.cv = some m ∧ if m = true then ∀ a, G a = none → k.ts a cls d (unD k.sl D) (atS k.sl a τ) G else wCl K Wo D ks cls d τ G
/-- a suite of a clause -/
def Suite (X : Cx) (b : Stmt) (bs : List Stmt) (ts : Addr → Value → Option Addr → TS) : Prop := ∀ a ob cls d qs, Zc cls d ob → (∃ fs, ob.data = .fields fs) → PSs (X.suite a ((a, ob) :: qs)) (b :: bs) (ts a cls d)
inductive Hs (X : Cx) : List ExceptHandler → List Cl → Prop
  | nil : Hs X [] []
  | bare {x : Str} {cv : Value} {ts : Addr → Value → Option Addr → TS} {b : Stmt} {bs : List Stmt} {p1 p2 : Pos} {hs : List ExceptHandler} {ks : List Cl} (nm : Names X x cv) (su : Suite X b bs ts) (r : Hs X hs ks) : Hs X (.ExceptHandler (some (.Name x p1)) none (b :: bs) p2 :: hs) (⟨cv, none, ts⟩ :: ks)
  | as {x n : Str} {i : Nat} {cv : Value} {ts : Addr → Value → Option Addr → TS} {b : Stmt} {bs : List Stmt} {p1 p2 : Pos} {hs : List ExceptHandler} {ks : List Cl} (nm : Names X x cv) (hi : X.N[i]? = some n) (lo : X.env.kindOf n = some .local) (su : Suite X b bs ts) (r : Hs X hs ks) :
      Hs X (.ExceptHandler (some (.Name x p1)) (some n) (b :: bs) p2 :: hs) (⟨cv, some i, ts⟩ :: ks)
section
variable {X : Cx} {pins : List (Addr × Obj)} {D : Ends}
/-- a name that a clause tests -/
theorem test_ok {x : Str} {cv : Value} {p : Pos} {s : Shared} {τ : L2.St} {G : Hp} {a : Addr} {qs qp : List (Addr × Obj)} {Q : Value → Shared → Prop} {E : Value → Shared → Prop} (nm : Names X x cv) (I : Inv (X.suite a qs) qp τ G s) (q : Q cv s) :
    wpAny (model X.prog X.w) (X.A.mark (some (.ref a))) (eval (.Name x p) X.env) Q E s := by
  obtain ⟨g1, g2, g3⟩ := nm
  cases g3 with
  | inl g3 => exact ld_glob (X := X.suite a qs) I g1 g3 q g2
  | inr g3 =>
    obtain ⟨g4, g5, g6⟩ := g3
    exact ld_blt (X := X.suite a qs) I g1 g4 g5 q g6 g2
theorem sp_bare {a : Addr} {qs : List (Addr × Obj)} {f : Flow} {s : Shared} (h : SP (X.suite a qs) [] D f s) (un : ∀ τ G, Inv (X.suite a qs) [] τ G s → Inv X pins τ G s) : SP X pins D f s := by
  cases f with
  | ret u => obtain ⟨y, τ, G, I, r, q⟩ := h; exact ⟨y, τ, G, un τ G I, r, q⟩
  | next => obtain ⟨τ, G, I, q⟩ := h; exact ⟨τ, G, un τ G I, q⟩
  | brk => obtain ⟨τ, G, I, q⟩ := h; exact ⟨τ, G, un τ G I, q⟩
  | cont => obtain ⟨τ, G, I, q⟩ := h; exact ⟨τ, G, un τ G I, q⟩
/-- behind the suite of 'as n': n goes -/
theorem sp_as {i : Nat} {n : Str} {pos : Pos} {a : Addr} {qs : List (Addr × Obj)} {f : Flow} {s : Shared} (h : SP (X.suite a qs) [] (unD (some i) D) f s) (un : ∀ τ G, Inv (X.suite a qs) [] τ G s → Inv X pins τ G s) (nd : X.N.Nodup) (hi : X.N[i]? = some n) (lo : X.env.kindOf n = some .local) :
    wpAny (model X.prog X.w) X.A (do bindName X.env n .none; unbindBehindTheSuite X.env n pos) (fun _ s' => SP X pins D f s') X.xe s := by
  cases f with
  | ret u => obtain ⟨y, τ, G, I, r, q⟩ := h; exact gone_ok (un τ G I) nd hi lo fun s' J => ⟨y, _, G, J, r, q⟩
  | next => obtain ⟨τ, G, I, q⟩ := h; exact gone_ok (un τ G I) nd hi lo fun s' J => ⟨_, G, J, q⟩
  | brk => obtain ⟨τ, G, I, q⟩ := h; exact gone_ok (un τ G I) nd hi lo fun s' J => ⟨_, G, J, q⟩
  | cont => obtain ⟨τ, G, I, q⟩ := h; exact gone_ok (un τ G I) nd hi lo fun s' J => ⟨_, G, J, q⟩
theorem ps_tryC {body : List Stmt} {h0 : ExceptHandler} {hs : List ExceptHandler} {ks : List Cl} {pos : Pos} {tb : WX → TS} {Wo : WX} (st : X.stack = X.env :: X.outer) (fr : X.env.frame = some X.env.locals) (nd : X.N.Nodup) (tk : Takes X Wo)
    (hb : ∀ (W : WX) (pn : List (Addr × Obj)) (xe : Value → Shared → Prop), Takes (X.tr pn xe) W → PassesOwn (model X.prog X.w) X.A X.env xe → PSs (X.tr pn xe) body (tb W)) (hh : Hs X (h0 :: hs) ks) :
    PS X (.Try body (h0 :: hs) [] [] pos) (fun D τ G => tb (wCl X.K Wo D ks) D τ G) := by
  refine ⟨fun pins s τ0 G0 D I0 start => ?_⟩
  have okX := I0.ok
  have frA : X.A.frames = some (X.env :: X.outer) := okX.frames.trans (congrArg some st)
  let later : Value → Shared → Prop := fun e s1 => wpAny (model X.prog X.w) X.A (noteFrame e X.env) (fun _ s2 => wpAny (model X.prog X.w) X.A (setFlight e none) (fun _ s3 => wpAny (model X.prog X.w) X.A (handleBy e X.env (h0 :: hs)) (SP X pins D) X.xe s3) X.xe s2) X.xe s1
  have caught : Takes (X.tr (X.pn ++ pins) later) (wCl X.K Wo D ks) := by
    intro ev s' xx
    obtain ⟨a, B, sI, pins', τ, G, cls, d, rfl, JI, nb, up, sky, na, os, ag, w⟩ := xx
    have I1 : Inv X pins τ G sI := JI.ofTry okX
    rw [show (X.tr (X.pn ++ pins) later).stack = X.env :: X.outer from st] at sky
    show wpAny (model X.prog X.w) X.A (noteFrame (.ref a) X.env) _ X.xe s'
    refine Sky.land Zc.steady frA fr sky fun hp fly up' => ?_
    have I2 : Inv X pins τ G { s' with heap := hp } := I1.landed nb fly.1 (up.trans up') os ag
    have out : ∀ {o : Obj} {fs : Array Value} {hq : Heap}, hq.FunFrames B (X.env :: X.outer) → hq.get? a = some o → o.data = .fields fs → a ∉ frs (X.env :: X.outer) := by
      intro o fs hq ff e1 e2 z
      obtain ⟨_, o', e3, ne⟩ := ff.mem z
      cases e1.symm.trans e3
      exact ne _ e2
    obtain ⟨ob, fs, e1, zc, e2⟩ := fly.there
    have away := out fly.2.2.1 e1 e2
    have aL : a ≠ X.env.locals := by
      intro z
      exact away (List.mem_filterMap.mpr ⟨X.env, List.mem_cons_self, fr.trans (congrArg some z.symm)⟩)
    have aF : a ∉ X.fs := by
      intro z
      obtain ⟨en, he, hq⟩ := List.mem_filterMap.mp z
      exact away (List.mem_filterMap.mpr ⟨en, List.mem_cons_of_mem _ he, hq⟩)
    have I3 := I2.suite e1 e2 na aL aF
    have look : PySem.W.Looks (model X.prog X.w) hp (typeOf (.ref a)) cls := by
      intro A Q E s1 k q
      refine wpAny_typeOf_ref (k _ _ e1) ?_
      rw [zc.1]
      exact q
    have all : ∀ {hl : List ExceptHandler} {kl : List Cl}, Hs X hl kl → wCl X.K Wo D kl cls d τ G → wpAny (model X.prog X.w) X.A (handleBy (.ref a) X.env hl) (SP X pins D) X.xe { s' with heap := hp } := by
      intro hl kl hk
      induction hk with
      | nil =>
        intro wish
        refine wpAny_handleBy_nil ?_
        obtain ⟨_, _, _, o2, f2, T, oT, t2, b1, b2, b3, b4, b5⟩ := id fly
        unfold PySem.passOn
        refine wpAny_bind (wpAny_field b1 b3 b4 ?_)
        rw [if_neg (show ¬ ((Value.ref T == Value.none) = true) from by simp)]
        have rest : wpAny (model X.prog X.w) X.A (setFlight (.ref a) X.env.frame) (fun _ s1 => wpAny (model X.prog X.w) X.A (throw (.ref a) : Sem Flow) (SP X pins D) X.xe s1) X.xe { s' with heap := hp } := by
          rw [fr]
          refine HandSPX.setFlight_upZ fly fun h4 held up4 => wpAny_throw (tk _ _ ?_)
          exact ⟨a, B, sI, pins, τ, G, cls, d, rfl, I1, nb, (up.trans up').trans up4, .inr (.inr (by rw [st]; exact held)), na, os, ag, wish⟩
        first
          | exact wpAny_bind rest
          | exact wpAny_bind (wpAny_pure (wpAny_bind rest))
      | @bare x cv ts b bs p1 p2 hs' ks' nm su r ih =>
        rintro ⟨m, em, wish⟩
        refine wpAny_handleBy_cons (codeAny_handlers_test (test_ok nm I3 ((PySem.W.exm_one (M := model X.prog X.w) I2.kIn look em).here ?_))) (fun z => by cases z)
        cases m with
        | false => exact ih wish
        | true =>
          refine codeAny_handlers_suite (HandSPX.lands_againZ fly fun h4 fly4 up4 => ?_)
          obtain ⟨o4, f4, c1, c2, c3⟩ := fly4.there
          have I4 : Inv X pins τ G { s' with heap := h4 } := I1.landed nb fly4.1 ((up.trans up').trans up4) os ag
          have I5 := I4.suite c1 c3 na aL aF
          exact wpAny_mono ((su a o4 cls d (X.pn ++ pins) c2 ⟨f4, c3⟩).run [] _ τ G (unD none D) I5 (wish a na)) (fun f s6 h6 => sp_bare h6 fun _ _ J => J.unsuite okX) fun _ _ z => z.elim
      | @as x n i cv ts b bs p1 p2 hs' ks' nm hi lo su r ih =>
        rintro ⟨m, em, wish⟩
        refine wpAny_handleBy_cons (codeAny_handlers_test (test_ok nm I3 ((PySem.W.exm_one (M := model X.prog X.w) I2.kIn look em).here ?_))) (fun z => by cases z)
        cases m with
        | false => exact ih wish
        | true =>
          refine codeAny_handlers_suite_as (HandSPX.lands_againZ fly fun h4 fly4 up4 => ?_)
          obtain ⟨o4, f4, c1, c2, c3⟩ := fly4.there
          have I4 : Inv X pins τ G { s' with heap := h4 } := I1.landed nb fly4.1 ((up.trans up').trans up4) os ag
          have I5 := I4.suite c1 c3 na aL aF
          refine store_ok (X := X.suite a ((a, o4) :: (X.pn ++ pins))) (v := .ref a) I5 nd hi (.inl lo) rfl (fun s5 I6 => ?_) (.inr lo)
          exact wpAny_mono ((su a o4 cls d (X.pn ++ pins) c2 ⟨f4, c3⟩).run [] s5 _ G (unD (some i) D) I6 (wish a na)) (fun f s6 h6 => sp_as h6 (fun _ _ J => J.unsuite okX) nd hi lo) fun _ _ z => z.elim
    exact all hh w
  refine wpAny_Try_except (wpAny_mono ((hb (wCl X.K Wo D ks) (X.pn ++ pins) later caught PassesOwn.looking).run [] s τ0 G0 D (I0.toTry _) start) (fun f s1 q => ?_) fun e s1 z => z)
  cases f with
  | next => obtain ⟨τ, G, I, q⟩ := q; exact wpAny_execs_nil ⟨τ, G, I.ofTry okX, q⟩
  | ret u => obtain ⟨y, τ, G, I, r, q⟩ := q; exact ⟨y, τ, G, I.ofTry okX, r, q⟩
  | brk => obtain ⟨τ, G, I, q⟩ := q; exact ⟨τ, G, I.ofTry okX, q⟩
  | cont => obtain ⟨τ, G, I, q⟩ := q; exact ⟨τ, G, I.ofTry okX, q⟩
end
end VS
namespace VS
open PySem PySem.Spec PyProof.Rows L2
section
variable {X : Cx} {c : Nat → Value} {Wx : WX}
/-! ### raise C(), C without an __init__ of its own -/
abbrev bmVE : List Value := [.type "ValueError", .type "Exception", .type "BaseException", .type "object"]
theorem pmk_bare {x : Str} {C : Addr} {p pos : Pos} (q : PySem.W.excIn X.K C bmVE "ValueError.__new__" = true) (gC : X.mg x = some (.ref C)) (kC : PySem.W.keepIn X.K (.ref C) = true) (r : Raises X (.ref C)) (hg : Gl X x) (hdb : (x == ("__debug__" : Str)) = false := by decide) :
    PMk X (.Call (.Name x p) [] [] pos) (fun _ G Q => Q (.ref C) none G) := by
  intro pins s τ G Q I h
  refine wpAny_Call_Name_kw (ld_glob I hg gC ?_ hdb)
  refine PySem.W.callWith_K0 I.kIn kC ?_
  show wpAny _ _ (call (.ref C) []) _ _ _
  obtain ⟨bm, N, nm, qn, bs, hdct, sn, sub, ab, col, dd, k0, k1, k2, k3, k5, mN, hC, hN, hni, T⟩ := exc_obj I.kIn q
  refine wpAny_call_exc_subT F.excBase_ValueError T hC hN hni (fun h' a made => ?_) (Nat.zero_le _)
  exact mk_of I made r h (I.hok.gone made.new)
def sRaise0 (cid : Nat) : Env → Out Fl := fun env => .ex ⟨cid, none⟩ env
/-- x: a class without an __init__ of its own -/
structure EP0 (P : Program) (w : World) (K : PySem.W.Frag) (mg : Str → Option Value) (c : Nat → Value) (x : Str) (cid : Nat) : Prop where
  ex : ∃ C, PySem.W.excIn K C bmVE "ValueError.__new__" = true ∧ mg x = some (.ref C) ∧ c cid = .ref C ∧ PySem.W.keepIn K (.ref C) = true ∧ PySem.W.subIn K (.ref C) (.type "BaseException") = some true ∧ PySem.W.typeIn K (.ref C) = some (.type "type")
def ep0B (K : PySem.W.Frag) (C : Addr) : Bool := PySem.W.excIn K C bmVE "ValueError.__new__" && (PySem.W.keepIn K (.ref C) && (decide (PySem.W.subIn K (.ref C) (.type "BaseException") = some true) && decide (PySem.W.typeIn K (.ref C) = some (.type "type"))))
theorem ep0_ok {P : Program} {w : World} {K : PySem.W.Frag} {mg : Str → Option Value} {x : Str} {cid : Nat} {C : Addr} (h : ep0B K C = true) (hm : mg x = some (.ref C)) (hc : c cid = .ref C) : EP0 P w K mg c x cid := by
  unfold ep0B at h
  simp only [Bool.and_eq_true, decide_eq_true_eq] at h
  obtain ⟨h1, h2, h3, h4⟩ := h
  exact ⟨C, h1, hm, hc, h2, h3, h4⟩
theorem ds_raise0 {x : Str} {cid : Nat} {p pos1 pos : Pos} (A : EP0 X.prog X.w X.K X.mg c x cid) (hc : X.calm = true) (tk : Takes X Wx) (hg : Gl X x) (hdb : (x == ("__debug__" : Str)) = false := by decide) :
    DS X c Wx (.Raise (some (.Call (.Name x p) [] [] pos1)) none pos) (sRaise0 cid) := by
  obtain ⟨C, q, hm, hcid, kC, hs, ht⟩ := A.ex
  refine ⟨_, ps_raise hc tk (pmk_bare q hm kC (raises_own hs ht) hg hdb), fun F G env σ H D R h => ?_⟩
  exact h σ G H (.ref C) none R (Same.refl G) ⟨hcid.symm, rfl⟩
/-! ### expressions in a clause: i is the slot of the error's name, if it has one -/
structure DY (X : Cx) (c : Nat → Value) (i : Option Nat) (cid : Nat) (e : Expr) (fx : Exc → Env → Option D) : Prop where
  ex : ∃ t : Addr → Value → Option Addr → TE, (∀ a oe cls d pn, Zc cls d oe → (∃ vs, oe.data = .fields vs) → PE (X.suite a ((a, oe) :: pn)) e (t a cls d)) ∧
    ∀ a cls d F G env σ H Q x dv, Rel (wd X c) F G env σ H → (∀ j, i = some j → σ[j]? = some (some (.ref a))) → x.cls = cid → ExcOk (wd X c) G H x cls d → fx x env = some dv →
      (∀ v G' H', Rel (wd X c) F G' env σ H' → Same G G' → Rp (wd X c) G' v dv → Q v H') → t a cls d σ H Q
structure DYs (X : Cx) (c : Nat → Value) (i : Option Nat) (cid : Nat) (es : List Expr) (fx : Exc → Env → Option (List D)) : Prop where
  ex : ∃ t : Addr → Value → Option Addr → TA, (∀ a oe cls d pn, Zc cls d oe → (∃ vs, oe.data = .fields vs) → PA (X.suite a ((a, oe) :: pn)) es (t a cls d)) ∧
    ∀ a cls d F G env σ H Q x dvs, Rel (wd X c) F G env σ H → (∀ j, i = some j → σ[j]? = some (some (.ref a))) → x.cls = cid → ExcOk (wd X c) G H x cls d → fx x env = some dvs →
      (∀ vs G' H', Rel (wd X c) F G' env σ H' → Same G G' → RpA (wd X c) G' vs dvs → Q vs H') → t a cls d σ H Q
theorem dy_of {i cid : Nat} {e : Expr} {fx : Exc → Env → Option D} (h : DX X c i cid e fx) : DY X c (some i) cid e fx := by
  obtain ⟨t, p, k⟩ := h.ex
  exact ⟨t, p, fun a cls d F G env σ H Q x dv R hv hx ok e q => k a cls d F G env σ H Q x dv R (hv i rfl) hx ok e q⟩
theorem dy_con {i : Option Nat} {cid : Nat} {e : Expr} {v : V} {d : D} (hp : ∀ a pn, PE (X.suite a pn) e (tC v)) (hr : ∀ G, Rp (wd X c) G v d) : DY X c i cid e (fun _ _ => some d) := by
  refine ⟨fun a cls dd => tC v, fun a oe cls dd pn hz hf => hp a _, fun a cls dd F G env σ H Q x dv R hv hx ok e q => ?_⟩
  cases e
  exact q _ G H R (Same.refl G) (hr G)
theorem dy_bl {i : Option Nat} {cid : Nat} {b : Bool} {j : Nat} {p : Pos} (hp : ∀ a pn, PE (X.suite a pn) (.Constant (.bool b) j p) (tC (.bl b))) : DY X c i cid (.Constant (.bool b) j p) (fun _ _ => some (.bl b)) := dy_con hp fun _ => .bl b
theorem dy_non {i : Option Nat} {cid : Nat} {j : Nat} {p : Pos} (hp : ∀ a pn, PE (X.suite a pn) (.Constant .none j p) (tC .non)) : DY X c i cid (.Constant .none j p) (fun _ _ => some .non) := dy_con hp fun _ => .non
theorem dy_str {i : Option Nat} {cid : Nat} {s : Str} {j : Nat} {p : Pos} : DY X c i cid (.Constant (.str s) j p) (fun _ _ => some (.str s)) := dy_con (fun _ _ => pe_str) fun _ => .str s
theorem dys_nil {i : Option Nat} {cid : Nat} : DYs X c i cid [] (fun _ _ => some []) :=
  ⟨fun _ _ _ => tNil, fun a oe cls d pn hz hf => pa_nil, fun a cls d F G env σ H Q x dvs R hv hx ok e q => by cases e; exact q [] G H R (Same.refl G) .nil⟩
theorem dys_cons {i : Option Nat} {cid : Nat} {e : Expr} {es : List Expr} {f : Exc → Env → Option D} {g : Exc → Env → Option (List D)} (he : DY X c i cid e f) (hs : DYs X c i cid es g) (h1 : starEach (e :: es) X.env = (false, eval e X.env) :: starEach es X.env := by rfl) :
    DYs X c i cid (e :: es) (xCons f g) := by
  obtain ⟨t, pe, ke⟩ := he.ex
  obtain ⟨u, ps, ks⟩ := hs.ex
  refine ⟨fun a cls d => tCons (t a cls d) (u a cls d), fun a oe cls d pn hz hf => pa_cons (pe a oe cls d pn hz hf) (ps a oe cls d pn hz hf) h1, fun a cls d F G env σ H Q x dvs R hv hx ok e q => ?_⟩
  unfold xCons at e
  obtain ⟨d1, e1, e2⟩ := Option.bind_eq_some_iff.mp e
  obtain ⟨ds, e3, e4⟩ := Option.map_eq_some_iff.mp e2
  subst e4
  refine ke a cls d F G env σ H _ x d1 R hv hx ok e1 fun v G1 H1 R1 s1 r1 => ?_
  refine ks a cls d F G1 env σ H1 _ x ds R1 hv hx (ok.same s1) e3 fun vs G2 H2 R2 s2 r2 => ?_
  exact q (v :: vs) G2 H2 R2 (s1.trans s2) (.cons (r1.mono (Le.of s2)) r2)
theorem dy_tup {i : Option Nat} {cid : Nat} {es : List Expr} {k : Nat} {pos : Pos} {g : Exc → Env → Option (List D)} (hs : DYs X c i cid es g) : DY X c i cid (.Tuple es k pos) (xTup g) := by
  obtain ⟨u, ps, ks⟩ := hs.ex
  refine ⟨fun a cls d => tTup (u a cls d), fun a oe cls d pn hz hf => pe_tup (ps a oe cls d pn hz hf), fun a cls d F G env σ H Q x dv R hv hx ok e q => ?_⟩
  unfold xTup at e
  obtain ⟨ds, e1, e2⟩ := Option.bind_eq_some_iff.mp e
  by_cases hz : le24 ds.length = true
  · rw [if_pos hz] at e2
    cases e2
    refine ks a cls d F G env σ H _ x ds R hv hx ok e1 fun vs G1 H1 R1 s1 r1 => ?_
    refine ⟨by rw [r1.length]; exact le24_ok hz, fun p hp => ?_⟩
    obtain ⟨G2, s2, R2, rv⟩ := R1.res (Res.tup R1.same hp r1)
    exact q _ G2 _ R2 (s1.trans s2) rv
  · rw [if_neg hz] at e2; cases e2
def xRepr (f : Exc → Env → Option D) : Exc → Env → Option D := fun x env => (f x env).bind fun d => match bRepr [d] with
  | some (r, false) => some r
  | _ => none
theorem dy_repr {i : Option Nat} {cid : Nat} {e : Expr} {p1 pos : Pos} {f : Exc → Env → Option D} (hG : X.A.guards = some []) (hu : X.A.units + 70 < cLine) (hgr : Gl X "repr") (hmr : X.mg "repr" = none) (he : DY X c i cid e f)
    (h1 : starEach [e] X.env = (false, eval e X.env) :: starEach [] X.env := by rfl) (hpl : (backTo pos (starEach [] X.env)).any (·.1) = false := by rfl) : DY X c i cid (.Call (.Name "repr" p1) [e] [] pos) (xRepr f) := by
  obtain ⟨t, pe, ke⟩ := he.ex
  refine ⟨fun a cls d => tCB (rReprD X.K) (tCons (t a cls d) tNil), fun a oe cls d pn hz hf => pe_callB (X := X.suite a ((a, oe) :: pn)) (call_reprD (X := X.suite a ((a, oe) :: pn)) hG hu) hgr hmr rfl (pa_cons (pe a oe cls d pn hz hf) pa_nil h1) (he := h1) (hpl := hpl), fun a cls d F G env σ H Q x dv R hv hx ok e q => ?_⟩
  unfold xRepr at e
  obtain ⟨d1, e1, e2⟩ := Option.bind_eq_some_iff.mp e
  cases eb : bRepr [d1] with
  | none => rw [eb] at e2; cases e2
  | some w =>
    obtain ⟨d2, fr⟩ := w
    rw [eb] at e2
    cases fr with
    | true => cases e2
    | false =>
      cases e2
      refine ke a cls d F G env σ H _ x d1 R hv hx ok e1 fun v G1 H1 R1 s1 r1 => ?_
      unfold bRepr at eb
      dsimp only at eb
      split at eb
      · rename_i z
        cases eb
        obtain ⟨z12, z3⟩ := Bool.and_eq_true_iff.mp z
        obtain ⟨z1, z2⟩ := Bool.and_eq_true_iff.mp z12
        obtain ⟨p1, p2⟩ := plain_ok _ 60 z1
        have hvw : Vw (wd X c) G1 H1 v d1 := .inl r1
        exact ⟨v, _, rfl, hvw.dp R1.same z1, p1, p2, z2, le24_ok z3, q _ G1 H1 R1 s1 (.str _)⟩
      · cases eb
end
end VS
namespace VS
open PySem PySem.Spec PyProof.Rows L2
/-! ### the suite of a clause -/
abbrev noW : WX := fun _ _ _ _ => False
structure DH (X : Cx) (c : Nat → Value) (i : Option Nat) (cid : Nat) (b : Stmt) (bs : List Stmt) (fs : Exc → Env → Out Fl) : Prop where
  ex : ∃ ts : Addr → Value → Option Addr → TS, Suite X b bs ts ∧ ∀ a cls d F G env σ H D x, Rel (wd X c) F G env σ H → (∀ j, i = some j → σ[j]? = some (some (.ref a))) → x.cls = cid → ExcOk (wd X c) G H x cls d →
    SPost (wd X c) noW F G D (fs x env) → ts a cls d D σ H
def hRet (fx : Exc → Env → Option D) : Exc → Env → Out Fl := fun x env => match fx x env with
  | some d => .ok (.rt (.fz d) env)
  | none => .st
def hSet (j : Nat) (fx : Exc → Env → Option D) : Exc → Env → Out Fl := fun x env => match fx x env with
  | some d => (Out.of (storeR j (.fz d) env)).bind fun e => .ok (.nx e)
  | none => .st
section
variable {X : Cx} {c : Nat → Value} {Wx : WX}
theorem dh_ret {i : Option Nat} {cid : Nat} {e : Expr} {pos : Pos} {fx : Exc → Env → Option D} (he : DY X c i cid e fx) : DH X c i cid (.Return (some e) pos) [] (hRet fx) := by
  obtain ⟨t, pe, ke⟩ := he.ex
  refine ⟨fun a cls d => _, fun a oe cls d pn hz hf => pss_cons (ps_ret (pe a oe cls d pn hz hf)) pss_nil, fun a cls d F G env σ H D x R hv hx ok h => ?_⟩
  unfold hRet at h
  cases e1 : fx x env with
  | none => rw [e1] at h; exact h.elim
  | some dv =>
    rw [e1] at h
    exact ke a cls d F G env σ H _ x dv R hv hx ok e1 fun v G1 H1 R1 s1 r1 => h v σ G1 H1 R1 s1 r1
theorem dh_set {i : Option Nat} {cid j : Nat} {n : Str} {e : Expr} {pos p1 : Pos} {fx : Exc → Env → Option D} (nd : X.N.Nodup) (hj : X.N[j]? = some n) (hl : Loc X.env.scope n) (he : DY X c i cid e fx) (hs : swapsWith e (some (.Name n p1)) pos.line X.env = pure false := by rfl)
    (h2 : List.lookup n X.env.scope.names = some NameKind.local := by rfl) : DH X c i cid (.Assign [.Name n p1] e pos) [] (hSet j fx) := by
  obtain ⟨t, pe, ke⟩ := he.ex
  refine ⟨fun a cls d => _, fun a oe cls d pn hz hf => pss_cons (ps_set (X := X.suite a ((a, oe) :: pn)) nd hj hl (pe a oe cls d pn hz hf) hs (.inr h2)) pss_nil, fun a cls d F G env σ H D x R hv hx ok h => ?_⟩
  unfold hSet at h
  cases e1 : fx x env with
  | none => rw [e1] at h; exact h.elim
  | some dv =>
    rw [e1] at h
    refine ke a cls d F G env σ H _ x dv R hv hx ok e1 fun v G1 H1 R1 s1 r1 => ?_
    dsimp only at h
    cases e2 : storeR j (.fz dv) env with
    | none => rw [e2] at h; exact h.elim
    | some env' =>
      rw [e2] at h
      obtain ⟨G2, s2, R2⟩ := storeR_ok R1 (r := .fz dv) r1 e2
      exact h _ G2 H1 R2 (s1.trans s2)
/-! ### the clauses -/
structure ClD where
  cid : Nat
  sl : Option Nat
  fs : Exc → Env → Out Fl
inductive HdsD (X : Cx) (c : Nat → Value) : List ExceptHandler → List ClD → Prop
  | nil : HdsD X c [] []
  | bare {x : Str} {cid : Nat} {fs : Exc → Env → Out Fl} {b : Stmt} {bs : List Stmt} {p1 p2 : Pos} {hs : List ExceptHandler} {ks : List ClD} (nm : Names X x (c cid)) (su : DH X c none cid b bs fs) (r : HdsD X c hs ks) : HdsD X c (.ExceptHandler (some (.Name x p1)) none (b :: bs) p2 :: hs) (⟨cid, none, fs⟩ :: ks)
  | as {x n : Str} {i cid : Nat} {fs : Exc → Env → Out Fl} {b : Stmt} {bs : List Stmt} {p1 p2 : Pos} {hs : List ExceptHandler} {ks : List ClD} (nm : Names X x (c cid)) (hi : X.N[i]? = some n) (lo : X.env.kindOf n = some .local) (su : DH X c (some i) cid b bs fs) (r : HdsD X c hs ks) :
      HdsD X c (.ExceptHandler (some (.Name x p1)) (some n) (b :: bs) p2 :: hs) (⟨cid, some i, fs⟩ :: ks)
def freeO (sl : Option Nat) (env : Env) : Bool := match sl with
  | none => true
  | some i => freeAt i env
def keepO (sl : Option Nat) (o : Out Fl) : Out Fl := match o with
  | .ok (.nx e) => if freeO sl e = true then .ok (.nx e) else .st
  | .ok (.rt r e) => .ok (.rt r e)
  | _ => .st
def hSel : List ClD → Exc → Env → Out Fl
  | [], _, _ => .st
  | k :: ks, x, env => if x.cls = k.cid then (if freeO k.sl env = true then keepO k.sl (k.fs x env) else .st) else hSel ks x env
def sTryM (ks : List ClD) (fb : Env → Out Fl) : Env → Out Fl := fun env => match fb env with
  | .ex x e => hSel ks x e
  | r => r
/-- the classes that are raised and caught are told apart by their numbers -/
def ExM (K : PySem.W.Frag) (c : Nat → Value) (ns : List Nat) : Prop := ∀ j ∈ ns, ∀ k ∈ ns, PySem.W.exmOne K (c k) (c j) = some (decide (k = j))
theorem freeAt_set {i : Nat} {env : Env} (h : freeAt i env = true) : env.set i none = env := by
  apply List.ext_getElem?
  intro j
  unfold freeAt at h
  split at h
  · rename_i e
    by_cases hj : j = i
    · subst hj
      rw [List.getElem?_set_self (List.getElem?_eq_some_iff.mp e).1, e]
    · rw [List.getElem?_set_ne (fun z => hj z.symm)]
  · cases h
theorem freeAt_none {i : Nat} {env : Env} (h : freeAt i env = true) : env[i]? = some none := by
  unfold freeAt at h
  split at h
  · assumption
  · cases h
theorem hSel_in : ∀ {ks : List ClD} {x : Exc} {env : Env}, hSel ks x env ≠ .st → x.cls ∈ ks.map (·.cid)
  | [], x, env, h => absurd rfl h
  | k :: ks, x, env, h => by
    unfold hSel at h
    by_cases z : x.cls = k.cid
    · rw [z]; exact List.mem_cons_self
    · rw [if_neg z] at h
      exact List.mem_cons_of_mem _ (hSel_in h)
theorem hds_ok {hs : List ExceptHandler} {ks : List ClD} (h : HdsD X c hs ks) {ns : List Nat} (hn : ∀ k ∈ ks, k.cid ∈ ns) (M : ExM X.K c ns) : ∃ kl, Hs X hs kl ∧ ∀ x env σ G H F D cls d, x.cls ∈ ns → Rel (wd X c) F G env σ H → ExcOk (wd X c) G H x cls d → SPost (wd X c) Wx F G D (hSel ks x env) → wCl X.K Wx D kl cls d σ H := by
  induction h with
  | nil => exact ⟨[], .nil, fun x env σ G H F D cls d _ _ _ p => p.elim⟩
  | @bare x0 cid fs b bs p1 p2 hs ks nm su r ih =>
    obtain ⟨kl, hk, ih⟩ := ih fun k hk => hn k (List.mem_cons_of_mem _ hk)
    obtain ⟨ts, hsu, ks'⟩ := su.ex
    have hc : cid ∈ ns := hn _ List.mem_cons_self
    refine ⟨⟨c cid, none, ts⟩ :: kl, .bare nm hsu hk, fun x env σ G H F D cls d hx R ok p => ?_⟩
    have hcl : cls = c x.cls := ok.1
    refine ⟨decide (x.cls = cid), by rw [hcl]; exact M cid hc x.cls hx, ?_⟩
    by_cases z : x.cls = cid
    · rw [if_pos (decide_eq_true z)]
      intro a ha
      have p' : SPost (wd X c) Wx F G D (keepO none (fs x env)) := by
        unfold hSel at p
        rw [if_pos z] at p
        exact p
      refine ks' a cls d F G env σ H _ x R (fun j e => by cases e) z ok ?_
      cases ef : fs x env with
      | st => rw [ef] at p'; exact p'.elim
      | ex _ _ => rw [ef] at p'; exact p'.elim
      | ok fl =>
        rw [ef] at p'
        cases fl with
        | nx e => exact p'
        | rt r e => exact p'
        | bk e => exact p'.elim
        | ct e => exact p'.elim
    · rw [if_neg (by simp [z])]
      unfold hSel at p
      rw [if_neg z] at p
      exact ih x env σ G H F D cls d hx R ok p
  | @as x0 n i cid fs b bs p1 p2 hs ks nm hi lo su r ih =>
    obtain ⟨kl, hk, ih⟩ := ih fun k hk => hn k (List.mem_cons_of_mem _ hk)
    obtain ⟨ts, hsu, ks'⟩ := su.ex
    have hc : cid ∈ ns := hn _ List.mem_cons_self
    refine ⟨⟨c cid, some i, ts⟩ :: kl, .as nm hi lo hsu hk, fun x env σ G H F D cls d hx R ok p => ?_⟩
    have hcl : cls = c x.cls := ok.1
    refine ⟨decide (x.cls = cid), by rw [hcl]; exact M cid hc x.cls hx, ?_⟩
    by_cases z : x.cls = cid
    · rw [if_pos (decide_eq_true z)]
      intro a ha
      unfold hSel at p
      rw [if_pos z] at p
      dsimp only at p
      by_cases hf : freeO (some i) env = true
      · rw [if_pos hf] at p
        have hfree := freeAt_none hf
        have hlt : i < σ.length := by rw [← R.len]; exact (List.getElem?_eq_some_iff.mp hfree).1
        have R2 : Rel (wd X c) F G (env.set i none) (σ.set i (some (.ref a))) H := R.drop fun d' z => by rw [hfree] at z; cases z
        rw [freeAt_set hf] at R2
        refine ks' a cls d F G env _ H _ x R2 (fun j e => by cases e; exact List.getElem?_set_self hlt) z ok ?_
        cases ef : fs x env with
        | st => rw [ef] at p; exact p.elim
        | ex _ _ => rw [ef] at p; exact p.elim
        | ok fl =>
          rw [ef] at p
          cases fl with
          | nx e =>
            have p' : SPost (wd X c) Wx F G D (if freeO (some i) e = true then .ok (.nx e) else .st) := p
            by_cases hf2 : freeO (some i) e = true
            · rw [if_pos hf2] at p'
              intro σ' G' H' R' s'
              have R3 : Rel (wd X c) F G' (e.set i none) (σ'.set i none) H' := R'.drop fun d' z => by rw [freeAt_none hf2] at z; cases z
              rw [freeAt_set hf2] at R3
              exact p' _ G' H' R3 s'
            · rw [if_neg hf2] at p'; exact p'.elim
          | rt r e => exact p
          | bk e => exact p.elim
          | ct e => exact p.elim
      · rw [if_neg hf] at p; exact p.elim
    · rw [if_neg (by simp [z])]
      unfold hSel at p
      rw [if_neg z] at p
      exact ih x env σ G H F D cls d hx R ok p
theorem SPost.later {W : Wd} {F : FrI} {G G' : Hp} {D : Ends} (s : Same G G') {o : Out Fl} (h : SPost W Wx F G D o) : SPost W Wx F G' D o := SPost.grow s h
theorem ds_tryC {k : Nat} {body : List Stmt} {h0 : ExceptHandler} {hs : List ExceptHandler} {ks : List ClD} {ns : List Nat} {pos : Pos} {fb : Env → Out Fl} (g : Good X Wx k) (st : X.stack = X.env :: X.outer) (fr : X.env.frame = some X.env.locals) (M : ExM X.K c ns)
    (hb : ∀ W pn xe, Good (X.tr pn xe) W k → DSs (X.tr pn xe) c W body fb) (hh : HdsD X c (h0 :: hs) ks) (hn : ∀ k ∈ ks, k.cid ∈ ns) :
    DS X c Wx (.Try body (h0 :: hs) [] [] pos) (sTryM ks fb) := by
  obtain ⟨kl, hk, sem⟩ := hds_ok (Wx := Wx) hh hn M
  refine ⟨_, ps_tryC (tb := fun W => tCanS (wd X c) W fb) st fr g.nd g.tk (fun W pn xe tk po => (hb W pn xe ⟨g.nd, g.calm, po, tk, g.room, g.gd⟩).can rfl) hk, fun F G env σ H D R h => ?_⟩
  refine ⟨F, G, env, R, ?_⟩
  unfold sTryM at h
  cases ef : fb env with
  | st => rw [ef] at h; exact h.elim
  | ok fl => rw [ef] at h; dsimp only at h; cases fl <;> exact h
  | ex x e =>
    rw [ef] at h
    dsimp only at h
    intro σ' G' H' cls d R1 s1 ok
    have hx : x.cls ∈ ns := by
      have hne : hSel ks x e ≠ .st := fun z => by rw [z] at h; exact h.elim
      obtain ⟨k, hk', e'⟩ := List.mem_map.mp (hSel_in hne)
      rw [← e']; exact hn k hk'
    exact sem x e σ' G' H' F D cls d hx R1 ok (SPost.later s1 h)
end
theorem EP0.nm {P : Program} {w : World} {K : PySem.W.Frag} {mg : Str → Option Value} {c : Nat → Value} {x : Str} {cid : Nat} (A : EP0 P w K mg c x cid) : mg x = some (c cid) := by
  obtain ⟨C, _, hm, hc, _⟩ := A.ex
  rw [hm, hc]
theorem ExP.nm {P : Program} {w : World} {K : PySem.W.Frag} {mg : Str → Option Value} {c : Nat → Value} {x f pn b : Str} {cid : Nat} (A : ExP P w K mg c x f pn b cid) : mg x = some (c cid) := by
  obtain ⟨C, CB, fI, fd, _, _, _, hm, hc, _, _⟩ := A.ex
  rw [hm, hc]
def exMB (K : PySem.W.Frag) (c : Nat → Value) (ns : List Nat) : Bool := ns.all fun j => ns.all fun k => decide (PySem.W.exmOne K (c k) (c j) = some (decide (k = j)))
theorem exM_ok {K : PySem.W.Frag} {c : Nat → Value} {ns : List Nat} (h : exMB K c ns = true) : ExM K c ns := fun j hj k hk => of_decide_eq_true (List.all_eq_true.mp (List.all_eq_true.mp h j hj) k hk)
/-! ### simp -/
section
variable {env : Env} {x : Exc} {fx : Exc → Env → Option D} {fb : Env → Out Fl} {ks : List ClD}
@[simp] theorem x_raise0 {cid : Nat} : sRaise0 cid env = .ex ⟨cid, none⟩ env := (rfl)
theorem x_tryM_ex {e : Env} (h : fb env = .ex x e) : sTryM ks fb env = hSel ks x e := by unfold sTryM; rw [h]
theorem x_tryM_ok {fl : Fl} (h : fb env = .ok fl) : sTryM ks fb env = .ok fl := by unfold sTryM; rw [h]
end
end VS
namespace VS
open PySem PySem.Spec PyProof.Rows L2
/-! ### isinstance(e, B) in a clause -/
structure KitC (K : PySem.W.Frag) (C : Addr) : Prop where
  cl : (PySem.W.clsIn K C).isSome = true
  ga : PySem.W.findIn K (.ref C) "__getattribute__" = some (some (.builtin "BaseException.__getattribute__"))
  gg : PySem.W.findIn K (.ref C) "__getattr__" = some none
  exC : PySem.W.subIn K (.ref C) (.type "BaseException") = some true
  cc : PySem.W.findIn K (.ref C) "__class__" = some (some (.builtin "object.__class__"))
  cg : PySem.W.specialIn K (.builtin "object.__class__") "__get__" = some (some (.builtin "getset_descriptor.__get__"))
  ct : PySem.W.takesIn K (.builtin "object.__class__") = some true
  cm : PySem.W.mroIn K C (.type "object") = some true
def kitCB (K : PySem.W.Frag) (C : Addr) : Bool :=
  (PySem.W.clsIn K C).isSome && (decide (PySem.W.findIn K (.ref C) "__getattribute__" = some (some (.builtin "BaseException.__getattribute__"))) && (decide (PySem.W.findIn K (.ref C) "__getattr__" = some none) && (decide (PySem.W.subIn K (.ref C) (.type "BaseException") = some true) && (decide (PySem.W.findIn K (.ref C) "__class__" = some (some (.builtin "object.__class__"))) && (decide (PySem.W.specialIn K (.builtin "object.__class__") "__get__" = some (some (.builtin "getset_descriptor.__get__"))) && (decide (PySem.W.takesIn K (.builtin "object.__class__") = some true) && decide (PySem.W.mroIn K C (.type "object") = some true)))))))
theorem kitCB_ok {K : PySem.W.Frag} {C : Addr} (h : kitCB K C = true) : KitC K C := by
  unfold kitCB at h
  simp only [Bool.and_eq_true, decide_eq_true_eq] at h
  obtain ⟨a1, a2, a3, a4, a5, a6, a7, a8⟩ := h
  exact ⟨a1, a2, a3, a4, a5, a6, a7, a8⟩
structure IsP (K : PySem.W.Frag) (mg : Str → Option Value) (c : Nat → Value) (cid : Nat) (y : Str) : Prop where
  ex : ∃ C cv v, c cid = .ref C ∧ KitC K C ∧ RelV v cv ∧ (∀ u, RelV v u → u = cv) ∧ (mg y = some cv ∨ (mg y = none ∧ bootBuiltins y = some cv)) ∧ PySem.W.kitOne K (.ref C) cv = some true
def isOB (K : PySem.W.Frag) (C B : Addr) : Bool := kitCB K C && decide (PySem.W.kitOne K (.ref C) (.ref B) = some true)
def isTB (K : PySem.W.Frag) (C : Addr) (T : String) : Bool := kitCB K C && decide (PySem.W.kitOne K (.ref C) (.type T) = some true)
theorem isO_ok {K : PySem.W.Frag} {mg : Str → Option Value} {c : Nat → Value} {cid : Nat} {y : Str} {C B : Addr} (h : isOB K C B = true) (hc : c cid = .ref C) (hm : mg y = some (.ref B)) : IsP K mg c cid y := by
  obtain ⟨h1, h2⟩ := Bool.and_eq_true_iff.mp h
  exact ⟨C, .ref B, .ref B, hc, kitCB_ok h1, rfl, fun u r => r, .inl hm, of_decide_eq_true h2⟩
theorem isT_ok {K : PySem.W.Frag} {mg : Str → Option Value} {c : Nat → Value} {cid : Nat} {y : Str} {C : Addr} {T : String} (h : isTB K C T = true) (hc : c cid = .ref C) (hm : mg y = none) (hb : bootBuiltins y = some (.type T)) : IsP K mg c cid y := by
  obtain ⟨h1, h2⟩ := Bool.and_eq_true_iff.mp h
  exact ⟨C, .type T, .ty T, hc, kitCB_ok h1, rfl, fun u r => r, .inr ⟨hm, hb⟩, of_decide_eq_true h2⟩
def rIsEX (K : PySem.W.Frag) (C a : Addr) (cls : Value) (d : Option Addr) : List V → Hp → VK → Prop := fun xs H Q => ∃ (cc : V) (cv : Value) (b : Bool), xs = [.ref a, cc] ∧ (∀ u, RelV cc u → u = cv) ∧ PySem.W.kitOne K (.ref C) cv = some b ∧ cls = .ref C ∧
  (d = none ∨ ∃ (dd : Addr) (fs : List (Str × V)), d = some dd ∧ H dd = some (.xd fs)) ∧ Q (.bl b) H
section
variable {X : Cx} {c : Nat → Value}
theorem call_isEX {a C : Addr} {oe : Obj} {cls : Value} {d : Option Addr} {pn : List (Addr × Obj)} (E : KitC X.K C) (hz : Zc cls d oe) (hf : ∃ vs, oe.data = .fields vs) : CallR (X.suite a ((a, oe) :: pn)) (.builtin "isinstance") (rIsEX X.K C a cls d) := by
  intro pins s σ H xs us Q I r h
  obtain ⟨cc, cv, b, rfl, hcv, e, ec, ed, q⟩ := h
  cases r with
  | cons rx rr =>
    cases rr with
    | cons rt rr =>
      cases rr
      cases rx
      have ecv := hcv _ rt
      subst ecv
      subst ec
      obtain ⟨ha, _⟩ := I.pin (a, oe) (List.mem_append_left _ List.mem_cons_self)
      obtain ⟨vs, hd⟩ := hf
      have hno : PySem.W.notCls oe = true := by unfold PySem.W.notCls; rw [hd]
      rcases ed with ed | ⟨dd, fs, ed, ea⟩
      · subst ed
        have J : PySem.W.InstAt s.heap a oe C none := ⟨ha, hz.1, hno, by rw [hz.2]; trivial⟩
        exact PySem.W.kia_one (PySem.W.kitx_exc E.cl E.ga E.gg E.exC E.cc E.cg E.ct E.cm) I.kIn J e (fun z => nomatch z) fun tk => ⟨.bl b, H, I.kept (t' := tk) fun _ _ z => z, rfl, q⟩
      · subst ed
        have hx : ObjOk X.prog X.w H s.heap dd (.xd fs) := I.hok dd _ ea
        obtain ⟨mA, hns, hr⟩ := hx
        obtain ⟨od, ho, hl⟩ := lookIn_ns hns
        have J : PySem.W.InstAt s.heap a oe C (some od) := ⟨ha, hz.1, hno, by rw [hz.2]; exact ho⟩
        exact PySem.W.kia_one (PySem.W.kitx_exc E.cl E.ga E.gg E.exC E.cc E.cg E.ct E.cm) I.kIn J e (fun z => nomatch z) fun tk => ⟨.bl b, H, I.kept (t' := tk) fun _ _ z => z, rfl, q⟩
theorem dy_is {i cid : Nat} {n y : Str} {p1 p2 p3 pos : Pos} (A : IsP X.K X.mg c cid y) (hn : ∀ a pn, PE (X.suite a pn) (.Name n p2) (tVar i))
    (hgi : Gl X "isinstance") (hmi : X.mg "isinstance" = none) (hgy : Gl X y) (hny : y ≠ "__name__" := by decide) (hdy : (y == ("__debug__" : Str)) = false := by decide)
    (he : ∀ (e1 e2 : Expr), starEach [.Name n p2, .Name y p3] X.env = (false, eval (.Name n p2) X.env) :: starEach [.Name y p3] X.env := by intros; rfl) (he2 : starEach [.Name y p3] X.env = (false, eval (.Name y p3) X.env) :: starEach [] X.env := by rfl)
    (hpl : (backTo pos (starEach [.Name y p3] X.env)).any (·.1) = false := by rfl) :
    DY X c (some i) cid (.Call (.Name "isinstance" p1) [.Name n p2, .Name y p3] [] pos) (fun _ _ => some (.bl true)) := by
  obtain ⟨C, cv, v, hcid, E, rv, ru, hm, hk⟩ := A.ex
  have py : ∀ a pn, PE (X.suite a pn) (.Name y p3) (tC v) := fun a pn => by
    rcases hm with hm | ⟨hm, hb⟩
    · exact pe_glob (X := X.suite a pn) hgy hm rv hdy
    · exact pe_bltn (X := X.suite a pn) hgy hm hb rv hny hdy
  refine ⟨fun a cls d => tCB (rIsEX X.K C a cls d) (tCons (tVar i) (tCons (tC v) tNil)), fun a oe cls d pn hz hf => pe_callB (call_isEX E hz hf) hgi hmi rfl (pa_cons (hn a _) (pa_cons (py a _) pa_nil he2) (he (.Name n p2) (.Name n p2))) (he := he (.Name n p2) (.Name n p2)) (hpl := hpl), fun a cls d F G env σ H Q x dv R hv hx ok e q => ?_⟩
  cases e
  obtain ⟨h1, h2⟩ := ok
  refine ⟨_, hv i rfl, ?_⟩
  refine ⟨v, cv, true, rfl, ru, hk, by rw [h1, hx]; exact hcid, ?_, q _ G H R (Same.refl G) (.bl true)⟩
  cases ef : x.fld with
  | none => rw [ef] at h2; exact .inl h2
  | some w =>
    obtain ⟨nm, d'⟩ := w
    rw [ef] at h2
    obtain ⟨dd, v', e1, e2, e3⟩ := h2
    exact .inr ⟨dd, [(nm, v')], e1, R.same _ _ e2⟩
end
/-! ### simp: clauses -/
section
variable {env : Env} {x : Exc} {fx : Exc → Env → Option D} {j : Nat}
def hOf (k : D → Out Fl) : Option D → Out Fl
  | some d => k d
  | none => .st
@[simp] theorem x_hOf1 {k : D → Out Fl} {d : D} : hOf k (some d) = k d := (rfl)
@[simp] theorem x_hOf0 {k : D → Out Fl} : hOf k none = .st := (rfl)
@[simp] theorem x_hSet : hSet j fx x env = hOf (fun d => (Out.of (storeR j (.fz d) env)).bind fun e => .ok (.nx e)) (fx x env) := by
  unfold hSet hOf; cases fx x env <;> rfl
@[simp] theorem x_hRet : hRet fx x env = hOf (fun d => .ok (.rt (.fz d) env)) (fx x env) := by
  unfold hRet hOf; cases fx x env <;> rfl
@[simp] theorem x_keep_nx0 {e : Env} : keepO none (.ok (.nx e)) = .ok (.nx e) := (rfl)
@[simp] theorem x_keep_nx1 {i : Nat} {e : Env} : keepO (some i) (.ok (.nx e)) = if freeAt i e = true then .ok (.nx e) else .st := (rfl)
@[simp] theorem x_keep_rt {sl : Option Nat} {r : RV} {e : Env} : keepO sl (.ok (.rt r e)) = .ok (.rt r e) := by cases sl <;> rfl
@[simp] theorem x_freeO0 : freeO none env = true := (rfl)
@[simp] theorem x_freeO1 {i : Nat} : freeO (some i) env = freeAt i env := (rfl)
@[simp] theorem x_hSel {k : ClD} {ks : List ClD} : hSel (k :: ks) x env = if x.cls = k.cid then (if freeO k.sl env = true then keepO k.sl (k.fs x env) else .st) else hSel ks x env := (rfl)
def isFree : Option (Option (D × Ow)) → Bool
  | some none => true
  | _ => false
@[simp] theorem x_freeAt {i : Nat} : freeAt i env = isFree env[i]? := by
  unfold freeAt isFree; cases env[i]? with
  | none => rfl
  | some c => cases c <;> rfl
@[simp] theorem x_isFree : isFree (some none) = true := (rfl)
@[simp] theorem x_xCons {f : Exc → Env → Option D} {g : Exc → Env → Option (List D)} : xCons f g x env = (f x env).bind fun d => (g x env).map fun ds => d :: ds := (rfl)
@[simp] theorem x_xTup {g : Exc → Env → Option (List D)} : xTup g x env = (g x env).bind fun ds => if le24 ds.length = true then some (.tup ds) else none := (rfl)
@[simp] theorem x_xFld {f nm : Str} {d : D} {cid : Nat} : xFld f ⟨cid, some (nm, d)⟩ env = if nm = f then some d else none := (rfl)
def reprO : Option (D × Bool) → Option D
  | some (r, false) => some r
  | _ => none
@[simp] theorem x_reprO {d : D} : reprO (some (d, false)) = some d := (rfl)
@[simp] theorem x_xRepr {f : Exc → Env → Option D} : xRepr f x env = (f x env).bind fun d => reprO (bRepr [d]) := by
  unfold xRepr reprO
  cases f x env with
  | none => rfl
  | some d => rfl
end
end VS
/-! own classes of errors over a further built-in class -/
namespace VS
open PySem PySem.Spec PyProof.Rows L2 PySem.W PySem.Calls PySem.HandSPX PySem.OEX
open Builtin Builtin.ObjectAttr
def refsB (tl : List Value) : List Value → Bool
  | .ref _ :: r => refsB tl r
  | l => l == tl
theorem refsB_cases (tl : List Value) : ∀ l : List Value, refsB tl l = true → (∃ c r, l = .ref c :: r ∧ refsB tl r = true) ∨ l = tl := by
  intro l e
  unfold refsB at e
  split at e
  · rename_i c r; exact .inl ⟨c, r, rfl, e⟩
  · exact .inr (beq_iff_eq.mp e)
/-- what is known of the built-in class under the own ones: its line of classes tl -/
structure XB (tl : List Value) (newId initId : String) : Prop where
  call : ∀ (prog : Program) (w : World) (A : Around) (R : Result → Shared → Prop) (h : Heap) (g : Array GenState) (d : Drawn) (t : Nat) (os : OsState) (nm q : Str) (C N : Addr) (bs bm : List Value) (sn : List Str) (sub : List Value) (ab : Bool) (col : Option Bool) (dd : Option Addr) (k0 k1 k2 k3 k5 : Option Value) (rest : List Value) (fI : Addr),
    (∀ Y : String, bm.contains (.type Y) = tl.contains (.type Y)) → h.get? C = some (excClassObj nm q C N bs bm true sn sub ab col dd k0 k1 k2 k3 k5 newId) →
    PySem.W.Looks (model prog w) h (typeLookup (.ref C) "__init__") (some (.ref fI)) → (∀ self, PySem.W.Looks (model prog w) h (bindSpecial (.ref fI) self) (.ref fI, [self])) → rest.length ≤ sizeLine →
    codeAny (model prog w) (A.under (.builtin "type.__call__" ⟨.ref C :: rest, []⟩)) (.call (.ref fI) ⟨.ref (h.objs.size + 1) :: rest, []⟩) (PySem.W.InitBack (h.objs.size + 1) R) ⟨(h.push (PySem.W.kdv_tup rest)).push (excO C h.objs.size), g, d, t, os⟩ →
    codeAny (model prog w) A (.call (.ref C) ⟨rest, []⟩) R ⟨h, g, d, t, os⟩
  init : ∀ (prog : Program) (w : World) (A : Around) (R : Result → Shared → Prop) (h : Heap) (g : Array GenState) (d : Drawn) (t : Nat) (os : OsState) (nm q : Str) (C N : Addr) (bs bm : List Value) (sn : List Str) (sub : List Value) (ab : Bool) (col : Option Bool) (dd : Option Addr) (k0 k1 k2 k3 k5 : Option Value) (e t0 : Addr) (rest : List Value),
    (∀ Y : String, bm.contains (.type Y) = tl.contains (.type Y)) → h.get? C = some (excClassObj nm q C N bs bm true sn sub ab col dd k0 k1 k2 k3 k5 newId) → h.get? e = some (excO C t0) → rest.length ≤ sizeLine →
    (∀ h' t1, (∀ b o, b ≠ e → h.get? b = some o → h'.get? b = some o) → h'.get? e = some (excO C t1) → R (.ok (.ret .none)) ⟨h', g, d, t, os⟩) →
    codeAny (model prog w) A (.call (.builtin initId) ⟨.ref e :: rest, []⟩) R ⟨h, g, d, t, os⟩
  pass : ∀ self : Value, refuseLoop self "__setattr__" tl = pure ()
  obj : tl.contains (.type "object") = true
theorem XB.of {B newId initId : String} {tl : List Value} (F : ExcBaseFacts B newId initId tl) (p : ∀ self : Value, refuseLoop self "__setattr__" tl = pure ()) (o : tl.contains (.type "object") = true) : XB tl newId initId where
  call := fun prog w A R h g d t os nm q C N bs bm sn sub ab col dd k0 k1 k2 k3 k5 rest fI hT hC hi hb hr hq => call_own F hT hC hi hb hr hq
  init := fun prog w A R h g d t os nm q C N bs bm sn sub ab col dd k0 k1 k2 k3 k5 e t0 rest hT hC he hr hq => init_base F hT hC he hr hq
  pass := p
  obj := o
section
variable {tl : List Value} {newId initId : String}
theorem XB.contains (Y : String) : ∀ l : List Value, refsB tl l = true → l.contains (.type Y) = tl.contains (.type Y) := by
  intro l
  induction l with
  | nil =>
    intro e
    rcases refsB_cases tl [] e with ⟨c, r, q, _⟩ | q
    · cases q
    · rw [q]
  | cons a r ih =>
    intro e
    rcases refsB_cases tl (a :: r) e with ⟨c, r', q, h⟩ | q
    · cases q
      rw [List.contains_cons, ih h]
      rfl
    · rw [q]
theorem XB.passes (B : XB tl newId initId) (self : Value) : ∀ l : List Value, refsB tl l = true → refuseLoop self "__setattr__" l = pure () := by
  intro l
  induction l with
  | nil =>
    intro e
    rcases refsB_cases tl [] e with ⟨c, r, q, _⟩ | q
    · cases q
    · rw [q]; exact B.pass self
  | cons a r ih =>
    intro e
    rcases refsB_cases tl (a :: r) e with ⟨c, r', q, h⟩ | q
    · cases q
      rw [refuseLoop_ref]
      exact ih h
    · rw [q]; exact B.pass self
theorem XB.has (B : XB tl newId initId) {l : List Value} (e : refsB tl l = true) : l.contains (.type "object") = true := (XB.contains "object" l e).trans B.obj
/-- self.f = v of an error that has no field yet -/
theorem XB.osa (B : XB tl newId initId) {prog : Program} {w : World} {A : Around} {R : Result → Shared → Prop} {hp : Heap} {g : Array GenState} {d : Drawn} {t : Nat} {os : OsState} {K : PySem.W.Frag} {name : Str} {tk : Tok} {v : Value} {x C : Addr} {fv : Array Value} {cd : ClassData}
    (X : K.In hp) (hx : hp.get? x = some { cls := .ref C, data := .fields fv }) (hcd : PySem.W.clsIn K C = some cd) (hm : refsB tl cd.mro = true) (hh : cd.hasDict = true) (ha : PySem.W.findIn K (.ref C) name = some none)
    (hq : ∀ h' tk' dx, (∀ b o, b ≠ x → hp.get? b = some o → h'.get? b = some o) → hp.objs.size ≤ dx → dx ≠ x → h'.get? x = some { cls := .ref C, dict := some dx, data := .fields fv } →
      h'.Ns1 dx (fun y => if y = name then some v else none) → R (.ok (.ret .none)) ⟨h', g, d, tk', os⟩) :
    codeAny (model prog w) A (.call (.builtin "object.__setattr__") ⟨[.ref x, .str name tk, v], []⟩) R ⟨hp, g, d, t, os⟩ := by
  have inst : PySem.W.InstAt hp x { cls := .ref C, data := .fields fv } C none := ⟨hx, rfl, rfl, trivial⟩
  have st := PySem.F.store_object
  have hob := B.has hm
  have nem : cd.mro.isEmpty = false := by
    cases z : cd.mro with
    | nil => rw [z] at hob; cases hob
    | cons _ _ => rfl
  have away : x ≠ hp.objs.size := Nat.ne_of_lt (Heap.lt_size hx)
  have isO : PySem.W.Looks (model prog w) hp (isInstance (.ref x) (.type "object")) true := inst.type.andThen (PySem.W.looks_mroIn X (by unfold PySem.W.mroIn; rw [hcd, Option.bind_some, if_neg (by rw [nem]; decide), hob]))
  refine codeAny_call_builtin st.slot.plain st.entry (@PySem.W.check_slot (model prog w) _ _ ⟨hp, g, d, t, os⟩ "object.__setattr__" "object" "__setattr__" (.ref x) [.str name tk, v] [] _ st.kind st.split isO (st.args (.ref x) (.str name tk) v) ?_)
  have look1 : PySem.W.Looks (model prog w) hp (mroOf (.ref C)) cd.mro := (PySem.W.looks_clsIn X hcd).andThen .now
  have look2 : PySem.W.Looks (model prog w) hp (storeTaker? none) none := .now
  have look3 : PySem.W.Looks (model prog w) hp (classData C) cd := PySem.W.looks_clsIn X hcd
  rw [PySem.W.osa_eq, refuse_eq]
  refine wpAny_bind (wpAny_bind (inst.type.at (wpAny_bind (look1.at ?_))))
  rw [B.passes _ _ hm]
  refine wpAny_pure (wpAny_bind (inst.type.at (wpAny_bind ((PySem.W.looks_findIn X ha).at (wpAny_bind (look2.at ?_))))))
  show wpAny _ _ (storeInOwnDict (.ref x) (.ref C) (.str name tk) name v false) _ _ _
  obtain ⟨nm, bs, mro, ns, qn, hd, sn, sb, ab, col, del⟩ := cd
  dsimp only at hh
  subst hh
  unfold storeInOwnDict ownDictForStores
  repeat (first | with_reducible refine store_in_new ?_ ?_ | with_reducible refine wpAny_loadPart_at hx ?_ | with_reducible refine look3.at ?_ | wp_step)
  · exact ⟨_, #[], _, (Heap.get?_update_ne _ _ _ _ away.symm).trans (Heap.get?_push_at rfl rfl), rfl, fun e he => absurd he (by simp), fun _ => rfl⟩
  · intro h' tk' hn' hs
    have hx1 : (hp.push { cls := .type "dict", data := .dict #[] }).get? x = some { cls := .ref C, data := .fields fv } := Heap.get?_push_of_some _ hx
    refine hq h' tk' hp.objs.size (fun b o hb ho => ?_) (Nat.le_refl _) away.symm ?_ hn'
    · exact (hs.2 b (Nat.ne_of_lt (Heap.lt_size ho))).trans ((Heap.get?_update_ne _ _ _ _ hb).trans (Heap.get?_push_of_some _ ho))
    · exact (hs.2 x away).trans (Heap.get?_update_self _ hx1 rfl)
end
/-- what the written part says of the class -/
structure OexB (K : PySem.W.Frag) (tl : List Value) (newId : String) (C : Addr) : Prop where
  cls : ∃ nm q N bs bm sn sub ab col dd k0 k1 k2 k3 k5, K.lookup C = some (excClassObj nm q C N bs bm true sn sub ab col dd k0 k1 k2 k3 k5 newId) ∧ refsB tl bm = true
  sa : PySem.W.findIn K (.ref C) "__setattr__" = some (some (.builtin "object.__setattr__"))
  exC : PySem.W.subIn K (.ref C) (.type "BaseException") = some true
  tyC : PySem.W.typeIn K (.ref C) = some (.type "type")
  kC : PySem.W.keepIn K (.ref C) = true
section
variable {X : Cx} {pins : List (Addr × Obj)} {σ : L2.St} {H : Hp} {s : Shared} {a C dx : Addr} {f : Str} {y : V} {u : Value} {fs : List (Str × V)} {A : Around} {tl : List Value} {newId initId : String}
theorem OexB.put {Q : Unit → Shared → Prop} {E : Value → Shared → Prop} (T : OexB X.K tl newId C) (B : XB tl newId initId) (I : Inv X pins σ H s) (e : H a = some (exo a C none)) (hno : PySem.W.findIn X.K (.ref C) f = some none) (ry : RelV y u)
    (h : ∀ dx s', H dx = none → dx ≠ a → Inv X pins σ (upd (upd H dx (exd dx [(f, y)])) a (exo a C (some dx))) s' → Q () s') : wpAny (model X.prog X.w) A (setAttr (.ref a) f u) Q E s := by
  obtain ⟨nm, q, N, bs, bm, sn, sub, ab, col, dd, k0, k1, k2, k3, k5, hC, hbm⟩ := T.cls
  have hcl : PySem.W.clsIn X.K C = some { name := nm, bases := bs, mro := .ref C :: bm, ns := N, qualname := q, hasDict := true, slotNames := sn, subclasses := sub, abstract := ab, collection := col, hasDel := false } := by
    unfold PySem.W.clsIn
    rw [hC] <;> rfl
  obtain ⟨t1, ho⟩ := exo_at I.hok e
  obtain ⟨hp, g, d, t, os⟩ := s
  refine PySem.W.set_plain I.kIn (ox := { cls := .ref C, dict := none, data := .fields #[.ref t1, .none, .none, .none, .bool false, .none] }) (od := none) ⟨ho, rfl, rfl, trivial⟩ T.sa ?_
  refine B.osa I.kIn ho hcl (show refsB tl (.ref C :: bm) = true from hbm) rfl hno (fun h' tk' dx k dn dne hx hn => ?_)
  have hnd : H dx = none := I.hok.fresh dn
  have nd : ∀ {b : Addr} {o : Obj}, hp.get? b = some o → b ≠ dx := fun {b o} z => Nat.ne_of_lt (Nat.lt_of_lt_of_le (Heap.lt_size z) dn)
  have na : ∀ {b : Addr}, H b = none → b ≠ a := fun {b} n z => by rw [z, e] at n; cases n
  have un : Un X.fs [] H (upd (upd H dx (exd dx [(f, y)])) a (exo a C (some dx))) hp h' := {
    keep := fun b o z n _ _ => k b o (na n) z
    slot := fun b o z n _ _ => ⟨o.slots, k b o (na n) z⟩
    free := fun b o z n _ => by
      rw [upd_ne (na n), upd_ne (nd z)]
      exact n
    there := fun b o z _ => by
      by_cases hb : b = a
      · rw [hb]; exact ⟨_, hx⟩
      · exact ⟨o, k b o hb z⟩
    tups := fun b xs z => by
      rw [upd_ne (at_ne e z exo_tup), upd_ne (ne_of_none z hnd)]
      exact z
    frzs := fun b o v z => by
      rw [upd_ne (at_ne e z exo_frz), upd_ne (ne_of_none z hnd)]
      exact z
    tbls := fun b ps z => ⟨#[], by
      rw [upd_ne (at_ne e z exo_tbl), upd_ne (ne_of_none z hnd), z]
      simp⟩ }
  refine h dx _ hnd dne (I.un (t' := tk') un fun b o z => ?_)
  by_cases hb : b = a
  · subst hb
    rw [upd_same] at z; cases z
    exact exo_ok hx
  · rw [upd_ne hb] at z
    by_cases hd : b = dx
    · subst hd
      rw [upd_same] at z; cases z
      exact exd_ok hn (relO_put (fs := []) ry fun g => True.intro)
    · rw [upd_ne hd] at z
      refine (I.hok b o z).stay (fun c v hc w => k c v ?_ w) (fun c hc => ?_) fun c xs hc => ?_
      · rcases hc with hc | hc
        · rw [hc]; exact hb
        · exact at_ne e hc exo_own
      · rw [upd_ne (at_ne e hc exo_own), upd_ne (ne_of_none hc hnd)]; exact hc
      · rw [upd_ne (at_ne e hc exo_tup), upd_ne (ne_of_none hc hnd)]; exact hc
theorem OexB.init {us : List Value} {Q : Value → Shared → Prop} {E : Value → Shared → Prop} (T : OexB X.K tl newId C) (B : XB tl newId initId) (I : Inv X pins σ H s) (e : H a = some (exo a C none)) (hl : us.length ≤ sizeLine) (h : ∀ s', Inv X pins σ H s' → Q .none s') :
    wpAny (model X.prog X.w) A (call (.builtin initId) (.ref a :: us)) Q E s := by
  obtain ⟨nm, q, N, bs, bm, sn, sub, ab, col, dd, k0, k1, k2, k3, k5, hC, hbm⟩ := T.cls
  obtain ⟨t1, ho⟩ := exo_at I.hok e
  obtain ⟨hp, g, d, t, os⟩ := s
  refine wpAny_call (B.init _ _ _ _ _ _ _ _ _ _ _ _ _ _ _ _ _ _ _ _ _ _ _ _ _ _ _ _ (fun Y => XB.contains Y bm hbm) (I.kIn _ _ hC) ho hl fun h' t2 k hx => ?_)
  have J := I.write (t' := t) (x := a) (e := a) (o := exo a C none) (by rw [e]; exact True.intro) (.inl rfl) k ⟨_, hx⟩ (exo_ok hx)
  have same : upd H a (exo a C none) = H := by
    funext b
    by_cases hb : b = a
    · rw [hb, upd_same, e]
    · rw [upd_ne hb]
  rw [same] at J
  exact h _ J
end
/-! ### readings -/
def tBI (K : PySem.W.Frag) (tl : List Value) (newId : String) (ta : TA) : TE := fun σ H Q => ta σ H fun vs H1 => ∃ (a C : Addr) (ws : List V), vs = .ref a :: ws ∧ ws.length ≤ 1000 ∧ OexB K tl newId C ∧ H1 a = some (exo a C none) ∧ Q .non H1
def tPutB (K : PySem.W.Frag) (tl : List Value) (newId : String) (f : Str) (to te : TE) : TS := fun D σ H => te σ H fun y H1 => to σ H1 fun x H2 => ∃ a C : Addr, x = .ref a ∧ OexB K tl newId C ∧ PySem.W.findIn K (.ref C) f = some none ∧
  H2 a = some (exo a C none) ∧ ∀ dx, H2 dx = none → dx ≠ a → D.nx σ (upd (upd H2 dx (exd dx [(f, y)])) a (exo a C (some dx)))
section
variable {X : Cx} {o e : Expr} {es : List Expr} {to te : TE} {ta : TA} {f : Str} {p p' p1 p2 pos : Pos} {tl : List Value} {newId initId : String}
theorem ps_putB (B : XB tl newId initId) (ho : PE X o to) (he : PE X e te) (hs : swapsWith e (some (.Attribute o f p')) pos.line X.env = pure false := by rfl) : PS X (.Assign [.Attribute o f p'] e pos) (tPutB X.K tl newId f to te) := by
  refine ⟨fun pins s σ H D I h => ?_⟩
  refine plainObj_wpAny_Assign_Attribute (thn (he.run pins s σ H _ I h) fun v s1 w1 => ?_) hs
  obtain ⟨y, H1, I1, r1, q1⟩ := w1
  refine thn (ho.run pins s1 σ H1 _ I1 q1) fun u s2 w2 => ?_
  obtain ⟨x, H2, I2, r2, a, C, ex, T, hno, ea, q⟩ := w2
  subst ex
  obtain rfl : u = Value.ref a := r2
  exact T.put B I2 ea hno r1 fun dx s' n ne J => ⟨σ, _, J, q dx n ne⟩
/-- B.__init__(self, ..), B built in -/
theorem pe_binit {pl : Sem Bool} {b : Str} {T : String} (B : XB tl newId initId) (hg : Gl X b) (hm : X.mg b = none) (hb : bootBuiltins b = some (.type T)) (ty : typeOf (.type T) = pure (.type "type")) (stub : Manifest.isStub T = false)
    (vV : PySem.W.findCls X.K (.type T) (.type "type") "__init__" = some (.val (.builtin initId))) (hin : PySem.W.handedIn (.builtin initId) = true) (quiet : ∀ us : List Value, True) (ha : PA X (e :: es) ta) (hn : b ≠ "__name__" := by decide) (hdb : (b == ("__debug__" : Str)) = false := by decide)
    (hc : eval (.Call (.Attribute (.Name b p1) "__init__" p2) (e :: es) [] pos) X.env = (do
      let ov ← eval (.Name b p1) X.env
      standAt p2.atName
      let (f, first) ← holding [ov] (getMethod ov "__init__" pl)
      callWith pos f first (backTo pos (starEach (e :: es) X.env)) (backToKw pos (keywordEach [] X.env))) := by rfl)
    (he : starEach (e :: es) X.env = (false, eval e X.env) :: starEach es X.env := by rfl) (hpl : (backTo pos (starEach es X.env)).any (·.1) = false := by rfl) :
    PE X (.Call (.Attribute (.Name b p1) "__init__" p2) (e :: es) [] pos) (tBI X.K tl newId ta) := by
  refine ⟨fun pins s σ H Q I h => ?_⟩
  refine PySem.W.methodCall_KW (ld_blt I hg hm hb ?_ hn hdb) hc
  obtain ⟨m, fr⟩ := I.fr
  refine PySem.W.method_type fr I.ok.mod.kin ty stub vV hin ?_
  show wpAny _ _ (callWith pos (Value.builtin initId) [] (backTo pos (starEach (e :: es) X.env)) []) _ _ _
  refine PyProof.Rows.callWith_method1 (thn (ha.run pos pins _ σ H _ (I.tok _) h) fun us s1 w1 => ?_) he hpl
  obtain ⟨vs, H1, I1, r1, a, C, ws, ev, hl, T, ea, q⟩ := w1
  subst ev
  cases r1 with
  | @cons _ u0 _ ur ra rw' =>
    obtain rfl : u0 = Value.ref a := ra
    have hlen : ur.length ≤ sizeLine := by
      rw [← Paired.length rw', sizeLine_eq]
      omega
    exact T.init B I1 ea hlen fun s' J => ⟨.non, H1, J, rfl, q⟩
theorem pmk_oexB {CX : CXT} {x : Str} {C fI : Addr} {k : Nat} {fd : FuncData} {ps : List Str} {sp : Sp} {ds : List Value} {dvs : List V} (T : OexB X.K tl newId C) (B : XB tl newId initId) (iC : PySem.W.findIn X.K (.ref C) "__init__" = some (some (.ref fI))) (tI : PySem.W.typeIn X.K (.ref fI) = some (.type "function"))
    (F1 : FnOk X.prog X.w X.K X.mg X.base CX k fI fd ps sp) (hr : Room (k + 1) X.A) (hb : Binds X.K fd ps ds) (hd : Vals dvs ds) (hx : Passes CX X (fun _ _ _ => False)) (hg : Gl X x) (hm : X.mg x = some (.ref C)) (ha : PA X (e :: es) ta)
    (hdb : (x == ("__debug__" : Str)) = false := by decide) (he : starEach (e :: es) X.env = (false, eval e X.env) :: starEach es X.env := by rfl) (hpl : (backTo pos (starEach es X.env)).any (·.1) = false := by rfl) :
    PMk X (.Call (.Name x p) (e :: es) [] pos) (tMkO C sp dvs ta) := by
  intro pins s σ H Q I h
  obtain ⟨nm, q, N, bs, bm, sn, sub, ab, col, dd, k0, k1, k2, k3, k5, hC, hbm⟩ := T.cls
  refine wpAny_Call_Name_kw (ld_glob I hg hm ?_ hdb)
  refine PySem.W.callWith_K (h₀ := X.base) I.ok.mod.kin T.kC (thn (ha.run pos pins s σ H _ I h) fun us s1 w1 => ?_) he hpl
  obtain ⟨vs, H1, I1, r1, hz, q1⟩ := w1
  refine ⟨I1.kIn, ?_⟩
  show wpAny _ _ (call (.ref C) us) _ _ _
  obtain ⟨hp, g, dr, tk, os⟩ := s1
  have hsz : hp.objs.size ≤ hp.objs.size + 1 := Nat.le_succ _
  have hn : H1 (hp.objs.size + 1) = none := I1.hok.fresh hsz
  have hq := q1 (hp.objs.size + 1) hn
  have kk : ∀ b o, hp.get? b = some o → ((hp.push (PySem.W.kdv_tup us)).push (excO C hp.objs.size)).get? b = some o := fun b o z => Heap.get?_push_of_some _ (Heap.get?_push_of_some _ z)
  have hget : ((hp.push (PySem.W.kdv_tup us)).push (excO C hp.objs.size)).get? (hp.objs.size + 1) = some (excO C hp.objs.size) := by heap_get
  have I2 : Inv X pins σ (upd H1 (hp.objs.size + 1) (exo (hp.objs.size + 1) C none)) ⟨(hp.push (PySem.W.kdv_tup us)).push (excO C hp.objs.size), g, dr, tk, os⟩ :=
    I1.laid (t' := tk) (a := hp.objs.size + 1) (o := exo (hp.objs.size + 1) C none) (h' := (hp.push (PySem.W.kdv_tup us)).push (excO C hp.objs.size)) kk hsz (exo_ok hget)
  have r2 : Vals (V.ref (hp.objs.size + 1) :: (vs ++ dvs)) (Value.ref (hp.objs.size + 1) :: (us ++ ds)) := .cons rfl (r1.append hd)
  have hl : (Value.ref (hp.objs.size + 1) :: us ++ ds).length = ps.length := by
    have z := r2.length
    rw [F1.len _ _ _ _ hq] at z
    exact z.symm
  have hus : us.length ≤ sizeLine := by
    rw [← Paired.length r1, sizeLine_eq]; omega
  refine wpAny_call (B.call _ _ _ _ _ _ _ _ _ _ _ _ _ _ _ _ _ _ _ _ _ _ _ _ _ _ _ (fun Y => XB.contains Y bm hbm) (I1.kIn _ _ hC) (PySem.W.looks_findIn I1.kIn iC) (fun self => PySem.W.bind_fn I1.kIn self tI) hus ?_)
  refine codeAny_mono (F1.run _ X.stack _ _ ⟨Value.ref (hp.objs.size + 1) :: us, []⟩ (Value.ref (hp.objs.size + 1) :: (us ++ ds)) _ _ (fun _ _ _ => False) (hr.make C us []) (I2.env0.make C us []) (hb _ (Value.ref (hp.objs.size + 1) :: us) I2.kIn hl) r2 hq) fun r s' hq' => ?_
  cases r with
  | error er => exact hx pins σ _ _ er s' I2 hq'
  | ok fl =>
    cases fl with
    | next => exact hq'.elim
    | brk => exact hq'.elim
    | cont => exact hq'.elim
    | ret u =>
      obtain ⟨v, H2, os2, bare2, un2, hok2, rv, ev, d, fs, ea, ed, hd1, q2⟩ := hq'
      subst ev
      obtain ⟨h2, g2, d2, t2, os'⟩ := s'
      exact ⟨rv, mk_end (raises_own T.exC T.tyC) I1 hsz kk un2 hok2 os2 bare2 ea ed hd1 q2⟩
end
/-! ### a class, all told -/
structure ExKB (K : PySem.W.Frag) (tl : List Value) (newId : String) (C fI : Addr) (f : Str) : Prop where
  T : OexB K tl newId C
  iC : PySem.W.findIn K (.ref C) "__init__" = some (some (.ref fI))
  tI : PySem.W.typeIn K (.ref fI) = some (.type "function")
  no : PySem.W.findIn K (.ref C) f = some none
  xf : XfC K C
def oexBB (K : PySem.W.Frag) (tl : List Value) (newId : String) (C : Addr) : Bool := match K.lookup C with
  | some ⟨.type t, _, .cls cd, sl⟩ => (match cd.mro, sl.toList with
    | .ref C' :: bm, [_, _, _, _, some (.builtin n), _] => decide (t = "type") && (decide (C' = C) && (decide (n = newId) && (cd.hasDict && (!cd.hasDel && refsB tl bm))))
    | _, _ => false)
  | _ => false
theorem oexBB_ok {K : PySem.W.Frag} {tl : List Value} {newId : String} {C : Addr} (h : oexBB K tl newId C = true) : ∃ nm q N bs bm sn sub ab col dd k0 k1 k2 k3 k5, K.lookup C = some (excClassObj nm q C N bs bm true sn sub ab col dd k0 k1 k2 k3 k5 newId) ∧ refsB tl bm = true := by
  unfold oexBB at h
  split at h
  · rename_i t dd cd sl hl
    split at h
    · rename_i C' bm k0 k1 k2 k3 n k5 em es
      simp only [Bool.and_eq_true, decide_eq_true_eq] at h
      obtain ⟨rfl, rfl, rfl, h4, h5, h6⟩ := h
      obtain ⟨nm, bs, mro, ns, qn, hd, sn, sb, ab, col, del⟩ := cd
      dsimp only at em h4 h5
      subst em
      subst h4
      have h5' : del = false := by simpa using h5
      subst h5'
      refine ⟨nm, qn, ns, bs, bm, sn, sb, ab, col, dd, k0, k1, k2, k3, k5, ?_, h6⟩
      rw [hl]
      have esl : sl = #[k0, k1, k2, k3, some (.builtin n), k5] := by
        apply Array.ext'
        rw [es]
      rw [esl]
    · cases h
  · cases h
def exBB (K : PySem.W.Frag) (tl : List Value) (newId : String) (C fI : Addr) (f : Str) : Bool :=
  oexBB K tl newId C && (decide (PySem.W.findIn K (.ref C) "__setattr__" = some (some (.builtin "object.__setattr__"))) && (decide (PySem.W.subIn K (.ref C) (.type "BaseException") = some true) && (decide (PySem.W.typeIn K (.ref C) = some (.type "type")) && (PySem.W.keepIn K (.ref C) &&
  (decide (PySem.W.findIn K (.ref C) "__init__" = some (some (.ref fI))) && (decide (PySem.W.typeIn K (.ref fI) = some (.type "function")) && (decide (PySem.W.findIn K (.ref C) f = some none) && xfB K C)))))))
theorem exBB_ok {K : PySem.W.Frag} {tl : List Value} {newId : String} {C fI : Addr} {f : Str} (h : exBB K tl newId C fI f = true) : ExKB K tl newId C fI f := by
  unfold exBB at h
  simp only [Bool.and_eq_true, decide_eq_true_eq] at h
  obtain ⟨a1, a2, a3, a4, a5, a6, a7, a8, a9⟩ := h
  exact ⟨⟨oexBB_ok a1, a2, a3, a4, a5⟩, a6, a7, a8, xfB_ok a9⟩
theorem spI_readB {K : PySem.W.Frag} {tl : List Value} {newId : String} {C fI : Addr} {f m : Str} (E : ExKB K tl newId C fI f) {N : List Str} {vs : List V} {H : Hp} {Q : VK} {X : XK} {D : Ends} (hD : D.nx = fun _ H' => Q .non H') (h : spI C f vs H Q X) :
    tBI K tl newId (tCons (tVar 0) (tCons (tC (.str m)) tNil)) (L2.start N vs) H fun _ H1 => tPutB K tl newId f (tVar 0) (tVar 1) D (L2.start N vs) H1 := by
  obtain ⟨a, y, rfl, ha, q⟩ := h
  refine ⟨.ref a, rfl, ?_⟩
  refine ⟨a, C, [.str m], rfl, by simp, E.T, ha, ?_⟩
  refine ⟨y, rfl, .ref a, rfl, a, C, rfl, E.T, E.no, ha, fun dx h1 h2 => ?_⟩
  rw [hD]
  exact q dx h1 h2
/-- x: the class, its __init__ has the parameter pn and sets the field f; cid: its number -/
structure ExQ (P : Program) (w : World) (K : PySem.W.Frag) (mg : Str → Option Value) (c : Nat → Value) (x f pn : Str) (cid : Nat) : Prop where
  ex : ∃ tl newId initId C fI fd, XB tl newId initId ∧ ExKB K tl newId C fI f ∧ (∀ base, FnOk P w K mg base CX0 1 fI fd ["self", pn] (spI C f)) ∧ Binds K fd ["self", pn] [] ∧ mg x = some (.ref C) ∧ c cid = .ref C
theorem ExQ.nm {P : Program} {w : World} {K : PySem.W.Frag} {mg : Str → Option Value} {c : Nat → Value} {x f pn : Str} {cid : Nat} (A : ExQ P w K mg c x f pn cid) : mg x = some (c cid) := by
  obtain ⟨tl, ni, ii, C, fI, fd, _, _, _, _, hm, hc⟩ := A.ex
  rw [hm, hc]
section
variable {X : Cx} {c : Nat → Value} {Wx : WX}
theorem ds_raiseQ {x f pn : Str} {cid : Nat} {e : Expr} {p pos1 pos : Pos} {fe : Env → Out (RV × Env)} (A : ExQ X.prog X.w X.K X.mg c x f pn cid) (hr : Room 2 X.A) (hc : X.calm = true) (tk : Takes X Wx) (hg : Gl X x) (ha : DE X c Wx e fe) (hdb : (x == ("__debug__" : Str)) = false := by decide)
    (he : starEach [e] X.env = (false, eval e X.env) :: starEach [] X.env := by rfl) (hpl : (backTo pos1 (starEach [] X.env)).any (·.1) = false := by rfl) :
    DS X c Wx (.Raise (some (.Call (.Name x p) [e] [] pos1)) none pos) (sRaise cid f fe) := by
  obtain ⟨tl, ni, ii, C, fI, fd, B, E, F1, hb, hm, hcid⟩ := A.ex
  obtain ⟨t, pa, ka⟩ := ha.runP
  refine ⟨_, ps_raise hc tk (pmk_oexB E.T B E.iC E.tI (F1 X.base) hr hb .nil pass0 hg hm (pa_cons pa pa_nil he) hdb he hpl), fun F G env σ H D R h => ?_⟩
  refine ka F G env σ H _ _ _ pl_S R h fun r env1 v G1 H1 R1 s1 p1 h1 => ?_
  dsimp only at h1
  cases e0 : freezeR env1 r with
  | none => rw [e0] at h1; exact h1.elim
  | some w =>
    obtain ⟨d, env'⟩ := w
    rw [e0] at h1
    obtain ⟨G2, s2, R2, rp⟩ := p1.freeze R1 e0
    refine ⟨by simp, fun a ha => ⟨a, v, rfl, upd_same, fun dx hdx hne => ⟨rfl, dx, [(f, v)], upd_same, ?_, ?_, ?_⟩⟩⟩
    · rw [upd_ne hne, upd_same]
    · rw [upd_ne hne] at hdx; exact hdx
    · rw [upd_ne hne] at hdx
      have eq : upd (del (upd (upd (upd H1 a (exo a C none)) dx (exd dx [(f, v)])) a (exo a C (some dx))) a) dx (.xd [(f, v)]) = upd H1 dx (.xd [(f, v)]) := by
        funext b
        by_cases z : b = dx
        · rw [z, upd_same, upd_same]
        · rw [upd_ne z, upd_ne z]
          by_cases z2 : b = a
          · rw [z2, del_same, ha]
          · rw [del_ne z2, upd_ne z2, upd_ne z, upd_ne z2]
      rw [eq]
      have R3 := R2.both (o := .xd [(f, v)]) hdx
      have hg : G2 dx = none := R2.same.free hdx
      exact h1 σ _ _ (.ref C) (some dx) R3 (s1.trans (s2.trans (same_new hg))) ⟨hcid.symm, dx, v, rfl, upd_same, rp.mono (Le.of (same_new hg))⟩
theorem dx_fldQ {i cid : Nat} {x f pn n : Str} {p pos : Pos} (A : ExQ X.prog X.w X.K X.mg c x f pn cid) (hn : ∀ a pn, PE (X.suite a pn) (.Name n p) (tVar i))
    (hb : attributeBase (.Name n p) f X.env (eval (.Name n p) X.env) = eval (.Name n p) X.env := by rfl) : DX X c i cid (.Attribute (.Name n p) f pos) (xFld f) := by
  obtain ⟨tl, ni, ii, C, fI, fd, _, E, _, _, _, hcid⟩ := A.ex
  refine ⟨fun a cls d => tXf a cls d C f (tVar i), fun a oe cls d pn hz hf => pe_xf E.xf E.no hz hf (hn a _) hb, fun a cls d F G env σ H Q x dv R hv hx ok e q => ?_⟩
  obtain ⟨h1, h2⟩ := ok
  unfold xFld at e
  split at e
  · rename_i nm d' ef
    rw [ef] at h2
    split at e
    · rename_i en
      cases e
      subst en
      obtain ⟨dd, v, e1, e2, e3⟩ := h2
      refine ⟨_, hv, rfl, ?_, dd, [(nm, v)], v, e1, R.same _ _ e2, ?_, q v G H R (Same.refl G) e3⟩
      · rw [h1, hx]; exact hcid
      · simp
    · cases e
  · cases e
end
/-! ### the built-in classes -/
theorem xb_Overflow : XB [.type "OverflowError", .type "ArithmeticError", .type "Exception", .type "BaseException", .type "object"] "OverflowError.__new__" "OverflowError.__init__" := .of PySem.F.excBase_OverflowError (fun self => by kernel_rfl) (by decide +kernel)
theorem xb_Arith : XB [.type "ArithmeticError", .type "Exception", .type "BaseException", .type "object"] "ArithmeticError.__new__" "ArithmeticError.__init__" := .of PySem.F.excBase_ArithmeticError (fun self => by kernel_rfl) (by decide +kernel)
theorem xb_Lookup : XB [.type "LookupError", .type "Exception", .type "BaseException", .type "object"] "LookupError.__new__" "LookupError.__init__" := .of PySem.F.excBase_LookupError (fun self => by kernel_rfl) (by decide +kernel)
theorem ty_Overflow : typeOf (.type "OverflowError") = pure (.type "type") := by kernel_rfl
theorem ty_Arith : typeOf (.type "ArithmeticError") = pure (.type "type") := by kernel_rfl
theorem ty_Lookup : typeOf (.type "LookupError") = pure (.type "type") := by kernel_rfl
end VS
/-! own classes of errors over KeyError: made by LookupError.__new__ -/
namespace VS
open PySem PySem.Spec PyProof.Rows L2 PySem.W PySem.Calls PySem.HandSPX PySem.OEX
open Builtin Builtin.ObjectAttr
abbrev keTail : List Value := [.type "KeyError", .type "LookupError", .type "Exception", .type "BaseException", .type "object"]
theorem ke_init : Slot "KeyError" "__init__" "KeyError.__init__" := .of (owner := "KeyError") (n := "__init__") (by rw [typeLookup_type, builtinLookup_eq_fast]; kernel_rfl) (by decide +kernel) (by decide +kernel) (by decide +kernel)
  (by first | exact .inl (by decide +kernel) | exact .inr (by decide +kernel)) (by rw [isSubtype_type]; kernel_rfl)
theorem ke_entry : entryFor table "KeyError.__init__" = some Builtin.«BaseException.__init__» := entryFor_alias (id' := "BaseException.__init__") (by rw [PySem.fastTable_eq_tree]; kernel_rfl) (by first | rfl | decide +kernel) (by decide +kernel) (by rw [PySem.fastTable_eq_tree]; kernel_rfl)
theorem ke_kind : builtinKind "KeyError.__init__" = some .slot := by kernel_rfl
theorem ke_split : splitId "KeyError.__init__" = some ("KeyError", "__init__") := by kernel_rfl
theorem ke_row : Manifest.signature? "KeyError.__init__" = some ⟨.positional, "*", "KeyError", .self, [⟨"args", .varPos, false⟩]⟩ := by kernel_rfl
section
variable {M : Model} {A : Around} {E : Value → Shared → Prop} {h : Heap} {g : Array GenState} {d : Drawn} {t : Nat} {os : OsState}
variable {nm q : Str} {C N : Addr} {bs bm bmB : List Value} {hdct : Bool} {sn : List Str} {sub : List Value} {ab : Bool} {col : Option Bool} {dd : Option Addr} {k0 k1 k2 k3 k5 : Option Value} {B newId initId : String}
theorem new_chk (F : ExcBaseFacts B newId initId bmB) (cB : bm.contains (.type B) = true) {rest : List Value} {Q : Unit → Shared → Prop}
    (hC : h.get? C = some (excClassObj nm q C N bs bm hdct sn sub ab col dd k0 k1 k2 k3 k5 newId)) (hq : Q () ⟨h, g, d, t, os⟩) : wpAny M A (checkBuiltinCall newId ⟨.ref C :: rest, []⟩) Q E ⟨h, g, d, t, os⟩ := by
  have isB : (Value.ref C :: bm).contains (.type B) = true := by rw [List.contains_cons, cB, Bool.or_true]
  have star := F.noStar
  simp only [checkBuiltinCall, F.newKind, F.newSplit, F.newRow]
  repeat (first | refine wpAny_loadPart_at hC ?_ | (refine wpAny_isSubtype_exc hC ?_; rw [isB]) | refine wpAny_staticBase_exc hC ?_ | refine wpAny_madeBy_exc hC ?_ | simp only [bne_self_eq_false, Bool.false_eq_true, if_false] | wp_step)
  exact hq
theorem ke_chk {e : Addr} {oe : Obj} {rest : List Value} {Q : Unit → Shared → Prop} (cK : bm.contains (.type "KeyError") = true)
    (hC : h.get? C = some (excClassObj nm q C N bs bm hdct sn sub ab col dd k0 k1 k2 k3 k5 newId)) (he : h.get? e = some oe) (hcls : oe.cls = .ref C) (hq : Q () ⟨h, g, d, t, os⟩) :
    wpAny M A (checkBuiltinCall "KeyError.__init__" ⟨.ref e :: rest, []⟩) Q E ⟨h, g, d, t, os⟩ := by
  have isK : (Value.ref C :: bm).contains (.type "KeyError") = true := by rw [List.contains_cons, cK, Bool.or_true]
  simp only [checkBuiltinCall, ke_kind, ke_split, ke_row]
  repeat (first | (with_reducible refine wpAny_loadPart_at he ?_; rw [hcls]) | with_reducible refine wpAny_loadPart_at hC ?_ | (with_reducible refine wpAny_isSubtype_exc hC ?_; rw [isK]) | wp_step)
  refine wpAny_onRaise ?_
  rw [show ∀ (a b : String) (n : Nat), Bind.check ⟨.positional, "*", "KeyError", .self, [⟨"args", .varPos, false⟩]⟩ a b n (List.map (fun x => x.fst) ({ pos := Value.ref e :: rest } : Args).kw) = pure () from
    fun a b n => check_star_args _ _ _ _ _ _]
  exact wpAny_pure hq
end
section
variable {prog : Program} {w : World} {A : Around} {E : Value → Shared → Prop} {R : Result → Shared → Prop} {h : Heap} {g : Array GenState} {d : Drawn} {t : Nat} {os : OsState}
variable {nm q : Str} {C N : Addr} {bs bm bmB : List Value} {hdct : Bool} {sn : List Str} {sub : List Value} {ab : Bool} {col : Option Bool} {dd : Option Addr} {k0 k1 k2 k3 k5 : Option Value} {B newId initId : String}
theorem new_run (F : ExcBaseFacts B newId initId bmB) (cB : bm.contains (.type B) = true) (cA : bm.contains (.type "AttributeError") = false) (cN : bm.contains (.type "NameError") = false) {rest : List Value}
    (hC : h.get? C = some (excClassObj nm q C N bs bm hdct sn sub ab col dd k0 k1 k2 k3 k5 newId))
    (hq : R (.ok (.ret (.ref (h.objs.size + 1)))) ⟨(h.push { cls := .type "tuple", data := .seq rest.toArray }).push
      { cls := .ref C, data := .fields #[.ref h.objs.size, .none, .none, .none, .bool false, .none] }, g, d, t, os⟩) (hrest : rest.length ≤ sizeLine) :
    codeAny (model prog w) A (.builtin newId ⟨.ref C :: rest, []⟩) R ⟨h, g, d, t, os⟩ := by
  have ends := F.ends
  have isB : (Value.ref C :: bm).contains (.type B) = true := by rw [List.contains_cons, cB, Bool.or_true]
  have isA : (Value.ref C :: bm).contains (.type "AttributeError") = false := by rw [List.contains_cons, cA]; rfl
  have isN : (Value.ref C :: bm).contains (.type "NameError") = false := by rw [List.contains_cons, cN]; rfl
  refine codeAny_builtinAt F.entry ?_
  unfold Builtin.«BaseException.__new__»
  refine PySem.wpAt_bind ?_
  show PySem.wpAt _ _ _ (stack >>= _) _ _ _
  refine PySem.wpAt_bind (PySem.wpAt_stack fun p below => PySem.wpAt_of_wpAny ?_)
  wp_walk
  refine PySem.wpAt_of_wpAny ?_
  rw [F.owner]
  repeat (first | with_reducible refine wpAny_madeHere_exc F.canon hC ?_ | with_reducible refine wpAny_loadPart_at hC ?_ | (with_reducible refine wpAny_isSubtype_exc hC ?_; first | rw [isB] | rw [isA] | rw [isN]) | wp_step)
  show R _ _
  rw [Heap.size_push]
  exact hq
theorem tcall_run (F : ExcBaseFacts B newId initId bmB) (cB : bm.contains (.type B) = true) (cA : bm.contains (.type "AttributeError") = false) (cN : bm.contains (.type "NameError") = false) {rest : List Value} {fI : Addr} {Q : Fin → Shared → Prop}
    (hC : h.get? C = some (excClassObj nm q C N bs bm hdct sn sub ab col dd k0 k1 k2 k3 k5 newId))
    (hi : PySem.W.Looks (model prog w) h (typeLookup (.ref C) "__init__") (some (.ref fI))) (hb : ∀ self, PySem.W.Looks (model prog w) h (bindSpecial (.ref fI) self) (.ref fI, [self])) (hrest : rest.length ≤ sizeLine)
    (hq : codeAny (model prog w) A (.call (.ref fI) ⟨.ref (h.objs.size + 1) :: rest, []⟩)
      (fun r s' => match r with | .ok (.ret v) => v = .none ∧ Q (.done (.ret (.ref (h.objs.size + 1)))) s' | .ok _ => False | .error e => E e s')
      ⟨(h.push (PySem.W.kdv_tup rest)).push (excO C h.objs.size), g, d, t, os⟩) :
    wpAny (model prog w) A (Builtin.«type.__call__» ⟨.ref C :: rest, []⟩) Q E ⟨h, g, d, t, os⟩ := by
  repeat (first | with_reducible refine wpAny_loadPart_at hC ?_ | with_reducible refine wpAny_madeBy_exc hC ?_ | wp_step)
  refine codeAny_call_builtin_code (Code.quiet_builtin _ F.quiet) (new_chk F cB hC ?_)
  refine new_run F cB cA cN hC ?_ hrest
  show wpAny _ _ _ _ _ _
  have up : ∀ b o, h.get? b = some o → ((h.push (PySem.W.kdv_tup rest)).push (excO C h.objs.size)).get? b = some o := fun b o e => Heap.get?_push_of_some _ (Heap.get?_push_of_some _ e)
  have hC1 := up _ _ hC
  have there : ((h.push (PySem.W.kdv_tup rest)).push (excO C h.objs.size)).get? (h.objs.size + 1) = some (excO C h.objs.size) := by heap_get
  have own : (Value.ref C :: bm).contains (.ref C) = true := by simp
  have i1 := hi.keeps up
  have b1 := (hb (.ref (h.objs.size + 1))).keeps up
  unfold isInstance
  repeat (first | with_reducible refine wpAny_loadPart_at there ?_ | (with_reducible refine wpAny_isSubtype_exc hC1 ?_; rw [own]) | wp_step)
  show wpAny _ _ (typeLookup (.ref C) _) _ _ _
  refine i1.at ?_
  refine wpAny_holding (wpAny_bind (b1.at ?_))
  refine wpAny_bind (wpAny_call (codeAny_mono hq fun r s' z => ?_))
  rcases r with e | (v | _ | _ | _) <;> first | exact z | exact z.elim | skip
  obtain ⟨rfl, z⟩ := z
  first
    | exact wpAny_pure (wpAny_pure z)
    | (wp_walk; exact z)
theorem call_run (F : ExcBaseFacts B newId initId bmB) (cB : bm.contains (.type B) = true) (cA : bm.contains (.type "AttributeError") = false) (cN : bm.contains (.type "NameError") = false) {rest : List Value} {fI : Addr}
    (hC : h.get? C = some (excClassObj nm q C N bs bm hdct sn sub ab col dd k0 k1 k2 k3 k5 newId))
    (hi : PySem.W.Looks (model prog w) h (typeLookup (.ref C) "__init__") (some (.ref fI))) (hb : ∀ self, PySem.W.Looks (model prog w) h (bindSpecial (.ref fI) self) (.ref fI, [self])) (hrest : rest.length ≤ sizeLine)
    (hq : codeAny (model prog w) (A.under (.builtin "type.__call__" ⟨.ref C :: rest, []⟩)) (.call (.ref fI) ⟨.ref (h.objs.size + 1) :: rest, []⟩) (PySem.W.InitBack (h.objs.size + 1) R)
      ⟨(h.push (PySem.W.kdv_tup rest)).push (excO C h.objs.size), g, d, t, os⟩) :
    codeAny (model prog w) A (.call (.ref C) ⟨rest, []⟩) R ⟨h, g, d, t, os⟩ := by
  have l1 := tc_lookup
  have l2 := tc_bind (.ref C)
  have isTy : (⟨h, g, d, t, os⟩ : Shared).TypeIs (.ref C) "type" := ⟨_, hC, rfl⟩
  refine codeAny_of_tree ?_
  show wpAny _ _ (callAny (.ref C) _) _ _ _
  repeat (any_goals (first | assumption | with_reducible refine wpAny_loadPart_at hC ?_ | wp_step))
  refine ⟨rfl, ?_⟩
  refine codeAny_call_builtin_at (Code.quiet_builtin _ (by decide +kernel)) entry_typeCall (wpAny_check_type_call_sub hC (tcall_run F cB cA cN hC hi hb hrest ?_))
  refine codeAny_mono hq fun r s' z => ?_
  rcases r with e | (v | _ | _ | _) <;> exact z
theorem ke_run {e t0 : Addr} {rest : List Value} (cK : bm.contains (.type "KeyError") = true)
    (hC : h.get? C = some (excClassObj nm q C N bs bm hdct sn sub ab col dd k0 k1 k2 k3 k5 newId)) (he : h.get? e = some (excO C t0)) (hrest : rest.length ≤ sizeLine)
    (hq : ∀ h' t1, (∀ b o, b ≠ e → h.get? b = some o → h'.get? b = some o) → h'.get? e = some (excO C t1) → R (.ok (.ret .none)) ⟨h', g, d, t, os⟩) :
    codeAny (model prog w) A (.call (.builtin "KeyError.__init__") ⟨.ref e :: rest, []⟩) R ⟨h, g, d, t, os⟩ := by
  refine codeAny_call_builtin ke_init.plain ke_entry (ke_chk cK hC he rfl ?_)
  wp_walk
  refine hq _ h.objs.size (fun b o hb ho => ?_) ?_
  · rw [Heap.get?_update_other _ _ (Ne.symm hb)]; exact Heap.get?_push_of_some _ ho
  · rw [Heap.get?_update_self _ (Heap.get?_push_of_some _ he) rfl]; rfl
end
theorem xb_Key : XB keTail "LookupError.__new__" "KeyError.__init__" where
  call := fun prog w A R h g d t os nm q C N bs bm sn sub ab col dd k0 k1 k2 k3 k5 rest fI hT hC hi hb hr hq =>
    call_run PySem.F.excBase_LookupError ((hT "LookupError").trans (by decide +kernel)) ((hT "AttributeError").trans (by decide +kernel)) ((hT "NameError").trans (by decide +kernel)) hC hi hb hr hq
  init := fun prog w A R h g d t os nm q C N bs bm sn sub ab col dd k0 k1 k2 k3 k5 e t0 rest hT hC he hr hq => ke_run ((hT "KeyError").trans (by decide +kernel)) hC he hr hq
  pass := fun self => by kernel_rfl
  obj := by decide +kernel
theorem ty_Key : typeOf (.type "KeyError") = pure (.type "type") := by kernel_rfl
abbrev ovTail : List Value := [.type "OverflowError", .type "ArithmeticError", .type "Exception", .type "BaseException", .type "object"]
abbrev arTail : List Value := [.type "ArithmeticError", .type "Exception", .type "BaseException", .type "object"]
abbrev lkTail : List Value := [.type "LookupError", .type "Exception", .type "BaseException", .type "object"]
/-- the facts of a class over a built-in one, to be read off the text -/
def exQB (x f : Str) (tl : List Value) (newId initId T : String) (K : PySem.W.Frag) : Bool := exBB K tl newId (He.ga K x) (He.ma K (He.ga K x) "__init__") f &&
  (match PySem.W.findCls K (.type T) (.type "type") "__init__" with | some (.val (.builtin s)) => decide (s = initId) | _ => false)
theorem exQB_ok {x f : Str} {tl : List Value} {newId initId T : String} {K : PySem.W.Frag} (h : exQB x f tl newId initId T K = true) :
    ExKB K tl newId (He.ga K x) (He.ma K (He.ga K x) "__init__") f ∧ PySem.W.findCls K (.type T) (.type "type") "__init__" = some (.val (.builtin initId)) := by
  obtain ⟨h1, h2⟩ := Bool.and_eq_true_iff.mp h
  refine ⟨exBB_ok h1, ?_⟩
  split at h2
  · rename_i s e
    rw [e, of_decide_eq_true h2]
  · cases h2
end VS
namespace VS
open PySem PySem.Spec PyProof.Rows L2
section
variable {X : Cx} {c : Nat → Value} {Wx : WX}
/-! ### x //= e -/
def idivOk (_ b : Int) : Bool := decide (0 < b) && decide (b < 1073741824)
theorem iDiv_ok : OpOk X c (inplaceOp .FloorDiv) (iiOp idivOk fun i j => i / j) := iiOp_ok iop_fdiv fun a b h => by
  obtain ⟨h1, h2⟩ := Bool.and_eq_true_iff.mp h
  exact ⟨of_decide_eq_true h1, of_decide_eq_true h2⟩
/-! ### x = [.. for .. for ..] -/
theorem ds_setLc2 {i : Nat} {y : Str} {py : Pos} {elt tg iter tg1 iter1 : Expr} {ifs ifs1 : List Expr} {scope : Scope} {own : List (Str × Nat)} {vs1 : List Nat} {pos spos : Pos} {it it1 : Env → Out (List D × Env)} {js js1 : List Nat} {g g1 : RV → Env → Out Env} {t t1 : Env → Out (Bool × Env)} {f : Env → Out (RV × Env)}
    (hc : X.calm = true) (hN : X.N.Nodup) (hy : X.N[i]? = some y) (hyl : List.lookup y X.env.scope.names = some NameKind.local) (hsw : swapsWith (.ListComp elt [⟨tg, iter, ifs, 0⟩, ⟨tg1, iter1, ifs1, 0⟩] scope pos) (some (.Name y py)) spos.line X.env = pure true)
    (hi : DI X c Wx tg iter it) (ok : BlkOk X.N X.env.scope scope own) (hv : ∀ i ∈ vs1, i ∈ own.map (·.2)) (hg : Blks X scope fun Y => DG Y c wxN tg js g) (ht : Blks X scope fun Y => DIfs Y c ifs t) (hi1 : Blks X scope fun Y => DI Y c wxN tg1 iter1 it1) (hg1 : Blks X scope fun Y => DG Y c wxN tg1 js1 g1) (ht1 : Blks X scope fun Y => DIfs Y c ifs1 t1) (he : Blks X scope fun Y => DE Y c wxN elt f)
    (hj : ∀ j ∈ js, j ∈ own.map (·.2)) (hj1 : ∀ j ∈ js1, j ∈ vs1) (hs : ∀ x : Value, foldedSetIterable iter X.env x = pure x := by intro x; rfl) (hs1 : ∀ (env : PySem.Env) (x : Value), foldedSetIterable iter1 env x = pure x := by intro env x; rfl) :
    DS X c Wx (.Assign [.Name y py] (.ListComp elt [⟨tg, iter, ifs, 0⟩, ⟨tg1, iter1, ifs1, 0⟩] scope pos) spos) (sAsg (dLc2 (own.map (·.2)) it g t it1 vs1 g1 t1 f) (gName' i)) := by
  obtain ⟨wi, pi, ki⟩ := hi.run
  refine ⟨_, ps_setLc2 hc hN hy hyl hsw pi ok hv (fun s H C cl fp => (hg s H C cl fp).can (W := wd X c) rfl) (fun s H C cl fp => (ht s H C cl fp).can (W := wd X c) rfl) (fun s H C cl fp => (hi1 s H C cl fp).can (W := wd X c) rfl) (fun s H C cl fp => (hg1 s H C cl fp).can (W := wd X c) rfl) (fun s H C cl fp => (ht1 s H C cl fp).can (W := wd X c) rfl) (fun s H C cl fp => (he s H C cl fp).can (W := wd X c) rfl) hs hs1, fun F G env σ H D R h => ?_⟩
  refine lc2_walk hj hj1 hv R ki (epost_bind (k := fun p => (gName' i p.1 p.2).bind fun e => .ok (.nx e)) pl_S h fun r env1 v G1 H1 R1 s1 rv h1 => ?_)
  have h' : SPost (wd X c) Wx F G D ((Out.of (storeR i r env1)).bind fun e => .ok (.nx e)) := h1
  cases e : storeR i r env1 with
  | none => rw [e] at h'; exact h'.elim
  | some env' =>
    rw [e] at h'
    obtain ⟨G2, s2, R2⟩ := storeR_ok R1 rv e
    exact h' _ G2 H1 R2 (s1.trans s2)
/-! ### zip(e, e2) of lists -/
def zipDD (xs ys : List D) : List D := (xs.zip ys).map fun p => .tup [p.1, p.2]
theorem zipDD_get {xs ys : List D} {i : Nat} {d : D} (h : (zipDD xs ys)[i]? = some d) : ∃ x y, xs[i]? = some x ∧ ys[i]? = some y ∧ d = .tup [x, y] := by
  unfold zipDD at h
  rw [List.getElem?_map] at h
  obtain ⟨p, e, rfl⟩ := Option.map_eq_some_iff.mp h
  obtain ⟨h1, h2⟩ := List.getElem?_zip_eq_some.mp e
  exact ⟨p.1, p.2, h1, h2, rfl⟩
def zip2 : List D × Env → Out (List D × Env)
  | ([d1, d2], e) => (Out.of (itemsL d1)).bind fun a => (Out.of (itemsL d2)).bind fun b => .ok (zipDD a b, e)
  | _ => .st
def dZip (g : Env → Out (List RV × Env)) : Env → Out (List D × Env) := fun env => (g env).bind fun p => (Out.of (freezeA p.2 p.1)).bind zip2
theorem di_zip {e e2 : Expr} {p pos tpos : Pos} {elts : List Expr} {kk : Nat} {g : Env → Out (List RV × Env)} (hg : Gl X "zip") (hm : X.mg "zip" = none) (ha : DA X c Wx [e, e2] g)
    (hs : starEach [e, e2] X.env = (false, eval e X.env) :: starEach [e2] X.env := by rfl) (hpl : (backTo pos (starEach [e2] X.env)).any (·.1) = false := by rfl) : DI X c Wx (.Tuple elts kk tpos) (.Call (.Name "zip" p) [e, e2] [] pos) (dZip g) := by
  obtain ⟨t, pa, ka⟩ := ha.run
  refine ⟨_, RZ.pi_zipA hg hm pa hs hpl, fun F G env σ H Q R h => ?_⟩
  refine ka F G env σ H _ _ _ pl_I R h fun rs env1 vs G1 H1 R1 s1 p1 h1 => ?_
  dsimp only at h1
  cases e0 : freezeA env1 rs with
  | none => rw [e0] at h1; exact h1.elim
  | some w =>
    obtain ⟨ds, env'⟩ := w
    obtain ⟨G2, s2, R2, ra⟩ := p1.freeze R1 e0
    rw [e0] at h1
    have h2 : IPost (wd X c) Wx F G σ Q (zip2 (ds, env')) := h1
    unfold zip2 at h2
    split at h2
    · rename_i d1 d2 e' eq
      cases eq
      cases ra with
      | cons r1 ra =>
        cases ra with
        | cons r2 ra =>
          cases ra
          cases e1 : itemsL d1 with
          | none => rw [e1] at h2; exact h2.elim
          | some a =>
            cases e2 : itemsL d2 with
            | none => rw [e1, e2] at h2; exact h2.elim
            | some b =>
              rw [e1, e2] at h2
              obtain ⟨a1, us, rfl, sq1, ra1⟩ := r1.seqL e1
              obtain ⟨a2, ws, rfl, sq2, ra2⟩ := r2.seqL e2
              refine ⟨a1, a2, us, ws, rfl, .inl ⟨SqL.grow R2.same sq1, SqL.grow R2.same sq2, ?_⟩⟩
              have h3 : IPost (wd X c) Wx F G σ Q (.ok (zipDD a b, env')) := h2
              refine h3 _ G2 H1 R2 (s1.trans s2) fun G3 i H3 s3 sm3 => ?_
              have k1 := SqL.grow (s3.trans sm3) sq1
              have k2 := SqL.grow (s3.trans sm3) sq2
              refine ⟨fun z => ⟨us, ws, k1, k2, ?_⟩, fun d e => ?_⟩
              · unfold zipDD at z
                rw [List.length_map, List.length_zip] at z
                rw [ra1.length, ra2.length]
                omega
              · obtain ⟨x, y, ex, ey, rfl⟩ := zipDD_get e
                obtain ⟨u, eu, ru⟩ := ra1.get ex
                obtain ⟨v, ev, rv⟩ := ra2.get ey
                refine ⟨⟨us, ws, u, v, k1, k2, eu, ev⟩, fun q H' yy => ?_⟩
                obtain ⟨T, u', v', rfl, hT, rfl, q1, q2⟩ := yy
                have := q1 us k1
                rw [eu] at this; cases this
                have := q2 ws k2
                rw [ev] at this; cases this
                exact Res.tup sm3 hT (.cons (ru.mono (Le.of s3)) (.cons (rv.mono (Le.of s3)) .nil))
    · exact h2.elim
@[simp] theorem x_zip {g : Env → Out (List RV × Env)} {env : Env} : dZip g env = (g env).bind fun p => (Out.of (freezeA p.2 p.1)).bind zip2 := (rfl)
@[simp] theorem x_zip2 {d1 d2 : D} {e : Env} : zip2 ([d1, d2], e) = (Out.of (itemsL d1)).bind fun a => (Out.of (itemsL d2)).bind fun b => .ok (zipDD a b, e) := (rfl)
@[simp] theorem x_raise {cid : Nat} {f : Str} {fe : Env → Out (RV × Env)} {env : Env} : sRaise cid f fe env = (fe env).bind fun p => (Out.of (freezeR p.2 p.1)).bind fun q => .ex ⟨cid, some (f, q.1)⟩ q.2 := by
  unfold sRaise
  congr 1; funext p
  cases freezeR p.2 p.1 <;> rfl
end
end VS
namespace VS
open PySem PySem.Spec PyProof.Rows L2
/-! ### a call whose arguments hold no list: the list that it gives is new, and the caller's own -/
mutual
def lfree : D → Bool
  | .non => true
  | .bl _ => true
  | .int _ => true
  | .str _ => true
  | .tup ds => lfreeA ds
  | .tpl ds => lfreeA ds
  | .lst _ => false
  | .dct _ => false
  | .dctT _ => false
  | .set _ => false
  | .scr _ => false
def lfreeA : List D → Bool
  | [] => true
  | d :: ds => lfree d && lfreeA ds
end
def Tn (G : Hp) : Hp := fun a => match G a with
  | some (.tup vs) => some (.tup vs)
  | some (.frz o (.tup vs)) => some (.frz o (.tup vs))
  | _ => none
theorem Tn_sub (G : Hp) : ∀ a o, Tn G a = some o → G a = some o := by
  intro a o h
  unfold Tn at h
  split at h
  · rename_i e; rw [e, ← h]
  · rename_i e; rw [e, ← h]
  · cases h
theorem Tn_same {G H : Hp} (s : Same G H) : Same (Tn G) H := fun a o h => s a o (Tn_sub G a o h)
theorem Tn_nolst (G : Hp) (a : Addr) (vs : List V) : Tn G a ≠ some (.lst vs) := by
  intro h
  unfold Tn at h
  split at h <;> cases h
mutual
theorem lfree_rp {W : Wd} {G : Hp} : ∀ {v : V} {d : D}, lfree d = true → Rp W G v d → Rp W (Tn G) v d
  | _, _, _, .non => .non
  | _, _, _, .bl b => .bl b
  | _, _, _, .int i => .int i
  | _, _, _, .str x => .str x
  | _, .tup ds, h, .tup e r => .tup (by unfold Tn; rw [e]) (lfree_rpA (by simpa [lfree] using h) r)
  | _, .tpl ds, h, .tpl e c r => .tpl (by unfold Tn; rw [e]) c (lfree_rpA (by simpa [lfree] using h) r)
  | _, .lst _, h, _ => by simp [lfree] at h
  | _, .dct _, h, _ => by simp [lfree] at h
  | _, .dctT _, h, _ => by simp [lfree] at h
  | _, .set _, h, _ => by simp [lfree] at h
  | _, .scr _, h, _ => by simp [lfree] at h
theorem lfree_rpA {W : Wd} {G : Hp} : ∀ {vs : List V} {ds : List D}, lfreeA ds = true → RpA W G vs ds → RpA W (Tn G) vs ds
  | _, _, _, .nil => .nil
  | _, d :: ds, h, .cons a r => by
    simp only [lfreeA, Bool.and_eq_true] at h
    exact .cons (lfree_rp h.1 a) (lfree_rpA h.2 r)
end
theorem lfreeA_get : ∀ {ds : List D} {i : Nat} {d : D}, lfreeA ds = true → ds[i]? = some d → lfree d = true
  | d :: ds, 0, _, h, e => by
    cases e
    simp only [lfreeA, Bool.and_eq_true] at h
    exact h.1
  | d :: ds, i + 1, _, h, e => by
    simp only [lfreeA, Bool.and_eq_true] at h
    exact lfreeA_get (ds := ds) (i := i) h.2 e
def scalA (ds : List D) : Bool := ds.all scal
theorem scal_rpA {W : Wd} {G G' : Hp} : ∀ {vs : List V} {ds : List D}, scalA ds = true → RpA W G vs ds → RpA W G' vs ds
  | _, _, _, .nil => .nil
  | _, d :: ds, h, .cons a r => by
    have h' : (scal d && scalA ds) = true := h
    obtain ⟨h1, h2⟩ := Bool.and_eq_true_iff.mp h'
    exact .cons (scal_rp h1 a) (scal_rpA h2 r)
def thaw : D → Option RV
  | .lst ds => if scalA ds = true then some (.fr (.lst ds)) else none
  | d => if scal d = true then some (.fz d) else none
theorem thaw_ok {W : Wd} {F : FrI} {G G1 G' H H' : Hp} {env : Env} {σ : L2.St} {vs : List V} {out d : D} {v : V} {r : RV} (R : Rel W F G env σ H) (a : Aft W (Tn G1) H none vs out G' H') (rv : RVal W G' H H' v d false) (e : thaw d = some r) : RVok W F G env σ H' v r := by
  have rp : Rp W G' v d := rv
  unfold thaw at e
  split at e
  · rename_i ds
    by_cases z : scalA ds = true
    · rw [if_pos z] at e
      cases e
      cases rp with
      | @lst p ws _ g1 ra =>
        have hp : H p = none := by
          cases hH : H p with
          | none => rfl
          | some o =>
            have := a.gE p (by rw [hH]; intro q; cases q)
            rw [g1] at this
            exact absurd this.symm (Tn_nolst G1 p ws)
        exact ⟨p, rfl, R.dom p hp, ⟨R.same.free hp, _, a.same _ _ g1, .lst (scal_rpA z ra)⟩, R.free hp⟩
    · rw [if_neg z] at e; cases e
  · by_cases z : scal d = true
    · rw [if_pos z] at e
      cases e
      exact scal_rp z rp
    · rw [if_neg z] at e; cases e
theorem thaw_ok1 {W : Wd} {F : FrI} {G G1 G' H H' : Hp} {env : Env} {σ : L2.St} {vs : List V} {out d : D} {v : V} {fr : Bool} {r : RV} (R : Rel W F G env σ H) (a : Aft W (Tn G1) H none vs out G' H') (rv : RVal W G' H H' v d fr) (e : thaw d = some r) : RVok W F G env σ H' v r := by
  cases fr with
  | false => exact thaw_ok R a rv e
  | true =>
    unfold RVal at rv
    rw [if_pos rfl] at rv
    obtain ⟨p, rfl, hp, g, o, ho, sh⟩ := rv
    unfold thaw at e
    split at e
    · rename_i ds
      by_cases z : scalA ds = true
      · rw [if_pos z] at e
        cases e
        cases sh with
        | lst ra => exact ⟨p, rfl, R.dom p hp, ⟨R.same.free hp, _, ho, .lst (scal_rpA z ra)⟩, R.free hp⟩
      · rw [if_neg z] at e; cases e
    · by_cases z : scal d = true
      · cases sh <;> cases z
      · rw [if_neg z] at e; cases e
/-- the call's end -/
def ftOut (env : Env) : FO → Out (RV × Env)
  | .ok d _ _ => (Out.of (thaw d)).bind fun r => .ok (r, env)
  | _ => .st
def callT (fn : Fn) (rs : List RV) (env : Env) : Out (RV × Env) := (Out.of (frzNon none 0 env rs)).bind fun p => if lfreeA p.1 = true then ftOut env (fn p.1) else .st
def dCallT (fn : Fn) (g : Env → Out (List RV × Env)) : Env → Out (RV × Env) := fun env => (g env).bind fun p => callT fn p.1 p.2
/-- x, y = f(..): x a new list, y without objects -/
def ft2Out (i j : Nat) (env : Env) : FO → Out Fl
  | .ok (.tup [d1, d2]) false _ => if scal d2 = true then (Out.of (thaw d1)).bind fun r => (Out.of (storeR i r env)).bind fun e => (Out.of (storeR j (.fz d2) e)).bind fun e => .ok (.nx e) else .st
  | _ => .st
def sThaw2 (i j : Nat) (fn : Fn) (g : Env → Out (List RV × Env)) : Env → Out Fl := fun env => (g env).bind fun p => (Out.of (frzNon none 0 p.2 p.1)).bind fun q => if lfreeA q.1 = true then ft2Out i j p.2 (fn q.1) else .st
section
variable {X : Cx} {c : Nat → Value} {Wx : WX}
theorem callT_ok {F : FrI} {G0 G H : Hp} {env : Env} {σ : L2.St} {Q : VK} {fn : Fn} {rs : List RV} {vs : List V} (R : Rel (wd X c) F G env σ H) (s0 : Same G0 G) (pv : PVA (wd X c) G σ vs rs) (h : EPost (wd X c) Wx F G0 σ Q (callT fn rs env)) : spOf (wd X c) none fn vs H Q (WE Wx σ) := by
  unfold callT at h
  cases e1 : frzNon none 0 env rs with
  | none => rw [e1] at h; exact h.elim
  | some w =>
    obtain ⟨ds, env1⟩ := w
    rw [e1] at h
    have h : EPost (wd X c) Wx F G0 σ Q (if lfreeA ds = true then ftOut env (fn ds) else .st) := h
    by_cases z : lfreeA ds = true
    · rw [if_pos z] at h
      obtain ⟨G1, s1, R1, l1, h1, pv1⟩ := frzNon_ok R pv e1
      refine ⟨Tn G1, ds, Tn_same R1.same, ⟨l1, fun i v d hv hd n => lfree_rp (lfreeA_get z hd) (h1 i v d hv hd (by intro z; cases z)), by intro i z; cases z⟩, ?_⟩
      cases e2 : fn ds with
      | st => rw [e2] at h; exact h.elim
      | ex x out => rw [e2] at h; exact h.elim
      | ok d fr out =>
        rw [e2] at h
        have h : EPost (wd X c) Wx F G0 σ Q ((Out.of (thaw d)).bind fun r => .ok (r, env)) := h
        cases e3 : thaw d with
        | none => rw [e3] at h; exact h.elim
        | some r =>
          rw [e3] at h
          have h : EPost (wd X c) Wx F G0 σ Q (.ok (r, env)) := h
          intro v G' H' a rv
          have all : ∀ b o, H b = some o → H' b = some o := fun b o hb => a.keep b o hb fun i e => by cases e
          exact h v G H' (R.back all a.dom) s0 (thaw_ok1 R a rv e3)
    · rw [if_neg z] at h; exact h.elim
theorem de_callT {k : Nat} {x : Str} {fn : Fn} {p pos : Pos} {e : Expr} {es : List Expr} {g : Env → Out (List RV × Env)} (C : Cal X.prog X.w X.K X.mg X.base c k x none fn) (hr : Room k X.A) (hg : X.A.guards = some []) (gx : Gl X x) (tk : Takes X Wx) (ha : DA X c Wx (e :: es) g)
    (hd : (x == ("__debug__" : Str)) = false := by rfl) (he : starEach (e :: es) X.env = (false, eval e X.env) :: starEach es X.env := by rfl) (hp : (backTo pos (starEach es X.env)).any (·.1) = false := by rfl) : DE X c Wx (.Call (.Name x p) (e :: es) [] pos) (dCallT fn g) := by
  obtain ⟨f, fd, ps, F, hm, kp, hb⟩ := C.ex
  obtain ⟨t, pa, ka⟩ := ha.run
  refine ⟨_, pe_callG F hr hg gx hm kp hb tk pa hd he hp, fun F G env σ H Q R h => ?_⟩
  exact ka F G env σ H _ _ _ pl_E R h fun rs env1 vs G1 H1 R1 s1 pv h1 => callT_ok R1 s1 pv h1
theorem ds_thaw2 {k i j kt : Nat} {x y z : Str} {fn : Fn} {p pos py pz pt spos : Pos} {e : Expr} {es : List Expr} {g : Env → Out (List RV × Env)} (C : Cal X.prog X.w X.K X.mg X.base c k x none fn) (hr : Room k X.A) (hg : X.A.guards = some []) (gx : Gl X x) (tk : Takes X Wx) (ha : DA X c Wx (e :: es) g) (hc : X.calm = true) (hN : X.N.Nodup)
    (hi : X.N[i]? = some y) (hj : X.N[j]? = some z) (ly : Loc X.env.scope y) (lz : Loc X.env.scope z) (fy : X.fn y = true ∨ List.lookup y X.env.scope.names = some NameKind.local := by first | exact Or.inr rfl | exact Or.inl rfl) (fz : X.fn z = true ∨ List.lookup z X.env.scope.names = some NameKind.local := by first | exact Or.inr rfl | exact Or.inl rfl)
    (hd : (x == ("__debug__" : Str)) = false := by rfl) (he : starEach (e :: es) X.env = (false, eval e X.env) :: starEach es X.env := by rfl) (hp : (backTo pos (starEach es X.env)).any (·.1) = false := by rfl)
    (h1 : swapsWithSole [.Tuple [.Name y py, .Name z pz] kt pt] (.Call (.Name x p) (e :: es) [] pos) spos.line X.env = pure false := by rfl) (h2 : swappedStores [.Tuple [.Name y py, .Name z pz] kt pt] (.Call (.Name x p) (e :: es) [] pos) X.env = pure none := by rfl)
    (h3 : List.map (fun x => x.snd) (assignEach [.Tuple [.Name y py, .Name z pz] kt pt] X.env) = [assign (.Tuple [.Name y py, .Name z pz] kt pt) X.env] := by rfl)
    (h4 : (assignEach [.Name y py, .Name z pz] X.env).length = 2 := by rfl) (h5 : List.findIdx? (fun x => x.fst) (assignEach [.Name y py, .Name z pz] X.env) = none := by rfl)
    (h6 : List.map (fun x => x.snd) (assignEach [.Name y py, .Name z pz] X.env) = assign (.Name y py) X.env :: List.map (fun x => x.snd) (assignEach [.Name z pz] X.env) := by rfl) (h7 : List.map (fun x => x.snd) (assignEach [.Name z pz] X.env) = assign (.Name z pz) X.env :: List.map (fun x => x.snd) (assignEach [] X.env) := by rfl) :
    DS X c Wx (.Assign [.Tuple [.Name y py, .Name z pz] kt pt] (.Call (.Name x p) (e :: es) [] pos) spos) (sThaw2 i j fn g) := by
  obtain ⟨f, fd, ps, F, hm, kp, hb⟩ := C.ex
  obtain ⟨t, pa, ka⟩ := ha.run
  refine ⟨_, ps_asg (pe_callG F hr hg gx hm kp hb tk pa hd he hp) (pg_tup hc (pgs_cons (pg_name (i := i) hN hi ly fy) (pgs_cons (pg_name (i := j) hN hj lz fz) pgs_nil h7) h6) h4 h5) h1 h2 h3, fun F G env σ H D R h => ?_⟩
  refine ka F G env σ H _ _ _ pl_S R h fun rs env1 vs G1 H1 R1 s1 pv h1 => ?_
  dsimp only at h1
  cases e1 : frzNon none 0 env1 rs with
  | none => rw [e1] at h1; exact h1.elim
  | some w =>
    obtain ⟨ds, env2⟩ := w
    rw [e1] at h1
    have h1 : SPost (wd X c) Wx F G D (if lfreeA ds = true then ft2Out i j env1 (fn ds) else .st) := h1
    by_cases z : lfreeA ds = true
    · rw [if_pos z] at h1
      obtain ⟨G2, s2, R2, l2, k2, pv2⟩ := frzNon_ok R1 pv e1
      refine ⟨Tn G2, ds, Tn_same R2.same, ⟨l2, fun i v d hv hd n => lfree_rp (lfreeA_get z hd) (k2 i v d hv hd (by intro z; cases z)), by intro i z; cases z⟩, ?_⟩
      cases e2 : fn ds with
      | st => rw [e2] at h1; exact h1.elim
      | ex xx out => rw [e2] at h1; exact h1.elim
      | ok d fr out =>
        rw [e2] at h1
        unfold ft2Out at h1
        split at h1
        · rename_i d1 d2 out' eq
          cases eq
          by_cases zs : scal d2 = true
          · rw [if_pos zs] at h1
            intro v G' H' a rv
            have all : ∀ b o, H1 b = some o → H' b = some o := fun b o hb => a.keep b o hb fun i e => by cases e
            have RB := R1.back all a.dom
            have rp : Rp (wd X c) G' v (.tup [d1, d2]) := rv
            cases rp with
            | @tup q ws _ gq ra =>
              cases ra with
              | @cons v1 _ _ _ r1 ra =>
                cases ra with
                | @cons v2 _ _ _ r2 ra =>
                  cases ra
                  cases e3 : thaw d1 with
                  | none => rw [e3] at h1; exact h1.elim
                  | some r =>
                    rw [e3] at h1
                    have h1 : SPost (wd X c) Wx F G D ((Out.of (storeR i r env1)).bind fun e => (Out.of (storeR j (.fz d2) e)).bind fun e => .ok (.nx e)) := h1
                    cases e4 : storeR i r env1 with
                    | none => rw [e4] at h1; exact h1.elim
                    | some env3 =>
                      rw [e4] at h1
                      have h1 : SPost (wd X c) Wx F G D ((Out.of (storeR j (.fz d2) env3)).bind fun e => .ok (.nx e)) := h1
                      cases e5 : storeR j (.fz d2) env3 with
                      | none => rw [e5] at h1; exact h1.elim
                      | some env4 =>
                        rw [e5] at h1
                        have h1 : SPost (wd X c) Wx F G D (.ok (.nx env4)) := h1
                        have k1 : RVok (wd X c) F G1 env1 σ H' v1 r := thaw_ok1 (fr := false) R1 a r1 e3
                        obtain ⟨G3, s3, R3⟩ := storeR_ok RB k1 e4
                        have k2 : RVok (wd X c) F G3 env3 (σ.set i (some v1)) H' v2 (.fz d2) := scal_rp (G := G') zs r2
                        obtain ⟨G4, s4, R4⟩ := storeR_ok R3 k2 e5
                        refine ⟨q, [v1, v2], rfl, SqT.of (a.same _ _ gq), rfl, ?_⟩
                        refine ⟨v1, [v2], rfl, ?_⟩
                        refine ⟨v2, [], rfl, ?_⟩
                        exact ⟨rfl, h1 _ G4 H' R4 (s1.trans (s3.trans s4))⟩
          · rw [if_neg zs] at h1; exact h1.elim
        · exact h1.elim
    · rw [if_neg z] at h1; exact h1.elim
end
/-! ### simp -/
section
variable {env : Env} {fn : Fn} {g : Env → Out (List RV × Env)}
@[simp] theorem x_callT : dCallT fn g env = (g env).bind fun p => (Out.of (frzNon none 0 p.2 p.1)).bind fun q => if lfreeA q.1 = true then ftOut p.2 (fn q.1) else .st := (rfl)
@[simp] theorem x_ft {d o : D} {fr : Bool} : ftOut env (.ok d fr o) = (Out.of (thaw d)).bind fun r => .ok (r, env) := (rfl)
@[simp] theorem x_thaw2 {i j : Nat} : sThaw2 i j fn g env = (g env).bind fun p => (Out.of (frzNon none 0 p.2 p.1)).bind fun q => if lfreeA q.1 = true then ft2Out i j p.2 (fn q.1) else .st := (rfl)
@[simp] theorem x_ft2 {i j : Nat} {d1 d2 o : D} : ft2Out i j env (.ok (.tup [d1, d2]) false o) = if scal d2 = true then (Out.of (thaw d1)).bind fun r => (Out.of (storeR i r env)).bind fun e => (Out.of (storeR j (.fz d2) e)).bind fun e => .ok (.nx e) else .st := (rfl)
theorem thaw_ints (xs : List Int) : thaw (.lst (xs.map .int)) = some (.fr (.lst (xs.map .int))) := by
  have : scalA (xs.map D.int) = true := by
    unfold scalA
    rw [List.all_eq_true]
    intro d hd
    obtain ⟨n, _, rfl⟩ := List.mem_map.mp hd
    rfl
  show (if scalA (xs.map D.int) = true then some (RV.fr (.lst (xs.map D.int))) else none) = _
  rw [if_pos this]
@[simp] theorem lf_nil : lfreeA [] = true := by simp [lfreeA]
@[simp] theorem lf_cons {d : D} {ds : List D} : lfreeA (d :: ds) = (lfree d && lfreeA ds) := by simp [lfreeA]
@[simp] theorem lf_int {i : Int} : lfree (.int i) = true := by simp [lfree]
@[simp] theorem lf_non : lfree .non = true := by simp [lfree]
@[simp] theorem lf_bl {b : Bool} : lfree (.bl b) = true := by simp [lfree]
@[simp] theorem lf_str {s : PySem.Str} : lfree (.str s) = true := by simp [lfree]
@[simp] theorem lf_tup {ds : List D} : lfree (.tup ds) = lfreeA ds := by simp [lfree]
@[simp] theorem lf_tpl {ds : List D} : lfree (.tpl ds) = lfreeA ds := by simp [lfree]
end
end VS
namespace VS
open PySem PySem.Spec PyProof.Rows L2
/-! ### a call that only borrows its arguments: what it gives holds no list, or is a new list of plain things -/
def keepB (fr : Bool) (d : D) : Option RV := if fr = true then (match d with
    | .lst ds => if scalA ds = true then some (.fr (.lst ds)) else none
    | _ => none)
  else if lfree d = true then some (.fz d) else none
def fb2Out (env : Env) : FO → Out (RV × Env)
  | .ok d fr _ => (Out.of (keepB fr d)).bind fun r => .ok (r, env)
  | _ => .st
def callB2 (fn : Fn) (rs : List RV) (env : Env) : Out (RV × Env) := (Out.of (frzNon none 0 env rs)).bind fun p => fb2Out env (fn p.1)
def dCallB2 (fn : Fn) (g : Env → Out (List RV × Env)) : Env → Out (RV × Env) := fun env => (g env).bind fun p => callB2 fn p.1 p.2
def joinG (G T : Hp) : Hp := fun a => match G a with
  | some o => some o
  | none => T a
section
variable {W : Wd} {F : FrI} {G H : Hp} {env : Env} {σ : L2.St}
theorem Rel.join {G1 G' H' : Hp} {env1 : Env} {vs : List V} {out : D} (R : Rel W F G env σ H) (s1 : Same G G1) (R1 : Rel W F G1 env1 σ H) (a : Aft W G1 H none vs out G' H') : Rel W F (joinG G (Tn G')) env σ H' ∧ Same G (joinG G (Tn G')) ∧ Same (Tn G') (joinG G (Tn G')) := by
  have all : ∀ b o, H b = some o → H' b = some o := fun b o hb => a.keep b o hb fun i e => by cases e
  have sg : Same G (joinG G (Tn G')) := fun b o e => by unfold joinG; rw [e]
  have st : Same (Tn G') (joinG G (Tn G')) := fun b o e => by
    unfold joinG
    cases eg : G b with
    | none => exact e
    | some u =>
      have h1 := a.gg b u (s1 b u eg)
      have h2 := Tn_sub G' b o e
      rw [h1] at h2
      cases h2
      rfl
  refine ⟨R.step sg (fun b o e => ?_) (fun b e => ?_) (fun b o _ h _ => all b o h) a.dom (fun i c b e nf z g => ?_) fun i c b o e nf z h => all b o h, sg, st⟩
  · unfold joinG at e
    split at e
    · rename_i u eg
      cases e
      exact all b _ (R.same b _ eg)
    · exact a.same b o (Tn_sub G' b o e)
  · unfold joinG
    cases eg : G b with
    | some u => rfl
    | none =>
      have hb : H b ≠ none := fun z => e (R.dom b z)
      have h1 := a.gE b hb
      have h2 := R1.gE b e
      have h3 := R.gE b e
      have h4 : G' b = none := by rw [h1, h2, ← h3, eg]
      show Tn G' b = none
      unfold Tn; rw [h4]
  · unfold joinG
    rw [g]
    dsimp only
    cases et : Tn G' b with
    | none => rfl
    | some o =>
      obtain ⟨d, ow⟩ := c
      obtain ⟨b', hb, ⟨_, u, hu, sh⟩, _⟩ := R.own e nf
      rw [z] at hb; cases hb
      have h1 := a.same b o (Tn_sub G' b o et)
      rw [all b u hu] at h1
      cases h1
      have hm := sh.mut
      unfold Tn at et
      split at et
      · cases et; exact hm.elim
      · cases et; exact hm.elim
      · cases et
end
section
variable {X : Cx} {c : Nat → Value} {Wx : WX}
theorem callB2_ok {F : FrI} {G0 G H : Hp} {env : Env} {σ : L2.St} {Q : VK} {fn : Fn} {rs : List RV} {vs : List V} (R : Rel (wd X c) F G env σ H) (s0 : Same G0 G) (pv : PVA (wd X c) G σ vs rs) (h : EPost (wd X c) Wx F G0 σ Q (callB2 fn rs env)) : spOf (wd X c) none fn vs H Q (WE Wx σ) := by
  unfold callB2 at h
  cases e1 : frzNon none 0 env rs with
  | none => rw [e1] at h; exact h.elim
  | some w =>
    obtain ⟨ds, env1⟩ := w
    rw [e1] at h
    have h : EPost (wd X c) Wx F G0 σ Q (fb2Out env (fn ds)) := h
    obtain ⟨G1, s1, R1, l1, h1, pv1⟩ := frzNon_ok R pv e1
    refine ⟨G1, ds, R1.same, ⟨l1, fun i v d hv hd n => h1 i v d hv hd (by intro z; cases z), by intro i z; cases z⟩, ?_⟩
    cases e2 : fn ds with
    | st => rw [e2] at h; exact h.elim
    | ex x out => rw [e2] at h; exact h.elim
    | ok d fr out =>
      rw [e2] at h
      have h : EPost (wd X c) Wx F G0 σ Q ((Out.of (keepB fr d)).bind fun r => .ok (r, env)) := h
      cases e3 : keepB fr d with
      | none => rw [e3] at h; exact h.elim
      | some r =>
        rw [e3] at h
        have h : EPost (wd X c) Wx F G0 σ Q (.ok (r, env)) := h
        intro v G' H' a rv
        unfold keepB at e3
        cases fr with
        | true =>
          rw [if_pos rfl] at e3
          split at e3
          · rename_i es
            by_cases z : scalA es = true
            · rw [if_pos z] at e3
              cases e3
              have all : ∀ b o, H b = some o → H' b = some o := fun b o hb => a.keep b o hb fun i e => by cases e
              unfold RVal at rv
              rw [if_pos rfl] at rv
              obtain ⟨p, rfl, hp, g, o, ho, sh⟩ := rv
              cases sh with
              | lst ra => exact h _ G H' (R.back all a.dom) s0 ⟨p, rfl, R.dom p hp, ⟨R.same.free hp, _, ho, .lst (scal_rpA z ra)⟩, R.free hp⟩
            · rw [if_neg z] at e3; cases e3
          · cases e3
        | false =>
          rw [if_neg (by decide)] at e3
          by_cases z : lfree d = true
          · rw [if_pos z] at e3
            cases e3
            have rp : Rp (wd X c) G' v d := rv
            obtain ⟨R2, sg, st⟩ := R.join s1 R1 a
            exact h v _ H' R2 (s0.trans sg) ((lfree_rp z rp).mono (Le.of st))
          · rw [if_neg z] at e3; cases e3
theorem de_callB2 {k : Nat} {x : Str} {fn : Fn} {p pos : Pos} {e : Expr} {es : List Expr} {g : Env → Out (List RV × Env)} (C : Cal X.prog X.w X.K X.mg X.base c k x none fn) (hr : Room k X.A) (hg : X.A.guards = some []) (gx : Gl X x) (tk : Takes X Wx) (ha : DA X c Wx (e :: es) g)
    (hd : (x == ("__debug__" : Str)) = false := by rfl) (he : starEach (e :: es) X.env = (false, eval e X.env) :: starEach es X.env := by rfl) (hp : (backTo pos (starEach es X.env)).any (·.1) = false := by rfl) : DE X c Wx (.Call (.Name x p) (e :: es) [] pos) (dCallB2 fn g) := by
  obtain ⟨f, fd, ps, F, hm, kp, hb⟩ := C.ex
  obtain ⟨t, pa, ka⟩ := ha.run
  refine ⟨_, pe_callG F hr hg gx hm kp hb tk pa hd he hp, fun F G env σ H Q R h => ?_⟩
  exact ka F G env σ H _ _ _ pl_E R h fun rs env1 vs G1 H1 R1 s1 pv h1 => callB2_ok R1 s1 pv h1
/-! ### repr((x, ..)): the things in it stay the frame's own -/
def rpOut (env : Env) (mk : List D → D) : List D × Env → Out (RV × Env) := fun p => if le24 p.1.length = true then (match bRepr [mk p.1] with
  | some (.str s, false) => .ok (.fz (.str s), env)
  | _ => .st) else .st
def dReprT (g : Env → Out (List RV × Env)) : Env → Out (RV × Env) := fun env => (g env).bind fun p => (Out.of (freezeA p.2 p.1)).bind (rpOut p.2 .tup)
def dReprL (g : Env → Out (List RV × Env)) : Env → Out (RV × Env) := fun env => (g env).bind fun p => (Out.of (freezeA p.2 p.1)).bind (rpOut p.2 .lst)
theorem rpOut_ok {F : FrI} {G0 G1 G2 H1 : Hp} {env1 env2 : Env} {σ : L2.St} {Q : VK} {vs : List V} {ds : List D} {mk : List D → D} {o : List V → HO} (R1 : Rel (wd X c) F G1 env1 σ H1) (s1 : Same G0 G1) (s2 : Same G1 G2) (R2 : Rel (wd X c) F G2 env2 σ H1) (ra : RpA (wd X c) G2 vs ds)
    (mkr : ∀ q (G : Hp), G q = some (o vs) → RpA (wd X c) G vs ds → Rp (wd X c) G (.ref q) (mk ds)) (h : EPost (wd X c) Wx F G0 σ Q (rpOut env1 mk (ds, env2))) :
    vs.length ≤ sizeLine ∧ ∀ q, H1 q = none → rReprD X.K [.ref q] (upd H1 q (o vs)) Q := by
  unfold rpOut at h
  dsimp only at h
  by_cases z : le24 ds.length = true
  · rw [if_pos z] at h
    refine ⟨by rw [ra.length]; exact le24_ok z, fun q hq => ?_⟩
    cases eb : bRepr [mk ds] with
    | none => rw [eb] at h; exact h.elim
    | some w =>
      obtain ⟨d2, fr⟩ := w
      rw [eb] at h
      unfold bRepr at eb
      dsimp only at eb
      split at eb
      · rename_i zz
        cases eb
        have h : EPost (wd X c) Wx F G0 σ Q (.ok (.fz (.str (toPy (mk ds)).shown), env1)) := h
        obtain ⟨z12, z3⟩ := Bool.and_eq_true_iff.mp zz
        obtain ⟨z1, z2⟩ := Bool.and_eq_true_iff.mp z12
        obtain ⟨p1, p2⟩ := plain_ok _ 60 z1
        have hg : G2 q = none := R2.same.free hq
        have s3 : Same G2 (upd G2 q (o vs)) := same_new hg
        have sH : Same (upd G2 q (o vs)) (upd H1 q (o vs)) := fun b u e => by
          by_cases zb : b = q
          · subst zb; rw [upd_same] at e ⊢; exact e
          · rw [upd_ne zb] at e ⊢; exact R2.same b u e
        have rq : Rp (wd X c) (upd G2 q (o vs)) (.ref q) (mk ds) := mkr q _ upd_same (ra.mono (Le.of s3))
        have vw : Vw (wd X c) (upd G2 q (o vs)) (upd H1 q (o vs)) (.ref q) (mk ds) := .inl rq
        have all : ∀ b u, H1 b = some u → upd H1 q (o vs) b = some u := fun b u e => by
          rw [upd_ne (ne_of_none e hq)]; exact e
        have dom : ∀ b, upd H1 q (o vs) b = none → H1 b = none := fun b e => by
          by_cases zb : b = q
          · subst zb; exact hq
          · rw [upd_ne zb] at e; exact e
        exact ⟨.ref q, _, rfl, vw.dp sH z1, p1, p2, z2, le24_ok z3, h (.str _) G1 _ (R1.back all dom) s1 (.str _)⟩
      · cases eb
  · rw [if_neg z] at h; exact h.elim
theorem de_reprT {es : List Expr} {k : Nat} {p p2 pos : Pos} {g : Env → Out (List RV × Env)} (hG : X.A.guards = some []) (hu : X.A.units + 70 < cLine) (hm : X.mg "repr" = none) (ha : DA X c Wx es g) (hg : Gl X "repr" := by rfl)
    (h1 : starEach [.Tuple es k p2] X.env = (false, eval (.Tuple es k p2) X.env) :: starEach [] X.env := by rfl) (hpl : (backTo pos (starEach [] X.env)).any (·.1) = false := by rfl) : DE X c Wx (.Call (.Name "repr" p) [.Tuple es k p2] [] pos) (dReprT g) := by
  obtain ⟨t, pa, ka⟩ := ha.run
  refine ⟨_, pe_callB (call_reprD hG hu) hg hm rfl (pa_cons (pe_tup pa) pa_nil h1) (he := h1) (hpl := hpl), fun F G env σ H Q R h => ?_⟩
  refine ka F G env σ H _ _ _ pl_E R h fun rs env1 vs G1 H1 R1 s1 pv h1 => ?_
  dsimp only at h1
  cases e0 : freezeA env1 rs with
  | none => rw [e0] at h1; exact h1.elim
  | some w =>
    obtain ⟨ds, env2⟩ := w
    obtain ⟨G2, s2, R2, ra⟩ := pv.freeze R1 e0
    rw [e0] at h1
    exact rpOut_ok (o := fun vs => .tup vs) R1 s1 s2 R2 ra (fun q G hq r => .tup hq r) h1
end
/-! ### simp -/
section
variable {env : Env} {fn : Fn} {g : Env → Out (List RV × Env)}
@[simp] theorem x_callB2 : dCallB2 fn g env = (g env).bind fun p => (Out.of (frzNon none 0 p.2 p.1)).bind fun q => fb2Out p.2 (fn q.1) := (rfl)
@[simp] theorem x_fb2 {d o : D} {fr : Bool} : fb2Out env (.ok d fr o) = (Out.of (keepB fr d)).bind fun r => .ok (r, env) := (rfl)
theorem keepB_fz {d : D} (h : lfree d = true) : keepB false d = some (.fz d) := by
  unfold keepB; rw [if_neg (by decide), if_pos h]
theorem scalA_ints (xs : List Int) : scalA (xs.map .int) = true := by
  unfold scalA
  rw [List.all_eq_true]
  intro d hd
  obtain ⟨n, _, rfl⟩ := List.mem_map.mp hd
  rfl
theorem keepB_ints (xs : List Int) : keepB true (.lst (xs.map .int)) = some (.fr (.lst (xs.map .int))) := by
  unfold keepB
  rw [if_pos rfl]
  show (if scalA (xs.map D.int) = true then some (RV.fr (.lst (xs.map D.int))) else none) = _
  rw [if_pos (scalA_ints xs)]
def rpO (env : Env) : Option (D × Bool) → Out (RV × Env)
  | some (.str s, false) => .ok (.fz (.str s), env)
  | _ => .st
@[simp] theorem x_rpO {s : PySem.Str} : rpO env (some (.str s, false)) = .ok (.fz (.str s), env) := (rfl)
@[simp] theorem x_reprT : dReprT g env = (g env).bind fun p => (Out.of (freezeA p.2 p.1)).bind (rpOut p.2 .tup) := (rfl)
@[simp] theorem x_rpOut {mk : List D → D} {ds : List D} {e : Env} : rpOut env mk (ds, e) = if le24 ds.length = true then rpO env (bRepr [mk ds]) else .st := by
  unfold rpOut rpO
  dsimp only
end
end VS
namespace VS
open PySem PySem.Spec PyProof.Rows L2
section
variable {X : Cx} {c : Nat → Value} {Wx : WX}
theorem dc_walkL {W : Wd} {F : FrI} {G H : Hp} {env : Env} {σ : L2.St} {Q : VK} {vs js : List Nat} {it : Env → Out (List D × Env)} {wi : TI} {g : RV → Env → Out Env} {t : Env → Out (Bool × Env)} {fk fv : Env → Out (RV × Env)} (hj : ∀ j ∈ js, j ∈ vs) (R : Rel W F G env σ H)
    (ki : ∀ (Q : It → Hp → Prop) (k : List D × Env → Out (RV × Env)) (post : Out (RV × Env) → Prop), PL W Wx F G σ post → post ((it env).bind k) →
    (∀ ds env' J G' H', Rel W F G' env' σ H' → Same G G' → ItW W G' J ds → post (k (ds, env')) → Q J H') → wi σ H Q)
    (h : EPost W Wx F G σ Q (dDc vs it g t fk fv env)) : tDc wi (tCanG W js g) (tCanT W t) (tCanE W fk) (tCanE W fv) vs σ H Q := by
  refine ki _ _ _ pl_E h fun ds env1 J G1 H1 R1 s1 it1 h1 => ?_
  intro p hp
  by_cases hn : allNotIo vs env1 = true
  · rw [if_pos hn] at h1
    have hn' : ∀ i ∈ vs, notIo i env1 = true := List.all_eq_true.mp hn
    have L : Lk F p := R1.lk hp
    have hi : p ∉ F.ios.map (·.2) := L.no R1.iosE
    refine ⟨fun i m H' => ∃ G' acc env', Same G1 G' ∧ Rel W (lockF F p (.dK acc)) G' (wipeE env' vs) (wipe σ vs) H' ∧ i ≤ ds.length ∧ m = ds.length - i ∧ ∃ dacc, RpK W G' acc dacc ∧ EPost W Wx F G σ Q ((noEx (dcL vs g t fk fv (ds.drop i) dacc env')).bind fun q => .ok (.fr (.dct q.1), restE env1 q.2 vs)), ⟨_, G1, [], env1, Same.refl G1, (R1.wipe hn').lock hp, Nat.zero_le _, rfl, [], .nil, h1⟩, ?_⟩
    rintro i m H2 ⟨G2, acc, env2, s2, R2, hi2, hm, dacc, ra, h2⟩
    obtain ⟨i1, i2⟩ := it1 G2 i H2 s2 R2.same
    by_cases z : ds.length ≤ i
    · refine .inl ⟨i1 z, ?_⟩
      rw [List.drop_eq_nil_of_le z] at h2
      obtain ⟨hp2, hg2⟩ := R2.at L hi
      obtain ⟨R3, fr⟩ := R2.unlock L hi
      have R4 := Rel.mix (vs := vs) (σ := σ) R1 R3 s2 (wipe_ext (wipe_len _ _) fun j m => wipe_out _ _ _ m) hn'
      rw [restE_wipe] at R4
      refine h2 (.ref p) G2 H2 R4 (s1.trans s2) ⟨p, rfl, L.e, ⟨hg2, _, hp2, .dct ra⟩, fun j c e nf => ?_⟩
      rcases restE_get e with ⟨m, e⟩ | ⟨m, e⟩
      · exact absurd (frzC_eq e).1 nf
      · have := fr j c (by rw [wipeE_out m]; exact e) nf
        rwa [wipe_out _ _ _ m] at this
    · have z : i < ds.length := Nat.lt_of_not_le z
      obtain ⟨j1, j2⟩ := i2 _ (List.getElem?_eq_getElem z)
      rw [List.drop_eq_getElem_cons z] at h2
      refine .inr ⟨j1, fun H' => ∃ G' acc env', Same G1 G' ∧ Rel W (lockF F p (.dK acc)) G' (wipeE env' vs) (wipe σ vs) H' ∧ ∃ dacc, RpK W G' acc dacc ∧ EPost W Wx F G σ Q ((noEx (dcL vs g t fk fv (ds.drop (i + 1)) dacc env')).bind fun q => .ok (.fr (.dct q.1), restE env1 q.2 vs)), ?_, fun x H' y => ?_⟩
      · rintro H' ⟨G', acc', env', a, b, d⟩
        exact ⟨ds.length - (i + 1), by omega, G', acc', env', a, b, z, rfl, d⟩
      · obtain ⟨G3, s3, R3, rv⟩ := R2.res (j2 x H' y)
        have pl : ∀ {F' : FrI} {G' : Hp} {σ' : L2.St}, PL W wxN F' G' σ' (fun o => EPost W Wx F G σ Q ((noEx o).bind fun q : List (Key × D) × Env => .ok (RV.fr (.dct q.1), restE env1 q.2 vs))) := fun {F' G' σ'} => pl_no (pl_E (Wx := Wx) (F := F) (G := G) (σ := σ) (Q := Q))
        refine lc_turn (α := List (Key × D) × Env) hj R3 rv (fun {G' σ'} _ => pl) h2 fun b σ4 G4 env4 H4 hw R4 s4 h4 => ?_
        cases b with
        | false =>
          have R5 := R4.wipe (vs := vs) fun i hi => Rel.notIo R2 R4 (wipeE_notIo hi)
          rw [hw] at R5
          exact ⟨G4, acc, env4, s2.trans (s3.trans s4), R5, dacc, ra.mono (Le.of (s3.trans s4)), h4⟩
        | true =>
          rw [if_pos rfl]
          refine ⟨_, G4, env4, R4, epost_bind pl h4 fun r env5 v G5 H5 R5 s5 rv5 h5 => ?_⟩
          obtain ⟨G5', s5', R5', pv5⟩ := rv5.pend R5
          refine ⟨_, G5', env5, R5', epost_bind pl h5 fun r6 env6 v6 G6 H6 R6 s6 rv6 h6 => ?_⟩
          dsimp only at h6
          cases e5 : (resolve env6 r).bind dKey with
          | none => rw [e5] at h6; exact h6.elim
          | some key =>
            cases e6 : freezeR env6 r6 with
            | none => rw [e5, e6] at h6; exact h6.elim
            | some w =>
              obtain ⟨y, e2⟩ := w
              rw [e5, e6] at h6
              dsimp only at h6
              obtain ⟨dk, e7, e8⟩ := Option.bind_eq_some_iff.mp e5
              have ek := dKey_vw e8 ((pv5.mono (Le.of s6)).vw R6 e7)
              by_cases zl : lt24 dacc.length = true
              · rw [if_pos zl] at h6
                obtain ⟨G7, s7, R7, rp7⟩ := rv6.freeze R6 e6
                have R8 := R7.wipe (vs := vs) fun i hi => Rel.notIo R2 R7 (wipeE_notIo hi)
                rw [hw] at R8
                have ss := s3.trans (s4.trans (s5.trans (s5'.trans (s6.trans s7))))
                have ra7 := ra.mono (Le.of ss)
                exact ⟨acc, key, ek, (R8.at L hi).1, by rw [ra.length]; exact lt24_ok zl, G7, putK acc key v6, e2, s2.trans ss, R8.relock L hi, setK dacc key y, ra7.put key rp7, h6⟩
              · rw [if_neg zl] at h6; exact h6.elim
  · rw [if_neg hn] at h1; exact h1.elim
/-- a dict display over a dict that is walked under the lock -/
theorem de_dcL {i : Nat} {kx vx tg iter : Expr} {ifs : List Expr} {scope : Scope} {own : List (Str × Nat)} {pos : Pos} {it : Env → Out (List D × Env)} {js : List Nat} {g : RV → Env → Out Env} {t : Env → Out (Bool × Env)} {fk fv : Env → Out (RV × Env)}
    (hc : X.calm = true) (hN : X.N.Nodup) (hi : DIL X c i tg iter it) (ok : BlkOk X.N X.env.scope scope own) (hg : Blks X scope fun Y => DG Y c wxN tg js g) (ht : Blks X scope fun Y => DIfs Y c ifs t) (hk : Blks X scope fun Y => DE Y c wxN kx fk) (hv : Blks X scope fun Y => DE Y c wxN vx fv)
    (hj : ∀ j ∈ js, j ∈ own.map (·.2)) (hs : ∀ x : Value, foldedSetIterable iter X.env x = pure x := by intro x; rfl) : DE X c Wx (.DictComp kx vx [⟨tg, iter, ifs, 0⟩] scope pos) (dLk i (dDc (own.map (·.2)) it g t fk fv)) := by
  obtain ⟨wi, pi, ki⟩ := hi.run
  refine ⟨_, pe_orLock (pe_dc hc hN pi ok (fun s H C cl fp => (hg s H C cl fp).can (W := wd X c) rfl) (fun s H C cl fp => (ht s H C cl fp).can (W := wd X c) rfl) (fun s H C cl fp => (hk s H C cl fp).can (W := wd X c) rfl) (fun s H C cl fp => (hv s H C cl fp).can (W := wd X c) rfl) hs), fun F G env σ H Q R h => ?_⟩
  exact lockE R h fun F' G' env' H' Q' R' L h' => dc_walkL hj R' (fun Q k post pl => ki Wx F' G' env' σ H' R' L Q k post pl) (epost_noEx h')
end
end VS
namespace VS
open PySem PySem.Spec PyProof.Rows L2
/-! ### lists of ints compared -/
def ltL : List Int → List Int → Bool
  | [], [] => false
  | [], _ :: _ => true
  | _ :: _, [] => false
  | x :: r, y :: t => decide (x < y) || (!decide (y < x) && ltL r t)
theorem lexI1 (a b : Int) (l m : List (Int ⊕ List Nat)) : PyProof.Rows.lexLt PyProof.Rows.itemOrd (.inl a :: l) (.inl b :: m) = (decide (a < b) || (!decide (b < a) && PyProof.Rows.lexLt PyProof.Rows.itemOrd l m)) := PyProof.Rows.lex_cons (O := PyProof.Rows.itemOrd) (.inl a) (.inl b) l m
theorem toks_cons (x : Int) (xs : List Int) : W.keyToksAll (toPyA ((x :: xs).map .int)) = .inl 1 :: .inl x :: W.keyToksAll (toPyA (xs.map .int)) := by
  simp [toPyA, toPy, W.keyToksAll, W.keyToks]
theorem toks_nil : W.keyToksAll (toPyA (([] : List Int).map .int)) = [.inl 0] := by simp [toPyA, W.keyToksAll]
theorem toks_ints : ∀ xs ys : List Int, PyProof.Rows.lexLt PyProof.Rows.itemOrd (W.keyToksAll (toPyA (xs.map .int))) (W.keyToksAll (toPyA (ys.map .int))) = ltL xs ys
  | [], [] => by rw [toks_nil]; rfl
  | [], y :: ys => by rw [toks_nil, toks_cons, lexI1]; rfl
  | x :: xs, [] => by rw [toks_nil, toks_cons, lexI1]; rfl
  | x :: xs, y :: ys => by
    rw [toks_cons, toks_cons, lexI1, lexI1, toks_ints xs ys]
    simp [ltL]
theorem dataLt_ints (xs ys : List Int) : W.dataLt (toPy (.lst (xs.map .int))) (toPy (.lst (ys.map .int))) = ltL xs ys := by
  unfold W.dataLt
  have e : ∀ zs : List Int, W.keyToks (toPy (.lst (zs.map .int))) = W.keyToksAll (toPyA (zs.map .int)) := fun zs => by simp [toPy, W.keyToks]
  rw [e, e, toks_ints]
theorem alike_ints : ∀ xs ys : List Int, W.alikeAll (toPyA (xs.map .int)) (toPyA (ys.map .int)) = true
  | [], ys => by cases ys <;> simp [toPyA, W.alikeAll]
  | x :: xs, [] => by simp [toPyA, W.alikeAll]
  | x :: xs, y :: ys => by
    have := alike_ints xs ys
    simp [toPyA, toPy, W.alikeAll, W.alike, this]
theorem depth_ints (xs : List Int) : (toPy (.lst (xs.map .int))).depth ≤ 64 := by
  have h : ∀ zs : List Int, PyData.depthAll (toPyA (zs.map .int)) ≤ 1 := by
    intro zs
    induction zs with
    | nil => simp [toPyA, PyData.depthAll]
    | cons z zs ih => simp [toPyA, toPy, PyData.depthAll, PyData.depth] at ih ⊢; try omega
  have := h xs
  simp [toPy, PyData.depth] at this ⊢
  omega
def liB (f : List Int → List Int → Bool) : Op2 := fun x y => match x, y with
  | .lst xs, .lst ys => match intsD xs, intsD ys with
    | some a, some b => some (.bl (f a b), false)
    | _, _ => none
  | _, _ => none
section
variable {X : Cx} {c : Nat → Value}
def rGtI (K : PySem.W.Frag) : R2 := fun x y H Q => ∃ xs ys : List Int, Dp K H x (toPy (.lst (xs.map .int))) ∧ Dp K H y (toPy (.lst (ys.map .int))) ∧ Q (.bl (ltL ys xs)) H
def rLtI (K : PySem.W.Frag) : R2 := fun x y H Q => ∃ xs ys : List Int, Dp K H x (toPy (.lst (xs.map .int))) ∧ Dp K H y (toPy (.lst (ys.map .int))) ∧ Q (.bl (ltL xs ys)) H
theorem alike_lst (xs ys : List Int) : W.alike (toPy (.lst (xs.map .int))) (toPy (.lst (ys.map .int))) = true := by
  have := alike_ints xs ys
  simpa [toPy, W.alike] using this
theorem lst_ne (xs : List Int) : toPy (.lst (xs.map .int)) ≠ .none := by simp [toPy]
theorem op_gtIL (hu : X.A.units + 64 < cLine) : OpR X (compareOp .Gt) (rGtI X.K) := by
  intro pins s σ H x y v u Q I rx ry h
  obtain ⟨xs, ys, hd, he, q⟩ := h
  obtain ⟨as, r1⟩ := Dp.reads I _ x v hd rx
  obtain ⟨bs, r2⟩ := Dp.reads I _ y u he ry
  have d1 := depth_ints xs
  refine W.gt_data r1 r2 (alike_lst xs ys) (lst_ne xs) (by omega) ⟨.bl _, H, I, rfl, ?_⟩
  rw [dataLt_ints]; exact q
theorem op_ltIL (hu : X.A.units + 64 < cLine) : OpR X (compareOp .Lt) (rLtI X.K) := by
  intro pins s σ H x y v u Q I rx ry h
  obtain ⟨xs, ys, hd, he, q⟩ := h
  obtain ⟨as, r1⟩ := Dp.reads I _ x v hd rx
  obtain ⟨bs, r2⟩ := Dp.reads I _ y u he ry
  have d1 := depth_ints xs
  refine W.lt_data r1 r2 (alike_lst xs ys) (lst_ne xs) (by omega) ⟨.bl _, H, I, rfl, ?_⟩
  rw [dataLt_ints]; exact q
theorem liB_some {f : List Int → List Int → Bool} {dx dy d : D} {fr : Bool} (e : liB f dx dy = some (d, fr)) : ∃ xs ys : List Int, dx = .lst (xs.map .int) ∧ dy = .lst (ys.map .int) ∧ d = .bl (f xs ys) ∧ fr = false := by
  unfold liB at e
  split at e
  · rename_i xs ys
    split at e
    · rename_i a b h1 h2
      cases e
      exact ⟨a, b, by rw [intsD_eq h1], by rw [intsD_eq h2], rfl, rfl⟩
    · cases e
  · cases e
theorem plain_lst (xs : List Int) : plain (.lst (xs.map .int)) 60 = true := plain_ints xs
theorem liGt_ok (hu : X.A.units + 64 < cLine) : OpOk X c (compareOp .Gt) (liB fun a b => ltL b a) := by
  refine ⟨_, op_gtIL hu, fun G H x y dx dy d fr Q s hx hy e q => ?_⟩
  obtain ⟨xs, ys, rfl, rfl, rfl, rfl⟩ := liB_some e
  exact ⟨xs, ys, hx.dp s (plain_lst xs), hy.dp s (plain_lst ys), res_bl s q⟩
theorem liLt_ok (hu : X.A.units + 64 < cLine) : OpOk X c (compareOp .Lt) (liB ltL) := by
  refine ⟨_, op_ltIL hu, fun G H x y dx dy d fr Q s hx hy e q => ?_⟩
  obtain ⟨xs, ys, rfl, rfl, rfl, rfl⟩ := liB_some e
  exact ⟨xs, ys, hx.dp s (plain_lst xs), hy.dp s (plain_lst ys), res_bl s q⟩
def dGtL : Op2 := orOp dGt (liB fun a b => ltL b a)
def dLtL : Op2 := orOp dLt (liB ltL)
theorem dGtL_ok (hu : X.A.units + 64 < cLine) : OpOk X c (compareOp .Gt) dGtL := dGt_ok.orOp (liGt_ok hu)
theorem dLtL_ok (hu : X.A.units + 64 < cLine) : OpOk X c (compareOp .Lt) dLtL := dLt_ok.orOp (liLt_ok hu)
end
@[simp] theorem y_gtLI {a b : Int} : dGtL (.int a) (.int b) = some (.bl (decide (b < a)), false) := (rfl)
@[simp] theorem y_ltLI {a b : Int} : dLtL (.int a) (.int b) = some (.bl (decide (a < b)), false) := (rfl)
@[simp] theorem y_gtLL {xs ys : List Int} : dGtL (.lst (xs.map .int)) (.lst (ys.map .int)) = some (.bl (ltL ys xs), false) := by
  have h : dGt (.lst (xs.map .int)) (.lst (ys.map .int)) = none := by unfold dGt iiB; rfl
  have h2 : liB (fun a b => ltL b a) (.lst (xs.map .int)) (.lst (ys.map .int)) = some (.bl (ltL ys xs), false) := by
    unfold liB
    dsimp only
    rw [intsD_ints, intsD_ints]
  unfold dGtL VS.orOp
  rw [h, h2]; rfl
@[simp] theorem y_ltLL {xs ys : List Int} : dLtL (.lst (xs.map .int)) (.lst (ys.map .int)) = some (.bl (ltL xs ys), false) := by
  have h : dLt (.lst (xs.map .int)) (.lst (ys.map .int)) = none := by unfold dLt iiB; rfl
  have h2 : liB ltL (.lst (xs.map .int)) (.lst (ys.map .int)) = some (.bl (ltL xs ys), false) := by
    unfold liB
    dsimp only
    rw [intsD_ints, intsD_ints]
  unfold dLtL VS.orOp
  rw [h, h2]; rfl
end VS
namespace VS
open PySem PySem.Spec PyProof.Rows L2
/-! ### dicts with int keys compared, whose values are None or ints -/
def eqN : D → D → Option Bool
  | .non, .non => some true
  | .int a, .int b => some (a == b)
  | .non, .int _ => some false
  | .int _, .non => some false
  | _, _ => none
def eqK (ls : List (Key × D)) : List (Key × D) → Option Bool
  | [] => some true
  | (k, d) :: r => match getK ls k with
    | none => some false
    | some e => match eqN d e, eqK ls r with
      | some a, some b => some (a && b)
      | _, _ => none
def ddEq (neg : Bool) : Op2
  | .dct ks, .dct ls => (eqK ls ks).map fun b => (.bl ((ks.length == ls.length && b) != neg), false)
  | _, _ => none
theorem eqN_at {A : Around} {s : Shared} {W : Wd} {G : Hp} {v w : V} {d e : D} {u u' : Value} {b : Bool} (h : eqN d e = some b) (hv : Rp W G v d) (hw : Rp W G w e) (r : RelV v u) (r' : RelV w u') : SeqAt.EqAt A s u u' b := by
  cases d with
  | non =>
    cases hv
    cases (show u = Value.none from r)
    cases e with
    | non => cases hw; cases (show u' = Value.none from r'); cases h; exact SeqAt.EqAt.same _
    | int j =>
      cases hw
      obtain ⟨t', rfl⟩ := (show ∃ t, u' = Value.int j t from r')
      cases h; exact SeqAt.EqAt.none_int j t'
    | _ => cases h
  | int i =>
    cases hv
    obtain ⟨t, rfl⟩ := (show ∃ t, u = Value.int i t from r)
    cases e with
    | non => cases hw; cases (show u' = Value.none from r'); cases h; exact SeqAt.EqAt.int_none i t
    | int j =>
      cases hw
      obtain ⟨t', rfl⟩ := (show ∃ t, u' = Value.int j t from r')
      cases h; exact SeqAt.EqAt.int_int i t j t'
    | _ => cases h
  | _ => cases h
theorem eqK_hits {A : Around} {s : Shared} {W : Wd} {G : Hp} {lvs : List (Key × V)} {ls : List (Key × D)} {vb : List (Key × Value)} (rl : RpK W G lvs ls) (rb : KV lvs vb) : ∀ {kvs : List (Key × V)} {ks : List (Key × D)} {va : List (Key × Value)} {b : Bool}, RpK W G kvs ks → KV kvs va → eqK ls ks = some b → PySem.W.KeqHits A s vb va b := by
  intro kvs ks va b rk ra h
  unfold KV at ra
  induction ra generalizing ks b with
  | nil => cases rk; cases h; exact .nil
  | @cons p q ps qs hpq t ih =>
    obtain ⟨h1, h2⟩ := hpq
    obtain ⟨k, v⟩ := q
    obtain ⟨k0, v0⟩ := p
    have h1' : k0 = k := h1
    subst h1'
    cases rk with
    | cons hr rest =>
      rename_i d ds
      have h' : (match getK ls k0 with
        | none => some false
        | some e => match eqN d e, eqK ls ds with
          | some a, some b => some (a && b)
          | _, _ => none) = some b := h
      have rr := rb.val k0
      rcases rl.get k0 with ⟨w, e, e1, e2, e3⟩ | ⟨e1, e2⟩
      · rw [e1] at rr
        obtain ⟨y, hy, ry⟩ := rr.some_of
        rw [e2] at h'
        dsimp only at h'
        cases ea : eqN d e with
        | none => rw [ea] at h'; cases h'
        | some a =>
          cases eb : eqK ls ds with
          | none => rw [ea, eb] at h'; cases h'
          | some b' =>
            rw [ea, eb] at h'
            cases h'
            exact .hit hy (eqN_at ea hr e3 h2 ry) (ih rest eb)
      · rw [e1] at rr
        rw [e2] at h'
        cases h'
        cases hy : valueAt vb k0 with
        | none => exact .miss hy
        | some y => rw [hy] at rr; exact absurd rr (fun z => z.elim)
section
variable {X : Cx} {c : Nat → Value}
def rDD (neg : Bool) (W : Wd) : R2 := fun x y H Q => ∃ G a b kvs lvs ks ls r, x = .ref a ∧ y = .ref b ∧ L2.Rd H a (.dK kvs) ∧ L2.Rd H b (.dK lvs) ∧ RpK W G kvs ks ∧ RpK W G lvs ls ∧ eqK ls ks = some r ∧ Q (.bl ((ks.length == ls.length && r) != neg)) H
theorem op_eqDD (W : Wd) (hu : X.A.units < cLine) : OpR X (compareOp .Eq) (rDD false W) := by
  intro pins s σ H x y v u Q I rx ry h
  obtain ⟨G, a, b, kvs, lvs, ks, ls, r, rfl, rfl, ea, eb, rk, rl, e, q⟩ := h
  obtain rfl : v = Value.ref a := rx
  obtain rfl : u = Value.ref b := ry
  obtain ⟨_, ya, va, ra, da⟩ := (show ObjOk X.prog X.w H s.heap a (.dK kvs) from ea.ok I.hok)
  obtain ⟨_, yb, vb, rb, db⟩ := (show ObjOk X.prog X.w H s.heap b (.dK lvs) from eb.ok I.hok)
  have h1 : va.length = ks.length := by rw [← ra.length, rk.length]
  have h2 : vb.length = ls.length := by rw [← rb.length, rl.length]
  exact PySem.W.keq_eq (knd := mixKind X.prog X.w) (r := r) ya yb da db hu (fun _ => eqK_hits rl rb rk ra e) (fin_bl I q (by rw [h1, h2]; simp))
theorem op_neDD (W : Wd) (hu : X.A.units < cLine) : OpR X (compareOp .NotEq) (rDD true W) := by
  intro pins s σ H x y v u Q I rx ry h
  obtain ⟨G, a, b, kvs, lvs, ks, ls, r, rfl, rfl, ea, eb, rk, rl, e, q⟩ := h
  obtain rfl : v = Value.ref a := rx
  obtain rfl : u = Value.ref b := ry
  obtain ⟨_, ya, va, ra, da⟩ := (show ObjOk X.prog X.w H s.heap a (.dK kvs) from ea.ok I.hok)
  obtain ⟨_, yb, vb, rb, db⟩ := (show ObjOk X.prog X.w H s.heap b (.dK lvs) from eb.ok I.hok)
  have h1 : va.length = ks.length := by rw [← ra.length, rk.length]
  have h2 : vb.length = ls.length := by rw [← rb.length, rl.length]
  exact PySem.W.keq_ne (knd := mixKind X.prog X.w) (r := r) ya yb da db hu (fun _ => eqK_hits rl rb rk ra e) (fin_bl I q (by rw [h1, h2]; simp))
theorem ddEq_some {neg : Bool} {dx dy d : D} {fr : Bool} (e : ddEq neg dx dy = some (d, fr)) : ∃ ks ls r, dx = .dct ks ∧ dy = .dct ls ∧ eqK ls ks = some r ∧ d = .bl ((ks.length == ls.length && r) != neg) ∧ fr = false := by
  unfold ddEq at e
  split at e
  · rename_i ks ls
    cases h : eqK ls ks with
    | none => rw [h] at e; cases e
    | some r => rw [h] at e; cases e; exact ⟨ks, ls, r, rfl, rfl, h, rfl, rfl⟩
  · cases e
theorem ddEq_ok (hu : X.A.units < cLine) : OpOk X c (compareOp .Eq) (ddEq false) := by
  refine ⟨_, op_eqDD (wd X c) hu, fun G H x y dx dy d fr Q s hx hy e q => ?_⟩
  obtain ⟨ks, ls, r, rfl, rfl, h, rfl, rfl⟩ := ddEq_some e
  obtain ⟨a, vs, rfl, h1, r1⟩ := hx.dct s
  obtain ⟨b, ws, rfl, h2, r2⟩ := hy.dct s
  exact ⟨_, a, b, vs, ws, ks, ls, r, rfl, rfl, h1, h2, r1, r2, h, res_bl s q⟩
theorem ddNe_ok (hu : X.A.units < cLine) : OpOk X c (compareOp .NotEq) (ddEq true) := by
  refine ⟨_, op_neDD (wd X c) hu, fun G H x y dx dy d fr Q s hx hy e q => ?_⟩
  obtain ⟨ks, ls, r, rfl, rfl, h, rfl, rfl⟩ := ddEq_some e
  obtain ⟨a, vs, rfl, h1, r1⟩ := hx.dct s
  obtain ⟨b, ws, rfl, h2, r2⟩ := hy.dct s
  exact ⟨_, a, b, vs, ws, ks, ls, r, rfl, rfl, h1, h2, r1, r2, h, res_bl s q⟩
end
end VS
namespace VS
open PySem PySem.Spec PyProof.Rows L2
/-! ### sorted(xs), xs lists of ints -/
def leLL (a b : List Int) : Bool := !ltL b a
def encL (z : V × List Int) : PyData := toPy (.lst (z.2.map .int))
def rSortLL (K : PySem.W.Frag) : List V → Hp → VK → Prop := fun vs H Q => ∃ (a : Addr) (zs : List (V × List Int)), vs = [.ref a] ∧ SqL K H a (zs.map (·.1)) ∧ (∀ z ∈ zs, Dp K H z.1 (encL z)) ∧
  ∀ (l : Addr), H l = none → Q (.ref l) (upd H l (.lst ((zs.mergeSort fun x y => leLL x.2 y.2).map (·.1))))
theorem depth_ints2 (xs : List Int) : (toPy (.lst (xs.map .int))).depth ≤ 4 := by
  have h : ∀ zs : List Int, PyData.depthAll (toPyA (zs.map .int)) ≤ 1 := by
    intro zs
    induction zs with
    | nil => simp [toPyA, PyData.depthAll]
    | cons z zs ih => simp [toPyA, toPy, PyData.depthAll, PyData.depth] at ih ⊢; try omega
  have := h xs
  simp [toPy, PyData.depth] at this ⊢
  omega
theorem dataLe_ll : W.dataLe false encL = fun x y => leLL x.2 y.2 := by
  funext x y
  rw [W.dataLe_eq]
  show (!W.dataLt (encL y) (encL x)) = _
  unfold encL
  rw [dataLt_ints]; rfl
section
variable {X : Cx} {c : Nat → Value}
theorem cr_sortLL (hu : X.A.units + 64 < cLine) : CallR X (.builtin "sorted") (rSortLL X.K) := by
  intro pins s σ H vs us Q I r h
  obtain ⟨a, zs, rfl, hs, hp, q⟩ := h
  obtain ⟨its, rv, hl, hz⟩ := I.list hs
  rw [Vals.ref1 r]
  have hlen0 : its.length = zs.length := by rw [← rv.length, List.length_map]
  rw [List.length_map] at hz
  have ev : ∀ (zs : List (V × List Int)) (its : List Value), Vals (zs.map (·.1)) its → W.EachIs (fun v b => RelV b.1 v) its zs := by
    intro zs
    induction zs with
    | nil => intro its h; cases h; exact .nil
    | cons z zs ih => intro its h; cases h with | cons h1 h2 => exact .cons h1 (ih _ h2)
  have ve : ∀ (zs : List (V × List Int)) (its : List Value), W.EachIs (fun v b => RelV b.1 v) its zs → Vals (zs.map (·.1)) its := by
    intro zs
    induction zs with
    | nil => intro its h; cases h; exact .nil
    | cons z zs ih => intro its h; cases h with | cons h1 h2 => exact .cons h1 (ih _ h2)
  have er : ∀ (zs : List (V × List Int)) (its : List Value), (∀ z ∈ zs, Dp X.K H z.1 (encL z)) → W.EachIs (fun v b => RelV b.1 v) its zs → W.EachIs (fun v b => ∃ as, Reads s.heap v (encL b) as) its zs := by
    intro zs
    induction zs with
    | nil => intro its _ h; cases h; exact .nil
    | cons z zs ih => intro its hp h; cases h with | cons h1 h2 => exact .cons (Dp.reads I _ _ _ (hp z List.mem_cons_self) h1) (ih _ (fun y hy => hp y (List.mem_cons_of_mem _ hy)) h2)
  have e0 := ev zs its rv
  refine W.sorted_data (enc := encL) (bs := zs) (R := fun v b => RelV b.1 v) hl.isList e0 (er zs its hp e0) (W.AllAlike.of fun b b' => alike_lst b.2 b'.2) (W.Sortable.others fun b => ⟨lst_ne b.2, fun xs => by unfold encL; simp [toPy]⟩) hz (fun b _ => by have := depth_ints2 b.2; unfold encL; omega) fun out h1 h2 => ?_
  rw [dataLe_ll] at h2
  obtain ⟨ep, he'⟩ := PyProof.Rows.sortedAll_at s.heap its out.toArray
  have hlen : ((zs.mergeSort fun x y => leLL x.2 y.2).map (·.1)).length ≤ sizeLine := by
    rw [List.length_map, List.length_mergeSort]; exact hz
  have rv2 := ve _ _ h2
  exact ⟨.ref _, upd H (s.heap.objs.size + 1) (.lst ((zs.mergeSort fun x y => leLL x.2 y.2).map (·.1))), I.laid (t' := s.toks) (fun _ _ => PyProof.Rows.sortedAll_old) (Nat.le_succ _) ⟨hlen, out, ep, rv2, he'⟩, rfl, q _ (I.hok.fresh (Nat.le_succ _))⟩
def ilD : List D → Option (List (List Int))
  | [] => some []
  | .lst xs :: r => (intsD xs).bind fun a => (ilD r).map (a :: ·)
  | _ :: _ => none
theorem ilD_ok {W : Wd} {G : Hp} : ∀ {ds : List D} {vs : List V} {xss : List (List Int)}, RpA W G vs ds → ilD ds = some xss → ∃ zs : List (V × List Int), vs = zs.map (·.1) ∧ xss = zs.map (·.2) ∧ ∀ z ∈ zs, Rp W G z.1 (.lst (z.2.map .int))
  | [], _, _, .nil, e => by cases e; exact ⟨[], rfl, rfl, by simp⟩
  | d :: r, _, _, .cons a t, e => by
    unfold ilD at e
    split at e
    · rename_i h; cases h
    · rename_i xs r' h
      cases h
      obtain ⟨ns, e1, e2⟩ := Option.bind_eq_some_iff.mp e
      obtain ⟨yss, e3, e4⟩ := Option.map_eq_some_iff.mp e2
      subst e4
      obtain ⟨zs, h1, h2, h3⟩ := ilD_ok t e3
      have hx := intsD_eq e1
      subst hx
      exact ⟨(_, ns) :: zs, by rw [h1]; rfl, by rw [h2]; rfl, fun z hz => by
        rcases List.mem_cons.mp hz with rfl | hz
        · exact a
        · exact h3 z hz⟩
    · cases e
theorem rpA_ll {W : Wd} {G : Hp} : ∀ {ys : List (V × List Int)}, (∀ z ∈ ys, Rp W G z.1 (.lst (z.2.map .int))) → RpA W G (ys.map (·.1)) (ys.map fun z => .lst (z.2.map .int))
  | [], _ => .nil
  | y :: ys, h => .cons (h y List.mem_cons_self) (rpA_ll fun z hz => h z (List.mem_cons_of_mem _ hz))
def bSortedLL : OpN
  | [.lst ds] => (ilD ds).map fun xss => (.lst ((xss.mergeSort leLL).map fun xs => .lst (xs.map .int)), true)
  | _ => none
def bSortedB : OpN := fun ds => (bSortedA ds).or (bSortedLL ds)
theorem bSortedB_ok (hc : X.calm = true) (hu : X.A.units + 64 < cLine) : CallOk X c (.builtin "sorted") bSortedB := by
  refine CallOk.or (bSortedA_ok hc) ⟨_, cr_sortLL hu, fun G H vs ds d fr Q s hv e q => ?_⟩
  unfold bSortedLL at e
  split at e
  · rename_i ds'
    obtain ⟨xss, e1, e2⟩ := Option.map_eq_some_iff.mp e
    cases e2
    obtain ⟨v, rfl, h⟩ := vw1 hv
    obtain ⟨a, ws, rfl, h1, r⟩ := h.lst s
    obtain ⟨zs, rfl, rfl, h3⟩ := ilD_ok r e1
    refine ⟨a, zs, rfl, SqL.of h1, fun z hz => (h3 z hz).dp s _ 60 (plain_lst z.2), fun l hl => ?_⟩
    have em : ((zs.map (·.2)).mergeSort leLL).map (fun xs => D.lst (xs.map .int)) = (zs.mergeSort fun x y => leLL x.2 y.2).map fun z => D.lst (z.2.map .int) := by
      rw [← List.map_mergeSort (r := fun x y => leLL x.2 y.2) (fun _ _ _ _ => rfl), List.map_map]; rfl
    rw [em] at q
    exact q _ _ (Res.fresh s hl (.lst (rpA_ll fun z hz => h3 z (List.mem_mergeSort.mp hz))))
  · cases e
end
theorem ilD_map : ∀ X : List (List Int), ilD (X.map fun xs => .lst (xs.map .int)) = some X
  | [] => rfl
  | x :: X => by
    show (intsD (x.map .int)).bind (fun a => (ilD (X.map fun xs => D.lst (xs.map .int))).map (a :: ·)) = _
    rw [intsD_ints, Option.bind_some, ilD_map X]; rfl
theorem y_sortedLL {X : List (List Int)} (h : X.Pairwise fun a b => leLL a b = true) (h0 : X ≠ []) : bSortedB [.lst (X.map fun xs => .lst (xs.map .int))] = some (.lst (X.map fun xs => .lst (xs.map .int)), true) := by
  have e1 : bSortedA [.lst (X.map fun xs => D.lst (xs.map .int))] = none := by
    cases X with
    | nil => exact absurd rfl h0
    | cons x X => rfl
  have e2 : X.mergeSort leLL = X := List.mergeSort_of_pairwise h
  show (bSortedA [.lst (X.map fun xs => D.lst (xs.map .int))]).or ((ilD (X.map fun xs => D.lst (xs.map .int))).map fun xss => (D.lst ((xss.mergeSort leLL).map fun xs => .lst (xs.map .int)), true)) = _
  rw [e1, ilD_map, Option.map_some, e2]; rfl
@[simp] theorem y_sortedBL {xs : List Int} : bSortedB [.lst (xs.map .int)] = some (.lst (dI (isort xs)), true) := by
  show (bSortedA [.lst (xs.map .int)]).or _ = _
  rw [y_sortedAL]; rfl
end VS
namespace Law
open PySem PySem.Spec PyProof.Rows L2 VS
/-! ### readings -/
def e__law_box_1 : VS.Env → Out (RV × VS.Env) := (dCallN bAbs (dCons (dVar 1) dNil))
theorem u_e__law_box_1 (env : VS.Env) : e__law_box_1 env = (dCallN bAbs (dCons (dVar 1) dNil)) env := (rfl)
def B__law_box : VS.Env → Out Fl := (sCons (sRet (dLst (dCons (dLc [1] (dIt itemsL (dSl (dVar 0) none (some (dConst (.int 63))))) (gName' 1) tNoIf e__law_box_1) (dCons (dConst (.int 0)) (dCons (dConst (.int 0)) (dCons (dConst (.int 7)) dNil)))))) sNil)
theorem u_B__law_box (env : VS.Env) : B__law_box env = (sCons (sRet (dLst (dCons (dLc [1] (dIt itemsL (dSl (dVar 0) none (some (dConst (.int 63))))) (gName' 1) tNoIf e__law_box_1) (dCons (dConst (.int 0)) (dCons (dConst (.int 0)) (dCons (dConst (.int 7)) dNil)))))) sNil) env := (rfl)
def F__law_box : Fn := fnOf 1 2 none B__law_box
def B_is_integer : VS.Env → Out Fl := (sCons (sRet (dAndV (dIsi "int" (dVar 0)) (dNotV (dIsi "bool" (dVar 0))))) sNil)
theorem u_B_is_integer (env : VS.Env) : B_is_integer env = (sCons (sRet (dAndV (dIsi "int" (dVar 0)) (dNotV (dIsi "bool" (dVar 0))))) sNil) env := (rfl)
def F_is_integer : Fn := fnOf 1 1 none B_is_integer
def B_is_between : VS.Env → Out Fl := (sCons (sRet (dAndV (dCallF none F_is_integer (dCons (dVar 0) dNil)) (dChain dLe dLe (dVar 1) (dVar 0) (dVar 2)))) sNil)
theorem u_B_is_between (env : VS.Env) : B_is_between env = (sCons (sRet (dAndV (dCallF none F_is_integer (dCons (dVar 0) dNil)) (dChain dLe dLe (dVar 1) (dVar 0) (dVar 2)))) sNil) env := (rfl)
def F_is_between : Fn := fnOf 3 3 none B_is_between
def B_check_size : VS.Env → Out Fl := (sCons (sIf (dNotT (dTru (dCallF none F_is_between (dCons (dVar 0) (dCons (dVar 1) (dCons (dVar 2) dNil)))))) (sCons (sRaise 0 "value" (dVar 0)) sNil) sNil) sNil)
theorem u_B_check_size (env : VS.Env) : B_check_size env = (sCons (sIf (dNotT (dTru (dCallF none F_is_between (dCons (dVar 0) (dCons (dVar 1) (dCons (dVar 2) dNil)))))) (sCons (sRaise 0 "value" (dVar 0)) sNil) sNil) sNil) env := (rfl)
def F_check_size : Fn := fnOf 3 3 none B_check_size
def b_binomial_1 : VS.Env → Out Fl := (sCons (sAsg (dBin dDiv (dBin dMul (dVar 2) (dBin dSub (dVar 0) (dVar 3))) (dBin dAdd (dVar 3) (dConst (.int 1)))) (gName' 2)) sNil)
theorem u_b_binomial_1 (env : VS.Env) : b_binomial_1 env = (sCons (sAsg (dBin dDiv (dBin dMul (dVar 2) (dBin dSub (dVar 0) (dVar 3))) (dBin dAdd (dVar 3) (dConst (.int 1)))) (gName' 2)) sNil) env := (rfl)
def B_binomial : VS.Env → Out Fl := (sCons (sAsg (dConst (.int 1)) (gName' 2)) (sCons (sFor (dRng1 (dVar 1)) (gName' 3) b_binomial_1) (sCons (sRet (dVar 2)) sNil)))
theorem u_B_binomial (env : VS.Env) : B_binomial env = (sCons (sAsg (dConst (.int 1)) (gName' 2)) (sCons (sFor (dRng1 (dVar 1)) (gName' 3) b_binomial_1) (sCons (sRet (dVar 2)) sNil))) env := (rfl)
def F_binomial : Fn := fnOf 2 4 none B_binomial
def e_counts_up_to_1 : VS.Env → Out (RV × VS.Env) := (dBin dMul (dBin dMul (dCallF none F_binomial (dCons (dBin dSub (dVar 4) (dConst (.int 1))) (dCons (dVar 5) dNil))) (dBin dIdx (dVar 1) (dVar 5))) (dBin dIdx (dVar 1) (dBin dSub (dBin dSub (dVar 4) (dConst (.int 1))) (dVar 5))))
theorem u_e_counts_up_to_1 (env : VS.Env) : e_counts_up_to_1 env = (dBin dMul (dBin dMul (dCallF none F_binomial (dCons (dBin dSub (dVar 4) (dConst (.int 1))) (dCons (dVar 5) dNil))) (dBin dIdx (dVar 1) (dVar 5))) (dBin dIdx (dVar 1) (dBin dSub (dBin dSub (dVar 4) (dConst (.int 1))) (dVar 5)))) env := (rfl)
def e_counts_up_to_2 : VS.Env → Out (RV × VS.Env) := (dCallN bSum (dCons (dLc [5] (dRng1 (dVar 4)) (gName' 5) tNoIf e_counts_up_to_1) dNil))
theorem u_e_counts_up_to_2 (env : VS.Env) : e_counts_up_to_2 env = (dCallN bSum (dCons (dLc [5] (dRng1 (dVar 4)) (gName' 5) tNoIf e_counts_up_to_1) dNil)) env := (rfl)
def b_counts_up_to_3 : VS.Env → Out Fl := (sCons (sAsg (dBin dAdd (dLst (dCons (dConst (.int 1)) dNil)) (dLc [4] (dRng2 (dConst (.int 1)) (dBin dAdd (dVar 0) (dConst (.int 1)))) (gName' 4) tNoIf e_counts_up_to_2)) (gName' 1)) (sCons (sExpr (dWrite isLst wAppend 2 (dCons (dBin dIdx (dVar 1) (dVar 0)) dNil))) sNil))
theorem u_b_counts_up_to_3 (env : VS.Env) : b_counts_up_to_3 env = (sCons (sAsg (dBin dAdd (dLst (dCons (dConst (.int 1)) dNil)) (dLc [4] (dRng2 (dConst (.int 1)) (dBin dAdd (dVar 0) (dConst (.int 1)))) (gName' 4) tNoIf e_counts_up_to_2)) (gName' 1)) (sCons (sExpr (dWrite isLst wAppend 2 (dCons (dBin dIdx (dVar 1) (dVar 0)) dNil))) sNil)) env := (rfl)
def B_counts_up_to : VS.Env → Out Fl := (sCons (sAsg (dBin dAdd (dLst (dCons (dConst (.int 1)) dNil)) (dBin dMul (dLst (dCons (dConst (.int 0)) dNil)) (dVar 0))) (gName' 1)) (sCons (sAsg (dLst (dCons (dBin dIdx (dVar 1) (dVar 0)) dNil)) (gName' 2)) (sCons (sFor (dRng1 (dVar 0)) (gName' 3) b_counts_up_to_3) (sCons (sRet (dVar 2)) sNil))))
theorem u_B_counts_up_to (env : VS.Env) : B_counts_up_to env = (sCons (sAsg (dBin dAdd (dLst (dCons (dConst (.int 1)) dNil)) (dBin dMul (dLst (dCons (dConst (.int 0)) dNil)) (dVar 0))) (gName' 1)) (sCons (sAsg (dLst (dCons (dBin dIdx (dVar 1) (dVar 0)) dNil)) (gName' 2)) (sCons (sFor (dRng1 (dVar 0)) (gName' 3) b_counts_up_to_3) (sCons (sRet (dVar 2)) sNil)))) env := (rfl)
def F_counts_up_to : Fn := fnOf 1 6 none B_counts_up_to
def e_height_counts_1 : VS.Env → Out (RV × VS.Env) := (dBin dSub (dVar 4) (dVar 3))
theorem u_e_height_counts_1 (env : VS.Env) : e_height_counts_1 env = (dBin dSub (dVar 4) (dVar 3)) env := (rfl)
def B_height_counts : VS.Env → Out Fl := (sCons (sExpr (dCallF none F_check_size (dCons (dVar 0) (dCons (dConst (.int 0)) (dCons (dConst (.int 30)) dNil))))) (sCons (sAsg (dCallF none F_counts_up_to (dCons (dVar 0) dNil)) (gHeadD (gsCons (gName' 1) (gsCons (gName' 2) gsNil)))) (sCons (sRet (dLst (dCons (dVar 1) (dStar (dLc [3, 4] (dZip (dCons (dLst (dCons (dVar 1) (dStar (dVar 2) dNil))) (dCons (dVar 2) dNil))) (gTupD 2 (gsCons (gName' 3) (gsCons (gName' 4) gsNil))) tNoIf e_height_counts_1) dNil)))) sNil)))
theorem u_B_height_counts (env : VS.Env) : B_height_counts env = (sCons (sExpr (dCallF none F_check_size (dCons (dVar 0) (dCons (dConst (.int 0)) (dCons (dConst (.int 30)) dNil))))) (sCons (sAsg (dCallF none F_counts_up_to (dCons (dVar 0) dNil)) (gHeadD (gsCons (gName' 1) (gsCons (gName' 2) gsNil)))) (sCons (sRet (dLst (dCons (dVar 1) (dStar (dLc [3, 4] (dZip (dCons (dLst (dCons (dVar 1) (dStar (dVar 2) dNil))) (dCons (dVar 2) dNil))) (gTupD 2 (gsCons (gName' 3) (gsCons (gName' 4) gsNil))) tNoIf e_height_counts_1) dNil)))) sNil))) env := (rfl)
def F_height_counts : Fn := fnOf 1 5 none B_height_counts
def B_greatest_total : VS.Env → Out Fl := (sCons (sExpr (dCallF none F_check_size (dCons (dVar 0) (dCons (dConst (.int 0)) (dCons (dConst (.int 40)) dNil))))) (sCons (sRet (dBin dDiv (dBin dMul (dVar 0) (dBin dSub (dVar 0) (dConst (.int 1)))) (dConst (.int 2)))) sNil))
theorem u_B_greatest_total (env : VS.Env) : B_greatest_total env = (sCons (sExpr (dCallF none F_check_size (dCons (dVar 0) (dCons (dConst (.int 0)) (dCons (dConst (.int 40)) dNil))))) (sCons (sRet (dBin dDiv (dBin dMul (dVar 0) (dBin dSub (dVar 0) (dConst (.int 1)))) (dConst (.int 2)))) sNil)) env := (rfl)
def F_greatest_total : Fn := fnOf 1 1 none B_greatest_total
def b_add_shifted_1 : VS.Env → Out Fl := (sCons (sAugL 0 (dBin dAdd (dVar 4) (dVar 1)) (dBin dMul (dVar 2) (dVar 5))) sNil)
theorem u_b_add_shifted_1 (env : VS.Env) : b_add_shifted_1 env = (sCons (sAugL 0 (dBin dAdd (dVar 4) (dVar 1)) (dBin dMul (dVar 2) (dVar 5))) sNil) env := (rfl)
def B_add_shifted : VS.Env → Out Fl := (sCons (sFor (dIt itemsE (dVar 3)) (gTupD 2 (gsCons (gName' 4) (gsCons (gName' 5) gsNil))) b_add_shifted_1) sNil)
theorem u_B_add_shifted (env : VS.Env) : B_add_shifted env = (sCons (sFor (dIt itemsE (dVar 3)) (gTupD 2 (gsCons (gName' 4) (gsCons (gName' 5) gsNil))) b_add_shifted_1) sNil) env := (rfl)
def F_add_shifted : Fn := fnOf 4 6 (some 0) B_add_shifted
def b_product_1 : VS.Env → Out Fl := (sCons (sAugL 2 (dBin dAdd (dVar 3) (dVar 5)) (dBin dMul (dVar 4) (dVar 6))) sNil)
theorem u_b_product_1 (env : VS.Env) : b_product_1 env = (sCons (sAugL 2 (dBin dAdd (dVar 3) (dVar 5)) (dBin dMul (dVar 4) (dVar 6))) sNil) env := (rfl)
def b_product_2 : VS.Env → Out Fl := (sCons (sFor (dIt itemsE (dVar 1)) (gTupD 2 (gsCons (gName' 5) (gsCons (gName' 6) gsNil))) b_product_1) sNil)
theorem u_b_product_2 (env : VS.Env) : b_product_2 env = (sCons (sFor (dIt itemsE (dVar 1)) (gTupD 2 (gsCons (gName' 5) (gsCons (gName' 6) gsNil))) b_product_1) sNil) env := (rfl)
def B_product : VS.Env → Out Fl := (sCons (sAsg (dBin dMul (dLst (dCons (dConst (.int 0)) dNil)) (dBin dSub (dBin dAdd (dCallN bLenA (dCons (dVar 0) dNil)) (dCallN bLenA (dCons (dVar 1) dNil))) (dConst (.int 1)))) (gName' 2)) (sCons (sFor (dIt itemsE (dVar 0)) (gTupD 2 (gsCons (gName' 3) (gsCons (gName' 4) gsNil))) b_product_2) (sCons (sRet (dVar 2)) sNil)))
theorem u_B_product (env : VS.Env) : B_product env = (sCons (sAsg (dBin dMul (dLst (dCons (dConst (.int 0)) dNil)) (dBin dSub (dBin dAdd (dCallN bLenA (dCons (dVar 0) dNil)) (dCallN bLenA (dCons (dVar 1) dNil))) (dConst (.int 1)))) (gName' 2)) (sCons (sFor (dIt itemsE (dVar 0)) (gTupD 2 (gsCons (gName' 3) (gsCons (gName' 4) gsNil))) b_product_2) (sCons (sRet (dVar 2)) sNil))) env := (rfl)
def F_product : Fn := fnOf 2 7 none B_product
def b_total_counts_1 : VS.Env → Out Fl := (sCons (sExpr (dCallF (some 0) F_add_shifted (dCons (dVar 3) (dCons (dBin dSub (dVar 2) (dConst (.int 1))) (dCons (dCallF none F_binomial (dCons (dBin dSub (dVar 2) (dConst (.int 1))) (dCons (dVar 4) dNil))) (dCons (dCallF none F_product (dCons (dBin dIdx (dVar 1) (dVar 4)) (dCons (dBin dIdx (dVar 1) (dBin dSub (dBin dSub (dVar 2) (dConst (.int 1))) (dVar 4))) dNil))) dNil)))))) sNil)
theorem u_b_total_counts_1 (env : VS.Env) : b_total_counts_1 env = (sCons (sExpr (dCallF (some 0) F_add_shifted (dCons (dVar 3) (dCons (dBin dSub (dVar 2) (dConst (.int 1))) (dCons (dCallF none F_binomial (dCons (dBin dSub (dVar 2) (dConst (.int 1))) (dCons (dVar 4) dNil))) (dCons (dCallF none F_product (dCons (dBin dIdx (dVar 1) (dVar 4)) (dCons (dBin dIdx (dVar 1) (dBin dSub (dBin dSub (dVar 2) (dConst (.int 1))) (dVar 4))) dNil))) dNil)))))) sNil) env := (rfl)
def b_total_counts_2 : VS.Env → Out Fl := (sCons (sAsg (dBin dMul (dLst (dCons (dConst (.int 0)) dNil)) (dBin dAdd (dCallF none F_greatest_total (dCons (dVar 2) dNil)) (dConst (.int 1)))) (gName' 3)) (sCons (sFor (dRng1 (dVar 2)) (gName' 4) b_total_counts_1) (sCons (sExpr (dWrite isLst wAppend 1 (dCons (dVar 3) dNil))) sNil)))
theorem u_b_total_counts_2 (env : VS.Env) : b_total_counts_2 env = (sCons (sAsg (dBin dMul (dLst (dCons (dConst (.int 0)) dNil)) (dBin dAdd (dCallF none F_greatest_total (dCons (dVar 2) dNil)) (dConst (.int 1)))) (gName' 3)) (sCons (sFor (dRng1 (dVar 2)) (gName' 4) b_total_counts_1) (sCons (sExpr (dWrite isLst wAppend 1 (dCons (dVar 3) dNil))) sNil))) env := (rfl)
def B_total_counts : VS.Env → Out Fl := (sCons (sExpr (dCallF none F_check_size (dCons (dVar 0) (dCons (dConst (.int 0)) (dCons (dConst (.int 16)) dNil))))) (sCons (sAsg (dLst (dCons (dLst (dCons (dConst (.int 1)) dNil)) dNil)) (gName' 1)) (sCons (sFor (dRng2 (dConst (.int 1)) (dBin dAdd (dVar 0) (dConst (.int 1)))) (gName' 2) b_total_counts_2) (sCons (sRet (dBin dIdx (dVar 1) (dVar 0))) sNil))))
theorem u_B_total_counts (env : VS.Env) : B_total_counts env = (sCons (sExpr (dCallF none F_check_size (dCons (dVar 0) (dCons (dConst (.int 0)) (dCons (dConst (.int 16)) dNil))))) (sCons (sAsg (dLst (dCons (dLst (dCons (dConst (.int 1)) dNil)) dNil)) (gName' 1)) (sCons (sFor (dRng2 (dConst (.int 1)) (dBin dAdd (dVar 0) (dConst (.int 1)))) (gName' 2) b_total_counts_2) (sCons (sRet (dBin dIdx (dVar 1) (dVar 0))) sNil)))) env := (rfl)
def F_total_counts : Fn := fnOf 1 5 none B_total_counts
def b_least_total_1 : VS.Env → Out Fl := (sCons (sAug (iiOp (fun _ _ => true) fun i j => i + j) 4 (dBin dMul (dVar 2) (dCallN bMin (dCons (dVar 1) (dCons (dVar 3) dNil))))) (sCons (sAug (iiOp (fun _ _ => true) fun i j => i - j) 1 (dVar 3)) (sCons (sAug (iiOp (fun _ _ => true) fun i j => i + j) 2 (dConst (.int 1))) (sCons (sAug (iiOp mulOk fun i j => i * j) 3 (dConst (.int 2))) sNil))))
theorem u_b_least_total_1 (env : VS.Env) : b_least_total_1 env = (sCons (sAug (iiOp (fun _ _ => true) fun i j => i + j) 4 (dBin dMul (dVar 2) (dCallN bMin (dCons (dVar 1) (dCons (dVar 3) dNil))))) (sCons (sAug (iiOp (fun _ _ => true) fun i j => i - j) 1 (dVar 3)) (sCons (sAug (iiOp (fun _ _ => true) fun i j => i + j) 2 (dConst (.int 1))) (sCons (sAug (iiOp mulOk fun i j => i * j) 3 (dConst (.int 2))) sNil)))) env := (rfl)
def t_least_total_2 : VS.Env → Out (Bool × VS.Env) := (dTst (dBin dGt (dVar 1) (dConst (.int 0))))
theorem u_t_least_total_2 (env : VS.Env) : t_least_total_2 env = (dTst (dBin dGt (dVar 1) (dConst (.int 0)))) env := (rfl)
def B_least_total : VS.Env → Out Fl := (sCons (sExpr (dCallF none F_check_size (dCons (dVar 0) (dCons (dConst (.int 0)) (dCons (dConst (.int 40)) dNil))))) (sCons (sAsg (dTup (dCons (dVar 0) (dCons (dConst (.int 0)) (dCons (dConst (.int 1)) (dCons (dConst (.int 0)) dNil))))) (gTupD 4 (gsCons (gName' 1) (gsCons (gName' 2) (gsCons (gName' 3) (gsCons (gName' 4) gsNil)))))) (sCons (loopN t_least_total_2 b_least_total_1 6000) (sCons (sRet (dVar 4)) sNil))))
theorem u_B_least_total (env : VS.Env) : B_least_total env = (sCons (sExpr (dCallF none F_check_size (dCons (dVar 0) (dCons (dConst (.int 0)) (dCons (dConst (.int 40)) dNil))))) (sCons (sAsg (dTup (dCons (dVar 0) (dCons (dConst (.int 0)) (dCons (dConst (.int 1)) (dCons (dConst (.int 0)) dNil))))) (gTupD 4 (gsCons (gName' 1) (gsCons (gName' 2) (gsCons (gName' 3) (gsCons (gName' 4) gsNil)))))) (sCons (loopN t_least_total_2 b_least_total_1 6000) (sCons (sRet (dVar 4)) sNil)))) env := (rfl)
def F_least_total : Fn := fnOf 1 5 none B_least_total
def b_factorial_1 : VS.Env → Out Fl := (sCons (sAug (iiOp mulOk fun i j => i * j) 1 (dVar 2)) sNil)
theorem u_b_factorial_1 (env : VS.Env) : b_factorial_1 env = (sCons (sAug (iiOp mulOk fun i j => i * j) 1 (dVar 2)) sNil) env := (rfl)
def B_factorial : VS.Env → Out Fl := (sCons (sAsg (dConst (.int 1)) (gName' 1)) (sCons (sFor (dRng2 (dConst (.int 2)) (dBin dAdd (dVar 0) (dConst (.int 1)))) (gName' 2) b_factorial_1) (sCons (sRet (dVar 1)) sNil)))
theorem u_B_factorial (env : VS.Env) : B_factorial env = (sCons (sAsg (dConst (.int 1)) (gName' 1)) (sCons (sFor (dRng2 (dConst (.int 2)) (dBin dAdd (dVar 0) (dConst (.int 1)))) (gName' 2) b_factorial_1) (sCons (sRet (dVar 1)) sNil))) env := (rfl)
def F_factorial : Fn := fnOf 1 3 none B_factorial
def b_depth_rows_1 : VS.Env → Out Fl := (sCons (sIf (dTst (dBin eqOp (dVar 7) (dVar 5))) (sCons (sAugL 6 (dConst (.int 0)) (dBin dIdx (dVar 1) (dBin dSub (dVar 3) (dConst (.int 1))))) sNil) (sCons (sAsg (dIte (dTst (dBin dGt (dVar 7) (dVar 5))) (dVar 7) (dBin dSub (dBin dSub (dVar 3) (dConst (.int 1))) (dVar 7))) (gName' 8)) (sCons (sAsg (dIte (dTst (dBin dGt (dVar 7) (dVar 5))) (dVar 5) (dBin dSub (dBin dSub (dVar 5) (dVar 7)) (dConst (.int 1)))) (gName' 9)) (sCons (sExpr (dCallF (some 0) F_add_shifted (dCons (dVar 6) (dCons (dConst (.int 1)) (dCons (dBin dDiv (dBin dIdx (dVar 1) (dBin dSub (dVar 3) (dConst (.int 1)))) (dBin dIdx (dVar 1) (dVar 8))) (dCons (dBin dIdx (dBin dIdx (dVar 2) (dVar 8)) (dVar 9)) dNil)))))) sNil)))) sNil)
theorem u_b_depth_rows_1 (env : VS.Env) : b_depth_rows_1 env = (sCons (sIf (dTst (dBin eqOp (dVar 7) (dVar 5))) (sCons (sAugL 6 (dConst (.int 0)) (dBin dIdx (dVar 1) (dBin dSub (dVar 3) (dConst (.int 1))))) sNil) (sCons (sAsg (dIte (dTst (dBin dGt (dVar 7) (dVar 5))) (dVar 7) (dBin dSub (dBin dSub (dVar 3) (dConst (.int 1))) (dVar 7))) (gName' 8)) (sCons (sAsg (dIte (dTst (dBin dGt (dVar 7) (dVar 5))) (dVar 5) (dBin dSub (dBin dSub (dVar 5) (dVar 7)) (dConst (.int 1)))) (gName' 9)) (sCons (sExpr (dCallF (some 0) F_add_shifted (dCons (dVar 6) (dCons (dConst (.int 1)) (dCons (dBin dDiv (dBin dIdx (dVar 1) (dBin dSub (dVar 3) (dConst (.int 1)))) (dBin dIdx (dVar 1) (dVar 8))) (dCons (dBin dIdx (dBin dIdx (dVar 2) (dVar 8)) (dVar 9)) dNil)))))) sNil)))) sNil) env := (rfl)
def b_depth_rows_2 : VS.Env → Out Fl := (sCons (sAsg (dBin dMul (dLst (dCons (dConst (.int 0)) dNil)) (dVar 3)) (gName' 6)) (sCons (sFor (dRng1 (dVar 3)) (gName' 7) b_depth_rows_1) (sCons (sExpr (dWrite isLst wAppend 4 (dCons (dVar 6) dNil))) sNil)))
theorem u_b_depth_rows_2 (env : VS.Env) : b_depth_rows_2 env = (sCons (sAsg (dBin dMul (dLst (dCons (dConst (.int 0)) dNil)) (dVar 3)) (gName' 6)) (sCons (sFor (dRng1 (dVar 3)) (gName' 7) b_depth_rows_1) (sCons (sExpr (dWrite isLst wAppend 4 (dCons (dVar 6) dNil))) sNil))) env := (rfl)
def b_depth_rows_3 : VS.Env → Out Fl := (sCons (sAsg (dLst dNil) (gName' 4)) (sCons (sFor (dRng1 (dVar 3)) (gName' 5) b_depth_rows_2) (sCons (sExpr (dWrite isLst wAppend 2 (dCons (dVar 4) dNil))) sNil)))
theorem u_b_depth_rows_3 (env : VS.Env) : b_depth_rows_3 env = (sCons (sAsg (dLst dNil) (gName' 4)) (sCons (sFor (dRng1 (dVar 3)) (gName' 5) b_depth_rows_2) (sCons (sExpr (dWrite isLst wAppend 2 (dCons (dVar 4) dNil))) sNil))) env := (rfl)
def e_depth_rows_4 : VS.Env → Out (RV × VS.Env) := (dCallF none F_factorial (dCons (dVar 3) dNil))
theorem u_e_depth_rows_4 (env : VS.Env) : e_depth_rows_4 env = (dCallF none F_factorial (dCons (dVar 3) dNil)) env := (rfl)
def B_depth_rows : VS.Env → Out Fl := (sCons (sAsg (dLc [3] (dRng1 (dBin dAdd (dVar 0) (dConst (.int 1)))) (gName' 3) tNoIf e_depth_rows_4) (gName' 1)) (sCons (sAsg (dLst (dCons (dLst dNil) dNil)) (gName' 2)) (sCons (sFor (dRng2 (dConst (.int 1)) (dBin dAdd (dVar 0) (dConst (.int 1)))) (gName' 3) b_depth_rows_3) (sCons (sRet (dVar 2)) sNil))))
theorem u_B_depth_rows (env : VS.Env) : B_depth_rows env = (sCons (sAsg (dLc [3] (dRng1 (dBin dAdd (dVar 0) (dConst (.int 1)))) (gName' 3) tNoIf e_depth_rows_4) (gName' 1)) (sCons (sAsg (dLst (dCons (dLst dNil) dNil)) (gName' 2)) (sCons (sFor (dRng2 (dConst (.int 1)) (dBin dAdd (dVar 0) (dConst (.int 1)))) (gName' 3) b_depth_rows_3) (sCons (sRet (dVar 2)) sNil)))) env := (rfl)
def F_depth_rows : Fn := fnOf 1 10 none B_depth_rows
def B_depth_counts : VS.Env → Out Fl := (sCons (sExpr (dCallF none F_check_size (dCons (dVar 0) (dCons (dConst (.int 1)) (dCons (dConst (.int 30)) dNil))))) (sCons (sIf (dNotT (dTru (dCallF none F_is_between (dCons (dVar 1) (dCons (dConst (.int 0)) (dCons (dBin dSub (dVar 0) (dConst (.int 1))) dNil)))))) (sCons (sRaise 1 "value" (dVar 1)) sNil) sNil) (sCons (sRet (dBin dIdx (dBin dIdx (dCallF none F_depth_rows (dCons (dVar 0) dNil)) (dVar 0)) (dVar 1))) sNil)))
theorem u_B_depth_counts (env : VS.Env) : B_depth_counts env = (sCons (sExpr (dCallF none F_check_size (dCons (dVar 0) (dCons (dConst (.int 1)) (dCons (dConst (.int 30)) dNil))))) (sCons (sIf (dNotT (dTru (dCallF none F_is_between (dCons (dVar 1) (dCons (dConst (.int 0)) (dCons (dBin dSub (dVar 0) (dConst (.int 1))) dNil)))))) (sCons (sRaise 1 "value" (dVar 1)) sNil) sNil) (sCons (sRet (dBin dIdx (dBin dIdx (dCallF none F_depth_rows (dCons (dVar 0) dNil)) (dVar 0)) (dVar 1))) sNil))) env := (rfl)
def F_depth_counts : Fn := fnOf 2 2 none B_depth_counts
def b__law_error_1 : VS.Env → Out Fl := (sCons (sIf (dTst (dBin eqOp (dVar 0) (dConst (.int 0)))) (sCons (sExpr (dCallF none F_height_counts (dCons (dVar 1) dNil))) sNil) (sCons (sIf (dTst (dBin eqOp (dVar 0) (dConst (.int 1)))) (sCons (sExpr (dCallF none F_total_counts (dCons (dVar 1) dNil))) sNil) (sCons (sIf (dTst (dBin eqOp (dVar 0) (dConst (.int 2)))) (sCons (sExpr (dCallF none F_least_total (dCons (dVar 1) dNil))) sNil) (sCons (sIf (dTst (dBin eqOp (dVar 0) (dConst (.int 3)))) (sCons (sExpr (dCallF none F_greatest_total (dCons (dVar 1) dNil))) sNil) (sCons (sExpr (dCallF none F_depth_counts (dCons (dVar 1) (dCons (dVar 2) dNil)))) sNil)) sNil)) sNil)) sNil)) sNil)
theorem u_b__law_error_1 (env : VS.Env) : b__law_error_1 env = (sCons (sIf (dTst (dBin eqOp (dVar 0) (dConst (.int 0)))) (sCons (sExpr (dCallF none F_height_counts (dCons (dVar 1) dNil))) sNil) (sCons (sIf (dTst (dBin eqOp (dVar 0) (dConst (.int 1)))) (sCons (sExpr (dCallF none F_total_counts (dCons (dVar 1) dNil))) sNil) (sCons (sIf (dTst (dBin eqOp (dVar 0) (dConst (.int 2)))) (sCons (sExpr (dCallF none F_least_total (dCons (dVar 1) dNil))) sNil) (sCons (sIf (dTst (dBin eqOp (dVar 0) (dConst (.int 3)))) (sCons (sExpr (dCallF none F_greatest_total (dCons (dVar 1) dNil))) sNil) (sCons (sExpr (dCallF none F_depth_counts (dCons (dVar 1) (dCons (dVar 2) dNil)))) sNil)) sNil)) sNil)) sNil)) sNil) env := (rfl)
def h__law_error_2 : Exc → VS.Env → Out Fl := (hSet 3 (xTup (xCons (fun _ _ => some (.str (PySem.Str.ofString "rank"))) (xCons (xRepr (xFld "value")) (xCons (fun _ _ => some (.bl true)) (fun _ _ => some []))))))
theorem u_h__law_error_2 (x : Exc) (env : VS.Env) : h__law_error_2 x env = (hSet 3 (xTup (xCons (fun _ _ => some (.str (PySem.Str.ofString "rank"))) (xCons (xRepr (xFld "value")) (xCons (fun _ _ => some (.bl true)) (fun _ _ => some [])))))) x env := (rfl)
def h__law_error_3 : Exc → VS.Env → Out Fl := (hSet 3 (xTup (xCons (fun _ _ => some (.str (PySem.Str.ofString "size"))) (xCons (xRepr (xFld "value")) (xCons (fun _ _ => some (.bl true)) (fun _ _ => some []))))))
theorem u_h__law_error_3 (x : Exc) (env : VS.Env) : h__law_error_3 x env = (hSet 3 (xTup (xCons (fun _ _ => some (.str (PySem.Str.ofString "size"))) (xCons (xRepr (xFld "value")) (xCons (fun _ _ => some (.bl true)) (fun _ _ => some [])))))) x env := (rfl)
def B__law_error : VS.Env → Out Fl := (sCons (sAsg (dConst (.str (PySem.Str.ofString "none"))) (gName' 3)) (sCons (sTryM (⟨0, some 4, h__law_error_3⟩ :: (⟨1, some 4, h__law_error_2⟩ :: [])) b__law_error_1) (sCons (sRet (dVar 3)) sNil)))
theorem u_B__law_error (env : VS.Env) : B__law_error env = (sCons (sAsg (dConst (.str (PySem.Str.ofString "none"))) (gName' 3)) (sCons (sTryM (⟨0, some 4, h__law_error_3⟩ :: (⟨1, some 4, h__law_error_2⟩ :: [])) b__law_error_1) (sCons (sRet (dVar 3)) sNil))) env := (rfl)
def F__law_error : Fn := fnOf 3 5 none B__law_error
def B__law_draw : VS.Env → Out Fl := (sCons (sIf (dAndT (dTst (dBin eqOp (dBin dIdx (dVar 0) (dConst (.int 2))) (dConst (.int 0)))) (dTst (dBin dLt (dBin dIdx (dVar 0) (dConst (.int 1))) (dCallN bLenA (dCons (dBin dIdx (dVar 0) (dConst (.int 0))) dNil))))) (sCons (sAsg (dBin dIdx (dBin dIdx (dVar 0) (dConst (.int 0))) (dBin dIdx (dVar 0) (dConst (.int 1)))) (gName' 2)) (sCons (sAsg (dBin dAdd (dBin dIdx (dVar 0) (dConst (.int 1))) (dConst (.int 1))) (dgSub wSet 0 (dConst (.int 1)))) (sCons (sIf (dTst (dBin dGe (dVar 2) (dBin dPow (dConst (.int 10)) (dConst (.int 18))))) (sCons (sAsg (dVar 2) (dgSub wSet 0 (dConst (.int 2)))) sNil) (sCons (sAsg (dBin dMod (dBin dAdd (dBin dMul (dBin dIdx (dVar 0) (dConst (.int 3))) (dConst (.int 48271))) (dVar 2)) (dConst (.int 2147483647))) (dgSub wSet 0 (dConst (.int 3)))) sNil)) sNil))) sNil) (sCons (sIf (dTst (dBin dGt (dBin dIdx (dVar 0) (dConst (.int 2))) (dConst (.int 0)))) (sCons (sAsg (dBin dMod (dBin dIdx (dVar 0) (dConst (.int 2))) (dVar 1)) (gName' 3)) (sCons (sAsg (dBin dDiv (dBin dIdx (dVar 0) (dConst (.int 2))) (dVar 1)) (dgSub wSet 0 (dConst (.int 2)))) (sCons (sRet (dVar 3)) sNil))) sNil) (sCons (sAsg (dBin dMod (dBin dAdd (dBin dMul (dBin dIdx (dVar 0) (dConst (.int 3))) (dConst (.int 48271))) (dConst (.int 11))) (dConst (.int 2147483647))) (dgSub wSet 0 (dConst (.int 3)))) (sCons (sRet (dBin dMod (dBin dMod (dBin dMul (dBin dIdx (dVar 0) (dConst (.int 3))) (dConst (.int 69621))) (dConst (.int 2147483647))) (dVar 1))) sNil))))
theorem u_B__law_draw (env : VS.Env) : B__law_draw env = (sCons (sIf (dAndT (dTst (dBin eqOp (dBin dIdx (dVar 0) (dConst (.int 2))) (dConst (.int 0)))) (dTst (dBin dLt (dBin dIdx (dVar 0) (dConst (.int 1))) (dCallN bLenA (dCons (dBin dIdx (dVar 0) (dConst (.int 0))) dNil))))) (sCons (sAsg (dBin dIdx (dBin dIdx (dVar 0) (dConst (.int 0))) (dBin dIdx (dVar 0) (dConst (.int 1)))) (gName' 2)) (sCons (sAsg (dBin dAdd (dBin dIdx (dVar 0) (dConst (.int 1))) (dConst (.int 1))) (dgSub wSet 0 (dConst (.int 1)))) (sCons (sIf (dTst (dBin dGe (dVar 2) (dBin dPow (dConst (.int 10)) (dConst (.int 18))))) (sCons (sAsg (dVar 2) (dgSub wSet 0 (dConst (.int 2)))) sNil) (sCons (sAsg (dBin dMod (dBin dAdd (dBin dMul (dBin dIdx (dVar 0) (dConst (.int 3))) (dConst (.int 48271))) (dVar 2)) (dConst (.int 2147483647))) (dgSub wSet 0 (dConst (.int 3)))) sNil)) sNil))) sNil) (sCons (sIf (dTst (dBin dGt (dBin dIdx (dVar 0) (dConst (.int 2))) (dConst (.int 0)))) (sCons (sAsg (dBin dMod (dBin dIdx (dVar 0) (dConst (.int 2))) (dVar 1)) (gName' 3)) (sCons (sAsg (dBin dDiv (dBin dIdx (dVar 0) (dConst (.int 2))) (dVar 1)) (dgSub wSet 0 (dConst (.int 2)))) (sCons (sRet (dVar 3)) sNil))) sNil) (sCons (sAsg (dBin dMod (dBin dAdd (dBin dMul (dBin dIdx (dVar 0) (dConst (.int 3))) (dConst (.int 48271))) (dConst (.int 11))) (dConst (.int 2147483647))) (dgSub wSet 0 (dConst (.int 3)))) (sCons (sRet (dBin dMod (dBin dMod (dBin dMul (dBin dIdx (dVar 0) (dConst (.int 3))) (dConst (.int 69621))) (dConst (.int 2147483647))) (dVar 1))) sNil)))) env := (rfl)
def F__law_draw : Fn := fnOf 2 4 (some 0) B__law_draw
def b_law_1 : VS.Env → Out Fl := (sCons (sIf (dTst (dBin neOp (dCallF none F__law_error (dCons (dVar 3) (dCons (dBin dIdx (dVar 2) (dVar 3)) (dCons (dConst (.int 0)) dNil)))) (dConst (.str (PySem.Str.ofString "none"))))) (sCons (sRet (dConst (.bl false))) sNil) sNil) sNil)
theorem u_b_law_1 (env : VS.Env) : b_law_1 env = (sCons (sIf (dTst (dBin neOp (dCallF none F__law_error (dCons (dVar 3) (dCons (dBin dIdx (dVar 2) (dVar 3)) (dCons (dConst (.int 0)) dNil)))) (dConst (.str (PySem.Str.ofString "none"))))) (sCons (sRet (dConst (.bl false))) sNil) sNil) sNil) env := (rfl)
def b_law_2 : VS.Env → Out Fl := (sCons (sIf (dTst (dBin neOp (dCallF none F__law_error (dCons (dConst (.int 4)) (dCons (dVar 5) (dCons (dVar 6) dNil)))) (dConst (.str (PySem.Str.ofString "none"))))) (sCons (sRet (dConst (.bl false))) sNil) sNil) sNil)
theorem u_b_law_2 (env : VS.Env) : b_law_2 env = (sCons (sIf (dTst (dBin neOp (dCallF none F__law_error (dCons (dConst (.int 4)) (dCons (dVar 5) (dCons (dVar 6) dNil)))) (dConst (.str (PySem.Str.ofString "none"))))) (sCons (sRet (dConst (.bl false))) sNil) sNil) sNil) env := (rfl)
def b_law_3 : VS.Env → Out Fl := (sCons (sIf (dTst (dBin neOp (dCallF none F__law_error (dCons (dConst (.int 4)) (dCons (dVar 5) (dCons (dVar 6) dNil)))) (dTup (dCons (dConst (.str (PySem.Str.ofString "rank"))) (dCons (dCallN bRepr (dCons (dVar 6) dNil)) (dCons (dConst (.bl true)) dNil)))))) (sCons (sRet (dConst (.bl false))) sNil) sNil) sNil)
theorem u_b_law_3 (env : VS.Env) : b_law_3 env = (sCons (sIf (dTst (dBin neOp (dCallF none F__law_error (dCons (dConst (.int 4)) (dCons (dVar 5) (dCons (dVar 6) dNil)))) (dTup (dCons (dConst (.str (PySem.Str.ofString "rank"))) (dCons (dCallN bRepr (dCons (dVar 6) dNil)) (dCons (dConst (.bl true)) dNil)))))) (sCons (sRet (dConst (.bl false))) sNil) sNil) sNil) env := (rfl)
def b_law_4 : VS.Env → Out Fl := (sCons (sIf (dTst (dBin neOp (dCallF none F__law_error (dCons (dVar 3) (dCons (dVar 5) (dCons (dConst .non) dNil)))) (dTup (dCons (dConst (.str (PySem.Str.ofString "size"))) (dCons (dCallN bRepr (dCons (dVar 5) dNil)) (dCons (dConst (.bl true)) dNil)))))) (sCons (sRet (dConst (.bl false))) sNil) sNil) sNil)
theorem u_b_law_4 (env : VS.Env) : b_law_4 env = (sCons (sIf (dTst (dBin neOp (dCallF none F__law_error (dCons (dVar 3) (dCons (dVar 5) (dCons (dConst .non) dNil)))) (dTup (dCons (dConst (.str (PySem.Str.ofString "size"))) (dCons (dCallN bRepr (dCons (dVar 5) dNil)) (dCons (dConst (.bl true)) dNil)))))) (sCons (sRet (dConst (.bl false))) sNil) sNil) sNil) env := (rfl)
def b_law_5 : VS.Env → Out Fl := (sCons (sAsg (dLst (dCons (dBin dAdd (dBin dIdx (dVar 2) (dVar 3)) (dConst (.int 1))) (dCons (dBin dSub (dConst (.int 0)) (dConst (.int 1))) (dCons (dConst (.bl true)) (dCons (dConst (.bl false)) (dCons (dConst .non) (dCons (dConst (.str (PySem.Str.ofString "3"))) (dCons (dTup (dCons (dConst (.int 3)) dNil)) (dCons (dLst (dCons (dConst (.int 3)) dNil)) (dCons (dBin dPow (dConst (.int 10)) (dConst (.int 20))) (dCons (dBin dSub (dConst (.int 0)) (dBin dPow (dConst (.int 10)) (dConst (.int 20)))) dNil))))))))))) (gName' 4)) (sCons (sIf (dTst (dBin eqOp (dVar 3) (dConst (.int 4)))) (sCons (sExpr (dWrite isLst wAppend 4 (dCons (dConst (.int 0)) dNil))) sNil) sNil) (sCons (sFor (dIt itemsL (dVar 4)) (gName' 5) b_law_4) (sCons (sAsg (dBin dAdd (dConst (.int 1)) (dCallF (some 0) F__law_draw (dCons (dVar 1) (dCons (dConst (.int 8)) dNil)))) (gName' 5)) (sCons (sIf (dTst (dBin neOp (dCallF none F__law_error (dCons (dVar 3) (dCons (dVar 5) (dCons (dConst (.int 0)) dNil)))) (dConst (.str (PySem.Str.ofString "none"))))) (sCons (sRet (dConst (.bl false))) sNil) sNil) (sCons (sIf (dAndT (dTst (dBin dLt (dVar 3) (dConst (.int 4)))) (dTst (dBin neOp (dCallF none F__law_error (dCons (dVar 3) (dCons (dConst (.int 0)) (dCons (dConst (.int 0)) dNil)))) (dConst (.str (PySem.Str.ofString "none")))))) (sCons (sRet (dConst (.bl false))) sNil) sNil) sNil))))))
theorem u_b_law_5 (env : VS.Env) : b_law_5 env = (sCons (sAsg (dLst (dCons (dBin dAdd (dBin dIdx (dVar 2) (dVar 3)) (dConst (.int 1))) (dCons (dBin dSub (dConst (.int 0)) (dConst (.int 1))) (dCons (dConst (.bl true)) (dCons (dConst (.bl false)) (dCons (dConst .non) (dCons (dConst (.str (PySem.Str.ofString "3"))) (dCons (dTup (dCons (dConst (.int 3)) dNil)) (dCons (dLst (dCons (dConst (.int 3)) dNil)) (dCons (dBin dPow (dConst (.int 10)) (dConst (.int 20))) (dCons (dBin dSub (dConst (.int 0)) (dBin dPow (dConst (.int 10)) (dConst (.int 20)))) dNil))))))))))) (gName' 4)) (sCons (sIf (dTst (dBin eqOp (dVar 3) (dConst (.int 4)))) (sCons (sExpr (dWrite isLst wAppend 4 (dCons (dConst (.int 0)) dNil))) sNil) sNil) (sCons (sFor (dIt itemsL (dVar 4)) (gName' 5) b_law_4) (sCons (sAsg (dBin dAdd (dConst (.int 1)) (dCallF (some 0) F__law_draw (dCons (dVar 1) (dCons (dConst (.int 8)) dNil)))) (gName' 5)) (sCons (sIf (dTst (dBin neOp (dCallF none F__law_error (dCons (dVar 3) (dCons (dVar 5) (dCons (dConst (.int 0)) dNil)))) (dConst (.str (PySem.Str.ofString "none"))))) (sCons (sRet (dConst (.bl false))) sNil) sNil) (sCons (sIf (dAndT (dTst (dBin dLt (dVar 3) (dConst (.int 4)))) (dTst (dBin neOp (dCallF none F__law_error (dCons (dVar 3) (dCons (dConst (.int 0)) (dCons (dConst (.int 0)) dNil)))) (dConst (.str (PySem.Str.ofString "none")))))) (sCons (sRet (dConst (.bl false))) sNil) sNil) sNil)))))) env := (rfl)
def B_law : VS.Env → Out Fl := (sCons (sAsg (dCallF none F__law_box (dCons (dVar 0) dNil)) (gName' 1)) (sCons (sAsg (dLst (dCons (dConst (.int 30)) (dCons (dConst (.int 16)) (dCons (dConst (.int 40)) (dCons (dConst (.int 40)) (dCons (dConst (.int 30)) dNil)))))) (gName' 2)) (sCons (sFor (dRng1 (dConst (.int 5))) (gName' 3) b_law_5) (sCons (sAsg (dBin dAdd (dConst (.int 1)) (dCallF (some 0) F__law_draw (dCons (dVar 1) (dCons (dConst (.int 8)) dNil)))) (gName' 5)) (sCons (sFor (dIt itemsL (dLst (dCons (dVar 5) (dCons (dBin dSub (dConst (.int 0)) (dConst (.int 1))) (dCons (dConst (.bl true)) (dCons (dConst (.bl false)) (dCons (dConst .non) (dCons (dConst (.str (PySem.Str.ofString "0"))) (dCons (dTup (dCons (dConst (.int 0)) dNil)) (dCons (dLst (dCons (dConst (.int 0)) dNil)) (dCons (dBin dPow (dConst (.int 10)) (dConst (.int 20))) dNil))))))))))) (gName' 6) b_law_3) (sCons (sFor (dRng1 (dVar 5)) (gName' 6) b_law_2) (sCons (sIf (dTst (dBin eqOp (dCallF (some 0) F__law_draw (dCons (dVar 1) (dCons (dConst (.int 4)) dNil))) (dConst (.int 0)))) (sCons (sFor (dRng1 (dConst (.int 4))) (gName' 3) b_law_1) (sCons (sRet (dBin eqOp (dCallF none F__law_error (dCons (dConst (.int 4)) (dCons (dConst (.int 30)) (dCons (dConst (.int 29)) dNil)))) (dConst (.str (PySem.Str.ofString "none"))))) sNil)) sNil) (sCons (sRet (dConst (.bl true))) sNil))))))))
theorem u_B_law (env : VS.Env) : B_law env = (sCons (sAsg (dCallF none F__law_box (dCons (dVar 0) dNil)) (gName' 1)) (sCons (sAsg (dLst (dCons (dConst (.int 30)) (dCons (dConst (.int 16)) (dCons (dConst (.int 40)) (dCons (dConst (.int 40)) (dCons (dConst (.int 30)) dNil)))))) (gName' 2)) (sCons (sFor (dRng1 (dConst (.int 5))) (gName' 3) b_law_5) (sCons (sAsg (dBin dAdd (dConst (.int 1)) (dCallF (some 0) F__law_draw (dCons (dVar 1) (dCons (dConst (.int 8)) dNil)))) (gName' 5)) (sCons (sFor (dIt itemsL (dLst (dCons (dVar 5) (dCons (dBin dSub (dConst (.int 0)) (dConst (.int 1))) (dCons (dConst (.bl true)) (dCons (dConst (.bl false)) (dCons (dConst .non) (dCons (dConst (.str (PySem.Str.ofString "0"))) (dCons (dTup (dCons (dConst (.int 0)) dNil)) (dCons (dLst (dCons (dConst (.int 0)) dNil)) (dCons (dBin dPow (dConst (.int 10)) (dConst (.int 20))) dNil))))))))))) (gName' 6) b_law_3) (sCons (sFor (dRng1 (dVar 5)) (gName' 6) b_law_2) (sCons (sIf (dTst (dBin eqOp (dCallF (some 0) F__law_draw (dCons (dVar 1) (dCons (dConst (.int 4)) dNil))) (dConst (.int 0)))) (sCons (sFor (dRng1 (dConst (.int 4))) (gName' 3) b_law_1) (sCons (sRet (dBin eqOp (dCallF none F__law_error (dCons (dConst (.int 4)) (dCons (dConst (.int 30)) (dCons (dConst (.int 29)) dNil)))) (dConst (.str (PySem.Str.ofString "none"))))) sNil)) sNil) (sCons (sRet (dConst (.bl true))) sNil)))))))) env := (rfl)
def F_law : Fn := fnOf 1 7 none B_law
/-! ### the walk -/
def top (i : Nat) : Stmt := PySem.Challenge.pw_insertionorders_k71_sizes_and_ranks_chec.main.body.getD i (.Pass ⟨0, 0, 0, 0⟩)
abbrev FnP (K : PySem.W.Frag) (x : Str) (st : Stmt) (f : Addr) (fd : FuncData) : Prop := FunD K x x (defArgs st) (defBody st) (defScope st) [] [] f fd
structure Gs (mg : Str → Option Value) : Prop where
  abs_ : mg "abs" = none
  isinstance_ : mg "isinstance" = none
  bool_ : mg "bool" = none
  int_ : mg "int" = none
  range_ : mg "range" = none
  sum_ : mg "sum" = none
  zip_ : mg "zip" = none
  enumerate_ : mg "enumerate" = none
  len_ : mg "len" = none
  min_ : mg "min" = none
  repr_ : mg "repr" = none
  MAX_SIZE_ : ∃ t, mg "MAX_SIZE" = some (.int 30 t)
  MAX_KEYS_ : ∃ t, mg "MAX_KEYS" = some (.int 40 t)
  MAX_TOTALS_SIZE_ : ∃ t, mg "MAX_TOTALS_SIZE" = some (.int 16 t)
section
variable {P : Program} {w : World} {K : PySem.W.Frag} {mg : Str → Option Value} {c : Nat → Value}
abbrev sti_InvalidSize : Stmt := inClass (top 3) 0
theorem sci_InvalidSize : FnScope ["self", "value"] ["self", "value"] (defScope sti_InvalidSize) := ⟨rfl, rfl, rfl, by decide +kernel, rfl, by decide +kernel, by decide +kernel⟩
theorem fni_InvalidSize {base : Heap} {fd : FuncData} {C CB fI : Addr} (E : ExK K C CB fI "value") (hB : mg "InsertionError" = some (.ref CB)) (Fd : FunD K "__init__" "InvalidSize.__init__" (defArgs sti_InvalidSize) (defBody sti_InvalidSize) (defScope sti_InvalidSize) [] [] fI fd) : FnOk P w K mg base CX0 1 fI fd ["self", "value"] (spI C "value") :=
  FunD.ok Fd sci_InvalidSize spI_len (fun cdv A outer s H vs Q X hr hsp => ⟨_, pss_cons (ps_expr (pe_cinit rfl hB E.rd E.vV (pa_cons (pv 0 rfl (.inl rfl) rfl rfl) (pa_cons pe_str pa_nil)))) (pss_cons (ps_ost (pv 0 rfl (.inl rfl) rfl rfl) (pv 1 rfl (.inl rfl) rfl rfl)) pss_nil), spI_read E rfl hsp⟩)
theorem exp_InvalidSize {fd : FuncData} {C CB fI : Addr} (E : ExK K C CB fI "value") (hC : mg "InvalidSize" = some (.ref C)) (hB : mg "InsertionError" = some (.ref CB)) (Fd : FunD K "__init__" "InvalidSize.__init__" (defArgs sti_InvalidSize) (defBody sti_InvalidSize) (defScope sti_InvalidSize) [] [] fI fd) (hc : c 0 = .ref C) (hk : PySem.W.kitOne K (.ref C) (.ref CB) = some true) : ExP P w K mg c "InvalidSize" "value" "value" "InsertionError" 0 :=
  ⟨C, CB, fI, fd, E, fun _ => fni_InvalidSize E hB Fd, Fd.bindsN fun _ _ _ _ _ _ us hl => match us, hl with | [_, _], _ => rfl, hC, hc, hB, hk⟩
abbrev sti_InvalidNumber : Stmt := inClass (top 2) 0
theorem sci_InvalidNumber : FnScope ["self", "value"] ["self", "value"] (defScope sti_InvalidNumber) := ⟨rfl, rfl, rfl, by decide +kernel, rfl, by decide +kernel, by decide +kernel⟩
theorem fni_InvalidNumber {base : Heap} {fd : FuncData} {C CB fI : Addr} (E : ExK K C CB fI "value") (hB : mg "InsertionError" = some (.ref CB)) (Fd : FunD K "__init__" "InvalidNumber.__init__" (defArgs sti_InvalidNumber) (defBody sti_InvalidNumber) (defScope sti_InvalidNumber) [] [] fI fd) : FnOk P w K mg base CX0 1 fI fd ["self", "value"] (spI C "value") :=
  FunD.ok Fd sci_InvalidNumber spI_len (fun cdv A outer s H vs Q X hr hsp => ⟨_, pss_cons (ps_expr (pe_cinit rfl hB E.rd E.vV (pa_cons (pv 0 rfl (.inl rfl) rfl rfl) (pa_cons pe_str pa_nil)))) (pss_cons (ps_ost (pv 0 rfl (.inl rfl) rfl rfl) (pv 1 rfl (.inl rfl) rfl rfl)) pss_nil), spI_read E rfl hsp⟩)
theorem exp_InvalidNumber {fd : FuncData} {C CB fI : Addr} (E : ExK K C CB fI "value") (hC : mg "InvalidNumber" = some (.ref C)) (hB : mg "InsertionError" = some (.ref CB)) (Fd : FunD K "__init__" "InvalidNumber.__init__" (defArgs sti_InvalidNumber) (defBody sti_InvalidNumber) (defScope sti_InvalidNumber) [] [] fI fd) (hc : c 1 = .ref C) (hk : PySem.W.kitOne K (.ref C) (.ref CB) = some true) : ExP P w K mg c "InvalidNumber" "value" "value" "InsertionError" 1 :=
  ⟨C, CB, fI, fd, E, fun _ => fni_InvalidNumber E hB Fd, Fd.bindsN fun _ _ _ _ _ _ us hl => match us, hl with | [_, _], _ => rfl, hC, hc, hB, hk⟩
abbrev st__law_box : Stmt := top 24
theorem sc__law_box : FnScope ["_law_script", "_law_cell"] ["_law_script"] (defScope st__law_box) := ⟨rfl, rfl, rfl, by decide +kernel, rfl, by decide +kernel, by decide +kernel⟩
theorem fng__law_box {base : Heap} {fd : FuncData} {fa : Addr} (gs : Gs mg) (Fd : FnP K "_law_box" st__law_box fa fd) : FnG P w K mg base 1 fa fd ["_law_script"] (spOf ⟨P, w, K, c⟩ none F__law_box) := by
  refine fnG_vs (N := ["_law_script", "_law_cell"]) Fd sc__law_box rfl rfl rfl (fun cdv A outer s H E hr hg => ?_)
  have g := good_cx (P := P) (w := w) (K := K) (mg := mg) (base := base) (outer := outer) (s := s) (H := H) (E := E) sc__law_box.nd hr hg
  exact (dss_cons (ds_ret (de_lst (q_cons (de_lc g.calm g.nd (di_list (de_slice (de_var (i := 0) rfl (.inl rfl) rfl rfl) do_none (do_some q_int))) (blkOk_by (N := ["_law_script", "_law_cell"]) (sc := defScope st__law_box) (own := [("_law_cell", 1)]) (by decide +kernel)) (blk_of g (fun s H C cl fp g => (dg_name (i := 1) g.nd rfl (by first | exact .inl rfl | exact .inr rfl)))) (blk_of g (fun s H C cl fp g => difs_nil)) (blk_of g (fun s H C cl fp g => (q_callB bAbs_ok gs.abs_ (q_cons (de_var (i := 1) rfl (by first | exact .inl rfl | exact .inr (.inl rfl)) rfl rfl) da_nil)))) (by decide)) (q_cons q_int (q_cons q_int (q_cons q_int da_nil)))))) dss_nil)
theorem cal__law_box {base : Heap} {fd : FuncData} {fa : Addr} (gs : Gs mg) (Fd : FnP K "_law_box" st__law_box fa fd) (hm : mg "_law_box" = some (.ref fa)) : Cal P w K mg base c 1 "_law_box" none F__law_box :=
  ⟨_, _, _, fng__law_box gs Fd, hm, Fd.kp, Fd.bindsN fun _ _ _ _ _ _ us hl => match us, hl with | [_], _ => rfl⟩
abbrev st_is_integer : Stmt := top 6
theorem sc_is_integer : FnScope ["candidate"] ["candidate"] (defScope st_is_integer) := ⟨rfl, rfl, rfl, by decide +kernel, rfl, by decide +kernel, by decide +kernel⟩
theorem fng_is_integer {base : Heap} {fd : FuncData} {fa : Addr} (gs : Gs mg) (Fd : FnP K "is_integer" st_is_integer fa fd) : FnG P w K mg base 1 fa fd ["candidate"] (spOf ⟨P, w, K, c⟩ none F_is_integer) := by
  refine fnG_vs (N := ["candidate"]) Fd sc_is_integer rfl rfl rfl (fun cdv A outer s H E hr hg => ?_)
  have g := good_cx (P := P) (w := w) (K := K) (mg := mg) (base := base) (outer := outer) (s := s) (H := H) (E := E) sc_is_integer.nd hr hg
  exact (dss_cons (ds_ret (de_and (q_isi gs.isinstance_ gs.int_ (de_var (i := 0) rfl (.inl rfl) rfl rfl)) (de_one (de_not (q_isi gs.isinstance_ gs.bool_ (de_var (i := 0) rfl (.inl rfl) rfl rfl)))))) dss_nil)
theorem cal_is_integer {base : Heap} {fd : FuncData} {fa : Addr} (gs : Gs mg) (Fd : FnP K "is_integer" st_is_integer fa fd) (hm : mg "is_integer" = some (.ref fa)) : Cal P w K mg base c 1 "is_integer" none F_is_integer :=
  ⟨_, _, _, fng_is_integer gs Fd, hm, Fd.kp, Fd.bindsN fun _ _ _ _ _ _ us hl => match us, hl with | [_], _ => rfl⟩
abbrev st_is_between : Stmt := top 7
theorem sc_is_between : FnScope ["candidate", "low", "high"] ["candidate", "low", "high"] (defScope st_is_between) := ⟨rfl, rfl, rfl, by decide +kernel, rfl, by decide +kernel, by decide +kernel⟩
theorem fng_is_between {base : Heap} {fd : FuncData} {fa : Addr} (gs : Gs mg) (Fd : FnP K "is_between" st_is_between fa fd) (C_is_integer : Cal P w K mg base c 1 "is_integer" none F_is_integer) : FnG P w K mg base 2 fa fd ["candidate", "low", "high"] (spOf ⟨P, w, K, c⟩ none F_is_between) := by
  refine fnG_vs (N := ["candidate", "low", "high"]) Fd sc_is_between rfl rfl rfl (fun cdv A outer s H E hr hg => ?_)
  have g := good_cx (P := P) (w := w) (K := K) (mg := mg) (base := base) (outer := outer) (s := s) (H := H) (E := E) sc_is_between.nd hr hg
  exact (dss_cons (ds_ret (de_and (de_call C_is_integer (g.room.mono (by decide)) g.gd rfl g.tk (q_cons (de_var (i := 0) rfl (.inl rfl) rfl rfl) da_nil)) (de_one (de_chain dLe_ok dLe_ok (de_var (i := 1) rfl (.inl rfl) rfl rfl) (de_var (i := 0) rfl (.inl rfl) rfl rfl) (de_var (i := 2) rfl (.inl rfl) rfl rfl) rfl)))) dss_nil)
theorem cal_is_between {base : Heap} {fd : FuncData} {fa : Addr} (gs : Gs mg) (Fd : FnP K "is_between" st_is_between fa fd) (hm : mg "is_between" = some (.ref fa)) (C_is_integer : Cal P w K mg base c 1 "is_integer" none F_is_integer) : Cal P w K mg base c 2 "is_between" none F_is_between :=
  ⟨_, _, _, fng_is_between gs Fd C_is_integer, hm, Fd.kp, Fd.bindsN fun _ _ _ _ _ _ us hl => match us, hl with | [_, _, _], _ => rfl⟩
abbrev st_check_size : Stmt := top 13
theorem sc_check_size : FnScope ["size", "least", "greatest"] ["size", "least", "greatest"] (defScope st_check_size) := ⟨rfl, rfl, rfl, by decide +kernel, rfl, by decide +kernel, by decide +kernel⟩
theorem fng_check_size {base : Heap} {fd : FuncData} {fa : Addr} (gs : Gs mg) (Fd : FnP K "check_size" st_check_size fa fd) (C_is_between : Cal P w K mg base c 2 "is_between" none F_is_between) (X_InvalidSize : ExP P w K mg c "InvalidSize" "value" "value" "InsertionError" 0) : FnG P w K mg base 3 fa fd ["size", "least", "greatest"] (spOf ⟨P, w, K, c⟩ none F_check_size) := by
  refine fnG_vs (N := ["size", "least", "greatest"]) Fd sc_check_size rfl rfl rfl (fun cdv A outer s H E hr hg => ?_)
  have g := good_cx (P := P) (w := w) (K := K) (mg := mg) (base := base) (outer := outer) (s := s) (H := H) (E := E) sc_check_size.nd hr hg
  exact (dss_cons (ds_if (dt_not (dt_truth (de_call C_is_between (g.room.mono (by decide)) g.gd rfl g.tk (q_cons (de_var (i := 0) rfl (.inl rfl) rfl rfl) (q_cons (de_var (i := 1) rfl (.inl rfl) rfl rfl) (q_cons (de_var (i := 2) rfl (.inl rfl) rfl rfl) da_nil)))) (fun _ => rfl))) (dss_cons (ds_raise2 X_InvalidSize (g.room.mono (by decide)) g.calm g.tk rfl (de_var (i := 0) rfl (.inl rfl) rfl rfl)) dss_nil) dss_nil) dss_nil)
theorem cal_check_size {base : Heap} {fd : FuncData} {fa : Addr} (gs : Gs mg) (Fd : FnP K "check_size" st_check_size fa fd) (hm : mg "check_size" = some (.ref fa)) (C_is_between : Cal P w K mg base c 2 "is_between" none F_is_between) (X_InvalidSize : ExP P w K mg c "InvalidSize" "value" "value" "InsertionError" 0) : Cal P w K mg base c 3 "check_size" none F_check_size :=
  ⟨_, _, _, fng_check_size gs Fd C_is_between X_InvalidSize, hm, Fd.kp, Fd.bindsN fun _ _ _ _ _ _ us hl => match us, hl with | [_, _, _], _ => rfl⟩
abbrev st_binomial : Stmt := top 12
theorem sc_binomial : FnScope ["size", "part", "found", "count"] ["size", "part"] (defScope st_binomial) := ⟨rfl, rfl, rfl, by decide +kernel, rfl, by decide +kernel, by decide +kernel⟩
theorem fng_binomial {base : Heap} {fd : FuncData} {fa : Addr} (gs : Gs mg) (Fd : FnP K "binomial" st_binomial fa fd) : FnG P w K mg base 1 fa fd ["size", "part"] (spOf ⟨P, w, K, c⟩ none F_binomial) := by
  refine fnG_vs (N := ["size", "part", "found", "count"]) Fd sc_binomial rfl rfl rfl (fun cdv A outer s H E hr hg => ?_)
  have g := good_cx (P := P) (w := w) (K := K) (mg := mg) (base := base) (outer := outer) (s := s) (H := H) (E := E) sc_binomial.nd hr hg
  exact (dss_cons (ds_set (i := 2) g.nd rfl (.inl rfl) q_int) (dss_cons (ds_for g.pass g.calm (di_range1 rfl gs.range_ (de_var (i := 1) rfl (.inl rfl) rfl rfl)) (dg_name (i := 3) g.nd rfl (.inl rfl)) (dss_cons (ds_set (i := 2) g.nd rfl (.inl rfl) (de_bin dDiv_ok (de_bin dMul_ok (de_var (i := 2) rfl (.inl rfl) rfl rfl) (de_bin dSub_ok (de_var (i := 0) rfl (.inl rfl) rfl rfl) (de_var (i := 3) rfl (.inl rfl) rfl rfl))) (de_bin dAdd_ok (de_var (i := 3) rfl (.inl rfl) rfl rfl) q_int))) dss_nil)) (dss_cons (ds_ret (de_var (i := 2) rfl (.inl rfl) rfl rfl)) dss_nil)))
theorem cal_binomial {base : Heap} {fd : FuncData} {fa : Addr} (gs : Gs mg) (Fd : FnP K "binomial" st_binomial fa fd) (hm : mg "binomial" = some (.ref fa)) : Cal P w K mg base c 1 "binomial" none F_binomial :=
  ⟨_, _, _, fng_binomial gs Fd, hm, Fd.kp, Fd.bindsN fun _ _ _ _ _ _ us hl => match us, hl with | [_, _], _ => rfl⟩
abbrev st_counts_up_to : Stmt := top 14
theorem sc_counts_up_to : FnScope ["size", "row", "found", "height", "count", "left"] ["size"] (defScope st_counts_up_to) := ⟨rfl, rfl, rfl, by decide +kernel, rfl, by decide +kernel, by decide +kernel⟩
theorem fng_counts_up_to {base : Heap} {fd : FuncData} {fa : Addr} (gs : Gs mg) (Fd : FnP K "counts_up_to" st_counts_up_to fa fd) (C_binomial : Cal P w K mg base c 1 "binomial" none F_binomial) : FnG P w K mg base 2 fa fd ["size"] (spOf ⟨P, w, K, c⟩ none F_counts_up_to) := by
  refine fnG_vs (N := ["size", "row", "found", "height", "count", "left"]) Fd sc_counts_up_to rfl rfl rfl (fun cdv A outer s H E hr hg => ?_)
  have g := good_cx (P := P) (w := w) (K := K) (mg := mg) (base := base) (outer := outer) (s := s) (H := H) (E := E) sc_counts_up_to.nd hr hg
  exact (dss_cons (ds_set (i := 1) g.nd rfl (.inr rfl) (de_bin dAdd_ok (de_lst (q_cons q_int da_nil)) (de_bin dMul_ok (de_lst (q_cons q_int da_nil)) (de_var (i := 0) rfl (.inl rfl) rfl rfl)))) (dss_cons (ds_set (i := 2) g.nd rfl (.inl rfl) (de_lst (q_cons (de_ix (dIdx_ok g.u1) (de_var (i := 1) rfl (.inr (.inl rfl)) rfl rfl) (de_var (i := 0) rfl (.inl rfl) rfl rfl) (fun _ _ => rfl)) da_nil))) (dss_cons (ds_for g.pass g.calm (di_range1 rfl gs.range_ (de_var (i := 0) rfl (.inl rfl) rfl rfl)) (dg_name (i := 3) g.nd rfl (.inl rfl)) (dss_cons (ds_set (i := 1) g.nd rfl (.inr rfl) (de_bin dAdd_ok (de_lst (q_cons q_int da_nil)) (de_lc g.calm g.nd (di_range2 rfl gs.range_ q_int (de_bin dAdd_ok (de_var (i := 0) rfl (.inl rfl) rfl rfl) q_int)) (blkOk_by (N := ["size", "row", "found", "height", "count", "left"]) (sc := defScope st_counts_up_to) (own := [("count", 4)]) (by decide +kernel)) (blk_of g (fun s H C cl fp g => (dg_name (i := 4) g.nd rfl (by first | exact .inl rfl | exact .inr rfl)))) (blk_of g (fun s H C cl fp g => difs_nil)) (blk_of g (fun s H C cl fp g => (q_callB (bSum_ok g.calm) gs.sum_ (q_cons (de_lc g.calm g.nd (di_range1 rfl gs.range_ (de_var (i := 4) rfl (by first | exact .inl rfl | exact .inr (.inl rfl)) rfl rfl)) (blkOk_by (own := [("left", 5)]) (by rfl)) (blk_of g (fun s H C cl fp g => (dg_name (i := 5) g.nd rfl (by first | exact .inl rfl | exact .inr rfl)))) (blk_of g (fun s H C cl fp g => difs_nil)) (blk_of g (fun s H C cl fp g => (de_bin dMul_ok (de_bin dMul_ok (de_call C_binomial (g.room.mono (by decide)) g.gd rfl g.tk (q_cons (de_bin dSub_ok (de_var (i := 4) rfl (by first | exact .inr (.inl rfl) | exact .inr (.inr rfl)) rfl rfl) q_int) (q_cons (de_var (i := 5) rfl (by first | exact .inl rfl | exact .inr (.inl rfl)) rfl rfl) da_nil))) (de_ix (dIdx_ok g.u1) (de_var (i := 1) rfl (by first | exact .inr (.inl rfl) | exact .inr (.inr rfl)) rfl rfl) (de_var (i := 5) rfl (by first | exact .inl rfl | exact .inr (.inl rfl)) rfl rfl) (fun _ _ => rfl))) (de_ix (dIdx_ok g.u1) (de_var (i := 1) rfl (by first | exact .inr (.inl rfl) | exact .inr (.inr rfl)) rfl rfl) (de_bin dSub_ok (de_bin dSub_ok (de_var (i := 4) rfl (by first | exact .inr (.inl rfl) | exact .inr (.inr rfl)) rfl rfl) q_int) (de_var (i := 5) rfl (by first | exact .inl rfl | exact .inr (.inl rfl)) rfl rfl)) (fun _ _ => rfl))))) (by decide)) da_nil)))) (by decide)))) (dss_cons (ds_expr (q_append (pv 2 rfl (.inl rfl) rfl rfl) (de_ix (dIdx_ok g.u1) (de_var (i := 1) rfl (.inr (.inl rfl)) rfl rfl) (de_var (i := 0) rfl (.inl rfl) rfl rfl) (fun _ _ => rfl)))) dss_nil))) (dss_cons (ds_ret (de_var (i := 2) rfl (.inl rfl) rfl rfl)) dss_nil))))
theorem cal_counts_up_to {base : Heap} {fd : FuncData} {fa : Addr} (gs : Gs mg) (Fd : FnP K "counts_up_to" st_counts_up_to fa fd) (hm : mg "counts_up_to" = some (.ref fa)) (C_binomial : Cal P w K mg base c 1 "binomial" none F_binomial) : Cal P w K mg base c 2 "counts_up_to" none F_counts_up_to :=
  ⟨_, _, _, fng_counts_up_to gs Fd C_binomial, hm, Fd.kp, Fd.bindsN fun _ _ _ _ _ _ us hl => match us, hl with | [_], _ => rfl⟩
abbrev st_height_counts : Stmt := top 15
theorem sc_height_counts : FnScope ["size", "first", "others", "before", "here"] ["size"] (defScope st_height_counts) := ⟨rfl, rfl, rfl, by decide +kernel, rfl, by decide +kernel, by decide +kernel⟩
theorem fng_height_counts {base : Heap} {fd : FuncData} {fa : Addr} (gs : Gs mg) (Fd : FnP K "height_counts" st_height_counts fa fd) (C_check_size : Cal P w K mg base c 3 "check_size" none F_check_size) (C_counts_up_to : Cal P w K mg base c 2 "counts_up_to" none F_counts_up_to) : FnG P w K mg base 4 fa fd ["size"] (spOf ⟨P, w, K, c⟩ none F_height_counts) := by
  refine fnG_vs (N := ["size", "first", "others", "before", "here"]) Fd sc_height_counts rfl rfl rfl (fun cdv A outer s H E hr hg => ?_)
  have g := good_cx (P := P) (w := w) (K := K) (mg := mg) (base := base) (outer := outer) (s := s) (H := H) (E := E) sc_height_counts.nd hr hg
  exact (dss_cons (ds_expr (de_call C_check_size (g.room.mono (by decide)) g.gd rfl g.tk (q_cons (de_var (i := 0) rfl (.inl rfl) rfl rfl) (q_cons q_int (q_cons (q_gint gs.MAX_SIZE_) da_nil))))) (dss_cons (ds_asg (de_call C_counts_up_to (g.room.mono (by decide)) g.gd rfl g.tk (q_cons (de_var (i := 0) rfl (.inl rfl) rfl rfl) da_nil)) (dg_head g.calm (dgs_cons (dg_name (i := 1) g.nd rfl (.inl rfl)) (dgs_cons (dg_name (i := 2) g.nd rfl (.inl rfl)) dgs_nil)))) (dss_cons (ds_ret (de_lst (q_cons (de_var (i := 1) rfl (.inl rfl) rfl rfl) (q_star (de_lc g.calm g.nd (di_zip rfl gs.zip_ (q_cons (de_lst (q_cons (de_var (i := 1) rfl (.inl rfl) rfl rfl) (q_star (de_var (i := 2) rfl (.inl rfl) rfl rfl) da_nil))) (q_cons (de_var (i := 2) rfl (.inl rfl) rfl rfl) da_nil))) (blkOk_by (N := ["size", "first", "others", "before", "here"]) (sc := defScope st_height_counts) (own := [("before", 3), ("here", 4)]) (by decide +kernel)) (blk_of g (fun s H C cl fp g => (dg_tup g.calm (dgs_cons (dg_name (i := 3) g.nd rfl (by first | exact .inl rfl | exact .inr rfl)) (dgs_cons (dg_name (i := 4) g.nd rfl (by first | exact .inl rfl | exact .inr rfl)) dgs_nil))))) (blk_of g (fun s H C cl fp g => difs_nil)) (blk_of g (fun s H C cl fp g => (de_bin dSub_ok (de_var (i := 4) rfl (by first | exact .inl rfl | exact .inr (.inl rfl)) rfl rfl) (de_var (i := 3) rfl (by first | exact .inl rfl | exact .inr (.inl rfl)) rfl rfl)))) (by decide)) da_nil)))) dss_nil)))
theorem cal_height_counts {base : Heap} {fd : FuncData} {fa : Addr} (gs : Gs mg) (Fd : FnP K "height_counts" st_height_counts fa fd) (hm : mg "height_counts" = some (.ref fa)) (C_check_size : Cal P w K mg base c 3 "check_size" none F_check_size) (C_counts_up_to : Cal P w K mg base c 2 "counts_up_to" none F_counts_up_to) : Cal P w K mg base c 4 "height_counts" none F_height_counts :=
  ⟨_, _, _, fng_height_counts gs Fd C_check_size C_counts_up_to, hm, Fd.kp, Fd.bindsN fun _ _ _ _ _ _ us hl => match us, hl with | [_], _ => rfl⟩
abbrev st_greatest_total : Stmt := top 22
theorem sc_greatest_total : FnScope ["size"] ["size"] (defScope st_greatest_total) := ⟨rfl, rfl, rfl, by decide +kernel, rfl, by decide +kernel, by decide +kernel⟩
theorem fng_greatest_total {base : Heap} {fd : FuncData} {fa : Addr} (gs : Gs mg) (Fd : FnP K "greatest_total" st_greatest_total fa fd) (C_check_size : Cal P w K mg base c 3 "check_size" none F_check_size) : FnG P w K mg base 4 fa fd ["size"] (spOf ⟨P, w, K, c⟩ none F_greatest_total) := by
  refine fnG_vs (N := ["size"]) Fd sc_greatest_total rfl rfl rfl (fun cdv A outer s H E hr hg => ?_)
  have g := good_cx (P := P) (w := w) (K := K) (mg := mg) (base := base) (outer := outer) (s := s) (H := H) (E := E) sc_greatest_total.nd hr hg
  exact (dss_cons (ds_expr (de_call C_check_size (g.room.mono (by decide)) g.gd rfl g.tk (q_cons (de_var (i := 0) rfl (.inl rfl) rfl rfl) (q_cons q_int (q_cons (q_gint gs.MAX_KEYS_) da_nil))))) (dss_cons (ds_ret (de_bin dDiv_ok (de_bin dMul_ok (de_var (i := 0) rfl (.inl rfl) rfl rfl) (de_bin dSub_ok (de_var (i := 0) rfl (.inl rfl) rfl rfl) q_int)) q_int)) dss_nil))
theorem cal_greatest_total {base : Heap} {fd : FuncData} {fa : Addr} (gs : Gs mg) (Fd : FnP K "greatest_total" st_greatest_total fa fd) (hm : mg "greatest_total" = some (.ref fa)) (C_check_size : Cal P w K mg base c 3 "check_size" none F_check_size) : Cal P w K mg base c 4 "greatest_total" none F_greatest_total :=
  ⟨_, _, _, fng_greatest_total gs Fd C_check_size, hm, Fd.kp, Fd.bindsN fun _ _ _ _ _ _ us hl => match us, hl with | [_], _ => rfl⟩
abbrev st_add_shifted : Stmt := top 17
theorem sc_add_shifted : FnScope ["target", "shift", "factor", "values", "position", "value"] ["target", "shift", "factor", "values"] (defScope st_add_shifted) := ⟨rfl, rfl, rfl, by decide +kernel, rfl, by decide +kernel, by decide +kernel⟩
theorem fng_add_shifted {base : Heap} {fd : FuncData} {fa : Addr} (gs : Gs mg) (Fd : FnP K "add_shifted" st_add_shifted fa fd) : FnG P w K mg base 1 fa fd ["target", "shift", "factor", "values"] (spOf ⟨P, w, K, c⟩ (some 0) F_add_shifted) := by
  refine fnG_vs (N := ["target", "shift", "factor", "values", "position", "value"]) Fd sc_add_shifted rfl rfl rfl (fun cdv A outer s H E hr hg => ?_)
  have g := good_cx (P := P) (w := w) (K := K) (mg := mg) (base := base) (outer := outer) (s := s) (H := H) (E := E) sc_add_shifted.nd hr hg
  exact (dss_cons (ds_for g.pass g.calm (di_enum rfl gs.enumerate_ (de_var (i := 3) rfl (.inl rfl) rfl rfl)) (dg_tup g.calm (dgs_cons (dg_name (i := 4) g.nd rfl (.inl rfl)) (dgs_cons (dg_name (i := 5) g.nd rfl (.inl rfl)) dgs_nil))) (dss_cons (ds_augL (pv 0 rfl (.inl rfl) rfl rfl) (de_bin dAdd_ok (de_var (i := 4) rfl (.inl rfl) rfl rfl) (de_var (i := 1) rfl (.inl rfl) rfl rfl)) (de_bin dMul_ok (de_var (i := 2) rfl (.inl rfl) rfl rfl) (de_var (i := 5) rfl (.inl rfl) rfl rfl))) dss_nil)) dss_nil)
theorem cal_add_shifted {base : Heap} {fd : FuncData} {fa : Addr} (gs : Gs mg) (Fd : FnP K "add_shifted" st_add_shifted fa fd) (hm : mg "add_shifted" = some (.ref fa)) : Cal P w K mg base c 1 "add_shifted" (some 0) F_add_shifted :=
  ⟨_, _, _, fng_add_shifted gs Fd, hm, Fd.kp, Fd.bindsN fun _ _ _ _ _ _ us hl => match us, hl with | [_, _, _, _], _ => rfl⟩
abbrev st_product : Stmt := top 16
theorem sc_product : FnScope ["first", "second", "found", "position", "one", "offset", "other"] ["first", "second"] (defScope st_product) := ⟨rfl, rfl, rfl, by decide +kernel, rfl, by decide +kernel, by decide +kernel⟩
theorem fng_product {base : Heap} {fd : FuncData} {fa : Addr} (gs : Gs mg) (Fd : FnP K "product" st_product fa fd) : FnG P w K mg base 1 fa fd ["first", "second"] (spOf ⟨P, w, K, c⟩ none F_product) := by
  refine fnG_vs (N := ["first", "second", "found", "position", "one", "offset", "other"]) Fd sc_product rfl rfl rfl (fun cdv A outer s H E hr hg => ?_)
  have g := good_cx (P := P) (w := w) (K := K) (mg := mg) (base := base) (outer := outer) (s := s) (H := H) (E := E) sc_product.nd hr hg
  exact (dss_cons (ds_set (i := 2) g.nd rfl (.inl rfl) (de_bin dMul_ok (de_lst (q_cons q_int da_nil)) (de_bin dSub_ok (de_bin dAdd_ok (q_callB bLenA_ok gs.len_ (q_cons (de_var (i := 0) rfl (.inl rfl) rfl rfl) da_nil)) (q_callB bLenA_ok gs.len_ (q_cons (de_var (i := 1) rfl (.inl rfl) rfl rfl) da_nil))) q_int))) (dss_cons (ds_for g.pass g.calm (di_enum rfl gs.enumerate_ (de_var (i := 0) rfl (.inl rfl) rfl rfl)) (dg_tup g.calm (dgs_cons (dg_name (i := 3) g.nd rfl (.inl rfl)) (dgs_cons (dg_name (i := 4) g.nd rfl (.inl rfl)) dgs_nil))) (dss_cons (ds_for g.pass g.calm (di_enum rfl gs.enumerate_ (de_var (i := 1) rfl (.inl rfl) rfl rfl)) (dg_tup g.calm (dgs_cons (dg_name (i := 5) g.nd rfl (.inl rfl)) (dgs_cons (dg_name (i := 6) g.nd rfl (.inl rfl)) dgs_nil))) (dss_cons (ds_augL (pv 2 rfl (.inl rfl) rfl rfl) (de_bin dAdd_ok (de_var (i := 3) rfl (.inl rfl) rfl rfl) (de_var (i := 5) rfl (.inl rfl) rfl rfl)) (de_bin dMul_ok (de_var (i := 4) rfl (.inl rfl) rfl rfl) (de_var (i := 6) rfl (.inl rfl) rfl rfl))) dss_nil)) dss_nil)) (dss_cons (ds_ret (de_var (i := 2) rfl (.inl rfl) rfl rfl)) dss_nil)))
theorem cal_product {base : Heap} {fd : FuncData} {fa : Addr} (gs : Gs mg) (Fd : FnP K "product" st_product fa fd) (hm : mg "product" = some (.ref fa)) : Cal P w K mg base c 1 "product" none F_product :=
  ⟨_, _, _, fng_product gs Fd, hm, Fd.kp, Fd.bindsN fun _ _ _ _ _ _ us hl => match us, hl with | [_, _], _ => rfl⟩
abbrev st_total_counts : Stmt := top 18
theorem sc_total_counts : FnScope ["size", "rows", "count", "row", "left"] ["size"] (defScope st_total_counts) := ⟨rfl, rfl, rfl, by decide +kernel, rfl, by decide +kernel, by decide +kernel⟩
theorem fng_total_counts {base : Heap} {fd : FuncData} {fa : Addr} (gs : Gs mg) (Fd : FnP K "total_counts" st_total_counts fa fd) (C_check_size : Cal P w K mg base c 3 "check_size" none F_check_size) (C_greatest_total : Cal P w K mg base c 4 "greatest_total" none F_greatest_total) (C_add_shifted : Cal P w K mg base c 1 "add_shifted" (some 0) F_add_shifted) (C_binomial : Cal P w K mg base c 1 "binomial" none F_binomial) (C_product : Cal P w K mg base c 1 "product" none F_product) : FnG P w K mg base 5 fa fd ["size"] (spOf ⟨P, w, K, c⟩ none F_total_counts) := by
  refine fnG_vs (N := ["size", "rows", "count", "row", "left"]) Fd sc_total_counts rfl rfl rfl (fun cdv A outer s H E hr hg => ?_)
  have g := good_cx (P := P) (w := w) (K := K) (mg := mg) (base := base) (outer := outer) (s := s) (H := H) (E := E) sc_total_counts.nd hr hg
  exact (dss_cons (ds_expr (de_call C_check_size (g.room.mono (by decide)) g.gd rfl g.tk (q_cons (de_var (i := 0) rfl (.inl rfl) rfl rfl) (q_cons q_int (q_cons (q_gint gs.MAX_TOTALS_SIZE_) da_nil))))) (dss_cons (ds_set (i := 1) g.nd rfl (.inl rfl) (de_lst (q_cons (de_lst (q_cons q_int da_nil)) da_nil))) (dss_cons (ds_for g.pass g.calm (di_range2 rfl gs.range_ q_int (de_bin dAdd_ok (de_var (i := 0) rfl (.inl rfl) rfl rfl) q_int)) (dg_name (i := 2) g.nd rfl (.inl rfl)) (dss_cons (ds_set (i := 3) g.nd rfl (.inl rfl) (de_bin dMul_ok (de_lst (q_cons q_int da_nil)) (de_bin dAdd_ok (de_call C_greatest_total (g.room.mono (by decide)) g.gd rfl g.tk (q_cons (de_var (i := 2) rfl (.inl rfl) rfl rfl) da_nil)) q_int))) (dss_cons (ds_for g.pass g.calm (di_range1 rfl gs.range_ (de_var (i := 2) rfl (.inl rfl) rfl rfl)) (dg_name (i := 4) g.nd rfl (.inl rfl)) (dss_cons (ds_expr (de_call C_add_shifted (g.room.mono (by decide)) g.gd rfl g.tk (q_cons (de_var (i := 3) rfl (.inl rfl) rfl rfl) (q_cons (de_bin dSub_ok (de_var (i := 2) rfl (.inl rfl) rfl rfl) q_int) (q_cons (de_call C_binomial (g.room.mono (by decide)) g.gd rfl g.tk (q_cons (de_bin dSub_ok (de_var (i := 2) rfl (.inl rfl) rfl rfl) q_int) (q_cons (de_var (i := 4) rfl (.inl rfl) rfl rfl) da_nil))) (q_cons (de_call C_product (g.room.mono (by decide)) g.gd rfl g.tk (q_cons (de_ix (dIdx_ok g.u1) (de_var (i := 1) rfl (.inl rfl) rfl rfl) (de_var (i := 4) rfl (.inl rfl) rfl rfl) (fun _ _ => rfl)) (q_cons (de_ix (dIdx_ok g.u1) (de_var (i := 1) rfl (.inl rfl) rfl rfl) (de_bin dSub_ok (de_bin dSub_ok (de_var (i := 2) rfl (.inl rfl) rfl rfl) q_int) (de_var (i := 4) rfl (.inl rfl) rfl rfl)) (fun _ _ => rfl)) da_nil))) da_nil)))))) dss_nil)) (dss_cons (ds_expr (q_append (pv 1 rfl (.inl rfl) rfl rfl) (de_var (i := 3) rfl (.inl rfl) rfl rfl))) dss_nil)))) (dss_cons (ds_ret (de_ix (dIdx_ok g.u1) (de_var (i := 1) rfl (.inl rfl) rfl rfl) (de_var (i := 0) rfl (.inl rfl) rfl rfl) (fun _ _ => rfl))) dss_nil))))
theorem cal_total_counts {base : Heap} {fd : FuncData} {fa : Addr} (gs : Gs mg) (Fd : FnP K "total_counts" st_total_counts fa fd) (hm : mg "total_counts" = some (.ref fa)) (C_check_size : Cal P w K mg base c 3 "check_size" none F_check_size) (C_greatest_total : Cal P w K mg base c 4 "greatest_total" none F_greatest_total) (C_add_shifted : Cal P w K mg base c 1 "add_shifted" (some 0) F_add_shifted) (C_binomial : Cal P w K mg base c 1 "binomial" none F_binomial) (C_product : Cal P w K mg base c 1 "product" none F_product) : Cal P w K mg base c 5 "total_counts" none F_total_counts :=
  ⟨_, _, _, fng_total_counts gs Fd C_check_size C_greatest_total C_add_shifted C_binomial C_product, hm, Fd.kp, Fd.bindsN fun _ _ _ _ _ _ us hl => match us, hl with | [_], _ => rfl⟩
abbrev st_least_total : Stmt := top 21
theorem sc_least_total : FnScope ["size", "rest", "level", "width", "found"] ["size"] (defScope st_least_total) := ⟨rfl, rfl, rfl, by decide +kernel, rfl, by decide +kernel, by decide +kernel⟩
theorem fng_least_total {base : Heap} {fd : FuncData} {fa : Addr} (gs : Gs mg) (Fd : FnP K "least_total" st_least_total fa fd) (C_check_size : Cal P w K mg base c 3 "check_size" none F_check_size) : FnG P w K mg base 4 fa fd ["size"] (spOf ⟨P, w, K, c⟩ none F_least_total) := by
  refine fnG_vs (N := ["size", "rest", "level", "width", "found"]) Fd sc_least_total rfl rfl rfl (fun cdv A outer s H E hr hg => ?_)
  have g := good_cx (P := P) (w := w) (K := K) (mg := mg) (base := base) (outer := outer) (s := s) (H := H) (E := E) sc_least_total.nd hr hg
  exact (dss_cons (ds_expr (de_call C_check_size (g.room.mono (by decide)) g.gd rfl g.tk (q_cons (de_var (i := 0) rfl (.inl rfl) rfl rfl) (q_cons q_int (q_cons (q_gint gs.MAX_KEYS_) da_nil))))) (dss_cons (ds_asg (de_tup (q_cons (de_var (i := 0) rfl (.inl rfl) rfl rfl) (q_cons q_int (q_cons q_int (q_cons q_int da_nil))))) (dg_tup g.calm (dgs_cons (dg_name (i := 1) g.nd rfl (.inl rfl)) (dgs_cons (dg_name (i := 2) g.nd rfl (.inl rfl)) (dgs_cons (dg_name (i := 3) g.nd rfl (.inl rfl)) (dgs_cons (dg_name (i := 4) g.nd rfl (.inl rfl)) dgs_nil)))))) (dss_cons (ds_while 6000 g.pass (dt_cmp dGt_ok (de_var (i := 1) rfl (.inl rfl) rfl rfl) q_int rfl) (dss_cons (ds_aug (i := 4) g.nd rfl (.inl rfl) iAdd_ok (de_bin dMul_ok (de_var (i := 2) rfl (.inl rfl) rfl rfl) (q_callB (bMin_ok g.calm) gs.min_ (q_cons (de_var (i := 1) rfl (.inl rfl) rfl rfl) (q_cons (de_var (i := 3) rfl (.inl rfl) rfl rfl) da_nil))))) (dss_cons (ds_aug (i := 1) g.nd rfl (.inl rfl) iSub_ok (de_var (i := 3) rfl (.inl rfl) rfl rfl)) (dss_cons (ds_aug (i := 2) g.nd rfl (.inl rfl) iAdd_ok q_int) (dss_cons (ds_aug (i := 3) g.nd rfl (.inl rfl) iMul_ok q_int) dss_nil))))) (dss_cons (ds_ret (de_var (i := 4) rfl (.inl rfl) rfl rfl)) dss_nil))))
theorem cal_least_total {base : Heap} {fd : FuncData} {fa : Addr} (gs : Gs mg) (Fd : FnP K "least_total" st_least_total fa fd) (hm : mg "least_total" = some (.ref fa)) (C_check_size : Cal P w K mg base c 3 "check_size" none F_check_size) : Cal P w K mg base c 4 "least_total" none F_least_total :=
  ⟨_, _, _, fng_least_total gs Fd C_check_size, hm, Fd.kp, Fd.bindsN fun _ _ _ _ _ _ us hl => match us, hl with | [_], _ => rfl⟩
abbrev st_factorial : Stmt := top 8
theorem sc_factorial : FnScope ["size", "result", "factor"] ["size"] (defScope st_factorial) := ⟨rfl, rfl, rfl, by decide +kernel, rfl, by decide +kernel, by decide +kernel⟩
theorem fng_factorial {base : Heap} {fd : FuncData} {fa : Addr} (gs : Gs mg) (Fd : FnP K "factorial" st_factorial fa fd) : FnG P w K mg base 1 fa fd ["size"] (spOf ⟨P, w, K, c⟩ none F_factorial) := by
  refine fnG_vs (N := ["size", "result", "factor"]) Fd sc_factorial rfl rfl rfl (fun cdv A outer s H E hr hg => ?_)
  have g := good_cx (P := P) (w := w) (K := K) (mg := mg) (base := base) (outer := outer) (s := s) (H := H) (E := E) sc_factorial.nd hr hg
  exact (dss_cons (ds_set (i := 1) g.nd rfl (.inl rfl) q_int) (dss_cons (ds_for g.pass g.calm (di_range2 rfl gs.range_ q_int (de_bin dAdd_ok (de_var (i := 0) rfl (.inl rfl) rfl rfl) q_int)) (dg_name (i := 2) g.nd rfl (.inl rfl)) (dss_cons (ds_aug (i := 1) g.nd rfl (.inl rfl) iMul_ok (de_var (i := 2) rfl (.inl rfl) rfl rfl)) dss_nil)) (dss_cons (ds_ret (de_var (i := 1) rfl (.inl rfl) rfl rfl)) dss_nil)))
theorem cal_factorial {base : Heap} {fd : FuncData} {fa : Addr} (gs : Gs mg) (Fd : FnP K "factorial" st_factorial fa fd) (hm : mg "factorial" = some (.ref fa)) : Cal P w K mg base c 1 "factorial" none F_factorial :=
  ⟨_, _, _, fng_factorial gs Fd, hm, Fd.kp, Fd.bindsN fun _ _ _ _ _ _ us hl => match us, hl with | [_], _ => rfl⟩
abbrev st_depth_rows : Stmt := top 19
theorem sc_depth_rows : FnScope ["size", "factors", "rows", "count", "ranks", "rank", "row", "root", "part", "inner"] ["size"] (defScope st_depth_rows) := ⟨rfl, rfl, rfl, by decide +kernel, rfl, by decide +kernel, by decide +kernel⟩
theorem fng_depth_rows {base : Heap} {fd : FuncData} {fa : Addr} (gs : Gs mg) (Fd : FnP K "depth_rows" st_depth_rows fa fd) (C_factorial : Cal P w K mg base c 1 "factorial" none F_factorial) (C_add_shifted : Cal P w K mg base c 1 "add_shifted" (some 0) F_add_shifted) : FnG P w K mg base 2 fa fd ["size"] (spOf ⟨P, w, K, c⟩ none F_depth_rows) := by
  refine fnG_vs (N := ["size", "factors", "rows", "count", "ranks", "rank", "row", "root", "part", "inner"]) Fd sc_depth_rows rfl rfl rfl (fun cdv A outer s H E hr hg => ?_)
  have g := good_cx (P := P) (w := w) (K := K) (mg := mg) (base := base) (outer := outer) (s := s) (H := H) (E := E) sc_depth_rows.nd hr hg
  exact (dss_cons (ds_setLc (i := 1) g.calm g.nd rfl rfl (sw_true rfl rfl rfl (by decide +kernel)) (di_range1 rfl gs.range_ (de_bin dAdd_ok (de_var (i := 0) rfl (.inl rfl) rfl rfl) q_int)) (blkOk_by (N := ["size", "factors", "rows", "count", "ranks", "rank", "row", "root", "part", "inner"]) (sc := defScope st_depth_rows) (own := [("count", 3)]) (by decide +kernel)) (blk_of g (fun s H C cl fp g => (dg_name (i := 3) g.nd rfl (by first | exact .inl rfl | exact .inr rfl)))) (blk_of g (fun s H C cl fp g => difs_nil)) (blk_of g (fun s H C cl fp g => (de_call C_factorial (g.room.mono (by decide)) g.gd rfl g.tk (q_cons (de_var (i := 3) rfl (by first | exact .inl rfl | exact .inr (.inl rfl)) rfl rfl) da_nil)))) (by decide)) (dss_cons (ds_set (i := 2) g.nd rfl (.inl rfl) (de_lst (q_cons (de_lst da_nil) da_nil))) (dss_cons (ds_for g.pass g.calm (di_range2 rfl gs.range_ q_int (de_bin dAdd_ok (de_var (i := 0) rfl (.inl rfl) rfl rfl) q_int)) (dg_name (i := 3) g.nd rfl (.inl rfl)) (dss_cons (ds_set (i := 4) g.nd rfl (.inl rfl) (de_lst da_nil)) (dss_cons (ds_for g.pass g.calm (di_range1 rfl gs.range_ (de_var (i := 3) rfl (.inl rfl) rfl rfl)) (dg_name (i := 5) g.nd rfl (.inl rfl)) (dss_cons (ds_set (i := 6) g.nd rfl (.inl rfl) (de_bin dMul_ok (de_lst (q_cons q_int da_nil)) (de_var (i := 3) rfl (.inl rfl) rfl rfl))) (dss_cons (ds_for g.pass g.calm (di_range1 rfl gs.range_ (de_var (i := 3) rfl (.inl rfl) rfl rfl)) (dg_name (i := 7) g.nd rfl (.inl rfl)) (dss_cons (ds_if (dt_cmp (eqOp_ok g.u64) (de_var (i := 7) rfl (.inl rfl) rfl rfl) (de_var (i := 5) rfl (.inl rfl) rfl rfl) rfl) (dss_cons (ds_augL (pv 6 rfl (.inl rfl) rfl rfl) q_int (de_ix (dIdx_ok g.u1) (de_var (i := 1) rfl (.inl rfl) rfl rfl) (de_bin dSub_ok (de_var (i := 3) rfl (.inl rfl) rfl rfl) q_int) (fun _ _ => rfl))) dss_nil) (dss_cons (ds_set (i := 8) g.nd rfl (.inl rfl) (de_ite (dt_cmp dGt_ok (de_var (i := 7) rfl (.inl rfl) rfl rfl) (de_var (i := 5) rfl (.inl rfl) rfl rfl) rfl) (de_var (i := 7) rfl (.inl rfl) rfl rfl) (de_bin dSub_ok (de_bin dSub_ok (de_var (i := 3) rfl (.inl rfl) rfl rfl) q_int) (de_var (i := 7) rfl (.inl rfl) rfl rfl)))) (dss_cons (ds_set (i := 9) g.nd rfl (.inl rfl) (de_ite (dt_cmp dGt_ok (de_var (i := 7) rfl (.inl rfl) rfl rfl) (de_var (i := 5) rfl (.inl rfl) rfl rfl) rfl) (de_var (i := 5) rfl (.inl rfl) rfl rfl) (de_bin dSub_ok (de_bin dSub_ok (de_var (i := 5) rfl (.inl rfl) rfl rfl) (de_var (i := 7) rfl (.inl rfl) rfl rfl)) q_int))) (dss_cons (ds_expr (de_call C_add_shifted (g.room.mono (by decide)) g.gd rfl g.tk (q_cons (de_var (i := 6) rfl (.inl rfl) rfl rfl) (q_cons q_int (q_cons (de_bin dDiv_ok (de_ix (dIdx_ok g.u1) (de_var (i := 1) rfl (.inl rfl) rfl rfl) (de_bin dSub_ok (de_var (i := 3) rfl (.inl rfl) rfl rfl) q_int) (fun _ _ => rfl)) (de_ix (dIdx_ok g.u1) (de_var (i := 1) rfl (.inl rfl) rfl rfl) (de_var (i := 8) rfl (.inl rfl) rfl rfl) (fun _ _ => rfl))) (q_cons (de_ix (dIdx_ok g.u1) (de_ix (dIdx_ok g.u1) (de_var (i := 2) rfl (.inl rfl) rfl rfl) (de_var (i := 8) rfl (.inl rfl) rfl rfl) (fun _ _ => rfl)) (de_var (i := 9) rfl (.inl rfl) rfl rfl) (fun _ _ => rfl)) da_nil)))))) dss_nil)))) dss_nil)) (dss_cons (ds_expr (q_append (pv 4 rfl (.inl rfl) rfl rfl) (de_var (i := 6) rfl (.inl rfl) rfl rfl))) dss_nil)))) (dss_cons (ds_expr (q_append (pv 2 rfl (.inl rfl) rfl rfl) (de_var (i := 4) rfl (.inl rfl) rfl rfl))) dss_nil)))) (dss_cons (ds_ret (de_var (i := 2) rfl (.inl rfl) rfl rfl)) dss_nil))))
theorem cal_depth_rows {base : Heap} {fd : FuncData} {fa : Addr} (gs : Gs mg) (Fd : FnP K "depth_rows" st_depth_rows fa fd) (hm : mg "depth_rows" = some (.ref fa)) (C_factorial : Cal P w K mg base c 1 "factorial" none F_factorial) (C_add_shifted : Cal P w K mg base c 1 "add_shifted" (some 0) F_add_shifted) : Cal P w K mg base c 2 "depth_rows" none F_depth_rows :=
  ⟨_, _, _, fng_depth_rows gs Fd C_factorial C_add_shifted, hm, Fd.kp, Fd.bindsN fun _ _ _ _ _ _ us hl => match us, hl with | [_], _ => rfl⟩
abbrev st_depth_counts : Stmt := top 20
theorem sc_depth_counts : FnScope ["size", "rank"] ["size", "rank"] (defScope st_depth_counts) := ⟨rfl, rfl, rfl, by decide +kernel, rfl, by decide +kernel, by decide +kernel⟩
theorem fng_depth_counts {base : Heap} {fd : FuncData} {fa : Addr} (gs : Gs mg) (Fd : FnP K "depth_counts" st_depth_counts fa fd) (C_check_size : Cal P w K mg base c 3 "check_size" none F_check_size) (C_is_between : Cal P w K mg base c 2 "is_between" none F_is_between) (C_depth_rows : Cal P w K mg base c 2 "depth_rows" none F_depth_rows) (X_InvalidNumber : ExP P w K mg c "InvalidNumber" "value" "value" "InsertionError" 1) : FnG P w K mg base 4 fa fd ["size", "rank"] (spOf ⟨P, w, K, c⟩ none F_depth_counts) := by
  refine fnG_vs (N := ["size", "rank"]) Fd sc_depth_counts rfl rfl rfl (fun cdv A outer s H E hr hg => ?_)
  have g := good_cx (P := P) (w := w) (K := K) (mg := mg) (base := base) (outer := outer) (s := s) (H := H) (E := E) sc_depth_counts.nd hr hg
  exact (dss_cons (ds_expr (de_call C_check_size (g.room.mono (by decide)) g.gd rfl g.tk (q_cons (de_var (i := 0) rfl (.inl rfl) rfl rfl) (q_cons q_int (q_cons (q_gint gs.MAX_SIZE_) da_nil))))) (dss_cons (ds_if (dt_not (dt_truth (de_call C_is_between (g.room.mono (by decide)) g.gd rfl g.tk (q_cons (de_var (i := 1) rfl (.inl rfl) rfl rfl) (q_cons q_int (q_cons (de_bin dSub_ok (de_var (i := 0) rfl (.inl rfl) rfl rfl) q_int) da_nil)))) (fun _ => rfl))) (dss_cons (ds_raise2 X_InvalidNumber (g.room.mono (by decide)) g.calm g.tk rfl (de_var (i := 1) rfl (.inl rfl) rfl rfl)) dss_nil) dss_nil) (dss_cons (ds_ret (de_ix (dIdx_ok g.u1) (de_ix (dIdx_ok g.u1) (de_call C_depth_rows (g.room.mono (by decide)) g.gd rfl g.tk (q_cons (de_var (i := 0) rfl (.inl rfl) rfl rfl) da_nil)) (de_var (i := 0) rfl (.inl rfl) rfl rfl) (fun _ _ => rfl)) (de_var (i := 1) rfl (.inl rfl) rfl rfl) (fun _ _ => rfl))) dss_nil)))
theorem cal_depth_counts {base : Heap} {fd : FuncData} {fa : Addr} (gs : Gs mg) (Fd : FnP K "depth_counts" st_depth_counts fa fd) (hm : mg "depth_counts" = some (.ref fa)) (C_check_size : Cal P w K mg base c 3 "check_size" none F_check_size) (C_is_between : Cal P w K mg base c 2 "is_between" none F_is_between) (C_depth_rows : Cal P w K mg base c 2 "depth_rows" none F_depth_rows) (X_InvalidNumber : ExP P w K mg c "InvalidNumber" "value" "value" "InsertionError" 1) : Cal P w K mg base c 4 "depth_counts" none F_depth_counts :=
  ⟨_, _, _, fng_depth_counts gs Fd C_check_size C_is_between C_depth_rows X_InvalidNumber, hm, Fd.kp, Fd.bindsN fun _ _ _ _ _ _ us hl => match us, hl with | [_, _], _ => rfl⟩
abbrev st__law_error : Stmt := top 26
theorem sc__law_error : FnScope ["_law_direction", "_law_size", "_law_rank", "_law_found", "e"] ["_law_direction", "_law_size", "_law_rank"] (defScope st__law_error) := ⟨rfl, rfl, rfl, by decide +kernel, rfl, by decide +kernel, by decide +kernel⟩
theorem fng__law_error {base : Heap} {fd : FuncData} {fa : Addr} (gs : Gs mg) (Fd : FnP K "_law_error" st__law_error fa fd) (C_height_counts : Cal P w K mg base c 4 "height_counts" none F_height_counts) (C_total_counts : Cal P w K mg base c 5 "total_counts" none F_total_counts) (C_least_total : Cal P w K mg base c 4 "least_total" none F_least_total) (C_greatest_total : Cal P w K mg base c 4 "greatest_total" none F_greatest_total) (C_depth_counts : Cal P w K mg base c 4 "depth_counts" none F_depth_counts) (X_InvalidSize : ExP P w K mg c "InvalidSize" "value" "value" "InsertionError" 0) (X_InvalidNumber : ExP P w K mg c "InvalidNumber" "value" "value" "InsertionError" 1) (X_M : ExM K c [0, 1]) (X_I_InvalidSize_InsertionError : IsP K mg c 0 "InsertionError") (X_I_InvalidNumber_InsertionError : IsP K mg c 1 "InsertionError") : FnG P w K mg base 6 fa fd ["_law_direction", "_law_size", "_law_rank"] (spOf ⟨P, w, K, c⟩ none F__law_error) := by
  refine fnG_vs (N := ["_law_direction", "_law_size", "_law_rank", "_law_found", "e"]) Fd sc__law_error rfl rfl rfl (fun cdv A outer s H E hr hg => ?_)
  have g := good_cx (P := P) (w := w) (K := K) (mg := mg) (base := base) (outer := outer) (s := s) (H := H) (E := E) sc__law_error.nd hr hg
  exact (dss_cons (ds_set (i := 3) g.nd rfl (.inl rfl) q_str) (dss_cons (ds_tryC g rfl rfl X_M (fun W pn xe g => (dss_cons (ds_if (dt_cmp (eqOp_ok g.u64) (de_var (i := 0) rfl (.inl rfl) rfl rfl) q_int rfl) (dss_cons (ds_expr (de_call C_height_counts (g.room.mono (by decide)) g.gd rfl g.tk (q_cons (de_var (i := 1) rfl (.inl rfl) rfl rfl) da_nil))) dss_nil) (dss_cons (ds_if (dt_cmp (eqOp_ok g.u64) (de_var (i := 0) rfl (.inl rfl) rfl rfl) q_int rfl) (dss_cons (ds_expr (de_call C_total_counts (g.room.mono (by decide)) g.gd rfl g.tk (q_cons (de_var (i := 1) rfl (.inl rfl) rfl rfl) da_nil))) dss_nil) (dss_cons (ds_if (dt_cmp (eqOp_ok g.u64) (de_var (i := 0) rfl (.inl rfl) rfl rfl) q_int rfl) (dss_cons (ds_expr (de_call C_least_total (g.room.mono (by decide)) g.gd rfl g.tk (q_cons (de_var (i := 1) rfl (.inl rfl) rfl rfl) da_nil))) dss_nil) (dss_cons (ds_if (dt_cmp (eqOp_ok g.u64) (de_var (i := 0) rfl (.inl rfl) rfl rfl) q_int rfl) (dss_cons (ds_expr (de_call C_greatest_total (g.room.mono (by decide)) g.gd rfl g.tk (q_cons (de_var (i := 1) rfl (.inl rfl) rfl rfl) da_nil))) dss_nil) (dss_cons (ds_expr (de_call C_depth_counts (g.room.mono (by decide)) g.gd rfl g.tk (q_cons (de_var (i := 1) rfl (.inl rfl) rfl rfl) (q_cons (de_var (i := 2) rfl (.inl rfl) rfl rfl) da_nil)))) dss_nil)) dss_nil)) dss_nil)) dss_nil)) dss_nil)) (.as (i := 4) ⟨rfl, by decide, .inl X_InvalidSize.nm⟩ rfl rfl (dh_set (j := 3) g.nd rfl (.inl rfl) (dy_tup (dys_cons dy_str (dys_cons (dy_repr g.gd g.u70 rfl gs.repr_ (dy_of (dx_fld2 X_InvalidSize (fun a pn => pv 4 rfl (.inl rfl) rfl rfl)))) (dys_cons (dy_is X_I_InvalidSize_InsertionError (fun a pn => pv 4 rfl (.inl rfl) rfl rfl) rfl gs.isinstance_ rfl) dys_nil))))) (.as (i := 4) ⟨rfl, by decide, .inl X_InvalidNumber.nm⟩ rfl rfl (dh_set (j := 3) g.nd rfl (.inl rfl) (dy_tup (dys_cons dy_str (dys_cons (dy_repr g.gd g.u70 rfl gs.repr_ (dy_of (dx_fld2 X_InvalidNumber (fun a pn => pv 4 rfl (.inl rfl) rfl rfl)))) (dys_cons (dy_is X_I_InvalidNumber_InsertionError (fun a pn => pv 4 rfl (.inl rfl) rfl rfl) rfl gs.isinstance_ rfl) dys_nil))))) .nil)) (by decide)) (dss_cons (ds_ret (de_var (i := 3) rfl (.inl rfl) rfl rfl)) dss_nil)))
theorem cal__law_error {base : Heap} {fd : FuncData} {fa : Addr} (gs : Gs mg) (Fd : FnP K "_law_error" st__law_error fa fd) (hm : mg "_law_error" = some (.ref fa)) (C_height_counts : Cal P w K mg base c 4 "height_counts" none F_height_counts) (C_total_counts : Cal P w K mg base c 5 "total_counts" none F_total_counts) (C_least_total : Cal P w K mg base c 4 "least_total" none F_least_total) (C_greatest_total : Cal P w K mg base c 4 "greatest_total" none F_greatest_total) (C_depth_counts : Cal P w K mg base c 4 "depth_counts" none F_depth_counts) (X_InvalidSize : ExP P w K mg c "InvalidSize" "value" "value" "InsertionError" 0) (X_InvalidNumber : ExP P w K mg c "InvalidNumber" "value" "value" "InsertionError" 1) (X_M : ExM K c [0, 1]) (X_I_InvalidSize_InsertionError : IsP K mg c 0 "InsertionError") (X_I_InvalidNumber_InsertionError : IsP K mg c 1 "InsertionError") : Cal P w K mg base c 6 "_law_error" none F__law_error :=
  ⟨_, _, _, fng__law_error gs Fd C_height_counts C_total_counts C_least_total C_greatest_total C_depth_counts X_InvalidSize X_InvalidNumber X_M X_I_InvalidSize_InsertionError X_I_InvalidNumber_InsertionError, hm, Fd.kp, Fd.bindsN fun _ _ _ _ _ _ us hl => match us, hl with | [_, _, _], _ => rfl⟩
abbrev st__law_draw : Stmt := top 25
theorem sc__law_draw : FnScope ["_law_source", "_law_count", "_law_cell", "_law_digit"] ["_law_source", "_law_count"] (defScope st__law_draw) := ⟨rfl, rfl, rfl, by decide +kernel, rfl, by decide +kernel, by decide +kernel⟩
theorem fng__law_draw {base : Heap} {fd : FuncData} {fa : Addr} (gs : Gs mg) (Fd : FnP K "_law_draw" st__law_draw fa fd) : FnG P w K mg base 1 fa fd ["_law_source", "_law_count"] (spOf ⟨P, w, K, c⟩ (some 0) F__law_draw) := by
  refine fnG_vs (N := ["_law_source", "_law_count", "_law_cell", "_law_digit"]) Fd sc__law_draw rfl rfl rfl (fun cdv A outer s H E hr hg => ?_)
  have g := good_cx (P := P) (w := w) (K := K) (mg := mg) (base := base) (outer := outer) (s := s) (H := H) (E := E) sc__law_draw.nd hr hg
  exact (dss_cons (ds_if (DW.dt (dw_and (dt_cmp (eqOp_ok g.u64) (de_ix (dIdx_ok g.u1) (de_var (i := 0) rfl (.inl rfl) rfl rfl) q_int (fun _ _ => rfl)) q_int rfl) (dw_and1 (dt_cmp dLt_ok (de_ix (dIdx_ok g.u1) (de_var (i := 0) rfl (.inl rfl) rfl rfl) q_int (fun _ _ => rfl)) (q_callB bLenA_ok gs.len_ (q_cons (de_ix (dIdx_ok g.u1) (de_var (i := 0) rfl (.inl rfl) rfl rfl) q_int (fun _ _ => rfl)) da_nil)) rfl)))) (dss_cons (ds_set (i := 2) g.nd rfl (.inl rfl) (de_ix (dIdx_ok g.u1) (de_ix (dIdx_ok g.u1) (de_var (i := 0) rfl (.inl rfl) rfl rfl) q_int (fun _ _ => rfl)) (de_ix (dIdx_ok g.u1) (de_var (i := 0) rfl (.inl rfl) rfl rfl) q_int (fun _ _ => rfl)) (fun _ _ => rfl))) (dss_cons (ds_asg (de_bin dAdd_ok (de_ix (dIdx_ok g.u1) (de_var (i := 0) rfl (.inl rfl) rfl rfl) q_int (fun _ _ => rfl)) q_int) (dg_sub (wSet_ok g.u1) (pv 0 rfl (.inl rfl) rfl rfl) q_int)) (dss_cons (ds_if (dt_cmp dGe_ok (de_var (i := 2) rfl (.inl rfl) rfl rfl) (de_bin dPow_ok q_int q_int) rfl) (dss_cons (ds_asg (de_var (i := 2) rfl (.inl rfl) rfl rfl) (dg_sub (wSet_ok g.u1) (pv 0 rfl (.inl rfl) rfl rfl) q_int)) dss_nil) (dss_cons (ds_asg (de_bin dMod_ok (de_bin dAdd_ok (de_bin dMul_ok (de_ix (dIdx_ok g.u1) (de_var (i := 0) rfl (.inl rfl) rfl rfl) q_int (fun _ _ => rfl)) q_int) (de_var (i := 2) rfl (.inl rfl) rfl rfl)) q_int) (dg_sub (wSet_ok g.u1) (pv 0 rfl (.inl rfl) rfl rfl) q_int)) dss_nil)) dss_nil))) dss_nil) (dss_cons (ds_if (dt_cmp dGt_ok (de_ix (dIdx_ok g.u1) (de_var (i := 0) rfl (.inl rfl) rfl rfl) q_int (fun _ _ => rfl)) q_int rfl) (dss_cons (ds_set (i := 3) g.nd rfl (.inl rfl) (de_bin dMod_ok (de_ix (dIdx_ok g.u1) (de_var (i := 0) rfl (.inl rfl) rfl rfl) q_int (fun _ _ => rfl)) (de_var (i := 1) rfl (.inl rfl) rfl rfl))) (dss_cons (ds_asg (de_bin dDiv_ok (de_ix (dIdx_ok g.u1) (de_var (i := 0) rfl (.inl rfl) rfl rfl) q_int (fun _ _ => rfl)) (de_var (i := 1) rfl (.inl rfl) rfl rfl)) (dg_sub (wSet_ok g.u1) (pv 0 rfl (.inl rfl) rfl rfl) q_int)) (dss_cons (ds_ret (de_var (i := 3) rfl (.inl rfl) rfl rfl)) dss_nil))) dss_nil) (dss_cons (ds_asg (de_bin dMod_ok (de_bin dAdd_ok (de_bin dMul_ok (de_ix (dIdx_ok g.u1) (de_var (i := 0) rfl (.inl rfl) rfl rfl) q_int (fun _ _ => rfl)) q_int) q_int) q_int) (dg_sub (wSet_ok g.u1) (pv 0 rfl (.inl rfl) rfl rfl) q_int)) (dss_cons (ds_ret (de_bin dMod_ok (de_bin dMod_ok (de_bin dMul_ok (de_ix (dIdx_ok g.u1) (de_var (i := 0) rfl (.inl rfl) rfl rfl) q_int (fun _ _ => rfl)) q_int) q_int) (de_var (i := 1) rfl (.inl rfl) rfl rfl))) dss_nil))))
theorem cal__law_draw {base : Heap} {fd : FuncData} {fa : Addr} (gs : Gs mg) (Fd : FnP K "_law_draw" st__law_draw fa fd) (hm : mg "_law_draw" = some (.ref fa)) : Cal P w K mg base c 1 "_law_draw" (some 0) F__law_draw :=
  ⟨_, _, _, fng__law_draw gs Fd, hm, Fd.kp, Fd.bindsN fun _ _ _ _ _ _ us hl => match us, hl with | [_, _], _ => rfl⟩
abbrev st_law : Stmt := top 27
theorem sc_law : FnScope ["_law_script", "_law_source", "_law_limits", "_law_direction", "_law_wrong", "_law_size", "_law_rank"] ["_law_script"] (defScope st_law) := ⟨rfl, rfl, rfl, by decide +kernel, rfl, by decide +kernel, by decide +kernel⟩
theorem fng_law {base : Heap} {fd : FuncData} {fa : Addr} (gs : Gs mg) (Fd : FnP K "law" st_law fa fd) (C__law_box : Cal P w K mg base c 1 "_law_box" none F__law_box) (C__law_error : Cal P w K mg base c 6 "_law_error" none F__law_error) (C__law_draw : Cal P w K mg base c 1 "_law_draw" (some 0) F__law_draw) : FnG P w K mg base 7 fa fd ["_law_script"] (spOf ⟨P, w, K, c⟩ none F_law) := by
  refine fnG_vs (N := ["_law_script", "_law_source", "_law_limits", "_law_direction", "_law_wrong", "_law_size", "_law_rank"]) Fd sc_law rfl rfl rfl (fun cdv A outer s H E hr hg => ?_)
  have g := good_cx (P := P) (w := w) (K := K) (mg := mg) (base := base) (outer := outer) (s := s) (H := H) (E := E) sc_law.nd hr hg
  exact (dss_cons (ds_set (i := 1) g.nd rfl (.inl rfl) (de_call C__law_box (g.room.mono (by decide)) g.gd rfl g.tk (q_cons (de_var (i := 0) rfl (.inl rfl) rfl rfl) da_nil))) (dss_cons (ds_set (i := 2) g.nd rfl (.inl rfl) (de_lst (q_cons q_int (q_cons q_int (q_cons q_int (q_cons q_int (q_cons q_int da_nil))))))) (dss_cons (ds_for g.pass g.calm (di_range1 rfl gs.range_ q_int) (dg_name (i := 3) g.nd rfl (.inl rfl)) (dss_cons (ds_set (i := 4) g.nd rfl (.inl rfl) (de_lst (q_cons (de_bin dAdd_ok (de_ix (dIdx_ok g.u1) (de_var (i := 2) rfl (.inl rfl) rfl rfl) (de_var (i := 3) rfl (.inl rfl) rfl rfl) (fun _ _ => rfl)) q_int) (q_cons (de_bin dSub_ok q_int q_int) (q_cons q_bl (q_cons q_bl (q_cons q_non (q_cons q_str (q_cons (de_tup (q_cons q_int da_nil)) (q_cons (de_lst (q_cons q_int da_nil)) (q_cons (de_bin dPow_ok q_int q_int) (q_cons (de_bin dSub_ok q_int (de_bin dPow_ok q_int q_int)) da_nil)))))))))))) (dss_cons (ds_if (dt_cmp (eqOp_ok g.u64) (de_var (i := 3) rfl (.inl rfl) rfl rfl) q_int rfl) (dss_cons (ds_expr (q_append (pv 4 rfl (.inl rfl) rfl rfl) q_int)) dss_nil) dss_nil) (dss_cons (ds_for g.pass g.calm (di_list (de_var (i := 4) rfl (.inl rfl) rfl rfl)) (dg_name (i := 5) g.nd rfl (.inl rfl)) (dss_cons (ds_if (dt_cmp (neOp_ok g.u64) (de_call C__law_error (g.room.mono (by decide)) g.gd rfl g.tk (q_cons (de_var (i := 3) rfl (.inl rfl) rfl rfl) (q_cons (de_var (i := 5) rfl (.inl rfl) rfl rfl) (q_cons q_non da_nil)))) (de_tup (q_cons q_str (q_cons (q_callB (bRepr_ok g.gd g.u70) gs.repr_ (q_cons (de_var (i := 5) rfl (.inl rfl) rfl rfl) da_nil)) (q_cons q_bl da_nil)))) rfl) (dss_cons (ds_ret q_bl) dss_nil) dss_nil) dss_nil)) (dss_cons (ds_set (i := 5) g.nd rfl (.inl rfl) (de_bin dAdd_ok q_int (de_call C__law_draw (g.room.mono (by decide)) g.gd rfl g.tk (q_cons (de_var (i := 1) rfl (.inl rfl) rfl rfl) (q_cons q_int da_nil))))) (dss_cons (ds_if (dt_cmp (neOp_ok g.u64) (de_call C__law_error (g.room.mono (by decide)) g.gd rfl g.tk (q_cons (de_var (i := 3) rfl (.inl rfl) rfl rfl) (q_cons (de_var (i := 5) rfl (.inl rfl) rfl rfl) (q_cons q_int da_nil)))) q_str rfl) (dss_cons (ds_ret q_bl) dss_nil) dss_nil) (dss_cons (ds_if (DW.dt (dw_and (dt_cmp dLt_ok (de_var (i := 3) rfl (.inl rfl) rfl rfl) q_int rfl) (dw_and1 (dt_cmp (neOp_ok g.u64) (de_call C__law_error (g.room.mono (by decide)) g.gd rfl g.tk (q_cons (de_var (i := 3) rfl (.inl rfl) rfl rfl) (q_cons q_int (q_cons q_int da_nil)))) q_str rfl)))) (dss_cons (ds_ret q_bl) dss_nil) dss_nil) dss_nil))))))) (dss_cons (ds_set (i := 5) g.nd rfl (.inl rfl) (de_bin dAdd_ok q_int (de_call C__law_draw (g.room.mono (by decide)) g.gd rfl g.tk (q_cons (de_var (i := 1) rfl (.inl rfl) rfl rfl) (q_cons q_int da_nil))))) (dss_cons (ds_for g.pass g.calm (di_list (de_lst (q_cons (de_var (i := 5) rfl (.inl rfl) rfl rfl) (q_cons (de_bin dSub_ok q_int q_int) (q_cons q_bl (q_cons q_bl (q_cons q_non (q_cons q_str (q_cons (de_tup (q_cons q_int da_nil)) (q_cons (de_lst (q_cons q_int da_nil)) (q_cons (de_bin dPow_ok q_int q_int) da_nil))))))))))) (dg_name (i := 6) g.nd rfl (.inl rfl)) (dss_cons (ds_if (dt_cmp (neOp_ok g.u64) (de_call C__law_error (g.room.mono (by decide)) g.gd rfl g.tk (q_cons q_int (q_cons (de_var (i := 5) rfl (.inl rfl) rfl rfl) (q_cons (de_var (i := 6) rfl (.inl rfl) rfl rfl) da_nil)))) (de_tup (q_cons q_str (q_cons (q_callB (bRepr_ok g.gd g.u70) gs.repr_ (q_cons (de_var (i := 6) rfl (.inl rfl) rfl rfl) da_nil)) (q_cons q_bl da_nil)))) rfl) (dss_cons (ds_ret q_bl) dss_nil) dss_nil) dss_nil)) (dss_cons (ds_for g.pass g.calm (di_range1 rfl gs.range_ (de_var (i := 5) rfl (.inl rfl) rfl rfl)) (dg_name (i := 6) g.nd rfl (.inl rfl)) (dss_cons (ds_if (dt_cmp (neOp_ok g.u64) (de_call C__law_error (g.room.mono (by decide)) g.gd rfl g.tk (q_cons q_int (q_cons (de_var (i := 5) rfl (.inl rfl) rfl rfl) (q_cons (de_var (i := 6) rfl (.inl rfl) rfl rfl) da_nil)))) q_str rfl) (dss_cons (ds_ret q_bl) dss_nil) dss_nil) dss_nil)) (dss_cons (ds_if (dt_cmp (eqOp_ok g.u64) (de_call C__law_draw (g.room.mono (by decide)) g.gd rfl g.tk (q_cons (de_var (i := 1) rfl (.inl rfl) rfl rfl) (q_cons q_int da_nil))) q_int rfl) (dss_cons (ds_for g.pass g.calm (di_range1 rfl gs.range_ q_int) (dg_name (i := 3) g.nd rfl (.inl rfl)) (dss_cons (ds_if (dt_cmp (neOp_ok g.u64) (de_call C__law_error (g.room.mono (by decide)) g.gd rfl g.tk (q_cons (de_var (i := 3) rfl (.inl rfl) rfl rfl) (q_cons (de_ix (dIdx_ok g.u1) (de_var (i := 2) rfl (.inl rfl) rfl rfl) (de_var (i := 3) rfl (.inl rfl) rfl rfl) (fun _ _ => rfl)) (q_cons q_int da_nil)))) q_str rfl) (dss_cons (ds_ret q_bl) dss_nil) dss_nil) dss_nil)) (dss_cons (ds_ret (de_cmp (eqOp_ok g.u64) (de_call C__law_error (g.room.mono (by decide)) g.gd rfl g.tk (q_cons q_int (q_cons q_int (q_cons q_int da_nil)))) q_str rfl)) dss_nil)) dss_nil) (dss_cons (ds_ret q_bl) dss_nil))))))))
theorem cal_law {base : Heap} {fd : FuncData} {fa : Addr} (gs : Gs mg) (Fd : FnP K "law" st_law fa fd) (hm : mg "law" = some (.ref fa)) (C__law_box : Cal P w K mg base c 1 "_law_box" none F__law_box) (C__law_error : Cal P w K mg base c 6 "_law_error" none F__law_error) (C__law_draw : Cal P w K mg base c 1 "_law_draw" (some 0) F__law_draw) : Cal P w K mg base c 7 "law" none F_law :=
  ⟨_, _, _, fng_law gs Fd C__law_box C__law_error C__law_draw, hm, Fd.kp, Fd.bindsN fun _ _ _ _ _ _ us hl => match us, hl with | [_], _ => rfl⟩
end
/-! ### the head -/
def d__law_box : He.DefD := ⟨("_law_box", none), "_law_box", "_law_box", defArgs st__law_box, defBody st__law_box, defScope st__law_box, [], []⟩
def d_is_integer : He.DefD := ⟨("is_integer", none), "is_integer", "is_integer", defArgs st_is_integer, defBody st_is_integer, defScope st_is_integer, [], []⟩
def d_is_between : He.DefD := ⟨("is_between", none), "is_between", "is_between", defArgs st_is_between, defBody st_is_between, defScope st_is_between, [], []⟩
def d_check_size : He.DefD := ⟨("check_size", none), "check_size", "check_size", defArgs st_check_size, defBody st_check_size, defScope st_check_size, [], []⟩
def d_binomial : He.DefD := ⟨("binomial", none), "binomial", "binomial", defArgs st_binomial, defBody st_binomial, defScope st_binomial, [], []⟩
def d_counts_up_to : He.DefD := ⟨("counts_up_to", none), "counts_up_to", "counts_up_to", defArgs st_counts_up_to, defBody st_counts_up_to, defScope st_counts_up_to, [], []⟩
def d_height_counts : He.DefD := ⟨("height_counts", none), "height_counts", "height_counts", defArgs st_height_counts, defBody st_height_counts, defScope st_height_counts, [], []⟩
def d_greatest_total : He.DefD := ⟨("greatest_total", none), "greatest_total", "greatest_total", defArgs st_greatest_total, defBody st_greatest_total, defScope st_greatest_total, [], []⟩
def d_add_shifted : He.DefD := ⟨("add_shifted", none), "add_shifted", "add_shifted", defArgs st_add_shifted, defBody st_add_shifted, defScope st_add_shifted, [], []⟩
def d_product : He.DefD := ⟨("product", none), "product", "product", defArgs st_product, defBody st_product, defScope st_product, [], []⟩
def d_total_counts : He.DefD := ⟨("total_counts", none), "total_counts", "total_counts", defArgs st_total_counts, defBody st_total_counts, defScope st_total_counts, [], []⟩
def d_least_total : He.DefD := ⟨("least_total", none), "least_total", "least_total", defArgs st_least_total, defBody st_least_total, defScope st_least_total, [], []⟩
def d_factorial : He.DefD := ⟨("factorial", none), "factorial", "factorial", defArgs st_factorial, defBody st_factorial, defScope st_factorial, [], []⟩
def d_depth_rows : He.DefD := ⟨("depth_rows", none), "depth_rows", "depth_rows", defArgs st_depth_rows, defBody st_depth_rows, defScope st_depth_rows, [], []⟩
def d_depth_counts : He.DefD := ⟨("depth_counts", none), "depth_counts", "depth_counts", defArgs st_depth_counts, defBody st_depth_counts, defScope st_depth_counts, [], []⟩
def d__law_error : He.DefD := ⟨("_law_error", none), "_law_error", "_law_error", defArgs st__law_error, defBody st__law_error, defScope st__law_error, [], []⟩
def d__law_draw : He.DefD := ⟨("_law_draw", none), "_law_draw", "_law_draw", defArgs st__law_draw, defBody st__law_draw, defScope st__law_draw, [], []⟩
def d_law : He.DefD := ⟨("law", none), "law", "law", defArgs st_law, defBody st_law, defScope st_law, [], []⟩
def di_InvalidSize : He.DefD := ⟨("InvalidSize", some "__init__"), "__init__", "InvalidSize.__init__", defArgs sti_InvalidSize, defBody sti_InvalidSize, defScope sti_InvalidSize, [], []⟩
def di_InvalidNumber : He.DefD := ⟨("InvalidNumber", some "__init__"), "__init__", "InvalidNumber.__init__", defArgs sti_InvalidNumber, defBody sti_InvalidNumber, defScope sti_InvalidNumber, [], []⟩
def fn : List He.DefD := [d__law_box, d_is_integer, d_is_between, d_check_size, d_binomial, d_counts_up_to, d_height_counts, d_greatest_total, d_add_shifted, d_product, d_total_counts, d_least_total, d_factorial, d_depth_rows, d_depth_counts, d__law_error, d__law_draw, d_law, di_InvalidSize, di_InvalidNumber]
def ccK (K : PySem.W.Frag) : Nat → Value := fun n => match n with | 0 => .ref (He.ga K "InvalidSize") | 1 => .ref (He.ga K "InvalidNumber") | _ => .none
def fx (K : PySem.W.Frag) : Bool := exF "InvalidSize" "InsertionError" "value" K && exF "InvalidNumber" "InsertionError" "value" K && exMB K (ccK K) [0, 1] && isOB K (He.ga K "InvalidSize") (He.ga K "InsertionError") && isOB K (He.ga K "InvalidNumber") (He.ga K "InsertionError")
def fa : List He.Fa := [.glo "_law_box", .glo "is_integer", .glo "is_between", .glo "check_size", .glo "binomial", .glo "counts_up_to", .glo "height_counts", .glo "greatest_total", .glo "add_shifted", .glo "product", .glo "total_counts", .glo "least_total", .glo "factorial", .glo "depth_rows", .glo "depth_counts", .glo "_law_error", .glo "_law_draw", .glo "law", .free "abs", .free "isinstance", .free "bool", .free "int", .free "range", .free "sum", .free "zip", .free "enumerate", .free "len", .free "min", .free "repr", .int "MAX_SIZE" 30, .int "MAX_KEYS" 40, .int "MAX_TOTALS_SIZE" 16, .glo "InvalidSize", .glo "InvalidNumber", .glo "InsertionError"]
abbrev R : PySem.W.OpenRow := PySem.W.OpenLaw.row PySem.Challenge.rw_insertionorders_k71_sizes_and_ranks_chec
abbrev hk : PySem.W.Hook := VS.hookX 5 fa fn fx
def ob (s : PySem.W.SharedT) : He.AlD := VS.obsXG 5 fa fn fx (HandSHeadRun.getT s)
theorem ob_eq (s : PySem.W.SharedT) : ob s = hk.obs s.abs := VS.obsXG_eq (HandSHeadRun.getT_eq s)
def loose : List Str := [(Str.ofString "InsertionError"), (Str.ofString "InvalidNumber"), (Str.ofString "InvalidSize"), (Str.ofString "MAX_KEYS"), (Str.ofString "is_integer"), (Str.ofString "is_between"), (Str.ofString "factorial"), (Str.ofString "MAX_SIZE"), (Str.ofString "MAX_TOTALS_SIZE"), (Str.ofString "binomial"), (Str.ofString "check_size"), (Str.ofString "counts_up_to"), (Str.ofString "height_counts"), (Str.ofString "product"), (Str.ofString "add_shifted"), (Str.ofString "total_counts"), (Str.ofString "depth_rows"), (Str.ofString "depth_counts"), (Str.ofString "least_total"), (Str.ofString "greatest_total"), (Str.ofString "_law_box"), (Str.ofString "_law_draw"), (Str.ofString "_law_error")]
theorem run (w : World) : HandSHeadRun.RunEq R (PySem.W.view R.prog [27]) hk ob 4000 loose w := by
  intro os
  kernel_rfl
theorem gs_of {K : PySem.W.Frag} {h : Heap} {mg : Str → Option Value} (X : K.In h) (G : h.Ns mainGlobals mg) (c : He.SaysD fa fn K) : Gs mg :=
  ⟨He.free_ok X G (c.fact 18 (f := .free "abs") rfl),
   He.free_ok X G (c.fact 19 (f := .free "isinstance") rfl),
   He.free_ok X G (c.fact 20 (f := .free "bool") rfl),
   He.free_ok X G (c.fact 21 (f := .free "int") rfl),
   He.free_ok X G (c.fact 22 (f := .free "range") rfl),
   He.free_ok X G (c.fact 23 (f := .free "sum") rfl),
   He.free_ok X G (c.fact 24 (f := .free "zip") rfl),
   He.free_ok X G (c.fact 25 (f := .free "enumerate") rfl),
   He.free_ok X G (c.fact 26 (f := .free "len") rfl),
   He.free_ok X G (c.fact 27 (f := .free "min") rfl),
   He.free_ok X G (c.fact 28 (f := .free "repr") rfl),
   He.int_ok X G (c.fact 29 (f := .int "MAX_SIZE" 30) rfl),
   He.int_ok X G (c.fact 30 (f := .int "MAX_KEYS" 40) rfl),
   He.int_ok X G (c.fact 31 (f := .int "MAX_TOTALS_SIZE" 16) rfl)⟩
theorem facts {P : Program} {w : World} {K : PySem.W.Frag} {h : Heap} {mg : Str → Option Value} {f : Addr} {cc : Nat → Value} (X : K.In h) (G : h.Ns mainGlobals mg) (hfa : mg ("law" : Str) = some (.ref f)) (c0 : VS.SaysX fa fn fx K) :
    ∃ fd : FuncData, (∀ (s : Shared) (v : Value), BindsTo s fd ⟨[v], []⟩ [("_law_script", v)]) ∧ ∀ base : Heap, K.In base → base.Ns mainGlobals mg → FnG P w K mg base 7 f fd ["_law_script"] (spOf ⟨P, w, K, ccK K⟩ none F_law) := by
  obtain ⟨c, cx⟩ := c0.split
  have gs := gs_of X G c
  obtain ⟨fd__law_box, D__law_box⟩ := c.def_ 0 (d := d__law_box) rfl
  have m__law_box := He.glo_ok X G (c.fact 0 (f := .glo "_law_box") rfl)
  obtain ⟨fd_is_integer, D_is_integer⟩ := c.def_ 1 (d := d_is_integer) rfl
  have m_is_integer := He.glo_ok X G (c.fact 1 (f := .glo "is_integer") rfl)
  obtain ⟨fd_is_between, D_is_between⟩ := c.def_ 2 (d := d_is_between) rfl
  have m_is_between := He.glo_ok X G (c.fact 2 (f := .glo "is_between") rfl)
  obtain ⟨fd_check_size, D_check_size⟩ := c.def_ 3 (d := d_check_size) rfl
  have m_check_size := He.glo_ok X G (c.fact 3 (f := .glo "check_size") rfl)
  obtain ⟨fd_binomial, D_binomial⟩ := c.def_ 4 (d := d_binomial) rfl
  have m_binomial := He.glo_ok X G (c.fact 4 (f := .glo "binomial") rfl)
  obtain ⟨fd_counts_up_to, D_counts_up_to⟩ := c.def_ 5 (d := d_counts_up_to) rfl
  have m_counts_up_to := He.glo_ok X G (c.fact 5 (f := .glo "counts_up_to") rfl)
  obtain ⟨fd_height_counts, D_height_counts⟩ := c.def_ 6 (d := d_height_counts) rfl
  have m_height_counts := He.glo_ok X G (c.fact 6 (f := .glo "height_counts") rfl)
  obtain ⟨fd_greatest_total, D_greatest_total⟩ := c.def_ 7 (d := d_greatest_total) rfl
  have m_greatest_total := He.glo_ok X G (c.fact 7 (f := .glo "greatest_total") rfl)
  obtain ⟨fd_add_shifted, D_add_shifted⟩ := c.def_ 8 (d := d_add_shifted) rfl
  have m_add_shifted := He.glo_ok X G (c.fact 8 (f := .glo "add_shifted") rfl)
  obtain ⟨fd_product, D_product⟩ := c.def_ 9 (d := d_product) rfl
  have m_product := He.glo_ok X G (c.fact 9 (f := .glo "product") rfl)
  obtain ⟨fd_total_counts, D_total_counts⟩ := c.def_ 10 (d := d_total_counts) rfl
  have m_total_counts := He.glo_ok X G (c.fact 10 (f := .glo "total_counts") rfl)
  obtain ⟨fd_least_total, D_least_total⟩ := c.def_ 11 (d := d_least_total) rfl
  have m_least_total := He.glo_ok X G (c.fact 11 (f := .glo "least_total") rfl)
  obtain ⟨fd_factorial, D_factorial⟩ := c.def_ 12 (d := d_factorial) rfl
  have m_factorial := He.glo_ok X G (c.fact 12 (f := .glo "factorial") rfl)
  obtain ⟨fd_depth_rows, D_depth_rows⟩ := c.def_ 13 (d := d_depth_rows) rfl
  have m_depth_rows := He.glo_ok X G (c.fact 13 (f := .glo "depth_rows") rfl)
  obtain ⟨fd_depth_counts, D_depth_counts⟩ := c.def_ 14 (d := d_depth_counts) rfl
  have m_depth_counts := He.glo_ok X G (c.fact 14 (f := .glo "depth_counts") rfl)
  obtain ⟨fd__law_error, D__law_error⟩ := c.def_ 15 (d := d__law_error) rfl
  have m__law_error := He.glo_ok X G (c.fact 15 (f := .glo "_law_error") rfl)
  obtain ⟨fd__law_draw, D__law_draw⟩ := c.def_ 16 (d := d__law_draw) rfl
  have m__law_draw := He.glo_ok X G (c.fact 16 (f := .glo "_law_draw") rfl)
  obtain ⟨fd_law, D_law⟩ := c.def_ 17 (d := d_law) rfl
  have m_law := He.glo_ok X G (c.fact 17 (f := .glo "law") rfl)
  have m_InvalidSize := He.glo_ok X G (c.fact 32 (f := .glo "InvalidSize") rfl)
  have m_InvalidNumber := He.glo_ok X G (c.fact 33 (f := .glo "InvalidNumber") rfl)
  have m_InsertionError := He.glo_ok X G (c.fact 34 (f := .glo "InsertionError") rfl)
  simp only [fx, Bool.and_eq_true] at cx
  obtain ⟨fd_InvalidSize, D_InvalidSize⟩ := c.def_ 18 (d := di_InvalidSize) rfl
  have X_InvalidSize := exp_InvalidSize (P := P) (w := w) (c := ccK K) (exF_ok cx.1.1.1.1).1 m_InvalidSize m_InsertionError D_InvalidSize rfl (exF_ok cx.1.1.1.1).2
  obtain ⟨fd_InvalidNumber, D_InvalidNumber⟩ := c.def_ 19 (d := di_InvalidNumber) rfl
  have X_InvalidNumber := exp_InvalidNumber (P := P) (w := w) (c := ccK K) (exF_ok cx.1.1.1.2).1 m_InvalidNumber m_InsertionError D_InvalidNumber rfl (exF_ok cx.1.1.1.2).2
  have X_M := exM_ok cx.1.1.2
  have X_I_InvalidSize_InsertionError : IsP K mg (ccK K) 0 "InsertionError" := isO_ok cx.1.2 rfl m_InsertionError
  have X_I_InvalidNumber_InsertionError : IsP K mg (ccK K) 1 "InsertionError" := isO_ok cx.2 rfl m_InsertionError
  have e := hfa.symm.trans m_law
  cases e
  have b := FunD.bindsA (ps := ["_law_script"]) D_law fun _ _ _ _ _ _ us hl => match us, hl with | [_], _ => rfl
  refine ⟨fd_law, fun s v => b s [v] rfl, fun base _ _ => ?_⟩
  have C__law_box : Cal P w K mg base (ccK K) 1 "_law_box" none F__law_box := cal__law_box gs D__law_box m__law_box
  have C_is_integer : Cal P w K mg base (ccK K) 1 "is_integer" none F_is_integer := cal_is_integer gs D_is_integer m_is_integer
  have C_is_between : Cal P w K mg base (ccK K) 2 "is_between" none F_is_between := cal_is_between gs D_is_between m_is_between C_is_integer
  have C_check_size : Cal P w K mg base (ccK K) 3 "check_size" none F_check_size := cal_check_size gs D_check_size m_check_size C_is_between X_InvalidSize
  have C_binomial : Cal P w K mg base (ccK K) 1 "binomial" none F_binomial := cal_binomial gs D_binomial m_binomial
  have C_counts_up_to : Cal P w K mg base (ccK K) 2 "counts_up_to" none F_counts_up_to := cal_counts_up_to gs D_counts_up_to m_counts_up_to C_binomial
  have C_height_counts : Cal P w K mg base (ccK K) 4 "height_counts" none F_height_counts := cal_height_counts gs D_height_counts m_height_counts C_check_size C_counts_up_to
  have C_greatest_total : Cal P w K mg base (ccK K) 4 "greatest_total" none F_greatest_total := cal_greatest_total gs D_greatest_total m_greatest_total C_check_size
  have C_add_shifted : Cal P w K mg base (ccK K) 1 "add_shifted" (some 0) F_add_shifted := cal_add_shifted gs D_add_shifted m_add_shifted
  have C_product : Cal P w K mg base (ccK K) 1 "product" none F_product := cal_product gs D_product m_product
  have C_total_counts : Cal P w K mg base (ccK K) 5 "total_counts" none F_total_counts := cal_total_counts gs D_total_counts m_total_counts C_check_size C_greatest_total C_add_shifted C_binomial C_product
  have C_least_total : Cal P w K mg base (ccK K) 4 "least_total" none F_least_total := cal_least_total gs D_least_total m_least_total C_check_size
  have C_factorial : Cal P w K mg base (ccK K) 1 "factorial" none F_factorial := cal_factorial gs D_factorial m_factorial
  have C_depth_rows : Cal P w K mg base (ccK K) 2 "depth_rows" none F_depth_rows := cal_depth_rows gs D_depth_rows m_depth_rows C_factorial C_add_shifted
  have C_depth_counts : Cal P w K mg base (ccK K) 4 "depth_counts" none F_depth_counts := cal_depth_counts gs D_depth_counts m_depth_counts C_check_size C_is_between C_depth_rows X_InvalidNumber
  have C__law_error : Cal P w K mg base (ccK K) 6 "_law_error" none F__law_error := cal__law_error gs D__law_error m__law_error C_height_counts C_total_counts C_least_total C_greatest_total C_depth_counts X_InvalidSize X_InvalidNumber X_M X_I_InvalidSize_InsertionError X_I_InvalidNumber_InsertionError
  have C__law_draw : Cal P w K mg base (ccK K) 1 "_law_draw" (some 0) F__law_draw := cal__law_draw gs D__law_draw m__law_draw
  exact fng_law gs D_law C__law_box C__law_error C__law_draw
/-! ### the second prelude -/
abbrev srcD (cs : List Int) (i h s : Int) : D := .lst [.lst (dI cs), .int i, .int h, .int s]
structure Src (cs : List Int) (i h s : Int) : Prop where
  i0 : 0 ≤ i
  len : cs.length ≤ 63
  cell : ∀ c ∈ cs, 0 ≤ c ∧ c.natAbs.log2 ≤ 1048576
  h0 : 0 ≤ h
  s0 : 0 ≤ s
  s1 : s < 2147483647
theorem at2 {a b c d : D} : atI [a, b, c, d] 2 = some c := rfl
theorem at3 {a b c d : D} : atI [a, b, c, d] 3 = some d := rfl
theorem ix41 : ixN 4 1 = some 1 := rfl
theorem ix42 : ixN 4 2 = some 2 := rfl
theorem ix43 : ixN 4 3 = some 3 := rfl
theorem pow18 : powOk 10 18 = true := by decide
theorem draw_ok {cs : List Int} {i h s n : Int} (S : Src cs i h s) (hn : 0 < n) (hn2 : n ≤ 1000000000000000000000000000000) :
    ∃ r i' h' s', F__law_draw [srcD cs i h s, .int n] = .ok (.int r) false (srcD cs i' h' s') ∧ 0 ≤ r ∧ r < n ∧ Src cs i' h' s' := by
  have hd : ∀ x : Int, divOk x n = true := fun x => divOk_of (j := 100) hn (by omega) (by decide)
  have last : ∀ s : Int, 0 ≤ s → s < 2147483647 → 0 ≤ (s * 48271 + 11) % 2147483647 ∧ (s * 48271 + 11) % 2147483647 < 2147483647 ∧ mulOk s 48271 = true ∧ mulOk ((s * 48271 + 11) % 2147483647) 69621 = true := fun s h0 h1 => by
    have a1 := Int.emod_nonneg (s * 48271 + 11) (show (2147483647 : Int) ≠ 0 by decide)
    have a2 := Int.emod_lt_of_pos (s * 48271 + 11) (show (0 : Int) < 2147483647 by decide)
    exact ⟨a1, a2, mulOk_of (i := 31) (j := 17) (by omega) (by decide) (by decide), mulOk_of (i := 31) (j := 17) (by omega) (by decide) (by decide)⟩
  have i0 := S.i0
  by_cases hz : h = 0
  · subst hz
    by_cases hi : i < (cs.length : Int)
    · obtain ⟨c, cm, ec⟩ := atI_dI i0 hi
      obtain ⟨c0, c1⟩ := S.cell c cm
      obtain ⟨m1, m2, m3, m4⟩ := last s S.s0 S.s1
      by_cases hc : 1000000000000000000 ≤ c
      · have hc2 : 0 < c := by omega
        refine ⟨c % n, i + 1, c / n, s, ?_, Int.emod_nonneg _ (by omega), Int.emod_lt_of_pos _ hn, ⟨by omega, S.len, S.cell, Int.ediv_nonneg c0 (by omega), S.s0, S.s1⟩⟩
        simp only [dI] at ec
        simp [F__law_draw, fnOf, startE, u_B__law_draw, at2, at3, ix41, ix42, ix43, hi, ec, y_pow pow18, hc, hc2, hn, y_div (hd _)]
      · have b1 := Int.emod_nonneg (s * 48271 + c) (show (2147483647 : Int) ≠ 0 by decide)
        have b2 := Int.emod_lt_of_pos (s * 48271 + c) (show (0 : Int) < 2147483647 by decide)
        obtain ⟨k1, k2, k3, k4⟩ := last _ b1 b2
        refine ⟨((s * 48271 + c) % 2147483647 * 48271 + 11) % 2147483647 * 69621 % 2147483647 % n, i + 1, 0, ((s * 48271 + c) % 2147483647 * 48271 + 11) % 2147483647, ?_, Int.emod_nonneg _ (by omega), Int.emod_lt_of_pos _ hn, ⟨by omega, S.len, S.cell, by decide, k1, k2⟩⟩
        simp only [dI] at ec
        simp [F__law_draw, fnOf, startE, u_B__law_draw, at2, at3, ix41, ix42, ix43, hi, ec, y_pow pow18, hc, hn, y_mul m3, y_mul k3, y_mul k4]
    · obtain ⟨m1, m2, m3, m4⟩ := last s S.s0 S.s1
      refine ⟨(s * 48271 + 11) % 2147483647 * 69621 % 2147483647 % n, i, 0, (s * 48271 + 11) % 2147483647, ?_, Int.emod_nonneg _ (by omega), Int.emod_lt_of_pos _ hn, ⟨i0, S.len, S.cell, by decide, m1, m2⟩⟩
      simp [F__law_draw, fnOf, startE, u_B__law_draw, at2, at3, ix41, ix42, ix43, hi, hn, y_mul m3, y_mul m4]
  · have hp : 0 < h := by have := S.h0; omega
    refine ⟨h % n, i, h / n, s, ?_, Int.emod_nonneg _ (by omega), Int.emod_lt_of_pos _ hn, ⟨i0, S.len, S.cell, Int.ediv_nonneg S.h0 (by omega), S.s0, S.s1⟩⟩
    simp [F__law_draw, fnOf, startE, u_B__law_draw, at2, at3, ix41, ix42, ix43, hz, hp, hn, y_div (hd _)]
theorem box_ok {ns : List Int} (hl : ns.length ≤ 63) (hb : ∀ z ∈ ns, z.natAbs.log2 ≤ 1048576) : ∃ cs, F__law_box [.scr ns] = .ok (srcD cs 0 0 7) true .non ∧ Src cs 0 0 7 := by
  refine ⟨ns.map fun z => if z < 0 then -z else z, ?_, by decide, by simpa using hl, ?_, by decide, by decide, by decide⟩
  · have e := dLc_ok (vs := [1]) (it := dIt itemsL (dSl (dVar 0) none (some (dConst (.int 63))))) (g := gName' 1) (t := tNoIf) (f := e__law_box_1) (env := [some (.scr ns, .frz), none]) (env1 := [some (.scr ns, .frz), none]) (ds := dI ns) (fun _ => true) (fun d => .int (if VS.intD d < 0 then -(VS.intD d) else VS.intD d)) (by
      have : VS.cutD ns none (some 63) = ns := by
        show VS.cutD ns none (some ((63 : Nat) : Int)) = ns
        rw [cutD_take]; exact List.take_of_length_le hl
      have e : dSlice (.scr ns) none (some 63) = some (.lst (dI ns), true) := by
        show some (D.lst ((VS.cutD ns none (some 63)).map .int), true) = _
        rw [this]
      simp [e]) (by simp) (by simp; omega) (by
      intro d hd
      obtain ⟨k, hk, rfl⟩ := mem_dI hd
      exact ⟨[some (.scr ns, .frz), some (.int k, .frz)], by simp [tNoIf], by simp, fun _ => ⟨.fz (.int (if k < 0 then -k else k)), _, _, by simp [e__law_box_1]; rfl, rfl, by simp⟩⟩)
    have e2 : ((dI ns).filter fun _ => true).map (fun d => D.int (if VS.intD d < 0 then -(VS.intD d) else VS.intD d)) = dI (ns.map fun z => if z < 0 then -z else z) := by
      rw [filter_true]; unfold dI; rw [List.map_map, List.map_map]; rfl
    rw [e2] at e
    simp only [srcD, dI] at e ⊢
    generalize List.map D.int (ns.map fun z => if z < 0 then -z else z) = DD at e ⊢
    simp [F__law_box, fnOf, startE, u_B__law_box, e, le24_of]
  · intro c hc
    obtain ⟨z, hz, rfl⟩ := List.mem_map.mp hc
    have := hb z hz
    by_cases h : z < 0
    · rw [if_pos h]; exact ⟨by omega, by rw [Int.natAbs_neg]; exact this⟩
    · rw [if_neg h]; exact ⟨by omega, this⟩
theorem itR_succ (lo : Int) (n : Nat) : itRange lo (n + 1) = .int lo :: itRange (lo + 1) n := by
  unfold itRange
  rw [List.range_succ_eq_map, List.map_cons, List.map_map]
  congr 1
  · show D.int (lo + ((0 : Nat) : Int)) = _
    congr 1; omega
  · refine List.map_congr_left fun k _ => ?_
    show D.int (lo + ((k + 1 : Nat) : Int)) = D.int (lo + 1 + (k : Nat))
    congr 1; omega
/-! ### factorials -/
def fct : Nat → Nat
  | 0 => 1
  | n + 1 => (n + 1) * fct n
/-! ### factorials, read -/
theorem fct_le : ∀ n : Nat, n ≤ 60 → fct n ≤ 2 ^ (6 * n)
  | 0, _ => Nat.le_refl _
  | n + 1, h => by
    have ih := fct_le n (by omega)
    show (n + 1) * fct n ≤ _
    have e : 2 ^ (6 * (n + 1)) = 64 * 2 ^ (6 * n) := by rw [Nat.mul_succ, Nat.pow_add]; omega
    rw [e]
    exact Nat.mul_le_mul (by omega) ih
theorem fct_lt {n : Nat} (h : n ≤ 60) : fct n < 2 ^ 400 := Nat.lt_of_le_of_lt (fct_le n h) (Nat.pow_lt_pow_right (by decide) (by omega))
theorem fac_mul {j : Nat} (h : j < 60) : mulOk ((fct j : Nat) : Int) (((j : Nat) : Int) + 1) = true := mulOk_of (i := 400) (j := 10) (by have := fct_lt (n := j) (by omega); omega) (by omega) (by decide)
theorem fac_val (j : Nat) : ((fct j : Nat) : Int) * (((j : Nat) : Int) + 1) = ((fct (j + 1) : Nat) : Int) := by
  show _ = (((j + 1) * fct j : Nat) : Int)
  rw [Int.natCast_mul, Int.mul_comm]; rfl
theorem fac_loop (x0 : D) : ∀ (k j : Nat) (c2 : Option (D × Ow)), c2.all noIo = true → j + k ≤ 60 →
    ∃ c2', c2'.all noIo = true ∧ forL (gName' 2) b_factorial_1 (itRange (((j : Nat) : Int) + 1) k) [some (x0, .frz), some (.int (fct j : Nat), .frz), c2] = .ok (.nx [some (x0, .frz), some (.int (fct (j + k) : Nat), .frz), c2'])
  | 0, j, c2, h, _ => ⟨c2, h, rfl⟩
  | k + 1, j, c2, h, hj => by
    obtain ⟨c2', h', e⟩ := fac_loop x0 k (j + 1) (some (.int (((j : Nat) : Int) + 1), .frz)) rfl (by omega)
    refine ⟨c2', h', ?_⟩
    have e1 : ((j + 1 : Nat) : Int) + 1 = ((j : Nat) : Int) + 1 + 1 := by omega
    have e2 : j + 1 + k = j + (k + 1) := by omega
    rw [e1, e2] at e
    rw [itR_succ, forL_cons, ← e]
    have hm := fac_mul (j := j) (by omega)
    have hv := fac_val j
    simp only [fct] at hv ⊢
    simp [u_b_factorial_1, h, iiOp, hm, hv]
theorem okR_nat {n : Nat} (h : n ≤ 1000) : okR (n : Int) = true := by unfold okR; simp; omega
theorem factorial_ok {n : Nat} (hn : n ≤ 50) : F_factorial [.int (n : Nat)] = .ok (.int (fct n : Nat)) false .non := by
  obtain ⟨c2, _, e⟩ := fac_loop (.int (n : Nat)) (n - 1) 1 none rfl (by omega)
  have e1 : fct (1 + (n - 1)) = fct n := by
    cases n with
    | zero => rfl
    | succ n => rw [Nat.add_sub_cancel, Nat.add_comm]
  have e2 : ((n : Int) + 1 - 2).toNat = n - 1 := by omega
  have ok := okR_nat (n := n + 1) (by omega)
  have ec : ((n + 1 : Nat) : Int) = (n : Int) + 1 := by omega
  rw [ec] at ok
  have ok2 : okR 2 = true := by decide
  rw [e1] at e
  have e3 : (((1 : Nat) : Int) + 1) = 2 := rfl
  have e4 : ((fct 1 : Nat) : Int) = 1 := rfl
  rw [e3, e4] at e
  simp [F_factorial, fnOf, startE, u_B_factorial, ok, ok2, e2, e]
/-! ### bounds by powers of two -/
def Bd (b : Nat) (x : Int) : Prop := 0 ≤ x ∧ x.toNat ≤ 2 ^ b
theorem Bd.mono {a b : Nat} {x : Int} (h : Bd a x) (l : a ≤ b) : Bd b x := ⟨h.1, Nat.le_trans h.2 (Nat.pow_le_pow_right (by decide) l)⟩
theorem Bd.mul {a b : Nat} {x y : Int} (h : Bd a x) (k : Bd b y) : Bd (a + b) (x * y) := by
  refine ⟨Int.mul_nonneg h.1 k.1, ?_⟩
  rw [Int.toNat_mul h.1 k.1, Nat.pow_add]
  exact Nat.mul_le_mul h.2 k.2
theorem Bd.div {a : Nat} {x y : Int} (h : Bd a x) (k : 0 < y) : Bd a (x / y) := by
  have h1 := Int.ediv_nonneg h.1 (Int.le_of_lt k)
  have h2 : x / y ≤ x := Int.ediv_le_self y h.1
  have := h.2
  exact ⟨h1, by omega⟩
theorem Bd.small {x : Int} (b : Nat) (h : 0 ≤ x) (k : x.toNat ≤ b) : Bd b x := ⟨h, Nat.le_trans k (Nat.le_of_lt Nat.lt_two_pow_self)⟩
theorem Bd.add {a b : Nat} {x y : Int} (h : Bd a x) (k : Bd b y) {c : Nat} (hc : 2 ^ a + 2 ^ b ≤ 2 ^ c) : Bd c (x + y) := by
  have := h.1; have := h.2; have := k.1; have := k.2
  exact ⟨by omega, by omega⟩
theorem Bd.mulOk {a b : Nat} {x y : Int} (h : Bd a x) (k : Bd b y) (l : a + b < 1000000) : mulOk x y = true := by
  have h1 := h.1; have h2 := h.2; have k1 := k.1; have k2 := k.2
  have e1 : 2 ^ a < 2 ^ (a + 1) := Nat.pow_lt_pow_right (by decide) (by omega)
  have e2 : 2 ^ b < 2 ^ (b + 1) := Nat.pow_lt_pow_right (by decide) (by omega)
  exact mulOk_of (i := a + 1) (j := b + 1) (by omega) (by omega) (by omega)
theorem Bd.zero (b : Nat) : Bd b 0 := ⟨by decide, Nat.zero_le _⟩
theorem Bd.one (b : Nat) : Bd b 1 := ⟨by decide, Nat.one_le_two_pow⟩
def BdL (b : Nat) (xs : List Int) : Prop := ∀ x ∈ xs, Bd b x
theorem BdL.sum {b : Nat} : ∀ {xs : List Int}, BdL b xs → 0 ≤ xs.sum ∧ xs.sum.toNat ≤ xs.length * 2 ^ b
  | [], _ => ⟨by decide, by simp⟩
  | x :: xs, h => by
    obtain ⟨i1, i2⟩ := BdL.sum (xs := xs) fun y hy => h y (List.mem_cons_of_mem _ hy)
    obtain ⟨h1, h2⟩ := h x List.mem_cons_self
    rw [List.sum_cons, List.length_cons, Nat.add_mul, Nat.one_mul]
    exact ⟨by omega, by omega⟩
theorem BdL.sum5 {b : Nat} {xs : List Int} (h : BdL b xs) (hl : xs.length ≤ 32) : Bd (5 + b) xs.sum := by
  obtain ⟨h1, h2⟩ := h.sum
  refine ⟨h1, Nat.le_trans h2 ?_⟩
  rw [Nat.pow_add]
  exact Nat.mul_le_mul_right _ hl
/-! ### a comprehension without a test whose values are bounded by their place -/
theorem lcL_ix {vs : List Nat} {g : RV → VS.Env → Out VS.Env} {t : VS.Env → Out (Bool × VS.Env)} {f : VS.Env → Out (RV × VS.Env)} (S : VS.Env → Prop) (P : Nat → Int → Prop) : ∀ (ds : List D) (acc : List Int) (e : VS.Env), S e → acc.length + ds.length < 16777216 → (∀ i z, acc[i]? = some z → P i z) →
    (∀ i d, ds[i]? = some d → ∀ e, S e → ∃ e1 r z e2 e3, (g (.fz d) (wipeE e vs)).bind t = .ok (true, e1) ∧ f e1 = .ok (r, e2) ∧ freezeR e2 r = some (.int z, e3) ∧ P (acc.length + i) z ∧ S e3) →
    ∃ e' zs, lcL vs g t f ds (dI acc) e = .ok (dI zs, e') ∧ S e' ∧ zs.length = acc.length + ds.length ∧ ∀ i z, zs[i]? = some z → P i z
  | [], acc, e, he, _, ha, _ => ⟨e, acc, rfl, he, rfl, ha⟩
  | d :: ds, acc, e, he, hl, ha, hd => by
    obtain ⟨e1, r, z, e2, e3, h1, h2, h3, h4, h5⟩ := hd 0 d rfl e he
    have hl' : acc.length + ds.length + 1 < 16777216 := by simpa [Nat.add_assoc] using hl
    obtain ⟨e', zs, k1, k2, k3, k4⟩ := lcL_ix S P ds (acc ++ [z]) e3 h5 (by rw [List.length_append, List.length_singleton]; omega) (fun i y hy => by
      by_cases q : i < acc.length
      · rw [List.getElem?_append_left q] at hy; exact ha i y hy
      · rw [List.getElem?_append_right (by omega)] at hy
        have : i - acc.length = 0 := by
          have := (List.getElem?_eq_some_iff.mp hy).1
          simpa using this
        rw [this] at hy
        cases hy
        rw [show i = acc.length + 0 by omega]; exact h4) fun i d' hm e he => by
          obtain ⟨e1, r, z', e2, e3, a1, a2, a3, a4, a5⟩ := hd (i + 1) d' (by simpa using hm) e he
          refine ⟨e1, r, z', e2, e3, a1, a2, a3, ?_, a5⟩
          rw [List.length_append, List.length_singleton, show acc.length + 1 + i = acc.length + (i + 1) by omega]; exact a4
    refine ⟨e', zs, ?_, k2, by rw [k3, List.length_append, List.length_singleton, List.length_cons]; omega, k4⟩
    have u : lcL vs g t f (d :: ds) (dI acc) e = (lcTurn vs g t d e).bind fun p => if p.1 = true then (f p.2).bind fun q => match freezeR q.2 q.1 with
      | some (y, e2) => if lt24 (dI acc).length = true then lcL vs g t f ds (dI acc ++ [y]) e2 else .st
      | none => .st
    else lcL vs g t f ds (dI acc) p.2 := rfl
    have v : lcTurn vs g t d e = .ok (true, e1) := h1
    have hd2 : (dI acc).length = acc.length := List.length_map _
    have hs : dI acc ++ [.int z] = dI (acc ++ [z]) := by unfold dI; rw [List.map_append]; rfl
    rw [u, v, x_bind_ok]
    dsimp only
    rw [if_pos rfl, h2, x_bind_ok]
    dsimp only
    rw [h3]
    dsimp only
    rw [if_pos (by rw [hd2]; exact lt24_of (by omega)), hs, k1]
theorem dLc_ix {vs : List Nat} {it : VS.Env → Out (List D × VS.Env)} {g : RV → VS.Env → Out VS.Env} {t : VS.Env → Out (Bool × VS.Env)} {f : VS.Env → Out (RV × VS.Env)} {env env1 : VS.Env} {ds : List D} (S : VS.Env → Prop) (P : Nat → Int → Prop) (hi : it env = .ok (ds, env1)) (hn : allNotIo vs env1 = true) (hl : ds.length < 16777216) (h0 : S env1)
    (hd : ∀ i d, ds[i]? = some d → ∀ e, S e → ∃ e1 r z e2 e3, (g (.fz d) (wipeE e vs)).bind t = .ok (true, e1) ∧ f e1 = .ok (r, e2) ∧ freezeR e2 r = some (.int z, e3) ∧ P i z ∧ S e3) :
    ∃ e' zs, dLc vs it g t f env = .ok (.fr (.lst (dI zs)), restE env1 e' vs) ∧ S e' ∧ zs.length = ds.length ∧ ∀ i z, zs[i]? = some z → P i z := by
  obtain ⟨e', zs, k1, k2, k3, k4⟩ := lcL_ix S P ds [] env1 h0 (by simpa using hl) (by simp) (fun i d h e he => by rw [List.length_nil, Nat.zero_add]; exact hd i d h e he)
  refine ⟨e', zs, ?_, k2, by rw [k3, List.length_nil, Nat.zero_add], k4⟩
  unfold dLc
  rw [hi, x_bind_ok, if_pos hn]
  dsimp only
  have e0 : dI [] = [] := rfl
  rw [e0] at k1
  rw [k1, x_noEx_ok, x_bind_ok]
theorem itR_get {lo : Int} {n i : Nat} {d : D} (h : (itRange lo n)[i]? = some d) : i < n ∧ d = .int (lo + (i : Nat)) := itRange_get h
/-! ### binomial -/
theorem bin_loop {s : Int} (hs : s ≤ 31) (c1 : Option (D × Ow)) : ∀ (k : Nat) (i : Nat) (f : Int) (c3 : Option (D × Ow)), c3.all noIo = true → Bd (5 * i) f → ((i + k : Nat) : Int) ≤ s → ∃ f' c3', Bd (5 * (i + k)) f' ∧ forL (gName' 3) b_binomial_1 (itRange (i : Nat) k) [some (.int s, .frz), c1, some (.int f, .frz), c3] = .ok (.nx [some (.int s, .frz), c1, some (.int f', .frz), c3'])
  | 0, i, f, c3, h3, hf, _ => ⟨f, c3, hf, rfl⟩
  | k + 1, i, f, c3, h3, hf, hk => by
    have b1 : Bd 5 (s - ((i : Nat) : Int)) := ⟨by omega, by have : (2 : Nat) ^ 5 = 32 := rfl; omega⟩
    have hm := hf.mulOk b1 (by omega)
    have b2 := hf.mul b1
    have hd : divOk (f * (s - ((i : Nat) : Int))) (((i : Nat) : Int) + 1) = true := divOk_of (j := 6) (by omega) (by omega) (by decide)
    obtain ⟨f', c3', e1, e2⟩ := bin_loop hs c1 k (i + 1) (f * (s - ((i : Nat) : Int)) / (((i : Nat) : Int) + 1)) (some (.int (i : Nat), .frz)) rfl ((b2.div (by omega)).mono (by omega)) (by omega)
    refine ⟨f', c3', e1.mono (by omega), ?_⟩
    rw [itR_succ, forL_cons]
    have ei : ((i + 1 : Nat) : Int) = ((i : Nat) : Int) + 1 := by omega
    rw [ei] at e2
    simp [u_b_binomial_1, h3, y_mul hm, y_div hd, e2]
theorem binomial_ok {s : Int} {p : Nat} (hs : s ≤ 31) (hp : ((p : Nat) : Int) ≤ s) : ∃ z, F_binomial [.int s, .int (p : Nat)] = .ok (.int z) false .non ∧ Bd (5 * p) z := by
  obtain ⟨f', c3', h, e⟩ := bin_loop hs (some (.int (p : Nat), .frz)) p 0 1 none rfl (Bd.one _) (by omega)
  rw [Nat.zero_add] at h
  refine ⟨f', ?_, h⟩
  have ok := okR_nat (n := p) (by omega)
  have e0 : ((0 : Nat) : Int) = 0 := rfl
  rw [e0] at e
  simp [F_binomial, fnOf, startE, u_B_binomial, ok, e]
/-! ### height_counts returns -/
theorem getI_dI {xs : List Int} {i : Nat} {z : Int} (h : xs[i]? = some z) : atI (dI xs) ((i : Nat) : Int) = some (.int z) := by
  refine VS.atI_nat ?_
  unfold dI
  rw [List.getElem?_map, h]; rfl
def RowB (n : Nat) (row : List Int) : Prop := row.length = n + 1 ∧ ∀ i z, row[i]? = some z → Bd (6 * (i * i)) z
theorem rowb_arith {c l : Nat} (h : l < c) : 5 * (c - 1) + 6 * (l * l) + 6 * ((c - 1 - l) * (c - 1 - l)) ≤ 5 * (c - 1) + 6 * ((c - 1) * (c - 1)) := by
  obtain ⟨m, rfl⟩ : ∃ m, c = l + m + 1 := ⟨c - l - 1, by omega⟩
  have e1 : l + m + 1 - 1 = l + m := by omega
  have e2 : l + m - l = m := by omega
  rw [e1, e2]
  have : (l + m) * (l + m) = l * l + 2 * (l * m) + m * m := by
    rw [Nat.add_mul, Nat.mul_add, Nat.mul_add, Nat.mul_comm m l]; omega
  rw [this]; omega
theorem hsum_ok {n : Nat} (hn : n ≤ 30) {row : List Int} (hr : RowB n row) (c0 c2 c3 c5 : Option (D × Ow)) (w1 : Ow) (hw : w1 = .own ∨ w1 = .frz) (h5 : c5.all noIo = true) {c : Nat} (hc : 1 ≤ c) (hc2 : c ≤ n) :
    ∃ z d5, d5.all noIo = true ∧ Bd (6 * (c * c)) z ∧ e_counts_up_to_2 [c0, some (.lst (dI row), w1), c2, c3, some (.int (c : Nat), .frz), c5] = .ok (.fz (.int z), [c0, some (.lst (dI row), w1), c2, c3, some (.int (c : Nat), .frz), d5]) := by
  have okc := okR_nat (n := c) (by omega)
  obtain ⟨e', zs, k1, ⟨d5, hd5, rfl⟩, k3, k4⟩ := dLc_ix (vs := [5]) (it := dRng1 (dVar 4)) (g := gName' 5) (t := tNoIf) (f := e_counts_up_to_1) (env := [c0, some (.lst (dI row), w1), c2, c3, some (.int (c : Nat), .frz), c5]) (env1 := [c0, some (.lst (dI row), w1), c2, c3, some (.int (c : Nat), .frz), c5]) (ds := itRange 0 c) (fun e => ∃ d, d.all noIo = true ∧ e = [c0, some (.lst (dI row), w1), c2, c3, some (.int (c : Nat), .frz), d]) (fun _ z => Bd (5 * (c - 1) + 6 * ((c - 1) * (c - 1))) z) (by simp [okc]) (by simp [h5]) (by simp [itRange]; omega) ⟨c5, h5, rfl⟩ (by
    rintro i d hd e ⟨d5, hd5, rfl⟩
    obtain ⟨hi, rfl⟩ := itR_get hd
    have ei : (0 : Int) + (i : Nat) = ((i : Nat) : Int) := by omega
    rw [ei]
    have ec : ((c : Nat) : Int) - 1 = ((c - 1 : Nat) : Int) := by omega
    obtain ⟨b, eb, hb⟩ := binomial_ok (s := ((c - 1 : Nat) : Int)) (p := i) (by omega) (by omega)
    have hx : i < row.length := by rw [hr.1]; omega
    have hy : c - 1 - i < row.length := by rw [hr.1]; omega
    have ex := List.getElem?_eq_getElem hx
    have ey := List.getElem?_eq_getElem hy
    have bx := hr.2 _ _ ex
    have bY := hr.2 _ _ ey
    have ax := getI_dI ex
    have ay := getI_dI ey
    have es : ((c - 1 : Nat) : Int) - ((i : Nat) : Int) = ((c - 1 - i : Nat) : Int) := by omega
    have q1 : i * i ≤ 30 * 30 := Nat.mul_le_mul (by omega) (by omega)
    have q2 : (c - 1 - i) * (c - 1 - i) ≤ 30 * 30 := Nat.mul_le_mul (by omega) (by omega)
    have m1 := hb.mulOk bx (by omega)
    have b2 := hb.mul bx
    have m2 := b2.mulOk bY (by omega)
    have b3 := b2.mul bY
    generalize row[i] = x at *
    generalize row[c - 1 - i] = y at *
    refine ⟨[c0, some (.lst (dI row), w1), c2, c3, some (.int (c : Nat), .frz), some (.int (i : Nat), .frz)], .fz (.int (b * x * y)), b * x * y, [c0, some (.lst (dI row), w1), c2, c3, some (.int (c : Nat), .frz), some (.int (i : Nat), .frz)], [c0, some (.lst (dI row), w1), c2, c3, some (.int (c : Nat), .frz), some (.int (i : Nat), .frz)], by simp [tNoIf], ?_, rfl, b3.mono (Nat.le_trans (Nat.add_le_add_right (Nat.add_le_add_right (by omega) _) _) (rowb_arith hi)), some (.int (i : Nat), .frz), rfl, rfl⟩
    generalize dI row = RR at *
    rcases hw with rfl | rfl <;> simp [e_counts_up_to_1, ec, eb, ax, ay, es, y_mul m1, y_mul m2])
  have hz : zs.length = c := by rw [k3]; simp [itRange]
  have bs := BdL.sum5 (b := 5 * (c - 1) + 6 * ((c - 1) * (c - 1))) (xs := zs) (fun x hx => by
    obtain ⟨i, hi, rfl⟩ := List.getElem_of_mem hx
    exact k4 i _ (List.getElem?_eq_getElem hi)) (by omega)
  refine ⟨zs.sum, c5.bind frzKeep, ?_, bs.mono ?_, ?_⟩
  · rcases c5 with _ | ⟨d, _ | _ | _⟩ <;> rfl
  · obtain ⟨m, rfl⟩ : ∃ m, c = m + 1 := ⟨c - 1, by omega⟩
    rw [Nat.add_sub_cancel]
    have : (m + 1) * (m + 1) = m * m + m + m + 1 := by rw [Nat.add_mul, Nat.mul_add]; omega
    rw [this]; omega
  · have es : bSum [.lst (dI zs)] = some (.int zs.sum, false) := y_sumI
    generalize dI zs = ZZ at *
    generalize dI row = RR at *
    rcases hw with rfl | rfl <;> simp [e_counts_up_to_2, k1, es]
theorem hturn_ok {n : Nat} (hn : n ≤ 30) {row : List Int} (hr : RowB n row) (c2 c3 c4 c5 : Option (D × Ow)) (w1 : Ow) (hw : w1 = .own ∨ w1 = .frz) (h4 : c4.all noIo = true) (h5 : c5.all noIo = true) :
    ∃ zs d4 d5, d4.all noIo = true ∧ d5.all noIo = true ∧ RowB n (1 :: zs) ∧ dLc [4] (dRng2 (dConst (.int 1)) (dBin dAdd (dVar 0) (dConst (.int 1)))) (gName' 4) tNoIf e_counts_up_to_2 [some (.int (n : Nat), .frz), some (.lst (dI row), w1), c2, c3, c4, c5] = .ok (.fr (.lst (dI zs)), [some (.int (n : Nat), .frz), some (.lst (dI row), w1), c2, c3, d4, d5]) := by
  have ok1 := okR_nat (n := n + 1) (by omega)
  have e1 : ((n + 1 : Nat) : Int) = ((n : Nat) : Int) + 1 := by omega
  rw [e1] at ok1
  have ok0 : okR 1 = true := by decide
  have ek : (((n : Nat) : Int) + 1 - 1).toNat = n := by omega
  obtain ⟨e', zs, k1, ⟨d4, d5, hd4, hd5, rfl⟩, k3, k4⟩ := dLc_ix (vs := [4]) (it := dRng2 (dConst (.int 1)) (dBin dAdd (dVar 0) (dConst (.int 1)))) (g := gName' 4) (t := tNoIf) (f := e_counts_up_to_2) (env := [some (.int (n : Nat), .frz), some (.lst (dI row), w1), c2, c3, c4, c5]) (env1 := [some (.int (n : Nat), .frz), some (.lst (dI row), w1), c2, c3, c4, c5]) (ds := itRange 1 n) (fun e => ∃ d d2, d.all noIo = true ∧ d2.all noIo = true ∧ e = [some (.int (n : Nat), .frz), some (.lst (dI row), w1), c2, c3, d, d2]) (fun i z => Bd (6 * ((i + 1) * (i + 1))) z) (by simp [ok1, ok0]) (by simp [h4]) (by simp [itRange]; omega) ⟨c4, c5, h4, h5, rfl⟩ (by
    rintro i d hd e ⟨d4, d5, hd4, hd5, rfl⟩
    obtain ⟨hi, rfl⟩ := itR_get hd
    have ei : (1 : Int) + (i : Nat) = ((i + 1 : Nat) : Int) := by omega
    rw [ei]
    obtain ⟨z, e5, he5, hz, ez⟩ := hsum_ok hn hr (some (.int (n : Nat), .frz)) c2 c3 d5 w1 hw hd5 (c := i + 1) (by omega) (by omega)
    exact ⟨[some (.int (n : Nat), .frz), some (.lst (dI row), w1), c2, c3, some (.int (i + 1 : Nat), .frz), d5], .fz (.int z), z, _, _, by simp [tNoIf], ez, rfl, hz, some (.int (i + 1 : Nat), .frz), e5, rfl, he5, rfl⟩)
  refine ⟨zs, c4.bind frzKeep, d5, ?_, hd5, ⟨by rw [List.length_cons, k3]; simp [itRange], fun i z h => ?_⟩, ?_⟩
  · rcases c4 with _ | ⟨d, _ | _ | _⟩ <;> rfl
  · cases i with
    | zero => cases h; exact Bd.one _
    | succ i => exact k4 i z h
  · rw [k1]; simp
theorem hrow_loop {n : Nat} (hn : n ≤ 30) : ∀ (k lo : Nat) (row fs : List Int) (c3 c4 c5 : Option (D × Ow)) (w1 : Ow), (w1 = .own ∨ w1 = .frz) → c3.all noIo = true → c4.all noIo = true → c5.all noIo = true → RowB n row → BdL 5400 fs → 1 ≤ fs.length → fs.length + k ≤ 40 →
    ∃ fs' x1 x3 x4 x5, BdL 5400 fs' ∧ 1 ≤ fs'.length ∧ fs'.length ≤ 40 ∧ forL (gName' 3) b_counts_up_to_3 (itRange (lo : Nat) k) [some (.int (n : Nat), .frz), some (.lst (dI row), w1), some (.lst (dI fs), .own), c3, c4, c5] = .ok (.nx [some (.int (n : Nat), .frz), x1, some (.lst (dI fs'), .own), x3, x4, x5])
  | 0, lo, row, fs, c3, c4, c5, w1, _, _, _, _, _, hf, h1, h2 => ⟨fs, _, _, _, _, hf, h1, by omega, rfl⟩
  | k + 1, lo, row, fs, c3, c4, c5, w1, hw, h3, h4, h5, hr, hf, h1, h2 => by
    obtain ⟨zs, d4, d5, g4, g5, hr', ez⟩ := hturn_ok hn hr (some (.lst (dI fs), .own)) (some (.int (lo : Nat), .frz)) c4 c5 w1 hw h4 h5
    have hx : n < (1 :: zs).length := by rw [hr'.1]; omega
    have ex := List.getElem?_eq_getElem hx
    have bx := hr'.2 _ _ ex
    have ax := getI_dI ex
    have q1 : n * n ≤ 30 * 30 := Nat.mul_le_mul (by omega) (by omega)
    generalize (1 :: zs)[n] = x at *
    obtain ⟨fs', x1, x3, x4, x5, f1, f2, f3, f6⟩ := hrow_loop hn k (lo + 1) (1 :: zs) (fs ++ [x]) (some (.int (lo : Nat), .frz)) d4 d5 .own (.inl rfl) rfl g4 g5 hr' (fun y hy => by
      rcases List.mem_append.mp hy with hy | hy
      · exact hf y hy
      · rw [List.mem_singleton.mp hy]; exact bx.mono (by omega)) (by rw [List.length_append, List.length_singleton]; omega) (by rw [List.length_append, List.length_singleton]; omega)
    refine ⟨fs', x1, x3, x4, x5, f1, f2, f3, ?_⟩
    rw [itR_succ, forL_cons]
    have ei : ((lo + 1 : Nat) : Int) = ((lo : Nat) : Int) + 1 := by omega
    rw [ei] at f6
    have hzl : zs.length = n := by have := hr'.1; rw [List.length_cons] at this; omega
    have ha : dI (1 :: zs) = D.int 1 :: dI zs := rfl
    have hb : dI (fs ++ [x]) = dI fs ++ [.int x] := by unfold dI; rw [List.map_append]; rfl
    have hfl : (dI fs).length = fs.length := List.length_map _
    have hzl2 : (dI zs).length = zs.length := List.length_map _
    have hle : le24 (1 + n) = true := le24_of (by omega)
    have hle2 : le24 (n + 1) = true := le24_of (by omega)
    have hlt : lt24 fs.length = true := lt24_of (by omega)
    rw [ha] at ax f6
    rw [hb] at f6
    generalize dI row = RR at *
    generalize dI fs = FS at *
    generalize dI zs = ZZ at *
    rcases hw with rfl | rfl <;> simp [u_b_counts_up_to_3, h3, ez, ax, hfl, hzl2, hzl, hle, hle2, hlt, f6, le24_of]
theorem countsup_ok {n : Nat} (hn : n ≤ 30) : ∃ fs, BdL 5400 fs ∧ 1 ≤ fs.length ∧ fs.length ≤ 40 ∧ F_counts_up_to [.int (n : Nat)] = .ok (.lst (dI fs)) true .non := by
  have hx : n < (1 :: List.replicate n (0 : Int)).length := by simp
  have hr : RowB n (1 :: List.replicate n 0) := ⟨by simp, fun i z h => by
    cases i with
    | zero => cases h; exact Bd.one _
    | succ i =>
      have : z = 0 := List.eq_of_mem_replicate (List.mem_of_getElem? h)
      rw [this]; exact Bd.zero _⟩
  have ex := List.getElem?_eq_getElem hx
  have bx := hr.2 _ _ ex
  have ax := getI_dI ex
  have q1 : n * n ≤ 30 * 30 := Nat.mul_le_mul (by omega) (by omega)
  generalize (1 :: List.replicate n (0 : Int))[n] = x at *
  obtain ⟨fs, x1, x3, x4, x5, f1, f2, f3, f6⟩ := hrow_loop hn n 0 (1 :: List.replicate n 0) [x] none none none .own (.inl rfl) rfl rfl rfl hr (fun y hy => by
    rw [List.mem_singleton.mp hy]; exact bx.mono (by omega)) (by simp) (by simp; omega)
  refine ⟨fs, f1, f2, f3, ?_⟩
  have okn := okR_nat (n := n) (by omega)
  have hrep : dMul (.lst [.int 0]) (.int (n : Nat)) = some (.lst (List.replicate n (.int 0)), true) := dMul_rep (by omega)
  have ha : dI (1 :: List.replicate n 0) = D.int 1 :: List.replicate n (D.int 0) := by unfold dI; rw [List.map_cons, List.map_replicate]
  have e0 : ((0 : Nat) : Int) = 0 := rfl
  have e1 : dI [x] = [.int x] := rfl
  rw [ha] at ax f6
  rw [e0, e1] at f6
  have hle : le24 (1 + n) = true := le24_of (by omega)
  have hle2 : le24 (n + 1) = true := le24_of (by omega)
  generalize hZ : List.replicate n (D.int 0) = ZZ at *
  have hzl : ZZ.length = n := by rw [← hZ]; simp
  simp [F_counts_up_to, fnOf, startE, u_B_counts_up_to, okn, hrep, ax, hzl, hle, hle2, le24_of, f6]
theorem isbet_ok (z a b : Int) : F_is_between [.int z, .int a, .int b] = .ok (.bl (decide (a ≤ z) && decide (z ≤ b))) false .non := by
  by_cases h1 : a ≤ z <;> by_cases h2 : z ≤ b <;> simp [F_is_between, F_is_integer, fnOf, startE, u_B_is_between, u_B_is_integer, h1, h2]
theorem checksize_ok {z a b : Int} (h1 : a ≤ z) (h2 : z ≤ b) : F_check_size [.int z, .int a, .int b] = .ok .non false .non := by
  have e := isbet_ok z a b
  rw [decide_eq_true h1, decide_eq_true h2] at e
  simp [F_check_size, fnOf, startE, u_B_check_size, e]
theorem heights_ok {n : Nat} (hn : n ≤ 30) : ∃ t fr, F_height_counts [.int (n : Nat)] = .ok t fr .non := by
  have e1 := checksize_ok (z := ((n : Nat) : Int)) (a := 0) (b := 30) (by omega) (by omega)
  obtain ⟨fs, f1, f2, f3, e2⟩ := countsup_ok hn
  cases fs with
  | nil => simp at f2
  | cons x fs =>
    have hl : fs.length ≤ 40 := by simp at f3; omega
    have hz : zipDD (dI (x :: fs)) (dI fs) = ((x :: fs).zip fs).map fun p => D.tup [.int p.1, .int p.2] := by
      unfold zipDD dI
      rw [List.zip_map, List.map_map]; rfl
    obtain ⟨e', zs, k1, ⟨d3, d4, rfl, _, _⟩, k3, k4⟩ := dLc_ix (vs := [3, 4]) (it := dZip (dCons (dLst (dCons (dVar 1) (dStar (dVar 2) dNil))) (dCons (dVar 2) dNil))) (g := gTupD 2 (gsCons (gName' 3) (gsCons (gName' 4) gsNil))) (t := tNoIf) (f := e_height_counts_1) (env := [some (.int (n : Nat), .frz), some (.int x, .frz), some (.lst (dI fs), .frz), none, none]) (env1 := [some (.int (n : Nat), .frz), some (.int x, .frz), some (.lst (dI fs), .frz), none, none]) (ds := zipDD (dI (x :: fs)) (dI fs)) (fun e => ∃ d d2, e = [some (.int (n : Nat), .frz), some (.int x, .frz), some (.lst (dI fs), .frz), d, d2] ∧ d.all noIo = true ∧ d2.all noIo = true) (fun _ _ => True) (by
        have hfl : (dI fs).length = fs.length := List.length_map _
        have hle : le24 (1 + fs.length) = true := le24_of (by omega)
        have hle2 : le24 (fs.length + 1) = true := le24_of (by omega)
        show _ = Out.ok (zipDD (D.int x :: dI fs) (dI fs), _)
        generalize dI fs = FS at *
        simp [hfl, hle, hle2, le24_of]) (by simp) (by unfold zipDD; simp; omega) ⟨none, none, rfl, rfl, rfl⟩ (by
      rintro i d hd e ⟨d4, d5, rfl, hd4, hd5⟩
      rw [hz] at hd
      obtain ⟨p, hp, rfl⟩ := List.mem_map.mp (List.mem_of_getElem? hd)
      exact ⟨[some (.int (n : Nat), .frz), some (.int x, .frz), some (.lst (dI fs), .frz), some (.int p.1, .frz), some (.int p.2, .frz)], .fz (.int (p.2 - p.1)), p.2 - p.1, [some (.int (n : Nat), .frz), some (.int x, .frz), some (.lst (dI fs), .frz), some (.int p.1, .frz), some (.int p.2, .frz)], [some (.int (n : Nat), .frz), some (.int x, .frz), some (.lst (dI fs), .frz), some (.int p.1, .frz), some (.int p.2, .frz)], by generalize dI fs = FS; simp [tNoIf], by generalize dI fs = FS; simp [e_height_counts_1], rfl, trivial, some (.int p.1, .frz), some (.int p.2, .frz), rfl, rfl, rfl⟩)
    have hzl : zs.length ≤ 40 := by
      rw [k3]
      unfold zipDD; simp; omega
    have hfl : (dI fs).length = fs.length := List.length_map _
    have hzl2 : (dI zs).length = zs.length := List.length_map _
    have hle : le24 (1 + zs.length) = true := le24_of (by omega)
    have hle2 : le24 (zs.length + 1) = true := le24_of (by omega)
    have hle3 : le24 fs.length = true := le24_of (by omega)
    have hx : dI (x :: fs) = D.int x :: dI fs := rfl
    rw [hx] at e2
    refine ⟨.lst (D.int x :: dI zs), true, ?_⟩
    generalize dI fs = FS at *
    generalize dI zs = ZZ at *
    have eh : ∀ (gs : List D → VS.Env → Out VS.Env) (env : VS.Env), gHeadD gs (.fr (.lst (D.int x :: FS))) env = gs [.int x, .lst FS] env := fun gs env => x_ghead rfl (by rw [hfl]; exact hle3)
    simp [F_height_counts, fnOf, startE, u_B_height_counts, e1, e2, eh, k1, hle, hle2, hle3, hfl, hzl2]
/-! ### xs[k] += v on a list of ints -/
theorem augL_step {i : Nat} {f g : VS.Env → Out (RV × VS.Env)} {env : VS.Env} {T : List Int} {w : Ow} {k a b : Int} {rk rb : RV} (h1 : env[i]? = some (some (.lst (dI T), w))) (hw : w = .own ∨ w = .io) (hf : f env = .ok (rk, env)) (hk : resolve env rk = some (.int k)) (k0 : 0 ≤ k) (hT : T[k.toNat]? = some a) (hg : g env = .ok (rb, env)) (hb : resolve env rb = some (.int b)) : sAugL i f g env = .ok (.nx (env.set i (some (.lst (dI (T.set k.toNat (a + b))), w)))) := by
  have ho : ownAt i env = some (.lst (dI T), w) := by unfold ownAt; rw [h1]; rcases hw with rfl | rfl <;> rfl
  have hx : (dI T)[k.toNat]? = some (.int a) := by unfold dI; rw [List.getElem?_map, hT]; rfl
  have hlt : k.toNat < T.length := (List.getElem?_eq_some_iff.mp hT).1
  have hs : wSetL (.lst (dI T)) (.int k) (.int (a + b)) = some (.lst (dI (T.set k.toNat (a + b)))) := by
    show (ixN (dI T).length k).map (fun j => D.lst ((dI T).set j (.int (a + b)))) = _
    have hi : ixN (dI T).length k = some k.toNat := by
      have hl : (dI T).length = T.length := List.length_map _
      unfold ixN
      rw [hl, if_pos k0, if_pos (by omega)]
    rw [hi]
    unfold dI
    rw [Option.map_some, List.map_set]
  unfold sAugL chkOwn
  rw [ho]
  dsimp only
  rw [if_pos (show isLst (.lst (dI T)) = true from rfl), x_bind_ok, hf, x_bind_ok]
  dsimp only
  rw [ho, hk]
  dsimp only
  unfold getLD
  dsimp only
  rw [if_pos k0, hx]
  dsimp only
  rw [hg, x_bind_ok]
  dsimp only
  rw [hb]
  dsimp only
  unfold finS
  rw [ho, hk]
  dsimp only
  rw [hs]; rfl
def UB (B : Nat) (xs : List Int) : Prop := ∀ x ∈ xs, 0 ≤ x ∧ x.toNat ≤ B
theorem UB.set {B C : Nat} {T : List Int} (h : UB B T) {k : Nat} {a b : Int} (hT : T[k]? = some a) (hb : 0 ≤ b) (hc : b.toNat ≤ C) : UB (B + C) (T.set k (a + b)) := fun x hx => by
  rcases List.mem_or_eq_of_mem_set hx with hx | rfl
  · obtain ⟨h1, h2⟩ := h x hx; exact ⟨h1, by omega⟩
  · obtain ⟨h1, h2⟩ := h a (List.mem_of_getElem? hT); exact ⟨by omega, by omega⟩
theorem UB.mono {B C : Nat} {T : List Int} (h : UB B T) (l : B ≤ C) : UB C T := fun x hx => ⟨(h x hx).1, Nat.le_trans (h x hx).2 l⟩
theorem addsh_loop {s : Nat} {f : Int} {a b : Nat} (hf : Bd a f) (hab : a + b < 1000000) (c3 : Option (D × Ow)) : ∀ (V : List Int) (j : Nat) (T : List Int) (B : Nat) (c4 c5 : Option (D × Ow)), c4.all noIo = true → c5.all noIo = true → UB B T → BdL b V → j + s + V.length ≤ T.length →
    ∃ T' x4 x5, T'.length = T.length ∧ UB (B + V.length * 2 ^ (a + b)) T' ∧ forL (gTupD 2 (gsCons (gName' 4) (gsCons (gName' 5) gsNil))) b_add_shifted_1 (enI j V) [some (.lst (dI T), .io), some (.int (s : Nat), .frz), some (.int f, .frz), c3, c4, c5] = .ok (.nx [some (.lst (dI T'), .io), some (.int (s : Nat), .frz), some (.int f, .frz), c3, x4, x5])
  | [], j, T, B, c4, c5, _, _, hT, _, _ => ⟨T, c4, c5, rfl, by simpa using hT, rfl⟩
  | v :: V, j, T, B, c4, c5, h4, h5, hT, hV, hl => by
    rw [List.length_cons] at hl
    have bv := hV v List.mem_cons_self
    have hm := hf.mulOk bv hab
    have bm := hf.mul bv
    have hx : j + s < T.length := by omega
    have ex := List.getElem?_eq_getElem hx
    obtain ⟨T', x4, x5, e1, e2, e3⟩ := addsh_loop (s := s) hf hab c3 V (j + 1) (T.set (j + s) (T[j + s] + f * v)) (B + 2 ^ (a + b)) (some (.int (j : Nat), .frz)) (some (.int v, .frz)) rfl rfl (hT.set ex bm.1 bm.2) (fun y hy => hV y (List.mem_cons_of_mem _ hy)) (by rw [List.length_set]; omega)
    rw [List.length_set] at e1
    refine ⟨T', x4, x5, e1, e2.mono (by rw [List.length_cons, Nat.add_mul, Nat.one_mul]; omega), ?_⟩
    have ea := augL_step (i := 0) (f := dBin dAdd (dVar 4) (dVar 1)) (g := dBin dMul (dVar 2) (dVar 5)) (env := [some (.lst (dI T), .io), some (.int (s : Nat), .frz), some (.int f, .frz), c3, some (.int (j : Nat), .frz), some (.int v, .frz)]) (T := T) (w := .io) (k := ((j : Nat) : Int) + ((s : Nat) : Int)) (a := T[j + s]) (b := f * v) (rk := .fz (.int (((j : Nat) : Int) + ((s : Nat) : Int)))) (rb := .fz (.int (f * v))) rfl (.inr rfl) (by simp) rfl (by omega) (by rw [show (((j : Nat) : Int) + ((s : Nat) : Int)).toNat = j + s by omega]; exact ex) (by simp [y_mul hm]) rfl
    rw [show (((j : Nat) : Int) + ((s : Nat) : Int)).toNat = j + s by omega] at ea
    show forL _ _ (.tup [.int (j : Nat), .int v] :: enI (j + 1) V) _ = _
    rw [forL_cons, ← e3]
    generalize T.set (j + s) (T[j + s] + f * v) = T2 at *
    generalize dI T2 = TT2 at *
    generalize dI T = TT at *
    simp [u_b_add_shifted_1, h4, h5, ea]
theorem addsh_ok {s : Nat} {f : Int} {a b B : Nat} {T V : List Int} (hf : Bd a f) (hab : a + b < 1000000) (hT : UB B T) (hV : BdL b V) (hl : s + V.length ≤ T.length) :
    ∃ T', T'.length = T.length ∧ UB (B + V.length * 2 ^ (a + b)) T' ∧ F_add_shifted [.lst (dI T), .int (s : Nat), .int f, .lst (dI V)] = .ok .non false (.lst (dI T')) := by
  obtain ⟨T', x4, x5, e1, e2, e3⟩ := addsh_loop (s := s) hf hab (some (.lst (dI V), .frz)) V 0 T B none none rfl rfl hT hV (by simpa using hl)
  refine ⟨T', e1, e2, ?_⟩
  have ee := enum_dI V
  generalize dI T = TT at *
  generalize dI T' = TT' at *
  generalize dI V = VV at *
  simp [F_add_shifted, fnOf, startE, u_B_add_shifted, ee, e3]
/-! ### product -/
theorem pin_loop {s : Nat} {f : Int} {a b : Nat} (hf : Bd a f) (hab : a + b < 1000000) (c0 c1 : Option (D × Ow)) : ∀ (V : List Int) (j : Nat) (T : List Int) (B : Nat) (c5 c6 : Option (D × Ow)), c5.all noIo = true → c6.all noIo = true → UB B T → BdL b V → s + j + V.length ≤ T.length →
    ∃ T' x5 x6, T'.length = T.length ∧ UB (B + V.length * 2 ^ (a + b)) T' ∧ x5.all noIo = true ∧ x6.all noIo = true ∧ forL (gTupD 2 (gsCons (gName' 5) (gsCons (gName' 6) gsNil))) b_product_1 (enI j V) [c0, c1, some (.lst (dI T), .own), some (.int (s : Nat), .frz), some (.int f, .frz), c5, c6] = .ok (.nx [c0, c1, some (.lst (dI T'), .own), some (.int (s : Nat), .frz), some (.int f, .frz), x5, x6])
  | [], j, T, B, c5, c6, h5, h6, hT, _, _ => ⟨T, c5, c6, rfl, by simpa using hT, h5, h6, rfl⟩
  | v :: V, j, T, B, c5, c6, h5, h6, hT, hV, hl => by
    rw [List.length_cons] at hl
    have bv := hV v List.mem_cons_self
    have hm := hf.mulOk bv hab
    have bm := hf.mul bv
    have hx : s + j < T.length := by omega
    have ex := List.getElem?_eq_getElem hx
    obtain ⟨T', x5, x6, e1, e2, g5, g6, e3⟩ := pin_loop (s := s) hf hab c0 c1 V (j + 1) (T.set (s + j) (T[s + j] + f * v)) (B + 2 ^ (a + b)) (some (.int (j : Nat), .frz)) (some (.int v, .frz)) rfl rfl (hT.set ex bm.1 bm.2) (fun y hy => hV y (List.mem_cons_of_mem _ hy)) (by rw [List.length_set]; omega)
    rw [List.length_set] at e1
    refine ⟨T', x5, x6, e1, e2.mono (by rw [List.length_cons, Nat.add_mul, Nat.one_mul]; omega), g5, g6, ?_⟩
    have ek : (((s : Nat) : Int) + ((j : Nat) : Int)).toNat = s + j := by omega
    have ea := augL_step (i := 2) (f := dBin dAdd (dVar 3) (dVar 5)) (g := dBin dMul (dVar 4) (dVar 6)) (env := [c0, c1, some (.lst (dI T), .own), some (.int (s : Nat), .frz), some (.int f, .frz), some (.int (j : Nat), .frz), some (.int v, .frz)]) (T := T) (w := .own) (k := ((s : Nat) : Int) + ((j : Nat) : Int)) (a := T[s + j]) (b := f * v) (rk := .fz (.int (((s : Nat) : Int) + ((j : Nat) : Int)))) (rb := .fz (.int (f * v))) rfl (.inl rfl) (by simp) rfl (by omega) (by rw [ek]; exact ex) (by simp [y_mul hm]) rfl
    rw [ek] at ea
    show forL _ _ (.tup [.int (j : Nat), .int v] :: enI (j + 1) V) _ = _
    rw [forL_cons, ← e3]
    generalize T.set (s + j) (T[s + j] + f * v) = T2 at *
    generalize dI T2 = TT2 at *
    generalize dI T = TT at *
    simp [u_b_product_1, h5, h6, ea]
theorem pout_loop {a b : Nat} (hab : a + b < 1000000) {V : List Int} (hV : BdL b V) (hV0 : 0 < V.length) (c0 : Option (D × Ow)) : ∀ (U : List Int) (j : Nat) (T : List Int) (B : Nat) (c3 c4 c5 c6 : Option (D × Ow)), c3.all noIo = true → c4.all noIo = true → c5.all noIo = true → c6.all noIo = true → UB B T → BdL a U → j + U.length + V.length ≤ T.length + 1 →
    ∃ T' x3 x4 x5 x6, T'.length = T.length ∧ UB (B + U.length * (V.length * 2 ^ (a + b))) T' ∧ forL (gTupD 2 (gsCons (gName' 3) (gsCons (gName' 4) gsNil))) b_product_2 (enI j U) [c0, some (.lst (dI V), .frz), some (.lst (dI T), .own), c3, c4, c5, c6] = .ok (.nx [c0, some (.lst (dI V), .frz), some (.lst (dI T'), .own), x3, x4, x5, x6])
  | [], j, T, B, c3, c4, c5, c6, _, _, _, _, hT, _, _ => ⟨T, c3, c4, c5, c6, rfl, by simpa using hT, rfl⟩
  | u :: U, j, T, B, c3, c4, c5, c6, h3, h4, h5, h6, hT, hU, hl => by
    rw [List.length_cons] at hl
    have bu := hU u List.mem_cons_self
    obtain ⟨T1, x5, x6, e1, e2, g5, g6, e3⟩ := pin_loop (s := j) bu hab c0 (some (.lst (dI V), .frz)) V 0 T B c5 c6 h5 h6 hT hV (by omega)
    obtain ⟨T', x3', x4', x5', x6', k1, k2, k3⟩ := pout_loop hab hV hV0 c0 U (j + 1) T1 (B + V.length * 2 ^ (a + b)) (some (.int (j : Nat), .frz)) (some (.int u, .frz)) x5 x6 rfl rfl g5 g6 e2 (fun y hy => hU y (List.mem_cons_of_mem _ hy)) (by rw [e1]; omega)
    refine ⟨T', x3', x4', x5', x6', by rw [k1, e1], k2.mono (by rw [List.length_cons, Nat.add_mul, Nat.one_mul]; omega), ?_⟩
    show forL _ _ (.tup [.int (j : Nat), .int u] :: enI (j + 1) U) _ = _
    rw [forL_cons, ← k3]
    have ee := enum_dI V
    generalize dI T1 = TT1 at *
    generalize dI T = TT at *
    generalize dI V = VV at *
    simp [u_b_product_2, h3, h4, ee, e3]
theorem product_ok {a b : Nat} (hab : a + b < 1000000) {U V : List Int} (hU : BdL a U) (hV : BdL b V) (hU0 : 0 < U.length) (hV0 : 0 < V.length) (hl1 : U.length ≤ 1000) (hl2 : V.length ≤ 1000) :
    ∃ T, T.length + 1 = U.length + V.length ∧ UB (U.length * (V.length * 2 ^ (a + b))) T ∧ F_product [.lst (dI U), .lst (dI V)] = .ok (.lst (dI T)) true .non := by
  obtain ⟨T, x3, x4, x5, x6, e1, e2, e3⟩ := pout_loop hab hV hV0 (some (.lst (dI U), .frz)) U 0 (List.replicate (U.length + V.length - 1) 0) 0 none none none none rfl rfl rfl rfl (fun x hx => by rw [List.eq_of_mem_replicate hx]; exact ⟨by decide, by decide⟩) hU (by simp; omega)
  rw [Nat.zero_add] at e2
  rw [List.length_replicate] at e1
  refine ⟨T, by omega, e2, ?_⟩
  have ee := enum_dI U
  have hr : dMul (.lst [.int 0]) (.int ((U.length + V.length - 1 : Nat) : Int)) = some (.lst (List.replicate (U.length + V.length - 1) (.int 0)), true) := dMul_rep (by omega)
  have hd : dI (List.replicate (U.length + V.length - 1) 0) = List.replicate (U.length + V.length - 1) (D.int 0) := by unfold dI; rw [List.map_replicate]
  rw [hd] at e3
  have h1 : (dI U).length = U.length := List.length_map _
  have h2 : (dI V).length = V.length := List.length_map _
  have hs : ((U.length : Nat) : Int) + ((V.length : Nat) : Int) - 1 = ((U.length + V.length - 1 : Nat) : Int) := by omega
  generalize List.replicate (U.length + V.length - 1) (D.int 0) = RR at *
  generalize dI T = TT at *
  generalize dI V = VV at *
  generalize dI U = UU at *
  simp [F_product, fnOf, startE, u_B_product, h1, h2, hs, hr, ee, e3, le24_of]
/-! ### total_counts returns -/
def gl : Nat → Nat
  | 0 => 0
  | n + 1 => gl n + n
theorem gl_two : ∀ n : Nat, (n : Int) * ((n : Int) - 1) = 2 * (gl n : Int)
  | 0 => rfl
  | n + 1 => by
    have h := gl_two n
    rw [Int.mul_sub, Int.mul_one] at h
    have e : ((n + 1 : Nat) : Int) - 1 = (n : Int) := by omega
    have e2 : ((n + 1 : Nat) : Int) * (n : Int) = (n : Int) * (n : Int) + (n : Int) := by
      rw [show ((n + 1 : Nat) : Int) = (n : Int) + 1 by omega, Int.add_mul, Int.one_mul]
    have e3 : ((gl (n + 1) : Nat) : Int) = (gl n : Int) + (n : Int) := by show ((gl n + n : Nat) : Int) = _; omega
    rw [e, e2, e3]; omega
theorem gl_add (l m : Nat) : gl l + gl m + (l + m) ≤ gl (l + m + 1) := by
  have h : gl l + gl m + l * m = gl (l + m) := by
    induction m with
    | zero => simp [gl]
    | succ m ih =>
      show gl l + (gl m + m) + l * (m + 1) = gl (l + m) + (l + m)
      rw [← ih, Nat.mul_add, Nat.mul_one]; omega
  show _ ≤ gl (l + m) + (l + m)
  rw [← h]; omega
theorem gl_mono {l m : Nat} (h : l ≤ m) : gl l ≤ gl m := by
  induction m with
  | zero => have : l = 0 := by omega
            subst this; exact Nat.le_refl _
  | succ m ih =>
    by_cases q : l = m + 1
    · rw [q]; exact Nat.le_refl _
    · exact Nat.le_trans (ih (by omega)) (Nat.le_add_right _ _)
theorem greatest_ok {n : Nat} (hn : n ≤ 40) : F_greatest_total [.int (n : Nat)] = .ok (.int (gl n : Nat)) false .non := by
  have e1 := checksize_ok (z := ((n : Nat) : Int)) (a := 0) (b := 40) (by omega) (by omega)
  have hm : mulOk ((n : Nat) : Int) (((n : Nat) : Int) - 1) = true := mulOk_of (i := 7) (j := 7) (by omega) (by omega) (by decide)
  have hd : divOk (((n : Nat) : Int) * (((n : Nat) : Int) - 1)) 2 = true := divOk_of (j := 2) (by decide) (by decide) (by decide)
  have h2 := gl_two n
  have e2 : ((n : Nat) : Int) * (((n : Nat) : Int) - 1) / 2 = ((gl n : Nat) : Int) := by rw [h2]; omega
  simp [F_greatest_total, fnOf, startE, u_B_greatest_total, e1, y_mul hm, y_div hd, e2]
def llD (X : List (List Int)) : List D := X.map fun A => .lst (dI A)
theorem llD_len (X : List (List Int)) : (llD X).length = X.length := List.length_map _
theorem llD_at {X : List (List Int)} {i : Nat} {A : List Int} (h : X[i]? = some A) : atI (llD X) ((i : Nat) : Int) = some (.lst (dI A)) := by
  refine VS.atI_nat ?_
  unfold llD
  rw [List.getElem?_map, h]; rfl
def RowsT (c : Nat) (R : List (List Int)) : Prop := R.length = c ∧ ∀ i A, R[i]? = some A → A.length = gl i + 1 ∧ BdL (30 * (i * i)) A
theorem UB.bdl {B b : Nat} {T : List Int} (h : UB B T) (hb : B ≤ 2 ^ b) : BdL b T := fun x hx => ⟨(h x hx).1, Nat.le_trans (h x hx).2 hb⟩
theorem left_loop {c : Nat} (hc : 1 ≤ c) (hc2 : c ≤ 16) {R : List (List Int)} (hR : RowsT c R) (c0 : Option (D × Ow)) : ∀ (k lo : Nat) (T : List Int) (B : Nat) (c4 : Option (D × Ow)), c4.all noIo = true → lo + k = c → T.length = gl c + 1 → UB B T →
    ∃ T' x4, T'.length = T.length ∧ UB (B + k * 2 ^ (21 + 5 * (c - 1) + 30 * ((c - 1) * (c - 1)))) T' ∧ x4.all noIo = true ∧ forL (gName' 4) b_total_counts_1 (itRange (lo : Nat) k) [c0, some (.lst (llD R), .own), some (.int (c : Nat), .frz), some (.lst (dI T), .own), c4] = .ok (.nx [c0, some (.lst (llD R), .own), some (.int (c : Nat), .frz), some (.lst (dI T'), .own), x4])
  | 0, lo, T, B, c4, h4, _, _, hT => ⟨T, c4, rfl, by simpa using hT, h4, rfl⟩
  | k + 1, lo, T, B, c4, h4, hl, hTl, hT => by
    have ec : ((c : Nat) : Int) - 1 = ((c - 1 : Nat) : Int) := by omega
    have es : ((c - 1 : Nat) : Int) - ((lo : Nat) : Int) = ((c - 1 - lo : Nat) : Int) := by omega
    obtain ⟨z, ez, hz⟩ := binomial_ok (s := ((c - 1 : Nat) : Int)) (p := lo) (by omega) (by omega)
    have hx : lo < R.length := by rw [hR.1]; omega
    have hy : c - 1 - lo < R.length := by rw [hR.1]; omega
    have ex := List.getElem?_eq_getElem hx
    have ey := List.getElem?_eq_getElem hy
    obtain ⟨lx, bx⟩ := hR.2 _ _ ex
    obtain ⟨ly, bY⟩ := hR.2 _ _ ey
    have ax := llD_at ex
    have ay := llD_at ey
    generalize R[lo] = U at *
    generalize R[c - 1 - lo] = V at *
    have g1 : gl lo ≤ 120 := Nat.le_trans (gl_mono (show lo ≤ 16 by omega)) (by decide)
    have g2 : gl (c - 1 - lo) ≤ 120 := Nat.le_trans (gl_mono (show c - 1 - lo ≤ 16 by omega)) (by decide)
    have q1 : lo * lo ≤ 16 * 16 := Nat.mul_le_mul (by omega) (by omega)
    have q2 : (c - 1 - lo) * (c - 1 - lo) ≤ 16 * 16 := Nat.mul_le_mul (by omega) (by omega)
    have q3 : lo * lo + (c - 1 - lo) * (c - 1 - lo) ≤ (c - 1) * (c - 1) := by
      obtain ⟨m, e⟩ : ∃ m, c - 1 = lo + m := ⟨c - 1 - lo, by omega⟩
      rw [e, Nat.add_sub_cancel_left, Nat.add_mul, Nat.mul_add, Nat.mul_add]; omega
    obtain ⟨W, w1, w2, w3⟩ := product_ok (a := 30 * (lo * lo)) (b := 30 * ((c - 1 - lo) * (c - 1 - lo))) (by omega) bx bY (by omega) (by omega) (by omega) (by omega)
    have hW : BdL (14 + 30 * ((c - 1) * (c - 1))) W := w2.bdl (by
      rw [← Nat.mul_assoc, Nat.pow_add 2 14]
      refine Nat.mul_le_mul ?_ (Nat.pow_le_pow_right (n := 2) (by decide) (by omega))
      exact Nat.le_trans (Nat.mul_le_mul (show U.length ≤ 121 by omega) (show V.length ≤ 121 by omega)) (by decide))
    have hg := gl_add lo (c - 1 - lo)
    rw [show lo + (c - 1 - lo) + 1 = c by omega] at hg
    have gc : gl c ≤ 120 := Nat.le_trans (gl_mono hc2) (by decide)
    have q4 : (c - 1) * (c - 1) ≤ 16 * 16 := Nat.mul_le_mul (by omega) (by omega)
    obtain ⟨T1, t1, t2, t3⟩ := addsh_ok (s := c - 1) (T := T) (V := W) (hz.mono (show 5 * lo ≤ 5 * (c - 1) by omega)) (b := 14 + 30 * ((c - 1) * (c - 1))) (by omega) hT hW (by omega)
    have hB : B + W.length * 2 ^ (5 * (c - 1) + (14 + 30 * ((c - 1) * (c - 1)))) ≤ B + 2 ^ (21 + 5 * (c - 1) + 30 * ((c - 1) * (c - 1))) := by
      refine Nat.add_le_add_left ?_ _
      rw [show 21 + 5 * (c - 1) + 30 * ((c - 1) * (c - 1)) = 7 + (5 * (c - 1) + (14 + 30 * ((c - 1) * (c - 1)))) by omega, Nat.pow_add 2 7]
      exact Nat.mul_le_mul_right _ (show W.length ≤ 2 ^ 7 from Nat.le_trans (show W.length ≤ 121 by omega) (by decide))
    obtain ⟨T', x4, k1, k2, k3, k4⟩ := left_loop hc hc2 hR c0 k (lo + 1) T1 _ (some (.int (lo : Nat), .frz)) rfl (by omega) (by omega) (t2.mono hB)
    refine ⟨T', x4, by omega, k2.mono (by rw [Nat.add_mul, Nat.one_mul]; omega), k3, ?_⟩
    rw [itR_succ, forL_cons, ← k4]
    have ei : ((lo + 1 : Nat) : Int) = ((lo : Nat) : Int) + 1 := by omega
    rw [ei]
    generalize llD R = RR at *
    generalize dI T1 = TT1 at *
    generalize dI T = TT at *
    generalize dI U = UU at *
    generalize dI V = VV at *
    generalize dI W = WW at *
    simp [u_b_total_counts_1, h4, ec, es, ez, ax, ay, w3, t3]
theorem trow_loop (c0 : Option (D × Ow)) : ∀ (k c : Nat) (R : List (List Int)) (c2 c3 c4 : Option (D × Ow)), c2.all noIo = true → c3.all noIo = true → c4.all noIo = true → 1 ≤ c → c + k ≤ 17 → RowsT c R →
    ∃ R' x2 x3 x4, RowsT (c + k) R' ∧ forL (gName' 2) b_total_counts_2 (itRange (c : Nat) k) [c0, some (.lst (llD R), .own), c2, c3, c4] = .ok (.nx [c0, some (.lst (llD R'), .own), x2, x3, x4])
  | 0, c, R, c2, c3, c4, _, _, _, _, _, hR => ⟨R, c2, c3, c4, hR, rfl⟩
  | k + 1, c, R, c2, c3, c4, h2, h3, h4, hc, hk, hR => by
    have gc : gl c ≤ 120 := Nat.le_trans (gl_mono (show c ≤ 16 by omega)) (by decide)
    obtain ⟨T, x4, t1, t2, t3, t4⟩ := left_loop hc (by omega) hR c0 c 0 (List.replicate (gl c + 1) 0) 0 c4 h4 (by omega) (by simp) (fun x hx => by rw [List.eq_of_mem_replicate hx]; exact ⟨by decide, by decide⟩)
    rw [Nat.zero_add] at t2
    rw [List.length_replicate] at t1
    have hT : BdL (30 * (c * c)) T := t2.bdl (by
      refine Nat.le_trans (Nat.mul_le_mul_right _ (show c ≤ 2 ^ 4 by omega)) ?_
      rw [← Nat.pow_add]
      refine Nat.pow_le_pow_right (by decide) ?_
      obtain ⟨m, rfl⟩ : ∃ m, c = m + 1 := ⟨c - 1, by omega⟩
      have : (m + 1) * (m + 1) = m * m + m + m + 1 := by rw [Nat.add_mul, Nat.mul_add]; omega
      rw [this, Nat.add_sub_cancel]; omega)
    obtain ⟨R', y2, y3, y4, k1, k2⟩ := trow_loop c0 k (c + 1) (R ++ [T]) (some (.int (c : Nat), .frz)) (some (.lst (dI T), .frz)) x4 rfl rfl t3 (by omega) (by omega) ⟨by rw [List.length_append, List.length_singleton, hR.1], fun i A h => by
      by_cases q : i < R.length
      · rw [List.getElem?_append_left q] at h; exact hR.2 i A h
      · rw [List.getElem?_append_right (by omega)] at h
        have q2 : i - R.length = 0 := by
          have := (List.getElem?_eq_some_iff.mp h).1
          simpa using this
        rw [q2] at h
        cases h
        have : i = c := by have := hR.1; omega
        subst this
        exact ⟨t1, hT⟩⟩
    refine ⟨R', y2, y3, y4, by rw [show c + (k + 1) = c + 1 + k by omega]; exact k1, ?_⟩
    rw [itR_succ, forL_cons, ← k2]
    have ei : ((c + 1 : Nat) : Int) = ((c : Nat) : Int) + 1 := by omega
    have eg := greatest_ok (n := c) (by omega)
    have hr : dMul (.lst [.int 0]) (.int ((gl c + 1 : Nat) : Int)) = some (.lst (List.replicate (gl c + 1) (.int 0)), true) := dMul_rep (by omega)
    have hd : dI (List.replicate (gl c + 1) 0) = List.replicate (gl c + 1) (D.int 0) := by unfold dI; rw [List.map_replicate]
    rw [hd] at t4
    have e1 : ((gl c + 1 : Nat) : Int) = ((gl c : Nat) : Int) + 1 := by omega
    rw [e1] at hr
    have okc := okR_nat (n := c) (by omega)
    have ha : llD (R ++ [T]) = llD R ++ [.lst (dI T)] := by unfold llD; rw [List.map_append]; rfl
    rw [ei, ha]
    have hRl := llD_len R
    have hlt : lt24 R.length = true := lt24_of (by rw [hR.1]; omega)
    have e0 : ((0 : Nat) : Int) = 0 := rfl
    rw [e0] at t4
    generalize llD R = RR at *
    generalize dI T = TT at *
    generalize List.replicate (gl c + 1) (D.int 0) = ZZ at *
    simp [u_b_total_counts_2, h2, h3, eg, hr, okc, t4, hRl, hlt, le24_of]
theorem totals_ok {n : Nat} (hn : n ≤ 16) : ∃ t fr, F_total_counts [.int (n : Nat)] = .ok t fr .non := by
  have e1 := checksize_ok (z := ((n : Nat) : Int)) (a := 0) (b := 16) (by omega) (by omega)
  obtain ⟨R, x2, x3, x4, r1, r2⟩ := trow_loop (some (.int (n : Nat), .frz)) n 1 [[1]] none none none rfl rfl rfl (by omega) (by omega) ⟨rfl, fun i A h => by
    cases i with
    | zero => cases h; exact ⟨rfl, fun x hx => by rw [List.mem_singleton.mp hx]; exact Bd.one _⟩
    | succ i => simp at h⟩
  have hx : n < R.length := by rw [r1.1]; omega
  have ax := llD_at (List.getElem?_eq_getElem hx)
  have ok1 := okR_nat (n := n + 1) (by omega)
  have e2 : ((n + 1 : Nat) : Int) = ((n : Nat) : Int) + 1 := by omega
  rw [e2] at ok1
  have ok0 : okR 1 = true := by decide
  have ek : (((n : Nat) : Int) + 1 - 1).toNat = n := by omega
  have e3 : ((1 : Nat) : Int) = 1 := rfl
  have e4 : llD [[1]] = [.lst [.int 1]] := rfl
  rw [e3, e4] at r2
  refine ⟨.lst (dI R[n]), false, ?_⟩
  generalize dI R[n] = VV at *
  generalize llD R = RR at *
  simp [F_total_counts, fnOf, startE, u_B_total_counts, e1, ok1, ok0, ek, r2, ax, le24_of]
/-! ### depth_counts returns -/
theorem fct_pos : ∀ n : Nat, 0 < fct n
  | 0 => Nat.one_pos
  | n + 1 => Nat.mul_pos (Nat.succ_pos n) (fct_pos n)
theorem fct_bd {i : Nat} (h : i ≤ 30) : Bd 180 ((fct i : Nat) : Int) := ⟨by omega, by
  rw [Int.toNat_natCast]
  exact Nat.le_trans (fct_le i (by omega)) (Nat.pow_le_pow_right (n := 2) (by decide) (by omega))⟩
def facL (n : Nat) : List Int := (List.range (n + 1)).map fun i => ((fct i : Nat) : Int)
theorem facL_at {n i : Nat} (h : i ≤ n) : atI (dI (facL n)) ((i : Nat) : Int) = some (.int ((fct i : Nat) : Int)) := by
  refine getI_dI ?_
  unfold facL
  rw [List.getElem?_map, List.getElem?_range (by omega)]; rfl
def lllD (R : List (List (List Int))) : List D := R.map fun L => .lst (llD L)
theorem lllD_at {R : List (List (List Int))} {i : Nat} {L : List (List Int)} (h : R[i]? = some L) : atI (lllD R) ((i : Nat) : Int) = some (.lst (llD L)) := by
  refine VS.atI_nat ?_
  unfold lllD
  rw [List.getElem?_map, h]; rfl
def RanksD (c : Nat) (L : List (List Int)) : Prop := ∀ (j : Nat) (A : List Int), L[j]? = some A → A.length = c ∧ BdL (250 * c) A
def RowsD (c : Nat) (R : List (List (List Int))) : Prop := R.length = c ∧ ∀ (i : Nat) (L : List (List Int)), R[i]? = some L → L.length = i ∧ RanksD i L
theorem root_loop {n c r : Nat} (hn : n ≤ 30) (hc : 1 ≤ c) (hc2 : c ≤ n) (hr : r < c) {R : List (List (List Int))} (hR : RowsD c R) (c0 c4 : Option (D × Ow)) : ∀ (k lo : Nat) (T : List Int) (B : Nat) (c7 c8 c9 : Option (D × Ow)), c7.all noIo = true → c8.all noIo = true → c9.all noIo = true → lo + k = c → T.length = c → UB B T →
    ∃ T' x7 x8 x9, T'.length = c ∧ UB (B + k * 2 ^ (185 + 250 * (c - 1))) T' ∧ x7.all noIo = true ∧ x8.all noIo = true ∧ x9.all noIo = true ∧ forL (gName' 7) b_depth_rows_1 (itRange (lo : Nat) k) [c0, some (.lst (dI (facL n)), .own), some (.lst (lllD R), .own), some (.int (c : Nat), .frz), c4, some (.int (r : Nat), .frz), some (.lst (dI T), .own), c7, c8, c9] = .ok (.nx [c0, some (.lst (dI (facL n)), .own), some (.lst (lllD R), .own), some (.int (c : Nat), .frz), c4, some (.int (r : Nat), .frz), some (.lst (dI T'), .own), x7, x8, x9])
  | 0, lo, T, B, c7, c8, c9, h7, h8, h9, _, hl, hT => ⟨T, c7, c8, c9, hl, by simpa using hT, h7, h8, h9, rfl⟩
  | k + 1, lo, T, B, c7, c8, c9, h7, h8, h9, hk, hl, hT => by
    have ec : ((c : Nat) : Int) - 1 = ((c - 1 : Nat) : Int) := by omega
    have ef := facL_at (n := n) (i := c - 1) (by omega)
    have ei : ((lo + 1 : Nat) : Int) = ((lo : Nat) : Int) + 1 := by omega
    have bfc := fct_bd (i := c - 1) (by omega)
    by_cases q : lo = r
    · subst q
      have hx : 0 < T.length := by omega
      have ex := List.getElem?_eq_getElem hx
      have ea := augL_step (i := 6) (f := dConst (.int 0)) (g := dBin dIdx (dVar 1) (dBin dSub (dVar 3) (dConst (.int 1)))) (env := [c0, some (.lst (dI (facL n)), .own), some (.lst (lllD R), .own), some (.int (c : Nat), .frz), c4, some (.int (lo : Nat), .frz), some (.lst (dI T), .own), some (.int (lo : Nat), .frz), c8, c9]) (T := T) (w := .own) (k := 0) (a := T[0]) (b := ((fct (c - 1) : Nat) : Int)) (rk := .fz (.int 0)) (rb := .fz (.int ((fct (c - 1) : Nat) : Int))) rfl (.inl rfl) (by simp) rfl (by decide) ex (by
        generalize dI (facL n) = FF at *
        simp [ec, ef]) rfl
      obtain ⟨T', x7, x8, x9, k1, k2, k3, k4, k5, k6⟩ := root_loop hn hc hc2 hr hR c0 c4 k (lo + 1) (T.set 0 (T[0] + ((fct (c - 1) : Nat) : Int))) (B + 2 ^ (185 + 250 * (c - 1))) (some (.int (lo : Nat), .frz)) c8 c9 rfl h8 h9 (by omega) (by rw [List.length_set]; exact hl) (hT.set ex bfc.1 (Nat.le_trans bfc.2 (Nat.pow_le_pow_right (n := 2) (by decide) (by omega))))
      refine ⟨T', x7, x8, x9, k1, k2.mono (by rw [Nat.add_mul, Nat.one_mul]; omega), k3, k4, k5, ?_⟩
      rw [itR_succ, forL_cons, ← k6, ei]
      rw [show (0 : Int).toNat = 0 from rfl] at ea
      generalize T.set 0 (T[0] + ((fct (c - 1) : Nat) : Int)) = T2 at *
      generalize dI T2 = TT2 at *
      generalize dI T = TT at *
      generalize dI (facL n) = FF at *
      generalize lllD R = RR at *
      simp [u_b_depth_rows_1, h7, ea]
    · have hparts : ∃ p i : Nat, p < c ∧ i < p ∧ (if r < lo then ((lo : Nat) : Int) else ((c - 1 : Nat) : Int) - ((lo : Nat) : Int)) = ((p : Nat) : Int) ∧ (if r < lo then ((r : Nat) : Int) else ((r : Nat) : Int) - ((lo : Nat) : Int) - 1) = ((i : Nat) : Int) := by
        by_cases z : r < lo
        · exact ⟨lo, r, by omega, z, by rw [if_pos z], by rw [if_pos z]⟩
        · exact ⟨c - 1 - lo, r - lo - 1, by omega, by omega, by rw [if_neg z]; omega, by rw [if_neg z]; omega⟩
      obtain ⟨p, i, hp, hi, e1, e2⟩ := hparts
      have hpR : p < R.length := by rw [hR.1]; omega
      have ex := List.getElem?_eq_getElem hpR
      obtain ⟨l1, l2⟩ := hR.2 _ _ ex
      have ax := lllD_at ex
      generalize R[p] = L at *
      have ey := List.getElem?_eq_getElem (show i < L.length by omega)
      obtain ⟨m1, m2⟩ := l2 _ _ ey
      have ay := llD_at ey
      generalize L[i] = A at *
      have efp := facL_at (n := n) (i := p) (by omega)
      have hfp := fct_pos p
      have bfp := fct_bd (i := p) (by omega)
      have hd : divOk ((fct (c - 1) : Nat) : Int) ((fct p : Nat) : Int) = true := divOk_of (j := 181) (by omega) (by
        have := bfp.2
        have h2 : (2 : Nat) ^ 180 < 2 ^ 181 := Nat.pow_lt_pow_right (by decide) (by decide)
        omega) (by decide)
      have bq := bfc.div (y := ((fct p : Nat) : Int)) (by omega)
      have hA : BdL (250 * (c - 1)) A := fun x hx => (m2 x hx).mono (by omega)
      obtain ⟨T1, t1, t2, t3⟩ := addsh_ok (s := 1) (T := T) (V := A) bq (b := 250 * (c - 1)) (by omega) hT hA (by omega)
      have hB : B + A.length * 2 ^ (180 + 250 * (c - 1)) ≤ B + 2 ^ (185 + 250 * (c - 1)) := by
        refine Nat.add_le_add_left ?_ _
        rw [show 185 + 250 * (c - 1) = 5 + (180 + 250 * (c - 1)) by omega, Nat.pow_add 2 5]
        exact Nat.mul_le_mul_right _ (show A.length ≤ 2 ^ 5 from Nat.le_trans (show A.length ≤ 30 by omega) (by decide))
      obtain ⟨T', x7, x8, x9, k1, k2, k3, k4, k5, k6⟩ := root_loop hn hc hc2 hr hR c0 c4 k (lo + 1) T1 _ (some (.int (lo : Nat), .frz)) (some (.int (p : Nat), .frz)) (some (.int (i : Nat), .frz)) rfl rfl rfl (by omega) (by omega) (t2.mono hB)
      refine ⟨T', x7, x8, x9, k1, k2.mono (by rw [Nat.add_mul, Nat.one_mul]; omega), k3, k4, k5, ?_⟩
      rw [itR_succ, forL_cons, ← k6, ei]
      have hne : ¬ ((lo : Nat) : Int) = ((r : Nat) : Int) := by omega
      have e11 : ((1 : Nat) : Int) = 1 := rfl
      rw [e11] at t3
      by_cases z : r < lo
      · rw [if_pos z] at e1 e2
        have z2 : ((r : Nat) : Int) < ((lo : Nat) : Int) := by omega
        have hpl : p = lo := by omega
        have hir : i = r := by omega
        subst hpl hir
        generalize dI T1 = TT1 at *
        generalize dI T = TT at *
        generalize dI A = AA at *
        generalize dI (facL n) = FF at *
        generalize lllD R = RR at *
        generalize llD L = LL at *
        generalize ((fct (c - 1) : Nat) : Int) = fc at *
        generalize ((fct p : Nat) : Int) = fp at *
        simp [u_b_depth_rows_1, h7, h8, h9, hne, z, ec, ef, efp, ax, ay, y_div hd, t3]
      · rw [if_neg z] at e1 e2
        have z2 : ¬ ((r : Nat) : Int) < ((lo : Nat) : Int) := by omega
        generalize dI T1 = TT1 at *
        generalize dI T = TT at *
        generalize dI A = AA at *
        generalize dI (facL n) = FF at *
        generalize lllD R = RR at *
        generalize llD L = LL at *
        generalize ((fct (c - 1) : Nat) : Int) = fc at *
        generalize ((fct p : Nat) : Int) = fp at *
        simp [u_b_depth_rows_1, h7, h8, h9, hne, z, ec, e1, e2, ef, efp, ax, ay, y_div hd, t3]
theorem rank_loop {n c : Nat} (hn : n ≤ 30) (hc : 1 ≤ c) (hc2 : c ≤ n) {R : List (List (List Int))} (hR : RowsD c R) (c0 : Option (D × Ow)) : ∀ (k lo : Nat) (L : List (List Int)) (c5 c6 c7 c8 c9 : Option (D × Ow)), c5.all noIo = true → c6.all noIo = true → c7.all noIo = true → c8.all noIo = true → c9.all noIo = true → lo + k = c → L.length = lo → RanksD c L →
    ∃ L' x5 x6 x7 x8 x9, L'.length = c ∧ RanksD c L' ∧ x5.all noIo = true ∧ x6.all noIo = true ∧ x7.all noIo = true ∧ x8.all noIo = true ∧ x9.all noIo = true ∧ forL (gName' 5) b_depth_rows_2 (itRange (lo : Nat) k) [c0, some (.lst (dI (facL n)), .own), some (.lst (lllD R), .own), some (.int (c : Nat), .frz), some (.lst (llD L), .own), c5, c6, c7, c8, c9] = .ok (.nx [c0, some (.lst (dI (facL n)), .own), some (.lst (lllD R), .own), some (.int (c : Nat), .frz), some (.lst (llD L'), .own), x5, x6, x7, x8, x9])
  | 0, lo, L, c5, c6, c7, c8, c9, h5, h6, h7, h8, h9, hk, hl, hL => ⟨L, c5, c6, c7, c8, c9, by omega, hL, h5, h6, h7, h8, h9, rfl⟩
  | k + 1, lo, L, c5, c6, c7, c8, c9, h5, h6, h7, h8, h9, hk, hl, hL => by
    obtain ⟨T, x7, x8, x9, t1, t2, t3, t4, t5, t6⟩ := root_loop hn hc hc2 (r := lo) (by omega) hR c0 (some (.lst (llD L), .own)) c 0 (List.replicate c 0) 0 c7 c8 c9 h7 h8 h9 (by omega) (by simp) (fun x hx => by rw [List.eq_of_mem_replicate hx]; exact ⟨by decide, by decide⟩)
    rw [Nat.zero_add] at t2
    have hT : BdL (250 * c) T := t2.bdl (by
      refine Nat.le_trans (Nat.mul_le_mul_right _ (show c ≤ 2 ^ 5 by omega)) ?_
      rw [← Nat.pow_add]
      exact Nat.pow_le_pow_right (n := 2) (by decide) (by omega))
    obtain ⟨L', y5, y6, y7, y8, y9, k1, k2, g5, g6, g7, g8, g9, k3⟩ := rank_loop hn hc hc2 hR c0 k (lo + 1) (L ++ [T]) (some (.int (lo : Nat), .frz)) (some (.lst (dI T), .frz)) x7 x8 x9 rfl rfl t3 t4 t5 (by omega) (by rw [List.length_append, List.length_singleton, hl]) (fun j A h => by
      by_cases q : j < L.length
      · rw [List.getElem?_append_left q] at h; exact hL j A h
      · rw [List.getElem?_append_right (by omega)] at h
        have q2 : j - L.length = 0 := by
          have := (List.getElem?_eq_some_iff.mp h).1
          simpa using this
        rw [q2] at h
        cases h
        exact ⟨t1, hT⟩)
    refine ⟨L', y5, y6, y7, y8, y9, k1, k2, g5, g6, g7, g8, g9, ?_⟩
    rw [itR_succ, forL_cons, ← k3]
    have ei : ((lo + 1 : Nat) : Int) = ((lo : Nat) : Int) + 1 := by omega
    have hr : dMul (.lst [.int 0]) (.int (c : Nat)) = some (.lst (List.replicate c (.int 0)), true) := dMul_rep (by omega)
    have hd : dI (List.replicate c 0) = List.replicate c (D.int 0) := by unfold dI; rw [List.map_replicate]
    rw [hd] at t6
    have okc := okR_nat (n := c) (by omega)
    have ha : llD (L ++ [T]) = llD L ++ [.lst (dI T)] := by unfold llD; rw [List.map_append]; rfl
    rw [ei, ha]
    have hLl := llD_len L
    have hlt : lt24 L.length = true := lt24_of (by omega)
    have e0 : ((0 : Nat) : Int) = 0 := rfl
    rw [e0] at t6
    generalize dI T = TT at *
    generalize dI (facL n) = FF at *
    generalize lllD R = RR at *
    generalize llD L = LL at *
    generalize List.replicate c (D.int 0) = ZZ at *
    simp [u_b_depth_rows_2, h5, h6, hr, okc, t6, hLl, hlt, le24_of]
theorem count_loop {n : Nat} (hn : n ≤ 30) (c0 : Option (D × Ow)) : ∀ (k c : Nat) (R : List (List (List Int))) (c3 c4 c5 c6 c7 c8 c9 : Option (D × Ow)), c3.all noIo = true → c4.all noIo = true → c5.all noIo = true → c6.all noIo = true → c7.all noIo = true → c8.all noIo = true → c9.all noIo = true → 1 ≤ c → c + k = n + 1 → RowsD c R →
    ∃ R' x3 x4 x5 x6 x7 x8 x9, RowsD (n + 1) R' ∧ forL (gName' 3) b_depth_rows_3 (itRange (c : Nat) k) [c0, some (.lst (dI (facL n)), .own), some (.lst (lllD R), .own), c3, c4, c5, c6, c7, c8, c9] = .ok (.nx [c0, some (.lst (dI (facL n)), .own), some (.lst (lllD R'), .own), x3, x4, x5, x6, x7, x8, x9])
  | 0, c, R, c3, c4, c5, c6, c7, c8, c9, _, _, _, _, _, _, _, _, hk, hR => ⟨R, c3, c4, c5, c6, c7, c8, c9, by rw [← hk]; exact hR, rfl⟩
  | k + 1, c, R, c3, c4, c5, c6, c7, c8, c9, h3, h4, h5, h6, h7, h8, h9, hc, hk, hR => by
    obtain ⟨L, x5, x6, x7, x8, x9, t1, t2, g5, g6, g7, g8, g9, t3⟩ := rank_loop hn hc (by omega) hR c0 c 0 [] c5 c6 c7 c8 c9 h5 h6 h7 h8 h9 (by omega) rfl (by intro j A h; simp at h)
    obtain ⟨R', y3, y4, y5, y6, y7, y8, y9, k1, k2⟩ := count_loop hn c0 k (c + 1) (R ++ [L]) (some (.int (c : Nat), .frz)) (some (.lst (llD L), .frz)) x5 x6 x7 x8 x9 rfl rfl g5 g6 g7 g8 g9 (by omega) (by omega) ⟨by rw [List.length_append, List.length_singleton, hR.1], fun i A h => by
      by_cases q : i < R.length
      · rw [List.getElem?_append_left q] at h; exact hR.2 i A h
      · rw [List.getElem?_append_right (by omega)] at h
        have q2 : i - R.length = 0 := by
          have := (List.getElem?_eq_some_iff.mp h).1
          simpa using this
        rw [q2] at h
        cases h
        have : i = c := by have := hR.1; omega
        subst this
        exact ⟨t1, t2⟩⟩
    refine ⟨R', y3, y4, y5, y6, y7, y8, y9, k1, ?_⟩
    rw [itR_succ, forL_cons, ← k2]
    have ei : ((c + 1 : Nat) : Int) = ((c : Nat) : Int) + 1 := by omega
    have okc := okR_nat (n := c) (by omega)
    have ha : lllD (R ++ [L]) = lllD R ++ [.lst (llD L)] := by unfold lllD; rw [List.map_append]; rfl
    rw [ei, ha]
    have hRl : (lllD R).length = R.length := List.length_map _
    have hlt : lt24 R.length = true := lt24_of (by rw [hR.1]; omega)
    have e0 : ((0 : Nat) : Int) = 0 := rfl
    have e00 : llD [] = [] := rfl
    rw [e0, e00] at t3
    generalize dI (facL n) = FF at *
    generalize lllD R = RR at *
    generalize llD L = LL at *
    simp [u_b_depth_rows_3, h3, h4, okc, t3, hRl, hlt, le24_of]
theorem depths_ok {n r : Nat} (hn : n ≤ 30) (hr : r < n) : ∃ t fr, F_depth_counts [.int (n : Nat), .int (r : Nat)] = .ok t fr .non := by
  have e1 := checksize_ok (z := ((n : Nat) : Int)) (a := 1) (b := 30) (by omega) (by omega)
  have e2 := isbet_ok ((r : Nat) : Int) 0 (((n : Nat) : Int) - 1)
  have hb : (decide ((0 : Int) ≤ ((r : Nat) : Int)) && decide (((r : Nat) : Int) ≤ ((n : Nat) : Int) - 1)) = true := by simp; omega
  rw [hb] at e2
  have ok1 := okR_nat (n := n + 1) (by omega)
  have e3 : ((n + 1 : Nat) : Int) = ((n : Nat) : Int) + 1 := by omega
  rw [e3] at ok1
  have ok0 : okR 1 = true := by decide
  have ek : (((n : Nat) : Int) + 1 - 1).toNat = n := by omega
  have ek2 : (((n : Nat) : Int) + 1).toNat = n + 1 := by omega
  obtain ⟨R, x3, x4, x5, x6, x7, x8, x9, r1, r2⟩ := count_loop hn (some (.int (n : Nat), .frz)) n 1 [[]] none none none none none none none rfl rfl rfl rfl rfl rfl rfl (by omega) (by omega) ⟨rfl, fun i A h => by
    cases i with
    | zero => cases h; exact ⟨rfl, by intro j A h; simp at h⟩
    | succ i => simp at h⟩
  have e := dLc_ok (vs := [3]) (it := dRng1 (dBin dAdd (dVar 0) (dConst (.int 1)))) (g := gName' 3) (t := tNoIf) (f := e_depth_rows_4) (env := [some (.int (n : Nat), .frz), none, none, none, none, none, none, none, none, none]) (env1 := [some (.int (n : Nat), .frz), none, none, none, none, none, none, none, none, none]) (ds := itRange 0 (n + 1)) (fun _ => true) (fun d => .int ((fct (VS.intD d).toNat : Nat) : Int)) (by simp [ok1, ek2]) (by simp) (by simp [itRange]; omega) (by
    intro d hd
    obtain ⟨i, hi, rfl⟩ := List.mem_map.mp hd
    have hi2 := List.mem_range.mp hi
    have ei : (0 : Int) + (i : Nat) = ((i : Nat) : Int) := by omega
    rw [ei]
    have ef := factorial_ok (n := i) (by omega)
    refine ⟨[some (.int (n : Nat), .frz), none, none, some (.int (i : Nat), .frz), none, none, none, none, none, none], by simp [tNoIf], by simp, fun _ => ⟨.fz (.int ((fct i : Nat) : Int)), [some (.int (n : Nat), .frz), none, none, some (.int (i : Nat), .frz), none, none, none, none, none, none], [some (.int (n : Nat), .frz), none, none, some (.int (i : Nat), .frz), none, none, none, none, none, none], by simp [e_depth_rows_4, ef], rfl, by simp⟩⟩)
  have ef : ((itRange 0 (n + 1)).filter fun _ => true).map (fun d => D.int ((fct (VS.intD d).toNat : Nat) : Int)) = dI (facL n) := by
    rw [filter_true]
    unfold itRange facL dI
    rw [List.map_map, List.map_map]
    refine List.map_congr_left fun i _ => ?_
    have : ((0 : Int) + ((i : Nat) : Int)).toNat = i := by omega
    show D.int ((fct (0 + ((i : Nat) : Int)).toNat : Nat) : Int) = D.int ((fct i : Nat) : Int)
    rw [this]
  rw [ef] at e
  have hpR : n < R.length := by rw [r1.1]; omega
  have ex := List.getElem?_eq_getElem hpR
  obtain ⟨l1, l2⟩ := r1.2 _ _ ex
  have ax := lllD_at ex
  generalize R[n] = L at *
  have ey := List.getElem?_eq_getElem (show r < L.length by omega)
  have ay := llD_at ey
  generalize L[r] = A at *
  have e4 : ((1 : Nat) : Int) = 1 := rfl
  have e5 : lllD [[]] = [.lst []] := rfl
  rw [e4, e5] at r2
  have er : F_depth_rows [.int (n : Nat)] = .ok (.lst (lllD R)) true .non := by
    generalize dI (facL n) = FF at *
    generalize lllD R = RR at *
    simp [F_depth_rows, fnOf, startE, u_B_depth_rows, e, ok1, ok0, ek, r2, le24_of]
  refine ⟨.lst (dI A), false, ?_⟩
  generalize dI A = AA at *
  generalize lllD R = RR at *
  generalize llD L = LL at *
  simp [F_depth_counts, fnOf, startE, u_B_depth_counts, e1, e2, er, ax, ay]
/-! ### the law -/
def okD : FO → Bool
  | .ok _ false .non => true
  | _ => false
theorem okD_ok {o : FO} (h : okD o = true) : ∃ t, o = .ok t false .non := by
  cases o with
  | ok t fr x => cases fr <;> cases x <;> first | exact ⟨t, rfl⟩ | cases h
  | _ => cases h
theorem leastB : (List.range 41).all (fun n => okD (F_least_total [.int ((n : Nat) : Int)])) = true := by decide +kernel
theorem least_ok {n : Nat} (hn : n ≤ 40) : ∃ t, F_least_total [.int (n : Nat)] = .ok t false .non := okD_ok (List.all_eq_true.mp leastB n (List.mem_range.mpr (by omega)))
def limN : Nat → Nat
  | 0 => 30
  | 1 => 16
  | 2 => 40
  | 3 => 40
  | _ => 30
theorem none_ok {d n r : Nat} (hd : d < 5) (hn : n ≤ limN d) (hr : d = 4 → r < n) : F__law_error [.int (d : Nat), .int (n : Nat), .int (r : Nat)] = .ok (.str (PySem.Str.ofString "none")) false .non := by
  have hd2 : d = 0 ∨ d = 1 ∨ d = 2 ∨ d = 3 ∨ d = 4 := by omega
  rcases hd2 with rfl | rfl | rfl | rfl | rfl
  · obtain ⟨t, fr, e⟩ := heights_ok (n := n) hn
    cases fr <;> simp [F__law_error, fnOf, startE, u_B__law_error, sTryM, u_b__law_error_1, e]
  · obtain ⟨t, fr, e⟩ := totals_ok (n := n) hn
    cases fr <;> simp [F__law_error, fnOf, startE, u_B__law_error, sTryM, u_b__law_error_1, e]
  · obtain ⟨t, e⟩ := least_ok (n := n) hn
    simp [F__law_error, fnOf, startE, u_B__law_error, sTryM, u_b__law_error_1, e]
  · have e := greatest_ok (n := n) hn
    simp [F__law_error, fnOf, startE, u_B__law_error, sTryM, u_b__law_error_1, e]
  · obtain ⟨t, fr, e⟩ := depths_ok (n := n) (r := r) hn (hr rfl)
    cases fr <;> simp [F__law_error, fnOf, startE, u_B__law_error, sTryM, u_b__law_error_1, e]
def wrL (m : Int) : List D := [.int m, .int (-1), .bl true, .bl false, .non, .str (PySem.Str.ofString "3"), .tup [.int 3], .lst [.int 3], .int 100000000000000000000, .int (-100000000000000000000)]
theorem wr0 (s0 s1 s2 s4 s6 c5 : Option (D × Ow)) (h : c5 = none ∨ ∃ z, c5 = some (.int z, .frz)) : forL (gName' 5) b_law_4 (wrL 31) [s0, s1, s2, some (.int 0, .frz), s4, c5, s6] = .ok (.nx [s0, s1, s2, some (.int 0, .frz), s4, some (.int (-100000000000000000000), .frz), s6]) := by
  rcases h with rfl | ⟨z, rfl⟩
  · kernel_rfl
  · kernel_rfl
theorem wr1 (s0 s1 s2 s4 s6 c5 : Option (D × Ow)) (h : c5 = none ∨ ∃ z, c5 = some (.int z, .frz)) : forL (gName' 5) b_law_4 (wrL 17) [s0, s1, s2, some (.int 1, .frz), s4, c5, s6] = .ok (.nx [s0, s1, s2, some (.int 1, .frz), s4, some (.int (-100000000000000000000), .frz), s6]) := by
  rcases h with rfl | ⟨z, rfl⟩
  · kernel_rfl
  · kernel_rfl
theorem wr2 (s0 s1 s2 s4 s6 c5 : Option (D × Ow)) (h : c5 = none ∨ ∃ z, c5 = some (.int z, .frz)) : forL (gName' 5) b_law_4 (wrL 41) [s0, s1, s2, some (.int 2, .frz), s4, c5, s6] = .ok (.nx [s0, s1, s2, some (.int 2, .frz), s4, some (.int (-100000000000000000000), .frz), s6]) := by
  rcases h with rfl | ⟨z, rfl⟩
  · kernel_rfl
  · kernel_rfl
theorem wr3 (s0 s1 s2 s4 s6 c5 : Option (D × Ow)) (h : c5 = none ∨ ∃ z, c5 = some (.int z, .frz)) : forL (gName' 5) b_law_4 (wrL 41) [s0, s1, s2, some (.int 3, .frz), s4, c5, s6] = .ok (.nx [s0, s1, s2, some (.int 3, .frz), s4, some (.int (-100000000000000000000), .frz), s6]) := by
  rcases h with rfl | ⟨z, rfl⟩
  · kernel_rfl
  · kernel_rfl
theorem wr4 (s0 s1 s2 s4 s6 c5 : Option (D × Ow)) (h : c5 = none ∨ ∃ z, c5 = some (.int z, .frz)) : forL (gName' 5) b_law_4 (wrL 31 ++ [.int 0]) [s0, s1, s2, some (.int 4, .frz), s4, c5, s6] = .ok (.nx [s0, s1, s2, some (.int 4, .frz), s4, some (.int 0, .frz), s6]) := by
  rcases h with rfl | ⟨z, rfl⟩
  · kernel_rfl
  · kernel_rfl
def rkL (m : Int) : List D := [.int m, .int (-1), .bl true, .bl false, .non, .str (PySem.Str.ofString "0"), .tup [.int 0], .lst [.int 0], .int 100000000000000000000]
theorem rk1 (s0 s1 s2 s3 s4 : Option (D × Ow)) : forL (gName' 6) b_law_3 (rkL 1) [s0, s1, s2, s3, s4, some (.int 1, .frz), none] = .ok (.nx [s0, s1, s2, s3, s4, some (.int 1, .frz), some (.int 100000000000000000000, .frz)]) := by kernel_rfl
theorem rk2 (s0 s1 s2 s3 s4 : Option (D × Ow)) : forL (gName' 6) b_law_3 (rkL 2) [s0, s1, s2, s3, s4, some (.int 2, .frz), none] = .ok (.nx [s0, s1, s2, s3, s4, some (.int 2, .frz), some (.int 100000000000000000000, .frz)]) := by kernel_rfl
theorem rk3 (s0 s1 s2 s3 s4 : Option (D × Ow)) : forL (gName' 6) b_law_3 (rkL 3) [s0, s1, s2, s3, s4, some (.int 3, .frz), none] = .ok (.nx [s0, s1, s2, s3, s4, some (.int 3, .frz), some (.int 100000000000000000000, .frz)]) := by kernel_rfl
theorem rk4 (s0 s1 s2 s3 s4 : Option (D × Ow)) : forL (gName' 6) b_law_3 (rkL 4) [s0, s1, s2, s3, s4, some (.int 4, .frz), none] = .ok (.nx [s0, s1, s2, s3, s4, some (.int 4, .frz), some (.int 100000000000000000000, .frz)]) := by kernel_rfl
theorem rk5 (s0 s1 s2 s3 s4 : Option (D × Ow)) : forL (gName' 6) b_law_3 (rkL 5) [s0, s1, s2, s3, s4, some (.int 5, .frz), none] = .ok (.nx [s0, s1, s2, s3, s4, some (.int 5, .frz), some (.int 100000000000000000000, .frz)]) := by kernel_rfl
theorem rk6 (s0 s1 s2 s3 s4 : Option (D × Ow)) : forL (gName' 6) b_law_3 (rkL 6) [s0, s1, s2, s3, s4, some (.int 6, .frz), none] = .ok (.nx [s0, s1, s2, s3, s4, some (.int 6, .frz), some (.int 100000000000000000000, .frz)]) := by kernel_rfl
theorem rk7 (s0 s1 s2 s3 s4 : Option (D × Ow)) : forL (gName' 6) b_law_3 (rkL 7) [s0, s1, s2, s3, s4, some (.int 7, .frz), none] = .ok (.nx [s0, s1, s2, s3, s4, some (.int 7, .frz), some (.int 100000000000000000000, .frz)]) := by kernel_rfl
theorem rk8 (s0 s1 s2 s3 s4 : Option (D × Ow)) : forL (gName' 6) b_law_3 (rkL 8) [s0, s1, s2, s3, s4, some (.int 8, .frz), none] = .ok (.nx [s0, s1, s2, s3, s4, some (.int 8, .frz), some (.int 100000000000000000000, .frz)]) := by kernel_rfl
theorem rk_all {n : Nat} (h1 : 1 ≤ n) (h2 : n ≤ 8) (s0 s1 s2 s3 s4 : Option (D × Ow)) : forL (gName' 6) b_law_3 (rkL ((n : Nat) : Int)) [s0, s1, s2, s3, s4, some (.int ((n : Nat) : Int), .frz), none] = .ok (.nx [s0, s1, s2, s3, s4, some (.int ((n : Nat) : Int), .frz), some (.int 100000000000000000000, .frz)]) := by
  have : n = 1 ∨ n = 2 ∨ n = 3 ∨ n = 4 ∨ n = 5 ∨ n = 6 ∨ n = 7 ∨ n = 8 := by omega
  rcases this with rfl | rfl | rfl | rfl | rfl | rfl | rfl | rfl
  · exact rk1 s0 s1 s2 s3 s4
  · exact rk2 s0 s1 s2 s3 s4
  · exact rk3 s0 s1 s2 s3 s4
  · exact rk4 s0 s1 s2 s3 s4
  · exact rk5 s0 s1 s2 s3 s4
  · exact rk6 s0 s1 s2 s3 s4
  · exact rk7 s0 s1 s2 s3 s4
  · exact rk8 s0 s1 s2 s3 s4
theorem noneS : neOp (.str (PySem.Str.ofString "none")) (.str (PySem.Str.ofString "none")) = some (.bl false, false) := by kernel_rfl
theorem rank2_loop {n : Nat} (hn : n ≤ 8) (s0 s1 s2 s3 s4 : Option (D × Ow)) : ∀ (k lo : Nat) (c6 : Option (D × Ow)), c6.all noIo = true → lo + k = n → ∃ x6, forL (gName' 6) b_law_2 (itRange (lo : Nat) k) [s0, s1, s2, s3, s4, some (.int (n : Nat), .frz), c6] = .ok (.nx [s0, s1, s2, s3, s4, some (.int (n : Nat), .frz), x6])
  | 0, lo, c6, h6, _ => ⟨c6, rfl⟩
  | k + 1, lo, c6, h6, hk => by
    obtain ⟨x6, e⟩ := rank2_loop hn s0 s1 s2 s3 s4 k (lo + 1) (some (.int (lo : Nat), .frz)) rfl (by omega)
    refine ⟨x6, ?_⟩
    have ee := none_ok (d := 4) (n := n) (r := lo) (by decide) (by show n ≤ 30; omega) (fun _ => by omega)
    have ei : ((lo + 1 : Nat) : Int) = ((lo : Nat) : Int) + 1 := by omega
    have e4 : ((4 : Nat) : Int) = 4 := rfl
    rw [e4] at ee
    rw [itR_succ, forL_cons, ← e, ei]
    simp [u_b_law_2, h6, ee, noneS]
def limL : List D := [.int 30, .int 16, .int 40, .int 40, .int 30]
theorem lim2 : atI [D.int 30, D.int 16, D.int 40, D.int 40, D.int 30] 2 = some (.int 40) := rfl
theorem lim3 : atI [D.int 30, D.int 16, D.int 40, D.int 40, D.int 30] 3 = some (.int 40) := rfl
theorem lim4 : atI [D.int 30, D.int 16, D.int 40, D.int 40, D.int 30] 4 = some (.int 30) := rfl
theorem dir_step {d : Nat} (hd : d < 5) {cs : List Int} {i h s : Int} (S : Src cs i h s) (s0 c4 c5 : Option (D × Ow)) (h4 : c4.all noIo = true) (h5 : c5 = none ∨ ∃ z, c5 = some (.int z, .frz)) :
    ∃ i' h' s' x4 z, Src cs i' h' s' ∧ x4.all noIo = true ∧ b_law_5 [s0, some (srcD cs i h s, .own), some (.lst limL, .own), some (.int (d : Nat), .frz), c4, c5, none] = .ok (.nx [s0, some (srcD cs i' h' s', .own), some (.lst limL, .own), some (.int (d : Nat), .frz), x4, some (.int z, .frz), none]) := by
  obtain ⟨r, i1, h1, s1, e1, r0, r1, S1⟩ := draw_ok S (n := 8) (by decide) (by decide)
  have en := none_ok (d := d) (n := 1 + r.toNat) (r := 0) hd (by
    have : 16 ≤ limN d := by
      have hd2 : d = 0 ∨ d = 1 ∨ d = 2 ∨ d = 3 ∨ d = 4 := by omega
      rcases hd2 with rfl | rfl | rfl | rfl | rfl <;> decide
    omega) (fun _ => by omega)
  have er : ((1 + r.toNat : Nat) : Int) = 1 + r := by omega
  have ez : d < 4 → F__law_error [.int (d : Nat), .int 0, .int 0] = .ok (.str (PySem.Str.ofString "none")) false .non := fun h => none_ok (d := d) (n := 0) (r := 0) hd (Nat.zero_le _) (fun q => by omega)
  rw [er] at en
  have e0 : ((0 : Nat) : Int) = 0 := rfl
  rw [e0] at en
  have p20 : dPow (.int 10) (.int 20) = some (.int 100000000000000000000, false) := by rfl
  have hd2 : d = 0 ∨ d = 1 ∨ d = 2 ∨ d = 3 ∨ d = 4 := by omega
  have h5' : c5.all noIo = true := by rcases h5 with rfl | ⟨z, rfl⟩ <;> rfl
  generalize srcD cs i h s = SS at *
  generalize hS2 : srcD cs i1 h1 s1 = S2 at *
  rcases hd2 with rfl | rfl | rfl | rfl | rfl
  · have hw := wr0 s0 (some (SS, .own)) (some (.lst limL, .own)) (some (.lst (wrL 31), .frz)) none c5 h5
    refine ⟨i1, h1, s1, some (.lst (wrL 31), .frz), 1 + r, S1, rfl, ?_⟩
    rw [hS2]
    have ed : ((0 : Nat) : Int) = 0 := rfl
    rw [ed] at en ez ⊢
    have ezz := ez (by decide)
    simp only [wrL, limL, List.cons_append, List.nil_append] at hw ⊢
    simp [u_b_law_5, h4, h5', p20, hw, e1, en, ezz, noneS, le24_of, lim2, lim3, lim4]
  · have hw := wr1 s0 (some (SS, .own)) (some (.lst limL, .own)) (some (.lst (wrL 17), .frz)) none c5 h5
    refine ⟨i1, h1, s1, some (.lst (wrL 17), .frz), 1 + r, S1, rfl, ?_⟩
    rw [hS2]
    have ed : ((1 : Nat) : Int) = 1 := rfl
    rw [ed] at en ez ⊢
    have ezz := ez (by decide)
    simp only [wrL, limL, List.cons_append, List.nil_append] at hw ⊢
    simp [u_b_law_5, h4, h5', p20, hw, e1, en, ezz, noneS, le24_of, lim2, lim3, lim4]
  · have hw := wr2 s0 (some (SS, .own)) (some (.lst limL, .own)) (some (.lst (wrL 41), .frz)) none c5 h5
    refine ⟨i1, h1, s1, some (.lst (wrL 41), .frz), 1 + r, S1, rfl, ?_⟩
    rw [hS2]
    have ed : ((2 : Nat) : Int) = 2 := rfl
    rw [ed] at en ez ⊢
    have ezz := ez (by decide)
    simp only [wrL, limL, List.cons_append, List.nil_append] at hw ⊢
    simp [u_b_law_5, h4, h5', p20, hw, e1, en, ezz, noneS, le24_of, lim2, lim3, lim4]
  · have hw := wr3 s0 (some (SS, .own)) (some (.lst limL, .own)) (some (.lst (wrL 41), .frz)) none c5 h5
    refine ⟨i1, h1, s1, some (.lst (wrL 41), .frz), 1 + r, S1, rfl, ?_⟩
    rw [hS2]
    have ed : ((3 : Nat) : Int) = 3 := rfl
    rw [ed] at en ez ⊢
    have ezz := ez (by decide)
    simp only [wrL, limL, List.cons_append, List.nil_append] at hw ⊢
    simp [u_b_law_5, h4, h5', p20, hw, e1, en, ezz, noneS, le24_of, lim2, lim3, lim4]
  · have hw := wr4 s0 (some (SS, .own)) (some (.lst limL, .own)) (some (.lst (wrL 31 ++ [.int 0]), .frz)) none c5 h5
    refine ⟨i1, h1, s1, some (.lst (wrL 31 ++ [.int 0]), .frz), 1 + r, S1, rfl, ?_⟩
    rw [hS2]
    have ed : ((4 : Nat) : Int) = 4 := rfl
    rw [ed] at en ez ⊢
    have hlt : lt24 10 = true := lt24_of (by decide)
    simp only [wrL, limL, List.cons_append, List.nil_append] at hw ⊢
    simp [u_b_law_5, h4, h5', p20, hw, e1, en, hlt, noneS, le24_of, lim2, lim3, lim4]
theorem dirs_loop (s0 : Option (D × Ow)) : ∀ (k lo : Nat) (cs : List Int) (i h s : Int) (c3 c4 c5 : Option (D × Ow)), Src cs i h s → c3.all noIo = true → c4.all noIo = true → (c5 = none ∨ ∃ z, c5 = some (.int z, .frz)) → lo + k = 5 →
    ∃ i' h' s' x3 x4 x5, Src cs i' h' s' ∧ x3.all noIo = true ∧ x4.all noIo = true ∧ x5.all noIo = true ∧ forL (gName' 3) b_law_5 (itRange (lo : Nat) k) [s0, some (srcD cs i h s, .own), some (.lst limL, .own), c3, c4, c5, none] = .ok (.nx [s0, some (srcD cs i' h' s', .own), some (.lst limL, .own), x3, x4, x5, none])
  | 0, lo, cs, i, h, s, c3, c4, c5, S, h3, h4, h5, _ => ⟨i, h, s, c3, c4, c5, S, h3, h4, by rcases h5 with rfl | ⟨z, rfl⟩ <;> rfl, rfl⟩
  | k + 1, lo, cs, i, h, s, c3, c4, c5, S, h3, h4, h5, hk => by
    obtain ⟨i1, h1, s1, y4, z, S1, g4, e1⟩ := dir_step (d := lo) (by omega) S s0 c4 c5 h4 h5
    obtain ⟨i', h', s', x3, x4, x5, S', q3, q4, q5, e2⟩ := dirs_loop s0 k (lo + 1) cs i1 h1 s1 (some (.int (lo : Nat), .frz)) y4 (some (.int z, .frz)) S1 rfl g4 (.inr ⟨z, rfl⟩) (by omega)
    refine ⟨i', h', s', x3, x4, x5, S', q3, q4, q5, ?_⟩
    have ei : ((lo + 1 : Nat) : Int) = ((lo : Nat) : Int) + 1 := by omega
    rw [itR_succ, forL_cons, ← e2, ei]
    generalize srcD cs i h s = SS at *
    generalize srcD cs i1 h1 s1 = S2 at *
    simp [h3, e1]
theorem law_ok (ns : List Int) (hl : ns.length ≤ 63) (hb : ∀ z ∈ ns, Builtin.Int.intBits z ≤ 1048576) : ∃ o, F_law [.scr ns] = .ok (.bl true) false o := by
  have hns : ∀ z ∈ ns, z.natAbs.log2 ≤ 1048576 := fun z hz => bits_lt (hb z hz)
  obtain ⟨cs, ebox, S0⟩ := box_ok hl hns
  obtain ⟨i1, h1, s1, x3, x4, x5, S1, q3, q4, q5, e1⟩ := dirs_loop (some (.scr ns, .frz)) 5 0 cs 0 0 7 none none none S0 rfl rfl (.inl rfl) rfl
  obtain ⟨r, i2, h2, s2, e2, r0, r1, S2⟩ := draw_ok S1 (n := 8) (by decide) (by decide)
  have er : 1 + r = ((1 + r.toNat : Nat) : Int) := by omega
  have e3 := rk_all (n := 1 + r.toNat) (by omega) (by omega) (some (.scr ns, .frz)) (some (srcD cs i2 h2 s2, .own)) (some (.lst limL, .own)) x3 x4
  obtain ⟨x6, e4⟩ := rank2_loop (n := 1 + r.toNat) (by omega) (some (.scr ns, .frz)) (some (srcD cs i2 h2 s2, .own)) (some (.lst limL, .own)) x3 x4 (1 + r.toNat) 0 (some (.int 100000000000000000000, .frz)) rfl (by omega)
  obtain ⟨t, i3, h3, s3, e5, t0, t1, S3⟩ := draw_ok S2 (n := 4) (by decide) (by decide)
  have ok := okR_nat (n := 1 + r.toNat) (by omega)
  have hg6 : x6.all noIo = true ∨ True := .inr trivial
  have n0 := none_ok (d := 0) (n := 30) (r := 0) (by decide) (by decide) (by decide)
  have n1 := none_ok (d := 1) (n := 16) (r := 0) (by decide) (by decide) (by decide)
  have n2 := none_ok (d := 2) (n := 40) (r := 0) (by decide) (by decide) (by decide)
  have n3 := none_ok (d := 3) (n := 40) (r := 0) (by decide) (by decide) (by decide)
  have n4 := none_ok (d := 4) (n := 30) (r := 29) (by decide) (by decide) (by decide)
  have p20 : dPow (.int 10) (.int 20) = some (.int 100000000000000000000, false) := by rfl
  have hr4 : itRange 0 4 = [.int 0, .int 1, .int 2, .int 3] := rfl
  have hr5 : ((0 : Nat) : Int) = 0 := rfl
  have heq : eqOp (.str (PySem.Str.ofString "none")) (.str (PySem.Str.ofString "none")) = some (.bl true, false) := by kernel_rfl
  rw [hr5] at e1 e4 n0 n1 n2 n3
  rw [← er] at e3 e4 ok
  refine ⟨.non, ?_⟩
  generalize srcD cs 0 0 7 = SA at *
  generalize srcD cs i1 h1 s1 = SB at *
  generalize srcD cs i2 h2 s2 = SC at *
  generalize srcD cs i3 h3 s3 = SD at *
  have etn : (1 + r).toNat = 1 + r.toNat := by omega
  have c1 : ((1 : Nat) : Int) = 1 := rfl
  have c2 : ((2 : Nat) : Int) = 2 := rfl
  have c3 : ((3 : Nat) : Int) = 3 := rfl
  have c4 : ((4 : Nat) : Int) = 4 := rfl
  have c30 : ((30 : Nat) : Int) = 30 := rfl
  have c16 : ((16 : Nat) : Int) = 16 := rfl
  have c40 : ((40 : Nat) : Int) = 40 := rfl
  have c29 : ((29 : Nat) : Int) = 29 := rfl
  rw [c30] at n0 n4
  rw [c16, c1] at n1
  rw [c40, c2] at n2
  rw [c40, c3] at n3
  rw [c29, c4] at n4
  simp only [rkL, limL] at e1 e3 e4
  have ok5 : okR 5 = true := by decide
  have ok4 : okR 4 = true := by decide
  simp only [F_law, fnOf, startE]
  have hfn : ∀ env, forL (gName' 3) b_law_1 [] env = .ok (.nx env) := fun _ => rfl
  by_cases z : t = 0
  · subst z
    simp [hfn, u_B_law, ebox, ok5, e1, e2, q5, p20, e3, ok, etn, e4, e5, ok4, le24_of, hr4, forL_cons, u_b_law_1, q3, n0, n1, n2, n3, n4, noneS, heq, lim2, lim3]
  · simp [u_B_law, ebox, ok5, e1, e2, q5, p20, e3, ok, etn, e4, e5, le24_of, z]
end Law
open PySem PySem.W PySem.Calls PyProof.Rows
theorem holds_of (hl_ : ∀ ns : List Int, ns.length ≤ 63 → (∀ z ∈ ns, Builtin.Int.intBits z ≤ 1048576) → ∃ o, Law.F_law [.scr ns] = .ok (.bl true) false o) : PySem.Challenge.rw_insertionorders_k71_sizes_and_ranks_chec.Holds := by
  w_on; o_law
  refine HandSHeadRun.head_any (r := OpenLaw.row PySem.Challenge.rw_insertionorders_k71_sizes_and_ranks_chec) (q := view (OpenLaw.row PySem.Challenge.rw_insertionorders_k71_sizes_and_ranks_chec).prog [27]) (H := Law.hk) (ob := Law.ob) (M := 4000) (loose := Law.loose) (d := HandSHeadRun.topDef (OpenLaw.row PySem.Challenge.rw_insertionorders_k71_sizes_and_ranks_chec).prog 27) (kwd := []) Law.ob_eq
    (by kernel_rfl) (fun s => by kernel_rfl) Law.run (by kernel_rfl) (by kernel_rfl) (by kernel_rfl) (by rfl) (by first | assumption | decide +kernel) (by decide +kernel) ⟨rfl, rfl, rfl, rfl, rfl, by decide +kernel⟩ ?hw ?hc
  case hw => w_witness2
  case hc =>
    refine VS.walk_G (l := PySem.Challenge.rw_insertionorders_k71_sizes_and_ranks_chec) (n := 63) (k := 7) (x := "_law_script") rfl (by decide) (by kernel_rfl) ⟨rfl, by decide, by decide⟩ ?F
    intro w mg fa h Y G hmg0
    obtain ⟨K, KX, c⟩ := Y
    have hmg : mg ("law" : PySem.Str) = some (.ref fa) := by
      have e : (HandSHeadRun.topDef (OpenLaw.row PySem.Challenge.rw_insertionorders_k71_sizes_and_ranks_chec).prog 27).name = ("law" : PySem.Str) := by kernel_rfl
      rw [← e]
      exact hmg0
    obtain ⟨fd, hb, hF⟩ := Law.facts (P := (PySem.Challenge.rw_insertionorders_k71_sizes_and_ranks_chec).prog) (w := w) (cc := fun _ => .none) KX G hmg c
    exact ⟨K, fd, _, KX, hb, fun H a ns hl hbits _ hS => VS.sp_law hS (hl_ ns hl hbits), hF⟩
theorem PySem.Challenge.cw_insertionorders_k71_sizes_and_ranks_chec_holds : PySem.Challenge.rw_insertionorders_k71_sizes_and_ranks_chec.Holds := by
  exact holds_of Law.law_ok
