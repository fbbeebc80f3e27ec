import PyProof.Rows.All
import Wide.All
import OpenK.AllK
import Wide.FinOn
import HandS.ForMost
import HandS.ForExc
import HandS.Nested
import HandS.HeadHook4
import HandS.HeadWalk
import HandS.CallSlots
import HandS.Wide
import HandS.TupAny
import HandS.Style
import KE.GoesRaise
import HandS.GenList
import HandS.AnyAll
import KE.GoesEnum
import HandS.Lambda
import HandS.Flt
import HandS.Ends
import HandS.Head0
import HandS.Head1
import HandS.Head2
import HandS.HeadEnd
import HandS.HeadHook1
import HandS.HeadHook2
import PySem.Challenge.RW_namestack_k10_numbers_that_go_round
set_option Elab.async false
set_option linter.all false
set_option maxRecDepth 100000
set_option maxHeartbeats 4000000
/-! A shallow functional meaning of Python, sound over HandS: values with tuples by value, a heap of places. -/
namespace Sh
open PySem PySem.Spec PyProof.Rows L2

/-- a value: tuples by value, what may change by its place -/
inductive IV where
  | non | bl (b : Bool) | int (i : Int) | str (x : List Nat) | tup (xs : List IV) | fz (xs : List IV) | ref (n : Nat)
inductive IO where
  | lst (xs : List IV)
  | dic (t : Bool) (kvs : List (IV × IV))
  | ins (C : String) (fs : List IV)
  | lam (k : Nat)
  | gone
abbrev IH := List IO
abbrev IE := List (Option IV)
inductive Res (α : Type) where
  | ok (a : α) (h : IH)
  | exc (c : String) (h : IH)
  | bad
abbrev M (α : Type) := IH → Res α
def Res.bind {α β : Type} (r : Res α) (f : α → M β) : Res β := match r with
  | .ok a h => f a h
  | .exc c h => .exc c h
  | .bad => .bad
abbrev ME := IE → M IV
/-- a statement's way on -/
inductive Fl where
  | nx (e : IE) (h : IH)
  | rt (v : IV) (h : IH)
  | bk (e : IE) (h : IH)
  | ct (e : IE) (h : IH)
  | ex (c : String) (e : IE) (h : IH)
  | bad
abbrev MS := IE → IH → Fl
abbrev Fn := List IV → M IV
def sS (x : List Nat) : Str := ⟨x.toArray⟩
theorem sS_inj {x y : List Nat} (h : sS x = sS y) : x = y := by
  unfold sS at h
  injection h with h
  have := congrArg Array.toList h
  simpa using this
theorem sS_cps (x : List Nat) : (sS x).cps.toList = x := by unfold sS; simp

/-- a list that nothing changes -/
def SqF (K : PySem.W.Frag) (H : Hp) (a : Addr) (xs : List V) : Prop := (∃ o, H a = some (.frz o (.lst xs))) ∨ (∀ H' : Hp, SqL K H' a xs)
theorem SqF.sq {K : PySem.W.Frag} {H : Hp} {a : Addr} {xs : List V} (h : SqF K H a xs) : SqL K H a xs := by
  rcases h with ⟨o, h⟩ | h
  · exact .inl (.inr ⟨o, h⟩)
  · exact h H
mutual
def RV (K : PySem.W.Frag) (ι : List Addr) (H : Hp) : IV → V → Prop
  | .non, v => v = .non
  | .bl b, v => v = .bl b
  | .int i, v => v = .int i
  | .str x, v => v = .str (sS x)
  | .tup xs, v => ∃ a vs, v = .ref a ∧ SqT K H a vs ∧ RVs K ι H xs vs
  | .fz xs, v => ∃ a vs, v = .ref a ∧ SqF K H a vs ∧ RVs K ι H xs vs
  | .ref n, v => ∃ a, ι[n]? = some a ∧ v = .ref a
def RVs (K : PySem.W.Frag) (ι : List Addr) (H : Hp) : List IV → List V → Prop
  | [], vs => vs = []
  | x :: xs, vs => ∃ v r, vs = v :: r ∧ RV K ι H x v ∧ RVs K ι H xs r
end
def RVo (K : PySem.W.Frag) (ι : List Addr) (H : Hp) : Option IV → Option V → Prop
  | none, _ => True
  | some x, v => ∃ w, v = some w ∧ RV K ι H x w
def REn (K : PySem.W.Frag) (ι : List Addr) (H : Hp) : IE → L2.St → Prop
  | [], σ => σ = []
  | x :: xs, σ => ∃ v r, σ = v :: r ∧ RVo K ι H x v ∧ REn K ι H xs r
def kI : Key → IV
  | .inl i => .int i
  | .inr s => .str s.cps.toList
def RKs (K : PySem.W.Frag) (ι : List Addr) (H : Hp) : List (IV × IV) → List (Key × V) → Prop
  | [], ws => ws = []
  | x :: xs, ws => ∃ k v r, ws = (k, v) :: r ∧ x.1 = kI k ∧ RV K ι H x.2 v ∧ RKs K ι H xs r
def RTs (K : PySem.W.Frag) (ι : List Addr) (H : Hp) : List (IV × IV) → List (List Key × V) → Prop
  | [], ws => ws = []
  | x :: xs, ws => ∃ k v r, ws = (k, v) :: r ∧ x.1 = .tup (k.map kI) ∧ RV K ι H x.2 v ∧ RTs K ι H xs r
def RFs (K : PySem.W.Frag) (ι : List Addr) (H : Hp) : List Str → List IV → List (Str × V) → Prop
  | _, [], ws => ws = []
  | n :: ns, x :: xs, ws => ∃ v r, ws = (n, v) :: r ∧ RV K ι H x v ∧ RFs K ι H ns xs r
  | [], _ :: _, _ => False
/-- a lambda: its object at a, its code object at c being so; that one's name -/
structure LamD where
  obj : Addr → Addr → Heap → Prop
  q : Str
/-- what stands at a place; L: the lambdas' objects -/
def RO (K : PySem.W.Frag) (L : Nat → LamD) (lay : String → List Str) (ι : List Addr) (H : Hp) (a : Addr) : IO → Prop
  | .lst xs => ∃ vs, H a = some (.lst vs) ∧ RVs K ι H xs vs
  | .dic false kvs => ∃ ws, H a = some (.dK ws) ∧ RKs K ι H kvs ws
  | .dic true kvs => ∃ ws, H a = some (.dT ws) ∧ RTs K ι H kvs ws
  | .ins C fs => ∃ dx ws, H a = some (.ins (He.ga K (Str.ofString C)) dx ws) ∧ RFs K ι H (lay C) fs ws
  | .lam k => ∃ c, H a = some (.ext ((L k).obj a c)) ∧ H c = some (LamX.CodeO c (L k).q)
  | .gone => ∃ φ, H a = some (.ext φ)
/-- all tuples stand, and what is frozen -/
structure TL (K : PySem.W.Frag) (H H' : Hp) : Prop where
  t : ∀ a xs, SqT K H a xs → SqT K H' a xs
  f : ∀ a xs, SqF K H a xs → SqF K H' a xs
  e : ∀ a φ, H a = some (.ext φ) → H' a = some (.ext φ)
theorem TL.refl (K : PySem.W.Frag) (H : Hp) : TL K H H := ⟨fun _ _ h => h, fun _ _ h => h, fun _ _ h => h⟩
theorem TL.trans {K : PySem.W.Frag} {H H1 H2 : Hp} (a : TL K H H1) (b : TL K H1 H2) : TL K H H2 := ⟨fun x xs h => b.t x xs (a.t x xs h), fun x xs h => b.f x xs (a.f x xs h), fun x xs h => b.e x xs (a.e x xs h)⟩
/-- all that is no list, dict, instance stands -/
theorem TL.of {K : PySem.W.Frag} {H H' : Hp} (ht : ∀ b xs, H b = some (.tup xs) → H' b = some (.tup xs)) (hf : ∀ b o u, H b = some (.frz o u) → H' b = some (.frz o u)) (he : ∀ b φ, H b = some (.ext φ) → H' b = some (.ext φ)) : TL K H H' := ⟨fun a xs q => by
  rcases q with (q | ⟨o, q⟩) | q
  · exact .inl (.inl (ht _ _ q))
  · exact .inl (.inr ⟨o, hf _ _ _ q⟩)
  · exact .inr q, fun a xs q => by
  rcases q with ⟨o, q⟩ | q
  · exact .inl ⟨o, hf _ _ _ q⟩
  · exact .inr q, he⟩

section
variable {K : PySem.W.Frag} {ι ι' : List Addr} {H H' : Hp}
theorem pre_get {α : Type} {l l' : List α} (h : l <+: l') {n : Nat} {a : α} (e : l[n]? = some a) : l'[n]? = some a := by
  obtain ⟨r, rfl⟩ := h
  rw [List.getElem?_append_left (List.getElem?_eq_some_iff.mp e).1]
  exact e
mutual
theorem RV.mono (hι : ι <+: ι') (hT : TL K H H') : ∀ {x : IV} {v : V}, RV K ι H x v → RV K ι' H' x v
  | .non, _, h => by unfold RV at h ⊢; exact h
  | .bl _, _, h => by unfold RV at h ⊢; exact h
  | .int _, _, h => by unfold RV at h ⊢; exact h
  | .str _, _, h => by unfold RV at h ⊢; exact h
  | .tup xs, _, h => by
    unfold RV at h ⊢
    obtain ⟨a, vs, e, q, r⟩ := h
    exact ⟨a, vs, e, hT.t _ _ q, RVs.mono hι hT r⟩
  | .fz xs, _, h => by
    unfold RV at h ⊢
    obtain ⟨a, vs, e, q, r⟩ := h
    exact ⟨a, vs, e, hT.f _ _ q, RVs.mono hι hT r⟩
  | .ref n, _, h => by
    unfold RV at h ⊢
    obtain ⟨a, e, q⟩ := h
    exact ⟨a, pre_get hι e, q⟩
theorem RVs.mono (hι : ι <+: ι') (hT : TL K H H') : ∀ {xs : List IV} {vs : List V}, RVs K ι H xs vs → RVs K ι' H' xs vs
  | [], _, h => by unfold RVs at h ⊢; exact h
  | _ :: _, _, h => by
    unfold RVs at h ⊢
    obtain ⟨v, r, e, a, b⟩ := h
    exact ⟨v, r, e, RV.mono hι hT a, RVs.mono hι hT b⟩
end
theorem RVo.mono (hι : ι <+: ι') (hT : TL K H H') : ∀ {x : Option IV} {v : Option V}, RVo K ι H x v → RVo K ι' H' x v
  | none, _, _ => trivial
  | some _, _, ⟨w, e, r⟩ => ⟨w, e, r.mono hι hT⟩
theorem REn.mono (hι : ι <+: ι') (hT : TL K H H') : ∀ {e : IE} {σ : L2.St}, REn K ι H e σ → REn K ι' H' e σ
  | [], _, h => h
  | _ :: _, _, ⟨v, r, e, a, b⟩ => ⟨v, r, e, a.mono hι hT, b.mono hι hT⟩
theorem RKs.mono (hι : ι <+: ι') (hT : TL K H H') : ∀ {l : List (IV × IV)} {ws : List (Key × V)}, RKs K ι H l ws → RKs K ι' H' l ws
  | [], _, h => h
  | _ :: _, _, ⟨k, v, r, e, q, a, b⟩ => ⟨k, v, r, e, q, a.mono hι hT, b.mono hι hT⟩
theorem RTs.mono (hι : ι <+: ι') (hT : TL K H H') : ∀ {l : List (IV × IV)} {ws : List (List Key × V)}, RTs K ι H l ws → RTs K ι' H' l ws
  | [], _, h => h
  | _ :: _, _, ⟨k, v, r, e, q, a, b⟩ => ⟨k, v, r, e, q, a.mono hι hT, b.mono hι hT⟩
theorem RFs.mono (hι : ι <+: ι') (hT : TL K H H') : ∀ {ns : List Str} {l : List IV} {ws : List (Str × V)}, RFs K ι H ns l ws → RFs K ι' H' ns l ws
  | _, [], _, h => by unfold RFs at h ⊢; exact h
  | _ :: _, _ :: _, _, ⟨v, r, e, a, b⟩ => ⟨v, r, e, a.mono hι hT, b.mono hι hT⟩
  | [], _ :: _, _, h => by unfold RFs at h; exact h.elim
/-- an object whose place is kept -/
theorem RO.mono {L : Nat → LamD} {lay : String → List Str} {a : Addr} (hι : ι <+: ι') (hT : TL K H H') (ha : H' a = H a) : ∀ {o : IO}, RO K L lay ι H a o → RO K L lay ι' H' a o
  | .lst _, ⟨vs, e, r⟩ => ⟨vs, ha.trans e, r.mono hι hT⟩
  | .dic false _, ⟨ws, e, r⟩ => ⟨ws, ha.trans e, r.mono hι hT⟩
  | .dic true _, ⟨ws, e, r⟩ => ⟨ws, ha.trans e, r.mono hι hT⟩
  | .ins _ _, ⟨dx, ws, e, r⟩ => ⟨dx, ws, ha.trans e, r.mono hι hT⟩
  | .lam _, ⟨c, e, q⟩ => ⟨c, ha.trans e, hT.e _ _ q⟩
  | .gone, ⟨φ, e⟩ => ⟨φ, ha.trans e⟩
theorem RVs.len : ∀ {xs : List IV} {vs : List V}, RVs K ι H xs vs → xs.length = vs.length
  | [], _, h => by unfold RVs at h; subst h; rfl
  | _ :: _, _, h => by
    unfold RVs at h
    obtain ⟨v, r, e, _, b⟩ := h
    subst e
    simp only [List.length_cons, b.len]
theorem RVs.get : ∀ {xs : List IV} {vs : List V} {i : Nat} {x : IV}, RVs K ι H xs vs → xs[i]? = some x → ∃ v, vs[i]? = some v ∧ RV K ι H x v
  | [], _, _, _, _, e => by simp at e
  | _ :: _, _, 0, _, h, e => by
    unfold RVs at h
    obtain ⟨v, r, q, a, _⟩ := h
    simp only [List.getElem?_cons_zero, Option.some.injEq] at e
    subst e q
    exact ⟨v, rfl, a⟩
  | _ :: _, _, i + 1, _, h, e => by
    unfold RVs at h
    obtain ⟨v, r, q, _, b⟩ := h
    subst q
    simp only [List.getElem?_cons_succ] at e ⊢
    exact b.get e
theorem RVs.get' : ∀ {xs : List IV} {vs : List V} {i : Nat} {v : V}, RVs K ι H xs vs → vs[i]? = some v → ∃ x, xs[i]? = some x ∧ RV K ι H x v
  | [], _, _, _, h, e => by unfold RVs at h; subst h; simp at e
  | x :: _, _, 0, _, h, e => by
    unfold RVs at h
    obtain ⟨v, r, q, a, _⟩ := h
    subst q
    simp only [List.getElem?_cons_zero, Option.some.injEq] at e
    subst e
    exact ⟨x, rfl, a⟩
  | _ :: _, _, i + 1, _, h, e => by
    unfold RVs at h
    obtain ⟨v, r, q, _, b⟩ := h
    subst q
    simp only [List.getElem?_cons_succ] at e ⊢
    exact b.get' e
theorem RVs.app : ∀ {xs ys : List IV} {vs ws : List V}, RVs K ι H xs vs → RVs K ι H ys ws → RVs K ι H (xs ++ ys) (vs ++ ws)
  | [], _, _, _, h, h' => by unfold RVs at h; subst h; exact h'
  | _ :: _, _, _, _, h, h' => by
    unfold RVs at h
    obtain ⟨v, r, q, a, b⟩ := h
    subst q
    simp only [List.cons_append]
    unfold RVs
    exact ⟨v, _, rfl, a, b.app h'⟩
theorem RVs.one {x : IV} {v : V} (h : RV K ι H x v) : RVs K ι H [x] [v] := by
  unfold RVs
  exact ⟨v, [], rfl, h, by unfold RVs; rfl⟩
theorem RVs.nil : RVs K ι H [] [] := by unfold RVs; rfl
theorem RVs.cons {x : IV} {v : V} {xs : List IV} {vs : List V} (h : RV K ι H x v) (h' : RVs K ι H xs vs) : RVs K ι H (x :: xs) (v :: vs) := by
  unfold RVs
  exact ⟨v, vs, rfl, h, h'⟩
theorem REn.len : ∀ {e : IE} {σ : L2.St}, REn K ι H e σ → e.length = σ.length
  | [], _, h => by unfold REn at h; subst h; rfl
  | _ :: _, _, ⟨v, r, e, _, b⟩ => by subst e; simp only [List.length_cons, b.len]
theorem REn.get : ∀ {e : IE} {σ : L2.St} {i : Nat} {x : IV}, REn K ι H e σ → e[i]? = some (some x) → ∃ v, σ[i]? = some (some v) ∧ RV K ι H x v
  | [], _, _, _, _, e => by simp at e
  | _ :: _, _, 0, _, ⟨v, r, q, a, _⟩, e => by
    simp only [List.getElem?_cons_zero, Option.some.injEq] at e
    subst e q
    obtain ⟨w, ew, rw'⟩ := a
    subst ew
    exact ⟨w, rfl, rw'⟩
  | _ :: _, _, i + 1, _, ⟨v, r, q, _, b⟩, e => by
    subst q
    simp only [List.getElem?_cons_succ] at e ⊢
    exact b.get e
theorem REn.set : ∀ {e : IE} {σ : L2.St} (i : Nat) {x : Option IV} {v : Option V}, REn K ι H e σ → RVo K ι H x v → REn K ι H (e.set i x) (σ.set i v)
  | [], _, _, _, _, h, _ => by unfold REn at h; subst h; rfl
  | _ :: _, _, 0, _, _, ⟨v, r, q, _, b⟩, h => by
    subst q
    exact ⟨_, r, rfl, h, b⟩
  | _ :: _, _, i + 1, _, _, ⟨v, r, q, a, b⟩, h => by
    subst q
    exact ⟨v, _, rfl, a, b.set i h⟩
end
theorem non_iff {K : PySem.W.Frag} {ι : List Addr} {H : Hp} {v : V} : RV K ι H .non v ↔ v = .non := by unfold RV; exact Iff.rfl
theorem bl_iff {K : PySem.W.Frag} {ι : List Addr} {H : Hp} {b : Bool} {v : V} : RV K ι H (.bl b) v ↔ v = .bl b := by unfold RV; exact Iff.rfl
theorem int_iff {K : PySem.W.Frag} {ι : List Addr} {H : Hp} {i : Int} {v : V} : RV K ι H (.int i) v ↔ v = .int i := by unfold RV; exact Iff.rfl
theorem str_iff {K : PySem.W.Frag} {ι : List Addr} {H : Hp} {x : List Nat} {v : V} : RV K ι H (.str x) v ↔ v = .str (sS x) := by unfold RV; exact Iff.rfl
theorem tup_iff {K : PySem.W.Frag} {ι : List Addr} {H : Hp} {xs : List IV} {v : V} : RV K ι H (.tup xs) v ↔ ∃ a vs, v = .ref a ∧ SqT K H a vs ∧ RVs K ι H xs vs := by
  constructor
  · intro h; unfold RV at h; exact h
  · intro h; unfold RV; exact h
theorem fz_iff {K : PySem.W.Frag} {ι : List Addr} {H : Hp} {xs : List IV} {v : V} : RV K ι H (.fz xs) v ↔ ∃ a vs, v = .ref a ∧ SqF K H a vs ∧ RVs K ι H xs vs := by
  constructor
  · intro h; unfold RV at h; exact h
  · intro h; unfold RV; exact h
theorem ref_iff {K : PySem.W.Frag} {ι : List Addr} {H : Hp} {n : Nat} {v : V} : RV K ι H (.ref n) v ↔ ∃ a, ι[n]? = some a ∧ v = .ref a := by unfold RV; exact Iff.rfl

/-- what is known of the whole: K; the lambdas' objects; the defs' tables -/
structure Gx where
  K : PySem.W.Frag
  L : Nat → LamD
  T : List NdefX.NTab
  lay : String → List Str
  Z : Option (List Addr × Hp)
/-- the heap of places is held -/
structure RH (G : Gx) (ι : List Addr) (h : IH) (H : Hp) : Prop where
  len : ι.length = h.length
  nd : ι.Nodup
  ob : ∀ (n : Nat) (o : IO), h[n]? = some o → ∃ a, ι[n]? = some a ∧ RO G.K G.L G.lay ι H a o
  tb : NdefX.TabsN G.T H
  zb : ∀ p, G.Z = some p → p.1 <+: ι ∧ TL G.K p.2 H
/-- what a state has come to: more places, all tuples stand -/
structure Aft (G : Gx) (ι : List Addr) (H : Hp) (ι' : List Addr) (h' : IH) (H' : Hp) : Prop where
  pre : ι <+: ι'
  tl : TL G.K H H'
  rh : RH G ι' h' H'
theorem Aft.refl {G : Gx} {ι : List Addr} {h : IH} {H : Hp} (r : RH G ι h H) : Aft G ι H ι h H := ⟨List.prefix_refl _, TL.refl _ _, r⟩
theorem Aft.trans {G : Gx} {ι ι1 ι2 : List Addr} {h1 h2 : IH} {H H1 H2 : Hp} (a : Aft G ι H ι1 h1 H1) (b : Aft G ι1 H1 ι2 h2 H2) : Aft G ι H ι2 h2 H2 := ⟨a.pre.trans b.pre, a.tl.trans b.tl, b.rh⟩

/-- what is wanted of a result -/
def PR (G : Gx) (W : Value → Option Addr → Hp → Prop) (ι : List Addr) (H : Hp) (Q : VK) : Res IV → Prop
  | .ok x h' => ∀ ι' H' v, Aft G ι H ι' h' H' → RV G.K ι' H' x v → Q v H'
  | .exc c h' => ∀ ι' H', Aft G ι H ι' h' H' → W (.ref (He.ga G.K (Str.ofString c))) none H'
  | .bad => False
def PRs (G : Gx) (W : Value → Option Addr → Hp → Prop) (ι : List Addr) (H : Hp) (Q : List V → Hp → Prop) : Res (List IV) → Prop
  | .ok xs h' => ∀ ι' H' vs, Aft G ι H ι' h' H' → RVs G.K ι' H' xs vs → Q vs H'
  | .exc c h' => ∀ ι' H', Aft G ι H ι' h' H' → W (.ref (He.ga G.K (Str.ofString c))) none H'
  | .bad => False
/-- the reading that a meaning gives -/
def TI (G : Gx) (W : WX) (f : ME) : TE := fun σ H Q => ∃ ι e h, REn G.K ι H e σ ∧ RH G ι h H ∧ PR G (fun c d H' => W c d σ H') ι H Q (f e h)
def TIs (G : Gx) (W : WX) (f : IE → M (List IV)) : TA := fun σ H Q => ∃ ι e h, REn G.K ι H e σ ∧ RH G ι h H ∧ PRs G (fun c d H' => W c d σ H') ι H Q (f e h)
/-- what is wanted of a statement's end -/
def PF (G : Gx) (W : WX) (ι : List Addr) (H : Hp) (D : Ends) : Fl → Prop
  | .nx e h' => ∀ ι' σ' H', Aft G ι H ι' h' H' → REn G.K ι' H' e σ' → D.nx σ' H'
  | .rt x h' => ∀ ι' v H', Aft G ι H ι' h' H' → RV G.K ι' H' x v → D.rt v H'
  | .bk e h' => ∀ ι' σ' H', Aft G ι H ι' h' H' → REn G.K ι' H' e σ' → D.bk σ' H'
  | .ct e h' => ∀ ι' σ' H', Aft G ι H ι' h' H' → REn G.K ι' H' e σ' → D.ct σ' H'
  | .ex c e h' => ∀ ι' σ' H', Aft G ι H ι' h' H' → REn G.K ι' H' e σ' → W (.ref (He.ga G.K (Str.ofString c))) none σ' H'
  | .bad => False
def TSI (G : Gx) (W : WX) (f : MS) : TS := fun D σ H => ∃ ι e h, REn G.K ι H e σ ∧ RH G ι h H ∧ PF G W ι H D (f e h)

/-- an expression, a block, .. with a meaning -/
def SE (G : Gx) (X : Cx) (W : WX) (e : Expr) (f : ME) : Prop := PE X e (TI G W f)
def SA (G : Gx) (X : Cx) (W : WX) (es : List Expr) (f : IE → M (List IV)) : Prop := PA X es (TIs G W f)
def SS (G : Gx) (X : Cx) (W : WX) (st : Stmt) (f : MS) : Prop := PS X st (TSI G W f)
def SB (G : Gx) (X : Cx) (W : WX) (st : List Stmt) (f : MS) : Prop := PSs X st (TSI G W f)
def ST (G : Gx) (X : Cx) (W : WX) (e : Expr) (f : IE → M Bool) : Prop := PT X e (fun σ H Q => ∃ ι e h, REn G.K ι H e σ ∧ RH G ι h H ∧ match f e h with
  | .ok b h' => ∀ ι' H', Aft G ι H ι' h' H' → Q b H'
  | .exc c h' => ∀ ι' H', Aft G ι H ι' h' H' → W (.ref (He.ga G.K (Str.ofString c))) none σ H'
  | .bad => False)

theorem pe_weak {X : Cx} {e : Expr} {t u : TE} (p : PE X e t) (h : ∀ σ H Q, u σ H Q → t σ H Q) : PE X e u := ⟨fun pins s σ H Q I q => p.run pins s σ H Q I (h σ H Q q)⟩
theorem pa_weak {X : Cx} {e : List Expr} {t u : TA} (p : PA X e t) (h : ∀ σ H Q, u σ H Q → t σ H Q) : PA X e u := ⟨fun pos pins s σ H Q I q => p.run pos pins s σ H Q I (h σ H Q q)⟩
theorem pt_weak {X : Cx} {e : Expr} {t u : TT} (p : PT X e t) (h : ∀ σ H Q, u σ H Q → t σ H Q) : PT X e u := ⟨fun pins s σ H Q I q => p.run pins s σ H Q I (h σ H Q q)⟩
theorem ps_weak {X : Cx} {e : Stmt} {t u : TS} (p : PS X e t) (h : ∀ D σ H, u D σ H → t D σ H) : PS X e u := ⟨fun pins s σ H D I q => p.run pins s σ H D I (h D σ H q)⟩
theorem pss_weak {X : Cx} {e : List Stmt} {t u : TS} (p : PSs X e t) (h : ∀ D σ H, u D σ H → t D σ H) : PSs X e u := ⟨fun pins s σ H D I q => p.run pins s σ H D I (h D σ H q)⟩

section
variable {G : Gx} {W : Value → Option Addr → Hp → Prop} {ι ι1 : List Addr} {H H1 : Hp} {Q Q' : VK} {h1 : IH}
/-- later is as well -/
theorem PR.after {r : Res IV} (a : Aft G ι H ι1 h1 H1) (p : PR G W ι H Q r) : PR G W ι1 H1 Q r := by
  cases r with
  | ok x h' => exact fun ι' H' v b r => p ι' H' v (a.trans b) r
  | exc c h' => exact fun ι' H' b => p ι' H' (a.trans b)
  | bad => exact p
theorem PR.imp {r : Res IV} (p : PR G W ι H Q r) (f : ∀ v H', Q v H' → Q' v H') : PR G W ι H Q' r := by
  cases r with
  | ok x h' => exact fun ι' H' v b r => f _ _ (p ι' H' v b r)
  | exc c h' => exact p
  | bad => exact p
end

section
variable {G : Gx} {X : Cx} {W : WX} {a b c : Expr} {fa fb fc : ME} {pos : Pos}

/-- one value first, then what stands behind it: T gives the reading from the value on -/
theorem TI.bind {σ : L2.St} {H : Hp} {R : VK} {Wh : Value → Option Addr → Hp → Prop} {ι : List Addr} {e : IE} {h : IH} {k : IV → M IV} {Q : VK} (en : REn G.K ι H e σ) (rh : RH G ι h H)
    (p : PR G (fun c d H' => W c d σ H') ι H Q (Res.bind (fa e h) k))
    (hk : ∀ x v ι1 h1 H1, Aft G ι H ι1 h1 H1 → REn G.K ι1 H1 e σ → RV G.K ι1 H1 x v → PR G (fun c d H' => W c d σ H') ι1 H1 Q (k x h1) → R v H1) : TI G W fa σ H R := by
  refine ⟨ι, e, h, en, rh, ?_⟩
  cases q : fa e h with
  | ok x h1 =>
    rw [q] at p
    exact fun ι1 H1 v a r => hk x v ι1 h1 H1 a (en.mono a.pre a.tl) r (PR.after a p)
  | exc c h1 =>
    rw [q] at p
    exact p
  | bad =>
    rw [q] at p
    exact p

/-! ### names and constants -/
@[simp] def mVar (i : Nat) : ME := fun e h => match e[i]? with
  | some (some x) => .ok x h
  | _ => .bad
@[simp] def mC (x : IV) : ME := fun _ h => .ok x h
theorem se_var (i : Nat) {x : Str} (p : PE X (.Name x pos) (tVar i)) : SE G X W (.Name x pos) (mVar i) := by
  refine pe_weak p fun σ H Q hq => ?_
  obtain ⟨ι, e, h, en, rh, q⟩ := hq
  unfold mVar at q
  cases z : e[i]? with
  | none => rw [z] at q; exact q.elim
  | some o =>
    cases o with
    | none => rw [z] at q; exact q.elim
    | some y =>
      rw [z] at q
      obtain ⟨v, hv, r⟩ := en.get z
      exact ⟨v, hv, q ι H v (Aft.refl rh) r⟩
theorem se_c {x : IV} {v : V} (p : PE X a (tC v)) (r : ∀ ι H, RV G.K ι H x v) : SE G X W a (mC x) := by
  refine pe_weak p fun σ H Q hq => ?_
  obtain ⟨ι, e, h, en, rh, q⟩ := hq
  exact q ι H v (Aft.refl rh) (r ι H)
theorem se_int {i j} : SE G X W (.Constant (.int i) j pos) (mC (.int i)) := se_c pe_int fun _ _ => int_iff.mpr rfl
theorem se_bl {b j} : SE G X W (.Constant (.bool b) j pos) (mC (.bl b)) := se_c pe_bl fun _ _ => bl_iff.mpr rfl
theorem se_non {j} : SE G X W (.Constant .none j pos) (mC .non) := se_c pe_non fun _ _ => non_iff.mpr rfl
theorem se_str {x : Str} {j} {z : List Nat} (hz : x = sS z := by rfl) : SE G X W (.Constant (.str x) j pos) (mC (.str z)) := se_c pe_str fun _ _ => str_iff.mpr (by rw [hz])

/-! ### operators by values -/
/-- a two-place operator's meaning: g is sound for the reading r -/
def Mean2 (G : Gx) (r : R2) (g : IV → IV → M IV) : Prop := ∀ (x y : IV) (v w : V) (ι : List Addr) (h : IH) (H : Hp) (Q : VK) (Wh : Value → Option Addr → Hp → Prop), RV G.K ι H x v → RV G.K ι H y w → RH G ι h H → PR G Wh ι H Q (g x y h) → r v w H Q
def Mean1 (G : Gx) (r : V → Hp → VK → Prop) (g : IV → M IV) : Prop := ∀ (x : IV) (v : V) (ι : List Addr) (h : IH) (H : Hp) (Q : VK) (Wh : Value → Option Addr → Hp → Prop), RV G.K ι H x v → RH G ι h H → PR G Wh ι H Q (g x h) → r v H Q
@[simp] def m2 (g : IV → IV → M IV) (fa fb : ME) : ME := fun e h => (fa e h).bind fun x h1 => (fb e h1).bind fun y h2 => g x y h2
@[simp] def m1 (g : IV → M IV) (fa : ME) : ME := fun e h => (fa e h).bind fun x h1 => g x h1
theorem tOp_mean {r : R2} {g : IV → IV → M IV} (hm : Mean2 G r g) : ∀ σ H Q, TI G W (m2 g fa fb) σ H Q → tOp r (TI G W fa) (TI G W fb) σ H Q := by
  intro σ H Q hq
  obtain ⟨ι, e, h, en, rh, q⟩ := hq
  refine TI.bind (Wh := fun c d H' => W c d σ H') en rh q fun x v ι1 h1 H1 a1 en1 r1 q1 => ?_
  refine TI.bind (Wh := fun c d H' => W c d σ H') en1 a1.rh q1 fun y w ι2 h2 H2 a2 en2 r2 q2 => ?_
  exact hm x y v w ι2 h2 H2 Q _ (r1.mono a2.pre a2.tl) r2 a2.rh q2
theorem se_op {op : Operator} {r : R2} {g : IV → IV → M IV} (ho : OpR X (binaryOp op) r) (hm : Mean2 G r g) (ha : SE G X W a fa) (hb : SE G X W b fb) : SE G X W (.BinOp a op b pos) (m2 g fa fb) := pe_weak (pe_op ho ha hb) (tOp_mean hm)
theorem se_cmp {op : CmpOp} {r : R2} {g : IV → IV → M IV} (ho : OpR X (compareOp op) r) (hm : Mean2 G r g) (ha : SE G X W a fa) (hb : SE G X W b fb) (hk : behindInMarks op b = false) : SE G X W (.Compare a [op] [b] pos) (m2 g fa fb) := pe_weak (pe_cmpR ho ha hb hk) (tOp_mean hm)
theorem se_un {op : UnaryOp} {r : V → Hp → VK → Prop} {g : IV → M IV} (ho : UnR X (unaryOp op) r) (hm : Mean1 G r g) (ha : SE G X W a fa) : SE G X W (.UnaryOp op a pos) (m1 g fa) := by
  refine pe_weak (pe_un ho ha) fun σ H Q hq => ?_
  obtain ⟨ι, e, h, en, rh, q⟩ := hq
  refine TI.bind (Wh := fun c d H' => W c d σ H') en rh q fun x v ι1 h1 H1 a1 en1 r1 q1 => ?_
  exact hm x v ι1 h1 H1 Q _ r1 a1.rh q1
end
end Sh

/-! Sh2: steps of the heap; displays, indices, calls, statements. -/
namespace Sh
open PySem PySem.Spec PyProof.Rows L2

/-- what may change: lists, dicts, instances -/
def Mu : HO → Prop
  | .lst _ => True
  | .dK _ => True
  | .dT _ => True
  | .ins _ _ _ => True
  | _ => False
section
variable {G : Gx} {ι : List Addr} {h : IH} {H H' : Hp} {p a : Addr} {n : Nat}
theorem RO.mu {K : PySem.W.Frag} {L : Nat → LamD} {lay : String → List Str} {a : Addr} : ∀ {o : IO}, RO K L lay ι H a o → ∃ u, H a = some u ∧ (Mu u ∨ ∃ φ, u = .ext φ)
  | .lst _, ⟨vs, e, r⟩ => ⟨_, e, .inl trivial⟩
  | .dic false _, ⟨ws, e, r⟩ => ⟨_, e, .inl trivial⟩
  | .dic true _, ⟨ws, e, r⟩ => ⟨_, e, .inl trivial⟩
  | .ins _ _, ⟨dx, ws, e, r⟩ => ⟨_, e, .inl trivial⟩
  | .lam k, ⟨c, e, q⟩ => ⟨_, e, .inr ⟨_, rfl⟩⟩
  | .gone, ⟨φ, e⟩ => ⟨_, e, .inr ⟨_, rfl⟩⟩
theorem RO.some {K : PySem.W.Frag} {L : Nat → LamD} {lay : String → List Str} {a : Addr} : ∀ {o : IO}, RO K L lay ι H a o → ∃ u, H a = some u
  | .lst _, ⟨vs, e, r⟩ => ⟨_, e⟩
  | .dic false _, ⟨ws, e, r⟩ => ⟨_, e⟩
  | .dic true _, ⟨ws, e, r⟩ => ⟨_, e⟩
  | .ins _ _, ⟨dx, ws, e, r⟩ => ⟨_, e⟩
  | .lam k, ⟨c, e, q⟩ => ⟨_, e⟩
  | .gone, ⟨φ, e⟩ => ⟨_, e⟩
theorem RH.at (r : RH G ι h H) {o : IO} (e : h[n]? = some o) (q : ι[n]? = some a) : RO G.K G.L G.lay ι H a o := by
  obtain ⟨b, e1, z⟩ := r.ob n o e
  rw [q] at e1
  cases e1
  exact z
theorem RH.mem (r : RH G ι h H) (q : ι[n]? = some a) : ∃ u, H a = some u := by
  have hn : n < h.length := by rw [← r.len]; exact (List.getElem?_eq_some_iff.mp q).1
  exact (r.at (List.getElem?_eq_getElem hn) q).some
theorem RH.new (r : RH G ι h H) (hp : H p = none) : p ∉ ι := fun hm => by
  obtain ⟨n, hn, e⟩ := List.getElem_of_mem hm
  obtain ⟨u, q⟩ := r.mem (List.getElem?_eq_some_iff.mpr ⟨hn, e⟩)
  rw [hp] at q
  cases q
theorem RH.nd_ix (r : RH G ι h H) {m : Nat} (e1 : ι[m]? = some a) (e2 : ι[n]? = some a) : m = n := by
  obtain ⟨l1, g1⟩ := List.getElem?_eq_some_iff.mp e1
  obtain ⟨l2, g2⟩ := List.getElem?_eq_some_iff.mp e2
  have z := List.pairwise_iff_getElem.mp r.nd
  rcases Nat.lt_trichotomy m n with q | q | q
  · exact absurd (g1.trans g2.symm) (z m n l1 l2 q)
  · exact q
  · exact absurd (g2.trans g1.symm) (z n m l2 l1 q)
/-- what was there is there -/
theorem Aft.same (r : RH G ι h H) (k : ∀ b o, H b = some o → H' b = some o) : Aft G ι H ι h H' := by
  have tl : TL G.K H H' := TL.of (fun b xs q => k b _ q) (fun b o u q => k b _ q) (fun b φ q => k b _ q)
  refine ⟨List.prefix_refl _, tl, r.len, r.nd, fun n o e => ?_, r.tb.ext k, fun p hp => ⟨(r.zb p hp).1, (r.zb p hp).2.trans tl⟩⟩
  obtain ⟨a, e1, q⟩ := r.ob n o e
  obtain ⟨u, hu⟩ := q.some
  exact ⟨a, e1, q.mono (List.prefix_refl _) tl ((k a u hu).trans hu.symm)⟩
theorem upd_keep (hp : H p = none) {o : HO} : ∀ b u, H b = some u → upd H p o b = some u := fun b u e => by
  rw [upd_ne (ne_of_none e hp)]
  exact e
/-- a new tuple, or another new thing without a place -/
theorem Aft.fresh (r : RH G ι h H) (hp : H p = none) (o : HO) : Aft G ι H ι h (upd H p o) := Aft.same r (upd_keep hp)
/-- a new thing at a new place -/
theorem Aft.place (r : RH G ι h H) (hp : H p = none) (u : HO) (o : IO) (ho : RO G.K G.L G.lay (ι ++ [p]) (upd H p u) p o) : Aft G ι H (ι ++ [p]) (h ++ [o]) (upd H p u) := by
  have a := Aft.fresh r hp u
  have pi : ι <+: ι ++ [p] := List.prefix_append _ _
  refine ⟨pi, a.tl, by rw [List.length_append, List.length_append, r.len]; rfl, ?_, fun n x e => ?_, a.rh.tb, fun p hp => ⟨(a.rh.zb p hp).1.trans pi, (a.rh.zb p hp).2⟩⟩
  · rw [List.nodup_append]
    refine ⟨r.nd, by simp, fun x hx y hy e => ?_⟩
    rw [List.mem_singleton] at hy
    subst hy e
    exact r.new hp hx
  · by_cases hn : n < h.length
    · rw [List.getElem?_append_left hn] at e
      obtain ⟨b, e1, q⟩ := a.rh.ob n x e
      exact ⟨b, pre_get pi e1, q.mono pi (TL.refl _ _) rfl⟩
    · rw [List.getElem?_append_right (by omega)] at e
      have h0 : n - h.length = 0 := by
        cases z : n - h.length with
        | zero => rfl
        | succ m => rw [z] at e; simp at e
      rw [h0] at e
      simp only [List.getElem?_cons_zero, Option.some.injEq] at e
      subst e
      refine ⟨p, ?_, ho⟩
      have : n = ι.length := by rw [r.len]; omega
      subst this
      rw [List.getElem?_append_right (Nat.le_refl _), Nat.sub_self]
      rfl
/-- a thing at a place changed -/
theorem Aft.set (r : RH G ι h H) (q : ι[n]? = some a) {u0 : HO} (h0 : H a = some u0) (m0 : Mu u0) (u : HO) (o : IO) (ho : RO G.K G.L G.lay ι (upd H a u) a o) (hn : n < h.length) : Aft G ι H ι (h.set n o) (upd H a u) := by
  have hne : ∀ b w, H b = some w → ¬ Mu w → b ≠ a := fun b w e nm z => by
    subst z
    rw [h0] at e
    cases e
    exact nm m0
  have tl : TL G.K H (upd H a u) := TL.of (fun b xs e => by rw [upd_ne (hne b _ e (fun z => z))]; exact e) (fun b o w e => by rw [upd_ne (hne b _ e (fun z => z))]; exact e) (fun b φ e => by rw [upd_ne (hne b _ e (fun z => z))]; exact e)
  refine ⟨List.prefix_refl _, tl, by rw [List.length_set]; exact r.len, r.nd, fun m x e => ?_, fun P hP => ?_, fun p hp => ⟨(r.zb p hp).1, (r.zb p hp).2.trans tl⟩⟩
  · by_cases hm : m = n
    · subst hm
      rw [List.getElem?_set_self hn] at e
      cases e
      exact ⟨a, q, ho⟩
    · rw [List.getElem?_set_ne (Ne.symm hm)] at e
      obtain ⟨b, e1, z⟩ := r.ob m x e
      have hb : b ≠ a := fun w => by
        subst w
        exact hm (r.nd_ix e1 q)
      exact ⟨b, e1, z.mono (List.prefix_refl _) tl (upd_ne hb)⟩
  · obtain ⟨ps, z1, z2, z3⟩ := r.tb P hP
    refine ⟨ps, by rw [upd_ne (hne _ _ z1 (fun z => z))]; exact z1, z2, fun pos cv hc => ?_⟩
    obtain ⟨c, e1, e2⟩ := z3 pos cv hc
    refine ⟨c, e1, ?_⟩
    rw [upd_ne (hne _ _ e2 (fun z => z))]
    exact e2
end
end Sh

/-! Sh3: operators and comparisons. -/
namespace Sh
open PySem PySem.Spec PyProof.Rows L2

theorem opr_or {X : Cx} {f : Value → Value → Sem Value} {r r' : R2} (a : OpR X f r) (b : OpR X f r') : OpR X f (fun x y H Q => r x y H Q ∨ r' x y H Q) := by
  intro pins s σ H x y v u Q I rx ry h
  rcases h with h | h
  · exact a pins s σ H x y v u Q I rx ry h
  · exact b pins s σ H x y v u Q I rx ry h
abbrev big : Nat := 10000000
theorem big_le {n : Nat} (h : n ≤ big) : n ≤ sizeLine := Nat.le_trans h (by decide)
theorem sS_len (x : List Nat) : (sS x).length = x.length := by
  unfold sS
  show (x.toArray).size = x.length
  simp
theorem sS_app (x y : List Nat) : sS x ++ sS y = sS (x ++ y) := by
  show Str.mk (x.toArray ++ y.toArray) = Str.mk (x ++ y).toArray
  simp
/-! ### + -/
@[simp] def gAdd (x y : IV) : M IV := fun h => match x, y with
  | .int i, .int j => .ok (.int (i + j)) h
  | .str a, .str b => if a.length + b.length ≤ big then .ok (.str (a ++ b)) h else .bad
  | .tup a, .tup b => if a.length + b.length ≤ big then .ok (.tup (a ++ b)) h else .bad
  | .ref n, .ref m => match h[n]?, h[m]? with
    | some (.lst a), some (.lst b) => if a.length + b.length ≤ big then .ok (.ref h.length) (h ++ [.lst (a ++ b)]) else .bad
    | _, _ => .bad
  | _, _ => .bad
def rAddU (K : PySem.W.Frag) : R2 := fun x y H Q => (rI0 (fun i j => .int (i + j))) x y H Q ∨ (fun x y H Q => ∃ i j, x = .str i ∧ y = .str j ∧ i.length + j.length ≤ sizeLine ∧ Q (.str (i ++ j)) H : R2) x y H Q ∨ rCatA K x y H Q ∨ rCat x y H Q
theorem op_addU {X : Cx} : OpR X (binaryOp .Add) (rAddU X.K) := opr_or op_add (opr_or op_add_str (opr_or op_catA op_cat))
theorem ref_len {G : Gx} {ι : List Addr} {h : IH} {H : Hp} (r : RH G ι h H) {p : Addr} : (ι ++ [p])[h.length]? = some p := by
  rw [← r.len, List.getElem?_append_right (Nat.le_refl _), Nat.sub_self]
  rfl
theorem mean_add {G : Gx} : Mean2 G (rAddU G.K) gAdd := by
  intro x y v w ι h H Q Wh rx ry r p
  cases x <;> cases y <;> try exact p.elim
  · rename_i i j
    rw [int_iff] at rx ry
    exact .inl ⟨i, j, rx, ry, p ι H _ (Aft.refl r) (int_iff.mpr rfl)⟩
  · rename_i a b
    rw [str_iff] at rx ry
    simp only [gAdd] at p
    split at p
    · rename_i hz
      refine .inr (.inl ⟨_, _, rx, ry, by rw [sS_len, sS_len]; exact big_le hz, p ι H _ (Aft.refl r) (str_iff.mpr ?_)⟩)
      rw [sS_app]
    · exact p.elim
  · rename_i a b
    rw [tup_iff] at rx ry
    obtain ⟨pa, va, rfl, qa, ra⟩ := rx
    obtain ⟨pb, vb, rfl, qb, rb⟩ := ry
    simp only [gAdd] at p
    split at p
    · rename_i hz
      have la := ra.len
      have lb := rb.len
      refine .inr (.inr (.inl ⟨pa, pb, va, vb, rfl, rfl, qa, qb, by rw [← la, ← lb]; exact big_le hz, fun e => ?_, fun _ e => ?_, fun _ _ q hq => ?_⟩))
      · refine p ι H _ (Aft.refl r) (tup_iff.mpr ⟨pb, vb, rfl, qb, ?_⟩)
        have : a = [] := List.length_eq_zero_iff.mp (by rw [la, e]; rfl)
        rw [this]
        exact rb
      · refine p ι H _ (Aft.refl r) (tup_iff.mpr ⟨pa, va, rfl, qa, ?_⟩)
        have : b = [] := List.length_eq_zero_iff.mp (by rw [lb, e]; rfl)
        rw [this, List.append_nil]
        exact ra
      · have af := Aft.fresh r hq (.tup (va ++ vb))
        exact p ι _ _ af (tup_iff.mpr ⟨q, _, rfl, SqT.of upd_same, (ra.mono af.pre af.tl).app (rb.mono af.pre af.tl)⟩)
    · exact p.elim
  · rename_i n m
    rw [ref_iff] at rx ry
    obtain ⟨pa, ia, rfl⟩ := rx
    obtain ⟨pb, ib, rfl⟩ := ry
    simp only [gAdd] at p
    split at p
    · rename_i a b e1 e2
      split at p
      · rename_i hz
        obtain ⟨va, ea, ra⟩ := r.at e1 ia
        obtain ⟨vb, eb, rb⟩ := r.at e2 ib
        refine .inr (.inr (.inr ⟨pa, pb, va, vb, rfl, rfl, ea, eb, by rw [← ra.len, ← rb.len]; exact big_le hz, fun q hq => ?_⟩))
        have a0 := Aft.fresh r hq (.lst (va ++ vb))
        have af := Aft.place r hq (.lst (va ++ vb)) (.lst (a ++ b)) ⟨_, upd_same, ((ra.mono a0.pre a0.tl).app (rb.mono a0.pre a0.tl)).mono (List.prefix_append _ _) (TL.refl _ _)⟩
        exact p _ _ _ af (ref_iff.mpr ⟨q, ref_len r, rfl⟩)
      · exact p.elim
    · exact p.elim
/-! ### - * // % ** -/
@[simp] def gI (C : Int → Int → Bool) (f : Int → Int → Int) (x y : IV) : M IV := fun h => match x, y with
  | .int i, .int j => if C i j = true then .ok (.int (f i j)) h else .bad
  | _, _ => .bad
theorem mean_I {G : Gx} {C : Int → Int → Bool} {P : Int → Int → Prop} {f : Int → Int → Int} (hc : ∀ i j, C i j = true → P i j) : Mean2 G (rI P fun i j => .int (f i j)) (gI C f) := by
  intro x y v w ι h H Q Wh rx ry r p
  cases x <;> cases y <;> try exact p.elim
  rename_i i j
  rw [int_iff] at rx ry
  simp only [gI] at p
  split at p
  · rename_i z
    exact ⟨i, j, rx, ry, hc i j z, p ι H _ (Aft.refl r) (int_iff.mpr rfl)⟩
  · exact p.elim
@[simp] def gSub : IV → IV → M IV := gI (fun _ _ => true) fun i j => i - j
theorem mean_sub {G : Gx} : Mean2 G (rI0 fun i j => .int (i - j)) gSub := fun x y v w ι h H Q Wh rx ry r p => by
  obtain ⟨i, j, a, b, _, q⟩ := mean_I (P := fun _ _ => True) (C := fun _ _ => true) (f := fun i j => i - j) (fun _ _ _ => trivial) x y v w ι h H Q Wh rx ry r p
  exact ⟨i, j, a, b, q⟩
/-- the rest: by a number above nought -/
@[simp] def gMod : IV → IV → M IV := gI (fun _ j => decide (0 < j)) fun i j => i % j
theorem mean_mod {G : Gx} : Mean2 G (rI (fun _ j => 0 < j) fun i j => .int (i % j)) gMod := mean_I fun _ _ h => of_decide_eq_true h
def pow200 : Int := 2 ^ 200
@[simp] def gDiv : IV → IV → M IV := gI (fun _ j => decide (0 < j ∧ j < pow200)) fun i j => i / j
theorem mean_div {G : Gx} : Mean2 G (rI CDivW fun i j => .int (i / j)) gDiv := mean_I fun i j h => by
  have h := of_decide_eq_true h
  refine wide_div (b := 200) h.1 ?_ (by decide) (by decide)
  have h2 := h.2
  unfold pow200 at h2
  have e : ((2 : Int) ^ 200) = ((2 ^ 200 : Nat) : Int) := by norm_cast
  omega
/-- a list so often, or a product one of whose factors is small -/
@[simp] def gMul (x y : IV) : M IV := fun h => match x, y with
  | .int i, .int j => if (-(2 ^ 64) < i ∧ i < 2 ^ 64) ∨ (-(2 ^ 64) < j ∧ j < 2 ^ 64) then .ok (.int (i * j)) h else .bad
  | .ref n, .int k => match h[n]? with
    | some (.lst a) => if -(2 ^ 63) ≤ k ∧ k < 2 ^ 63 ∧ a.length * k.toNat ≤ big then .ok (.ref h.length) (h ++ [.lst (List.replicate k.toNat a).flatten]) else .bad
    | _ => .bad
  | _, _ => .bad
def rMulU : R2 := fun x y H Q => rI CMul (fun i j => .int (i * j)) x y H Q ∨ rRep x y H Q
theorem op_mulU {X : Cx} : OpR X (binaryOp .Mult) rMulU := opr_or op_mul op_rep
theorem RVs.rep {K : PySem.W.Frag} {ι : List Addr} {H : Hp} {xs : List IV} {vs : List V} (h : RVs K ι H xs vs) : ∀ n : Nat, RVs K ι H (List.replicate n xs).flatten (List.replicate n vs).flatten
  | 0 => by simp only [List.replicate_zero, List.flatten_nil]; exact RVs.nil
  | n + 1 => by
    rw [List.replicate_succ, List.replicate_succ, List.flatten_cons, List.flatten_cons]
    exact h.app (RVs.rep h n)
theorem mean_mul {G : Gx} : Mean2 G rMulU gMul := by
  intro x y v w ι h H Q Wh rx ry r p
  cases x <;> cases y <;> try exact p.elim
  · rename_i i j
    rw [int_iff] at rx ry
    simp only [gMul] at p
    split at p
    · rename_i z
      exact .inl ⟨i, j, rx, ry, z, p ι H _ (Aft.refl r) (int_iff.mpr rfl)⟩
    · exact p.elim
  · rename_i n k
    rw [ref_iff] at rx
    rw [int_iff] at ry
    obtain ⟨pa, ia, rfl⟩ := rx
    simp only [gMul] at p
    split at p
    · rename_i a e1
      split at p
      · rename_i hz
        obtain ⟨va, ea, ra⟩ := r.at e1 ia
        refine .inr ⟨pa, k, va, rfl, ry, ea, hz.1, hz.2.1, by rw [← ra.len]; exact big_le hz.2.2, fun q hq => ?_⟩
        have a0 := Aft.fresh r hq (.lst (List.replicate k.toNat va).flatten)
        have af := Aft.place r hq (.lst (List.replicate k.toNat va).flatten) (.lst (List.replicate k.toNat a).flatten) ⟨_, upd_same, ((ra.mono a0.pre a0.tl).rep _).mono (List.prefix_append _ _) (TL.refl _ _)⟩
        exact p _ _ _ af (ref_iff.mpr ⟨q, ref_len r, rfl⟩)
      · exact p.elim
    · exact p.elim
@[simp] def gPow : IV → IV → M IV := gI (fun i j => decide (0 ≤ j ∧ j ≤ 1000000 ∧ i.natAbs < 2 ^ 64)) fun i j => i ^ j.toNat
theorem mean_pow {G : Gx} : Mean2 G (rI CPow fun i j => .int (i ^ j.toNat)) gPow := mean_I fun i j h => (of_decide_eq_true h : 0 ≤ j ∧ j ≤ 1000000 ∧ i.natAbs < 2 ^ 64)
@[simp] def gNeg (x : IV) : M IV := fun h => match x with
  | .int i => .ok (.int (-i)) h
  | _ => .bad
theorem mean_neg {G : Gx} : Mean1 G (rU fun i => .int (-i)) gNeg := by
  intro x v ι h H Q Wh rx r p
  cases x <;> try exact p.elim
  rw [int_iff] at rx
  exact ⟨_, rx, p ι H _ (Aft.refl r) (int_iff.mpr rfl)⟩
/-! ### == != -/
def eqS : IV → IV → Option Bool
  | .non, .non => some true
  | .int i, .int j => some (decide (i = j))
  | .bl a, .bl b => some (a == b)
  | .str a, .str b => some (decide (a = b))
  | .non, .int _ => some false | .int _, .non => some false | .non, .bl _ => some false | .bl _, .non => some false | .non, .str _ => some false | .str _, .non => some false
  | .int _, .str _ => some false | .str _, .int _ => some false | .bl _, .str _ => some false | .str _, .bl _ => some false
  | _, _ => none
def mapO {α β : Type} (f : α → Option β) : List α → Option (List β)
  | [] => some []
  | x :: xs => match f x, mapO f xs with
    | some y, some ys => some (y :: ys)
    | _, _ => none
/-- a value as data: what lists hold is read -/
def dat : Nat → IH → IV → Option PyData
  | _, _, .non => some .none
  | _, _, .bl b => some (.bool b)
  | _, _, .int i => some (.int i)
  | _, _, .str x => some (.str (sS x))
  | n + 1, h, .tup xs => (mapO (dat n h) xs).map .tuple
  | n + 1, h, .ref k => match h[k]? with
    | some (.lst xs) => (mapO (dat n h) xs).map .list
    | _ => none
  | _, _, _ => none
theorem dp_all {K : PySem.W.Frag} {ι : List Addr} {H : Hp} {f : IV → Option PyData} (hf : ∀ x v d, RV K ι H x v → f x = some d → Dp K H v d) : ∀ (xs : List IV) (vs : List V) (ds : List PyData), RVs K ι H xs vs → mapO f xs = some ds → DpAll K H vs ds
  | [], vs, ds, r, e => by
    unfold RVs at r
    unfold mapO at e
    cases e
    subst r
    exact .nil
  | x :: xs, vs, ds, r, e => by
    unfold RVs at r
    obtain ⟨v, w, rfl, rv, rs⟩ := r
    unfold mapO at e
    cases z1 : f x with
    | none => rw [z1] at e; cases e
    | some d =>
      cases z2 : mapO f xs with
      | none => rw [z1, z2] at e; cases e
      | some es =>
        rw [z1, z2] at e
        cases e
        exact .cons (hf _ _ _ rv z1) (dp_all hf xs w es rs z2)
theorem dp_of {G : Gx} {ι : List Addr} {h : IH} {H : Hp} (r : RH G ι h H) : ∀ (n : Nat) (x : IV) (v : V) (d : PyData), RV G.K ι H x v → dat n h x = some d → Dp G.K H v d := by
  intro n
  induction n with
  | zero =>
    intro x v d rx e
    cases x <;> simp only [dat, Option.some.injEq, reduceCtorEq] at e
    · subst e; rw [non_iff] at rx; subst rx; exact .non
    · subst e; rw [bl_iff] at rx; subst rx; exact .bl _
    · subst e; rw [int_iff] at rx; subst rx; exact .int _
    · subst e; rw [str_iff] at rx; subst rx; exact .str _
  | succ n ih =>
    intro x v d rx e
    cases x with
    | non => simp only [dat, Option.some.injEq] at e; subst e; rw [non_iff] at rx; subst rx; exact .non
    | bl b => simp only [dat, Option.some.injEq] at e; subst e; rw [bl_iff] at rx; subst rx; exact .bl _
    | int i => simp only [dat, Option.some.injEq] at e; subst e; rw [int_iff] at rx; subst rx; exact .int _
    | str z => simp only [dat, Option.some.injEq] at e; subst e; rw [str_iff] at rx; subst rx; exact .str _
    | fz z => simp only [dat, reduceCtorEq] at e
    | tup xs =>
      simp only [dat] at e
      obtain ⟨ds, e1, e2⟩ := Option.map_eq_some_iff.mp e
      subst e2
      rw [tup_iff] at rx
      obtain ⟨a, vs, rfl, q, rs⟩ := rx
      exact .tup q (dp_all (fun x v d a b => ih x v d a b) xs vs ds rs e1)
    | ref k =>
      simp only [dat] at e
      rw [ref_iff] at rx
      obtain ⟨a, ia, rfl⟩ := rx
      split at e
      · rename_i xs hk
        obtain ⟨ds, e1, e2⟩ := Option.map_eq_some_iff.mp e
        subst e2
        obtain ⟨vs, ea, rs⟩ := r.at hk ia
        exact .lst (SqL.of ea) (dp_all (fun x v d a b => ih x v d a b) xs vs ds rs e1)
      · cases e
def gEq (x y : IV) : M IV := fun h => match eqS x y with
  | some b => .ok (.bl b) h
  | none => match dat 9 h x, dat 9 h y with
    | some d, some e => if SeqAt.shaped d && SeqAt.shaped e then .ok (.bl (PyData.eqv d e)) h else .bad
    | _, _ => .bad
def gNe (x y : IV) : M IV := fun h => match eqS x y with
  | some b => .ok (.bl (!b)) h
  | none => match dat 9 h x, dat 9 h y with
    | some d, some e => if SeqAt.shaped d && SeqAt.shaped e then .ok (.bl (!PyData.eqv d e)) h else .bad
    | _, _ => .bad
def rEqU (K : PySem.W.Frag) : R2 := fun x y H Q => rEq x y H Q ∨ rEqD K x y H Q
def rNeU (K : PySem.W.Frag) : R2 := fun x y H Q => rNe x y H Q ∨ rNeD K x y H Q
theorem op_eqU {X : Cx} (hu : X.A.units + 64 < cLine) : OpR X (compareOp .Eq) (rEqU X.K) := opr_or op_eq (op_eqD hu)
theorem op_neU {X : Cx} (hu : X.A.units + 64 < cLine) : OpR X (compareOp .NotEq) (rNeU X.K) := opr_or op_ne (op_neD hu)
theorem eqS_ok {K : PySem.W.Frag} {ι : List Addr} {H : Hp} {x y : IV} {v w : V} {b : Bool} (rx : RV K ι H x v) (ry : RV K ι H y w) (e : eqS x y = some b) : scal v w = true ∧ decide (v = w) = b := by
  cases x <;> cases y <;> simp only [eqS, Option.some.injEq, reduceCtorEq] at e <;> simp only [non_iff, bl_iff, int_iff, str_iff] at rx ry <;> subst rx ry <;> refine ⟨rfl, ?_⟩ <;> rw [← e]
  all_goals first
    | exact decide_eq_true rfl
    | exact decide_eq_false (fun z => by cases z)
    | skip
  · rename_i a b
    cases a <;> cases b <;> decide
  · rename_i i j
    by_cases z : i = j
    · subst z; simp
    · rw [decide_eq_false z, decide_eq_false (fun q => z (V.int.inj q))]
  · rename_i i j
    by_cases z : i = j
    · subst z; simp
    · rw [decide_eq_false z, decide_eq_false (fun q => z (sS_inj (V.str.inj q)))]
theorem mean_eq {G : Gx} : Mean2 G (rEqU G.K) gEq := by
  intro x y v w ι h H Q Wh rx ry r p
  simp only [gEq] at p
  split at p
  · rename_i b e
    obtain ⟨z1, z2⟩ := eqS_ok rx ry e
    exact .inl ⟨z1, by rw [z2]; exact p ι H _ (Aft.refl r) (bl_iff.mpr rfl)⟩
  · split at p
    · rename_i d e h1 h2
      split at p
      · rename_i hz
        obtain ⟨s1, s2⟩ := Bool.and_eq_true_iff.mp hz
        exact .inr ⟨d, e, dp_of r _ _ _ _ rx h1, dp_of r _ _ _ _ ry h2, s1, s2, p ι H _ (Aft.refl r) (bl_iff.mpr rfl)⟩
      · exact p.elim
    · exact p.elim
theorem mean_ne {G : Gx} : Mean2 G (rNeU G.K) gNe := by
  intro x y v w ι h H Q Wh rx ry r p
  simp only [gNe] at p
  split at p
  · rename_i b e
    obtain ⟨z1, z2⟩ := eqS_ok rx ry e
    exact .inl ⟨z1, by rw [z2]; exact p ι H _ (Aft.refl r) (bl_iff.mpr rfl)⟩
  · split at p
    · rename_i d e h1 h2
      split at p
      · rename_i hz
        obtain ⟨s1, s2⟩ := Bool.and_eq_true_iff.mp hz
        exact .inr ⟨d, e, dp_of r _ _ _ _ rx h1, dp_of r _ _ _ _ ry h2, s1, s2, p ι H _ (Aft.refl r) (bl_iff.mpr rfl)⟩
      · exact p.elim
    · exact p.elim
/-! ### < <= > >= of numbers; is None -/
@[simp] def gB (f : Int → Int → Bool) (x y : IV) : M IV := fun h => match x, y with
  | .int i, .int j => .ok (.bl (f i j)) h
  | _, _ => .bad
theorem mean_B {G : Gx} {f : Int → Int → Bool} : Mean2 G (rI0 fun i j => .bl (f i j)) (gB f) := by
  intro x y v w ι h H Q Wh rx ry r p
  cases x <;> cases y <;> try exact p.elim
  rename_i i j
  rw [int_iff] at rx ry
  exact ⟨i, j, rx, ry, p ι H _ (Aft.refl r) (bl_iff.mpr rfl)⟩
@[simp] def gLt : IV → IV → M IV := gB fun i j => decide (i < j)
@[simp] def gLe : IV → IV → M IV := gB fun i j => decide (i ≤ j)
@[simp] def gGt : IV → IV → M IV := gB fun i j => decide (j < i)
@[simp] def gGe : IV → IV → M IV := gB fun i j => decide (j ≤ i)
@[simp] def isN : IV → Bool
  | .non => true
  | _ => false
@[simp] def gIs (x y : IV) : M IV := fun h => match y with
  | .non => .ok (.bl (isN x)) h
  | _ => .bad
@[simp] def gIsNot (x y : IV) : M IV := fun h => match y with
  | .non => .ok (.bl (!isN x)) h
  | _ => .bad
theorem isN_ok {K : PySem.W.Frag} {ι : List Addr} {H : Hp} {x : IV} {v : V} (rx : RV K ι H x v) : decide (v = .non) = isN x := by
  cases x <;> simp only [isN]
  · rw [non_iff] at rx; subst rx; rfl
  · rw [bl_iff] at rx; subst rx; rfl
  · rw [int_iff] at rx; subst rx; rfl
  · rw [str_iff] at rx; subst rx; rfl
  · rw [tup_iff] at rx; obtain ⟨a, vs, rfl, _⟩ := rx; rfl
  · rw [fz_iff] at rx; obtain ⟨a, vs, rfl, _⟩ := rx; rfl
  · rw [ref_iff] at rx; obtain ⟨a, _, rfl⟩ := rx; rfl
theorem mean_is {G : Gx} : Mean2 G (fun x y H Q => y = .non ∧ Q (.bl (decide (x = .non))) H) gIs := by
  intro x y v w ι h H Q Wh rx ry r p
  cases y <;> try exact p.elim
  rw [non_iff] at ry
  exact ⟨ry, by rw [isN_ok rx]; exact p ι H _ (Aft.refl r) (bl_iff.mpr rfl)⟩
theorem mean_isNot {G : Gx} : Mean2 G (fun x y H Q => y = .non ∧ Q (.bl (!decide (x = .non))) H) gIsNot := by
  intro x y v w ι h H Q Wh rx ry r p
  cases y <;> try exact p.elim
  rw [non_iff] at ry
  exact ⟨ry, by rw [isN_ok rx]; exact p ι H _ (Aft.refl r) (bl_iff.mpr rfl)⟩
end Sh

/-! Sh4: truth, displays, indices, cuts, calls. -/
namespace Sh
open PySem PySem.Spec PyProof.Rows L2

section
variable {G : Gx} {X : Cx} {W : WX} {a b c e : Expr} {fa fb fc : ME} {pos : Pos} {es rest : List Expr} {fs : IE → M (List IV)}

/-! ### and, or, not, if -/
def mAnd (fa fb : ME) : ME := fun e h => (fa e h).bind fun x h1 => match x with
  | .bl true => fb e h1
  | .bl false => .ok (.bl false) h1
  | _ => .bad
def mOr (fa fb : ME) : ME := fun e h => (fa e h).bind fun x h1 => match x with
  | .bl true => .ok (.bl true) h1
  | .bl false => fb e h1
  | _ => .bad
def mNot (fa : ME) : ME := fun e h => (fa e h).bind fun x h1 => match x with
  | .bl k => .ok (.bl (!k)) h1
  | _ => .bad
def mIf (ft fa fb : ME) : ME := fun e h => (ft e h).bind fun x h1 => match x with
  | .bl true => fa e h1
  | .bl false => fb e h1
  | _ => .bad
theorem se_one {op} (ha : SE G X W a fa) : SE G X W (.BoolOp op [a] pos) fa := pe_one ha
theorem se_and (ha : SE G X W a fa) (hb : SE G X W (.BoolOp .And (b :: rest) pos) fb) : SE G X W (.BoolOp .And (a :: b :: rest) pos) (mAnd fa fb) := by
  refine pe_weak (pe_and ha hb) fun σ H Q hq => ?_
  obtain ⟨ι, e, h, en, rh, q⟩ := hq
  refine TI.bind (Wh := fun c d H' => W c d σ H') en rh q fun x v ι1 h1 H1 a1 en1 r1 q1 => ?_
  cases x <;> try exact q1.elim
  rename_i k
  rw [bl_iff] at r1
  refine ⟨k, r1, ?_⟩
  cases k with
  | true => exact iteT ⟨ι1, e, h1, en1, a1.rh, q1⟩
  | false => exact iteF (q1 ι1 H1 _ (Aft.refl a1.rh) (bl_iff.mpr rfl))
theorem se_or (ha : SE G X W a fa) (hb : SE G X W (.BoolOp .Or (b :: rest) pos) fb) : SE G X W (.BoolOp .Or (a :: b :: rest) pos) (mOr fa fb) := by
  refine pe_weak (pe_or ha hb) fun σ H Q hq => ?_
  obtain ⟨ι, e, h, en, rh, q⟩ := hq
  refine TI.bind (Wh := fun c d H' => W c d σ H') en rh q fun x v ι1 h1 H1 a1 en1 r1 q1 => ?_
  cases x <;> try exact q1.elim
  rename_i k
  rw [bl_iff] at r1
  refine ⟨k, r1, ?_⟩
  cases k with
  | true => exact iteT (q1 ι1 H1 _ (Aft.refl a1.rh) (bl_iff.mpr rfl))
  | false => exact iteF ⟨ι1, e, h1, en1, a1.rh, q1⟩
theorem se_not (ha : SE G X W a fa) : SE G X W (.UnaryOp .Not a pos) (mNot fa) := by
  refine pe_weak (pe_not ha) fun σ H Q hq => ?_
  obtain ⟨ι, e, h, en, rh, q⟩ := hq
  refine TI.bind (Wh := fun c d H' => W c d σ H') en rh q fun x v ι1 h1 H1 a1 en1 r1 q1 => ?_
  cases x <;> try exact q1.elim
  rename_i k
  rw [bl_iff] at r1
  exact ⟨k, r1, q1 ι1 H1 _ (Aft.refl a1.rh) (bl_iff.mpr rfl)⟩
/-- a test, by what it is as a value -/
def TB (G : Gx) (W : WX) (f : ME) : TT := fun σ H Q => ∃ ι e h, REn G.K ι H e σ ∧ RH G ι h H ∧ match f e h with
  | .ok (.bl b) h' => ∀ ι' H', Aft G ι H ι' h' H' → Q b H'
  | .exc c h' => ∀ ι' H', Aft G ι H ι' h' H' → W (.ref (He.ga G.K (Str.ofString c))) none σ H'
  | _ => False
def SC (G : Gx) (X : Cx) (W : WX) (e : Expr) (f : ME) : Prop := PT X e (TB G W f)
theorem TB.to {σ : L2.St} {H : Hp} {Q : Bool → Hp → Prop} {f : ME} (h : TB G W f σ H Q) : TI G W f σ H (fun x H' => ∃ d, x = .bl d ∧ Q d H') := by
  obtain ⟨ι, e, h, en, rh, q⟩ := h
  refine ⟨ι, e, h, en, rh, ?_⟩
  cases z : f e h with
  | ok x h' =>
    rw [z] at q
    cases x <;> try exact q.elim
    rename_i k
    exact fun ι' H' v a r => ⟨k, bl_iff.mp r, q ι' H' a⟩
  | exc c h' => rw [z] at q; exact q
  | bad => rw [z] at q; exact q
theorem sc_val (p : SE G X W e fa) (he : ∀ whole, isTrue e X.env whole = (do let v ← whole; standAt e.pos; holding [v] (truthy v)) := by intro _; rfl) : SC G X W e fa := pt_weak (pt_val p he) fun σ H Q h => h.to
theorem sc_cmp {op : CmpOp} {r : R2} {g : IV → IV → M IV} (ho : OpR X (compareOp op) r) (hm : Mean2 G r g) (ha : SE G X W a fa) (hb : SE G X W b fb) (hk : behindInMarks op b = false) : SC G X W (.Compare a [op] [b] pos) (m2 g fa fb) :=
  pt_weak (pt_cmpR ho ha hb hk) fun σ H Q h => tOp_mean hm σ H _ h.to
/-- not, as a test -/
theorem sc_not (p : SC G X W a fa) : SC G X W (.UnaryOp .Not a pos) (mNot fa) := by
  refine pt_weak (pt_not p) fun σ H Q h => ?_
  obtain ⟨ι, e, h, en, rh, q⟩ := h
  refine ⟨ι, e, h, en, rh, ?_⟩
  simp only [mNot] at q
  cases z : fa e h with
  | ok x h' =>
    rw [z] at q
    cases x <;> try exact q.elim
    exact q
  | exc c h' => rw [z] at q; exact q
  | bad => rw [z] at q; exact q
theorem TB.andL {σ : L2.St} {H : Hp} {Q : Bool → Hp → Prop} (h : TB G W (mAnd fa fb) σ H Q) : tAnd (TB G W fa) (TB G W fb) σ H Q := by
  obtain ⟨ι, e, h, en, rh, q⟩ := h
  refine ⟨ι, e, h, en, rh, ?_⟩
  simp only [mAnd] at q
  cases z : fa e h with
  | ok x h' =>
    rw [z] at q
    cases x <;> try exact q.elim
    rename_i k
    cases k with
    | true =>
      refine fun ι' H' a => iteT ⟨ι', e, h', en.mono a.pre a.tl, a.rh, ?_⟩
      simp only [Res.bind] at q
      cases y : fb e h' with
      | ok u h2 =>
        rw [y] at q
        cases u <;> try exact q.elim
        exact fun ι2 H2 b => q ι2 H2 (a.trans b)
      | exc c h2 => rw [y] at q; exact fun ι2 H2 b => q ι2 H2 (a.trans b)
      | bad => rw [y] at q; exact q
    | false => exact fun ι' H' a => iteF (q ι' H' a)
  | exc c h' => rw [z] at q; exact q
  | bad => rw [z] at q; exact q
theorem TB.orL {σ : L2.St} {H : Hp} {Q : Bool → Hp → Prop} (h : TB G W (mOr fa fb) σ H Q) : tOr (TB G W fa) (TB G W fb) σ H Q := by
  obtain ⟨ι, e, h, en, rh, q⟩ := h
  refine ⟨ι, e, h, en, rh, ?_⟩
  simp only [mOr] at q
  cases z : fa e h with
  | ok x h' =>
    rw [z] at q
    cases x <;> try exact q.elim
    rename_i k
    cases k with
    | false =>
      refine fun ι' H' a => iteF ⟨ι', e, h', en.mono a.pre a.tl, a.rh, ?_⟩
      simp only [Res.bind] at q
      cases y : fb e h' with
      | ok u h2 =>
        rw [y] at q
        cases u <;> try exact q.elim
        exact fun ι2 H2 b => q ι2 H2 (a.trans b)
      | exc c h2 => rw [y] at q; exact fun ι2 H2 b => q ι2 H2 (a.trans b)
      | bad => rw [y] at q; exact q
    | true => exact fun ι' H' a => iteT (q ι' H' a)
  | exc c h' => rw [z] at q; exact q
  | bad => rw [z] at q; exact q
/-- a chain of and, of or, as a test -/
def SW (G : Gx) (X : Cx) (W : WX) (e : Expr) (f : ME) : Prop := PW X e (TB G W f)
theorem pw_weak {e : Expr} {t u : TT} (p : PW X e t) (h : ∀ σ H Q, u σ H Q → t σ H Q) : PW X e u := ⟨fun w pins s σ H Q I q => p.run w pins s σ H Q I (h σ H Q q)⟩
theorem sw_and1 (ha : SC G X W a fa) : SW G X W (.BoolOp .And [a] pos) fa := pw_and1 ha
theorem sw_or1 (ha : SC G X W a fa) : SW G X W (.BoolOp .Or [a] pos) fa := pw_or1 ha
theorem sw_and (ha : SC G X W a fa) (hb : SW G X W (.BoolOp .And (b :: rest) pos) fb) : SW G X W (.BoolOp .And (a :: b :: rest) pos) (mAnd fa fb) := pw_weak (pw_and ha hb) fun _ _ _ h => h.andL
theorem sw_or (ha : SC G X W a fa) (hb : SW G X W (.BoolOp .Or (b :: rest) pos) fb) : SW G X W (.BoolOp .Or (a :: b :: rest) pos) (mOr fa fb) := pw_weak (pw_or ha hb) fun _ _ _ h => h.orL
theorem sc_w (p : SW G X W a fa) : SC G X W a fa := L2.PW.pt p
theorem se_if {ft : ME} (hc : SC G X W c ft) (ha : SE G X W a fa) (hb : SE G X W b fb) : SE G X W (.IfExp c a b pos) (mIf ft fa fb) := by
  refine pe_weak (pe_ifExp hc ha hb) fun σ H Q hq => ?_
  obtain ⟨ι, e, h, en, rh, q⟩ := hq
  refine ⟨ι, e, h, en, rh, ?_⟩
  simp only [mIf] at q
  cases z : ft e h with
  | ok x h' =>
    rw [z] at q
    cases x <;> try exact q.elim
    rename_i k
    cases k with
    | true => exact fun ι' H' a => iteT ⟨ι', e, h', en.mono a.pre a.tl, a.rh, PR.after a q⟩
    | false => exact fun ι' H' a => iteF ⟨ι', e, h', en.mono a.pre a.tl, a.rh, PR.after a q⟩
  | exc c h' => rw [z] at q; exact q
  | bad => rw [z] at q; exact q
/-- a < b < c -/
def mChain (g g' : IV → IV → M IV) (fa fb fc : ME) : ME := fun e h => (fa e h).bind fun x h1 => (fb e h1).bind fun y h2 => (g x y h2).bind fun k h3 => match k with
  | .bl true => (fc e h3).bind fun z h4 => g' y z h4
  | .bl false => .ok (.bl false) h3
  | _ => .bad
/-- a mean-lemma for a step in the middle -/
theorem Mean2.mid {r : R2} {g : IV → IV → M IV} (hm : Mean2 G r g) {x y : IV} {v w : V} {ι : List Addr} {h : IH} {H : Hp} {Q R : VK} {Wh : Value → Option Addr → Hp → Prop} {k : IV → M IV} (rx : RV G.K ι H x v) (ry : RV G.K ι H y w) (r0 : RH G ι h H)
    (p : PR G Wh ι H Q (Res.bind (g x y h) k)) (hg : ∀ c h', g x y h ≠ .exc c h') (hk : ∀ z u ι1 h1 H1, Aft G ι H ι1 h1 H1 → RV G.K ι1 H1 z u → PR G Wh ι1 H1 Q (k z h1) → R u H1) : r v w H R := by
  refine hm x y v w ι h H R Wh rx ry r0 ?_
  cases q : g x y h with
  | ok z h1 =>
    rw [q] at p
    exact fun ι1 H1 u a ru => hk z u ι1 h1 H1 a ru (PR.after a p)
  | exc c h1 => exact absurd q (hg c h1)
  | bad => rw [q] at p; exact p
theorem tChain_mean {r r' : R2} {g g' : IV → IV → M IV} (hm : Mean2 G r g) (hm' : Mean2 G r' g') (hg : ∀ x y h c h', g x y h ≠ .exc c h') : ∀ σ H Q, TI G W (mChain g g' fa fb fc) σ H Q → tChain r r' (TI G W fa) (TI G W fb) (TI G W fc) σ H Q := by
  intro σ H Q hq
  obtain ⟨ι, e, h, en, rh, q⟩ := hq
  refine TI.bind (Wh := fun c d H' => W c d σ H') en rh q fun x v ι1 h1 H1 a1 en1 r1 q1 => ?_
  refine TI.bind (Wh := fun c d H' => W c d σ H') en1 a1.rh q1 fun y w ι2 h2 H2 a2 en2 r2 q2 => ?_
  refine hm.mid (r1.mono a2.pre a2.tl) r2 a2.rh q2 (hg _ _ _) fun z u ι3 h3 H3 a3 r3 q3 => ?_
  cases z <;> try exact q3.elim
  rename_i k
  rw [bl_iff] at r3
  refine ⟨k, r3, ?_⟩
  cases k with
  | true =>
    refine iteT (TI.bind (Wh := fun c d H' => W c d σ H') (en2.mono a3.pre a3.tl) a3.rh q3 fun z u ι4 h4 H4 a4 en4 r4 q4 => ?_)
    exact hm' y z w u ι4 h4 H4 Q _ (r2.mono (a3.pre.trans a4.pre) (a3.tl.trans a4.tl)) r4 a4.rh q4
  | false => exact iteF (q3 ι3 H3 _ (Aft.refl a3.rh) (bl_iff.mpr rfl))
theorem se_chain {op op' : CmpOp} {r r' : R2} {g g' : IV → IV → M IV} (ho : OpR X (compareOp op) r) (hm : Mean2 G r g) (ho' : OpR X (compareOp op') r') (hm' : Mean2 G r' g') (hg : ∀ x y h c h', g x y h ≠ .exc c h')
    (ha : SE G X W a fa) (hb : SE G X W b fb) (hc : SE G X W c fc) (hk : lastMarks [op, op'] [b, c] = false := by with_unfolding_all rfl) : SE G X W (.Compare a [op, op'] [b, c] pos) (mChain g g' fa fb fc) :=
  pe_weak (pe_chain ho ho' ha hb hc hk) (tChain_mean hm hm' hg)
theorem sc_chain {op op' : CmpOp} {r r' : R2} {g g' : IV → IV → M IV} (ho : OpR X (compareOp op) r) (hm : Mean2 G r g) (ho' : OpR X (compareOp op') r') (hm' : Mean2 G r' g') (hg : ∀ x y h c h', g x y h ≠ .exc c h')
    (ha : SE G X W a fa) (hb : SE G X W b fb) (hc : SE G X W c fc) (hk : lastMarks [op, op'] [b, c] = false := by with_unfolding_all rfl) : SC G X W (.Compare a [op, op'] [b, c] pos) (mChain g g' fa fb fc) :=
  pt_weak (pt_chain ho ho' ha hb hc hk) fun σ H Q h => tChain_mean hm hm' hg σ H _ h.to
theorem gB_ne {f : Int → Int → Bool} : ∀ x y h c h', gB f x y h ≠ .exc c h' := by
  intro x y h c h' z
  cases x <;> cases y <;> simp only [gB, reduceCtorEq] at z

/-! ### several values; tuples, lists -/
@[simp] def mNil : IE → M (List IV) := fun _ h => .ok [] h
@[simp] def mCons (f : ME) (fs : IE → M (List IV)) : IE → M (List IV) := fun e h => (f e h).bind fun x h1 => (fs e h1).bind fun xs h2 => .ok (x :: xs) h2
theorem sa_nil : SA G X W [] mNil := pa_weak pa_nil fun σ H Q hq => by
  obtain ⟨ι, e, h, en, rh, q⟩ := hq
  exact q ι H [] (Aft.refl rh) RVs.nil
theorem PRs.after {Wh : Value → Option Addr → Hp → Prop} {ι ι1 : List Addr} {H H1 : Hp} {Q : List V → Hp → Prop} {h1 : IH} {r : Res (List IV)} (a : Aft G ι H ι1 h1 H1) (p : PRs G Wh ι H Q r) : PRs G Wh ι1 H1 Q r := by
  cases r with
  | ok x h' => exact fun ι' H' v b r => p ι' H' v (a.trans b) r
  | exc c h' => exact fun ι' H' b => p ι' H' (a.trans b)
  | bad => exact p
theorem sa_cons (ha : SE G X W a fa) (hr : SA G X W es fs) (hs : starEach (a :: es) X.env = (false, eval a X.env) :: starEach es X.env := by rfl) : SA G X W (a :: es) (mCons fa fs) := by
  refine pa_weak (pa_cons ha hr hs) fun σ H Q hq => ?_
  obtain ⟨ι, e, h, en, rh, q⟩ := hq
  refine ⟨ι, e, h, en, rh, ?_⟩
  simp only [mCons] at q
  cases z : fa e h with
  | exc c h' => rw [z] at q; exact q
  | bad => rw [z] at q; exact q
  | ok x h1 =>
    rw [z] at q
    refine fun ι1 H1 v a1 r1 => ⟨ι1, e, h1, en.mono a1.pre a1.tl, a1.rh, ?_⟩
    simp only [Res.bind] at q
    cases y : fs e h1 with
    | exc c h' => rw [y] at q; exact fun ι2 H2 b => q ι2 H2 (a1.trans b)
    | bad => rw [y] at q; exact q
    | ok xs h2 =>
      rw [y] at q
      exact fun ι2 H2 vs a2 r2 => q ι2 H2 _ (a1.trans a2) (RVs.cons (r1.mono a2.pre a2.tl) r2)
/-- from several values to one: r, the reading behind them -/
theorem TIs.bind {σ : L2.St} {H : Hp} {R : List V → Hp → Prop} {ι : List Addr} {e : IE} {h : IH} {k : List IV → M IV} {Q : VK} (en : REn G.K ι H e σ) (rh : RH G ι h H)
    (p : PR G (fun c d H' => W c d σ H') ι H Q (Res.bind (fs e h) k))
    (hk : ∀ xs vs ι1 h1 H1, Aft G ι H ι1 h1 H1 → REn G.K ι1 H1 e σ → RVs G.K ι1 H1 xs vs → PR G (fun c d H' => W c d σ H') ι1 H1 Q (k xs h1) → R vs H1) : TIs G W fs σ H R := by
  refine ⟨ι, e, h, en, rh, ?_⟩
  cases q : fs e h with
  | ok x h1 =>
    rw [q] at p
    exact fun ι1 H1 v a r => hk x v ι1 h1 H1 a (en.mono a.pre a.tl) r (PR.after a p)
  | exc c h1 => rw [q] at p; exact p
  | bad => rw [q] at p; exact p
@[simp] def mTup (fs : IE → M (List IV)) : ME := fun e h => (fs e h).bind fun xs h1 => if xs.length ≤ big then .ok (.tup xs) h1 else .bad
@[simp] def mLst (fs : IE → M (List IV)) : ME := fun e h => (fs e h).bind fun xs h1 => if xs.length ≤ big then .ok (.ref h1.length) (h1 ++ [.lst xs]) else .bad
theorem se_tup {x1} (p : SA G X W es fs) : SE G X W (.Tuple es x1 pos) (mTup fs) := by
  refine pe_weak (pe_tup p) fun σ H Q hq => ?_
  obtain ⟨ι, e, h, en, rh, q⟩ := hq
  refine TIs.bind en rh q fun xs vs ι1 h1 H1 a1 en1 r1 q1 => ?_
  split at q1
  · rename_i hz
    refine ⟨by rw [← r1.len]; exact big_le hz, fun p hp => ?_⟩
    have af := Aft.fresh a1.rh hp (.tup vs)
    exact q1 _ _ _ af (tup_iff.mpr ⟨p, vs, rfl, SqT.of upd_same, r1.mono af.pre af.tl⟩)
  · exact q1.elim
theorem new_lst {ι : List Addr} {h : IH} {H : Hp} {p : Addr} {xs : List IV} {vs : List V} (r : RH G ι h H) (hp : H p = none) (rs : RVs G.K ι H xs vs) : Aft G ι H (ι ++ [p]) (h ++ [.lst xs]) (upd H p (.lst vs)) :=
  have a0 := Aft.fresh r hp (.lst vs)
  Aft.place r hp (.lst vs) (.lst xs) ⟨_, upd_same, (rs.mono a0.pre a0.tl).mono (List.prefix_append _ _) (TL.refl _ _)⟩
theorem se_lst (p : SA G X W es fs) : SE G X W (.List es pos) (mLst fs) := by
  refine pe_weak (pe_lst p) fun σ H Q hq => ?_
  obtain ⟨ι, e, h, en, rh, q⟩ := hq
  refine TIs.bind en rh q fun xs vs ι1 h1 H1 a1 en1 r1 q1 => ?_
  split at q1
  · rename_i hz
    refine ⟨by rw [← r1.len]; exact big_le hz, fun p hp => ?_⟩
    exact q1 _ _ _ (new_lst a1.rh hp r1) (ref_iff.mpr ⟨p, ref_len a1.rh, rfl⟩)
  · exact q1.elim
end
end Sh

/-! Sh5: items, cuts, in, built-in calls, fields, own calls. -/
namespace Sh
open PySem PySem.Spec PyProof.Rows L2

section
variable {G : Gx} {X : Cx} {W : WX} {a b c e o : Expr} {fa fb fc : ME} {p pos pos' apos : Pos} {es rest : List Expr} {fs : IE → M (List IV)}

/-! ### items -/
@[simp] def gIx (x i : IV) : M IV := fun h => match x, i with
  | .tup xs, .int k => match atI xs k with
    | some v => .ok v h
    | none => .bad
  | .str xs, .int k => if xs.length ≤ big then (match atI xs k with
    | some v => .ok (.str [v]) h
    | none => .bad) else .bad
  | .ref n, .int k => match h[n]? with
    | some (.lst xs) => match atI xs k with
      | some v => .ok v h
      | none => .bad
    | _ => .bad
  | _, _ => .bad
theorem RVs.at {K : PySem.W.Frag} {ι : List Addr} {H : Hp} {xs : List IV} {vs : List V} (r : RVs K ι H xs vs) {k : Int} {x : IV} (e : atI xs k = some x) : ∃ v, atI vs k = some v ∧ RV K ι H x v := by
  unfold atI at e ⊢
  rw [← r.len]
  cases z : ixN xs.length k with
  | none => rw [z] at e; cases e
  | some j =>
    rw [z] at e
    exact r.get e
theorem mean_ix : Mean2 G (rIx G.K) gIx := by
  intro x y v w ι h H Q Wh rx ry r p
  cases x <;> cases y <;> try exact p.elim
  · rename_i xs k
    rw [str_iff] at rx
    rw [int_iff] at ry
    simp only [gIx] at p
    split at p
    · rename_i hz
      split at p
      · rename_i c z
        refine .inr (.inr ⟨sS xs, k, c, rx, ry, by rw [sS_len]; exact big_le hz, by rw [sS_cps]; exact z, p ι H _ (Aft.refl r) (str_iff.mpr rfl)⟩)
      · exact p.elim
    · exact p.elim
  · rename_i xs k
    rw [tup_iff] at rx
    rw [int_iff] at ry
    obtain ⟨q, vs, rfl, hq, rs⟩ := rx
    simp only [gIx] at p
    split at p
    · rename_i x z
      obtain ⟨v, e1, r1⟩ := rs.at z
      exact .inr (.inl ⟨q, vs, k, v, rfl, ry, hq, e1, p ι H _ (Aft.refl r) r1⟩)
    · exact p.elim
  · rename_i n k
    rw [ref_iff] at rx
    rw [int_iff] at ry
    obtain ⟨q, iq, rfl⟩ := rx
    simp only [gIx] at p
    split at p
    · rename_i xs z0
      split at p
      · rename_i x z
        obtain ⟨vs, hq, rs⟩ := r.at z0 iq
        obtain ⟨v, e1, r1⟩ := rs.at z
        exact .inl ⟨q, vs, k, v, rfl, ry, SqL.of hq, e1, p ι H _ (Aft.refl r) r1⟩
      · exact p.elim
    · exact p.elim
theorem se_ix (hK : X.K = G.K) (ha : SE G X W a fa) (hb : SE G X W b fb) (hs : PlainIx b := by exact fun _ _ => rfl) : SE G X W (.Subscript a b pos) (m2 gIx fa fb) := pe_weak (pe_ix (hK ▸ ix_seq) ha hb hs) (tOp_mean mean_ix)

/-! ### cuts -/
def cutI {α : Type} (xs : List α) (lo hi : Option Int) : List α := (xs.drop (HT.sIx xs.length 0 lo)).take (HT.sIx xs.length xs.length hi - HT.sIx xs.length 0 lo)
theorem RVs.drop {K : PySem.W.Frag} {ι : List Addr} {H : Hp} : ∀ {xs : List IV} {vs : List V} (n : Nat), RVs K ι H xs vs → RVs K ι H (xs.drop n) (vs.drop n)
  | _, _, 0, r => r
  | [], _, _ + 1, r => by unfold RVs at r; subst r; exact RVs.nil
  | _ :: _, _, n + 1, r => by
    unfold RVs at r
    obtain ⟨v, w, rfl, _, rs⟩ := r
    exact RVs.drop n rs
theorem RVs.take {K : PySem.W.Frag} {ι : List Addr} {H : Hp} : ∀ {xs : List IV} {vs : List V} (n : Nat), RVs K ι H xs vs → RVs K ι H (xs.take n) (vs.take n)
  | _, _, 0, r => RVs.nil
  | [], _, _ + 1, r => by unfold RVs at r; subst r; exact RVs.nil
  | _ :: _, _, n + 1, r => by
    unfold RVs at r
    obtain ⟨v, w, rfl, rv, rs⟩ := r
    exact RVs.cons rv (RVs.take n rs)
theorem RVs.cut {K : PySem.W.Frag} {ι : List Addr} {H : Hp} {xs : List IV} {vs : List V} (r : RVs K ι H xs vs) (lo hi : Option Int) : RVs K ι H (cutI xs lo hi) (cutV vs lo hi) := by
  unfold cutI cutV
  rw [← r.len]
  exact (r.drop _).take _
@[simp] def gSl (x : IV) (lo hi : Option Int) : M IV := fun h => match x with
  | .str xs => if xs.length ≤ big then .ok (.str (cutI xs lo hi)) h else .bad
  | .tup xs => .ok (.tup (cutI xs lo hi)) h
  | .fz xs => .ok (.ref h.length) (h ++ [.lst (cutI xs lo hi)])
  | .ref n => match h[n]? with
    | some (.lst xs) => .ok (.ref h.length) (h ++ [.lst (cutI xs lo hi)])
    | _ => .bad
  | _ => .bad
/-- a bound of a cut -/
@[simp] def mPart (f : ME) : IE → M (Option Int) := fun e h => (f e h).bind fun x h1 => match x with
  | .int i => .ok (some i) h1
  | _ => .bad
@[simp] def mNoPart : IE → M (Option Int) := fun _ h => .ok none h
def TO' (G : Gx) (W : WX) (f : IE → M (Option Int)) : TO := fun σ H Q => ∃ ι e h, REn G.K ι H e σ ∧ RH G ι h H ∧ match f e h with
  | .ok o h' => ∀ ι' H', Aft G ι H ι' h' H' → Q o H'
  | .exc c h' => ∀ ι' H', Aft G ι H ι' h' H' → W (.ref (He.ga G.K (Str.ofString c))) none σ H'
  | .bad => False
def SO (G : Gx) (X : Cx) (W : WX) (e : Option Expr) (f : IE → M (Option Int)) : Prop := PO X e (TO' G W f)
theorem po_weak {e : Option Expr} {t u : TO} (p : PO X e t) (h : ∀ σ H Q, u σ H Q → t σ H Q) : PO X e u := ⟨fun pins s σ H Q I q => p.run pins s σ H Q I (h σ H Q q)⟩
theorem so_none : SO G X W none mNoPart := po_weak po_none fun σ H Q ⟨ι, e, h, en, rh, q⟩ => q ι H (Aft.refl rh)
theorem so_some (ha : SE G X W a fa) : SO G X W (some a) (mPart fa) := po_weak (po_some ha) fun σ H Q ⟨ι, e, h, en, rh, q⟩ => by
  refine ⟨ι, e, h, en, rh, ?_⟩
  simp only [mPart] at q
  cases z : fa e h with
  | ok x h' =>
    rw [z] at q
    cases x <;> try exact q.elim
    exact fun ι' H' v a r => ⟨_, int_iff.mp r, q ι' H' a⟩
  | exc c h' => rw [z] at q; exact q
  | bad => rw [z] at q; exact q
@[simp] def mSl (fa : ME) (fl fh : IE → M (Option Int)) : ME := fun e h => (fa e h).bind fun x h1 => (fl e h1).bind fun l h2 => (fh e h2).bind fun u h3 => gSl x l u h3
theorem TO'.bind {α : Type} {f : IE → M (Option Int)} {σ : L2.St} {H : Hp} {R : Option Int → Hp → Prop} {ι : List Addr} {e : IE} {h : IH} {k : Option Int → M IV} {Q : VK} (en : REn G.K ι H e σ) (rh : RH G ι h H)
    (p : PR G (fun c d H' => W c d σ H') ι H Q (Res.bind (f e h) k))
    (hk : ∀ o ι1 h1 H1, Aft G ι H ι1 h1 H1 → REn G.K ι1 H1 e σ → PR G (fun c d H' => W c d σ H') ι1 H1 Q (k o h1) → R o H1) : TO' G W f σ H R := by
  refine ⟨ι, e, h, en, rh, ?_⟩
  cases q : f e h with
  | ok x h1 =>
    rw [q] at p
    exact fun ι1 H1 a => hk x ι1 h1 H1 a (en.mono a.pre a.tl) (PR.after a p)
  | exc c h1 => rw [q] at p; exact p
  | bad => rw [q] at p; exact p
def rSlU (K : PySem.W.Frag) : V → Option Int → Option Int → Hp → VK → Prop := fun x lo hi H Q => rSlL K x lo hi H Q ∨ rSlA K x lo hi H Q ∨ rSlS x lo hi H Q
theorem sl_U : SlR X (rSlU X.K) := sl_list.or (sl_tupA.or sl_str)
theorem mean_sl {x : IV} {v : V} {lo hi : Option Int} {ι : List Addr} {h : IH} {H : Hp} {Q : VK} {Wh : Value → Option Addr → Hp → Prop} (rx : RV G.K ι H x v) (r : RH G ι h H) (p : PR G Wh ι H Q (gSl x lo hi h)) : rSlU G.K v lo hi H Q := by
  cases x <;> try exact p.elim
  · rename_i xs
    rw [str_iff] at rx
    simp only [gSl] at p
    split at p
    · rename_i hz
      refine .inr (.inr ⟨sS xs, rx, by rw [sS_len]; exact big_le hz, p ι H _ (Aft.refl r) (str_iff.mpr ?_)⟩)
      unfold cutS cutI sS
      have e : (Str.mk xs.toArray).length = xs.length := sS_len xs
      rw [e]
    · exact p.elim
  · rename_i xs
    rw [tup_iff] at rx
    obtain ⟨q, vs, rfl, hq, rs⟩ := rx
    refine .inr (.inl ⟨q, vs, rfl, hq, fun z => ?_, fun z q' hq' => ?_⟩)
    · refine p ι H _ (Aft.refl r) (tup_iff.mpr ⟨q, vs, rfl, hq, ?_⟩)
      have e : cutI xs lo hi = xs := by
        unfold cutI
        rw [rs.len, z.1, z.2, List.drop_zero, Nat.sub_zero, ← rs.len, List.take_length]
      rw [e]
      exact rs
    · have af := Aft.fresh r hq' (.tup (cutV vs lo hi))
      exact p ι _ _ af (tup_iff.mpr ⟨q', _, rfl, SqT.of upd_same, (rs.mono af.pre af.tl).cut lo hi⟩)
  · rename_i xs
    rw [fz_iff] at rx
    obtain ⟨q, vs, rfl, hq, rs⟩ := rx
    exact .inl ⟨q, vs, rfl, hq.sq, fun q' hq' => p _ _ _ (new_lst r hq' (rs.cut lo hi)) (ref_iff.mpr ⟨q', ref_len r, rfl⟩)⟩
  · rename_i n
    rw [ref_iff] at rx
    obtain ⟨q, iq, rfl⟩ := rx
    simp only [gSl] at p
    split at p
    · rename_i xs z0
      obtain ⟨vs, hq, rs⟩ := r.at z0 iq
      exact .inl ⟨q, vs, rfl, SqL.of hq, fun q' hq' => p _ _ _ (new_lst r hq' (rs.cut lo hi)) (ref_iff.mpr ⟨q', ref_len r, rfl⟩)⟩
    · exact p.elim
theorem se_slice (hK : X.K = G.K) {lo hi : Option Expr} {p2 : Pos} {fl fh : IE → M (Option Int)} (ha : SE G X W a fa) (hl : SO G X W lo fl) (hh : SO G X W hi fh) : SE G X W (.Subscript a (.Slice lo hi none p2) pos) (mSl fa fl fh) := by
  refine pe_weak (pe_slice (hK ▸ sl_U) ha hl hh) fun σ H Q hq => ?_
  obtain ⟨ι, e, h, en, rh, q⟩ := hq
  refine TI.bind (Wh := fun c d H' => W c d σ H') en rh q fun x v ι1 h1 H1 a1 en1 r1 q1 => ?_
  refine TO'.bind (α := Nat) en1 a1.rh q1 fun l ι2 h2 H2 a2 en2 q2 => ?_
  refine TO'.bind (α := Nat) en2 a2.rh q2 fun u ι3 h3 H3 a3 en3 q3 => ?_
  exact mean_sl (r1.mono (a2.pre.trans a3.pre) (a2.tl.trans a3.tl)) a3.rh q3

/-! ### in, of flat values -/
@[simp] def flatI : IV → Bool
  | .non => true | .bl _ => true | .int _ => true | .str _ => true
  | _ => false
@[simp] def eqI : IV → IV → Bool
  | .non, .non => true
  | .bl a, .bl b => a == b
  | .bl a, .int b => (if a then 1 else 0) == b
  | .int a, .bl b => a == (if b then 1 else 0)
  | .int a, .int b => a == b
  | .str a, .str b => a == b
  | _, _ => false
def inI (x : IV) (xs : List IV) : Bool := xs.any fun y => eqI y x
theorem flat_ok {K : PySem.W.Frag} {ι : List Addr} {H : Hp} {x : IV} {v : V} (r : RV K ι H x v) (f : flatI x = true) : flatV v = true := by
  cases x <;> simp only [flatI, reduceCtorEq] at f
  · rw [non_iff] at r; subst r; rfl
  · rw [bl_iff] at r; subst r; rfl
  · rw [int_iff] at r; subst r; rfl
  · rw [str_iff] at r; subst r; rfl
theorem eqI_ok {K : PySem.W.Frag} {ι : List Addr} {H : Hp} {x y : IV} {v w : V} (r : RV K ι H x v) (q : RV K ι H y w) (f : flatI x = true) (g : flatI y = true) : eqV v w = eqI x y := by
  cases x <;> cases y <;> simp only [flatI, reduceCtorEq] at f g <;> simp only [non_iff, bl_iff, int_iff, str_iff] at r q <;> subst r q <;> first | rfl | skip
  rename_i a b
  show (sS a == sS b) = (a == b)
  by_cases e : a = b
  · subst e; simp
  · have e2 : ¬ sS a = sS b := fun z => e (sS_inj z)
    rw [beq_eq_false_iff_ne.mpr e, beq_eq_false_iff_ne.mpr e2]
theorem flats_ok {K : PySem.W.Frag} {ι : List Addr} {H : Hp} : ∀ {xs : List IV} {vs : List V}, RVs K ι H xs vs → xs.all flatI = true → vs.all flatV = true
  | [], _, r, _ => by unfold RVs at r; subst r; rfl
  | x :: xs, _, r, f => by
    unfold RVs at r
    obtain ⟨v, w, rfl, rv, rs⟩ := r
    rw [List.all_cons, Bool.and_eq_true] at f ⊢
    exact ⟨flat_ok rv f.1, flats_ok rs f.2⟩
theorem inI_ok {K : PySem.W.Frag} {ι : List Addr} {H : Hp} {x : IV} {v : V} (r : RV K ι H x v) (f : flatI x = true) : ∀ {xs : List IV} {vs : List V}, RVs K ι H xs vs → xs.all flatI = true → inV v vs = inI x xs
  | [], _, q, _ => by unfold RVs at q; subst q; rfl
  | y :: xs, _, q, g => by
    unfold RVs at q
    obtain ⟨w, ws, rfl, rv, rs⟩ := q
    rw [List.all_cons, Bool.and_eq_true] at g
    show (eqV w v || ws.any fun y => eqV y v) = (eqI y x || xs.any fun y => eqI y x)
    rw [eqI_ok rv r g.1 f]
    have := inI_ok r f rs g.2
    unfold inV inI at this
    rw [this]
@[simp] def gIn (neg : Bool) (x y : IV) : M IV := fun h => match y with
  | .tup xs => if flatI x && xs.all flatI then .ok (.bl (if neg then !inI x xs else inI x xs)) h else .bad
  | .ref n => match h[n]? with
    | some (.lst xs) => if flatI x && xs.all flatI then .ok (.bl (if neg then !inI x xs else inI x xs)) h else .bad
    | _ => .bad
  | _ => .bad
theorem mean_in {neg : Bool} : Mean2 G (rIn G.K neg) (gIn neg) := by
  intro x y v w ι h H Q Wh rx ry r p
  cases y <;> try exact p.elim
  · rename_i xs
    rw [tup_iff] at ry
    obtain ⟨q, vs, rfl, hq, rs⟩ := ry
    simp only [gIn] at p
    split at p
    · rename_i hz
      obtain ⟨z1, z2⟩ := Bool.and_eq_true_iff.mp hz
      refine ⟨q, vs, rfl, .inr hq, flat_ok rx z1, flats_ok rs z2, ?_⟩
      rw [inI_ok rx z1 rs z2]
      exact p ι H _ (Aft.refl r) (bl_iff.mpr rfl)
    · exact p.elim
  · rename_i n
    rw [ref_iff] at ry
    obtain ⟨q, iq, rfl⟩ := ry
    simp only [gIn] at p
    split at p
    · rename_i xs z0
      obtain ⟨vs, hq, rs⟩ := r.at z0 iq
      split at p
      · rename_i hz
        obtain ⟨z1, z2⟩ := Bool.and_eq_true_iff.mp hz
        refine ⟨q, vs, rfl, .inl (SqL.of hq), flat_ok rx z1, flats_ok rs z2, ?_⟩
        rw [inI_ok rx z1 rs z2]
        exact p ι H _ (Aft.refl r) (bl_iff.mpr rfl)
      · exact p.elim
    · exact p.elim
theorem se_in (hK : X.K = G.K) (ha : SE G X W a fa) (hb : SE G X W b fb) (hk : behindInMarks .In b = false := by rfl) : SE G X W (.Compare a [.In] [b] pos) (m2 (gIn false) fa fb) := se_cmp op_in_seq (hK ▸ mean_in) ha hb hk
theorem se_notIn (hK : X.K = G.K) (ha : SE G X W a fa) (hb : SE G X W b fb) (hk : behindInMarks .NotIn b = false := by rfl) : SE G X W (.Compare a [.NotIn] [b] pos) (m2 (gIn true) fa fb) := se_cmp op_notIn_seq (hK ▸ mean_in) ha hb hk

/-! ### built-in calls, by values -/
def MeanC (G : Gx) (r : List V → Hp → VK → Prop) (g : Fn) : Prop := ∀ (xs : List IV) (vs : List V) (ι : List Addr) (h : IH) (H : Hp) (Q : VK) (Wh : Value → Option Addr → Hp → Prop), RVs G.K ι H xs vs → RH G ι h H → PR G Wh ι H Q (g xs h) → r vs H Q
@[simp] def mCall (g : Fn) (fs : IE → M (List IV)) : ME := fun e h => (fs e h).bind fun xs h1 => g xs h1
theorem tCB_mean {r : List V → Hp → VK → Prop} {g : Fn} (hm : MeanC G r g) : ∀ σ H Q, TI G W (mCall g fs) σ H Q → tCB r (TIs G W fs) σ H Q := by
  intro σ H Q hq
  obtain ⟨ι, e, h, en, rh, q⟩ := hq
  exact TIs.bind en rh q fun xs vs ι1 h1 H1 a1 en1 r1 q1 => hm xs vs ι1 h1 H1 Q _ r1 a1.rh q1
theorem se_callB {id : String} {x : Str} {r : List V → Hp → VK → Prop} {g : Fn} (hc : CallR X (.builtin id) r) (hm : MeanC G r g) (hg : Gl X x) (hn : X.mg x = none) (hv : bootBuiltins x = some (.builtin id)) (ha : SA G X W (e :: es) fs) (hd : x ≠ "__name__" := by decide) (hdb : (x == ("__debug__" : Str)) = false := by decide)
    (he : starEach (e :: es) X.env = (false, eval e X.env) :: starEach es X.env := by rfl) (hpl : (backTo pos (starEach es X.env)).any (·.1) = false := by rfl) : SE G X W (.Call (.Name x p) (e :: es) [] pos) (mCall g fs) :=
  pe_weak (pe_callB hc hg hn hv ha hd hdb he hpl) (tCB_mean hm)
theorem se_callTy {T : String} {x : Str} {r : List V → Hp → VK → Prop} {g : Fn} (hc : CallR X (.type T) r) (hm : MeanC G r g) (hg : Gl X x) (hn : X.mg x = none) (hv : bootBuiltins x = some (.type T)) (ha : SA G X W (e :: es) fs) (hd : x ≠ "__name__" := by decide) (hdb : (x == ("__debug__" : Str)) = false := by decide)
    (he : starEach (e :: es) X.env = (false, eval e X.env) :: starEach es X.env := by rfl) (hpl : (backTo pos (starEach es X.env)).any (·.1) = false := by rfl) : SE G X W (.Call (.Name x p) (e :: es) [] pos) (mCall g fs) :=
  pe_weak (pe_callTy hc hg hn hv ha hd hdb he hpl) (tCB_mean hm)
/-- one value -/
theorem RVs.un1 {K : PySem.W.Frag} {ι : List Addr} {H : Hp} {x : IV} {vs : List V} (r : RVs K ι H [x] vs) : ∃ v, vs = [v] ∧ RV K ι H x v := by
  unfold RVs at r
  obtain ⟨v, w, rfl, rv, rs⟩ := r
  unfold RVs at rs
  subst rs
  exact ⟨v, rfl, rv⟩
theorem RVs.un2 {K : PySem.W.Frag} {ι : List Addr} {H : Hp} {x y : IV} {vs : List V} (r : RVs K ι H [x, y] vs) : ∃ v w, vs = [v, w] ∧ RV K ι H x v ∧ RV K ι H y w := by
  unfold RVs at r
  obtain ⟨v, w, rfl, rv, rs⟩ := r
  obtain ⟨u, rfl, ru⟩ := rs.un1
  exact ⟨v, u, rfl, rv, ru⟩
@[simp] def gLen : Fn := fun xs h => match xs with
  | [.str x] => if x.length ≤ big then .ok (.int x.length) h else .bad
  | [.tup x] => .ok (.int x.length) h
  | [.ref n] => match h[n]? with
    | some (.lst x) => .ok (.int x.length) h
    | _ => .bad
  | _ => .bad
theorem mean_len : MeanC G (fun xs H Q => ∃ x n, xs = [x] ∧ LenV G.K x H n ∧ Q (.int n) H) gLen := by
  intro xs vs ι h H Q Wh rx r p
  match xs, rx, p with
  | [.str x], rx, p =>
    obtain ⟨v, rfl, rv⟩ := rx.un1
    rw [str_iff] at rv
    subst rv
    simp only [gLen] at p
    split at p
    · rename_i hz
      exact ⟨_, x.length, rfl, ⟨by rw [sS_len]; exact big_le hz, (sS_len x).symm⟩, p ι H _ (Aft.refl r) (int_iff.mpr rfl)⟩
    · exact p.elim
  | [.tup x], rx, p =>
    obtain ⟨v, rfl, rv⟩ := rx.un1
    rw [tup_iff] at rv
    obtain ⟨q, ws, rfl, hq, rs⟩ := rv
    exact ⟨_, x.length, rfl, .inr ⟨ws, hq, rs.len⟩, p ι H _ (Aft.refl r) (int_iff.mpr rfl)⟩
  | [.ref n], rx, p =>
    obtain ⟨v, rfl, rv⟩ := rx.un1
    rw [ref_iff] at rv
    obtain ⟨q, iq, rfl⟩ := rv
    simp only [gLen] at p
    split at p
    · rename_i x z0
      obtain ⟨ws, hq, rs⟩ := r.at z0 iq
      exact ⟨_, x.length, rfl, .inl ⟨ws, SqL.of hq, rs.len⟩, p ι H _ (Aft.refl r) (int_iff.mpr rfl)⟩
    · exact p.elim
  | [], _, p | [.non], _, p | [.bl _], _, p | [.int _], _, p | [.fz _], _, p => exact p.elim
  | _ :: _ :: _, _, p => 
    simp only [gLen] at p
    exact p.elim
@[simp] def gAbs : Fn := fun xs h => match xs with
  | [.int i] => .ok (.int (if i < 0 then -i else i)) h
  | _ => .bad
theorem mean_abs : MeanC G (fun xs H Q => ∃ i, xs = [.int i] ∧ Q (.int (if i < 0 then -i else i)) H) gAbs := by
  intro xs vs ι h H Q Wh rx r p
  simp only [gAbs] at p
  split at p
  · obtain ⟨v, rfl, rv⟩ := rx.un1
    rw [int_iff] at rv
    subst rv
    exact ⟨_, rfl, p ι H _ (Aft.refl r) (int_iff.mpr rfl)⟩
  · exact p.elim
@[simp] def gInt : Fn := fun xs h => match xs with
  | [.int i] => .ok (.int i) h
  | [.bl k] => .ok (.int (if k then 1 else 0)) h
  | _ => .bad
theorem mean_int : MeanC G (fun xs H Q => (∃ i, xs = [.int i] ∧ Q (.int i) H) ∨ ∃ k, xs = [.bl k] ∧ Q (.int (if k then 1 else 0)) H) gInt := by
  intro xs vs ι h H Q Wh rx r p
  simp only [gInt] at p
  split at p
  · obtain ⟨v, rfl, rv⟩ := rx.un1
    rw [int_iff] at rv
    subst rv
    exact .inl ⟨_, rfl, p ι H _ (Aft.refl r) (int_iff.mpr rfl)⟩
  · obtain ⟨v, rfl, rv⟩ := rx.un1
    rw [bl_iff] at rv
    subst rv
    exact .inr ⟨_, rfl, p ι H _ (Aft.refl r) (int_iff.mpr rfl)⟩
  · exact p.elim
@[simp] def gMin2 : Fn := fun xs h => match xs with
  | [.int i, .int j] => .ok (.int (if j < i then j else i)) h
  | _ => .bad
@[simp] def gMax2 : Fn := fun xs h => match xs with
  | [.int i, .int j] => .ok (.int (if j > i then j else i)) h
  | _ => .bad
theorem mean_min2 : MeanC G (fun xs H Q => ∃ i j, xs = [.int i, .int j] ∧ Q (.int (if j < i then j else i)) H) gMin2 := by
  intro xs vs ι h H Q Wh rx r p
  simp only [gMin2] at p
  split at p
  · obtain ⟨v, w, rfl, rv, rw'⟩ := rx.un2
    rw [int_iff] at rv rw'
    subst rv rw'
    exact ⟨_, _, rfl, p ι H _ (Aft.refl r) (int_iff.mpr rfl)⟩
  · exact p.elim
theorem mean_max2 : MeanC G (fun xs H Q => ∃ i j, xs = [.int i, .int j] ∧ Q (.int (if j > i then j else i)) H) gMax2 := by
  intro xs vs ι h H Q Wh rx r p
  simp only [gMax2] at p
  split at p
  · obtain ⟨v, w, rfl, rv, rw'⟩ := rx.un2
    rw [int_iff] at rv rw'
    subst rv rw'
    exact ⟨_, _, rfl, p ι H _ (Aft.refl r) (int_iff.mpr rfl)⟩
  · exact p.elim
@[simp] def gList : Fn := fun xs h => match xs with
  | [.tup x] => .ok (.ref h.length) (h ++ [.lst x])
  | [.ref n] => match h[n]? with
    | some (.lst x) => .ok (.ref h.length) (h ++ [.lst x])
    | _ => .bad
  | _ => .bad
@[simp] def gTuple : Fn := fun xs h => match xs with
  | [.tup x] => .ok (.tup x) h
  | [.ref n] => match h[n]? with
    | some (.lst x) => .ok (.tup x) h
    | _ => .bad
  | _ => .bad
theorem mean_list : MeanC G (fun xs H Q => ∃ p ys, xs = [.ref p] ∧ (SqL G.K H p ys ∨ SqT G.K H p ys) ∧ ∀ l, H l = none → Q (.ref l) (upd H l (.lst ys))) gList := by
  intro xs vs ι h H Q Wh rx r p
  simp only [gList] at p
  split at p
  · obtain ⟨v, rfl, rv⟩ := rx.un1
    rw [tup_iff] at rv
    obtain ⟨q, ws, rfl, hq, rs⟩ := rv
    exact ⟨q, ws, rfl, .inr hq, fun l hl => p _ _ _ (new_lst r hl rs) (ref_iff.mpr ⟨l, ref_len r, rfl⟩)⟩
  · obtain ⟨v, rfl, rv⟩ := rx.un1
    rw [ref_iff] at rv
    obtain ⟨q, iq, rfl⟩ := rv
    split at p
    · rename_i x z0
      obtain ⟨ws, hq, rs⟩ := r.at z0 iq
      exact ⟨q, ws, rfl, .inl (SqL.of hq), fun l hl => p _ _ _ (new_lst r hl rs) (ref_iff.mpr ⟨l, ref_len r, rfl⟩)⟩
    · exact p.elim
  · exact p.elim
theorem mean_tuple : MeanC G (fun xs H Q => ∃ p ys, xs = [.ref p] ∧ ((SqL G.K H p ys ∧ ∀ l, H l = none → Q (.ref l) (upd H l (.tup ys))) ∨ (SqT G.K H p ys ∧ Q (.ref p) H))) gTuple := by
  intro xs vs ι h H Q Wh rx r p
  simp only [gTuple] at p
  split at p
  · obtain ⟨v, rfl, rv⟩ := rx.un1
    rw [tup_iff] at rv
    obtain ⟨q, ws, rfl, hq, rs⟩ := rv
    exact ⟨q, ws, rfl, .inr ⟨hq, p ι H _ (Aft.refl r) (tup_iff.mpr ⟨q, ws, rfl, hq, rs⟩)⟩⟩
  · obtain ⟨v, rfl, rv⟩ := rx.un1
    rw [ref_iff] at rv
    obtain ⟨q, iq, rfl⟩ := rv
    split at p
    · rename_i x z0
      obtain ⟨ws, hq, rs⟩ := r.at z0 iq
      refine ⟨q, ws, rfl, .inl ⟨SqL.of hq, fun l hl => ?_⟩⟩
      have af := Aft.fresh r hl (.tup ws)
      exact p ι _ _ af (tup_iff.mpr ⟨l, ws, rfl, SqT.of upd_same, rs.mono af.pre af.tl⟩)
    · exact p.elim
  · exact p.elim
end
end Sh

/-! Sh6: own calls, fields, statements. -/
namespace Sh
open PySem PySem.Spec PyProof.Rows L2

/-! ### own defs -/
/-- the promise that a meaning gives -/
def spI (G : Gx) (n : Nat) (m : Fn) : Sp := fun vs H Q E => vs.length = n ∧ ∃ ι h xs, RVs G.K ι H xs vs ∧ RH G ι h H ∧ PR G (fun c d H' => E c d H') ι H Q (m xs h)
/-- an exception in the air over X, the frame that runs being L -/
def XF (X : Cx) (W : WX) (L : Addr) (u : Value) (s' : Shared) : Prop :=
  ∃ (a : Addr) (B : Heap) (sI : Shared) (pins : List (Addr × Obj)) (σ : L2.St) (H : Hp) (cls : Value) (d : Option Addr),
    u = .ref a ∧ Inv X pins σ H sI ∧ (∀ b o, sI.heap.get? b = some o → b ∉ frs X.stack → B.get? b = some o) ∧ sI.heap.UpToSlots s'.heap ∧
      Sky B X.stack a (Zc cls d) L s'.heap ∧ H a = none ∧ s'.os = sI.os ∧ AllBare s'.gens ∧ W cls d σ H
/-- the frame that runs is L -/
def Top (X : Cx) (L : Addr) : Prop := (∃ e0 r, X.stack = e0 :: r ∧ e0.frame = some L) ∧ X.env.frame = some L
/-- what a call let out, seen from X -/
theorem XF.of_call {X : Cx} {W : WX} {L : Addr} {E : XK} {pins : List (Addr × Obj)} {σ : L2.St} {H : Hp} {s s' : Shared} {u : Value} (I : Inv X pins σ H s) (hW : ∀ cls d H', E cls d H' → W cls d σ H') (c : L2.CX X.prog X.w X.stack H s E u s') : XF X W L u s' := by
  obtain ⟨a, B, H2, cls, d, rfl, fly, okB, ub, na, eo, ag, w⟩ := c
  obtain ⟨T, t1, t2⟩ := restrict s'.heap fun b => decide (b ∈ frs X.stack) || (B.get? b).isSome
  have inB : ∀ b o, B.get? b = some o → T.get? b = some o := fun b o z => (t1 b (by rw [z]; simp)).trans (fly.1 b o z)
  have inF : ∀ b, b ∈ frs X.stack → T.get? b = s'.heap.get? b := fun b z => t1 b (by simp [z])
  have out : ∀ b o, T.get? b = some o → s'.heap.get? b = some o ∧ (b ∈ frs X.stack ∨ ∃ o', B.get? b = some o') := fun b o z => by
    cases y : (decide (b ∈ frs X.stack) || (B.get? b).isSome) with
    | false => rw [t2 b y] at z; cases z
    | true =>
      refine ⟨(t1 b y).symm.trans z, ?_⟩
      rcases Bool.or_eq_true_iff.mp y with y | y
      · exact .inl (of_decide_eq_true y)
      · exact .inr (Option.isSome_iff_exists.mp y)
  have J : Inv X pins σ H2 { s with heap := T, gens := s'.gens, drawn := s'.drawn, toks := s'.toks } :=
    I.call (ch := []) ⟨fun b o e n hb _ => inB b o (ub.keep b o e n hb), fun b o e n hb _ => (ub.slot b o e hb).imp fun sl z => (inF b hb).trans z, fun b o e n _ => ub.free b o e n, fun b o e _ =>
      (Decidable.em (b ∈ frs X.stack)).elim (fun hb => (ub.slot b o e hb).elim fun sl z => ⟨_, (inF b hb).trans z⟩) fun hb => (ub.there b o e hb).imp fun o' z => inB b o' z, ub.tups, ub.frzs, ub.tbls⟩ (okB.kept inB) ag (fun _ z => nomatch z)
  refine ⟨a, B, _, pins, σ, H2, cls, d, rfl, J, fun b o z hb => ?_, Heap.UpToSlots.of_keeps fun b o z => (out b o z).1, .inr (.inl fly), na, eo, ag, hW _ _ _ w⟩
  obtain ⟨z1, z2⟩ := out b o z
  rcases z2 with z2 | ⟨o', z2⟩
  · exact absurd z2 hb
  · have := fly.1 b o' z2
    rw [z1] at this
    cases this
    exact z2
/-- what a context can do: pass exceptions on, call k deep -/
structure Can (G : Gx) (X : Cx) (W : WX) (k : Nat) : Prop where
  tf : ∃ L, Top X L ∧ ∀ u s', XF X W L u s' → X.xe u s'
  room : Room k X.A
  calm : X.calm = true
  nd : X.N.Nodup
  hK : X.K = G.K
theorem Can.pass {G : Gx} {X : Cx} {W : WX} {k : Nat} (C : Can G X W k) (σ : L2.St) : PassesAt (L2.CX X.prog X.w) X σ (WE W σ) := fun pins H s e s' I c =>
  let ⟨_, _, t⟩ := C.tf; t e s' (XF.of_call I (fun _ _ _ h => h) c)
/-- a def that is known: its name (or a method's), its meaning, its level -/
structure Kn (G : Gx) (P : Program) (w : World) (mg : Str → Option Value) (base : Heap) (k : Nat) (f : Addr) (n : Nat) (m : Fn) : Prop where
  ex : ∃ fd ps, ps.length = n ∧ FnOk P w G.K mg base (L2.CX P w) k f fd ps (spI G n m) ∧ Binds G.K fd ps []
  kp : PySem.W.keepIn G.K (.ref f) = true

section
variable {G : Gx} {X : Cx} {W : WX} {a b c e o : Expr} {fa fb fc : ME} {p pos pos' apos : Pos} {es rest : List Expr} {fs : IE → M (List IV)} {k n : Nat} {f : Addr} {m : Fn} {x : Str}
theorem run_kn {pins : List (Addr × Obj)} {σ : L2.St} {H : Hp} {s : Shared} {Q : VK} {us : List Value} {vs : List V} (C : Can G X W k) (F : Kn G X.prog X.w X.mg X.base k f n m) (I : Inv X pins σ H s) (r : Vals vs us) (h : spI G n m vs H Q (WE W σ)) :
    wpAny (model X.prog X.w) X.A (call (.ref f) us) (EP X pins σ Q) X.xe s := by
  obtain ⟨fd, ps, hn, F, hb⟩ := F.ex
  rw [← C.hK] at F hb
  exact run_fnS (E := WE W) F C.room hb (C.pass σ) I r h
theorem sp_of {σ : L2.St} {H : Hp} {Q : VK} {ι : List Addr} {h : IH} {xs : List IV} {vs : List V} (hn : xs.length = n) (r : RVs G.K ι H xs vs) (rh : RH G ι h H) (p : PR G (fun c d H' => W c d σ H') ι H Q (m xs h)) : spI G n m vs H Q (WE W σ) :=
  ⟨by rw [← r.len]; exact hn, ι, h, xs, r, rh, p⟩
def mOwn (n : Nat) (m : Fn) (fs : IE → M (List IV)) : ME := fun e h => (fs e h).bind fun xs h1 => if xs.length = n then m xs h1 else .bad
theorem TI.own {σ : L2.St} {H : Hp} {Q : VK} (hq : TI G W (mOwn n m fs) σ H Q) : TIs G W fs σ H fun vs H1 => spI G n m vs H1 Q (WE W σ) := by
  obtain ⟨ι, e, h, en, rh, q⟩ := hq
  refine TIs.bind en rh q fun xs vs ι1 h1 H1 a1 en1 r1 q1 => ?_
  split at q1
  · rename_i hn
    exact sp_of hn r1 a1.rh q1
  · exact q1.elim
theorem se_call (C : Can G X W k) (F : Kn G X.prog X.w X.mg X.base k f n m) (hg : Gl X x) (hm : X.mg x = some (.ref f)) (ha : SA G X W (e :: es) fs) (hdb : (x == ("__debug__" : Str)) = false := by decide)
    (he : starEach (e :: es) X.env = (false, eval e X.env) :: starEach es X.env := by rfl) (hpl : (backTo pos (starEach es X.env)).any (·.1) = false := by rfl) : SE G X W (.Call (.Name x p) (e :: es) [] pos) (mOwn n m fs) := by
  refine ⟨fun pins s σ H Q I hq => ?_⟩
  refine wpAny_Call_Name_kw (ld_glob I hg hm ?_ hdb)
  refine PySem.W.callWith_K (h₀ := X.base) I.ok.mod.kin (C.hK ▸ F.kp) (thn (ha.run pos pins s σ H _ I hq.own) fun us s1 ⟨vs, H1, I1, r, q⟩ => ⟨I1.kIn, ?_⟩) he hpl
  exact run_kn C F I1 r q
theorem TI.own0 {σ : L2.St} {H : Hp} {Q : VK} (hq : TI G W (mOwn n m mNil) σ H Q) : spI G n m [] H Q (WE W σ) := by
  obtain ⟨ι, e, h, en, rh, q⟩ := hq
  simp only [mOwn, mNil, Res.bind] at q
  split at q
  · rename_i hn
    exact sp_of hn RVs.nil rh q
  · exact q.elim
theorem se_call0 (C : Can G X W k) (F : Kn G X.prog X.w X.mg X.base k f n m) (hg : Gl X x) (hm : X.mg x = some (.ref f)) (hdb : (x == ("__debug__" : Str)) = false := by decide) : SE G X W (.Call (.Name x p) [] [] pos) (mOwn n m mNil) := by
  refine ⟨fun pins s σ H Q I hq => ?_⟩
  refine wpAny_Call_Name_kw (ld_glob I hg hm ?_ hdb)
  exact PySem.W.callWith_K0 I.kIn (C.hK ▸ F.kp) (run_kn C F (us := []) I .nil hq.own0)

/-! ### classes -/
/-- what is known of a class -/
structure KC (G : Gx) (C : String) : Prop where
  cls : Cls G.K (He.ga G.K (Str.ofString C))
  nd : (G.lay C).Nodup
  few : (G.lay C).length < 1000
  na : ∀ f ∈ G.lay C, NoAttr G.K (He.ga G.K (Str.ofString C)) f
theorem RFs.look {K : PySem.W.Frag} {ι : List Addr} {H : Hp} : ∀ {ns : List Str} {fs : List IV} {ws : List (Str × V)} {j : Nat} {f : Str} {x : IV}, ns.Nodup → RFs K ι H ns fs ws → ns[j]? = some f → fs[j]? = some x → ∃ v, ws.lookup f = some v ∧ RV K ι H x v
  | [], [], _, _, _, _, _, _, e, _ => by simp at e
  | [], _ :: _, _, _, _, _, _, r, _, _ => by unfold RFs at r; exact r.elim
  | _ :: _, [], _, _, _, _, _, _, _, e => by simp at e
  | n :: ns, y :: fs, _, 0, f, x, nd, ⟨v, r, q, a, b⟩, e, e2 => by
    simp only [List.getElem?_cons_zero, Option.some.injEq] at e e2
    subst e e2 q
    exact ⟨v, by simp [List.lookup], a⟩
  | n :: ns, y :: fs, _, j + 1, f, x, nd, ⟨v, r, q, a, b⟩, e, e2 => by
    simp only [List.getElem?_cons_succ] at e e2
    subst q
    obtain ⟨w, h1, h2⟩ := RFs.look (List.nodup_cons.mp nd).2 b e e2
    have hne : f ≠ n := fun z => (List.nodup_cons.mp nd).1 (z ▸ List.mem_of_getElem? e)
    refine ⟨w, ?_, h2⟩
    have hb : (f == n) = false := beq_eq_false_iff_ne.mpr hne
    rw [List.lookup_cons, hb]
    exact h1
theorem RFs.none {K : PySem.W.Frag} {ι : List Addr} {H : Hp} {m : Str} : ∀ {ns : List Str} {fs : List IV} {ws : List (Str × V)}, RFs K ι H ns fs ws → m ∉ ns → ws.lookup m = none
  | _, [], _, r, _ => by unfold RFs at r; subst r; rfl
  | [], _ :: _, _, r, _ => by unfold RFs at r; exact r.elim
  | n :: ns, y :: fs, _, ⟨v, r, q, a, b⟩, hm => by
    subst q
    have hb : (m == n) = false := beq_eq_false_iff_ne.mpr fun z => hm (z ▸ List.mem_cons_self)
    rw [List.lookup_cons, hb]
    exact RFs.none b fun z => hm (List.mem_cons_of_mem _ z)
theorem RFs.len {K : PySem.W.Frag} {ι : List Addr} {H : Hp} : ∀ {ns : List Str} {fs : List IV} {ws : List (Str × V)}, RFs K ι H ns fs ws → ws.length = fs.length ∧ fs.length ≤ ns.length
  | _, [], _, r => by unfold RFs at r; subst r; exact ⟨rfl, Nat.zero_le _⟩
  | [], _ :: _, _, r => by unfold RFs at r; exact r.elim
  | n :: ns, y :: fs, _, ⟨v, r, q, a, b⟩ => by
    subst q
    obtain ⟨h1, h2⟩ := b.len
    exact ⟨by simp only [List.length_cons, h1], by simp only [List.length_cons]; omega⟩
/-- a field stored: its own place, or the next -/
def putI (j : Nat) (x : IV) (fs : List IV) : Option (List IV) := if j < fs.length then some (fs.set j x) else if j = fs.length then some (fs ++ [x]) else none
theorem RFs.put {K : PySem.W.Frag} {ι : List Addr} {H : Hp} {x : IV} {v : V} (rx : RV K ι H x v) : ∀ {ns : List Str} {fs fs' : List IV} {ws : List (Str × V)} {j : Nat} {f : Str}, ns.Nodup → RFs K ι H ns fs ws → ns[j]? = some f → putI j x fs = some fs' → RFs K ι H ns fs' (putF f v ws)
  | [], _, _, _, _, _, _, _, e, _ => by simp at e
  | n :: ns, [], fs', _, 0, f, nd, r, e, p => by
    unfold RFs at r
    subst r
    simp only [List.getElem?_cons_zero, Option.some.injEq] at e
    subst e
    unfold putI at p
    simp at p
    subst p
    exact ⟨v, [], rfl, rx, by unfold RFs; rfl⟩
  | n :: ns, [], fs', _, j + 1, f, nd, r, e, p => by
    unfold putI at p
    simp at p
  | n :: ns, y :: fs, fs', _, 0, f, nd, ⟨w, r, q, a, b⟩, e, p => by
    subst q
    simp only [List.getElem?_cons_zero, Option.some.injEq] at e
    subst e
    unfold putI at p
    simp at p
    subst p
    show RFs K ι H (n :: ns) (x :: fs) (if n = n then (n, v) :: r else _)
    rw [if_pos rfl]
    exact ⟨v, r, rfl, rx, b⟩
  | n :: ns, y :: fs, fs', _, j + 1, f, nd, ⟨w, r, q, a, b⟩, e, p => by
    subst q
    simp only [List.getElem?_cons_succ] at e
    have hne : ¬ n = f := fun z => (List.nodup_cons.mp nd).1 (z ▸ List.mem_of_getElem? e)
    show RFs K ι H (n :: ns) fs' (if n = f then (n, v) :: r else (n, w) :: putF f v r)
    rw [if_neg hne]
    have key : ∃ fs2, putI j x fs = some fs2 ∧ fs' = y :: fs2 := by
      unfold putI at p ⊢
      simp only [List.length_cons, Nat.add_lt_add_iff_right, Nat.add_right_cancel_iff, List.set_cons_succ] at p
      split at p
      · rename_i z
        rw [if_pos z]
        exact ⟨_, rfl, (Option.some.inj p).symm⟩
      · rename_i z
        rw [if_neg z]
        split at p
        · rename_i z2
          rw [if_pos z2]
          exact ⟨_, rfl, (Option.some.inj p).symm⟩
        · cases p
    obtain ⟨fs2, h1, h2⟩ := key
    subst h2
    exact ⟨w, _, rfl, a, RFs.put rx (List.nodup_cons.mp nd).2 b e h1⟩

/-- o.f, o of the class C, f its j-th attribute -/
def mFld (C : String) (j : Nat) (fa : ME) : ME := fun e h => (fa e h).bind fun x h1 => match x with
  | .ref n => match h1[n]? with
    | some (.ins D fs) => if D = C then (match fs[j]? with
      | some v => .ok v h1
      | none => .bad) else .bad
    | _ => .bad
  | _ => .bad
theorem se_fld {C : String} {j : Nat} {f : Str} (hK : X.K = G.K) (kc : KC G C) (hf : (G.lay C)[j]? = some f) (ho : SE G X W o fa) (hb : attributeBase o f X.env (eval o X.env) = eval o X.env := by rfl) : SE G X W (.Attribute o f pos) (mFld C j fa) := by
  refine pe_weak (pe_fld ho hb) fun σ H Q hq => ?_
  obtain ⟨ι, e, h, en, rh, q⟩ := hq
  refine TI.bind (Wh := fun c d H' => W c d σ H') en rh q fun x v ι1 h1 H1 a1 en1 r1 q1 => ?_
  cases x <;> try exact q1.elim
  rename_i n
  rw [ref_iff] at r1
  obtain ⟨a, ia, rfl⟩ := r1
  simp only at q1
  split at q1
  · rename_i D fs z0
    split at q1
    · rename_i hD
      subst hD
      split at q1
      · rename_i y z1
        obtain ⟨dx, ws, hq, rf⟩ := a1.rh.at z0 ia
        obtain ⟨v, hl, rv⟩ := rf.look kc.nd hf z1
        rw [hK]
        exact ⟨a, _, dx, ws, v, rfl, hq, kc.cls, kc.na f (List.mem_of_getElem? hf), hl, q1 _ _ _ (Aft.refl a1.rh) rv⟩
      · exact q1.elim
    · exact q1.elim
  · exact q1.elim
/-- o.m(..) -/
def mMeth (C : String) (n : Nat) (m : Fn) (fa : ME) (fs : IE → M (List IV)) : ME := fun e h => (fa e h).bind fun x h1 => match x with
  | .ref r => match h1[r]? with
    | some (.ins D _) => if D = C then (fs e h1).bind fun xs h2 => if (x :: xs).length = n then m (x :: xs) h2 else .bad else .bad
    | _ => .bad
  | _ => .bad
theorem se_meth {C : String} {mn : Str} {pl : Sem Bool} (Cn : Can G X W k) (kc : KC G C) (hme : Meth G.K (He.ga G.K (Str.ofString C)) mn f) (hno : mn ∉ G.lay C) (F : Kn G X.prog X.w X.mg X.base k f n m) (ho : SE G X W o fa) (ha : SA G X W (e :: es) fs)
    (hst : starEach (e :: es) X.env = (false, eval e X.env) :: starEach es X.env := by rfl) (hpl : (backTo pos (starEach es X.env)).any (·.1) = false := by rfl)
    (ht : eval (.Call (.Attribute o mn apos) (e :: es) [] pos) X.env = (do
      let ov ← eval o X.env
      standAt apos.atName
      let (f, first) ← holding [ov] (getMethod ov mn pl)
      callWith pos f first (backTo pos (starEach (e :: es) X.env)) (backToKw pos (keywordEach [] X.env))) := by rfl) :
    SE G X W (.Call (.Attribute o mn apos) (e :: es) [] pos) (mMeth C n m fa fs) := by
  refine ⟨fun pins s σ H Q I hq => ?_⟩
  obtain ⟨ι, e0, h, en, rh, q⟩ := hq
  have hT := TI.bind (Wh := fun c d H' => W c d σ H') (R := fun v H1 => ∃ (a : Addr) (dx : Addr) (ws : List (Str × V)), v = .ref a ∧ H1 a = some (.ins (He.ga G.K (Str.ofString C)) dx ws) ∧ ws.lookup mn = none ∧ TIs G W fs σ H1 fun vs H2 => spI G n m (v :: vs) H2 Q (WE W σ)) en rh q (fun x v ι1 h1 H1 a1 en1 r1 q1 => ?_)
  · refine PySem.W.methodCall_KW (pl := pl) (thn (ho.run pins s σ H _ I hT) fun u s1 ⟨x, H1, I1, rx, a, dx, fs, ex, ea, l, q⟩ => ?_) ht
    subst ex
    obtain rfl : u = Value.ref a := rx
    rw [← Cn.hK] at ea
    refine getmeth_ok I1 ea (by rw [Cn.hK]; exact kc.cls) (by rw [Cn.hK]; exact hme) l ?_
    refine PySem.W.callWith_K (first := [.ref a]) (h₀ := X.base) I.ok.mod.kin (Cn.hK ▸ F.kp) (thn (ha.run pos pins s1 σ H1 _ I1 q) fun us s2 ⟨vs, H2, I2, r, q2⟩ => ⟨I2.kIn, ?_⟩) hst hpl
    exact run_kn Cn F (us := .ref a :: us) (vs := .ref a :: vs) I2 (.cons rfl r) q2
  · cases x <;> try exact q1.elim
    rename_i r
    have r1' := r1
    rw [ref_iff] at r1
    obtain ⟨a, ia, rfl⟩ := r1
    simp only at q1
    split at q1
    · rename_i D fl z0
      split at q1
      · rename_i hD
        subst hD
        obtain ⟨dx, ws, hq, rf⟩ := a1.rh.at z0 ia
        refine ⟨a, dx, ws, rfl, hq, rf.none hno, ?_⟩
        refine TIs.bind en1 a1.rh q1 fun xs vs ι2 h2 H2 a2 en2 r2 q2 => ?_
        split at q2
        · rename_i hn
          exact sp_of hn (RVs.cons (r1'.mono a2.pre a2.tl) r2) a2.rh q2
        · exact q2.elim
      · exact q1.elim
    · exact q1.elim
theorem se_meth0 {C : String} {mn : Str} {pl : Sem Bool} (Cn : Can G X W k) (kc : KC G C) (hme : Meth G.K (He.ga G.K (Str.ofString C)) mn f) (hno : mn ∉ G.lay C) (F : Kn G X.prog X.w X.mg X.base k f n m) (ho : SE G X W o fa)
    (ht : eval (.Call (.Attribute o mn apos) [] [] pos) X.env = (do
      let ov ← eval o X.env
      standAt apos.atName
      let (f, first) ← holding [ov] (getMethod ov mn pl)
      callWith pos f first (backTo pos (starEach [] X.env)) (backToKw pos (keywordEach [] X.env))) := by rfl) :
    SE G X W (.Call (.Attribute o mn apos) [] [] pos) (mMeth C n m fa mNil) := by
  refine ⟨fun pins s σ H Q I hq => ?_⟩
  obtain ⟨ι, e0, h, en, rh, q⟩ := hq
  have hT := TI.bind (Wh := fun c d H' => W c d σ H') (R := fun v H1 => ∃ (a : Addr) (dx : Addr) (ws : List (Str × V)), v = .ref a ∧ H1 a = some (.ins (He.ga G.K (Str.ofString C)) dx ws) ∧ ws.lookup mn = none ∧ spI G n m [v] H1 Q (WE W σ)) en rh q (fun x v ι1 h1 H1 a1 en1 r1 q1 => ?_)
  · refine PySem.W.methodCall_KW (pl := pl) (thn (ho.run pins s σ H _ I hT) fun u s1 ⟨x, H1, I1, rx, a, dx, fs, ex, ea, l, q⟩ => ?_) ht
    subst ex
    obtain rfl : u = Value.ref a := rx
    rw [← Cn.hK] at ea
    refine getmeth_ok I1 ea (by rw [Cn.hK]; exact kc.cls) (by rw [Cn.hK]; exact hme) l ?_
    exact PySem.W.callWith_K0 (first := [.ref a]) I1.kIn (Cn.hK ▸ F.kp) (run_kn Cn F (us := [.ref a]) (vs := [.ref a]) I1 (.cons rfl .nil) q)
  · cases x <;> try exact q1.elim
    rename_i r
    have r1' := r1
    rw [ref_iff] at r1
    obtain ⟨a, ia, rfl⟩ := r1
    simp only at q1
    split at q1
    · rename_i D fl z0
      split at q1
      · rename_i hD
        subst hD
        obtain ⟨dx, ws, hq, rf⟩ := a1.rh.at z0 ia
        refine ⟨a, dx, ws, rfl, hq, rf.none hno, ?_⟩
        simp only [mNil, Res.bind] at q1
        split at q1
        · rename_i hn
          exact sp_of hn (RVs.one r1') a1.rh q1
        · exact q1.elim
      · exact q1.elim
    · exact q1.elim
/-- C(..) -/
def mMake (C : String) (n : Nat) (m : Fn) (fs : IE → M (List IV)) : ME := fun e h => (fs e h).bind fun xs h1 => if xs.length + 1 = n then (m (.ref h1.length :: xs) (h1 ++ [.ins C []])).bind fun v h2 => match v with
  | .non => .ok (.ref h1.length) h2
  | _ => .bad
  else .bad
theorem run_mk {C : String} {pins : List (Addr × Obj)} {σ : L2.St} {H : Hp} {s : Shared} {Q : VK} {us : List Value} {vs : List V} (Cn : Can G X W (k + 1)) (M : Mk G.K (He.ga G.K (Str.ofString C)) f) (F : Kn G X.prog X.w X.mg X.base k f n m) (I : Inv X pins σ H s) (r : Vals vs us) (hl0 : vs.length + 1 = n)
    (h : ∀ x dx, H x = none → H dx = none → dx ≠ x → spI G n m (.ref x :: vs) (upd (upd H dx (.own x)) x (.ins (He.ga G.K (Str.ofString C)) dx [])) (fun v H2 => v = .non ∧ Q (.ref x) H2) (WE W σ)) :
    wpAny (model X.prog X.w) X.A (call (.ref (He.ga G.K (Str.ofString C))) us) (EP X pins σ Q) X.xe s := by
  obtain ⟨fd, ps, hn, F, hb⟩ := F.ex
  rw [← Cn.hK] at F hb M h ⊢
  have hq := h (s.heap.objs.size + 1) s.heap.objs.size (I.hok.fresh (Nat.le_succ _)) (I.hok.fresh (Nat.le_refl _)) (Nat.ne_of_lt (Nat.lt_succ_self _))
  have I2 := Inv.made (C := He.ga X.K (Str.ofString C)) I
  have r2 : Vals (V.ref (s.heap.objs.size + 1) :: vs) (Value.ref (s.heap.objs.size + 1) :: us) := .cons rfl r
  have hl : (Value.ref (s.heap.objs.size + 1) :: us).length = ps.length := by
    rw [hn, ← hl0, List.length_cons, r.length]
  have b := hb _ (Value.ref (s.heap.objs.size + 1) :: us) I2.kIn (by rw [List.append_nil]; exact hl)
  rw [List.append_nil] at b
  refine wpAny_call (make_map (f := f) I.kIn M.makes M.init (beq_iff_eq.mp M.fn) (codeAny_mono (F.run _ X.stack _ _ ⟨Value.ref (s.heap.objs.size + 1) :: us, []⟩ (Value.ref (s.heap.objs.size + 1) :: us) _ _ (WE W σ) (Cn.room.make (He.ga X.K (Str.ofString C)) us [])
    (I2.env0.make (He.ga X.K (Str.ofString C)) us []) b r2 hq) fun r s' hq' => ?_))
  cases r with
  | error e => exact Cn.pass σ pins _ _ e s' I2 hq'
  | ok fl =>
    cases fl with
    | ret u =>
      obtain ⟨v, H', I3, rv, ev, q3⟩ := I2.after hq'
      subst ev
      exact ⟨rv, ⟨V.ref (s.heap.objs.size + 1), H', I3, rfl, q3⟩⟩
    | next => exact False.elim hq'
    | brk => exact False.elim hq'
    | cont => exact False.elim hq'
theorem new_ins {ι : List Addr} {h : IH} {H : Hp} {C : String} {q dx : Addr} (r : RH G ι h H) (hp : H q = none) (hd : H dx = none) (hne : dx ≠ q) :
    Aft G ι H (ι ++ [q]) (h ++ [.ins C []]) (upd (upd H dx (.own q)) q (.ins (He.ga G.K (Str.ofString C)) dx [])) := by
  have a1 := Aft.fresh r hd (.own q)
  have hp' : upd H dx (.own q) q = none := by rw [upd_ne (Ne.symm hne)]; exact hp
  exact a1.trans (Aft.place a1.rh hp' _ _ ⟨dx, [], upd_same, by unfold RFs; rfl⟩)
theorem make_sp {C : String} {σ : L2.St} {H : Hp} {Q : VK} {ι : List Addr} {h : IH} {xs : List IV} {vs : List V} (hn : xs.length + 1 = n) (r : RVs G.K ι H xs vs) (rh : RH G ι h H)
    (p : PR G (fun c d H' => W c d σ H') ι H Q ((m (.ref h.length :: xs) (h ++ [.ins C []])).bind fun v h2 => match v with
      | .non => .ok (.ref h.length) h2
      | _ => .bad)) : ∀ x dx, H x = none → H dx = none → dx ≠ x → spI G n m (.ref x :: vs) (upd (upd H dx (.own x)) x (.ins (He.ga G.K (Str.ofString C)) dx [])) (fun v H2 => v = .non ∧ Q (.ref x) H2) (WE W σ) := by
  intro q dx hp hd hne
  have af := new_ins (C := C) rh hp hd hne
  refine ⟨by rw [List.length_cons, ← r.len]; exact hn, _, _, _, RVs.cons (ref_iff.mpr ⟨q, ref_len rh, rfl⟩) (r.mono af.pre af.tl), af.rh, ?_⟩
  cases z : m (.ref h.length :: xs) (h ++ [.ins C []]) with
  | ok v h2 =>
    rw [z] at p
    cases v <;> try exact p.elim
    refine fun ι' H' v a rv => ⟨non_iff.mp rv, p ι' H' _ (af.trans a) (ref_iff.mpr ⟨q, pre_get a.pre (ref_len rh), rfl⟩)⟩
  | exc c h2 =>
    rw [z] at p
    exact fun ι' H' a => p ι' H' (af.trans a)
  | bad => rw [z] at p; exact p
theorem se_make {C : String} {x : Str} (Cn : Can G X W (k + 1)) (M : Mk G.K (He.ga G.K (Str.ofString C)) f) (F : Kn G X.prog X.w X.mg X.base k f n m) (hg : Gl X x) (hm : X.mg x = some (.ref (He.ga G.K (Str.ofString C)))) (ha : SA G X W (e :: es) fs) (hdb : (x == ("__debug__" : Str)) = false := by decide)
    (he : starEach (e :: es) X.env = (false, eval e X.env) :: starEach es X.env := by rfl) (hpl : (backTo pos (starEach es X.env)).any (·.1) = false := by rfl) : SE G X W (.Call (.Name x p) (e :: es) [] pos) (mMake C n m fs) := by
  refine ⟨fun pins s σ H Q I hq => ?_⟩
  obtain ⟨ι, e0, h, en, rh, q⟩ := hq
  have hT := TIs.bind (R := fun vs H1 => vs.length + 1 = n ∧ ∀ x dx, H1 x = none → H1 dx = none → dx ≠ x → spI G n m (.ref x :: vs) (upd (upd H1 dx (.own x)) x (.ins (He.ga G.K (Str.ofString C)) dx [])) (fun v H2 => v = .non ∧ Q (.ref x) H2) (WE W σ)) en rh q (fun xs vs ι1 h1 H1 a1 en1 r1 q1 => by
    split at q1
    · rename_i hn
      exact ⟨by rw [← r1.len]; exact hn, make_sp hn r1 a1.rh q1⟩
    · exact q1.elim)
  refine wpAny_Call_Name_kw (ld_glob I hg hm ?_ hdb)
  refine PySem.W.callWith_K (h₀ := X.base) I.ok.mod.kin (Cn.hK ▸ M.kp) (thn (ha.run pos pins s σ H _ I hT) fun us s1 ⟨vs, H1, I1, r, q⟩ => ⟨I1.kIn, ?_⟩) he hpl
  exact run_mk Cn M F I1 r q.1 q.2
theorem se_make0 {C : String} {x : Str} (Cn : Can G X W (k + 1)) (M : Mk G.K (He.ga G.K (Str.ofString C)) f) (F : Kn G X.prog X.w X.mg X.base k f n m) (hg : Gl X x) (hm : X.mg x = some (.ref (He.ga G.K (Str.ofString C)))) (hdb : (x == ("__debug__" : Str)) = false := by decide) : SE G X W (.Call (.Name x p) [] [] pos) (mMake C n m mNil) := by
  refine ⟨fun pins s σ H Q I hq => ?_⟩
  obtain ⟨ι, e0, h, en, rh, q⟩ := hq
  simp only [mMake, mNil, Res.bind] at q
  refine wpAny_Call_Name_kw (ld_glob I hg hm ?_ hdb)
  split at q
  · rename_i hn
    exact PySem.W.callWith_K0 I.kIn (Cn.hK ▸ M.kp) (run_mk Cn M F (us := []) (vs := []) I .nil hn (make_sp hn RVs.nil rh q))
  · exact q.elim

/-! ### statements -/
def Fl.thn (r : Fl) (f : MS) : Fl := match r with
  | .nx e h => f e h
  | r => r
@[simp] def sSeq (f g : MS) : MS := fun e h => (f e h).thn g
@[simp] def sSkip : MS := fun e h => .nx e h
theorem PF.after {ι ι1 : List Addr} {H H1 : Hp} {D : Ends} {h1 : IH} {r : Fl} (a : Aft G ι H ι1 h1 H1) (q : PF G W ι H D r) : PF G W ι1 H1 D r := by
  cases r with
  | nx e h => exact fun ι' σ' H' b en => q ι' σ' H' (a.trans b) en
  | rt v h => exact fun ι' σ' H' b en => q ι' σ' H' (a.trans b) en
  | bk e h => exact fun ι' σ' H' b en => q ι' σ' H' (a.trans b) en
  | ct e h => exact fun ι' σ' H' b en => q ι' σ' H' (a.trans b) en
  | ex c e h => exact fun ι' σ' H' b en => q ι' σ' H' (a.trans b) en
  | bad => exact q
theorem sb_nil : SB G X W [] sSkip := pss_weak pss_nil fun D σ H ⟨ι, e, h, en, rh, q⟩ => q ι σ H (Aft.refl rh) en
theorem sb_cons {s : Stmt} {r : List Stmt} {f g : MS} (h1 : SS G X W s f) (h2 : SB G X W r g) : SB G X W (s :: r) (sSeq f g) := by
  refine pss_weak (pss_cons h1 h2) fun D σ H hq => ?_
  obtain ⟨ι, e, h, en, rh, q⟩ := hq
  refine ⟨ι, e, h, en, rh, ?_⟩
  simp only [sSeq] at q
  cases z : f e h with
  | nx e' h' =>
    rw [z] at q
    exact fun ι' σ' H' a en' => ⟨ι', e', h', en', a.rh, PF.after a q⟩
  | rt v h => rw [z] at q; exact q
  | bk e h => rw [z] at q; exact q
  | ct e h => rw [z] at q; exact q
  | ex c e h => rw [z] at q; exact q
  | bad => rw [z] at q; exact q
theorem sb_one {s : Stmt} {f : MS} (h1 : SS G X W s f) : SB G X W [s] f := pss_one h1
/-- from a value to a statement's end -/
def Res.st (r : Res IV) (e : IE) (f : IV → MS) : Fl := match r with
  | .ok x h => f x e h
  | .exc c h => .ex c e h
  | .bad => .bad
theorem TI.st {σ : L2.St} {H : Hp} {R : VK} {ι : List Addr} {e : IE} {h : IH} {k : IV → MS} {D : Ends} (en : REn G.K ι H e σ) (rh : RH G ι h H)
    (p : PF G W ι H D (Res.st (fa e h) e k))
    (hk : ∀ x v ι1 h1 H1, Aft G ι H ι1 h1 H1 → REn G.K ι1 H1 e σ → RV G.K ι1 H1 x v → PF G W ι1 H1 D (k x e h1) → R v H1) : TI G W fa σ H R := by
  refine ⟨ι, e, h, en, rh, ?_⟩
  cases q : fa e h with
  | ok x h1 =>
    rw [q] at p
    exact fun ι1 H1 v a r => hk x v ι1 h1 H1 a (en.mono a.pre a.tl) r (PF.after a p)
  | exc c h1 =>
    rw [q] at p
    exact fun ι' H' a => p ι' σ H' a (en.mono a.pre a.tl)
  | bad =>
    rw [q] at p
    exact p
@[simp] def sExpr (f : ME) : MS := fun e h => (f e h).st e fun _ e h => .nx e h
@[simp] def sRet (f : ME) : MS := fun e h => (f e h).st e fun x _ h => .rt x h
@[simp] def sRetN : MS := fun _ h => .rt .non h
theorem ss_expr (ha : SE G X W a fa) (hs : swapsWith a none pos.line X.env = pure false := by rfl) : SS G X W (.Expr a pos) (sExpr fa) := by
  refine ps_weak (ps_expr ha hs) fun D σ H hq => ?_
  obtain ⟨ι, e, h, en, rh, q⟩ := hq
  exact TI.st en rh q fun x v ι1 h1 H1 a1 en1 r1 q1 => q1 ι1 σ H1 (Aft.refl a1.rh) en1
theorem ss_ret (ha : SE G X W a fa) : SS G X W (.Return (some a) pos) (sRet fa) := by
  refine ps_weak (ps_ret ha) fun D σ H hq => ?_
  obtain ⟨ι, e, h, en, rh, q⟩ := hq
  exact TI.st en rh q fun x v ι1 h1 H1 a1 en1 r1 q1 => q1 ι1 v H1 (Aft.refl a1.rh) r1
theorem ss_retN : SS G X W (.Return none pos) sRetN := ps_weak ps_retN fun D σ H ⟨ι, e, h, en, rh, q⟩ => q ι .non H (Aft.refl rh) (non_iff.mpr rfl)
theorem ss_pass : SS G X W (.Pass pos) sSkip := ps_weak ps_pass fun D σ H ⟨ι, e, h, en, rh, q⟩ => q ι σ H (Aft.refl rh) en
theorem ss_doc {x j pos pos'} : SS G X W (.Expr (.Constant (.str x) j pos) pos') sSkip := ps_weak ps_doc fun D σ H ⟨ι, e, h, en, rh, q⟩ => q ι σ H (Aft.refl rh) en
@[simp] def sBreak : MS := fun e h => .bk e h
theorem ss_break : SS G X W (.Break pos) sBreak := ps_weak ps_break fun D σ H ⟨ι, e, h, en, rh, q⟩ => q ι σ H (Aft.refl rh) en
def sIf (f : ME) (g g' : MS) : MS := fun e h => (f e h).st e fun x e h => match x with
  | .bl true => g e h
  | .bl false => g' e h
  | _ => .bad
theorem ss_if {f g : MS} {as bs : List Stmt} (hc : SC G X W c fc) (ha : SB G X W as f) (hb : SB G X W bs g) : SS G X W (.If c as bs pos) (sIf fc f g) := by
  refine ps_weak (ps_if hc ha hb) fun D σ H hq => ?_
  obtain ⟨ι, e, h, en, rh, q⟩ := hq
  refine ⟨ι, e, h, en, rh, ?_⟩
  simp only [sIf] at q
  cases z : fc e h with
  | ok x h' =>
    rw [z] at q
    cases x <;> try exact q.elim
    rename_i k
    cases k with
    | true => exact fun ι' H' a => iteT ⟨ι', e, h', en.mono a.pre a.tl, a.rh, PF.after a q⟩
    | false => exact fun ι' H' a => iteF ⟨ι', e, h', en.mono a.pre a.tl, a.rh, PF.after a q⟩
  | exc c h' => rw [z] at q; exact fun ι' H' a => q ι' σ H' a (en.mono a.pre a.tl)
  | bad => rw [z] at q; exact q

/-! ### targets -/
/-- a target's meaning: a value is stored -/
abbrev MG := IV → MS
def Fl.only (fl : Fl) (P : IE → IH → Prop) : Prop := match fl with
  | .nx e' h' => P e' h'
  | _ => False
def TGI (G : Gx) (W : WX) (g : MG) : TG := fun v σ H Q => ∃ ι e h x, REn G.K ι H e σ ∧ RH G ι h H ∧ RV G.K ι H x v ∧ (g x e h).only fun e' h' => ∀ ι' σ' H', Aft G ι H ι' h' H' → REn G.K ι' H' e' σ' → Q σ' H'
def SG (G : Gx) (X : Cx) (W : WX) (t : Expr) (g : MG) : Prop := PG X t (TGI G W g)
def TGIs (G : Gx) (W : WX) (g : List IV → MS) : TGs := fun vs σ H Q => ∃ ι e h xs, REn G.K ι H e σ ∧ RH G ι h H ∧ RVs G.K ι H xs vs ∧ (g xs e h).only fun e' h' => ∀ ι' σ' H', Aft G ι H ι' h' H' → REn G.K ι' H' e' σ' → Q σ' H'
def SGs (G : Gx) (X : Cx) (W : WX) (ts : List Expr) (g : List IV → MS) : Prop := PGs X ts (TGIs G W g)
theorem pg_weak {t : Expr} {u u' : TG} (q : PG X t u) (h : ∀ v σ H Q, u' v σ H Q → u v σ H Q) : PG X t u' := ⟨fun pins s σ H v uu Q I r z => q.run pins s σ H v uu Q I r (h v σ H Q z)⟩
theorem pgs_weak {t : List Expr} {u u' : TGs} (q : PGs X t u) (h : ∀ v σ H Q, u' v σ H Q → u v σ H Q) : PGs X t u' := ⟨fun pins s σ H v uu Q I r z => q.run pins s σ H v uu Q I r (h v σ H Q z)⟩
@[simp] def gName' (i : Nat) : MG := fun x e h => .nx (e.set i (some x)) h
theorem sg_name (i : Nat) (hp : PG X (.Name x pos) (gName i)) : SG G X W (.Name x pos) (gName' i) := pg_weak hp fun v σ H Q ⟨ι, e, h, x, en, rh, r, q⟩ => q ι _ H (Aft.refl rh) (en.set i ⟨v, rfl, r⟩)
@[simp] def gsNil : List IV → MS := fun xs e h => match xs with
  | [] => .nx e h
  | _ => .bad
def gsCons (g : MG) (gs : List IV → MS) : List IV → MS := fun xs e h => match xs with
  | x :: xs => (g x e h).thn (gs xs)
  | [] => .bad
theorem sgs_nil : SGs G X W [] gsNil := pgs_weak pgs_nil fun v σ H Q ⟨ι, e, h, xs, en, rh, r, q⟩ => by
  cases xs with
  | nil =>
    unfold RVs at r
    exact ⟨r, q ι _ H (Aft.refl rh) en⟩
  | cons x xs => exact q.elim
theorem sgs_cons {t : Expr} {ts : List Expr} {g : MG} {gs : List IV → MS} (h1 : SG G X W t g) (h2 : SGs G X W ts gs) (hs : (assignEach (t :: ts) X.env).map (·.2) = assign t X.env :: (assignEach ts X.env).map (·.2) := by rfl) : SGs G X W (t :: ts) (gsCons g gs) := pgs_weak (pgs_cons h1 h2 hs) fun v σ H Q ⟨ι, e, h, xs, en, rh, r, q⟩ => by
  cases xs with
  | nil => exact q.elim
  | cons x xs =>
    unfold RVs at r
    obtain ⟨v, w, rfl, rv, rs⟩ := r
    refine ⟨v, w, rfl, ι, e, h, x, en, rh, rv, ?_⟩
    simp only [gsCons] at q
    cases z : g x e h with
    | nx e' h' =>
      rw [z] at q
      simp only [Fl.thn] at q
      refine fun ι' σ' H' a en' => ⟨ι', e', h', xs, en', a.rh, rs.mono a.pre a.tl, ?_⟩
      cases y : gs xs e' h' with
      | nx e2 h2 => rw [y] at q; exact fun ι2 σ2 H2 b en2 => q ι2 σ2 H2 (a.trans b) en2
      | _ => rw [y] at q; exact q
    | _ => rw [z] at q; exact q
@[simp] def gTup' (n : Nat) (gs : List IV → MS) : MG := fun x e h => match x with
  | .tup xs => if xs.length = n then gs xs e h else .bad
  | _ => .bad
theorem sg_tup {ts : List Expr} {kk : Nat} {n : Nat} {gs : List IV → MS} (hp : ∀ t : TGs, PGs X ts t → PG X (.Tuple ts kk pos) (gTup X.K n t)) (hK : X.K = G.K) (h : SGs G X W ts gs) : SG G X W (.Tuple ts kk pos) (gTup' n gs) := pg_weak (hp _ h) fun v σ H Q ⟨ι, e, h, x, en, rh, r, q⟩ => by
  cases x <;> try exact q.elim
  rename_i xs
  rw [tup_iff] at r
  obtain ⟨a, vs, rfl, hq, rs⟩ := r
  simp only [gTup'] at q
  by_cases hn : xs.length = n
  · rw [if_pos hn] at q
    rw [hK]
    exact ⟨a, vs, rfl, hq, by rw [← rs.len]; exact hn, ι, e, h, xs, en, rh, rs, q⟩
  · rw [if_neg hn] at q
    exact q.elim
@[simp] def gLst' (n : Nat) (gs : List IV → MS) : MG := fun x e h => match x with
  | .ref k => match h[k]? with
    | some (.lst xs) => if xs.length = n then gs xs e h else .bad
    | _ => .bad
  | _ => .bad
theorem sg_lst {ts : List Expr} {kk : Nat} {n : Nat} {gs : List IV → MS} (hp : ∀ t : TGs, PGs X ts t → PG X (.Tuple ts kk pos) (gLst X.K n t)) (hK : X.K = G.K) (h : SGs G X W ts gs) : SG G X W (.Tuple ts kk pos) (gLst' n gs) := pg_weak (hp _ h) fun v σ H Q ⟨ι, e, h, x, en, rh, r, q⟩ => by
  cases x <;> try exact q.elim
  rename_i k
  rw [ref_iff] at r
  obtain ⟨a, ia, rfl⟩ := r
  simp only [gLst'] at q
  cases z0 : h[k]? with
  | none => rw [z0] at q; exact q.elim
  | some o =>
    rw [z0] at q
    cases o <;> try exact q.elim
    rename_i xs
    obtain ⟨vs, hq, rs⟩ := rh.at z0 ia
    simp only at q
    by_cases hn : xs.length = n
    · rw [if_pos hn] at q
      rw [hK]
      exact ⟨a, vs, rfl, SqL.of hq, by rw [← rs.len]; exact hn, ι, e, h, xs, en, rh, rs, q⟩
    · rw [if_neg hn] at q
      exact q.elim
/-- xs[i] = v -/
def gSubL (fo fi : ME) : MG := fun x e h => match fo e h with
  | .ok (.ref n) h1 => match fi e h1 with
    | .ok (.int k) h2 => match h2[n]? with
      | some (.lst xs) => match ixN xs.length k with
        | some j => .nx e (h2.set n (.lst (xs.set j x)))
        | none => .bad
      | _ => .bad
    | _ => .bad
  | _ => .bad
theorem RVs.set {K : PySem.W.Frag} {ι : List Addr} {H : Hp} {x : IV} {v : V} (rx : RV K ι H x v) : ∀ {xs : List IV} {vs : List V} (j : Nat), RVs K ι H xs vs → RVs K ι H (xs.set j x) (vs.set j v)
  | [], _, _, r => by unfold RVs at r; subst r; exact RVs.nil
  | _ :: _, _, 0, r => by
    unfold RVs at r
    obtain ⟨w, ws, rfl, _, rs⟩ := r
    exact RVs.cons rx rs
  | _ :: _, _, j + 1, r => by
    unfold RVs at r
    obtain ⟨w, ws, rfl, rw', rs⟩ := r
    exact RVs.cons rw' (RVs.set rx j rs)
theorem set_lst {ι : List Addr} {h : IH} {H : Hp} {n : Nat} {q : Addr} {xs ys : List IV} {ws : List V} (r : RH G ι h H) (e : h[n]? = some (.lst xs)) (iq : ι[n]? = some q) (ry : RVs G.K ι H ys ws) : Aft G ι H ι (h.set n (.lst ys)) (upd H q (.lst ws)) := by
  obtain ⟨vs, hq, rs⟩ := r.at e iq
  have tl : TL G.K H (upd H q (.lst ws)) := TL.of (fun b zs z => by
    rw [upd_ne (fun y => by rw [y, hq] at z; cases z)]; exact z) (fun b o u z => by rw [upd_ne (fun y => by rw [y, hq] at z; cases z)]; exact z) (fun b φ z => by rw [upd_ne (fun y => by rw [y, hq] at z; cases z)]; exact z)
  exact Aft.set r iq hq trivial _ _ ⟨_, upd_same, ry.mono (List.prefix_refl _) tl⟩ (List.getElem?_eq_some_iff.mp e).1
theorem sg_subL {i : Expr} {fo fi : ME} (ho : SE G X W o fo) (hi : SE G X W i fi) (hp : ∀ (to ti : TE), PE X o to → PE X i ti → PG X (.Subscript o i pos) (L2.gSub to ti rSetL)) : SG G X W (.Subscript o i pos) (gSubL fo fi) := pg_weak (hp _ _ ho hi) fun v σ H Q ⟨ι, e, h, x, en, rh, r, q⟩ => by
  simp only [gSubL] at q
  split at q
  · rename_i n h1 z1
    refine ⟨ι, e, h, en, rh, ?_⟩
    rw [z1]
    intro ι1 H1 u1 a1 r1
    refine ⟨ι1, e, h1, en.mono a1.pre a1.tl, a1.rh, ?_⟩
    split at q
    · rename_i k h2 z2
      rw [z2]
      intro ι2 H2 u2 a2 r2
      split at q
      · rename_i xs z3
        split at q
        · rename_i j z4
          rw [ref_iff] at r1
          obtain ⟨qa, iq, rfl⟩ := r1
          have iq2 := pre_get a2.pre iq
          obtain ⟨vs, hq, rs⟩ := a2.rh.at z3 iq2
          refine ⟨qa, vs, k, j, rfl, int_iff.mp r2, hq, by rw [← rs.len]; exact z4, ?_⟩
          have a12 := a1.trans a2
          have af := set_lst a2.rh z3 iq2 (rs.set (r.mono a12.pre a12.tl) j)
          exact q _ _ _ (a12.trans af) (en.mono (a12.trans af).pre (a12.trans af).tl)
        · exact q.elim
      · exact q.elim
    · exact q.elim
  · exact q.elim
def sAsg (f : ME) (g : MG) : MS := fun e h => (f e h).st e fun x e h => match g x e h with
  | .nx e h => .nx e h
  | _ => .bad
theorem TGI.st {σ : L2.St} {H : Hp} {ι : List Addr} {e : IE} {h : IH} {x : IV} {v : V} {D : Ends} {g : MG} (en : REn G.K ι H e σ) (rh : RH G ι h H) (r : RV G.K ι H x v) (q : PF G W ι H D (match g x e h with
  | .nx e h => .nx e h
  | _ => .bad)) : TGI G W g v σ H D.nx := by
  refine ⟨ι, e, h, x, en, rh, r, ?_⟩
  cases z : g x e h with
  | nx e' h' => rw [z] at q; exact q
  | _ => rw [z] at q; exact q
theorem ss_asg {t : Expr} {g : MG} (ha : SE G X W a fa) (hg : SG G X W t g) (hs : swapsWithSole [t] a pos.line X.env = pure false := by rfl) (hw : swappedStores [t] a X.env = pure none := by rfl) (hl : (assignEach [t] X.env).map (·.2) = [assign t X.env] := by rfl) : SS G X W (.Assign [t] a pos) (sAsg fa g) := by
  refine ps_weak (ps_asg ha hg hs hw hl) fun D σ H hq => ?_
  obtain ⟨ι, e, h, en, rh, q⟩ := hq
  exact TI.st en rh q fun x v ι1 h1 H1 a1 en1 r1 q1 => TGI.st en1 a1.rh r1 q1
/-- o.f = v -/
def sFldI (C : String) (j : Nat) (fo fv : ME) : MS := fun e h => (fv e h).st e fun y e h1 => (fo e h1).st e fun x e h2 => match x with
  | .ref n => match h2[n]? with
    | some (.ins D fs) => if D = C then (match putI j y fs with
      | some fs' => .nx e (h2.set n (.ins C fs'))
      | none => .bad) else .bad
    | _ => .bad
  | _ => .bad
theorem set_ins {C : String} {ι : List Addr} {h : IH} {H : Hp} {n j : Nat} {q dx : Addr} {y : IV} {v : V} {fl fl' : List IV} {ws : List (Str × V)} {f : Str} (kc : KC G C) (hf : (G.lay C)[j]? = some f) (r : RH G ι h H) (e : h[n]? = some (.ins C fl)) (iq : ι[n]? = some q)
    (hq : H q = some (.ins (He.ga G.K (Str.ofString C)) dx ws)) (rf : RFs G.K ι H (G.lay C) fl ws) (ry : RV G.K ι H y v) (hp : putI j y fl = some fl') : Aft G ι H ι (h.set n (.ins C fl')) (upd H q (.ins (He.ga G.K (Str.ofString C)) dx (putF f v ws))) := by
  have tl : TL G.K H (upd H q (.ins (He.ga G.K (Str.ofString C)) dx (putF f v ws))) := TL.of (fun b zs z => by
    rw [upd_ne (fun y => by rw [y, hq] at z; cases z)]; exact z) (fun b o u z => by rw [upd_ne (fun y => by rw [y, hq] at z; cases z)]; exact z) (fun b φ z => by rw [upd_ne (fun y => by rw [y, hq] at z; cases z)]; exact z)
  exact Aft.set r iq hq trivial _ _ ⟨dx, _, upd_same, (rf.put ry kc.nd hf hp).mono (List.prefix_refl _) tl⟩ (List.getElem?_eq_some_iff.mp e).1
theorem ss_fld {C : String} {j : Nat} {f : Str} {v : Expr} {fo fv : ME} (hK : X.K = G.K) (kc : KC G C) (hf : (G.lay C)[j]? = some f) (ho : SE G X W o fo) (hv : SE G X W v fv) (hs : swapsWith v (some (.Attribute o f pos')) pos.line X.env = pure false := by rfl) : SS G X W (.Assign [.Attribute o f pos'] v pos) (sFldI C j fo fv) := by
  refine ps_weak (ps_fld ho hv hs) fun D σ H hq => ?_
  obtain ⟨ι, e, h, en, rh, q⟩ := hq
  refine TI.st en rh q fun y w ι1 h1 H1 a1 en1 r1 q1 => ?_
  refine TI.st en1 a1.rh q1 fun x u ι2 h2 H2 a2 en2 r2 q2 => ?_
  cases x <;> try exact q2.elim
  rename_i n
  rw [ref_iff] at r2
  obtain ⟨qa, iq, rfl⟩ := r2
  simp only at q2
  split at q2
  · rename_i E fl z0
    split at q2
    · rename_i hD
      subst hD
      split at q2
      · rename_i fl' z1
        obtain ⟨dx, ws, hq, rf⟩ := a2.rh.at z0 iq
        rw [hK]
        have hl := rf.len
        refine ⟨qa, _, dx, ws, rfl, hq, kc.cls, kc.na f (List.mem_of_getElem? hf), by have := kc.few; omega, ?_⟩
        have af := set_ins kc hf a2.rh z0 iq hq rf (r1.mono a2.pre a2.tl) z1
        exact q2 _ _ _ af (en2.mono af.pre af.tl)
      · exact q2.elim
    · exact q2.elim
  · exact q2.elim
/-- o.f op= v; rd by values -/
def sAugF (C : String) (j : Nat) (g : IV → IV → M IV) (fo fv : ME) : MS := fun e h => (fo e h).st e fun x e h1 => match x with
  | .ref n => match h1[n]? with
    | some (.ins D fs) => if D = C then (match fs[j]? with
      | some old => (fv e h1).st e fun y e h2 => match g old y h2 with
        | .ok z h3 => (match h3[n]? with
          | some (.ins D' fs') => if D' = C then (match putI j z fs' with
            | some fs2 => .nx e (h3.set n (.ins C fs2))
            | none => .bad) else .bad
          | _ => .bad)
        | _ => .bad
      | none => .bad) else .bad
    | _ => .bad
  | _ => .bad
theorem ss_augF {C : String} {j : Nat} {f : Str} {v : Expr} {fo fv : ME} {op : Operator} {rd : R2} {g : IV → IV → M IV} {tpos : Pos} (hK : X.K = G.K) (kc : KC G C) (hf : (G.lay C)[j]? = some f) (hop : InOp X op rd) (hm : Mean2 G rd g) (ho : SE G X W o fo) (hv : SE G X W v fv) : SS G X W (.AugAssign (.Attribute o f tpos) op v pos) (sAugF C j g fo fv) := by
  refine ps_weak (ps_fldaug ho hv hop) fun D σ H hq => ?_
  obtain ⟨ι, e, h, en, rh, q⟩ := hq
  refine TI.st en rh q fun x u ι1 h1 H1 a1 en1 r1 q1 => ?_
  cases x <;> try exact q1.elim
  rename_i n
  rw [ref_iff] at r1
  obtain ⟨qa, iq, rfl⟩ := r1
  simp only at q1
  split at q1
  · rename_i E fl z0
    split at q1
    · rename_i hD
      subst hD
      split at q1
      · rename_i old z1
        obtain ⟨dx, ws, hq, rf⟩ := a1.rh.at z0 iq
        obtain ⟨vo, hl, rvo⟩ := rf.look kc.nd hf z1
        rw [hK]
        refine ⟨qa, _, dx, ws, vo, rfl, hq, kc.cls, kc.na f (List.mem_of_getElem? hf), hl, ?_⟩
        refine TI.st en1 a1.rh q1 fun y w ι2 h2 H2 a2 en2 r2 q2 => ?_
        refine hm old y vo w ι2 h2 H2 _ (fun _ _ _ => False) (rvo.mono a2.pre a2.tl) r2 a2.rh ?_
        cases zg : g old y h2 with
        | exc c h' => rw [zg] at q2; exact q2.elim
        | bad => rw [zg] at q2; exact q2.elim
        | ok z h3 =>
          rw [zg] at q2
          intro ι3 H3 vz a3 r3
          simp only at q2
          split at q2
          · rename_i E' fl' z2
            split at q2
            · rename_i hD
              subst hD
              split at q2
              · rename_i fl2 z3
                have iq3 := pre_get (a2.pre.trans a3.pre) iq
                obtain ⟨dx', ws', hq', rf'⟩ := a3.rh.at z2 iq3
                have hl' := rf'.len
                refine ⟨dx', ws', hq', by have := kc.few; omega, ?_⟩
                have af := set_ins kc hf a3.rh z2 iq3 hq' rf' r3 z3
                exact q2 _ _ _ (a3.trans af) (en2.mono (a3.trans af).pre (a3.trans af).tl)
              · exact q2.elim
            · exact q2.elim
          · exact q2.elim
      · exact q1.elim
    · exact q1.elim
  · exact q1.elim
/-- x op= v -/
@[simp] def sAug (i : Nat) (g : IV → IV → M IV) (fv : ME) : MS := fun e h => match e[i]? with
  | some (some old) => (fv e h).st e fun y e h1 => match g old y h1 with
    | .ok z h2 => .nx (e.set i (some z)) h2
    | _ => .bad
  | _ => .bad
theorem ss_aug {i : Nat} {v : Expr} {fv : ME} {op : Operator} {rd : R2} {g : IV → IV → M IV} {pos' : Pos} (hp : ∀ te : TE, PE X v te → PS X (.AugAssign (.Name x pos') op v pos) (tAug i te rd)) (hm : Mean2 G rd g) (hv : SE G X W v fv) : SS G X W (.AugAssign (.Name x pos') op v pos) (sAug i g fv) := by
  refine ps_weak (hp _ hv) fun D σ H hq => ?_
  obtain ⟨ι, e, h, en, rh, q⟩ := hq
  simp only [sAug] at q
  split at q
  · rename_i old z0
    obtain ⟨vo, h1, rvo⟩ := en.get z0
    refine ⟨vo, h1, ?_⟩
    refine TI.st en rh q fun y w ι2 h2 H2 a2 en2 r2 q2 => ?_
    refine hm old y vo w ι2 h2 H2 _ (fun _ _ _ => False) (rvo.mono a2.pre a2.tl) r2 a2.rh ?_
    cases zg : g old y h2 with
    | exc c h' => rw [zg] at q2; exact q2.elim
    | bad => rw [zg] at q2; exact q2.elim
    | ok z h3 =>
      rw [zg] at q2
      exact fun ι3 H3 vz a3 r3 => q2 ι3 _ H3 a3 ((en2.mono a3.pre a3.tl).set i ⟨vz, rfl, r3⟩)
  · exact q.elim
end
end Sh

/-! Sh7: what is walked; for, while. -/
namespace Sh
open PySem PySem.Spec PyProof.Rows L2

/-- at a turn -/
inductive Nx where
  | stop
  | it (x : IV)
  | bad
/-- what a loop walks: no more than n turns; what comes at a turn -/
structure Sr where
  n : Nat
  nx : Nat → IH → Nx
abbrev MI := IE → M Sr
/-- the source's promise, from the state at (ι0, H0) on -/
def SrOk (G : Gx) (ι0 : List Addr) (H0 : Hp) (S : Sr) (J : It) : Prop :=
  ∀ i ι h H, RH G ι h H → ι0 <+: ι → TL G.K H0 H → match S.nx i h with
    | .stop => J.stop i H
    | .it x => J.go i H ∧ ∀ v H', J.yld i H v H' → ∃ ι', Aft G ι H ι' h H' ∧ RV G.K ι' H' x v
    | .bad => True
def PRi (G : Gx) (W : Value → Option Addr → Hp → Prop) (ι : List Addr) (H : Hp) (R : It → Hp → Prop) : Res Sr → Prop
  | .ok S h1 => ∀ ι1 H1 J, Aft G ι H ι1 h1 H1 → SrOk G ι1 H1 S J → R J H1
  | .exc c h1 => ∀ ι1 H1, Aft G ι H ι1 h1 H1 → W (.ref (He.ga G.K (Str.ofString c))) none H1
  | .bad => False
theorem PRi.after {G : Gx} {W : Value → Option Addr → Hp → Prop} {ι ι1 : List Addr} {H H1 : Hp} {R : It → Hp → Prop} {h1 : IH} {r : Res Sr} (a : Aft G ι H ι1 h1 H1) (p : PRi G W ι H R r) : PRi G W ι1 H1 R r := by
  cases r with
  | ok S h' => exact fun ι' H' J b r => p ι' H' J (a.trans b) r
  | exc c h' => exact fun ι' H' b => p ι' H' (a.trans b)
  | bad => exact p
def TII (G : Gx) (W : WX) (f : MI) : L2.TI := fun σ H R => ∃ ι e h, REn G.K ι H e σ ∧ RH G ι h H ∧ PRi G (fun c d H' => W c d σ H') ι H R (f e h)
def SI (G : Gx) (X : Cx) (W : WX) (tg iter : Expr) (f : MI) : Prop := PI X tg iter (TII G W f)
theorem pi_weak {X : Cx} {tg e : Expr} {t u : L2.TI} (p : PI X tg e t) (h : ∀ σ H R, u σ H R → t σ H R) : PI X tg e u := ⟨fun pins s σ H R I q => p.run pins s σ H R I (h σ H R q)⟩

section
variable {G : Gx} {X : Cx} {W : WX} {a b c e o tg : Expr} {fa fb fc : ME} {p pos pos' : Pos} {x : Str}
/-- from a value to a source -/
theorem TI.src {σ : L2.St} {H : Hp} {R : It → Hp → Prop} {f : ME} {k : IV → M Sr}
    (q : TII G W (fun e h => (f e h).bind k) σ H R) : TI G W f σ H fun v H1 => ∃ ι1 h1 x, RH G ι1 h1 H1 ∧ RV G.K ι1 H1 x v ∧ PRi G (fun c d H' => W c d σ H') ι1 H1 R (k x h1) := by
  obtain ⟨ι, e, h, en, rh, q⟩ := q
  refine ⟨ι, e, h, en, rh, ?_⟩
  dsimp only at q
  cases z : f e h with
  | exc c h1 => rw [z] at q; exact q
  | bad => rw [z] at q; exact q
  | ok x h1 =>
    rw [z] at q
    exact fun ι1 H1 v a r => ⟨ι1, h1, x, a.rh, r, q.after a⟩
theorem TIs.src {σ : L2.St} {H : Hp} {R : It → Hp → Prop} {f : IE → M (List IV)} {k : List IV → M Sr}
    (q : TII G W (fun e h => (f e h).bind k) σ H R) : TIs G W f σ H fun v H1 => ∃ ι1 h1 x, RH G ι1 h1 H1 ∧ RVs G.K ι1 H1 x v ∧ PRi G (fun c d H' => W c d σ H') ι1 H1 R (k x h1) := by
  obtain ⟨ι, e, h, en, rh, q⟩ := q
  refine ⟨ι, e, h, en, rh, ?_⟩
  dsimp only at q
  cases z : f e h with
  | exc c h1 => rw [z] at q; exact q
  | bad => rw [z] at q; exact q
  | ok x h1 =>
    rw [z] at q
    exact fun ι1 H1 v a r => ⟨ι1, h1, x, a.rh, r, q.after a⟩
/-- the list at place n, as it stands -/
@[simp] def srL (n : Nat) (m : Nat) : Sr := ⟨m, fun i h => match h[n]? with
  | some (.lst xs) => if i < xs.length then (match xs[i]? with
    | some x => .it x
    | none => .bad) else if i = xs.length then .stop else .bad
  | _ => .bad⟩
@[simp] def srT (xs : List IV) : Sr := ⟨xs.length, fun i _ => match xs[i]? with
  | some x => .it x
  | none => if i = xs.length then .stop else .bad⟩
@[simp] def srS (xs : List Nat) : Sr := ⟨xs.length, fun i _ => match xs[i]? with
  | some x => .it (.str [x])
  | none => if i = xs.length then .stop else .bad⟩
@[simp] def srR (lo hi : Int) : Sr := ⟨(hi - lo).toNat, fun i _ => if i < (hi - lo).toNat then .it (.int (lo + i)) else .stop⟩
theorem RVs.nth {K : PySem.W.Frag} {ι : List Addr} {H : Hp} : ∀ {xs : List IV} {vs : List V} {i : Nat} {x : IV} {v : V}, RVs K ι H xs vs → xs[i]? = some x → vs[i]? = some v → RV K ι H x v
  | [], _, _, _, _, _, e, _ => by simp at e
  | y :: ys, _, 0, x, v, r, e, e2 => by
    unfold RVs at r
    obtain ⟨w, ws, rfl, rv, rs⟩ := r
    simp only [List.getElem?_cons_zero, Option.some.injEq] at e e2
    subst e e2
    exact rv
  | y :: ys, _, i + 1, x, v, r, e, e2 => by
    unfold RVs at r
    obtain ⟨w, ws, rfl, rv, rs⟩ := r
    simp only [List.getElem?_cons_succ] at e e2
    exact RVs.nth rs e e2
theorem RVs.has {K : PySem.W.Frag} {ι : List Addr} {H : Hp} {xs : List IV} {vs : List V} {i : Nat} {x : IV} (r : RVs K ι H xs vs) (e : xs[i]? = some x) : ∃ v, vs[i]? = some v ∧ RV K ι H x v := by
  have hi := (List.getElem?_eq_some_iff.mp e).1
  rw [r.len] at hi
  exact ⟨vs[i], List.getElem?_eq_getElem hi, r.nth e (List.getElem?_eq_getElem hi)⟩
theorem srOk_l {ι0 : List Addr} {H0 : Hp} {n m : Nat} {q : Addr} (hq : ι0[n]? = some q) : SrOk G ι0 H0 (srL n m) (Itl G.K q) := by
  intro i ι h H rh hι tl
  simp only [srL]
  cases z0 : h[n]? with
  | none => trivial
  | some o =>
    cases o <;> try trivial
    rename_i xs
    obtain ⟨vs, hv, rs⟩ := rh.at z0 (pre_get hι hq)
    simp only
    by_cases hi : i < xs.length
    · rw [if_pos hi]
      have z2 : xs[i]? = some xs[i] := List.getElem?_eq_getElem hi
      rw [z2]
      obtain ⟨v, hv2, rv⟩ := rs.has z2
      refine ⟨⟨vs, v, SqL.of hv, hv2⟩, fun v' H' ⟨e, hy⟩ => ?_⟩
      subst e
      have := hy vs (SqL.of hv)
      rw [hv2] at this
      cases this
      exact ⟨ι, Aft.refl rh, rv⟩
    · rw [if_neg hi]
      by_cases hj : i = xs.length
      · rw [if_pos hj]; exact ⟨vs, SqL.of hv, by rw [← rs.len]; omega⟩
      · rw [if_neg hj]; trivial
theorem srOk_t {ι0 : List Addr} {H0 : Hp} {xs : List IV} {vs : List V} {q : Addr} (ht : SqT G.K H0 q vs) (rs : RVs G.K ι0 H0 xs vs) : SrOk G ι0 H0 (srT xs) (Itt G.K q) := by
  intro i ι h H rh hι tl
  have ht' := tl.t _ _ ht
  have rs' := rs.mono hι tl
  simp only [srT]
  cases z : xs[i]? with
  | none =>
    by_cases hi : i = xs.length
    · rw [if_pos hi]; exact ⟨vs, ht', by rw [← rs.len]; omega⟩
    · rw [if_neg hi]; trivial
  | some x =>
    obtain ⟨v, hv2, rv⟩ := rs'.has z
    refine ⟨⟨vs, v, ht', hv2⟩, fun v' H' ⟨e, hy⟩ => ?_⟩
    subst e
    have := hy vs ht'
    rw [hv2] at this
    cases this
    exact ⟨ι, Aft.refl rh, rv⟩
theorem srOk_f {ι0 : List Addr} {H0 : Hp} {xs : List IV} {vs : List V} {q : Addr} (ht : SqF G.K H0 q vs) (rs : RVs G.K ι0 H0 xs vs) : SrOk G ι0 H0 (srT xs) (Itl G.K q) := by
  intro i ι h H rh hι tl
  have ht' := (tl.f _ _ ht).sq
  have rs' := rs.mono hι tl
  simp only [srT]
  cases z : xs[i]? with
  | none =>
    by_cases hi : i = xs.length
    · rw [if_pos hi]; exact ⟨vs, ht', by rw [← rs.len]; omega⟩
    · rw [if_neg hi]; trivial
  | some x =>
    obtain ⟨v, hv2, rv⟩ := rs'.has z
    refine ⟨⟨vs, v, ht', hv2⟩, fun v' H' ⟨e, hy⟩ => ?_⟩
    subst e
    have := hy vs ht'
    rw [hv2] at this
    cases this
    exact ⟨ι, Aft.refl rh, rv⟩
theorem srOk_s {ι0 : List Addr} {H0 : Hp} {xs : List Nat} : SrOk G ι0 H0 (srS xs) (Its (sS xs)) := by
  intro i ι h H rh hι tl
  simp only [srS]
  cases z : xs[i]? with
  | none =>
    by_cases hi : i = xs.length
    · rw [if_pos hi]
      show (sS xs).cps.size ≤ i
      simp only [sS, List.size_toArray]
      omega
    · rw [if_neg hi]; trivial
  | some x =>
    refine ⟨by show i < (sS xs).cps.size; simp only [sS, List.size_toArray]; exact (List.getElem?_eq_some_iff.mp z).1, fun v' H' ⟨e, c, hc, hv⟩ => ?_⟩
    subst e
    have : (sS xs).cps[i]? = some x := by simp only [sS, List.getElem?_toArray]; exact z
    rw [this] at hc
    cases hc
    exact ⟨ι, Aft.refl rh, by rw [hv]; unfold RV; rfl⟩
theorem srOk_r {ι0 : List Addr} {H0 : Hp} {lo hi : Int} : SrOk G ι0 H0 (srR lo hi) (Itr lo (hi - lo).toNat) := by
  intro i ι h H rh hι tl
  simp only [srR]
  by_cases hn : i < (hi - lo).toNat
  · rw [if_pos hn]
    refine ⟨hn, fun v' H' ⟨e, hv⟩ => ?_⟩
    subst e hv
    exact ⟨ι, Aft.refl rh, int_iff.mpr rfl⟩
  · rw [if_neg hn]
    show (hi - lo).toNat ≤ i
    omega

/-- a value as a source -/
@[simp] def srV (x : IV) (h : IH) : Res Sr := match x with
  | .ref n => match h[n]? with
    | some (.lst xs) => .ok (srL n xs.length) h
    | _ => .bad
  | .tup xs => .ok (srT xs) h
  | .fz xs => .ok (srT xs) h
  | .str xs => .ok (srS xs) h
  | _ => .bad
@[simp] def mItV (fa : ME) : MI := fun e h => (fa e h).bind srV
theorem si_val (hK : X.K = G.K) (ha : SE G X W a fa) : SI G X W tg a (mItV fa) := by
  refine ⟨fun pins s σ H R I hq => ?_⟩
  refine thn (ha.run pins s σ H _ I (TI.src hq)) fun u s1 ⟨v, H1, I1, ru, ι1, h1, x, rh1, r1, q⟩ => ?_
  have one : ∀ {J : It} {tn : Nat → Heap → Prop} (o : Obj), Turn X.prog X.w X.K tg J [s1.heap.objs.size] s1.heap.objs.size tn → tn 0 (s1.heap.push o) → R J H1 → PIE X pins σ tg R (.ref s1.heap.objs.size) { s1 with heap := s1.heap.push o } :=
    fun o T t0 r => pi_one (tk := s1.toks) I1 o T t0 r
  cases x <;> try exact q.elim
  · rename_i xs
    obtain rfl := str_iff.mp r1
    obtain ⟨t, rfl⟩ := ru
    have r := q _ _ _ (Aft.refl rh1) srOk_s
    cases ha : (sS xs).cps.all (· < 128)
    · exact wpAny_pyIter_wide ha (one _ (turn_str _ _ t "str_iterator" (.inr rfl)) ⟨_, Heap.get?_push_size _ rfl, rfl, rfl⟩ r)
    · exact wpAny_pyIter_ascii ha (one _ (turn_str _ _ t "str_ascii_iterator" (.inl rfl)) ⟨_, Heap.get?_push_size _ rfl, rfl, rfl⟩ r)
  · rename_i xs
    rw [tup_iff] at r1
    obtain ⟨a, vs, rfl, hq, rs⟩ := r1
    cases ru
    rw [← hK] at hq
    obtain ⟨its, rv, p, hz⟩ := I1.tuple hq
    refine wpAny_pyIter_tuple (show s1.heap.IsTuple a its.toArray from p) (one _ (turn_tuple a _) ⟨_, Heap.get?_push_size _ rfl, rfl, rfl⟩ ?_)
    rw [hK] at hq ⊢
    exact q _ _ _ (Aft.refl rh1) (srOk_t hq rs)
  · rename_i xs
    rw [fz_iff] at r1
    obtain ⟨a, vs, rfl, hq, rs⟩ := r1
    cases ru
    have hq' := hq.sq
    rw [← hK] at hq'
    obtain ⟨its, rv, p, hz⟩ := I1.list hq'
    refine wpAny_pyIter_list p.isList (one _ (turn_list a _) ⟨_, Heap.get?_push_size _ rfl, rfl, rfl⟩ ?_)
    rw [hK]
    exact q _ _ _ (Aft.refl rh1) (srOk_f hq rs)
  · rename_i n
    obtain ⟨a, ia, rfl⟩ := ref_iff.mp r1
    cases ru
    simp only [srV] at q
    cases z0 : h1[n]? with
    | none => rw [z0] at q; exact q.elim
    | some o =>
      rw [z0] at q
      cases o <;> try exact q.elim
      rename_i xs
      obtain ⟨vs, hv, rs⟩ := rh1.at z0 ia
      have hq : SqL X.K H1 a vs := SqL.of hv
      obtain ⟨its, rv, p, hz⟩ := I1.list hq
      refine wpAny_pyIter_list p.isList (one _ (turn_list a _) ⟨_, Heap.get?_push_size _ rfl, rfl, rfl⟩ ?_)
      rw [hK]
      exact q _ _ _ (Aft.refl rh1) (srOk_l ia)
/-- range(..) -/
@[simp] def mRng1 (fs : IE → M (List IV)) : MI := fun e h => (fs e h).bind fun xs h1 => match xs with
  | [.int j] => if -(2 ^ 62) ≤ j ∧ j < 2 ^ 62 then .ok (srR 0 j) h1 else .bad
  | _ => .bad
@[simp] def mRng2 (fs : IE → M (List IV)) : MI := fun e h => (fs e h).bind fun xs h1 => match xs with
  | [.int i, .int j] => if -(2 ^ 62) ≤ i ∧ i < 2 ^ 62 ∧ -(2 ^ 62) ≤ j ∧ j < 2 ^ 62 then .ok (srR i j) h1 else .bad
  | _ => .bad
theorem TIs.imp {σ : L2.St} {H : Hp} {f : IE → M (List IV)} {R R' : List V → Hp → Prop} (q : TIs G W f σ H R) (k : ∀ vs H', R vs H' → R' vs H') : TIs G W f σ H R' := by
  obtain ⟨ι, e, h, en, rh, p⟩ := q
  refine ⟨ι, e, h, en, rh, ?_⟩
  cases z : f e h with
  | exc c h1 => rw [z] at p; exact p
  | bad => rw [z] at p; exact p
  | ok xs h1 =>
    rw [z] at p
    exact fun ι1 H1 vs a r => k _ _ (p ι1 H1 vs a r)
theorem RVs.int1 {K : PySem.W.Frag} {ι : List Addr} {H : Hp} {j : Int} {vs : List V} (r : RVs K ι H [.int j] vs) : vs = [.int j] := by
  unfold RVs at r
  obtain ⟨v, w, rfl, rv, rs⟩ := r
  unfold RVs at rs
  subst rs
  obtain rfl := int_iff.mp rv
  rfl
theorem RVs.int2 {K : PySem.W.Frag} {ι : List Addr} {H : Hp} {i j : Int} {vs : List V} (r : RVs K ι H [.int i, .int j] vs) : vs = [.int i, .int j] := by
  unfold RVs at r
  obtain ⟨v, w, rfl, rv, rs⟩ := r
  obtain rfl := rs.int1
  obtain rfl := int_iff.mp rv
  rfl
theorem si_range1 {fs : IE → M (List IV)} (hg : Gl X "range") (hm : X.mg "range" = none) (ha : SA G X W [a] fs) (hs : starEach [a] X.env = [(false, eval a X.env)] := by rfl) : SI G X W tg (.Call (.Name "range" p) [a] [] pos) (mRng1 fs) := by
  refine pi_weak (pi_range1 hg hm ha hs) fun σ H R q => (TIs.src q).imp fun vs H1 ⟨ι2, h2, ys, rh2, r2, q2⟩ => ?_
  split at q2
  · rename_i j
    split at q2
    · rename_i hb
      obtain rfl := r2.int1
      refine ⟨j, rfl, hb.1, hb.2, ?_⟩
      have e0 : j.toNat = (j - 0).toNat := by rw [Int.sub_zero]
      rw [e0]
      exact q2 _ _ _ (Aft.refl rh2) srOk_r
    · exact q2.elim
  · exact q2.elim
theorem si_range2 {fs : IE → M (List IV)} (hg : Gl X "range") (hm : X.mg "range" = none) (ha : SA G X W [a, b] fs) (hs : starEach [a, b] X.env = [(false, eval a X.env), (false, eval b X.env)] := by rfl) (hs2 : starEach [b] X.env = [(false, eval b X.env)] := by rfl) :
    SI G X W tg (.Call (.Name "range" p) [a, b] [] pos) (mRng2 fs) := by
  refine pi_weak (pi_range2 hg hm ha hs hs2) fun σ H R q => (TIs.src q).imp fun vs H1 ⟨ι2, h2, ys, rh2, r2, q2⟩ => ?_
  split at q2
  · rename_i i j
    split at q2
    · rename_i hb
      obtain rfl := r2.int2
      exact ⟨i, j, rfl, hb, q2 _ _ _ (Aft.refl rh2) srOk_r⟩
    · exact q2.elim
  · exact q2.elim

/-! ### for -/
/-- what a context of statements can do -/
structure CanS (G : Gx) (X : Cx) (W : WX) (k : Nat) : Prop extends Can G X W k where
  po : PassesOwn (model X.prog X.w) X.A X.env X.xe
  stk : X.stack = X.env :: X.outer
  fr : X.env.frame = some X.env.locals
theorem CanS.tk {k : Nat} (C : CanS G X W k) : Takes X W := fun u s' x => by
  obtain ⟨L, ⟨_, t2⟩, t⟩ := C.tf
  have e : L = X.env.locals := by rw [C.fr] at t2; cases t2; rfl
  subst e
  exact t u s' x
/-- a turn's end -/
def Fl.turn (r : Fl) (f : MS) : Fl := match r with
  | .nx e h => f e h
  | .ct e h => f e h
  | .bk e h => .nx e h
  | .rt v h => .rt v h
  | .ex c e h => .ex c e h
  | .bad => .bad
def Fl.put (r : Fl) (f : MS) : Fl := match r with
  | .nx e h => f e h
  | _ => .bad
def forL (S : Sr) (g : MG) (b : MS) : Nat → Nat → MS
  | 0, _ => fun _ _ => .bad
  | m + 1, i => fun e h => match S.nx i h with
    | .stop => .nx e h
    | .it x => (g x e h).put fun e h => (b e h).turn (forL S g b m (i + 1))
    | .bad => .bad
@[simp] def sFor (f : MI) (g : MG) (b : MS) : MS := fun e h => match f e h with
  | .ok S h => forL S g b (S.n + 1) 0 e h
  | .exc c h => .ex c e h
  | .bad => .bad
theorem PF.only {ι : List Addr} {H : Hp} {D : Ends} {r : Fl} {f : MS} (q : PF G W ι H D (r.put f)) : r.only fun e' h' => PF G W ι H D (f e' h') := by
  cases r <;> first | exact q.elim | exact q
theorem Fl.only.imp {r : Fl} {P Q : IE → IH → Prop} (q : r.only P) (k : ∀ e h, P e h → Q e h) : r.only Q := by
  cases r <;> first | exact q.elim | exact k _ _ q
theorem ss_for {k : Nat} {iter : Expr} {f : MI} {g : MG} {b : MS} {body : List Stmt} (C : CanS G X W k) (hi : SI G X W tg iter f) (hg : SG G X W tg g) (hb : SB G X W body b) (hs : ∀ x, foldedSetIterable iter X.env x = pure x := by intro _; rfl) :
    SS G X W (.For tg iter body [] pos) (sFor f g b) := by
  refine ps_weak (ps_for C.po C.calm hi hg hb hs) fun D σ H hq => ?_
  obtain ⟨ι, e, h, en, rh, q⟩ := hq
  refine ⟨ι, e, h, en, rh, ?_⟩
  simp only [sFor] at q
  cases z : f e h with
  | bad => rw [z] at q; exact q
  | exc c h' => rw [z] at q; exact fun ι' H' a => q ι' σ H' a (en.mono a.pre a.tl)
  | ok S h' =>
    rw [z] at q
    simp only at q
    intro ι1 H1 J a1 so
    refine ⟨fun i m σ' H' => ∃ ι' e' h', REn G.K ι' H' e' σ' ∧ RH G ι' h' H' ∧ ι1 <+: ι' ∧ TL G.K H1 H' ∧ PF G W ι' H' D (forL S g b m i e' h'), ⟨S.n + 1, ι1, e, h', en.mono a1.pre a1.tl, a1.rh, List.prefix_refl _, TL.refl _ _, PF.after a1 q⟩, ?_⟩
    rintro i m σ2 H2 ⟨ι2, e2, h2, en2, rh2, p2, t2, q2⟩
    cases m with
    | zero => exact q2.elim
    | succ m =>
      simp only [forL] at q2
      have s := so i ι2 h2 H2 rh2 p2 t2
      cases zn : S.nx i h2 with
      | stop =>
        rw [zn] at q2 s
        exact .inl ⟨s, q2 ι2 σ2 H2 (Aft.refl rh2) en2⟩
      | bad => rw [zn] at q2; exact q2.elim
      | it x =>
        rw [zn] at q2 s
        simp only at q2 s
        refine .inr ⟨s.1, _, fun σ' H' n => ⟨m, Nat.lt_succ_self m, n⟩, fun v H3 hy => ?_⟩
        obtain ⟨ι3, a3, r3⟩ := s.2 v H3 hy
        refine ⟨ι3, e2, h2, x, en2.mono a3.pre a3.tl, a3.rh, r3, (PF.only (PF.after a3 q2)).imp fun e4 h4 q4 => ?_⟩
        intro ι4 σ4 H4 a4 en4
        refine ⟨ι4, e4, h4, en4, a4.rh, ?_⟩
        have q5 := PF.after a4 q4
        have pre4 : ι1 <+: ι4 := p2.trans (a3.pre.trans a4.pre)
        have tl4 : TL G.K H1 H4 := t2.trans (a3.tl.trans a4.tl)
        cases zb : b e4 h4 with
        | nx e5 h5 => rw [zb] at q5; exact fun ι' σ' H' a en => ⟨ι', e5, h5, en, a.rh, pre4.trans a.pre, tl4.trans a.tl, PF.after a q5⟩
        | ct e5 h5 => rw [zb] at q5; exact fun ι' σ' H' a en => ⟨ι', e5, h5, en, a.rh, pre4.trans a.pre, tl4.trans a.tl, PF.after a q5⟩
        | bk e5 h5 => rw [zb] at q5; exact q5
        | rt v5 h5 => rw [zb] at q5; exact q5
        | ex c5 e5 h5 => rw [zb] at q5; exact q5
        | bad => rw [zb] at q5; exact q5

/-! ### while -/
def whileL (c : ME) (b : MS) : Nat → MS
  | 0 => fun _ _ => .bad
  | m + 1 => fun e h => (c e h).st e fun x e h => match x with
    | .bl true => (b e h).turn (whileL c b m)
    | .bl false => .nx e h
    | _ => .bad
/-- the fuel: a number of the state -/
@[simp] def sWhile (n : IE → IH → Nat) (c : ME) (b : MS) : MS := fun e h => whileL c b (n e h) e h
theorem ss_while {k : Nat} {n : IE → IH → Nat} {b : MS} {body : List Stmt} (C : CanS G X W k) (hc : SC G X W c fc) (hb : SB G X W body b) : SS G X W (.While c body [] pos) (sWhile n fc b) := by
  refine ps_weak (ps_while C.po hc hb) fun D σ H hq => ?_
  obtain ⟨ι, e, h, en, rh, q⟩ := hq
  refine ⟨fun m σ' H' => ∃ ι' e' h', REn G.K ι' H' e' σ' ∧ RH G ι' h' H' ∧ PF G W ι' H' D (whileL fc b m e' h'), ⟨n e h, ι, e, h, en, rh, q⟩, ?_⟩
  rintro m σ2 H2 ⟨ι2, e2, h2, en2, rh2, q2⟩
  cases m with
  | zero => exact q2.elim
  | succ m =>
    refine ⟨ι2, e2, h2, en2, rh2, ?_⟩
    simp only [whileL] at q2
    cases z : fc e2 h2 with
    | bad => rw [z] at q2; exact q2
    | exc c h' => rw [z] at q2; exact fun ι' H' a => q2 ι' σ2 H' a (en2.mono a.pre a.tl)
    | ok x h3 =>
      rw [z] at q2
      cases x <;> try exact q2.elim
      rename_i t
      cases t with
      | false =>
        intro ι' H' a
        show if false = true then _ else _
        rw [if_neg Bool.false_ne_true]
        exact q2 ι' σ2 H' a (en2.mono a.pre a.tl)
      | true =>
        intro ι3 H3 a3
        show if true = true then _ else _
        rw [if_pos rfl]
        refine ⟨_, fun σ' H' n => ⟨m, Nat.lt_succ_self m, n⟩, ι3, e2, h3, en2.mono a3.pre a3.tl, a3.rh, ?_⟩
        have q5 := PF.after a3 q2
        simp only [Res.st] at q5
        cases zb : b e2 h3 with
        | nx e5 h5 => rw [zb] at q5; exact fun ι' σ' H' a en => ⟨ι', e5, h5, en, a.rh, PF.after a q5⟩
        | ct e5 h5 => rw [zb] at q5; exact fun ι' σ' H' a en => ⟨ι', e5, h5, en, a.rh, PF.after a q5⟩
        | bk e5 h5 => rw [zb] at q5; exact q5
        | rt v5 h5 => rw [zb] at q5; exact q5
        | ex c5 e5 h5 => rw [zb] at q5; exact q5
        | bad => rw [zb] at q5; exact q5
end
end Sh

/-! Sh8: raise; methods of lists; several targets; a def by its body. -/
namespace Sh
open PySem PySem.Spec PyProof.Rows L2

/-- an own exception class without a body -/
structure KX (G : Gx) (c : String) : Prop where
  ex : ∃ (B newId initId : String) (bmB : List Value), ExcBaseFacts B newId initId bmB ∧ PySem.W.excIn G.K (He.ga G.K (Str.ofString c)) bmB newId = true
  kp : PySem.W.keepIn G.K (.ref (He.ga G.K (Str.ofString c))) = true
  sub : PySem.W.subIn G.K (.ref (He.ga G.K (Str.ofString c))) (.type "BaseException") = some true
  ty : PySem.W.typeIn G.K (.ref (He.ga G.K (Str.ofString c))) = some (.type "type")
/-- the built-in types whose methods are called -/
inductive BT where
  | list | str | dict
def BT.nm : BT → String
  | .list => "list"
  | .str => "str"
  | .dict => "dict"
/-- of that type now -/
def okT (t : BT) (x : IV) (h : IH) : Bool := match t, x with
  | .str, .str _ => true
  | .list, .ref n => match h[n]? with
    | some (.lst _) => true
    | _ => false
  | .dict, .ref n => match h[n]? with
    | some (.dic _ _) => true
    | _ => false
  | _, _ => false
section
variable {G : Gx} {X : Cx} {W : WX} {a b c e o tg : Expr} {es : List Expr} {fa fb fc : ME} {fs : IE → M (List IV)} {p p2 pos pos' apos cpos : Pos} {x : Str} {k : Nat}
@[simp] def sRaise (c : String) : MS := fun e h => .ex c e h
theorem ss_raise {c : String} {m : Str} {j : Nat} (C : CanS G X W k) (F : KX G c) (hg : Gl X x) (gC : X.mg x = some (.ref (He.ga G.K (Str.ofString c)))) (hdb : (x == ("__debug__" : Str)) = false := by decide) :
    SS G X W (.Raise (some (.Call (.Name x p) [.Constant (.str m) j p2] [] pos)) none pos') (sRaise c) := by
  obtain ⟨B, n, i, bm, f, q⟩ := F.ex
  have q' : PySem.W.excIn X.K (He.ga G.K (Str.ofString c)) bm n = true := by rw [C.hK]; exact q
  refine ps_weak (ps_raise C.calm C.tk (pmk_own f q' gC (by rw [C.hK]; exact F.kp) (raises_own (by rw [C.hK]; exact F.sub) (by rw [C.hK]; exact F.ty)) hg hdb)) fun D σ H ⟨ι, e, h, en, rh, q⟩ => q ι σ H (Aft.refl rh) en

/-! ### methods of built-in types -/
theorem okT_ty {t : BT} {x : IV} {v : V} {ι : List Addr} {h : IH} {H : Hp} (hK : X.K = G.K) (rh : RH G ι h H) (r : RV G.K ι H x v) (q : okT t x h = true) : tyV X.K t.nm v H := by
  unfold okT at q
  split at q
  · obtain rfl := str_iff.mp r
    rfl
  · rename_i n
    obtain ⟨a, ia, rfl⟩ := ref_iff.mp r
    split at q
    · rename_i xs z
      obtain ⟨vs, hv, rs⟩ := rh.at z ia
      exact .inl ⟨rfl, vs, SqL.of hv⟩
    · cases q
  · rename_i n
    obtain ⟨a, ia, rfl⟩ := ref_iff.mp r
    split at q
    · rename_i b kvs z
      cases b with
      | false =>
        obtain ⟨ws, hv, rs⟩ := rh.at z ia
        exact .inr (.inr (.inl ⟨rfl, .inl ⟨ws, hv⟩⟩))
      | true =>
        obtain ⟨ws, hv, rs⟩ := rh.at z ia
        exact .inr (.inr (.inl ⟨rfl, .inr ⟨ws, hv⟩⟩))
    · cases q
  · cases q
/-- what a built-in method does, by values -/
def MeanM (G : Gx) (r : V → List V → Hp → VK → Prop) (g : IV → List IV → M IV) : Prop :=
  ∀ x xs v vs ι h H Q, RV G.K ι H x v → RVs G.K ι H xs vs → RH G ι h H → PR G (fun _ _ _ => False) ι H Q (g x xs h) → r v vs H Q
/-- an exception out of a built-in is nothing that we follow -/
@[simp] def noX (r : Res IV) : Res IV := match r with
  | .ok x h => .ok x h
  | _ => .bad
theorem PR.noX {Wh : Value → Option Addr → Hp → Prop} {ι : List Addr} {H : Hp} {Q : VK} {r : Res IV} (p : PR G Wh ι H Q (noX r)) : PR G (fun _ _ _ => False) ι H Q r := by
  cases r <;> first | exact p | exact p.elim
@[simp] def mBM (t : BT) (g : IV → List IV → M IV) (fo : ME) (fs : IE → M (List IV)) : ME := fun e h => (fo e h).bind fun x h1 => if okT t x h1 = true then (fs e h1).bind fun xs h2 => noX (g x xs h2) else .bad
theorem se_bm {t : BT} {id : String} {name : Str} {r : V → List V → Hp → VK → Prop} {g : IV → List IV → M IV} {fo : ME} (hK : X.K = G.K) (pa : PlainAttrs t.nm) (slot : Slot t.nm name id) (hty : typeOf (.builtin id) = pure (.type "method_descriptor")) (hm : MtR X id r) (hg : MeanM G r g)
    (ho : SE G X W o fo) (ha : SA G X W (e :: es) fs) (hbase : attributeBase o name X.env (eval o X.env) = eval o X.env := by rfl)
    (hfew : ((backTo cpos (starEach (e :: es) X.env)).all (fun x => !x.1) && (backToKw cpos (keywordEach [] X.env)).all (fun x => x.1.isSome)
      && decide ((e :: es).length + ([] : List Keyword).length + (if ([] : List Keyword).isEmpty then 0 else 1) < 30)) = true := by rfl)
    (hline : (apos.endLine == cpos.line) = true := by rfl) (hs : starEach (e :: es) X.env = (false, eval e X.env) :: starEach es X.env := by rfl) (hplain : (backTo cpos (starEach es X.env)).any (·.1) = false := by rfl) :
    SE G X W (.Call (.Attribute o name apos) (e :: es) [] cpos) (mBM t g fo fs) := by
  refine pe_weak (pe_bm pa slot hty hm ho ha hbase hfew hline hs hplain) fun σ H Q hq => ?_
  obtain ⟨ι, e0, h, en, rh, q⟩ := hq
  refine TI.bind (Wh := fun c d H' => W c d σ H') en rh q fun x v ι1 h1 H1 a1 en1 r1 q1 => ?_
  by_cases ho : okT t x h1 = true
  · rw [if_pos ho] at q1
    refine ⟨okT_ty hK a1.rh r1 ho, ?_⟩
    refine TIs.bind en1 a1.rh q1 fun xs vs ι2 h2 H2 a2 en2 r2 q2 => ?_
    exact hg x xs v vs ι2 h2 H2 Q (r1.mono a2.pre a2.tl) r2 a2.rh q2.noX
  · rw [if_neg ho] at q1; exact q1.elim
theorem se_bm0 {t : BT} {id : String} {name : Str} {r : V → List V → Hp → VK → Prop} {g : IV → List IV → M IV} {fo : ME} (hK : X.K = G.K) (pa : PlainAttrs t.nm) (slot : Slot t.nm name id) (hty : typeOf (.builtin id) = pure (.type "method_descriptor")) (hm : MtR X id r) (hg : MeanM G r g)
    (ho : SE G X W o fo) (hbase : attributeBase o name X.env (eval o X.env) = eval o X.env := by rfl) (hline : (apos.endLine == cpos.line) = true := by rfl) : SE G X W (.Call (.Attribute o name apos) [] [] cpos) (mBM t g fo mNil) := by
  refine pe_weak (pe_bm0 pa slot hty hm ho hbase hline) fun σ H Q hq => ?_
  obtain ⟨ι, e0, h, en, rh, q⟩ := hq
  refine TI.bind (Wh := fun c d H' => W c d σ H') en rh q fun x v ι1 h1 H1 a1 en1 r1 q1 => ?_
  by_cases ho : okT t x h1 = true
  · rw [if_pos ho] at q1
    refine ⟨okT_ty hK a1.rh r1 ho, ?_⟩
    simp only [mNil, Res.bind] at q1
    exact hg x [] v [] ι1 h1 H1 Q r1 RVs.nil a1.rh q1.noX
  · rw [if_neg ho] at q1; exact q1.elim
/-- xs.append(y) -/
@[simp] def gAppend : IV → List IV → M IV := fun x ys h => match x, ys with
  | .ref n, [y] => match h[n]? with
    | some (.lst xs) => if xs.length < sizeLine then .ok .non (h.set n (.lst (xs ++ [y]))) else .bad
    | _ => .bad
  | _, _ => .bad
theorem mean_append : MeanM G rAppend gAppend := by
  intro x xs v vs ι h H Q rx rs rh p
  unfold gAppend at p
  split at p
  · rename_i n y
    obtain ⟨q, iq, rfl⟩ := ref_iff.mp rx
    unfold RVs at rs
    obtain ⟨w, ws, rfl, rw', rs⟩ := rs
    unfold RVs at rs
    subst rs
    split at p
    · rename_i xs z
      obtain ⟨vs, hv, r⟩ := rh.at z iq
      split at p
      · rename_i hl
        refine ⟨q, vs, w, rfl, rfl, hv, by rw [← r.len]; exact hl, ?_⟩
        exact p _ _ _ (set_lst rh z iq (RVs.app r (RVs.one rw'))) (non_iff.mpr rfl)
      · exact p.elim
    · exact p.elim
  · exact p.elim
end

/-! ### a def by its body -/
/-- a def's meaning: the slots N, the parameters first -/
def fnM (N : List Str) (b : MS) : Fn := fun xs h => match b (xs.map some ++ List.replicate (N.length - xs.length) none) h with
  | .rt v h => .ok v h
  | .nx _ h => .ok .non h
  | .ex c _ h => .exc c h
  | _ => .bad
theorem REn.app {K : PySem.W.Frag} {ι : List Addr} {H : Hp} : ∀ {e1 e2 : IE} {s1 s2 : L2.St}, REn K ι H e1 s1 → REn K ι H e2 s2 → REn K ι H (e1 ++ e2) (s1 ++ s2)
  | [], _, _, _, a, b => by unfold REn at a; subst a; exact b
  | x :: xs, _, _, _, a, b => by
    unfold REn at a
    obtain ⟨v, r, rfl, a1, a2⟩ := a
    exact ⟨v, _, rfl, a1, REn.app a2 b⟩
theorem REn.somes {K : PySem.W.Frag} {ι : List Addr} {H : Hp} : ∀ {xs : List IV} {vs : List V}, RVs K ι H xs vs → REn K ι H (xs.map some) (vs.map some)
  | [], _, r => by unfold RVs at r; subst r; unfold REn; rfl
  | x :: xs, _, r => by
    unfold RVs at r
    obtain ⟨v, w, rfl, rv, rs⟩ := r
    exact ⟨some v, _, rfl, ⟨v, rfl, rv⟩, REn.somes rs⟩
theorem REn.nones {K : PySem.W.Frag} {ι : List Addr} {H : Hp} : ∀ n : Nat, REn K ι H (List.replicate n none) (List.replicate n none)
  | 0 => by unfold REn; rfl
  | n + 1 => ⟨none, _, rfl, trivial, REn.nones n⟩
theorem REn.start {K : PySem.W.Frag} {ι : List Addr} {H : Hp} {xs : List IV} {vs : List V} (N : List Str) (r : RVs K ι H xs vs) : REn K ι H (xs.map some ++ List.replicate (N.length - xs.length) none) (L2.start N vs) := by
  unfold L2.start
  rw [r.len]
  exact REn.app (REn.somes r) (REn.nones _)
section
variable {G : Gx} {P : Program} {w : World} {mg : Str → Option Value} {base : Heap} {x qual : Str} {params : Arguments} {body : List Stmt} {scope : Scope} {f : Addr} {fd : FuncData} {N ps : List Str} {k : Nat} {b : MS}
/-- the wish of a def's body -/
abbrev dW (E : XK) : WX := fun cls d _ H' => E cls d H'
/-- a def's body runs in this context -/
abbrev dX (P : Program) (w : World) (K : PySem.W.Frag) (mg : Str → Option Value) (base : Heap) (N : List Str) (qual : Str) (scope : Scope) (f : Addr) (cd : Value) (A : Around) (outer : List Env) (s : Shared) (H : Hp) (E : XK) : Cx := cxOf (L2.CX P w) P w K mg base N qual scope f cd A outer s H E
theorem canS_cx {cd : Value} {A : Around} {outer : List Env} {s : Shared} {H : Hp} {E : XK} (hr : Room k (A.deeper (envOfC qual scope s.heap.objs.size f cd))) (nd : N.Nodup) : CanS G (dX P w G.K mg base N qual scope f cd A outer s H E) (dW E) k := by
  have tk : Takes (dX P w G.K mg base N qual scope f cd A outer s H E) (dW E) := takes_of rfl rfl rfl rfl
  refine ⟨⟨⟨_, ⟨⟨_, _, rfl, rfl⟩, rfl⟩, fun u s' x => tk u s' x⟩, hr, rfl, nd, rfl⟩, passes_of rfl, rfl, rfl⟩
theorem kn_of (F : FunD G.K x qual params body scope [] [] f fd) (S : FnScope N ps scope)
    (hbn : ∀ (kV doc pm : Value) (an : Option Addr) (cdv ct : Value) (us : List Value), us.length = ps.length → bindArgs (PySem.W.fnOf x qual params body scope .none kV doc pm an cdv ct) ⟨us, []⟩ = pure (ps.zip us)) {p : He.Defn} (hp : f = He.fAd G.K p)
    (hb : ∀ (cdv : Value) (A : Around) (outer : List Env) (s : Shared) (H : Hp) (E : XK), cdv = .ref (He.codeOf G.K p) → CanS G (dX P w G.K mg base N qual scope f cdv A outer s H E) (dW E) k → SB G (dX P w G.K mg base N qual scope f cdv A outer s H E) (dW E) body b) :
    Kn G P w mg base (k + 1) f ps.length (fnM N b) := by
  refine ⟨⟨fd, ps, rfl, ?_, FunD.bindsN F hbn⟩, F.kp⟩
  obtain ⟨oc, od, dV, kV, doc, pm, an, cdv, ct, osl, rfl, lk, hcd, _, _⟩ := F.ex
  obtain ⟨c, ec⟩ := He.codeIn_ref hcd
  have lk' := lk
  rw [hp] at lk'
  have ecd : cdv = .ref (He.codeOf G.K p) := by
    rw [He.codeOf_eq lk' (c := c) (by subst ec; rfl)]
    exact ec
  refine fn_of lk hcd S (fun vs H Q E h => h.1) fun A outer s H vs Q E hr hsp => ⟨_, hb cdv A outer s H E ecd (canS_cx hr S.nd), ?_⟩
  obtain ⟨hl, ι, h, xs, rs, rh, q⟩ := hsp
  refine ⟨ι, _, h, REn.start N rs, rh, ?_⟩
  unfold fnM at q
  cases z : b (xs.map some ++ List.replicate (N.length - xs.length) none) h with
  | nx e h' => rw [z] at q; exact fun ι' σ' H' a en => q ι' H' .non a (non_iff.mpr rfl)
  | rt v h' => rw [z] at q; exact fun ι' v' H' a r => q ι' H' v' a r
  | bk e h' => rw [z] at q; exact q.elim
  | ct e h' => rw [z] at q; exact q.elim
  | ex c e h' => rw [z] at q; exact fun ι' σ' H' a en => q ι' H' a
  | bad => rw [z] at q; exact q
/-- a known def, one level up -/
theorem Kn.mono {n : Nat} {m : Fn} {j : Nat} (F : Kn G P w mg base j f n m) (h : j ≤ k) : Kn G P w mg base k f n m := by
  obtain ⟨⟨fd, ps, h1, h2, h3⟩, kp⟩ := F
  exact ⟨⟨fd, ps, h1, h2.mono h, h3⟩, kp⟩
end
end Sh

/-! Sh9: constants of the module; several names at once. -/
namespace Sh
open PySem PySem.Spec PyProof.Rows L2
theorem RVo.mk {K : PySem.W.Frag} {ι : List Addr} {H : Hp} {x : IV} {v : V} (r : RV K ι H x v) : RVo K ι H (some x) (some v) := ⟨v, rfl, r⟩
section
variable {G : Gx} {X : Cx} {W : WX} {a b c e o tg : Expr} {es : List Expr} {fa fb fc : ME} {fs : IE → M (List IV)} {pos pos' : Pos} {x y z : Str} {k : Nat}
theorem se_gi {i : Int} (hm : ∃ t, X.mg x = some (.int i t)) (hg : Gl X x) (hd : (x == ("__debug__" : Str)) = false := by decide) : SE G X W (.Name x pos) (mC (.int i)) :=
  let ⟨t, h⟩ := hm; se_c (v := .int i) (pe_glob hg h ⟨t, rfl⟩ hd) fun _ _ => int_iff.mpr rfl
theorem se_gs {s : Str} {u : List Nat} (hm : ∃ t, X.mg x = some (.str s t)) (hg : Gl X x) (hs : s = sS u := by rfl) (hd : (x == ("__debug__" : Str)) = false := by decide) : SE G X W (.Name x pos) (mC (.str u)) :=
  let ⟨t, h⟩ := hm; se_c (v := .str s) (pe_glob hg h ⟨t, rfl⟩ hd) fun _ _ => str_iff.mpr (by rw [hs])
/-- names at once, the values evaluated first -/
@[simp] def sPar2 (i j : Nat) (fs : IE → M (List IV)) : MS := fun e h => match fs e h with
  | .ok [x, y] h1 => .nx ((e.set i (some x)).set j (some y)) h1
  | .exc c h1 => .ex c e h1
  | _ => .bad
@[simp] def sPar3 (i j l : Nat) (fs : IE → M (List IV)) : MS := fun e h => match fs e h with
  | .ok [x, y, z] h1 => .nx (((e.set i (some x)).set j (some y)).set l (some z)) h1
  | .exc c h1 => .ex c e h1
  | _ => .bad
theorem ss_par2 {i j : Nat} {px py pt : Pos} {kt k2 pt2} (C : Can G X W k) (hi : X.N[i]? = some x) (hj : X.N[j]? = some y) (hij : i ≠ j) (hx : X.env.scope.names.lookup x = some .local) (hy : X.env.scope.names.lookup y = some .local) (ha : SA G X W [a, b] fs)
    (hw : swappedStores [.Tuple [.Name x px, .Name y py] kt pt] (.Tuple [a, b] k2 pt2) X.env = pure (some [x, y]))
    (hs : swapsWithSole [.Tuple [.Name x px, .Name y py] kt pt] (.Tuple [a, b] k2 pt2) pos.line X.env = pure false := by rfl) :
    SS G X W (.Assign [.Tuple [.Name x px, .Name y py] kt pt] (.Tuple [a, b] k2 pt2) pos) (sPar2 i j fs) := by
  refine ps_weak (ps_par C.calm C.nd hi hj hij hx hy ha hw hs) fun D σ H hq => ?_
  obtain ⟨ι, e, h, en, rh, q⟩ := hq
  refine ⟨ι, e, h, en, rh, ?_⟩
  simp only [sPar2] at q
  cases z : fs e h with
  | bad => rw [z] at q; exact q
  | exc c h1 => rw [z] at q; exact fun ι' H' a => q ι' σ H' a (en.mono a.pre a.tl)
  | ok xs h1 =>
    rw [z] at q
    intro ι1 H1 vs a r
    match xs, q with
    | [u, v], q =>
      unfold RVs at r
      obtain ⟨w1, r, rfl, r1, rr⟩ := r
      unfold RVs at rr
      obtain ⟨w2, r, rfl, r2, rr⟩ := rr
      unfold RVs at rr
      subst rr
      exact ⟨w1, w2, rfl, q ι1 _ H1 a (((en.mono a.pre a.tl).set i (RVo.mk r1)).set j (RVo.mk r2))⟩
    | [], q => exact q.elim
    | [_], q => exact q.elim
    | _ :: _ :: _ :: _, q => exact q.elim
theorem ss_par3 {i j l : Nat} {px py pz pt : Pos} {kt k2 pt2} (C : Can G X W k) (hi : X.N[i]? = some x) (hj : X.N[j]? = some y) (hl : X.N[l]? = some z) (hij : i ≠ j) (hil : i ≠ l) (hjl : j ≠ l)
    (hx : X.env.scope.names.lookup x = some .local) (hy : X.env.scope.names.lookup y = some .local) (hz : X.env.scope.names.lookup z = some .local) (ha : SA G X W [a, b, c] fs)
    (hw : swappedStores [.Tuple [.Name x px, .Name y py, .Name z pz] kt pt] (.Tuple [a, b, c] k2 pt2) X.env = pure (some [x, y, z]))
    (hs : swapsWithSole [.Tuple [.Name x px, .Name y py, .Name z pz] kt pt] (.Tuple [a, b, c] k2 pt2) pos.line X.env = pure false := by rfl) :
    SS G X W (.Assign [.Tuple [.Name x px, .Name y py, .Name z pz] kt pt] (.Tuple [a, b, c] k2 pt2) pos) (sPar3 i j l fs) := by
  refine ps_weak (ps_par3 C.calm C.nd hi hj hl hij hil hjl hx hy hz ha hw hs) fun D σ H hq => ?_
  obtain ⟨ι, e, h, en, rh, q⟩ := hq
  refine ⟨ι, e, h, en, rh, ?_⟩
  simp only [sPar3] at q
  cases z : fs e h with
  | bad => rw [z] at q; exact q
  | exc c h1 => rw [z] at q; exact fun ι' H' a => q ι' σ H' a (en.mono a.pre a.tl)
  | ok xs h1 =>
    rw [z] at q
    intro ι1 H1 vs a r
    match xs, q with
    | [u, v, t], q =>
      unfold RVs at r
      obtain ⟨w1, r, rfl, r1, rr⟩ := r
      unfold RVs at rr
      obtain ⟨w2, r, rfl, r2, rr⟩ := rr
      unfold RVs at rr
      obtain ⟨w3, r, rfl, r3, rr⟩ := rr
      unfold RVs at rr
      subst rr
      exact ⟨w1, w2, w3, rfl, q ι1 _ H1 a ((((en.mono a.pre a.tl).set i (RVo.mk r1)).set j (RVo.mk r2)).set l (RVo.mk r3))⟩
    | [], q => exact q.elim
    | [_], q => exact q.elim
    | [_, _], q => exact q.elim
    | _ :: _ :: _ :: _ :: _, q => exact q.elim
end
end Sh

/-! Sh10: list comprehensions, exceptions passing through. -/
namespace Sh
open PySem PySem.Spec PyProof.Rows L2
/-- a comprehension's block, its exceptions as xe says -/
abbrev blkX (X : Cx) (s : Shared) (H : Hp) (scope : Scope) (cenv : Env) (fp : List Addr) (xe : Value → Shared → Prop) : Cx := Cx.wish (X.blk s H scope cenv fp) xe
/-- a block's wish: the slots of the def around stay -/
abbrev bW (W : WX) (σ : L2.St) : WX := fun c d _ H' => W c d σ H'
theorem heldZ_hide {B h h' : Heap} {l : List Env} {a C L : Addr} {Z : Obj → Prop} {m m' : Str → Option Value} (hh : HandSPX.HeldZ B l a Z L h) (hn : h.Ns C m) (hn' : h'.Ns C m') (hs : Heap.SameBut C h h') : HandSPX.HeldZ (PySem.W.hideAll B [C]) l a Z L h' := by
  obtain ⟨b1, b2, b3, oe, vs, T, oT, ts, he, hz, hd, h1, nT, Te, hT, dT, h3⟩ := hh
  have ne : ∀ b o vs, h.get? b = some o → o.data = .fields vs → b ≠ C := fun b o vs e d z => by
    obtain ⟨oC, es, ep, e', d', _⟩ := hn
    rw [z, e'] at e
    cases e
    rw [d'] at d
    cases d
  refine ⟨fun b o e => ?_, ?_, ?_, oe, vs, T, oT, ts, (hs.2 a (ne a oe vs he hd)).trans he, hz, hd, h1, ?_, Te, (hs.2 T (ne T oT ts hT dT)).trans hT, dT, h3⟩
  · by_cases hb : b = C
    · rw [hb, PySem.W.hideAll_none _ (by simp)] at e; cases e
    · exact (hs.2 b hb).trans (b1 b o (PySem.W.of_hideAll _ e))
  · cases q : (PySem.W.hideAll B [C]).get? a with
    | none => rfl
    | some o => rw [PySem.W.of_hideAll _ q] at b2; cases b2
  · refine funFrames_none (Heap.FunFrames.sameBut hs hn' b3) fun L hL => ?_
    cases q : (PySem.W.hideAll B [C]).get? L with
    | none => rfl
    | some o =>
      have := (b3.mem hL).1
      rw [PySem.W.of_hideAll _ q] at this; cases this
  · cases q : (PySem.W.hideAll B [C]).get? T with
    | none => rfl
    | some o => rw [PySem.W.of_hideAll _ q] at nT; cases nT
/-- noted by the frame that runs -/
theorem sky_note {M : Model} {A : Around} {E₁ : Value → Shared → Prop} {env cenv : Env} {outer : List Env} {B : Heap} {L a : Addr} {Z : Obj → Prop} {s : Shared} {Q : Unit → Shared → Prop} (hZ : HandSPX.Steady Z) (hfr : A.frames = some (env :: outer)) (hf : env.frame = some L) (hc : cenv.frame = some L)
    (x : Sky B (env :: outer) a Z L s.heap) (hQ : ∀ h', HandSPX.HeldZ B (env :: outer) a Z L h' → s.heap.UpToSlots h' → Q () { s with heap := h' }) : wpAny M A (noteFrame (.ref a) cenv) Q E₁ s := by
  rw [noteFrame_env _ (hc.trans hf.symm)]
  rcases x with ⟨hB, hn, hl, oe, vs, he, hz, hd, h1⟩ | fl | hh
  · exact HandSPX.look_newZ hZ hfr hl hf he hB hn hd h1 hz hQ
  · exact HandSPX.looks_onZ hZ hfr hf fl hQ
  · exact HandSPX.againZ hf hh.2.2.2 (hQ s.heap hh (Heap.UpToSlots.refl _))
section
variable {X : Cx} {W : WX} {L : Addr} {pins : List (Addr × Obj)} {σ : L2.St} {H3 : Hp} {s3 : Shared} {scope : Scope} {ce : Env} {fp : List Addr}
/-- what a block lets out goes on in the def around -/
theorem blk_out (tp : Top X L) (tf : ∀ u s', XF X W L u s' → X.xe u s') (I3 : Inv X pins σ H3 s3) (f3 : ∀ b ∈ fp, FpOk X pins H3 b) (cL : ce.locals = s3.heap.objs.size) (cF : ce.frame = X.env.frame) (u : Value) (s' : Shared)
    (x : XF (blkX X s3 H3 scope ce fp (notedBy (model X.prog X.w) X.A ce (CompFails (model X.prog X.w) X.A X.xe ce))) (bW W σ) L u s') : notedBy (model X.prog X.w) X.A ce (CompFails (model X.prog X.w) X.A X.xe ce) u s' := by
  obtain ⟨a, B, sI, pins', σ', H', cls, d, rfl, J, nb, up, sky, na, os, ag, w⟩ := x
  obtain ⟨⟨env, outer, hst, hf⟩, hXf⟩ := tp
  have hfr : X.A.frames = some (env :: outer) := by rw [I3.ok.frames, hst]
  have sky' : Sky B (env :: outer) a (Zc cls d) L s'.heap := by rw [← hst]; exact sky
  have nb' : ∀ b o, sI.heap.get? b = some o → b ∉ frs (env :: outer) → B.get? b = some o := by rw [← hst]; exact nb
  obtain ⟨mC, hnC, _⟩ := J.loc
  have hnC : sI.heap.Ns ce.locals mC := hnC
  have nC : H' s3.heap.objs.size = none := by
    have z : H' ce.locals = none := J.free
    rw [cL] at z; exact z
  show wpAny _ X.A (noteFrame (.ref a) ce) _ _ _
  refine sky_note Zc.steady hfr hf (cF.trans hXf) sky' fun h1 held1 up1 => ?_
  have hn1 : h1.Ns ce.locals mC := hnC.upToSlots fun b o e hnf => (up.trans up1) b o e hnf
  refine ⟨mC, hn1, fun h2 m2 hn2 sb2 => ?_⟩
  have held2 := heldZ_hide held1 hn1 hn2 sb2
  obtain ⟨b1, b2, b3, oe, vs, T, oT, ts, he, hz, hd, hv1, _⟩ := id held2
  unfold PySem.passOn
  refine wpAny_bind (wpAny_field he hd hv1 ?_)
  rw [if_neg (show ¬ ((Value.ref T == Value.none) = true) from by simp)]
  have fin : wpAny (model X.prog X.w) X.A (setFlight (.ref a) ce.frame) (fun _ s4 => wpAny (model X.prog X.w) X.A (throw (.ref a) : Sem Value) (fun _ _ => False) X.xe s4) X.xe { s' with heap := h2 } := by
    rw [cF, hXf]
    refine HandSPX.setFlight_onZ held2 fun h4 held4 up4 => wpAny_throw (tf _ _ ?_)
    have I7 : Inv X pins σ H' sI := I3.call' (ch := fp) J.os J.base J.hok J.bare fun b hb => ⟨(f3 b hb).2.2.2.1, (f3 b hb).2.1, (f3 b hb).2.2.2.2.1, (f3 b hb).2.2.2.2.2⟩
    have fC : FpOk X pins H' s3.heap.objs.size := I3.fpOk (Nat.le_refl _) nC
    obtain ⟨f0, f1, f2, f3, f4, f5⟩ := fC
    have I8 : Inv X pins σ H' { sI with heap := PySem.W.hideAll sI.heap [s3.heap.objs.size] } := I7.turned (t' := sI.toks) (it := s3.heap.objs.size) (fun b o hb e => PySem.W.hideAll_get _ e (by simpa using hb)) f0 f1 f3 f4 f5
    refine ⟨a, PySem.W.hideAll B [ce.locals], _, pins, σ, H', cls, d, rfl, I8, fun b o e hb => ?_, fun b o e hnf => ?_, .inr (.inr (by rw [hst]; exact held4)), na, os, ag, w⟩
    · have hne : b ≠ s3.heap.objs.size := fun z => by
        rw [z] at e
        rw [PySem.W.hideAll_none _ (by simp)] at e
        cases e
      rw [hst] at hb
      exact PySem.W.hideAll_get _ (nb' b o (PySem.W.of_hideAll _ e) hb) (by rw [cL]; simpa using hne)
    · have hne : b ≠ s3.heap.objs.size := fun z => by
        rw [z] at e
        have e' : (PySem.W.hideAll sI.heap [s3.heap.objs.size]).get? s3.heap.objs.size = some o := e
        rw [PySem.W.hideAll_none _ (by simp)] at e'
        cases e'
      obtain ⟨sl, e1⟩ := (up.trans up1) b o (PySem.W.of_hideAll _ e) hnf
      obtain ⟨sl2, e2⟩ := up4 b _ ((sb2.2 b (by rw [cL]; exact hne)).trans e1) hnf
      exact ⟨sl2, e2⟩
  first
    | exact wpAny_bind (wpAny_pure (wpAny_bind fin))
    | exact wpAny_bind fin
end

/-! ### [elt for target in iter if ..] -/
def wipeI (e : IE) : List Nat → IE
  | [] => e
  | v :: vs => (wipeI e vs).set v none
theorem REn.none {K : PySem.W.Frag} {ι : List Addr} {H : Hp} : ∀ {e : IE} {σ : L2.St} (i : Nat), REn K ι H e σ → REn K ι H (e.set i none) (σ.set i none)
  | [], _, _, h => by unfold REn at h; subst h; unfold REn; rfl
  | x :: xs, _, 0, h => by
    unfold REn at h
    obtain ⟨v, r, rfl, a, b⟩ := h
    exact ⟨_, _, rfl, trivial, b⟩
  | x :: xs, _, i + 1, h => by
    unfold REn at h
    obtain ⟨v, r, rfl, a, b⟩ := h
    exact ⟨_, _, rfl, a, REn.none i b⟩
theorem REn.wipe {K : PySem.W.Frag} {ι : List Addr} {H : Hp} {e : IE} {σ : L2.St} (h : REn K ι H e σ) : ∀ vs : List Nat, REn K ι H (wipeI e vs) (L2.wipe σ vs)
  | [] => h
  | v :: vs => by
    unfold wipeI L2.wipe
    exact REn.none v (REn.wipe h vs)
/-- the loop: d, the new list's place -/
def lcL (S : Sr) (g : MG) (t f : ME) (d : Nat) : Nat → Nat → IE → M IV
  | 0, _, _ => fun _ => .bad
  | m + 1, i, e => fun h => match S.nx i h with
    | .stop => .ok (.ref d) h
    | .it x => match g x e h with
      | .nx e1 h1 => match t e1 h1 with
        | .ok (.bl true) h2 => (f e1 h2).bind fun y h3 => match h3[d]? with
          | some (.lst acc) => if acc.length < sizeLine then lcL S g t f d m (i + 1) e1 (h3.set d (.lst (acc ++ [y]))) else .bad
          | _ => .bad
        | .ok (.bl false) h2 => lcL S g t f d m (i + 1) e1 h2
        | .exc c h2 => .exc c h2
        | _ => .bad
      | _ => .bad
    | .bad => .bad
@[simp] def mLc (it : MI) (vs : List Nat) (g : MG) (t f : ME) : ME := fun e h => match it e h with
  | .ok S h1 => lcL S g t f h1.length (S.n + 1) 0 (wipeI e vs) (h1 ++ [.lst []])
  | .exc c h1 => .exc c h1
  | .bad => .bad
/-- a clause's tests -/
def SQ (G : Gx) (X : Cx) (W : WX) (ifs : List Expr) (f : ME) : Prop := PTs X ifs (TB G W f)
section
variable {G : Gx} {X : Cx} {W : WX} {pins : List (Addr × Obj)} {σ : L2.St} {H : Hp} {s : Shared}
theorem sq_nil : SQ G X W [] (mC (.bl true)) := ⟨fun pins s σ H Q I ⟨ι, e, h, en, rh, q⟩ => pts_nil.run pins s σ H Q I (q ι H (Aft.refl rh))⟩
theorem sq_one {c : Expr} {f : ME} (p : SC G X W c f) : SQ G X W [c] f := pts_one p
/-- the abstract frame of a block -/
structure BX (X : Cx) (scope : Scope) (cenv : Env) : Prop where
  cl : ∃ cl C, cenv = compEnvC scope cl C X.env
theorem lcI_core {k : Nat} {elt tg iter : Expr} {ifs : List Expr} {scope : Scope} {own : List (Str × Nat)} {pos pos' : Pos} {it : MI} {g : MG} {t f : ME} {use : Option (Value → Sem Unit)} {Q : VK} {Qf : Value → Shared → Prop}
    (C : Can G X W k) (I : Inv X pins σ H s) (hi : SI G X W tg iter it) (ok : BlkOk X.N X.env.scope scope own)
    (hb : ∀ (s : Shared) (H : Hp) (cl : List (Str × Addr)) (D : Addr) (fp : List Addr) (xe : Value → Shared → Prop) (W' : WX), Can G (blkX X s H scope (compEnvC scope cl D X.env) fp xe) W' k →
      SG G (blkX X s H scope (compEnvC scope cl D X.env) fp xe) W' tg g ∧ SQ G (blkX X s H scope (compEnvC scope cl D X.env) fp xe) W' ifs t ∧ SE G (blkX X s H scope (compEnvC scope cl D X.env) fp xe) W' elt f)
    (hs : ∀ x, foldedSetIterable iter X.env x = pure x)
    (h : TI G W (mLc it (own.map (·.2)) g t f) σ H Q)
    (hRR : ∀ D ce s' m H', Inv X pins σ H' s' → Q (.ref D) H' → s'.heap.Ns ce.locals m → FpOk X pins H' ce.locals → compEnds (model X.prog X.w) X.A X.xe use Qf (.ref D) ce (.ok .next) s') :
    wpAny (model X.prog X.w) X.A (comprehension (.ListComp elt [⟨tg, iter, ifs, 0⟩] scope pos) scope X.env pos' (newList []) false (eval iter X.env) use) Qf X.xe s := by
  obtain ⟨L, tp, tf⟩ := C.tf
  have hfree : ∀ y ∈ scope.names, y.2 = .free → ∃ c, X.env.cells.lookup y.1 = some c := fun y hy e => by
    rcases ok.free y hy e with k | k
    · exact I.ok.has _ (.inl k)
    · exact I.ok.has _ (.inr k)
  obtain ⟨ι, e, h0, en, rh, hq⟩ := h
  have hT : TII G W it σ H fun J H1 => ∃ S ι1 h1, Aft G ι H ι1 h1 H1 ∧ SrOk G ι1 H1 S J ∧ PR G (fun c d H' => W c d σ H') ι1 H1 Q (lcL S g t f h1.length (S.n + 1) 0 (wipeI e (own.map (·.2))) (h1 ++ [.lst []])) := by
    refine ⟨ι, e, h0, en, rh, ?_⟩
    simp only [mLc] at hq
    cases z : it e h0 with
    | bad => rw [z] at hq; exact hq
    | exc c h1 => rw [z] at hq; exact hq
    | ok S h1 =>
      rw [z] at hq
      exact fun ι1 H1 J a so => ⟨S, ι1, h1, a, so, PR.after a hq⟩
  refine comprehension_at (use := use) rfl hs (closure_ok hfree) ok.kind (fun y hy e => by rw [ok.uniq y hy, e])
    (thn (hi.run pins s σ H _ I hT) fun xv s1 hx => thn hx fun itv s2 h2 => ?_)
  obtain ⟨itA, fp, tn, J, H2, e2, I2, T, st2, f2, S, ι2, hh2, af2, so, q⟩ := h2
  subst e2
  refine wpAny_newObj_type (newEnv_comp ?_) (by show 0 ≤ sizeLine; decide)
  generalize hD : s2.heap.objs.size = D
  have hDn : H2 D = none := I2.hok.fresh (Nat.le_of_eq hD)
  generalize hs3 : ({ s2 with heap := s2.heap.push { cls := .type "list", data := .seq ([] : List Value).toArray } } : Shared) = s3
  have I3 : Inv X pins σ (upd H2 D (.lst [])) s3 := by
    rw [← hs3]
    refine I2.laid (t' := s2.toks) (fun b o e => Heap.get?_push_of_some _ e) (Nat.le_of_eq hD) ⟨Nat.zero_le _, [], 0, .nil, ?_⟩
    rw [← hD]
    exact Heap.get?_push_size _ rfl
  have h3 : s3.heap = s2.heap.push { cls := .type "list", data := .seq ([] : List Value).toArray } := by rw [← hs3]
  have af3 : Aft G ι2 H2 (ι2 ++ [D]) (hh2 ++ [.lst []]) (upd H2 D (.lst [])) := new_lst af2.rh hDn RVs.nil
  have so3 : SrOk G (ι2 ++ [D]) (upd H2 D (.lst [])) S J := fun i ι' h' H' r p tl => so i ι' h' H' r (af3.pre.trans p) (af3.tl.trans tl)
  have q3 := PR.after af3 q
  have lenD : ι2.length = hh2.length := af2.rh.len
  have dD : (ι2 ++ [D])[hh2.length]? = some D := by rw [← lenD]; simp
  have sz : ∀ b ∈ fp, b < s2.heap.objs.size := fun b hb => by
    obtain ⟨o, e, _⟩ := T.obj _ _ st2 b hb
    exact Heap.lt_size e
  have f3 : ∀ b ∈ fp, FpOk X pins (upd H2 D (.lst [])) b ∧ b < s3.heap.objs.size := fun b hb => by
    have hlt := sz b hb
    refine ⟨⟨?_, (f2 b hb).2⟩, by rw [h3, Heap.size_push]; exact Nat.lt_succ_of_lt hlt⟩
    rw [upd_ne (by rw [← hD]; exact Nat.ne_of_lt hlt)]
    exact (f2 b hb).1
  have st3 : tn 0 s3.heap := T.keep _ _ _ st2 fun b _ o e => by rw [h3]; exact Heap.get?_push_of_some _ e
  have I4 := block_start I3 ok C.nd f3
  have body := hb s3 (upd H2 D (.lst [])) (cellsFrom (s3.heap.objs.size + 1) scope.names (cloFrom X.env.cells scope.names [])) s3.heap.objs.size fp
  show codeAny _ _ (.compStart (.ListComp elt [⟨tg, iter, ifs, 0⟩] scope pos) 0 (.ref itA) (.ref D) (compEnvC scope (cellsFrom (s3.heap.objs.size + 1) scope.names (cloFrom X.env.cells scope.names [])) s3.heap.objs.size X.env)) (compEnds (model X.prog X.w) X.A X.xe use Qf (.ref D) (compEnvC scope (cellsFrom (s3.heap.objs.size + 1) scope.names (cloFrom X.env.cells scope.names [])) s3.heap.objs.size X.env)) { s3 with heap := pushCells (s3.heap.push { cls := .type "dict", data := .dict #[] }) scope.names }
  have nfp : ∀ b ∈ fp, (upd H2 D (.lst [])) b = none := fun b hb => (f3 b hb).1.1
  have cL : (compEnvC scope (cellsFrom (s3.heap.objs.size + 1) scope.names (cloFrom X.env.cells scope.names [])) s3.heap.objs.size X.env).locals = s3.heap.objs.size := rfl
  have cF : (compEnvC scope (cellsFrom (s3.heap.objs.size + 1) scope.names (cloFrom X.env.cells scope.names [])) s3.heap.objs.size X.env).frame = X.env.frame := rfl
  generalize compEnvC scope (cellsFrom (s3.heap.objs.size + 1) scope.names (cloFrom X.env.cells scope.names [])) s3.heap.objs.size X.env = ce at I4 body cL cF ⊢
  generalize hH3 : upd H2 D (.lst []) = H3 at I3 I4 af3 so3 q3 body nfp f3
  -- the block's exceptions
  generalize hxe : notedBy (model X.prog X.w) X.A ce (CompFails (model X.prog X.w) X.A X.xe ce) = xe
  have C2 : Can G (blkX X s3 H3 scope ce fp xe) (bW W σ) k := by
    refine ⟨⟨L, ⟨tp.1, cF.trans tp.2⟩, fun u s' x => ?_⟩, C.room, C.calm, C.nd, C.hK⟩
    rw [← hxe] at x
    have := blk_out tp tf I3 (fun b hb => (f3 b hb).1) cL cF u s' x
    rw [hxe] at this
    exact this
  obtain ⟨pg, pt, pe⟩ := body xe (bW W σ) C2
  have I4 : Inv (blkX X s3 H3 scope ce fp xe) [] (L2.wipe σ (own.map (·.2))) H3 _ := I4.wish xe
  generalize hs4 : ({ s3 with heap := pushCells (s3.heap.push { cls := .type "dict", data := .dict #[] }) scope.names } : Shared) = s4 at I4 ⊢
  have st4 : tn 0 s4.heap := T.keep _ _ _ st3 fun b _ o e => by rw [← hs4]; exact pushCells_keeps _ _ _ _ (Heap.get?_push_of_some _ e)
  have stat : ∀ {σ' : L2.St} {H' : Hp} {s' : Shared}, Inv (blkX X s3 H3 scope ce fp xe) [] σ' H' s' → (∀ b ∈ fp, H' b = none) → ∀ b ∈ fp, FpOk (blkX X s3 H3 scope ce fp xe) [] H' b := fun {σ' H' s'} I' hn b hb =>
    ⟨hn b hb, (I'.ok.exf b hb).1, I'.ok.exfs b hb, .inl hb, fun x c e => (I'.ok.exf b hb).2 x c e, fun p hp => absurd (show p ∈ ([] : List (Addr × Obj)) ++ [] from hp) (by simp)⟩
  have en3 : REn G.K (ι2 ++ [D]) H3 (wipeI e (own.map (·.2))) (L2.wipe σ (own.map (·.2))) := by
    have z := (en.mono af2.pre af2.tl).mono af3.pre af3.tl
    exact z.wipe _
  have loop : codeAny (model X.prog X.w) X.A (.compLoop (.ListComp elt [⟨tg, iter, ifs, 0⟩] scope pos) 0 (.ref itA) (.ref D) ce) (compEnds (model X.prog X.w) X.A X.xe use Qf (.ref D) ce) s4 := by
    refine compLoop_any (fun n s' => ∃ i H' σ' ι' e' h', Inv (blkX X s3 H3 scope ce fp xe) [] σ' H' s' ∧ tn i s'.heap ∧ (∀ b ∈ fp, H' b = none) ∧ REn G.K ι' H' e' σ' ∧ RH G ι' h' H' ∧ (ι2 ++ [D]) <+: ι' ∧ TL G.K H3 H' ∧ PR G (fun c d H' => W c d σ H') ι' H' Q (lcL S g t f hh2.length n i e' h'))
      ?_ (S.n + 1) ⟨0, H3, _, ι2 ++ [D], _, _, I4, st4, nfp, en3, af3.rh, List.prefix_refl _, TL.refl _ _, q3⟩
    rintro n s5 ⟨i, H5, σ5, ι5, e5, h5, I5, st5, n5, en5, rh5, pre5, tl5, q5⟩
    rw [show notedBy (model X.prog X.w) X.A ce (fun e s' => compEnds (model X.prog X.w) X.A X.xe use Qf (.ref D) ce (.error e) s') = xe from hxe]
    cases n with
    | zero => exact q5.elim
    | succ n =>
      simp only [lcL] at q5
      have so5 := so3 i ι5 h5 H5 rh5 pre5 tl5
      cases zn : S.nx i h5 with
      | bad => rw [zn] at q5; exact q5.elim
      | stop =>
        rw [zn] at q5 so5
        have td := T.done (blkX X s3 H3 scope ce fp xe) rfl rfl rfl C.calm i [] s5 σ5 H5 xe I5 (stat I5 n5) st5 so5
        refine thn td fun r s6 ⟨hr, I6⟩ => ?_
        subst hr
        have I7 : Inv X pins σ H5 s6 := I3.call' (ch := fp) I6.os I6.base I6.hok I6.bare fun b hb => ⟨(f3 b hb).1.2.2.2.1, (f3 b hb).1.2.1, (f3 b hb).1.2.2.2.2.1, (f3 b hb).1.2.2.2.2.2⟩
        have nC : H5 s3.heap.objs.size = none := by
          have z : H5 ce.locals = none := I6.free
          rw [cL] at z
          exact z
        obtain ⟨m, hn, _⟩ := I6.loc
        have hn : s6.heap.Ns ce.locals m := hn
        refine hRR D ce s6 m H5 I7 (q5 ι5 H5 _ (Aft.refl rh5) (ref_iff.mpr ⟨D, pre_get pre5 dD, rfl⟩)) hn ?_
        rw [cL]
        exact I3.fpOk (Nat.le_refl _) nC
      | it x =>
        rw [zn] at q5 so5
        simp only at q5 so5
        obtain ⟨go, yl⟩ := so5
        have ti := T.item (blkX X s3 H3 scope ce fp xe) rfl rfl rfl C.calm i [] s5 σ5 H5 xe I5 (stat I5 n5) st5 go
        refine thn ti fun r s6 ⟨u, hr, h6⟩ => ?_
        subst hr
        refine thn h6 fun _ s7 ⟨xv, H7, I7, r7, y7, st7, n7⟩ => ?_
        obtain ⟨ι7, a7, rx⟩ := yl xv H7 y7
        have I7' := I7.pinned (stat I7 n7) (T.obj _ _ st7)
        -- a turn's end
        have fin : ∀ {s' : Shared} {H' : Hp} {σ' : L2.St}, Inv (blkX X s3 H3 scope ce fp xe) ([] ++ pinsAt fp s7.heap) σ' H' s' → Inv (blkX X s3 H3 scope ce fp xe) [] σ' H' s' ∧ tn (i + 1) s'.heap ∧ ∀ b ∈ fp, H' b = none := fun {s' H' σ'} I' => by
          have pin' : ∀ b ∈ fp, ∀ o, s7.heap.get? b = some o → s'.heap.get? b = some o ∧ H' b = none := fun b hb o e =>
            let z := I'.pin (b, o) (List.mem_append_right _ (List.mem_append_right _ (mem_pinsAt hb e)))
            ⟨z.1, z.2.1⟩
          refine ⟨I'.unpinned (pins := []), T.keep _ _ _ st7 fun b hb o e => (pin' b hb o e).1, fun b hb => ?_⟩
          obtain ⟨o, e, _⟩ := T.obj _ _ st7 b hb
          exact (pin' b hb o e).2
        have q7 := PR.after a7 q5
        have hg7 : TGI G (bW W σ) g xv σ5 H7 fun σ8 H8 => ∃ ι8 e8 h8, REn G.K ι8 H8 e8 σ8 ∧ Aft G ι7 H7 ι8 h8 H8 ∧ PR G (fun c d H' => W c d σ H') ι8 H8 Q (match t e8 h8 with
          | .ok (.bl true) h2 => (f e8 h2).bind fun y h3 => match h3[hh2.length]? with
            | some (.lst acc) => if acc.length < sizeLine then lcL S g t f hh2.length n (i + 1) e8 (h3.set hh2.length (.lst (acc ++ [y]))) else .bad
            | _ => .bad
          | .ok (.bl false) h2 => lcL S g t f hh2.length n (i + 1) e8 h2
          | .exc c h2 => .exc c h2
          | _ => .bad) := by
          refine ⟨ι7, e5, h5, x, en5.mono a7.pre a7.tl, a7.rh, rx, ?_⟩
          cases zg : g x e5 h5 with
          | nx e8 h8 =>
            rw [zg] at q7
            exact fun ι8 σ8 H8 a8 en8 => ⟨ι8, e8, h8, en8, a8, PR.after a8 q7⟩
          | _ => rw [zg] at q7; exact q7.elim
        refine thn (pg.run _ s7 σ5 H7 xv u _ I7' r7 hg7) fun _ s8 ⟨σ8, H8, I8, ι8, e8, h8, en8, a8, q8⟩ => ?_
        have ht8 : TB G (bW W σ) t σ8 H8 fun b H9 => ∃ ι9 h9, REn G.K ι9 H9 e8 σ8 ∧ Aft G ι8 H8 ι9 h9 H9 ∧ PR G (fun c d H' => W c d σ H') ι9 H9 Q (if b = true then (f e8 h9).bind fun y h3 => match h3[hh2.length]? with
            | some (.lst acc) => if acc.length < sizeLine then lcL S g t f hh2.length n (i + 1) e8 (h3.set hh2.length (.lst (acc ++ [y]))) else .bad
            | _ => .bad else lcL S g t f hh2.length n (i + 1) e8 h9) := by
          refine ⟨ι8, e8, h8, en8, a8.rh, ?_⟩
          cases zt : t e8 h8 with
          | bad => rw [zt] at q8; exact q8
          | exc c h9 => rw [zt] at q8; exact q8
          | ok b h9 =>
            rw [zt] at q8
            cases b <;> try exact q8
            rename_i b
            cases b with
            | true => exact fun ι9 H9 a9 => ⟨ι9, h9, en8.mono a9.pre a9.tl, a9, by rw [if_pos rfl]; exact PR.after a9 q8⟩
            | false => exact fun ι9 H9 a9 => ⟨ι9, h9, en8.mono a9.pre a9.tl, a9, by rw [if_neg Bool.false_ne_true]; exact PR.after a9 q8⟩
        refine thn (pt.run _ s8 σ8 H8 _ I8 ht8) fun b s9 ⟨H9, I9, ι9, h9, en9, a9, q9⟩ => ?_
        have pre9 : (ι2 ++ [D]) <+: ι9 := pre5.trans (a7.pre.trans (a8.pre.trans a9.pre))
        have tl9 : TL G.K H3 H9 := tl5.trans (a7.tl.trans (a8.tl.trans a9.tl))
        cases b with
        | false =>
          rw [if_neg Bool.false_ne_true] at q9
          simp only [Bool.false_eq_true, if_false]
          obtain ⟨J9, t9, n9⟩ := fin I9
          exact ⟨n, Nat.lt_succ_self n, i + 1, H9, σ8, ι9, e8, h9, J9, t9, n9, en9, a9.rh, pre9, tl9, q9⟩
        | true =>
          rw [if_pos rfl] at q9
          simp only [if_true]
          have he9 : TI G (bW W σ) f σ8 H9 fun y H10 => ∃ ι10 h10 yi acc vs, Aft G ι9 H9 ι10 h10 H10 ∧ RV G.K ι10 H10 yi y ∧ h10[hh2.length]? = some (.lst acc) ∧ H10 D = some (.lst vs) ∧ RVs G.K ι10 H10 acc vs ∧ acc.length < sizeLine ∧ PR G (fun c d H' => W c d σ H') ι10 H10 Q (lcL S g t f hh2.length n (i + 1) e8 (h10.set hh2.length (.lst (acc ++ [yi])))) := by
            refine ⟨ι9, e8, h9, en9, a9.rh, ?_⟩
            cases zf : f e8 h9 with
            | bad => rw [zf] at q9; exact q9
            | exc c h10 => rw [zf] at q9; exact q9
            | ok yi h10 =>
              rw [zf] at q9
              simp only [Res.bind] at q9
              intro ι10 H10 y a10 ry
              cases z0 : h10[hh2.length]? with
              | none => rw [z0] at q9; exact q9.elim
              | some o =>
                rw [z0] at q9
                cases o <;> try exact q9.elim
                rename_i acc
                simp only at q9
                by_cases hl : acc.length < sizeLine
                · rw [if_pos hl] at q9
                  obtain ⟨vs, hv, rs⟩ := a10.rh.at z0 (pre_get (pre9.trans a10.pre) dD)
                  exact ⟨ι10, h10, yi, acc, vs, a10, ry, z0, hv, rs, hl, PR.after a10 q9⟩
                · rw [if_neg hl] at q9; exact q9.elim
          refine thn (pe.run _ s9 σ8 H9 _ I9 he9) fun zv s10 ⟨yv, H10, I10, r10, ι10, h10, yi, acc, vs, a10, ry, z0, hv, rs, hl, q10⟩ => ?_
          refine app_ok (X := blkX X s3 H3 scope ce fp xe) I10 hv (by rw [← rs.len]; exact hl) r10 fun s11 I11 => ?_
          obtain ⟨J11, t11, n11⟩ := fin I11
          have a11 := set_lst a10.rh z0 (pre_get (pre9.trans a10.pre) dD) (RVs.app rs (RVs.one ry))
          exact ⟨n, Nat.lt_succ_self n, i + 1, _, σ8, ι10, e8, _, J11, t11, n11, (en9.mono a10.pre a10.tl).mono a11.pre a11.tl, a11.rh, pre9.trans a10.pre, tl9.trans (a10.tl.trans a11.tl), PR.after a11 q10⟩
  exact codeAny_compStart_list loop (T.self X.A 0 _ _ _ st4 loop)

/-- a block's parts, in any context of such a block -/
def SBk (G : Gx) (X : Cx) (k : Nat) (scope : Scope) (tg : Expr) (ifs : List Expr) (elt : Expr) (g : MG) (t f : ME) : Prop :=
  ∀ (s : Shared) (H : Hp) (cl : List (Str × Addr)) (D : Addr) (fp : List Addr) (xe : Value → Shared → Prop) (W' : WX), Can G (blkX X s H scope (compEnvC scope cl D X.env) fp xe) W' k →
      SG G (blkX X s H scope (compEnvC scope cl D X.env) fp xe) W' tg g ∧ SQ G (blkX X s H scope (compEnvC scope cl D X.env) fp xe) W' ifs t ∧ SE G (blkX X s H scope (compEnvC scope cl D X.env) fp xe) W' elt f
variable {k : Nat} {elt tg iter : Expr} {ifs : List Expr} {scope : Scope} {own : List (Str × Nat)} {pos spos : Pos} {it : MI} {g : MG} {t f : ME}
theorem se_lc (C : Can G X W k) (hi : SI G X W tg iter it) (ok : BlkOk X.N X.env.scope scope own) (hb : SBk G X k scope tg ifs elt g t f) (hs : ∀ x, foldedSetIterable iter X.env x = pure x := by intro _; rfl) :
    SE G X W (.ListComp elt [⟨tg, iter, ifs, 0⟩] scope pos) (mLc it (own.map (·.2)) g t f) := by
  refine ⟨fun pins s σ H Q I h => ?_⟩
  rw [eval_ListComp]
  refine lcI_core C I hi ok hb hs h fun D ce s' m H' I' q hn fC => ⟨m, hn, fun h2 sb => ?_⟩
  obtain ⟨f0, f1, f2, f3, f4, f5⟩ := fC
  exact ⟨.ref D, H', I'.turned (t' := s'.toks) (fun b o hb e => (sb.2 b hb).trans e) f0 f1 f3 f4 f5, rfl, q⟩
/-- name = [..] -/
theorem ss_setLc {i : Nat} {y : Str} {py : Pos} (C : Can G X W k) (hy : X.N[i]? = some y) (hyl : X.env.scope.names.lookup y = some .local)
    (hsw : swapsWith (.ListComp elt [⟨tg, iter, ifs, 0⟩] scope pos) (some (.Name y py)) spos.line X.env = pure true) (hi : SI G X W tg iter it) (ok : BlkOk X.N X.env.scope scope own) (hb : SBk G X k scope tg ifs elt g t f) (hs : ∀ x, foldedSetIterable iter X.env x = pure x := by intro _; rfl) :
    SS G X W (.Assign [.Name y py] (.ListComp elt [⟨tg, iter, ifs, 0⟩] scope pos) spos) (sAsg (mLc it (own.map (·.2)) g t f) (gName' i)) := by
  have hp : PS X (.Assign [.Name y py] (.ListComp elt [⟨tg, iter, ifs, 0⟩] scope pos) spos) (tAsg (TI G W (mLc it (own.map (·.2)) g t f)) (gName i)) := by
    refine ⟨fun pins s σ H D I h => ?_⟩
    rw [exec_Assign_Name_used _ _ _ _ hsw]
    refine wpAny_bind (wpAny_standAt (wpAny_bind ?_))
    show wpAny _ X.A (do let _ ← comprehension (.ListComp elt [⟨tg, iter, ifs, 0⟩] scope pos) scope X.env (firstIterPos [⟨tg, iter, ifs, 0⟩] pos) (newList []) false (eval iter X.env) (some (assign (.Name y py) X.env))) _ _ s
    have h : TI G W (mLc it (own.map (·.2)) g t f) σ H (fun x H1 => gName i x σ H1 D.nx) := h
    refine wpAny_bind (thn (lcI_core (Qf := fun _ s' => SP X pins D .next s') C I hi ok hb hs h fun E ce s' m H' I' q hn fC => ?_) fun _ s' hq => wpAny_pure (wpAny_pure hq))
    show wpAny _ _ (assign (.Name y py) X.env (.ref E)) _ _ _
    refine wpAny_assign_Name (store_ok2 (v := V.ref E) I' C.nd hy (.inl hyl) rfl (fun s2 I2 ⟨a, sb, ha⟩ => ?_) (.inr hyl))
    obtain ⟨f0, f1, f2, f3, f4, f5⟩ := fC
    have hne : ce.locals ≠ a := by
      rcases ha with z | z
      · rw [z]; exact f1
      · exact fun e => f4 _ _ z e.symm
    refine ⟨m, hn.sameBut sb hne, fun h3 sb3 => ⟨_, H', I2.turned (t' := s2.toks) (fun b o hb e => (sb3.2 b hb).trans e) f0 f1 f3 f4 f5, q⟩⟩
  refine ps_weak hp fun D σ H hq => ?_
  obtain ⟨ι, e, h, en, rh, q⟩ := hq
  exact TI.st en rh q fun x v ι1 h1 H1 a1 en1 r1 q1 => q1 ι1 _ H1 (Aft.refl a1.rh) (en1.set i ⟨v, rfl, r1⟩)
end
end Sh

/-! Sh11: generator expressions. -/
namespace Sh
open PySem PySem.Spec PyProof.Rows L2
section
variable {G : Gx} {ι : List Addr} {h : IH} {H H1 : Hp}
theorem Aft.extN (r : RH G ι h H) (e : LamX.ExtN H H1) (t : NdefX.TabsN G.T H1) : Aft G ι H ι h H1 := by
  have tl : TL G.K H H1 := TL.of (fun b xs q => e b _ q fun _ z => by cases z) (fun b o u q => e b _ q fun _ z => by cases z) (fun b φ q => e b _ q fun _ z => by cases z)
  refine ⟨List.prefix_refl _, tl, r.len, r.nd, fun n o q => ?_, t, fun p hp => ⟨(r.zb p hp).1, (r.zb p hp).2.trans tl⟩⟩
  obtain ⟨a, e1, q1⟩ := r.ob n o q
  obtain ⟨u, hu, hm⟩ := q1.mu
  refine ⟨a, e1, q1.mono (List.prefix_refl _) tl ?_⟩
  rw [hu]
  refine e a u hu fun ps z => ?_
  subst z
  rcases hm with hm | ⟨φ, hm⟩
  · exact hm
  · cases hm
end
/-- a def's code object c with its table P, the names of what it makes: nm -/
structure CT (G : Gx) (X : Cx) (c P : Addr) (nm : Nat → Nat → Str) : Prop where
  tb : LamX.TabB X.base X.mg c P
  code : X.env.code = .ref c
  mem : (P, nm) ∈ G.T
  un : ∀ p ∈ G.T, p.1 = P → p.2 = nm
section
variable {G : Gx} {X : Cx} {pins : List (Addr × Obj)} {σ : L2.St} {H : Hp} {s : Shared} {ι : List Addr} {h : IH} {c P : Addr} {nm : Nat → Nat → Str}
/-- the code object of a generator expression: new, or found -/
theorem gcode {pos : Pos} {scope : Scope} {Q : Value → Shared → Prop} {E : Value → Shared → Prop} (I : Inv X pins σ H s) (rh : RH G ι h H) (ct : CT G X c P nm) (hn : nm pos.line pos.col = X.env.qual ++ "<genexpr>")
    (hq : ∀ code H1 s', Inv X pins σ H1 s' → Aft G ι H ι h H1 → (∀ b o, H b = none → s.heap.get? b = some o → s'.heap.get? b = some o) → (∀ b, b < s.heap.objs.size → H b = none → H1 b = none) → s'.os = s.os → s.heap.objs.size ≤ s'.heap.objs.size → Q code s') :
    wpAny (model X.prog X.w) X.A (genexprCode X.env pos (X.env.qual ++ "<genexpr>") scope) Q E s := by
  obtain ⟨ps, hP, ht, ha⟩ := (show NdefX.TabN H P nm from rh.tb _ ct.mem)
  have hP' : s.heap.get? P = some { cls := .none, data := .fields ps } := I.hok P _ hP
  have cd : PySem.W.CodeHd s.heap c P := ct.tb.code.keeps I.bk
  cases hc : codeAmong pos ps.toList with
  | none =>
    refine wpAny_genexprCodeX ct.code (cd.code hP' ht) (cd.tab hP') hc fun c' h' tk hx hge hlt hco' hrec htab' _ => ?_
    obtain ⟨c2, oc, vs, t, e2, hoc, hd, hv⟩ := hrec
    cases e2
    have nC : H c' = none := I.hok.fresh hge
    have I1 := LamX.inv_table (t' := tk) (more := #[rawInt pos.line, rawInt pos.col, .ref c']) (h' := h') I hP (fun b o hb e => hx b o hb e) htab'.2 hge ⟨oc, vs, t, hoc, hd, hv⟩
    have hE : LamX.ExtN H (upd (upd H P (.tbl (ps ++ #[rawInt pos.line, rawInt pos.col, .ref c']))) c' (LamX.CodeO c' (X.env.qual ++ "<genexpr>"))) := fun b o e n => by
      rw [upd_ne (ne_of_none e nC), upd_ne (fun z => n ps (Option.some.inj (e.symm.trans (by rw [z]; exact hP))))]
      exact e
    have eL : (ps ++ #[rawInt pos.line, rawInt pos.col, .ref c']).toList = ps.toList ++ [rawInt pos.line, rawInt pos.col, .ref c'] := by simp
    have T1 : NdefX.TabsN G.T (upd (upd H P (.tbl (ps ++ #[rawInt pos.line, rawInt pos.col, .ref c']))) c' (LamX.CodeO c' (X.env.qual ++ "<genexpr>"))) := fun p hp => by
      by_cases hb : p.1 = P
      · rw [ct.un p hp hb, hb]
        refine ⟨_, by rw [upd_ne (ne_of_none hP nC), upd_same], by rw [eL]; exact PySem.TriplesOk_snoc _ _ _ _ ht, fun p' cv hcv => ?_⟩
        rw [eL] at hcv
        rcases NdefX.among_app2 _ ht hcv with z | ⟨z, z1, z2⟩
        · obtain ⟨c0, e1, e2⟩ := ha p' cv z
          exact ⟨c0, e1, hE _ _ e2 LamX.codeO_ne⟩
        · refine ⟨c', z, ?_⟩
          rw [← z1, ← z2, hn]
          exact upd_same
      · obtain ⟨ps', a1, a2, a3⟩ := rh.tb p hp
        refine ⟨ps', by rw [upd_ne (ne_of_none a1 nC), upd_ne hb]; exact a1, a2, fun p' cv hcv => ?_⟩
        obtain ⟨c0, e1, e2⟩ := a3 p' cv hcv
        exact ⟨c0, e1, hE _ _ e2 LamX.codeO_ne⟩
    exact hq _ _ _ I1 (Aft.extN rh hE T1) (fun b o hb e => hx b o (fun z => by rw [z, hP] at hb; cases hb) e) (fun b hb e => by rw [upd_ne (Nat.ne_of_lt (Nat.lt_of_lt_of_le hb hge)), upd_ne (fun z => by rw [z, hP] at e; cases e)]; exact e) rfl (Nat.le_trans hge (Nat.le_of_lt hlt))
  | some cv => exact wpAny_genexprCode_hit ct.code (cd.code hP' ht) hc (hq cv H s I (Aft.refl rh) (fun _ _ _ e => e) (fun _ _ e => e) rfl (Nat.le_refl _))
end

/-! ### the generator's own frame -/
/-- the context of a generator expression's body: made at sc in X, its frame at C -/
abbrev gxX (X : Cx) (A : Around) (sc : Shared) (Hc : Hp) (ge : Env) (fp : List Addr) (pn : List (Addr × Obj)) (xe : Value → Shared → Prop) : Cx where
  prog := X.prog
  w := X.w
  K := X.K
  mg := X.mg
  base := X.base
  A := A
  N := X.N
  s_0 := sc
  H_0 := Hc
  env := ge
  outer := X.stack
  stack := ge :: X.stack
  ex := fp
  fn := fun _ => false
  calm := true
  pn := pn
  xe := xe
section
variable {X : Cx} {pins : List (Addr × Obj)} {σ : L2.St} {H : Hp} {sc : Shared}
theorem gx_start {A : Around} {scope : Scope} {own : List (Str × Nat)} {fp : List Addr} {pn : List (Addr × Obj)} {xe : Value → Shared → Prop} {C : Addr} {code : Value} {s1 : Shared} {m : Str → Option Value} (I : Inv X pins σ H sc) (hN : X.N.Nodup) (ok : BlkOk X.N X.env.scope scope own)
    (hcell : ∀ y ∈ scope.names, y.2 ≠ .cell) (hfp : ∀ b ∈ fp, FpOk X pins H b ∧ b < sc.heap.objs.size) (hC : sc.heap.objs.size ≤ C) (hd : A.handled = none) (hfr : A.frames = some (genEnv scope (cloFrom X.env.cells scope.names []) C code builtinsNs X.env :: X.stack))
    (kp : ∀ b o, sc.heap.get? b = some o → s1.heap.get? b = some o) (hos : s1.os = sc.os) (hb : AllBare s1.gens) (hns : s1.heap.Ns C m) (hpn : ∀ p ∈ pn, s1.heap.get? p.1 = some p.2 ∧ sc.heap.objs.size ≤ p.1 ∧ p.1 ≠ C ∧ ∀ v, p.2.data ≠ .cell v) :
    Inv (gxX X A sc H (genEnv scope (cloFrom X.env.cells scope.names []) C code builtinsNs X.env) fp pn xe) [] (L2.wipe σ (own.map (·.2))) H s1 := by
  have hfree : ∀ y ∈ scope.names, y.2 = .free → ∃ c, X.env.cells.lookup y.1 = some c := fun y hy e => by
    rcases ok.free y hy e with k | k
    · exact I.ok.has _ (.inl k)
    · exact I.ok.has _ (.inr k)
  have cm : ∀ {y c}, (cloFrom X.env.cells scope.names []).lookup y = some c → X.env.cells.lookup y = some c := fun {y c} e => by
    rcases cloFrom_mem (PySem.mem_of_lookup e) with hm | ⟨h1, h2⟩
    · cases hm
    · obtain ⟨c1, hc⟩ := hfree _ h1 rfl
      have hc : X.env.cells.lookup y = some c1 := hc
      have e2 : c = c1 := by rw [h2, hc] <;> rfl
      rw [e2]
      exact hc
  have look : ∀ {y}, scope.names.lookup y = some .free → ∃ c, (cloFrom X.env.cells scope.names []).lookup y = some c := fun {y} hl =>
    mem_lookup (cloFrom_has (cells := X.env.cells) (acc := []) (PySem.mem_of_lookup hl : (y, NameKind.free) ∈ scope.names))
  have clt : ∀ {y c}, X.env.cells.lookup y = some c → c < sc.heap.objs.size := fun {y c} e => by
    obtain ⟨v, o, ho, _⟩ := I.cell y c e
    exact Heap.lt_size ho
  have nocell : ∀ y, scope.names.lookup y ≠ some .cell := fun y e => hcell _ (PySem.mem_of_lookup e) rfl
  refine ⟨⟨I.ok.mod, ok.kind, I.ok.glob, rfl, hC, fun y z c e1 e2 => I.ok.inj y z c (cm e1) (cm e2), fun y hy => ?_, fun y c z _ => ?_, fun _ => hd, hfr, .inr ⟨rfl, rfl⟩, fun b hb => ⟨?_, fun y c e z => ?_⟩, I.bs, Nat.le_trans I.ok.bsz I.sz, fun b o e hb => ?_, fun b hb z => ?_, I.stack, I.stkFree⟩,
    hos, hb, Un.kept kp, ⟨m, hns, fun i y av e1 e2 e3 => ?_⟩, fun y c e => ?_, I.hok.fresh hC, fun y c e => ?_, fun p hp => ?_, I.hok.kept kp, by rw [wipe_length]; exact I.len⟩
  · have hy : scope.names.lookup y = some .cell ∨ scope.names.lookup y = some .free := hy
    rcases hy with hy | hy
    · exact absurd hy (nocell y)
    · exact look hy
  · have z : false = true := z
    cases z
  · show b ≠ C
    exact Nat.ne_of_lt (Nat.lt_of_lt_of_le (hfp b hb).2 hC)
  · exact (hfp b hb).1.2.2.2.2.1 y c (cm e) z
  · rcases (hfp b hb).1.2.2.2.1 with z | z
    · exact I.ok.noex b o e z
    · exact absurd (Nat.lt_of_lt_of_le (Heap.lt_size e) (Nat.le_trans I.ok.bsz z)) (Nat.lt_irrefl _)
  · rcases List.mem_cons.mp (I.stkSub b z) with z | z
    · exact (hfp b hb).1.2.1 z
    · exact (hfp b hb).1.2.2.1 z
  · obtain ⟨e2, hne⟩ := wipe_some e2
    have e3 : Vis scope y := e3
    have notOwn : ¬ (scope.names.lookup y = some .local ∨ scope.names.lookup y = some .cell) := fun hh => by
      have key : ∃ k, (y, k) ∈ scope.names ∧ (k = .local ∨ k = .cell) := by
        rcases hh with hh | hh
        · exact ⟨_, PySem.mem_of_lookup hh, .inl rfl⟩
        · exact ⟨_, PySem.mem_of_lookup hh, .inr rfl⟩
      obtain ⟨k, hk, hk2⟩ := key
      rcases ok.own _ hk hk2 with e' | e'
      · obtain ⟨p, hp, hpy⟩ := List.mem_map.mp e'
        have e4 := ok.ix p hp
        have hpy : p.1 = y := hpy
        rw [hpy] at e4
        exact hne (List.mem_map.mpr ⟨p, hp, nodup_ix hN e4 e1⟩)
      · exact e' (List.mem_of_getElem? e1)
    rcases e3 with k | k | k
    · exact absurd (.inl k) notOwn
    · exact absurd (.inr k) notOwn
    · obtain ⟨m0, _, hl⟩ := I.loc
      have hvis : Vis X.env.scope y := (ok.free _ (PySem.mem_of_lookup k) rfl).elim (fun k => .inr (.inl k)) (fun k => .inr (.inr k))
      obtain ⟨w', r, q⟩ := hl i y av e1 e2 hvis
      obtain ⟨c2, h2⟩ := look k
      refine ⟨w', r, .inr ⟨.inr k, c2, h2, ?_⟩⟩
      have c1 := cm h2
      rcases q with ⟨k', _⟩ | ⟨_, c3, e', z⟩
      · have k' : X.env.scope.names.lookup y = some .local := k'
        rcases ok.free _ (PySem.mem_of_lookup k) rfl with k2 | k2 <;> rw [show X.env.scope.names.lookup y = _ from k2] at k' <;> cases k'
      · rw [c1] at e'
        cases e'
        exact z.keeps kp
  · obtain ⟨w', z⟩ := I.cell y c (cm e)
    exact ⟨w', z.keeps kp⟩
  · exact I.freeC y c (cm e)
  · have hp' : p ∈ pn := by
      rcases List.mem_append.mp (show p ∈ pn ++ [] from hp) with z | z
      · exact z
      · cases z
    obtain ⟨q1, q2, q3, q4⟩ := hpn p hp'
    exact ⟨q1, I.hok.fresh q2, q3, fun hm => I.nofs q2 (by
      rcases List.mem_cons.mp (I.stkSub p.1 hm) with z | z
      · exact absurd (Nat.lt_of_lt_of_le I.lt q2) (by rw [z]; exact Nat.lt_irrefl _)
      · exact z), q4⟩

/-- these classes end no generator -/
def NoStp (K : PySem.W.Frag) (cs : List String) : Prop := ∀ c ∈ cs, PySem.W.subIn K (.ref (He.ga K (Str.ofString c))) (.type "StopIteration") = some false
/-- the wish of a generator's body: only such exceptions -/
abbrev gW (K : PySem.W.Frag) (cs : List String) (W : WX) (σ : L2.St) : WX := fun cls d _ H' => (∃ c ∈ cs, cls = .ref (He.ga K (Str.ofString c))) ∧ W cls d σ H'
theorem XF.gens {W : WX} {L : Addr} {u : Value} {s s' : Shared} (x : XF X W L u s) (hh : s'.heap = s.heap) (ho : s'.os = s.os) (hg : AllBare s'.gens) : XF X W L u s' := by
  obtain ⟨a, B, sI, pins, σ, H, cls, d, e, I, nb, up, sky, na, os, ag, w⟩ := x
  exact ⟨a, B, sI, pins, σ, H, cls, d, e, I, nb, by rw [hh]; exact up, by rw [hh]; exact sky, na, ho.trans os, hg, w⟩
/-- the frame is left, the exception goes on to X -/
theorem gx_out {W : WX} {L C : Addr} {A : Around} {ge : Env} {fp : List Addr} {pn : List (Addr × Obj)} {xe : Value → Shared → Prop} {cs : List String} {E₁ : Value → Shared → Prop} (I : Inv X pins σ H sc) (f3 : ∀ b ∈ fp, FpOk X pins H b) (hst : ∃ e0 r, X.stack = e0 :: r) (gL : ge.locals = C) (gF : ge.frame = some C)
    (hC : sc.heap.objs.size ≤ C) (ns : NoStp X.K cs) (u : Value) (s' : Shared) (x : XF (gxX X A sc H ge fp pn xe) (gW X.K cs W σ) C u s') :
    wpAny (model X.prog X.w) A (leaving ge u) (fun _ s'' => XF X W L u s'' ∧ NotStop (model X.prog X.w) u s''.heap ∧ ∀ p ∈ pn, s''.heap.get? p.1 = some p.2) E₁ s' := by
  obtain ⟨a, B, sI, pins', σ', H', cls, d, rfl, J, nb, up, sky, na, os, ag, ⟨c, hc, ec⟩, w⟩ := x
  have hfr : A.frames = some (ge :: X.stack) := J.ok.frames
  have I7 : Inv X pins σ H' sI := I.call' (ch := fp) J.os J.base J.hok J.bare fun b hb => ⟨(f3 b hb).2.2.2.1, (f3 b hb).2.1, (f3 b hb).2.2.2.2.1, (f3 b hb).2.2.2.2.2⟩
  have nC : H' C = none := by
    have z : H' ge.locals = none := J.free
    rw [gL] at z; exact z
  obtain ⟨f0, f1, f2, f3', f4, f5⟩ := I.fpOk hC nC
  have I8 : Inv X pins σ H' { sI with heap := PySem.W.hideAll sI.heap [C] } := I7.turned (t' := sI.toks) (it := C) (fun b o hb e => PySem.W.hideAll_get _ e (by simpa using hb)) f0 f1 f3' f4 f5
  have nstk : ∀ b, b ∈ frs (ge :: X.stack) → b ≠ C → b ∈ frs X.stack := fun b hb hne => by
    unfold frs at hb
    rw [List.filterMap_cons, gF] at hb
    rcases List.mem_cons.mp hb with z | z
    · exact absurd z hne
    · exact z
  have nb' : ∀ b o, (PySem.W.hideAll sI.heap [C]).get? b = some o → b ∉ frs X.stack → B.get? b = some o := fun b o e hb => by
    have hne : b ≠ C := fun z => by rw [z, PySem.W.hideAll_none _ (by simp)] at e; cases e
    exact nb b o (PySem.W.of_hideAll _ e) fun hm => hb (nstk b hm hne)
  have up' : ∀ h', s'.heap.UpToSlots h' → (PySem.W.hideAll sI.heap [C]).UpToSlots h' := fun h' k b o e hnf => (up.trans k) b o (PySem.W.of_hideAll _ e) hnf
  have fin : ∀ h', HandSPX.FlyingZ B X.stack a (Zc cls d) h' → s'.heap.UpToSlots h' → XF X W L (.ref a) { s' with heap := h' } ∧ NotStop (model X.prog X.w) (.ref a) h' ∧ ∀ p ∈ pn, h'.get? p.1 = some p.2 := fun h' fl k => by
    refine ⟨⟨a, B, _, pins, σ, H', cls, d, rfl, I8, nb', up' h' k, .inr (.inl fl), na, os, ag, w⟩, ?_, fun p hp => ?_⟩
    · obtain ⟨oe, vs, he, hz, hd⟩ := fl.there
      have kin : X.K.In h' := J.ok.mod.kin.keeps fun b o e => fl.1 b o (nb b o (J.bk b o e) fun hm => by
        rcases List.mem_cons.mp (J.stkSub b hm) with z | z
        · have h1 := Heap.lt_size e
          have h2 := Nat.le_trans J.ok.bsz J.ok.above
          rw [z] at h1
          exact absurd (Nat.lt_of_lt_of_le h1 h2) (Nat.lt_irrefl _)
        · exact J.ok.nofr e z)
      have Lk := PySem.W.looks_subIn (M := model X.prog X.w) kin (ns c hc)
      intro A Q E' s2 hs hq
      simp only [isInstance]
      refine wpAny_bind (wpAny_typeOf_ref (o := oe) (by rw [hs]; exact he) ?_)
      rw [hz.1, ec]
      exact Lk A Q E' s2 (fun b o z => by rw [hs]; exact z) hq
    · obtain ⟨q1, q2, q3, q4, q5⟩ := J.pin p (List.mem_append_left _ hp)
      refine fl.1 _ _ (nb _ _ q1 fun hm => ?_)
      rcases List.mem_cons.mp (J.stkSub _ hm) with z | z
      · exact q3 z
      · exact q4 z
  rcases sky with ⟨hB, hn, hl, oe, vs, he, hz, hd, h1⟩ | fl | hd
  · exact HandSPX.leaving_firstZ Zc.steady hfr hl gF he hB hn hd h1 hz fin
  · exact HandSPX.leaves_onZ Zc.steady hfr gF fl fin
  · exact HandSPX.leaves_heldZ gF hd fin
end
end Sh

/-! Sh12: a generator expression's run, for any consumer. -/
namespace Sh
open PySem PySem.Spec PyProof.Rows L2
/-- what the consumer makes of an item -/
inductive St3 (α : Type) where
  | more (a : α)
  | out (x : IV)
  | bad
/-- only these exceptions -/
@[simp] def exOnly (cs : List String) {α : Type} (c : String) (h : IH) : Res α := if c ∈ cs then .exc c h else .bad
/-- what the consumer does with its item -/
@[simp] def St3.go {α : Type} (r : St3 α) (f : α → M IV) : M IV := fun h => match r with
  | .more a => f a h
  | .out x => .ok x h
  | .bad => .bad
/-- the consumer walks the generator -/
def genL {α : Type} (cs : List String) (S : Sr) (g : MG) (t f : ME) (st : α → IV → St3 α) (fin : α → M IV) : Nat → Nat → IE → α → M IV
  | 0, _, _, _ => fun _ => .bad
  | m + 1, i, e, acc => fun h => match S.nx i h with
    | .stop => fin acc h
    | .it x => match g x e h with
      | .nx e1 h1 => match t e1 h1 with
        | .ok (.bl true) h2 => match f e1 h2 with
          | .ok y h3 => (st acc y).go (genL cs S g t f st fin m (i + 1) e1) h3
          | .exc c h3 => exOnly cs c h3
          | .bad => .bad
        | .ok (.bl false) h2 => genL cs S g t f st fin m (i + 1) e1 acc h2
        | .exc c h2 => exOnly cs c h2
        | _ => .bad
      | _ => .bad
    | .bad => .bad
theorem seg_out {M : Model} {A : Around} {R : GenEnd} {Y : Protocol} {n : Nat} {s₀ s : Shared} {c : Code} {ge : Env} {e : Value} (h : wpAny M (A.over c []) (leaving ge e) (fun _ s2 => R n s₀ (.error e) s2) (fun x s2 => R n s₀ (.error x) s2) s) :
    Seg M A R Y n s₀ c ((leaving ge e).bind fun _ => (.raise e : Sem PySem.Fin)) [] s := by
  rw [Sem.bind_eq_wrap]
  exact seg_wrap (wpAny_mono h (fun _ s q => seg_end (.error e) q) fun x s q => seg_end (.error x) q)
theorem pinsAt_congr {h h' : Heap} : ∀ {fp : List Addr}, (∀ b ∈ fp, h'.get? b = h.get? b) → pinsAt fp h' = pinsAt fp h
  | [], _ => rfl
  | b :: r, k => by
    have ih := pinsAt_congr (fp := r) fun c hc => k c (List.mem_cons_of_mem _ hc)
    unfold pinsAt at ih ⊢
    rw [List.filterMap_cons, List.filterMap_cons, k b List.mem_cons_self, ih]
section
variable {α : Type} {G : Gx} {X : Cx} {W : WX} {L : Addr} {sc : Shared} {gX : Cx} {fp : List Addr} {tn : Nat → Heap → Prop} {cs : List String} {S : Sr} {g : MG} {t f : ME} {st : α → IV → St3 α} {fin : α → M IV} {lk : α → List (Addr × Obj) → List Addr → Hp → Prop} {Q : VK} {σ : L2.St}
/-- an item is handed out -/
def GYp (G : Gx) (W : WX) (σ : L2.St) (sc : Shared) (gX : Cx) (fp : List Addr) (cs : List String) (S : Sr) (g : MG) (t f : ME) (st : α → IV → St3 α) (fin : α → M IV) (lk : α → List (Addr × Obj) → List Addr → Hp → Prop) (Q : VK) : Protocol := fun n _ v s kap =>
  ∃ acc cp x y i e σg ι h H m, m ≤ n ∧ RelV x v ∧ RV G.K ι H y x ∧ (∀ p ∈ cp, sc.heap.objs.size ≤ p.1) ∧ Inv gX (cp ++ pinsAt fp s.heap) σg H s ∧ RH G ι h H ∧ lk acc cp ι H ∧
    PR G (fun c d H' => W c d σ H') ι H Q ((st acc y).go (genL cs S g t f st fin m i e) h) ∧
    ∀ acc' cp' s2, (∀ p ∈ cp', sc.heap.objs.size ≤ p.1) → Inv gX (cp' ++ pinsAt fp s.heap) σg H s2 → lk acc' cp' ι H → PR G (fun c d H' => W c d σ H') ι H Q (genL cs S g t f st fin m i e acc' h) → kap (.send .none) s2
/-- the end -/
def GRe (G : Gx) (X : Cx) (W : WX) (L : Addr) (σ : L2.St) (gX : Cx) (fin : α → M IV) (lk : α → List (Addr × Obj) → List Addr → Hp → Prop) (Q : VK) (pn : List (Addr × Obj)) : GenEnd := fun _ _ r s =>
  ((r = .ok (.ret .none) ∨ r = .ok .next) ∧ ∃ acc cp σg ι h H, Inv gX cp σg H s ∧ RH G ι h H ∧ lk acc cp ι H ∧ PR G (fun c d H' => W c d σ H') ι H Q (fin acc h)) ∨
  ∃ e, r = .error e ∧ (XF X W L e s ∧ NotStop (model X.prog X.w) e s.heap ∧ ∀ p ∈ pn, s.heap.get? p.1 = some p.2)
theorem seg_gen {A' A : Around} {ge : Env} {Hc : Hp} {pn : List (Addr × Obj)} {xe : Value → Shared → Prop} {elt tg iter : Expr} {ifs : List Expr} {scope : Scope} {pos : Pos} {itA : Addr} {J : It} {k : Nat} {ι0 : List Addr} {H0 : Hp}
    (hgX : gX = gxX X A sc Hc ge fp pn xe) (hxe : xe = fun u s => wpAny (model X.prog X.w) A (leaving ge u) (fun _ s2 => XF X W L u s2 ∧ NotStop (model X.prog X.w) u s2.heap ∧ ∀ p ∈ pn, s2.heap.get? p.1 = some p.2) (fun _ _ => False) s)
    (hov : A'.over (.compLoop (.GeneratorExp elt [⟨tg, iter, ifs, 0⟩] scope pos) 0 (.ref itA) .none ge) [] = A) (hco : ge.scope.isCoroutine = false)
    (C : Can G gX (gW G.K cs W σ) k) (T : Turn X.prog X.w X.K tg J fp itA tn) (hfl : ∀ b ∈ fp, b < sc.heap.objs.size) (hpl : ∀ p ∈ pn, sc.heap.objs.size ≤ p.1)
    (so : SrOk G ι0 H0 S J) (pg : SG G gX (gW G.K cs W σ) tg g) (pt : SQ G gX (gW G.K cs W σ) ifs t) (pe : SE G gX (gW G.K cs W σ) elt f)
    (hlk : ∀ acc cp ι H ι' H', lk acc cp ι H → ι <+: ι' → TL G.K H H' → lk acc cp ι' H') :
    ∀ (m n : Nat) (s₀ s : Shared) (acc : α) (cp : List (Addr × Obj)) (i : Nat) (e : IE) (σg : L2.St) (ι : List Addr) (h : IH) (H : Hp), m ≤ n → (∀ p ∈ cp, sc.heap.objs.size ≤ p.1) → Inv gX cp σg H s → tn i s.heap → (∀ b ∈ fp, H b = none) → REn G.K ι H e σg → RH G ι h H → lk acc cp ι H → ι0 <+: ι → TL G.K H0 H →
      PR G (fun c d H' => W c d σ H') ι H Q (genL cs S g t f st fin m i e acc h) →
      Seg (model X.prog X.w) A' (GRe G X W L σ gX fin lk Q pn) (GYp G W σ sc gX fp cs S g t f st fin lk Q) n s₀ (.compLoop (.GeneratorExp elt [⟨tg, iter, ifs, 0⟩] scope pos) 0 (.ref itA) .none ge)
        ((model X.prog X.w).den (.compLoop (.GeneratorExp elt [⟨tg, iter, ifs, 0⟩] scope pos) 0 (.ref itA) .none ge)) [] s := by
  have gA : gX.A = A := by subst hgX; rfl
  have gp : gX.prog = X.prog := by subst hgX; rfl
  have gw : gX.w = X.w := by subst hgX; rfl
  have gK : gX.K = X.K := by subst hgX; rfl
  have gex : gX.ex = fp := by subst hgX; rfl
  have gpn : gX.pn = pn := by subst hgX; rfl
  have gxe : gX.xe = xe := by subst hgX; rfl
  have genv : gX.env = ge := by subst hgX; rfl
  -- an exception
  have out : ∀ (n : Nat) (s₀ : Shared) (u : Value) (s : Shared), gX.xe u s → Seg (model X.prog X.w) A' (GRe G X W L σ gX fin lk Q pn) (GYp G W σ sc gX fp cs S g t f st fin lk Q) n s₀ (.compLoop (.GeneratorExp elt [⟨tg, iter, ifs, 0⟩] scope pos) 0 (.ref itA) .none ge)
        ((leaving ge u).bind fun _ => (.raise u : Sem PySem.Fin)) [] s := fun n s₀ u s hx => by
    rw [gxe, hxe] at hx
    refine seg_out ?_
    rw [hov]
    exact wpAny_mono hx (fun _ s2 q => .inr ⟨u, rfl, q⟩) fun _ _ z => z.elim
  have stat : ∀ {σ' : L2.St} {H' : Hp} {s' : Shared} {cp : List (Addr × Obj)}, Inv gX cp σ' H' s' → (∀ p ∈ cp, sc.heap.objs.size ≤ p.1) → (∀ b ∈ fp, H' b = none) → ∀ b ∈ fp, FpOk gX cp H' b := fun {σ' H' s' cp} I' hcp hn b hb =>
    ⟨hn b hb, (I'.ok.exf b (by rw [gex]; exact hb)).1, I'.ok.exfs b (by rw [gex]; exact hb), .inl (by rw [gex]; exact hb), fun x c e => (I'.ok.exf b (by rw [gex]; exact hb)).2 x c e, fun p hp z => by
      have h1 := hfl b hb
      rw [gpn] at hp
      rcases List.mem_append.mp hp with q | q
      · have := hpl p q; rw [z] at this; exact absurd (Nat.lt_of_lt_of_le h1 this) (Nat.lt_irrefl _)
      · have := hcp p q; rw [z] at this; exact absurd (Nat.lt_of_lt_of_le h1 this) (Nat.lt_irrefl _)⟩
  intro m
  induction m with
  | zero => intro n s₀ s acc cp i e σg ι h H _ _ _ _ _ _ _ _ _ _ q; exact q.elim
  | succ m ih =>
    intro n s₀ s acc cp i e σg ι h H hmn hcp I tnI nfp en rh hl pre tl q
    show Seg _ A' _ _ _ s₀ _ ((compTurn (.GeneratorExp elt [⟨tg, iter, ifs, 0⟩] scope pos) 0 (.ref itA) .none ge).onRaise (leaving ge)) [] s
    rw [compTurn_gen, Sem.onRaise_eq_wrap]
    refine seg_bind_wrap (wpAny_standAt ?_)
    simp only [genL] at q
    have so1 := so i ι h H rh pre tl
    cases zn : S.nx i h with
    | bad => rw [zn] at q; exact q.elim
    | stop =>
      rw [zn] at q so1
      refine seg_bind_wrap ?_
      rw [hov]
      have td := T.done gX gp gw gK C.calm i cp s σg H gX.xe I (stat I hcp nfp) tnI so1
      rw [gA] at td
      refine wpAny_mono td (fun r s1 ⟨hr, I1⟩ => ?_) fun u s1 hx => out _ _ _ _ hx
      subst hr
      exact seg_end (.ok .next) (.inl ⟨.inr rfl, acc, cp, σg, ι, h, H, I1, rh, hl, q⟩)
    | it x =>
      rw [zn] at q so1
      simp only at q so1
      obtain ⟨go, yl⟩ := so1
      refine seg_bind_wrap ?_
      rw [hov]
      have ti := T.item gX gp gw gK C.calm i cp s σg H gX.xe I (stat I hcp nfp) tnI go
      rw [gA] at ti
      refine wpAny_mono ti (fun r s1 ⟨u, hr, h1⟩ => ?_) fun u s1 hx => out _ _ _ _ hx
      subst hr
      refine seg_bind_wrap ?_
      rw [hov]
      refine wpAny_mono h1 (fun _ s2 ⟨xv, H2, I2, r2, y2, tn2, n2⟩ => ?_) fun u s1 hx => out _ _ _ _ hx
      obtain ⟨ι2, a2, rx⟩ := yl xv H2 y2
      have I2' := I2.pinned (stat I2 hcp n2) (T.obj _ _ tn2)
      have q2 := PR.after a2 q
      refine seg_bind_wrap ?_
      rw [hov]
      have hg2 : TGI G (gW G.K cs W σ) g xv σg H2 fun σ3 H3 => ∃ ι3 e3 h3, REn G.K ι3 H3 e3 σ3 ∧ Aft G ι2 H2 ι3 h3 H3 ∧ PR G (fun c d H' => W c d σ H') ι3 H3 Q (match t e3 h3 with
          | .ok (.bl true) h2 => match f e3 h2 with
            | .ok y h3 => (st acc y).go (genL cs S g t f st fin m (i + 1) e3) h3
            | .exc c h3 => exOnly cs c h3
            | .bad => .bad
          | .ok (.bl false) h2 => genL cs S g t f st fin m (i + 1) e3 acc h2
          | .exc c h2 => exOnly cs c h2
          | _ => .bad) := by
        refine ⟨ι2, e, h, x, en.mono a2.pre a2.tl, a2.rh, rx, ?_⟩
        cases zg : g x e h with
        | nx e3 h3 =>
          rw [zg] at q2
          exact fun ι3 σ3 H3 a3 en3 => ⟨ι3, e3, h3, en3, a3, PR.after a3 q2⟩
        | _ => rw [zg] at q2; exact q2.elim
      have pgr := pg.run _ s2 σg H2 xv u _ I2' r2 hg2
      rw [gp, gw, gA, genv] at pgr
      refine wpAny_mono pgr (fun _ s3 ⟨σ3, H3, I3, ι3, e3, h3, en3, a3, q3⟩ => ?_) fun u s1 hx => out _ _ _ _ hx
      refine seg_bind_wrap ?_
      rw [hov]
      have exo : ∀ {c : String} {hh : IH} {ι' : List Addr} {H' : Hp}, PR G (fun c d H' => W c d σ H') ι' H' Q (exOnly cs c hh) → ∀ ι2 H2, Aft G ι' H' ι2 hh H2 → gW G.K cs W σ (.ref (He.ga G.K (Str.ofString c))) none σ3 H2 := fun {c hh ι' H'} z ι2 H2 a => by
        simp only [exOnly] at z
        by_cases hc : c ∈ cs
        · rw [if_pos hc] at z; exact ⟨⟨c, hc, rfl⟩, z ι2 H2 a⟩
        · rw [if_neg hc] at z; exact z.elim
      have ht3 : TB G (gW G.K cs W σ) t σ3 H3 fun b H4 => ∃ ι4 h4, REn G.K ι4 H4 e3 σ3 ∧ Aft G ι3 H3 ι4 h4 H4 ∧ PR G (fun c d H' => W c d σ H') ι4 H4 Q (if b = true then (match f e3 h4 with
            | .ok y h3 => (st acc y).go (genL cs S g t f st fin m (i + 1) e3) h3
            | .exc c h3 => exOnly cs c h3
            | .bad => .bad) else genL cs S g t f st fin m (i + 1) e3 acc h4) := by
        refine ⟨ι3, e3, h3, en3, a3.rh, ?_⟩
        cases zt : t e3 h3 with
        | bad => rw [zt] at q3; exact q3
        | exc c h4 => rw [zt] at q3; exact exo q3
        | ok b h4 =>
          rw [zt] at q3
          cases b <;> try exact q3
          rename_i b
          cases b with
          | true => exact fun ι4 H4 a4 => ⟨ι4, h4, en3.mono a4.pre a4.tl, a4, by rw [if_pos rfl]; exact PR.after a4 q3⟩
          | false => exact fun ι4 H4 a4 => ⟨ι4, h4, en3.mono a4.pre a4.tl, a4, by rw [if_neg Bool.false_ne_true]; exact PR.after a4 q3⟩
      have ptr := pt.run _ s3 σ3 H3 _ I3 ht3
      rw [gp, gw, gA, genv] at ptr
      refine wpAny_mono ptr (fun b s4 ⟨H4, I4, ι4, h4, en4, a4, q4⟩ => ?_) fun u s1 hx => out _ _ _ _ hx
      have pre4 : ι0 <+: ι4 := pre.trans (a2.pre.trans (a3.pre.trans a4.pre))
      have tl4 : TL G.K H0 H4 := tl.trans (a2.tl.trans (a3.tl.trans a4.tl))
      have pin2 : ∀ {σ' : L2.St} {H' : Hp} {s' : Shared}, Inv gX (cp ++ pinsAt fp s2.heap) σ' H' s' → tn (i + 1) s'.heap ∧ (∀ b ∈ fp, H' b = none) ∧ ∀ b ∈ fp, s'.heap.get? b = s2.heap.get? b := fun {σ' H' s'} I' => by
        have pin' : ∀ b ∈ fp, ∀ o, s2.heap.get? b = some o → s'.heap.get? b = some o ∧ H' b = none := fun b hb o e =>
          let z := I'.pin (b, o) (List.mem_append_right _ (List.mem_append_right _ (mem_pinsAt hb e)))
          ⟨z.1, z.2.1⟩
        refine ⟨T.keep _ _ _ tn2 fun b hb o e => (pin' b hb o e).1, fun b hb => ?_, fun b hb => ?_⟩
        · obtain ⟨o, e, _⟩ := T.obj _ _ tn2 b hb
          exact (pin' b hb o e).2
        · obtain ⟨o, e, _⟩ := T.obj _ _ tn2 b hb
          rw [e]; exact (pin' b hb o e).1
      have lk4 : lk acc cp ι4 H4 := hlk _ _ _ _ _ _ hl (a2.pre.trans (a3.pre.trans a4.pre)) (a2.tl.trans (a3.tl.trans a4.tl))
      cases b with
      | false =>
        rw [if_neg Bool.false_ne_true] at q4
        simp only [Bool.false_eq_true, if_false]
        obtain ⟨t4, n4, _⟩ := pin2 I4
        exact seg_again rfl (ih n s₀ s4 acc cp (i + 1) e3 σ3 ι4 h4 H4 (Nat.le_of_succ_le hmn) hcp I4.unpinned t4 n4 en4 a4.rh lk4 pre4 tl4 q4)
      | true =>
        rw [if_pos rfl] at q4
        simp only [if_true]
        have hy : ∀ v, yieldOut ge v = yieldValue v := fun v => by simp only [yieldOut, hco, Bool.false_eq_true, if_false]
        simp only [hy]
        rw [Sem.bind_eq_wrap', Sem.bind_eq_wrap', Sem.wrap_wrap, Sem.wrap_wrap]
        have he4 : TI G (gW G.K cs W σ) f σ3 H4 fun y H5 => ∃ ι5 h5 yi, REn G.K ι5 H5 e3 σ3 ∧ Aft G ι4 H4 ι5 h5 H5 ∧ RV G.K ι5 H5 yi y ∧ PR G (fun c d H' => W c d σ H') ι5 H5 Q ((st acc yi).go (genL cs S g t f st fin m (i + 1) e3) h5) := by
          refine ⟨ι4, e3, h4, en4, a4.rh, ?_⟩
          cases zf : f e3 h4 with
          | bad => rw [zf] at q4; exact q4
          | exc c h5 => rw [zf] at q4; exact exo q4
          | ok yi h5 =>
            rw [zf] at q4
            exact fun ι5 H5 y a5 ry => ⟨ι5, h5, yi, en4.mono a5.pre a5.tl, a5, ry, PR.after a5 q4⟩
        refine seg_wrap ?_
        rw [hov]
        have per := pe.run _ s4 σ3 H4 _ I4 he4
        rw [gp, gw, gA, genv] at per
        refine wpAny_mono per (fun zv s5 ⟨yv, H5, I5, r5, ι5, h5, yi, en5, a5, ry, q5⟩ => ?_) fun u s1 hx => out _ _ _ _ hx
        obtain ⟨n', rfl⟩ : ∃ n', n = n' + 1 := ⟨n - 1, by omega⟩
        obtain ⟨t5, n5, eq5⟩ := pin2 I5
        have epin : pinsAt fp s5.heap = pinsAt fp s2.heap := by
          exact pinsAt_congr eq5
        refine seg_at (seg_yield rfl rfl rfl ⟨acc, cp, yv, yi, i + 1, e3, σ3, ι5, h5, H5, m, by omega, r5, ry, hcp, by rw [epin]; exact I5, a5.rh, hlk _ _ _ _ _ _ lk4 a5.pre a5.tl, q5, fun acc' cp' s6 hcp' I6 hl' q6 => ?_⟩)
        rw [epin] at I6
        have t6 : tn (i + 1) s6.heap ∧ ∀ b ∈ fp, H5 b = none := by
          have pin' : ∀ b ∈ fp, ∀ o, s2.heap.get? b = some o → s6.heap.get? b = some o ∧ H5 b = none := fun b hb o e =>
            let z := I6.pin (b, o) (List.mem_append_right _ (List.mem_append_right _ (mem_pinsAt hb e)))
            ⟨z.1, z.2.1⟩
          refine ⟨T.keep _ _ _ tn2 fun b hb o e => (pin' b hb o e).1, fun b hb => ?_⟩
          obtain ⟨o, e, _⟩ := T.obj _ _ tn2 b hb
          exact (pin' b hb o e).2
        exact seg_again rfl (ih n' s6 s6 acc' cp' (i + 1) e3 σ3 ι5 h5 H5 (by omega) hcp' I6.unpinned t6.1 t6.2 en5 a5.rh hl' (pre4.trans a5.pre) (tl4.trans a5.tl) q6)
end
end Sh

/-! Sh13: next of a generator, for its consumer. -/
namespace Sh
open PySem PySem.Spec PyProof.Rows L2 GenW
/-- amid two items the consumer's own objects change -/
structure SL (cp cp' : List (Addr × Obj)) (s s' : Shared) : Prop where
  os : s'.os = s.os
  bare : AllBare s'.gens
  keep : ∀ b o, b ∉ cp.map (·.1) → s.heap.get? b = some o → s'.heap.get? b = some o
  at_ : ∀ p ∈ cp', p.1 ∈ cp.map (·.1) ∧ s'.heap.get? p.1 = some p.2 ∧ ∀ v, p.2.data ≠ .cell v
  all : ∀ b ∈ cp.map (·.1), ∃ o, s'.heap.get? b = some o
theorem SL.refl {cp : List (Addr × Obj)} {s s' : Shared} (h : ∀ p ∈ cp, s.heap.get? p.1 = some p.2 ∧ ∀ v, p.2.data ≠ .cell v) (hh : s'.heap = s.heap) (ho : s'.os = s.os) (hb : AllBare s'.gens) : SL cp cp s s' :=
  ⟨ho, hb, fun b o _ e => by rw [hh]; exact e, fun p hp => ⟨List.mem_map.mpr ⟨p, hp, rfl⟩, by rw [hh]; exact (h p hp).1, (h p hp).2⟩, fun b hb => by
    obtain ⟨p, hp, e⟩ := List.mem_map.mp hb
    exact ⟨p.2, by rw [hh, ← e]; exact (h p hp).1⟩⟩
section
variable {gX : Cx} {cp cp' pl : List (Addr × Obj)} {σ : L2.St} {H : Hp} {s s' : Shared}
theorem Inv.slept (I : Inv gX (cp ++ pl) σ H s) (hcp : ∀ p ∈ cp, gX.s_0.heap.objs.size ≤ p.1) (hpl : ∀ p ∈ gX.pn ++ pl, p.1 ∉ cp.map (·.1)) (hce : ∀ x c, gX.env.cells.lookup x = some c → c ∉ cp.map (·.1)) (z : SL cp cp' s s') : Inv gX (cp' ++ pl) σ H s' := by
  have pinC : ∀ b ∈ cp.map (·.1), ∃ o, s.heap.get? b = some o ∧ H b = none ∧ b ≠ gX.env.locals ∧ b ∉ gX.fs := fun b hb => by
    obtain ⟨p, hp, e⟩ := List.mem_map.mp hb
    obtain ⟨q1, q2, q3, q4, _⟩ := I.pin p (List.mem_append_right _ (List.mem_append_left _ hp))
    subst e
    exact ⟨_, q1, q2, q3, q4⟩
  have I0 : Inv gX pl σ H s := I.pins_of fun p hp => I.pin p (List.mem_append_right _ (List.mem_append_right _ hp))
  have nt : ∀ b u, H b = some u → b ∉ cp.map (·.1) := fun b u q hb => by
    obtain ⟨_, _, n, _⟩ := pinC b hb
    rw [n] at q; cases q
  obtain ⟨z1, z2, z3, z4, z5⟩ := z
  obtain ⟨hh, g, d, t, o⟩ := s'
  have ho : o = s.os := z1
  subst ho
  have J : Inv gX pl σ H { s with heap := hh, gens := g, drawn := d, toks := t } := by
    refine I0.step (g' := g) (t' := t) (d' := d) (ch := cp.map (·.1)) (fun b hb => ?_) (fun b ob _ _ hc q _ => z3 b ob hc q) (fun b ob _ _ hc q _ => ⟨ob.slots, z3 b ob hc q⟩) (fun _ _ _ _ n => n) (fun b ob hc q => ⟨ob, z3 b ob hc q⟩)
      (fun _ _ q => q) (fun _ _ _ q => q) (fun b ps q => ⟨#[], by rw [q]; simp⟩) (fun m hm => ?_) (fun b u q => ?_) z2
    · obtain ⟨o1, q1, q2, q3, q4⟩ := pinC b hb
      obtain ⟨p, hp, e⟩ := List.mem_map.mp hb
      refine ⟨.inr (by rw [← e]; exact hcp p hp), q3, fun x c e2 z => hce x c e2 (z ▸ hb), fun p2 hp2 z => hpl p2 hp2 (z ▸ hb)⟩
    · obtain ⟨ob, es, ep, ho, r⟩ := hm
      refine ⟨ob, es, ep, z3 _ ob (fun hb => ?_) ho, r⟩
      obtain ⟨_, _, _, q3, _⟩ := pinC _ hb
      exact q3 rfl
    · refine (I0.hok b u q).stay (fun c v hc y => z3 c v ?_ y) (fun _ y => y) fun _ _ y => y
      rcases hc with y | y
      · rw [y]; exact nt b u q
      · exact nt c _ y
  refine J.pins_of fun p hp => ?_
  rcases List.mem_append.mp hp with hp | hp
  · obtain ⟨h1, h2, h3⟩ := z4 p hp
    obtain ⟨_, _, n1, n2, n3⟩ := pinC p.1 h1
    exact ⟨h2, n1, n2, n3, h3⟩
  · exact J.pin p (List.mem_append_right _ hp)
/-- a generator's state stands as well where the table of generators alone has changed -/
theorem Inv.gens {pins : List (Addr × Obj)} {g' : Array GenState} (I : Inv gX pins σ H s) (hb : AllBare g') : Inv gX pins σ H { s with gens := g' } := by
  have := I.step (g' := g') (h' := s.heap) (H' := H) (t' := s.toks) (d' := s.drawn) (ch := []) (fun b hb => absurd hb (by simp)) (fun b o _ _ _ e _ => e) (fun b o _ _ _ e _ => ⟨o.slots, e⟩) (fun _ _ _ _ n => n) (fun b o _ e => ⟨o, e⟩) (fun _ _ e => e) (fun _ _ _ e => e) (fun b ps e => ⟨#[], by rw [e]; simp⟩) (fun _ h => h) I.hok hb
  exact this
end
section
variable {α : Type} {G : Gx} {X : Cx} {W : WX} {L : Addr} {sc : Shared} {Hc : Hp} {A B : Around} {ge : Env} {fp : List Addr} {pn : List (Addr × Obj)} {xe : Value → Shared → Prop} {cs : List String} {S : Sr} {g : MG} {t f : ME} {st : α → IV → St3 α} {fin : α → M IV} {lk : α → List (Addr × Obj) → List Addr → Hp → Prop} {Q : VK} {σ : L2.St} {pins : List (Addr × Obj)} {a : Addr} {gi : Nat} {go : Obj}
/-- the generator a (number gi) sleeps, no more than n items are left -/
structure Rdy (G : Gx) (X : Cx) (W : WX) (L : Addr) (σ : L2.St) (sc : Shared) (gX : Cx) (fp : List Addr) (cs : List String) (S : Sr) (g : MG) (t f : ME) (st : α → IV → St3 α) (fin : α → M IV) (lk : α → List (Addr × Obj) → List Addr → Hp → Prop) (Q : VK) (pn : List (Addr × Obj)) (B : Around) (a : Addr) (gi : Nat) (n : Nat) (s : Shared) : Prop where
  gen : s.heap.IsGen a gi
  lim : s.heap.NoLimit
  goes : ∃ gs, s.gens[gi]? = some gs ∧ gs.Goes (model X.prog X.w) B (GRe G X W L σ gX fin lk Q pn) (GYp G W σ sc gX fp cs S g t f st fin lk Q) n (.send .none) (s.setGen gi .running)
/-- back in X -/
theorem gx_back {cp : List (Addr × Obj)} {σg : L2.St} {H : Hp} {s : Shared} (I : Inv X pins σ Hc sc) (f3 : ∀ b ∈ fp, FpOk X pins Hc b) (J : Inv (gxX X A sc Hc ge fp pn xe) cp σg H s) : Inv X pins σ H s :=
  I.call' (ch := fp) J.os J.base J.hok J.bare fun b hb => ⟨(f3 b hb).2.2.2.1, (f3 b hb).2.1, (f3 b hb).2.2.2.2.1, (f3 b hb).2.2.2.2.2⟩
/-- the next item -/
theorem gen_next {n : Nat} {s : Shared} {E : Value → Shared → Prop} {Qn : Option Value → Shared → Prop} (hh : B.handled = none) (hroom : B.depth < recursionLimit)
    (hpa : (a, go) ∈ pn) (hgo : ∃ nm qn, go.cls = .type "generator" ∧ go.data = .fields #[.int gi 0, nm, qn] ∧ go.slots = #[])
    (I : Inv X pins σ Hc sc) (f3 : ∀ b ∈ fp, FpOk X pins Hc b) (hfl : ∀ b ∈ fp, b < sc.heap.objs.size) (hpl : ∀ p ∈ pn, sc.heap.objs.size ≤ p.1) (hcl : ∀ x c, ge.cells.lookup x = some c → c < sc.heap.objs.size)
    (r : Rdy G X W L σ sc (gxX X A sc Hc ge fp pn xe) fp cs S g t f st fin lk Q pn B.in1 a gi n s)
    (hE : ∀ u s1, XF X W L u s1 → E u s1)
    (hend : ∀ acc cp ι h H s1, Inv X pins σ H s1 → RH G ι h H → lk acc cp ι H → (∀ p ∈ cp, s1.heap.get? p.1 = some p.2) → PR G (fun c d H' => W c d σ H') ι H Q (fin acc h) → Qn none s1)
    (hitem : ∀ acc cp x y v ι h H s1, RelV x v → RV G.K ι H y x → Inv X pins σ H s1 → RH G ι h H → lk acc cp ι H → (∀ p ∈ cp, s1.heap.get? p.1 = some p.2 ∧ (∀ v, p.2.data ≠ .cell v) ∧ sc.heap.objs.size ≤ p.1) → (∀ p ∈ cp, H p.1 = none) →
      (∃ cont : α → M IV, PR G (fun c d H' => W c d σ H') ι H Q ((st acc y).go cont h) ∧
        ∀ acc' cp' s2, (∀ p ∈ cp, p ∉ pn ∧ ∀ q ∈ pn, q.1 ≠ p.1) → SL cp cp' s1 s2 → s2.gens = s1.gens → lk acc' cp' ι H → PR G (fun c d H' => W c d σ H') ι H Q (cont acc' h) → ∃ n', n = n' + 1 ∧ Rdy G X W L σ sc (gxX X A sc Hc ge fp pn xe) fp cs S g t f st fin lk Q pn B.in1 a gi n' s2) → Qn (some v) s1) :
    wpAny (model X.prog X.w) B (pyNext (.ref a)) Qn E s := by
  obtain ⟨hg, hl, gs, hgs, hgo2⟩ := r
  have hgl : gi < s.gens.size := (Array.getElem?_eq_some_iff.mp hgs).1
  have isG : ∀ {s' : Shared} {σ' : L2.St} {H' : Hp} {cp : List (Addr × Obj)}, Inv (gxX X A sc Hc ge fp pn xe) cp σ' H' s' → s'.heap.IsGen a gi := fun {s' σ' H' cp} J => by
    obtain ⟨nm, qn, e1, e2, e3⟩ := hgo
    exact ⟨go, nm, qn, (J.pin (a, go) (List.mem_append_left _ hpa)).1, e1, e2, e3⟩
  refine wpAny_gsz (n := gi + 1) hgl (next_genG (A := B) (F := fun n s₀ s1 => ∃ acc cp σg ι h H, Inv (gxX X A sc Hc ge fp pn xe) cp σg H s1 ∧ RH G ι h H ∧ lk acc cp ι H ∧ PR G (fun c d H' => W c d σ H') ι H Q (fin acc h))
    (Er := fun e s1 => XF X W L e s1 ∧ NotStop (model X.prog X.w) e s1.heap ∧ ∀ p ∈ pn, s1.heap.get? p.1 = some p.2) hh hl hroom hg hgs hgo2 (fun v s₁ gs' hbare hv => ?_) (fun s₁ hp h' hk => ?_) fun e s₁ he => ?_)
  · intro hsz
    obtain ⟨acc, cp, x, y, i, e, σg, ι, h, H, m, hm, rx, ry, hcp, J, rh, hlk, pr, kap⟩ := hv
    have Jg : Inv (gxX X A sc Hc ge fp pn xe) (cp ++ pinsAt fp s₁.heap) σg H (s₁.setGen gi gs') := Sh.Inv.gens J (allBare_setGen J.bare hbare)
    refine hitem acc cp x y v ι h H _ rx ry (gx_back I f3 Jg) rh hlk (fun p hp => ?_) (fun p hp => ?_) ⟨_, pr, fun acc' cp' s2 hcpn z zg hlk' pr' => ?_⟩
    · obtain ⟨q1, _, _, _, q5⟩ := J.pin p (List.mem_append_right _ (List.mem_append_left _ hp))
      exact ⟨q1, q5, hcp p hp⟩
    · exact (J.pin p (List.mem_append_right _ (List.mem_append_left _ hp))).2.1
    · cases n with
      | zero =>
        have : m = 0 := by omega
        subst this
        exact pr'.elim
      | succ n' =>
        have hm' : m ≤ n' := hm
        have hadr : ∀ b ∈ cp.map (·.1), sc.heap.objs.size ≤ b := fun b hb => by
          obtain ⟨p, hp, e⟩ := List.mem_map.mp hb
          rw [← e]; exact hcp p hp
        have J2 : Inv (gxX X A sc Hc ge fp pn xe) (cp' ++ pinsAt fp s₁.heap) σg H s2 := by
          refine Inv.slept Jg hcp (fun p hp hb => ?_) (fun x c e hb => ?_) z
          · rcases List.mem_append.mp hp with hp | hp
            · obtain ⟨q, hq, e⟩ := List.mem_map.mp hb
              exact (hcpn q hq).2 p hp e.symm
            · have h1 := hfl _ (of_pinsAt hp).1
              exact absurd (Nat.lt_of_lt_of_le h1 (hadr _ hb)) (Nat.lt_irrefl _)
          · exact absurd (Nat.lt_of_lt_of_le (hcl x c e) (hadr _ hb)) (Nat.lt_irrefl _)
        have hsz1 : gi < s₁.gens.size := by
          have q : (s₁.setGen gi gs').gens.size = s₁.gens.size := setGen_size _ _ _
          have hsz' : gi + 1 ≤ (s₁.setGen gi gs').gens.size := hsz
          omega
        refine ⟨n', rfl, isG J2, J2.nolimit, gs', by rw [zg]; exact setGen_at hsz1, ?_⟩
        refine kap acc' cp' _ (fun p hp => hadr _ (z.at_ p hp).1) (Sh.Inv.gens J2 (allBare_setGen J2.bare rfl)) hlk' pr'
  · intro hsz
    obtain ⟨acc, cp, σg, ι, h, H, J, rh, hlk, pr⟩ := hp
    have J2 : Inv (gxX X A sc Hc ge fp pn xe) cp σg H { (s₁.setGen gi .finished) with heap := h' } := L2.Inv.kept (Sh.Inv.gens J (allBare_setGen J.bare rfl)) (t' := s₁.toks) hk
    exact hend acc cp ι h H _ (gx_back I f3 J2) rh hlk (fun p hp => hk _ _ (J.pin p (List.mem_append_right _ hp)).1) pr
  · obtain ⟨hx, hns, hpk⟩ := he
    obtain ⟨nm, qn, e1, e2, e3⟩ := hgo
    refine ⟨⟨go, nm, qn, hpk (a, go) hpa, e1, e2, e3⟩, hns, fun _ => hE e _ (hx.gens rfl rfl (allBare_setGen ?_ rfl))⟩
    obtain ⟨_, _, _, _, _, _, _, _, _, _, _, _, _, _, _, ag, _⟩ := hx
    exact ag
end
end Sh

/-! Sh14: a generator expression is made. -/
namespace Sh
open PySem PySem.Spec PyProof.Rows L2 GenW
@[simp] def mGen {α : Type} (it : MI) (vs : List Nat) (g : MG) (t f : ME) (cs : List String) (st : α → IV → St3 α) (fin : α → M IV) (acc : α) : ME := fun e h => match it e h with
  | .ok S h1 => genL cs S g t f st fin (S.n + 1) 0 (wipeI e vs) acc h1
  | .exc c h1 => .exc c h1
  | .bad => .bad
section
variable {α : Type} {G : Gx} {X : Cx} {W : WX} {cs : List String} {g : MG} {t f : ME} {st : α → IV → St3 α} {fin : α → M IV} {lk : α → List (Addr × Obj) → List Addr → Hp → Prop} {Q : VK} {σ : L2.St} {pins : List (Addr × Obj)} {acc0 : α} {k : Nat}
/-- what a consumer is told of the generator at a, made in X at sc -/
structure GMd (G : Gx) (X : Cx) (W : WX) (k : Nat) (σ : L2.St) (pins : List (Addr × Obj)) (cs : List String) (S : Sr) (g : MG) (t f : ME) (st : α → IV → St3 α) (fin : α → M IV) (lk : α → List (Addr × Obj) → List Addr → Hp → Prop) (Q : VK) (acc0 : α) (sc : Shared) (Hc : Hp) (ge : Env) (fp : List Addr) (L a : Addr) (gi : Nat) (go : Obj) (xe : Around → Value → Shared → Prop) (s : Shared) : Prop where
  inv : Inv X pins σ Hc sc
  fp3 : ∀ b ∈ fp, FpOk X pins Hc b
  fpl : ∀ b ∈ fp, b < sc.heap.objs.size
  cll : ∀ x c, ge.cells.lookup x = some c → c < sc.heap.objs.size
  tf : ∀ u s', XF X W L u s' → X.xe u s'
  alt : sc.heap.objs.size ≤ a ∧ a < s.heap.objs.size
  go_ : ∃ nm qn, go.cls = .type "generator" ∧ go.data = .fields #[.int gi 0, nm, qn] ∧ go.slots = #[]
  isg : s.heap.IsGen a gi
  kept : ∀ b o, sc.heap.get? b = some o → s.heap.get? b = some o
  os : s.os = sc.os
  bare : AllBare s.gens
  wake : ∀ (B : Around) (s2 : Shared) (cp : List (Addr × Obj)) (ι : List Addr), B.handled = none → B.frames = some X.stack → Room k (B.deeper ge) → (∀ b o, s.heap.get? b = some o → s2.heap.get? b = some o) → s2.os = s.os → s2.gens = s.gens → (∀ p ∈ cp, s2.heap.get? p.1 = some p.2 ∧ s.heap.objs.size ≤ p.1 ∧ ∀ v, p.2.data ≠ .cell v) →
    (∀ ι, lk acc0 cp ι Hc) → Rdy G X W L σ sc (gxX X (B.deeper ge) sc Hc ge fp [(a, go)] (xe (B.deeper ge))) fp cs S g t f st fin lk Q [(a, go)] B a gi (S.n + 1) s2
/-- a generator expression's parts, in any context of its frame -/
def SGn (G : Gx) (X : Cx) (k : Nat) (scope : Scope) (tg : Expr) (ifs : List Expr) (elt : Expr) (g : MG) (t f : ME) : Prop :=
  ∀ (A : Around) (sc : Shared) (Hc : Hp) (C : Addr) (code : Value) (fp : List Addr) (pn : List (Addr × Obj)) (xe : Value → Shared → Prop) (W' : WX), Can G (gxX X A sc Hc (genEnv scope (cloFrom X.env.cells scope.names []) C code builtinsNs X.env) fp pn xe) W' k →
    SG G (gxX X A sc Hc (genEnv scope (cloFrom X.env.cells scope.names []) C code builtinsNs X.env) fp pn xe) W' tg g ∧ SQ G (gxX X A sc Hc (genEnv scope (cloFrom X.env.cells scope.names []) C code builtinsNs X.env) fp pn xe) W' ifs t ∧
      SE G (gxX X A sc Hc (genEnv scope (cloFrom X.env.cells scope.names []) C code builtinsNs X.env) fp pn xe) W' elt f
theorem gen_make {elt tg iter : Expr} {ifs : List Expr} {scope : Scope} {own : List (Str × Nat)} {pos : Pos} {it : MI} {c P : Addr} {nm : Nat → Nat → Str} {s : Shared} {H : Hp} {j : Nat} {Qf : Value → Shared → Prop}
    (C : Can G X W j) (ct : CT G X c P nm) (hn : nm pos.line pos.col = X.env.qual ++ "<genexpr>") (ns : NoStp G.K cs) (I : Inv X pins σ H s) (hi : SI G X W tg iter it) (ok : BlkOk X.N X.env.scope scope own)
    (hcell : ∀ y ∈ scope.names, y.2 ≠ .cell) (h0 : scope.names.lookup (".0" : Str) = some NameKind.local) (hco : scope.isCoroutine = false) (hb : SGn G X k scope tg ifs elt g t f) (hs : ∀ x, genFold iter X.env x = pure x)
    (hlk : ∀ acc cp ι H ι' H', lk acc cp ι H → ι <+: ι' → TL G.K H H' → lk acc cp ι' H')
    (h : TI G W (mGen it (own.map (·.2)) g t f cs st fin acc0) σ H Q)
    (hQ : ∀ S sc Hc ge fp L a gi go xe s', GMd G X W k σ pins cs S g t f st fin lk Q acc0 sc Hc ge fp L a gi go xe s' → Qf (.ref a) s') :
    wpAny (model X.prog X.w) X.A (eval (.GeneratorExp elt [⟨tg, iter, ifs, 0⟩] scope pos) X.env) Qf X.xe s := by
  obtain ⟨L, tp, tf⟩ := C.tf
  have hfree : ∀ y ∈ scope.names, y.2 = .free → ∃ c, X.env.cells.lookup y.1 = some c := fun y hy e => by
    rcases ok.free y hy e with k | k
    · exact I.ok.has _ (.inl k)
    · exact I.ok.has _ (.inr k)
  obtain ⟨ι, e, h0', en, rh, hq⟩ := h
  have hT : TII G W it σ H fun J H1 => ∃ S ι1 h1, Aft G ι H ι1 h1 H1 ∧ SrOk G ι1 H1 S J ∧ PR G (fun c d H' => W c d σ H') ι1 H1 Q (genL cs S g t f st fin (S.n + 1) 0 (wipeI e (own.map (·.2))) acc0 h1) := by
    refine ⟨ι, e, h0', en, rh, ?_⟩
    simp only [mGen] at hq
    cases z : it e h0' with
    | bad => rw [z] at hq; exact hq
    | exc c h1 => rw [z] at hq; exact hq
    | ok S h1 =>
      rw [z] at hq
      exact fun ι1 H1 J a so => ⟨S, ι1, h1, a, so, PR.after a hq⟩
  refine wpAny_GeneratorExp_make hco (closure_ok hfree) hcell h0 ok.kind C.room.depth (thn (hi.run pins s σ H _ I hT) fun xv s1 hx => thn hx fun itv s2 h2 => ?_) hs
  obtain ⟨itA, fp, tn, J, H2, e2, I2, T, st2, f2, S, ι2, hh2, af2, so, q⟩ := h2
  subst e2
  refine ⟨I2.nolimit, gcode I2 af2.rh ct hn fun code H3 s3 I3 af3 kp3 fr3 os3 sz3 => ?_⟩
  obtain ⟨bm, ob, e1, e2, e3, e4, e5, e6, e7, e8⟩ := ct.tb.bm
  refine wpAny_builtinsFor (m := X.mg) (by rw [I3.ok.glob]; exact I3.mod.glob.keeps I3.bk) e1 e2 (I3.bk _ _ e5) e6 e7 e8 ?_
  intro h4 hn4 hs4
  have sz : ∀ b ∈ fp, b < s2.heap.objs.size := fun b hb => by
    obtain ⟨o, e, _⟩ := T.obj _ _ st2 b hb
    exact Heap.lt_size e
  have f3 : ∀ b ∈ fp, FpOk X pins H3 b := fun b hb => ⟨fr3 b (sz b hb) (f2 b hb).1, (f2 b hb).2⟩
  have st3 : tn 0 s3.heap := T.keep _ _ _ st2 fun b hb o e => kp3 b o (f2 b hb).1 e
  have hsz4 : h4.objs.size = s3.heap.objs.size + 1 := by rw [hs4.1, Heap.size_push]
  have keep4 : ∀ b o, s3.heap.get? b = some o → h4.get? b = some o := fun b o e => hs4.extBut b o (Nat.ne_of_lt (Heap.lt_size e)) (Heap.get?_push_of_some _ e)
  generalize hgo : ({ cls := .type "generator", data := .fields #[.int s3.gens.size 0, .str "<genexpr>" (s3.toks + 1), .str (X.env.qual ++ "<genexpr>") (s3.toks + 1 + 1)] } : Obj) = go
  have keep5 : ∀ b o, s3.heap.get? b = some o → (h4.push go).get? b = some o := fun b o e => Heap.get?_push_of_some _ (keep4 b o e)
  have hgo5 : (h4.push go).get? h4.objs.size = some go := Heap.get?_push_size _ (by rw [← hgo]; rfl)
  have goF : ∃ nm qn, go.cls = .type "generator" ∧ go.data = .fields #[.int s3.gens.size 0, nm, qn] ∧ go.slots = #[] := ⟨_, _, by rw [← hgo], by rw [← hgo], by rw [← hgo]⟩
  have isG : ∀ {hp : Heap}, hp.get? h4.objs.size = some go → hp.IsGen h4.objs.size s3.gens.size := fun {hp} e => by
    obtain ⟨nm, qn, z1, z2, z3⟩ := goF
    exact ⟨go, nm, qn, e, z1, z2, z3⟩
  have goc : ∀ v, go.data ≠ .cell v := fun v z => by rw [← hgo] at z; cases z
  have clt : ∀ x c, (cloFrom X.env.cells scope.names []).lookup x = some c → c < s3.heap.objs.size := fun x c e => by
    rcases cloFrom_mem (PySem.mem_of_lookup e) with hm | ⟨h1, h2⟩
    · cases hm
    · obtain ⟨c1, hc⟩ := hfree _ h1 rfl
      have hc : X.env.cells.lookup x = some c1 := hc
      rw [h2, hc]
      obtain ⟨v, o, ho, _⟩ := I3.cell x c1 hc
      exact Heap.lt_size ho
  obtain ⟨xeF, hxeF⟩ : ∃ F : Around → Value → Shared → Prop, F = (fun A u s => wpAny (model X.prog X.w) A (leaving (genEnv scope (cloFrom X.env.cells scope.names []) s3.heap.objs.size code builtinsNs X.env) u) (fun _ s2 => XF X W L u s2 ∧ NotStop (model X.prog X.w) u s2.heap ∧ ∀ p ∈ [(h4.objs.size, go)], s2.heap.get? p.1 = some p.2) (fun _ _ => False) s) := ⟨_, rfl⟩
  refine hQ S s3 H3 (genEnv scope (cloFrom X.env.cells scope.names []) s3.heap.objs.size code builtinsNs X.env) fp L h4.objs.size s3.gens.size go
    xeF _ ⟨I3, f3, fun b hb => Nat.lt_of_lt_of_le (sz b hb) sz3, clt, tf, ⟨by omega, ?_⟩, goF, isG hgo5, keep5, rfl, AllBare.push I3.bare rfl, fun B s6 cp ι' hB hBf hBr k6 os6 g6 hcp hl => ?_⟩
  · show h4.objs.size < (h4.push go).objs.size
    rw [Heap.size_push]; exact Nat.lt_succ_self _
  -- the generator wakes
  have kp6 : ∀ b o, s3.heap.get? b = some o → s6.heap.get? b = some o := fun b o e => k6 b o (keep5 b o e)
  have lim6 : s6.heap.NoLimit := I3.nolimit.keeps kp6
  have hgi : s6.gens[s3.gens.size]? = some (.fresh (.compStart (.GeneratorExp elt [⟨tg, iter, ifs, 0⟩] scope pos) 0 (.ref itA) .none (genEnv scope (cloFrom X.env.cells scope.names []) s3.heap.objs.size code builtinsNs X.env))) := by
    rw [g6]; exact Array.getElem?_push_size ..
  refine ⟨isG (k6 _ _ hgo5), lim6, _, hgi, rfl, ?_⟩
  have b6 : AllBare (s6.setGen s3.gens.size .running).gens := allBare_setGen (by rw [g6]; exact AllBare.push I3.bare rfl) rfl
  have G6 := gx_start (own := own) (fp := fp) (pn := [(h4.objs.size, go)] ++ cp) (xe := fun u s => wpAny (model X.prog X.w) (B.deeper (genEnv scope (cloFrom X.env.cells scope.names []) s3.heap.objs.size code builtinsNs X.env)) (leaving (genEnv scope (cloFrom X.env.cells scope.names []) s3.heap.objs.size code builtinsNs X.env) u) (fun _ s2 => XF X W L u s2 ∧ NotStop (model X.prog X.w) u s2.heap ∧ ∀ p ∈ [(h4.objs.size, go)], s2.heap.get? p.1 = some p.2) (fun _ _ => False) s)
    (A := B.deeper (genEnv scope (cloFrom X.env.cells scope.names []) s3.heap.objs.size code builtinsNs X.env)) (s1 := s6.setGen s3.gens.size .running) (m := fun y => if y = ".0" then some (.ref itA) else none) I3 C.nd ok hcell (fun b hb => ⟨f3 b hb, Nat.lt_of_lt_of_le (sz b hb) sz3⟩) (Nat.le_refl _) hBr.hd (Around.frames_deeper hBf)
    kp6 os6 b6 ((hn4.push _).keeps k6) (fun p hp => by
      rcases List.mem_append.mp hp with z | z
      · rw [List.mem_singleton.mp z]
        exact ⟨k6 _ _ hgo5, by omega, by rw [hsz4]; exact Nat.succ_ne_self _, goc⟩
      · obtain ⟨z1, z2, z3⟩ := hcp p z
        have z2' : (h4.push go).objs.size ≤ p.1 := z2
        rw [Heap.size_push, hsz4] at z2'
        have hlt : s3.heap.objs.size < p.1 := by omega
        exact ⟨z1, Nat.le_of_lt hlt, Nat.ne_of_gt hlt, z3⟩)
  have G7 : Inv (gxX X (B.deeper (genEnv scope (cloFrom X.env.cells scope.names []) s3.heap.objs.size code builtinsNs X.env)) s3 H3 (genEnv scope (cloFrom X.env.cells scope.names []) s3.heap.objs.size code builtinsNs X.env) fp [(h4.objs.size, go)]
      (xeF (B.deeper (genEnv scope (cloFrom X.env.cells scope.names []) s3.heap.objs.size code builtinsNs X.env)))) cp (L2.wipe σ (own.map (·.2))) H3 (s6.setGen s3.gens.size .running) :=
    ⟨⟨G6.ok.mod, G6.ok.kind, G6.ok.glob, G6.ok.blt, G6.ok.above, G6.ok.inj, G6.ok.has, G6.ok.cab, G6.ok.hd, G6.ok.frames, G6.ok.stk, G6.ok.exf, G6.ok.bs, G6.ok.bsz, G6.ok.noex, G6.ok.exfs, G6.ok.funs, G6.ok.frf⟩, G6.os, G6.bare, G6.base, G6.loc, G6.cell, G6.free, G6.freeC,
      fun p hp => G6.pin p (List.mem_append_left _ hp), G6.hok, G6.len⟩
  have en3 : REn G.K ι2 H3 (wipeI e (own.map (·.2))) (L2.wipe σ (own.map (·.2))) := ((en.mono af2.pre af2.tl).mono af3.pre af3.tl).wipe _
  have so3 : SrOk G ι2 H3 S J := fun i ι' h' H' r p tl => so i ι' h' H' r p (af3.tl.trans tl)
  have C2 : Can G (gxX X (B.deeper (genEnv scope (cloFrom X.env.cells scope.names []) s3.heap.objs.size code builtinsNs X.env)) s3 H3 (genEnv scope (cloFrom X.env.cells scope.names []) s3.heap.objs.size code builtinsNs X.env) fp [(h4.objs.size, go)]
      (xeF (B.deeper (genEnv scope (cloFrom X.env.cells scope.names []) s3.heap.objs.size code builtinsNs X.env)))) (gW G.K cs W σ) k := by
    refine ⟨⟨s3.heap.objs.size, ⟨⟨_, _, rfl, rfl⟩, rfl⟩, fun u s' x => ?_⟩, hBr, rfl, C.nd, C.hK⟩
    obtain ⟨⟨e0, r0, hst, _⟩, _⟩ := tp
    show xeF _ u s'
    rw [hxeF]
    refine gx_out (cs := cs) (xe := xeF (B.deeper (genEnv scope (cloFrom X.env.cells scope.names []) s3.heap.objs.size code builtinsNs X.env))) I3 f3 ⟨e0, r0, hst⟩ rfl rfl (Nat.le_refl _) (by rw [C.hK]; exact ns) u s' ?_
    rw [C.hK]
    exact x
  obtain ⟨pg, pt, pe⟩ := hb _ _ _ _ _ _ _ _ _ C2
  have loop := seg_gen (A' := B) (W := W) (σ := σ) (cs := cs) (st := st) (fin := fin) (Q := Q) (elt := elt) (tg := tg) (iter := iter) (ifs := ifs) (scope := scope) (pos := pos) (lk := lk) rfl (congrFun hxeF _) (by rfl) hco C2 T (fun b hb => Nat.lt_of_lt_of_le (sz b hb) sz3) (fun p hp => by rw [List.mem_singleton.mp hp]; show s3.heap.objs.size ≤ h4.objs.size; omega) so3 pg pt pe hlk
    (S.n + 1) (S.n + 1) (s6.setGen s3.gens.size .running) (s6.setGen s3.gens.size .running) acc0 cp 0 _ _ ι2 hh2 H3 (Nat.le_refl _) (fun p hp => by
      obtain ⟨z1, z2, z3⟩ := hcp p hp
      have z2' : (h4.push go).objs.size ≤ p.1 := z2
      rw [Heap.size_push, hsz4] at z2'
      have hlt : s3.heap.objs.size < p.1 := by omega
      exact Nat.le_of_lt hlt) G7 (T.keep _ _ _ st3 fun b _ o e => kp6 b o e) (fun b hb => (f3 b hb).1) en3 af3.rh (hl ι2) (List.prefix_refl _) (TL.refl _ _) (PR.after af3 q)
  show Seg _ B _ _ _ _ _ ((compStart (.GeneratorExp elt [⟨tg, iter, ifs, 0⟩] scope pos) 0 (.ref itA) .none _).onRaise (leaving _)) [] _
  unfold compStart
  rw [Sem.onRaise_eq_wrap]
  show Seg _ B _ _ _ _ _ ((ask >>= _).wrap _ _ _ _) [] _
  refine seg_bind_wrap (wpAny_askSetting ?_)
  split
  · exact seg_again rfl loop
  · first
      | exact seg_bind_wrap (wpAny_rule (seg_bind_wrap (wpAny_standAt (seg_bind_wrap (T.self _ 0 _ _ _ (T.keep _ _ _ st3 fun b _ o e => kp6 b o e) (seg_again rfl loop))))))
      | (refine seg_bind_wrap (wpAny_rule ?_); show Seg _ B _ _ _ _ _ ((standAt iter.pos >>= _).wrap _ _ _ _) [] _; exact seg_bind_wrap (wpAny_standAt (seg_bind_wrap (T.self _ 0 _ _ _ (T.keep _ _ _ st3 fun b _ o e => kp6 b o e) (seg_again rfl loop)))))
end
end Sh

/-! Sh15: any(..), all(..) of a generator expression. -/
namespace Sh
open PySem PySem.Spec PyProof.Rows L2 GenW
/-- any, all: the flag is the answer that ends it -/
@[simp] def stB (b : Bool) : Unit → IV → St3 Unit := fun _ y => match y with
  | .bl c => if c = b then .out (.bl b) else .more ()
  | _ => .bad
@[simp] def finB (b : Bool) : Unit → M IV := fun _ h => .ok (.bl !b) h
abbrev lk0 : Unit → List (Addr × Obj) → List Addr → Hp → Prop := fun _ cp _ _ => cp = []
section
variable {G : Gx} {X : Cx} {W : WX} {cs : List String} {S : Sr} {g : MG} {t f : ME} {Q : VK} {σ : L2.St} {pins : List (Addr × Obj)} {k : Nat} {sc : Shared} {Hc : Hp} {ge : Env} {fp : List Addr} {L a : Addr} {gi : Nat} {go : Obj} {xe : Around → Value → Shared → Prop} {s5 : Shared} {b : Bool}
/-- one turn of the loop -/
theorem turnB (M : GMd G X W k σ pins cs S g t f (stB b) (finB b) lk0 Q () sc Hc ge fp L a gi go xe s5) (hh : X.A.handled = none) (hd : X.A.depth < recursionLimit) {n : Nat} {s : Shared} {Ax : Around} {R : Value → Shared → Prop} {E : Value → Shared → Prop}
    (r : Rdy G X W L σ sc (gxX X Ax sc Hc ge fp [(a, go)] (xe Ax)) fp cs S g t f (stB b) (finB b) lk0 Q [(a, go)] X.A.in1.in1 a gi n s)
    (hR : ∀ c s', EP X pins σ Q (.bool c) s' → R (.bool c) s') (hE : ∀ u s1, XF X W L u s1 → E u s1) :
    wpAny (model X.prog X.w) X.A.in1 (pyNext (.ref a)) (fun v s1 => match v with
      | none => R (.bool !b) s1
      | some v => ∃ c, v = .bool c ∧ (c = b → R (.bool b) s1) ∧ (c ≠ b → ∃ n', n = n' + 1 ∧ Rdy G X W L σ sc (gxX X Ax sc Hc ge fp [(a, go)] (xe Ax)) fp cs S g t f (stB b) (finB b) lk0 Q [(a, go)] X.A.in1.in1 a gi n' s1)) E s := by
  refine gen_next (B := X.A.in1) hh hd (List.mem_singleton.mpr rfl) M.go_ M.inv M.fp3 M.fpl (fun p hp => by rw [List.mem_singleton.mp hp]; exact M.alt.1) M.cll r hE (fun acc cp ι h H s1 I1 rh hl _ pr => ?_) fun acc cp x y v ι h H s1 rx ry I1 rh hl hcp hcn ⟨cont, pr, kap⟩ => ?_
  · exact hR _ _ ⟨.bl !b, H, I1, rfl, pr ι H _ (Aft.refl rh) (bl_iff.mpr rfl)⟩
  · cases y with
    | bl d =>
      obtain rfl := bl_iff.mp ry
      obtain rfl : v = Value.bool d := rx
      refine ⟨d, rfl, fun e => ?_, fun e => ?_⟩
      · subst e
        simp only [stB, if_true] at pr
        exact hR _ _ ⟨.bl d, H, I1, rfl, pr ι H _ (Aft.refl rh) (bl_iff.mpr rfl)⟩
      · simp only [stB, if_neg e] at pr
        have hl : cp = [] := hl
        subst hl
        exact kap () [] s1 (fun p hp => absurd hp (by simp)) (SL.refl (fun p hp => absurd hp (by simp)) rfl rfl I1.bare) rfl rfl pr
    | _ => exact pr.elim
theorem any_loop (M : GMd G X W k σ pins cs S g t f (stB true) (finB true) lk0 Q () sc Hc ge fp L a gi go xe s5) (hh : X.A.handled = none) (hd : X.A.depth < recursionLimit) {R : Result → Shared → Prop} {Ax : Around}
    (hR : ∀ c s', EP X pins σ Q (.bool c) s' → R (.ok (.ret (.bool c))) s') (hE : ∀ u s1, XF X W L u s1 → R (.error u) s1) : ∀ (n : Nat) (s : Shared), Rdy G X W L σ sc (gxX X Ax sc Hc ge fp [(a, go)] (xe Ax)) fp cs S g t f (stB true) (finB true) lk0 Q [(a, go)] X.A.in1.in1 a gi n s →
      codeAny (model X.prog X.w) X.A (.builtin "any.loop" ⟨[.ref a], []⟩) R s := by
  intro n
  induction n using Nat.strongRecOn with
  | ind n ih =>
    intro s r
    refine codeAny_builtin F.entry_any_loop ?_
    rw [Around.under_plainId F.plain_any_loop _]
    show wpAny _ X.A.in1 (pyNext (.ref a) >>= _) _ _ s
    refine wpAny_bind (wpAny_mono (turnB M hh hd (R := fun v s' => R (.ok (.ret v)) s') (E := fun e s' => R (.error e) s') r hR hE) (fun v s1 q => ?_) fun _ _ e => e)
    cases v with
    | none => exact wpAny_bind (wpAny_rule (wpAny_pure q))
    | some v =>
      obtain ⟨c, rfl, q1, q2⟩ := q
      refine wpAny_bind (wpAny_holding (wpAny_truthy_bool ?_))
      refine wpAny_bind (wpAny_letGo ?_)
      cases c with
      | true =>
        simp only [if_true]
        exact wpAny_bind (wpAny_rule (wpAny_pure (q1 rfl)))
      | false =>
        simp only [Bool.false_eq_true, if_false]
        obtain ⟨n', e, r'⟩ := q2 (by decide)
        exact wpAny_pure ⟨plainId_quiet F.plain_any_loop _, ih n' (by omega) _ r'⟩
theorem all_loop (M : GMd G X W k σ pins cs S g t f (stB false) (finB false) lk0 Q () sc Hc ge fp L a gi go xe s5) (hh : X.A.handled = none) (hd : X.A.depth < recursionLimit) {R : Result → Shared → Prop} {Ax : Around}
    (hR : ∀ c s', EP X pins σ Q (.bool c) s' → R (.ok (.ret (.bool c))) s') (hE : ∀ u s1, XF X W L u s1 → R (.error u) s1) : ∀ (n : Nat) (s : Shared), Rdy G X W L σ sc (gxX X Ax sc Hc ge fp [(a, go)] (xe Ax)) fp cs S g t f (stB false) (finB false) lk0 Q [(a, go)] X.A.in1.in1 a gi n s →
      codeAny (model X.prog X.w) X.A (.builtin "all.loop" ⟨[.ref a], []⟩) R s := by
  intro n
  induction n using Nat.strongRecOn with
  | ind n ih =>
    intro s r
    refine codeAny_builtin F.entry_all_loop ?_
    rw [Around.under_plainId F.plain_all_loop _]
    show wpAny _ X.A.in1 (pyNext (.ref a) >>= _) _ _ s
    refine wpAny_bind (wpAny_mono (turnB M hh hd (R := fun v s' => R (.ok (.ret v)) s') (E := fun e s' => R (.error e) s') r hR hE) (fun v s1 q => ?_) fun _ _ e => e)
    cases v with
    | none => exact wpAny_bind (wpAny_rule (wpAny_pure q))
    | some v =>
      obtain ⟨c, rfl, q1, q2⟩ := q
      refine wpAny_bind (wpAny_holding (wpAny_truthy_bool ?_))
      refine wpAny_bind (wpAny_letGo ?_)
      cases c with
      | false =>
        simp only [Bool.false_eq_true, if_false]
        exact wpAny_bind (wpAny_rule (wpAny_pure (q1 rfl)))
      | true =>
        simp only [if_true]
        obtain ⟨n', e, r'⟩ := q2 (by decide)
        exact wpAny_pure ⟨plainId_quiet F.plain_all_loop _, ih n' (by omega) _ r'⟩
variable {elt tg iter : Expr} {ifs : List Expr} {scope : Scope} {own : List (Str × Nat)} {p pos gpos : Pos} {it : MI} {c P : Addr} {nm : Nat → Nat → Str}
theorem room_ge {k : Nat} {A : Around} (r : Room (k + 3) A) (en : Env) : Room k (A.in1.in1.deeper en) := (r.in1.in1).deeper en
/-- what is asked of a generator expression, but for its parts -/
structure GxOk (G : Gx) (X : Cx) (k : Nat) (cs : List String) (scope : Scope) (own : List (Str × Nat)) (gpos : Pos) (elt tg iter : Expr) (ifs : List Expr) (g : MG) (t f : ME) : Prop where
  ct : ∃ c P nm, CT G X c P nm ∧ nm gpos.line gpos.col = X.env.qual ++ "<genexpr>"
  ns : NoStp G.K cs
  ok : BlkOk X.N X.env.scope scope own
  cell : ∀ y ∈ scope.names, y.2 ≠ .cell
  dot : scope.names.lookup (".0" : Str) = some NameKind.local
  co : scope.isCoroutine = false
  body : SGn G X k scope tg ifs elt g t f
  fold : ∀ x, genFold iter X.env x = pure x
theorem se_any (C : Can G X W (k + 3)) (hi : SI G X W tg iter it) (O : GxOk G X k cs scope own gpos elt tg iter ifs g t f) (hg : Gl X "any") (hm : X.mg "any" = none)
    (he : starEach [.GeneratorExp elt [⟨tg, iter, ifs, 0⟩] scope gpos] X.env = (false, eval (.GeneratorExp elt [⟨tg, iter, ifs, 0⟩] scope gpos) X.env) :: starEach [] X.env := by rfl) :
    SE G X W (.Call (.Name "any" p) [.GeneratorExp elt [⟨tg, iter, ifs, 0⟩] scope gpos] [] pos) (mGen it (own.map (·.2)) g t f cs (stB true) (finB true) ()) := by
  refine ⟨fun pins s σ H Q I h => ?_⟩
  refine wpAny_Call_Name_kw (ld_blt I hg hm boot_any ?_)
  refine PyProof.Rows.callWith_builtin1 ?_ he (by rfl)
  rw [he]
  show wpAny _ _ (spliced ((false, eval (.GeneratorExp elt [⟨tg, iter, ifs, 0⟩] scope gpos) X.env) :: backTo pos (starEach [] X.env))) _ _ s
  obtain ⟨c, P, nm, ct, hn⟩ := O.ct
  refine Calls.spliced_cons (gen_make (lk := lk0) C ct hn O.ns I hi O.ok O.cell O.dot O.co O.body O.fold (fun _ _ _ _ _ _ h _ _ => h) h fun S sc Hc ge fp L a gi go xe s5 M => ?_)
  refine Calls.spliced_nil ?_
  refine call_function_tree F.kind_any F.plain_any F.entry_any (F.args_any1 _) ?_
  unfold Builtin.«any»
  refine wpAny_bind (m := oneArg "any" _) (wpAny_pure ?_)
  refine wpAny_bind (wpAny_pyIter_gen M.isg ?_)
  refine wpAny_pure ⟨plainId_quiet F.plain_any_loop _, any_loop M C.room.hd C.room.depth (fun _ _ q => q) (fun u s1 x => M.tf u s1 x) (S.n + 1) s5 (M.wake X.A.in1.in1 s5 [] [] C.room.hd I.ok.frames (room_ge C.room ge) (fun _ _ e => e) rfl rfl (fun p hp => absurd hp (by simp)) fun _ => rfl)⟩
theorem se_all (C : Can G X W (k + 3)) (hi : SI G X W tg iter it) (O : GxOk G X k cs scope own gpos elt tg iter ifs g t f) (hg : Gl X "all") (hm : X.mg "all" = none) (hb : bootBuiltins "all" = some (.builtin "all"))
    (he : starEach [.GeneratorExp elt [⟨tg, iter, ifs, 0⟩] scope gpos] X.env = (false, eval (.GeneratorExp elt [⟨tg, iter, ifs, 0⟩] scope gpos) X.env) :: starEach [] X.env := by rfl) :
    SE G X W (.Call (.Name "all" p) [.GeneratorExp elt [⟨tg, iter, ifs, 0⟩] scope gpos] [] pos) (mGen it (own.map (·.2)) g t f cs (stB false) (finB false) ()) := by
  refine ⟨fun pins s σ H Q I h => ?_⟩
  refine wpAny_Call_Name_kw (ld_blt I hg hm hb ?_)
  refine PyProof.Rows.callWith_builtin1 ?_ he (by rfl)
  rw [he]
  show wpAny _ _ (spliced ((false, eval (.GeneratorExp elt [⟨tg, iter, ifs, 0⟩] scope gpos) X.env) :: backTo pos (starEach [] X.env))) _ _ s
  obtain ⟨c, P, nm, ct, hn⟩ := O.ct
  refine Calls.spliced_cons (gen_make (lk := lk0) C ct hn O.ns I hi O.ok O.cell O.dot O.co O.body O.fold (fun _ _ _ _ _ _ h _ _ => h) h fun S sc Hc ge fp L a gi go xe s5 M => ?_)
  refine Calls.spliced_nil ?_
  refine call_function_tree F.kind_all F.plain_all F.entry_all (F.args_all1 _) ?_
  unfold Builtin.«all»
  refine wpAny_bind (m := oneArg "all" _) (wpAny_pure ?_)
  refine wpAny_bind (wpAny_pyIter_gen M.isg ?_)
  refine wpAny_pure ⟨plainId_quiet F.plain_all_loop _, all_loop M C.room.hd C.room.depth (fun _ _ q => q) (fun u s1 x => M.tf u s1 x) (S.n + 1) s5 (M.wake X.A.in1.in1 s5 [] [] C.room.hd I.ok.frames (room_ge C.room ge) (fun _ _ e => e) rfl rfl (fun p hp => absurd hp (by simp)) fun _ => rfl)⟩
end
end Sh

/-! Sh16: enumerate, zip. -/
namespace PySem
open Sem (wp)
open AutoSeq1 (wpAny_loadPart')
set_option maxHeartbeats 1000000 in
theorem sh_meets_enum {v : Value} {o : Obj} {H : Heap → Prop} (B : Begins v o H) :
    Meets (Builtin.«enumerate.__new__» ⟨[.type "enumerate", v], []⟩) (fun _ R s => H s.heap ∧
      R (.ok (.ret (.ref (s.heap.push o).objs.size))) { s with heap := (s.heap.push o).push { cls := .type "enumerate", data := .fields #[.none, .bool false, .ref s.heap.objs.size, rawInt 0, .none, .none] } }) :=
  .of_wp fun prog w A R s h => by
    obtain ⟨hp, g, d, tk, os⟩ := s
    obtain ⟨h1, h⟩ := h
    have hsub := sub_enumerate
    have q1 : ∀ {A' : Around} {E : Value → Shared → Prop} {Q : Value → Shared → Prop}, Q (.ref hp.objs.size) ⟨hp.push o, g, d, tk, os⟩ → wpAny (model prog w) A' (pyIter v) Q E ⟨hp, g, d, tk, os⟩ := fun q => B.iter prog w _ _ ⟨hp, g, d, tk, os⟩ _ h1 q
    wp_walk
    refine wpAny_stack_any fun st => wpAny_pure ?_
    split
    · rename_i c _ _ _ _ _
      cases (c == Value.type "enumerate")
      · wp_walk using q1
        exact ⟨_, rfl, h⟩
      · wp_walk using q1
        exact ⟨_, rfl, h⟩
    · wp_walk using q1
      exact ⟨_, rfl, h⟩
theorem sh_call_enum {prog : Program} {w : World} {A : Around} {E : Value → Shared → Prop} {s : Shared} {v : Value} {o : Obj} {H : Heap → Prop} {Q : Value → Shared → Prop} (B : Begins v o H) (h1 : H s.heap)
    (h : ∀ h', IsEnum h' (s.heap.objs.size + 1) s.heap.objs.size 0 .none → h'.get? s.heap.objs.size = some o → h'.objs.size = s.heap.objs.size + 2 →
      (∀ b o, s.heap.get? b = some o → h'.get? b = some o) → Q (.ref (s.heap.objs.size + 1)) { s with heap := h' }) :
    wpAny (model prog w) A (call (.type "enumerate") [v]) Q E s := by
  refine callType_new F.called_enumerate (by decide) (F.typeCall_enumerate_1 _) (F.newCall_enumerate_1 _) (fun obj => F.args_object_init_2 obj _) F.entry_enumerate_new (sh_meets_enum B) ⟨h1, ?_⟩
  have hz : (s.heap.push o).objs.size = s.heap.objs.size + 1 := Heap.size_push ..
  show _ ∧ _
  rw [hz]
  have he : IsEnum ((s.heap.push o).push { cls := .type "enumerate", data := .fields #[.none, .bool false, .ref s.heap.objs.size, rawInt 0, .none, .none] }) (s.heap.objs.size + 1) s.heap.objs.size 0 .none := by
    have := Heap.get?_push_size (s.heap.push o) (o := { cls := .type "enumerate", data := .fields #[.none, .bool false, .ref s.heap.objs.size, rawInt 0, .none, .none] }) rfl
    rw [hz] at this; exact this
  exact ⟨⟨_, he, rfl⟩, h _ he (Heap.get?_push_of_some _ (Heap.get?_push_size _ B.free)) (by rw [Heap.size_push, hz]) fun b o x => Heap.get?_push_of_some _ (Heap.get?_push_of_some _ x)⟩
end PySem
namespace Sh
open PySem PySem.Spec PyProof.Rows L2
/-- what an inner iterator walks -/
inductive Ik where
  | li (q : Addr)
  | tu (q : Addr)
  | te (x : Str) (u : Tok)
def Ik.v : Ik → Value
  | .li q => .ref q
  | .tu q => .ref q
  | .te x u => .str x u
def Ik.o : Ik → Obj
  | .li q => { cls := .type "list_iterator", data := .fields #[.ref q, .int 0 0] }
  | .tu q => { cls := .type "tuple_iterator", data := .fields #[.ref q, .int 0 0] }
  | .te x u => { cls := .type (strIterType x), data := .fields #[.str x u, .int 0 0] }
def Ik.ad : Ik → List Addr
  | .li q => [q]
  | .tu q => [q]
  | .te _ _ => []
/-- the iterator's state -/
def Ik.at (d : Ik) (it : Addr) (i : Nat) (h : Heap) : Prop := match d with
  | .li q => h.IsListIter it q i
  | .tu q => h.IsTupleIter it q i
  | .te x u => h.IsStrIter it (strIterType x) x u i
/-- its items -/
def Ik.xs (K : PySem.W.Frag) (d : Ik) (H : Hp) (xs : List V) : Prop := match d with
  | .li q => SqL K H q xs
  | .tu q => SqT K H q xs
  | .te x _ => xs = x.cps.toList.map fun c => V.str ⟨#[c]⟩
theorem Ik.keep {d : Ik} {it : Addr} {i : Nat} {h h' : Heap} (st : d.at it i h) (k : ∀ o, h.get? it = some o → h'.get? it = some o) : d.at it i h' := by
  cases d with
  | li q => exact (show h.IsListIter it q i from st).at fun o e => k o e
  | tu q => exact (show h.IsTupleIter it q i from st).at fun o e => k o e
  | te x u => obtain ⟨o, e, r⟩ := (show h.IsStrIter it (strIterType x) x u i from st); exact ⟨o, k o e, r⟩
theorem Ik.obj {d : Ik} {it : Addr} {i : Nat} {h : Heap} (st : d.at it i h) : ∃ o, h.get? it = some o ∧ ∃ vs, o.data = .fields vs := by
  cases d with
  | li q => obtain ⟨o, e, c, d⟩ := (show h.IsListIter it q i from st); exact ⟨o, e, _, d⟩
  | tu q => obtain ⟨o, e, c, d⟩ := (show h.IsTupleIter it q i from st); exact ⟨o, e, _, d⟩
  | te x u => obtain ⟨o, e, c, d⟩ := (show h.IsStrIter it (strIterType x) x u i from st); exact ⟨o, e, _, d⟩
theorem vals_get' : ∀ {xs : List V} {us : List Value} {i : Nat} {u : Value}, Vals xs us → us[i]? = some u → ∃ x, xs[i]? = some x ∧ RelV x u
  | _, _, _, _, .nil, e => by simp at e
  | _, _, 0, _, .cons r _, e => by
    simp only [List.getElem?_cons_zero, Option.some.injEq] at e
    subst e
    exact ⟨_, rfl, r⟩
  | _, _, i + 1, _, .cons _ rs, e => by
    simp only [List.getElem?_cons_succ] at e ⊢
    exact vals_get' rs e
section
variable {X : Cx} {pins : List (Addr × Obj)} {σ : L2.St} {H : Hp} {s : Shared}
/-- what iter(v) asks of the heap -/
theorem Ik.begins (I : Inv X pins σ H s) (d : Ik) {xs : List V} (hx : d.xs X.K H xs) : ∃ Hh : Heap → Prop, Begins d.v d.o Hh ∧ Hh s.heap ∧ ∀ b ∈ d.ad, b < s.heap.objs.size := by
  cases d with
  | li q =>
    obtain ⟨its, rv, p, hz⟩ := I.list hx
    exact ⟨_, begins_list q its.toArray, p.isList, fun b hb => by rw [List.mem_singleton.mp hb]; exact p.lt⟩
  | tu q =>
    obtain ⟨its, rv, p, hz⟩ := I.tuple hx
    obtain ⟨o, e, _⟩ := id p
    exact ⟨_, begins_tuple q its.toArray, p, fun b hb => by rw [List.mem_singleton.mp hb]; exact Heap.lt_size e⟩
  | te x u => exact ⟨_, begins_text x u, trivial, fun b hb => nomatch hb⟩
theorem Ik.first {d : Ik} {it : Addr} {h : Heap} (e : h.get? it = some d.o) : d.at it 0 h := by
  cases d with
  | li q => exact ⟨_, e, rfl, rfl⟩
  | tu q => exact ⟨_, e, rfl, rfl⟩
  | te x u => exact ⟨_, e, rfl, rfl⟩
theorem Ik.inj (I : Inv X pins σ H s) (d : Ik) {xs ys : List V} (hx : d.xs X.K H xs) (hy : d.xs X.K H ys) : xs = ys := by
  cases d with
  | li q => exact I.list_inj hx hy
  | tu q => exact I.tuple_inj hx hy
  | te x u => exact (show xs = _ from hx).trans (show ys = _ from hy).symm
/-- it draws -/
theorem Ik.draw (I : Inv X pins σ H s) (hc : X.calm = true) (d : Ik) {it : Addr} {xs : List V} (hx : d.xs X.K H xs) (hne : it ∉ d.ad) : ∃ (P : Nat → Value → Prop) (St : Nat → Heap → Prop), Draws X.prog X.w X.A.in1 it (it :: d.ad) xs.length P St ∧ (∀ i, d.at it i s.heap → St i s.heap) ∧
    (∀ i h', St i h' → d.at it i h') ∧ ∀ i v, P i v → ∃ x, xs[i]? = some x ∧ RelV x v := by
  cases d with
  | li q =>
    obtain ⟨its, rv, p, hz⟩ := I.list hx
    have D := Draws.list (prog := X.prog) (w := X.w) (A := X.A.in1) (I.ok.hd hc) it q (fun z => hne (by rw [z]; exact List.mem_singleton.mpr rfl)) its.toArray
    have hl : its.toArray.size = xs.length := by rw [List.size_toArray]; exact rv.length.symm
    rw [hl] at D
    refine ⟨_, _, D, fun i st => ⟨st, p.isList⟩, fun i h' st => st.1, fun i v hv => ?_⟩
    have hv : its[i]? = some v := by simpa using hv
    exact vals_get' rv hv
  | tu q =>
    obtain ⟨its, rv, p, hz⟩ := I.tuple hx
    have D := Draws.tuple (prog := X.prog) (w := X.w) (A := X.A.in1) (I.ok.hd hc) it q (fun z => hne (by rw [z]; exact List.mem_singleton.mpr rfl)) its.toArray
    have hl : its.toArray.size = xs.length := by rw [List.size_toArray]; exact rv.length.symm
    rw [hl] at D
    refine ⟨_, _, D, fun i st => ⟨st, p⟩, fun i h' st => st.1, fun i v hv => ?_⟩
    have hv : its[i]? = some v := by simpa using hv
    exact vals_get' rv hv
  | te x u =>
    have D := Draws.text (prog := X.prog) (w := X.w) (A := X.A.in1) (I.ok.hd hc) it x u
    have hx : xs = x.cps.toList.map fun c => V.str ⟨#[c]⟩ := hx
    have hl : x.cps.size = xs.length := by rw [hx]; simp
    rw [hl] at D
    refine ⟨_, _, D, fun i st => st, fun i h' st => st, fun i v hv => ?_⟩
    obtain ⟨c, u2, h1, rfl⟩ := hv
    refine ⟨.str ⟨#[c]⟩, ?_, u2, rfl⟩
    rw [hx, List.getElem?_map, Array.getElem?_toList, h1]
    rfl
end
/-- enumerate: each item in a new pair with its number -/
def ItE (K : PySem.W.Frag) (d : Ik) : It :=
  ⟨fun i H => ∃ (xs : List V) (x : V), d.xs K H xs ∧ xs[i]? = some x, fun i H v H' => ∃ T x, v = .ref T ∧ H T = none ∧ H' = upd H T (.tup [.int (i : Nat), x]) ∧ ∀ xs, d.xs K H xs → xs[i]? = some x, fun i H => ∃ xs : List V, d.xs K H xs ∧ xs.length = i⟩
theorem turn_enumK {P : Program} {w : World} {K : PySem.W.Frag} {elts : List Expr} {kk : Nat} {tpos : Pos} (d : Ik) (e it : Addr) (hd1 : it ∉ d.ad) (hd2 : e ∉ d.ad) (hne : e ≠ it) :
    Turn P w K (.Tuple elts kk tpos) (ItE K d) [e, it] e (fun i h => (∃ old, IsEnum h e it ((i : Nat) : Int) old) ∧ d.at it i h) where
  mem := by simp
  obj := fun i h st b hb => by
    obtain ⟨⟨old, he⟩, hi⟩ := st
    have e' : b = e ∨ b = it := by simpa using hb
    rcases e' with z | z
    · rw [z]; exact ⟨_, he, fun v q => nomatch q⟩
    · obtain ⟨o, ho, vs, hv⟩ := Ik.obj hi
      rw [z]; exact ⟨o, ho, fun v q => by rw [hv] at q; cases q⟩
  keep := fun i h h' st k => let ⟨⟨old, he⟩, hi⟩ := st; ⟨⟨old, k e (by simp) _ he⟩, Ik.keep hi fun o q => k it (by simp) o q⟩
  item := by
    intro X hP hw hK hc i pins s σ H E I hf st hg
    subst hP hw hK
    obtain ⟨⟨old, he⟩, hit⟩ := st
    obtain ⟨xs, x, hq, hx⟩ := hg
    have hel : e < s.heap.objs.size := Heap.lt_size he
    have hil : it < s.heap.objs.size := by obtain ⟨_, q, _⟩ := Ik.obj hit; exact Heap.lt_size q
    obtain ⟨P', St, D, hSt, hSt', hP'⟩ := Ik.draw I hc d hq hd1
    have hef : e ∉ it :: d.ad := fun z => (List.mem_cons.mp z).elim hne hd2
    refine wpAny_pyNext_enum_itemD D he (hSt i hit) (List.getElem?_eq_some_iff.mp hx).1 hne hef fun u h' tk hu ho hit' hT hsz hk => ?_
    obtain ⟨x', hx', ru⟩ := hP' i u hu
    rw [hx] at hx'
    cases hx'
    refine ⟨_, rfl, wpAny_letOwnedTupleGo_enum (s := { s with heap := h', toks := tk + 1 }) ho fun h2 he' sb => ?_⟩
    have hT2 : h2.get? s.heap.objs.size = some { cls := .type "tuple", data := .seq #[.int i tk, u] } := (sb.2 _ (Nat.ne_of_gt hel)).trans hT
    have new : ObjOk X.prog X.w (upd H s.heap.objs.size (.tup [.int (i : Nat), x])) h2 s.heap.objs.size (.tup [.int (i : Nat), x]) :=
      ⟨by show 2 ≤ sizeLine; decide, [.int i tk, u], .cons ⟨_, rfl⟩ (.cons ru .nil), ⟨_, hT2, rfl, _, rfl⟩⟩
    have I1 : Inv X pins σ (upd H s.heap.objs.size (.tup [.int (i : Nat), x])) { s with heap := h2, toks := tk + 1 } :=
      I.turnedNew (ch := [e, it]) (fun b ob hb q => (sb.2 b (fun z => hb (by simp [z]))).trans (hk b ob (fun z => hb (by simp [z])) (fun z => hb (by simp [z])) q)) hf (Nat.le_refl _) new
    refine ⟨.ref s.heap.objs.size, _, I1, rfl, ⟨_, x, rfl, I.hok.fresh (Nat.le_refl _), rfl, fun ys hy => by rw [Ik.inj I d hy hq]; exact hx⟩, ⟨⟨u, ?_⟩, Ik.keep (hSt' _ _ hit') fun o q => (sb.2 it (Ne.symm hne)).trans q⟩, fun b hb => ?_⟩
    · have e1 : ((i + 1 : Nat) : Int) = (i : Int) + 1 := by omega
      rw [e1]; exact he'
    · have hb' : b < s.heap.objs.size := by
        have e' : b = e ∨ b = it := by simpa using hb
        rcases e' with z | z
        · rw [z]; exact hel
        · rw [z]; exact hil
      rw [upd_ne (Nat.ne_of_lt hb')]
      exact (hf b hb).1
  done := by
    intro X hP hw hK hc i pins s σ H E I hf st hg
    subst hP hw hK
    obtain ⟨⟨old, he⟩, hit⟩ := st
    obtain ⟨xs, hq, hx⟩ := hg
    subst hx
    obtain ⟨f0, f1, f2, f3, f4, f5⟩ := hf it (by simp)
    obtain ⟨P', St, D, hSt, hSt', hP'⟩ := Ik.draw I hc d hq hd1
    exact wpAny_pyNext_enum_endD D he (hSt _ hit) fun h' eb => ⟨rfl, I.turned (t' := s.toks) (fun b o hb q => eb b o hb q) f0 f1 f3 f4 f5⟩
  self := fun A i s Q E st h => let ⟨⟨_, he⟩, _⟩ := st; wpAny_pyIter_enum he h
/-- zip of two: the items in new pairs -/
def ItZ (K : PySem.W.Frag) (d1 d2 : Ik) : It :=
  ⟨fun i H => ∃ (xs ys : List V) (x y : V), d1.xs K H xs ∧ d2.xs K H ys ∧ xs[i]? = some x ∧ ys[i]? = some y,
    fun i H v H' => ∃ T x y, v = .ref T ∧ H T = none ∧ H' = upd H T (.tup [x, y]) ∧ (∀ xs, d1.xs K H xs → xs[i]? = some x) ∧ ∀ ys, d2.xs K H ys → ys[i]? = some y,
    fun i H => ∃ xs ys : List V, d1.xs K H xs ∧ d2.xs K H ys ∧ i ≤ xs.length ∧ i ≤ ys.length ∧ (i = xs.length ∨ i = ys.length)⟩
theorem turn_zipK {P : Program} {w : World} {K : PySem.W.Frag} {elts : List Expr} {kk : Nat} {tpos : Pos} {d1 d2 : Ik} {z TI TO i1 i2 : Addr} (S : ZipSep2 z TI TO i1 i2 (i1 :: d1.ad) (i2 :: d2.ad)) (h1' : i1 ∉ d1.ad) (h2' : i2 ∉ d2.ad) :
    Turn P w K (.Tuple elts kk tpos) (ItZ K d1 d2) [z, TI, TO, i1, i2] z (fun i h => IsZip h z TI TO .none ∧ IsTupOf2 h TI (.ref i1) (.ref i2) ∧ (∃ x y, IsTupOf2 h TO x y) ∧ d1.at i1 i h ∧ d2.at i2 i h) where
  mem := by simp
  obj := fun i h st c hc => by
    obtain ⟨hz, hTI, ⟨x, y, hTO⟩, h1, h2⟩ := st
    have e' : c = z ∨ c = TI ∨ c = TO ∨ c = i1 ∨ c = i2 := by simpa using hc
    rcases e' with q | q | q | q | q
    · rw [q]; exact ⟨_, hz, fun v q => nomatch q⟩
    · rw [q]; exact ⟨_, hTI, fun v q => nomatch q⟩
    · rw [q]; exact ⟨_, hTO, fun v q => nomatch q⟩
    · obtain ⟨o, ho, vs, hv⟩ := Ik.obj h1
      rw [q]; exact ⟨o, ho, fun v q => by rw [hv] at q; cases q⟩
    · obtain ⟨o, ho, vs, hv⟩ := Ik.obj h2
      rw [q]; exact ⟨o, ho, fun v q => by rw [hv] at q; cases q⟩
  keep := fun i h h' st k => by
    obtain ⟨hz, hTI, ⟨x, y, hTO⟩, h1, h2⟩ := st
    exact ⟨k z (by simp) _ hz, k TI (by simp) _ hTI, ⟨x, y, k TO (by simp) _ hTO⟩, Ik.keep h1 fun o q => k i1 (by simp) o q, Ik.keep h2 fun o q => k i2 (by simp) o q⟩
  item := by
    intro X hP hw hK hc i pins s σ H E I hf st hg
    subst hP hw hK
    obtain ⟨hz, hTI, ⟨x0, y0, hTO⟩, h1, h2⟩ := st
    obtain ⟨xs, ys, x, y, hqx, hqy, hx, hy⟩ := hg
    obtain ⟨P1, St1, D1, s1, s1', p1⟩ := Ik.draw I hc d1 hqx h1'
    obtain ⟨P2, St2, D2, s2, s2', p2⟩ := Ik.draw I hc d2 hqy h2'
    have hzl : z < s.heap.objs.size := Heap.lt_size hz
    refine wpAny_pyNext_zipD2_item S D1 D2 hz hTI hTO (s1 i h1) (s2 i h2) (List.getElem?_eq_some_iff.mp hx).1 (List.getElem?_eq_some_iff.mp hy).1 fun u u2 h' tk hu hu2 z' TO' n1 n2 hT hsz hk => ?_
    obtain ⟨x', hx', ru⟩ := p1 i u hu
    obtain ⟨y', hy', ru2⟩ := p2 i u2 hu2
    rw [hx] at hx'
    rw [hy] at hy'
    cases hx'
    cases hy'
    refine ⟨_, rfl, wpAny_letOwnedTupleGo_zip (s := { s with heap := h', toks := tk }) z' fun h'' z'' sb => ?_⟩
    have hT2 : h''.get? s.heap.objs.size = some { cls := .type "tuple", data := .seq #[u, u2] } := (sb.2 _ (Nat.ne_of_gt hzl)).trans hT
    have new : ObjOk X.prog X.w (upd H s.heap.objs.size (.tup [x, y])) h'' s.heap.objs.size (.tup [x, y]) :=
      ⟨by show 2 ≤ sizeLine; decide, [u, u2], .cons ru (.cons ru2 .nil), ⟨_, hT2, rfl, _, rfl⟩⟩
    have I1 : Inv X pins σ (upd H s.heap.objs.size (.tup [x, y])) { s with heap := h'', toks := tk } :=
      I.turnedNew (t' := tk) (ch := [z, TI, TO, i1, i2]) (fun c o hb q => (sb.2 c (fun q' => hb (by simp [q']))).trans (hk c o (fun q' => hb (by simp [q'])) (fun q' => hb (by simp [q'])) (fun q' => hb (by simp [q'])) (fun q' => hb (by simp [q'])) q)) hf (Nat.le_refl _) new
    refine ⟨.ref s.heap.objs.size, _, I1, rfl, ⟨_, x, y, rfl, I.hok.fresh (Nat.le_refl _), rfl, fun l hl => by rw [Ik.inj I d1 hl hqx]; exact hx, fun l hl => by rw [Ik.inj I d2 hl hqy]; exact hy⟩, ⟨z'', ?_, ⟨u, u2, ?_⟩, ?_, ?_⟩, fun c hcm => ?_⟩
    · exact (sb.2 _ S.TIz).trans (hk _ _ S.TIz S.TITO S.TIi1 S.TIi2 hTI)
    · exact (sb.2 _ S.TOz).trans TO'
    · exact Ik.keep (s1' _ _ n1) fun o q => (sb.2 _ S.zi1.symm).trans q
    · exact Ik.keep (s2' _ _ n2) fun o q => (sb.2 _ S.zi2.symm).trans q
    · have hlt : c < s.heap.objs.size := by
        have e' : c = z ∨ c = TI ∨ c = TO ∨ c = i1 ∨ c = i2 := by simpa using hcm
        rcases e' with q | q | q | q | q
        · rw [q]; exact hzl
        · rw [q]; exact Heap.lt_size hTI
        · rw [q]; exact Heap.lt_size hTO
        · rw [q]; obtain ⟨_, e1, _⟩ := Ik.obj h1; exact Heap.lt_size e1
        · rw [q]; obtain ⟨_, e2, _⟩ := Ik.obj h2; exact Heap.lt_size e2
      rw [upd_ne (Nat.ne_of_lt hlt)]
      exact (hf c hcm).1
  done := by
    intro X hP hw hK hc i pins s σ H E I hf st hg
    subst hP hw hK
    obtain ⟨hz, hTI, ⟨x0, y0, hTO⟩, h1, h2⟩ := st
    obtain ⟨xs, ys, hqx, hqy, le1, le2, hend⟩ := hg
    obtain ⟨P1, St1, D1, s1, s1', p1⟩ := Ik.draw I hc d1 hqx h1'
    obtain ⟨P2, St2, D2, s2, s2', p2⟩ := Ik.draw I hc d2 hqy h2'
    exact wpAny_pyNext_zipD2_end S D1 D2 hz hTI hTO (s1 i h1) (s2 i h2) le1 le2 hend fun h' tk hk => ⟨rfl, I.turnedL (t' := tk) (ch := [z, TI, TO, i1, i2]) (fun c o hb q =>
      hk c o (fun q' => hb (by simp [q'])) (fun q' => hb (by simp [q'])) (fun q' => hb (by simp [q'])) (fun q' => hb (by simp [q'])) q) hf⟩
  self := fun A i s Q E st h => wpAny_pyIter_zip st.1 h

/-! ### as sources -/
def SrI (G : Gx) (ι0 : List Addr) (H0 : Hp) (S : Sr) (d : Ik) : Prop :=
  ∀ i ι h H, RH G ι h H → ι0 <+: ι → TL G.K H0 H → match S.nx i h with
    | .stop => ∃ xs, d.xs G.K H xs ∧ xs.length = i
    | .it x => ∃ xs v, d.xs G.K H xs ∧ xs[i]? = some v ∧ RV G.K ι H x v
    | .bad => True
section
variable {G : Gx} {X : Cx} {W : WX} {a b e : Expr} {p pos tpos : Pos} {elts : List Expr} {kk : Nat} {fs : IE → M (List IV)}
theorem sr_ik {x : IV} {v : V} {u : Value} {ι : List Addr} {h h1 : IH} {H : Hp} {S : Sr} (rh : RH G ι h H) (r : RV G.K ι H x v) (ru : RelV v u) (e : srV x h = .ok S h1) : h1 = h ∧ ∃ d : Ik, d.v = u ∧ (∃ xs, d.xs G.K H xs) ∧ SrI G ι H S d := by
  unfold srV at e
  split at e
  · rename_i n
    obtain ⟨q, iq, rfl⟩ := ref_iff.mp r
    cases ru
    split at e
    · rename_i xs z
      cases e
      obtain ⟨vs, hv, rs⟩ := rh.at z iq
      refine ⟨rfl, .li q, rfl, ⟨vs, SqL.of hv⟩, fun i ι' h' H' rh' hι tl => ?_⟩
      simp only [srL]
      cases z0 : h'[n]? with
      | none => trivial
      | some o =>
        cases o <;> try trivial
        rename_i ys
        obtain ⟨ws, hw, rs'⟩ := rh'.at z0 (pre_get hι iq)
        simp only
        by_cases hi : i < ys.length
        · rw [if_pos hi]
          have z2 : ys[i]? = some ys[i] := List.getElem?_eq_getElem hi
          rw [z2]
          obtain ⟨w, hw2, rw'⟩ := rs'.has z2
          exact ⟨ws, w, SqL.of hw, hw2, rw'⟩
        · rw [if_neg hi]
          by_cases hj : i = ys.length
          · rw [if_pos hj]; exact ⟨ws, SqL.of hw, by rw [← rs'.len]; omega⟩
          · rw [if_neg hj]; trivial
    · cases e
  · rename_i xs
    cases e
    rw [tup_iff] at r
    obtain ⟨q, vs, rfl, hq, rs⟩ := r
    cases ru
    refine ⟨rfl, .tu q, rfl, ⟨vs, hq⟩, fun i ι' h' H' rh' hι tl => ?_⟩
    have rs' := rs.mono hι tl
    simp only [srT]
    cases z : xs[i]? with
    | none =>
      by_cases hi : i = xs.length
      · rw [if_pos hi]; exact ⟨vs, tl.t _ _ hq, by rw [← rs.len]; omega⟩
      · rw [if_neg hi]; trivial
    | some y =>
      obtain ⟨w, hw2, rw'⟩ := rs'.has z
      exact ⟨vs, w, tl.t _ _ hq, hw2, rw'⟩
  · rename_i xs
    cases e
    rw [fz_iff] at r
    obtain ⟨q, vs, rfl, hq, rs⟩ := r
    cases ru
    refine ⟨rfl, .li q, rfl, ⟨vs, hq.sq⟩, fun i ι' h' H' rh' hι tl => ?_⟩
    have rs' := rs.mono hι tl
    simp only [srT]
    cases z : xs[i]? with
    | none =>
      by_cases hi : i = xs.length
      · rw [if_pos hi]; exact ⟨vs, (tl.f _ _ hq).sq, by rw [← rs.len]; omega⟩
      · rw [if_neg hi]; trivial
    | some y =>
      obtain ⟨w, hw2, rw'⟩ := rs'.has z
      exact ⟨vs, w, (tl.f _ _ hq).sq, hw2, rw'⟩
  · rename_i xs
    cases e
    obtain rfl := str_iff.mp r
    obtain ⟨t, rfl⟩ := ru
    refine ⟨rfl, .te (sS xs) t, rfl, ⟨_, rfl⟩, fun i ι' h' H' rh' hι tl => ?_⟩
    simp only [srS]
    cases z : xs[i]? with
    | none =>
      by_cases hi : i = xs.length
      · rw [if_pos hi]; exact ⟨_, rfl, by rw [List.length_map, sS_cps]; omega⟩
      · rw [if_neg hi]; trivial
    | some y =>
      refine ⟨_, .str ⟨#[y]⟩, rfl, ?_, str_iff.mpr rfl⟩
      rw [List.getElem?_map, sS_cps, z]
      rfl
  · cases e
@[simp] def srE (S : Sr) : Sr := ⟨S.n, fun i h => match S.nx i h with
  | .it x => .it (.tup [.int (i : Nat), x])
  | r => r⟩
@[simp] def srZ (S1 S2 : Sr) : Sr := ⟨S1.n, fun i h => match S1.nx i h, S2.nx i h with
  | .it x, .it y => .it (.tup [x, y])
  | .stop, .it _ => .stop
  | .it _, .stop => .stop
  | .stop, .stop => .stop
  | _, _ => .bad⟩
theorem pairI {T : Addr} {x y : IV} {v w : V} {ι : List Addr} {h : IH} {H : Hp} (rh : RH G ι h H) (hT : H T = none) (rx : RV G.K ι H x v) (ry : RV G.K ι H y w) : ∃ ι', Aft G ι H ι' h (upd H T (.tup [v, w])) ∧ RV G.K ι' (upd H T (.tup [v, w])) (.tup [x, y]) (.ref T) := by
  have a := Aft.fresh rh hT (.tup [v, w])
  exact ⟨ι, a, tup_iff.mpr ⟨T, _, rfl, .inl (.inl upd_same), RVs.cons (rx.mono a.pre a.tl) (RVs.one (ry.mono a.pre a.tl))⟩⟩
theorem srOk_e {ι0 : List Addr} {H0 : Hp} {S : Sr} {d : Ik} (k : SrI G ι0 H0 S d) : SrOk G ι0 H0 (srE S) (ItE G.K d) := by
  intro i ι h H rh hι tl
  have q := k i ι h H rh hι tl
  simp only [srE]
  cases z : S.nx i h with
  | stop => rw [z] at q; exact q
  | bad => trivial
  | it x =>
    rw [z] at q
    obtain ⟨xs, v, h1, h2, r⟩ := q
    refine ⟨⟨xs, v, h1, h2⟩, fun v' H' ⟨T, y, e1, hT, eH, hy⟩ => ?_⟩
    subst e1 eH
    have := hy xs h1
    rw [h2] at this
    cases this
    exact pairI rh hT (int_iff.mpr rfl) r
theorem srOk_z {ι0 : List Addr} {H0 : Hp} {S1 S2 : Sr} {d1 d2 : Ik} (k1 : SrI G ι0 H0 S1 d1) (k2 : SrI G ι0 H0 S2 d2) : SrOk G ι0 H0 (srZ S1 S2) (ItZ G.K d1 d2) := by
  intro i ι h H rh hι tl
  have q1 := k1 i ι h H rh hι tl
  have q2 := k2 i ι h H rh hι tl
  simp only [srZ]
  cases z1 : S1.nx i h with
  | bad => trivial
  | stop =>
    rw [z1] at q1
    obtain ⟨xs, h1, l1⟩ := q1
    cases z2 : S2.nx i h with
    | bad => trivial
    | stop =>
      rw [z2] at q2
      obtain ⟨ys, h2, l2⟩ := q2
      exact ⟨xs, ys, h1, h2, by omega, by omega, .inl l1.symm⟩
    | it y =>
      rw [z2] at q2
      obtain ⟨ys, w, h2, l2, _⟩ := q2
      exact ⟨xs, ys, h1, h2, by omega, Nat.le_of_lt (List.getElem?_eq_some_iff.mp l2).1, .inl l1.symm⟩
  | it x =>
    rw [z1] at q1
    obtain ⟨xs, v, h1, l1, r1⟩ := q1
    cases z2 : S2.nx i h with
    | bad => trivial
    | stop =>
      rw [z2] at q2
      obtain ⟨ys, h2, l2⟩ := q2
      exact ⟨xs, ys, h1, h2, Nat.le_of_lt (List.getElem?_eq_some_iff.mp l1).1, by omega, .inr l2.symm⟩
    | it y =>
      rw [z2] at q2
      obtain ⟨ys, w, h2, l2, r2⟩ := q2
      refine ⟨⟨xs, ys, v, w, h1, h2, l1, l2⟩, fun v' H' ⟨T, x', y', e1, hT, eH, hx, hy⟩ => ?_⟩
      subst e1 eH
      have e1 := hx xs h1
      have e2 := hy ys h2
      rw [l1] at e1
      rw [l2] at e2
      cases e1
      cases e2
      exact pairI rh hT r1 r2
@[simp] def mEnum (fs : IE → M (List IV)) : MI := fun e h => (fs e h).bind fun xs h1 => match xs with
  | [x] => match srV x h1 with
    | .ok S h2 => .ok (srE S) h2
    | _ => .bad
  | _ => .bad
@[simp] def mZip (fs : IE → M (List IV)) : MI := fun e h => (fs e h).bind fun xs h1 => match xs with
  | [x, y] => match srV x h1, srV y h1 with
    | .ok S1 h2, .ok S2 _ => .ok (srZ S1 S2) h2
    | _, _ => .bad
  | _ => .bad
theorem si_enum (hK : X.K = G.K) (hg : Gl X "enumerate") (hm : X.mg "enumerate" = none) (ha : SA G X W [e] fs) (hs : starEach [e] X.env = [(false, eval e X.env)] := by rfl) : SI G X W (.Tuple elts kk tpos) (.Call (.Name "enumerate" p) [e] [] pos) (mEnum fs) := by
  refine ⟨fun pins s σ H R I h => ?_⟩
  refine Call_ (ld_blt I hg hm boot_enumerate (PyProof.Rows.callWith_type1 (thn (ha.run pos pins s σ H _ I (TIs.src h)) fun us s1 ⟨vs, H1, I1, r1, ι1, h1, xs, rh1, rs1, q⟩ => ?_) hs rfl))
  split at q
  · rename_i x
    unfold RVs at rs1
    obtain ⟨v, w, rfl, rv, rn⟩ := rs1
    unfold RVs at rn
    subst rn
    cases r1 with
    | cons ru rr =>
      rename_i u us'
      cases rr
      split at q
      · rename_i S h2 z
        obtain ⟨rfl, d, hd, ⟨ys, hy⟩, si⟩ := sr_ik rh1 rv ru z
        subst hd
        have hy' : d.xs X.K H1 ys := by rw [hK]; exact hy
        obtain ⟨Hh, B, hH, hlt⟩ := Ik.begins I1 d hy'
        refine sh_call_enum B hH fun h' he hit hsz hk => wpAny_pyIter_enum he ?_
        have I2 : Inv X pins σ H1 { s1 with heap := h' } := I1.kept (t' := s1.toks) hk
        have n1 : s1.heap.objs.size ∉ d.ad := fun z => Nat.lt_irrefl _ (hlt _ z)
        have n2 : s1.heap.objs.size + 1 ∉ d.ad := fun z => Nat.lt_irrefl _ (Nat.lt_trans (Nat.lt_succ_self _) (hlt _ z))
        refine ⟨s1.heap.objs.size + 1, [s1.heap.objs.size + 1, s1.heap.objs.size], _, _, H1, rfl, I2, turn_enumK d (s1.heap.objs.size + 1) s1.heap.objs.size n1 n2 (Nat.succ_ne_self _), ⟨⟨.none, he⟩, Ik.first hit⟩, fun b hb => ?_, ?_⟩
        · have e' : b = s1.heap.objs.size + 1 ∨ b = s1.heap.objs.size := by simpa using hb
          have hle : s1.heap.objs.size ≤ b := by
            rcases e' with z | z
            · rw [z]; exact Nat.le_add_right _ _
            · rw [z]; exact Nat.le_refl _
          exact I1.fpOk hle (I1.hok.fresh hle)
        · rw [hK]
          exact q _ _ _ (Aft.refl rh1) (srOk_e si)
      · exact q.elim
  · exact q.elim
theorem si_zip (hK : X.K = G.K) (hg : Gl X "zip") (hm : X.mg "zip" = none) (ha : SA G X W [a, b] fs) (hs : starEach [a, b] X.env = (false, eval a X.env) :: starEach [b] X.env := by rfl) (hpl : (backTo pos (starEach [b] X.env)).any (·.1) = false := by rfl) : SI G X W (.Tuple elts kk tpos) (.Call (.Name "zip" p) [a, b] [] pos) (mZip fs) := by
  refine ⟨fun pins s σ H R I h => ?_⟩
  refine Call_ (ld_blt I hg hm PyProof.Rows.boot_zip (PyProof.Rows.callWith_type1 (thn (ha.run pos pins s σ H _ I (TIs.src h)) fun us s1 ⟨vs, H1, I1, r1, ι1, h1, xs, rh1, rs1, q⟩ => ?_) hs hpl))
  split at q
  · rename_i x y
    unfold RVs at rs1
    obtain ⟨v, w, rfl, rv, rn⟩ := rs1
    unfold RVs at rn
    obtain ⟨v2, w2, rfl, rv2, rn⟩ := rn
    unfold RVs at rn
    subst rn
    cases r1 with
    | cons ru rr =>
      cases rr with
      | cons ru2 rr =>
        cases rr
        split at q
        · rename_i S1 h2 S2 h3 z1 z2
          obtain ⟨rfl, d1, hd1, ⟨ys1, hy1⟩, si1⟩ := sr_ik rh1 rv ru z1
          obtain ⟨rfl, d2, hd2, ⟨ys2, hy2⟩, si2⟩ := sr_ik rh1 rv2 ru2 z2
          subst hd1 hd2
          obtain ⟨Hh1, B1, hH1, hlt1⟩ := Ik.begins I1 d1 (show d1.xs X.K H1 ys1 by rw [hK]; exact hy1)
          obtain ⟨Hh2, B2, hH2, hlt2⟩ := Ik.begins I1 d2 (show d2.xs X.K H1 ys2 by rw [hK]; exact hy2)
          refine zip_begins2 B1 B2 hH1 hH2 fun h' hz hTI hTO g1 g2 hsz hk => wpAny_pyIter_zip hz ?_
          have I2 : Inv X pins σ H1 { s1 with heap := h' } := I1.kept (t' := s1.toks) hk
          have n1 : s1.heap.objs.size ∉ d1.ad := fun z => Nat.lt_irrefl _ (hlt1 _ z)
          have n2 : s1.heap.objs.size + 1 ∉ d2.ad := fun z => Nat.lt_irrefl _ (Nat.lt_trans (Nat.lt_succ_self _) (hlt2 _ z))
          refine ⟨s1.heap.objs.size + 4, [s1.heap.objs.size + 4, s1.heap.objs.size + 2, s1.heap.objs.size + 3, s1.heap.objs.size, s1.heap.objs.size + 1], _, _, H1, rfl, I2, turn_zipK (zip_sep2 hlt1 hlt2) n1 n2, ⟨hz, hTI, ⟨_, _, hTO⟩, Ik.first g1, Ik.first g2⟩, fun c hcm => ?_, ?_⟩
          · have e' : c = s1.heap.objs.size + 4 ∨ c = s1.heap.objs.size + 2 ∨ c = s1.heap.objs.size + 3 ∨ c = s1.heap.objs.size ∨ c = s1.heap.objs.size + 1 := by simpa using hcm
            have hle : s1.heap.objs.size ≤ c := by
              rcases e' with z | z | z | z | z
              · rw [z]; exact Nat.le_add_right _ _
              · rw [z]; exact Nat.le_add_right _ _
              · rw [z]; exact Nat.le_add_right _ _
              · rw [z]; exact Nat.le_refl _
              · rw [z]; exact Nat.le_add_right _ _
            exact I1.fpOk hle (I1.hok.fresh hle)
          · rw [hK]
            exact q _ _ _ (Aft.refl rh1) (srOk_z si1 si2)
        · exact q.elim
  · exact q.elim
end
end Sh

/-! Sh17: lambdas, and what tells them. -/
namespace Sh
open PySem PySem.Spec PyProof.Rows L2 LamX
/-- a lambda made in X -/
def lamD (X : Cx) (params : Arguments) (body : Expr) (scope : Scope) : LamD :=
  ⟨fun a c h => ∃ pm ctv, h.get? a = some (PySem.W.kla_obj "<lambda>" (X.env.qual ++ "<lambda>") params body scope (cloFrom X.env.cells scope.names []) pm c ctv), X.env.qual ++ "<lambda>"⟩
section
variable {G : Gx} {X : Cx} {pins : List (Addr × Obj)} {σ : L2.St} {H : Hp} {s : Shared} {ι : List Addr} {h : IH} {c P : Addr} {nm : Nat → Nat → Str} {params : Arguments} {body : Expr} {scope : Scope} {pos : Pos}
theorem lam_laid {c' : Addr} {pm ctv : Value} {t' : Nat} {o : Obj} (I : Inv X pins σ H s) (ho : o = PySem.W.kla_obj "<lambda>" (X.env.qual ++ "<lambda>") params body scope (cloFrom X.env.cells scope.names []) pm c' ctv) :
    Inv X pins σ (upd H s.heap.objs.size (.ext ((lamD X params body scope).obj s.heap.objs.size c'))) { s with heap := s.heap.push o, toks := t' } := by
  subst ho
  refine I.laid (a := s.heap.objs.size) (fun b u e => Heap.get?_push_of_some _ e) (Nat.le_refl _) ?_
  have e := Heap.get?_push_size s.heap (o := PySem.W.kla_obj "<lambda>" (X.env.qual ++ "<lambda>") params body scope (cloFrom X.env.cells scope.names []) pm c' ctv) rfl
  exact ⟨⟨pm, ctv, e⟩, ⟨_, e⟩, fun h1 h2 ⟨pm, ctv, z⟩ st => ⟨pm, ctv, st _ z⟩⟩
/-- the lambda is made -/
theorem lam_new {Q : Value → Shared → Prop} {E : Value → Shared → Prop} (I : Inv X pins σ H s) (rh : RH G ι h H) (ct : CT G X c P nm) (hn : nm pos.line pos.col = X.env.qual ++ "<lambda>") (hdef : defaultsOf params X.env = ([], [])) (hfree : ∀ y ∈ scope.names, y.2 = .free → ∃ c, X.env.cells.lookup y.1 = some c)
    (hq : ∀ f c' H1 H2 s', Inv X pins σ H2 s' → Aft G ι H ι h H1 → H1 f = none → H2 = upd H1 f (.ext ((lamD X params body scope).obj f c')) → H1 c' = some (CodeO c' (X.env.qual ++ "<lambda>")) → Q (.ref f) s') :
    wpAny (model X.prog X.w) X.A (eval (.Lambda params body scope pos) X.env) Q E s := by
  obtain ⟨ps, hP, ht, ha⟩ := (show NdefX.TabN H P nm from rh.tb _ ct.mem)
  refine PySem.W.kla_eval hdef ?_
  have bP : s.heap.BuiltinsAt X.mg P := ct.tb.bm.keeps I.bk
  have hP' : s.heap.get? P = some { cls := .none, data := .fields ps } := I.hok P _ hP
  cases hc : codeAmong pos ps.toList with
  | none =>
    refine PySem.W.kla_makeFunction (mg := X.mg) (c := c) (P := P) (ps := ps) (closure_ok hfree) I.ok.glob (I.mod.glob.keeps I.bk) ct.code (ct.tb.code.keeps I.bk) hP' ht hc ct.tb.gP bP fun c' ctv h' tk hx hge hlt hrec htb => ?_
    obtain ⟨c2, oc, vs, t, e2, hoc, hd, hv⟩ := hrec
    cases e2
    have nC : H c' = none := I.hok.fresh hge
    have I1 := inv_table (t' := tk) (more := #[rawInt pos.line, rawInt pos.col, .ref c']) (h' := h') I hP (fun b o hb e => hx b o hb e) htb hge ⟨oc, vs, t, hoc, hd, hv⟩
    have hE : ExtN H (upd (upd H P (.tbl (ps ++ #[rawInt pos.line, rawInt pos.col, .ref c']))) c' (CodeO c' (X.env.qual ++ "<lambda>"))) := fun b o e n => by
      rw [upd_ne (ne_of_none e nC), upd_ne (fun z => n ps (Option.some.inj (e.symm.trans (by rw [z]; exact hP))))]
      exact e
    have eL : (ps ++ #[rawInt pos.line, rawInt pos.col, .ref c']).toList = ps.toList ++ [rawInt pos.line, rawInt pos.col, .ref c'] := by simp
    have T1 : NdefX.TabsN G.T (upd (upd H P (.tbl (ps ++ #[rawInt pos.line, rawInt pos.col, .ref c']))) c' (CodeO c' (X.env.qual ++ "<lambda>"))) := fun p hp => by
      by_cases hb : p.1 = P
      · rw [ct.un p hp hb, hb]
        refine ⟨_, by rw [upd_ne (ne_of_none hP nC), upd_same], by rw [eL]; exact PySem.TriplesOk_snoc _ _ _ _ ht, fun p' cv hcv => ?_⟩
        rw [eL] at hcv
        rcases NdefX.among_app2 _ ht hcv with z | ⟨z, z1, z2⟩
        · obtain ⟨c0, e1, e2⟩ := ha p' cv z
          exact ⟨c0, e1, hE _ _ e2 codeO_ne⟩
        · refine ⟨c', z, ?_⟩
          rw [← z1, ← z2, hn]
          exact upd_same
      · obtain ⟨ps', a1, a2, a3⟩ := rh.tb p hp
        refine ⟨ps', by rw [upd_ne (ne_of_none a1 nC), upd_ne hb]; exact a1, a2, fun p' cv hcv => ?_⟩
        obtain ⟨c0, e1, e2⟩ := a3 p' cv hcv
        exact ⟨c0, e1, hE _ _ e2 codeO_ne⟩
    have I2 := lam_laid (params := params) (body := body) (scope := scope) (c' := c') (pm := (X.mg "__name__").getD .none) (ctv := ctv) (t' := tk) I1 rfl
    exact hq h'.objs.size c' _ _ _ I2 (Aft.extN rh hE T1) (I1.hok.fresh (Nat.le_refl _)) rfl upd_same
  | some cv =>
    obtain ⟨c', e, hco⟩ := ha pos cv hc
    subst e
    rw [hn] at hco
    refine PySem.W.kla_makeFunctionHit (mg := X.mg) (c := c) (P := P) (ps := ps) (closure_ok hfree) I.ok.glob (I.mod.glob.keeps I.bk) ct.code (ct.tb.code.keeps I.bk) hP' ht hc bP fun ctv h' tk hx hsz => ?_
    have I1 : Inv X pins σ H { s with heap := h', toks := tk } := I.kept hx
    have I2 := lam_laid (params := params) (body := body) (scope := scope) (c' := c') (pm := (X.mg "__name__").getD .none) (ctv := ctv) (t' := tk) I1 rfl
    exact hq h'.objs.size c' _ _ _ I2 (Aft.refl rh) (I1.hok.fresh (Nat.le_refl _)) rfl hco
/-- lambda: body, the j-th of its maker -/
@[simp] def mLam (j : Nat) : ME := fun _ h => .ok (.ref h.length) (h ++ [.lam j])
variable {W : WX}
theorem se_lam {j : Nat} (ct : CT G X c P nm) (hn : nm pos.line pos.col = X.env.qual ++ "<lambda>") (hL : G.L j = lamD X params body scope) (L : LamS X.env.scope scope) (hdef : defaultsOf params X.env = ([], [])) : SE G X W (.Lambda params body scope pos) (mLam j) := by
  refine ⟨fun pins s σ H Q I hq => ?_⟩
  obtain ⟨ι, e, h, en, rh, q⟩ := hq
  refine lam_new I rh ct hn hdef (L.has I.ok) fun f c' H1 H2 s' I2 a1 hf e2 hc => ⟨.ref f, H2, I2, rfl, ?_⟩
  subst e2
  have a2 := Aft.place a1.rh hf (.ext ((lamD X params body scope).obj f c')) (.lam j) ⟨c', by rw [upd_same, hL], by rw [hL]; exact (upd_ne (ne_of_none hc hf)).trans hc⟩
  exact q _ _ _ (a1.trans a2) (ref_iff.mpr ⟨f, by rw [← a1.rh.len]; simp, rfl⟩)
end

/-- the context of a lambda's body -/
theorem canL {G : Gx} {X : Cx} {A : Around} {outer : List Env} {s : Shared} {H : Hp} {E : XK} {scope : Scope} {f c' : Addr} {k : Nat} (hK : X.K = G.K) (nd : X.N.Nodup) (hr : Room k (A.deeper (lamEnv X scope s.heap.objs.size f c'))) : Can G (lamCx X A outer s H E scope f c') (dW E) k := by
  have tk : Takes (lamCx X A outer s H E scope f c') (dW E) := by
    intro u s' x
    exact XE.leave (X := lamCx X A outer s H E scope f c') (W := dW E) (E := E) rfl rfl rfl (fun _ _ _ _ h => h) x
  exact ⟨⟨_, ⟨⟨_, _, rfl, rfl⟩, rfl⟩, fun u s' x => tk u s' x⟩, hr, rfl, nd, hK⟩
/-- a lambda of X, its meaning -/
structure LamK (G : Gx) (X : Cx) (k : Nat) (params : Arguments) (body : Expr) (scope : Scope) (B : ME) : Prop where
  ls : LamS X.env.scope scope
  bind : ∀ (q : Str) (cl : List (Str × Addr)) (pm cv ctv : Value), bindArgs (PySem.W.kla_fn "<lambda>" q params body scope cl pm cv ctv) ⟨[], []⟩ = pure []
  body : ∀ (A : Around) (outer : List Env) (s : Shared) (H : Hp) (E : XK) (f c' : Addr), Can G (lamCx X A outer s H E scope f c') (dW E) k → SE G (lamCx X A outer s H E scope f c') (dW E) body B
section
variable {G : Gx} {X : Cx} {pins : List (Addr × Obj)} {σ : L2.St} {H : Hp} {s : Shared} {ι : List Addr} {h : IH} {k : Nat} {params : Arguments} {body : Expr} {scope : Scope} {B : ME} {e : IE}
/-- a(), in the def that got the lambda; Z is that def's context, entered at s from X -/
theorem pe_act {qg : Str} {sg : Scope} {g f c' : Addr} {cdg : Value} {Ng : List Str} {Eg : XK} {a : Str} {pn : List (Addr × Obj)} {xe : Value → Shared → Prop} {W : WX} {p1 p2 : Pos} {i : Nat}
    (I : Inv X pins σ H s) (en : REn G.K ι H e σ) (hK : X.K = G.K) (nd : X.N.Nodup) (lk : LamK G X k params body scope B)
    (tk : Takes ((dX X.prog X.w X.K X.mg X.base Ng qg sg g cdg X.A X.stack s H Eg).tr pn xe) W) (hr : Room (k + 1) (X.A.deeper (envOfC qg sg s.heap.objs.size g cdg)))
    (hN : Ng[i]? = some a) (hv : Vis sg a) (hd : (a == ("__debug__" : Str)) = false := by decide) (hcd : (a == ("__classdict__" : Str)) = false := by decide) :
    PE ((dX X.prog X.w X.K X.mg X.base Ng qg sg g cdg X.A X.stack s H Eg).tr pn xe) (.Call (.Name a p1) [] [] p2)
      (fun σZ HZ Q => σZ[i]? = some (some (.ref f)) ∧ HZ f = some (.ext ((lamD X params body scope).obj f c')) ∧ HZ c' = some (CodeO c' (X.env.qual ++ "<lambda>")) ∧ ∃ ι' h', ι <+: ι' ∧ TL G.K H HZ ∧ RH G ι' h' HZ ∧ PR G (fun c d H' => W c d σZ H') ι' HZ Q (B e h')) := by
  refine ⟨fun pinsZ sZ σZ HZ Q IZ hq => ?_⟩
  obtain ⟨hs, hf, hc, ι', h', pre, tl, rh, pr⟩ := hq
  refine wpAny_Call_Name_kw (thn ((L2.pe_var (pos := p1) (i := i) hN hv hd hcd).run pinsZ sZ σZ HZ (fun v H1 => v = .ref f ∧ H1 = HZ) IZ ⟨.ref f, hs, rfl, rfl⟩) fun u s1 ⟨v, H1, I1, r1, ev, eH⟩ => ?_)
  subst ev
  rw [eH] at I1
  obtain rfl : u = Value.ref f := r1
  obtain ⟨⟨pm, ctv, of1⟩, _, _⟩ := I1.hok f _ hf
  refine PySem.W.callWith_F0 ⟨_, _, _, _, of1⟩ ?_
  have un : Un (frs X.stack) [] H HZ s.heap s1.heap := I1.base
  obtain ⟨⟨oc, vs, t, hoc, hdc, hvc⟩, _, _⟩ := I1.hok c' _ hc
  have rc : codeAny (model X.prog X.w) (X.A.deeper (envOfC qg sg s.heap.objs.size g cdg)) (.call (.ref f) ⟨[], []⟩) (CR (L2.CX X.prog X.w) (envOfC qg sg s.heap.objs.size g cdg :: X.stack) X.prog X.w HZ s1 Q (WE W σZ)) s1 := by
    refine PySem.W.kla_callFunE hr.depth of1 rfl lk.ls.co lk.ls.gen rfl ⟨c', oc, vs, t, rfl, hoc, hdc, hvc⟩ ?_
    rw [lk.bind]
    refine wpAny_pure (wpAny_newFunctionEnv (fun y hy => (lk.ls.own y hy).2) (fun y hy => absurd hy (by simp)) (fun h₁ hns hsb => ⟨I1.nolimit.fresh _ hsb, ?_⟩) lk.ls.kind)
    show codeAny _ _ (.expr body (lamEnv X scope s1.heap.objs.size f c')) _ _
    have kp : ∀ b o, s1.heap.get? b = some o → h₁.get? b = some o := fun b o e => hsb.extBut b o (Nat.ne_of_lt (Heap.lt_size e)) (Heap.get?_push_of_some _ e)
    have J : Inv (lamCx X (X.A.deeper (envOfC qg sg s.heap.objs.size g cdg)) (envOfC qg sg s.heap.objs.size g cdg :: X.stack) s1 HZ (WE W σZ) scope f c') [] σ HZ { s1 with heap := h₁, toks := s1.toks + ([] : List (Str × Value)).length } :=
      lam_start2 I lk.ls I1.env0 hr.hd un hns kp
    have hbody := lk.body (X.A.deeper (envOfC qg sg s.heap.objs.size g cdg)) (envOfC qg sg s.heap.objs.size g cdg :: X.stack) s1 HZ (WE W σZ) f c' (canL hK nd (hr.deeper _))
    refine PySem.W.kla_codeExpr (wpAny_mono (hbody.run [] _ _ HZ Q J ⟨ι', e, h', en.mono pre tl, rh, pr⟩) (fun v s' hq => ?_) fun e s' hq => hq)
    obtain ⟨w', H', J', rv, q⟩ := hq
    exact ⟨w', H', J'.os, J'.bare, J'.base, J'.hok, rv, q⟩
  refine wpAny_call (codeAny_mono rc fun r s' hq => ?_)
  cases r with
  | error e => exact passAt tk σZ pinsZ HZ s1 e s' I1 hq
  | ok fl =>
    cases fl with
    | ret u => exact I1.after hq
    | next => exact False.elim hq
    | brk => exact False.elim hq
    | cont => exact False.elim hq
/-- the answers to «is c a kind of d» -/
def IsaOk (G : Gx) (isa : String → String → Option Bool) : Prop := ∀ c d b, isa c d = some b → PySem.W.exmOne G.K (.ref (He.ga G.K (Str.ofString c))) (.ref (He.ga G.K (Str.ofString d))) = some b
/-- an exception caught: its answer -/
def tell1 (isa : String → String → Option Bool) (d : String) (ret : List Nat) (r : Res IV) : Res IV := match r with
  | .ok x h => .ok x h
  | .exc c h => match isa c d with
    | some true => .ok (.str ret) h
    | some false => .exc c h
    | none => .bad
  | .bad => .bad
/-- the def that tells: try: return a() / except d: return ret -/
structure Told (G : Gx) (mg : Str → Option Value) (x a : Str) (d : String) (ret : List Nat) (Ng : List Str) (sg : Scope) (g : Addr) : Prop where
  ex : ∃ (fd : FuncData) (params : Arguments) (e rs : Str) (j : Nat) (p1 p2 p3 p4 p5 p6 p7 p8 : Pos), FunD G.K x x params [.Try [.Return (some (.Call (.Name a p1) [] [] p2)) p3] [.ExceptHandler (some (.Name e p4)) none [.Return (some (.Constant (.str rs) j p5)) p6] p7] [] [] p8] sg [] [] g fd ∧
    rs = sS ret ∧ sg.names.lookup e = some .globalImplicit ∧ mg e = some (.ref (He.ga G.K (Str.ofString d))) ∧ (e == ("__debug__" : Str)) = false ∧
    (∀ (kV doc pm : Value) (an : Option Addr) (cdv ct : Value) (us : List Value), us.length = [a].length → bindArgs (PySem.W.fnOf x x params [.Try [.Return (some (.Call (.Name a p1) [] [] p2)) p3] [.ExceptHandler (some (.Name e p4)) none [.Return (some (.Constant (.str rs) j p5)) p6] p7] [] [] p8] sg .none kV doc pm an cdv ct) ⟨us, []⟩ = pure ([a].zip us))
  sc : FnScope Ng [a] sg
  vis : Vis sg a
  da : (a == ("__debug__" : Str)) = false
  dc : (a == ("__classdict__" : Str)) = false
theorem told_run {W : WX} {x a : Str} {d : String} {ret : List Nat} {Ng : List Str} {sg : Scope} {g f c' : Addr} {isa : String → String → Option Bool} {Q : VK} (I : Inv X pins σ H s) (en : REn G.K ι H e σ) (hK : X.K = G.K) (nd : X.N.Nodup) (hr : Room (k + 2) X.A) (lk : LamK G X k params body scope B) (T : Told G X.mg x a d ret Ng sg g) (io : IsaOk G isa)
    (rh : RH G ι h H) (hf : H f = some (.ext ((lamD X params body scope).obj f c'))) (hc : H c' = some (CodeO c' (X.env.qual ++ "<lambda>"))) (q : PR G (fun c d H' => W c d σ H') ι H Q (tell1 isa d ret (B e h))) :
    codeAny (model X.prog X.w) X.A (.call (.ref g) ⟨[.ref f], []⟩) (CR (L2.CX X.prog X.w) X.stack X.prog X.w H s Q (WE W σ)) s := by
  obtain ⟨fd, pg, ex, rs, j, p1, p2, p3, p4, p5, p6, p7, p8, F, hrs, he, hm, hde, hbn⟩ := T.ex
  have hb := FunD.bindsN F hbn
  obtain ⟨oc, od, dV, kV, doc, pm, an, cdv, ct, osl, rfl, lkk, hcd, _, _⟩ := F.ex
  have hNg : Ng[0]? = some a := by
    have := T.sc.pre
    cases Ng with
    | nil => simp at this
    | cons y r => simp at this; rw [this]; rfl
  rw [← hK] at lkk hcd hb
  refine run_ofS (N := Ng) (ps := [a]) (us := [.ref f]) (vs := [.ref f]) lkk hcd T.sc hr I.env0 (hb s [.ref f] I.kIn rfl) (.cons rfl .nil) rfl fun hr' => ?_
  have tkZ : Takes (dX X.prog X.w X.K X.mg X.base Ng x sg g cdv X.A X.stack s H (WE W σ)) (dW (WE W σ)) := takes_of rfl rfl rfl rfl
  have hst : (L2.start Ng [V.ref f])[0]? = some (some (V.ref f)) := by unfold L2.start; simp
  refine ⟨_, pss_one (ps_try_only (X := dX X.prog X.w X.K X.mg X.base Ng x sg g cdv X.A X.stack s H (WE W σ)) (c := .ref (He.ga G.K (Str.ofString d))) (Wout := dW (WE W σ))
    (tb := fun W' D σZ HZ => σZ[0]? = some (some (.ref f)) ∧ HZ f = some (.ext ((lamD X params body scope).obj f c')) ∧ HZ c' = some (CodeO c' (X.env.qual ++ "<lambda>")) ∧ ∃ ι' h', ι <+: ι' ∧ TL G.K H HZ ∧ RH G ι' h' HZ ∧ PR G (fun c d H' => W' c d σZ H') ι' HZ D.rt (B e h'))
    rfl rfl ⟨he, hde, .inl hm⟩ tkZ (fun W' pn xe tk _ => ?_) (fun a oe cls d pn _ _ => pss_one (ps_ret pe_str))), ?_⟩
  · have pa := pe_act (p1 := p1) (p2 := p2) (i := 0) (f := f) (c' := c') I en hK nd lk tk hr' hNg T.vis T.da T.dc
    exact pss_one (ps_ret pa)
  · refine ⟨hst, hf, hc, ι, h, List.prefix_refl _, TL.refl _ _, rh, ?_⟩
    cases z : B e h with
    | ok v h1 => rw [z] at q; exact q
    | bad => rw [z] at q; exact q
    | exc cc h1 =>
      rw [z] at q
      simp only [tell1] at q
      cases zi : isa cc d with
      | none => rw [zi] at q; exact q.elim
      | some b =>
        rw [zi] at q
        have e1 := io cc d b zi
        rw [← hK] at e1
        intro ι1 H1 a1
        cases b with
        | true =>
          refine ⟨true, by rw [hK] at e1; rw [hK]; exact e1, fun _ a2 _ => ?_, (fun z => by cases z)⟩
          exact q ι1 H1 _ a1 (str_iff.mpr (by rw [hrs]))
        | false => exact ⟨false, by rw [hK] at e1; rw [hK]; exact e1, (fun z => by cases z), fun _ => q ι1 H1 a1⟩
end
end Sh

/-! Sh18: a comprehension in whose block lambdas of the def around are told. -/
namespace Sh
open PySem PySem.Spec PyProof.Rows L2 LamX
/-- from (ι0, H0) on -/
def Gx.at (G : Gx) (ι0 : List Addr) (H0 : Hp) : Gx := { G with Z := some (ι0, H0) }
section
variable {G : Gx} {ι ι0 : List Addr} {h : IH} {H H0 : Hp}
theorem RH.to (r : RH G ι h H) (p : ι0 <+: ι) (t : TL G.K H0 H) : RH (G.at ι0 H0) ι h H := ⟨r.len, r.nd, r.ob, r.tb, fun z hz => by cases hz; exact ⟨p, t⟩⟩
theorem RH.frm (r : RH (G.at ι0 H0) ι h H) (zb : ∀ p, G.Z = some p → p.1 <+: ι0 ∧ TL G.K p.2 H0) : RH G ι h H := ⟨r.len, r.nd, r.ob, r.tb, fun p hp => ⟨(zb p hp).1.trans (r.zb _ rfl).1, (zb p hp).2.trans (r.zb _ rfl).2⟩⟩
theorem PR.via {G' : Gx} {W : Value → Option Addr → Hp → Prop} {Q : VK} {r : Res IV} (p : PR G W ι H Q r) (k : ∀ {ι1 ι' : List Addr} {h' : IH} {H1 H' : Hp}, Aft G' ι1 H1 ι' h' H' → Aft G ι1 H1 ι' h' H') (hK : G'.K = G.K := by rfl) : PR G' W ι H Q r := by
  cases r with
  | ok x h' => exact fun ι' H' v a rv => p ι' H' v (k a) (hK ▸ rv)
  | exc c h' => exact fun ι' H' a => by rw [hK]; exact p ι' H' (k a)
  | bad => exact p
theorem SrOk.via {S : Sr} {J : It} (so : SrOk G ι0 H0 S J) {ι1 : List Addr} {H1 : Hp} (k : ∀ {ι' : List Addr} {h' : IH} {H' : Hp}, RH (G.at ι1 H1) ι' h' H' → RH G ι' h' H') : SrOk (G.at ι1 H1) ι0 H0 S J := by
  intro i ι h H rh hι tl
  have q := so i ι h H (k rh) hι tl
  cases z : S.nx i h with
  | stop => rw [z] at q; exact q
  | bad => trivial
  | it x =>
    rw [z] at q
    refine ⟨q.1, fun v H' hy => ?_⟩
    obtain ⟨ι', a, r⟩ := q.2 v H' hy
    exact ⟨ι', ⟨a.pre, a.tl, a.rh.to ((rh.zb _ rfl).1.trans a.pre) ((rh.zb _ rfl).2.trans a.tl)⟩, r⟩
end
@[simp] def mLcZ (it : MI) (vs : List Nat) (g : MG) (t f : IE → ME) : ME := fun e h => match it e h with
  | .ok S h1 => lcL S g (t e) (f e) h1.length (S.n + 1) 0 (wipeI e vs) (h1 ++ [.lst []])
  | .exc c h1 => .exc c h1
  | .bad => .bad
/-- a block's parts; told of the def around: its state where the block began -/
def SBz (G : Gx) (X : Cx) (k : Nat) (scope : Scope) (tg : Expr) (ifs : List Expr) (elt : Expr) (g : MG) (t f : IE → ME) : Prop :=
  ∀ (e0 : IE) (ι0 : List Addr) (pins : List (Addr × Obj)) (σ : L2.St) (s : Shared) (H : Hp) (cl : List (Str × Addr)) (D : Addr) (fp : List Addr), Inv X pins σ H s → REn G.K ι0 H e0 σ → (∀ b ∈ fp, FpOk X pins H b) → ∀ (xe : Value → Shared → Prop) (W' : WX),
    Can (G.at ι0 H) (blkX X s H scope (compEnvC scope cl D X.env) fp xe) W' k →
      SG (G.at ι0 H) (blkX X s H scope (compEnvC scope cl D X.env) fp xe) W' tg g ∧ SQ (G.at ι0 H) (blkX X s H scope (compEnvC scope cl D X.env) fp xe) W' ifs (t e0) ∧ SE (G.at ι0 H) (blkX X s H scope (compEnvC scope cl D X.env) fp xe) W' elt (f e0)
section
variable {G : Gx} {X : Cx} {W : WX} {pins : List (Addr × Obj)} {σ : L2.St} {H : Hp} {s : Shared}
theorem lcZ_core {k : Nat} {elt tg iter : Expr} {ifs : List Expr} {scope : Scope} {own : List (Str × Nat)} {pos pos' : Pos} {it : MI} {g : MG} {t f : IE → ME} {use : Option (Value → Sem Unit)} {Q : VK} {Qf : Value → Shared → Prop}
    (C : Can G X W k) (I : Inv X pins σ H s) (hi : SI G X W tg iter it) (ok : BlkOk X.N X.env.scope scope own)
    (hb : SBz G X k scope tg ifs elt g t f)
    (hs : ∀ x, foldedSetIterable iter X.env x = pure x)
    (h : TI G W (mLcZ it (own.map (·.2)) g t f) σ H Q)
    (hRR : ∀ D ce s' m H', Inv X pins σ H' s' → Q (.ref D) H' → s'.heap.Ns ce.locals m → FpOk X pins H' ce.locals → compEnds (model X.prog X.w) X.A X.xe use Qf (.ref D) ce (.ok .next) s') :
    wpAny (model X.prog X.w) X.A (comprehension (.ListComp elt [⟨tg, iter, ifs, 0⟩] scope pos) scope X.env pos' (newList []) false (eval iter X.env) use) Qf X.xe s := by
  obtain ⟨L, tp, tf⟩ := C.tf
  have hfree : ∀ y ∈ scope.names, y.2 = .free → ∃ c, X.env.cells.lookup y.1 = some c := fun y hy e => by
    rcases ok.free y hy e with k | k
    · exact I.ok.has _ (.inl k)
    · exact I.ok.has _ (.inr k)
  obtain ⟨ι, e, h0, en, rh, hq⟩ := h
  have hT : TII G W it σ H fun J H1 => ∃ S ι1 h1, Aft G ι H ι1 h1 H1 ∧ SrOk G ι1 H1 S J ∧ PR G (fun c d H' => W c d σ H') ι1 H1 Q (lcL S g (t e) (f e) h1.length (S.n + 1) 0 (wipeI e (own.map (·.2))) (h1 ++ [.lst []])) := by
    refine ⟨ι, e, h0, en, rh, ?_⟩
    simp only [mLcZ] at hq
    cases z : it e h0 with
    | bad => rw [z] at hq; exact hq
    | exc c h1 => rw [z] at hq; exact hq
    | ok S h1 =>
      rw [z] at hq
      exact fun ι1 H1 J a so => ⟨S, ι1, h1, a, so, PR.after a hq⟩
  refine comprehension_at (use := use) rfl hs (closure_ok hfree) ok.kind (fun y hy e => by rw [ok.uniq y hy, e])
    (thn (hi.run pins s σ H _ I hT) fun xv s1 hx => thn hx fun itv s2 h2 => ?_)
  obtain ⟨itA, fp, tn, J, H2, e2, I2, T, st2, f2, S, ι2, hh2, af2, so, q⟩ := h2
  subst e2
  refine wpAny_newObj_type (newEnv_comp ?_) (by show 0 ≤ sizeLine; decide)
  generalize hD : s2.heap.objs.size = D
  have hDn : H2 D = none := I2.hok.fresh (Nat.le_of_eq hD)
  generalize hs3 : ({ s2 with heap := s2.heap.push { cls := .type "list", data := .seq ([] : List Value).toArray } } : Shared) = s3
  have I3 : Inv X pins σ (upd H2 D (.lst [])) s3 := by
    rw [← hs3]
    refine I2.laid (t' := s2.toks) (fun b o e => Heap.get?_push_of_some _ e) (Nat.le_of_eq hD) ⟨Nat.zero_le _, [], 0, .nil, ?_⟩
    rw [← hD]
    exact Heap.get?_push_size _ rfl
  have h3 : s3.heap = s2.heap.push { cls := .type "list", data := .seq ([] : List Value).toArray } := by rw [← hs3]
  have af3 : Aft G ι2 H2 (ι2 ++ [D]) (hh2 ++ [.lst []]) (upd H2 D (.lst [])) := new_lst af2.rh hDn RVs.nil
  have so3 : SrOk G (ι2 ++ [D]) (upd H2 D (.lst [])) S J := fun i ι' h' H' r p tl => so i ι' h' H' r (af3.pre.trans p) (af3.tl.trans tl)
  have q3 := PR.after af3 q
  have lenD : ι2.length = hh2.length := af2.rh.len
  have dD : (ι2 ++ [D])[hh2.length]? = some D := by rw [← lenD]; simp
  have sz : ∀ b ∈ fp, b < s2.heap.objs.size := fun b hb => by
    obtain ⟨o, e, _⟩ := T.obj _ _ st2 b hb
    exact Heap.lt_size e
  have f3 : ∀ b ∈ fp, FpOk X pins (upd H2 D (.lst [])) b ∧ b < s3.heap.objs.size := fun b hb => by
    have hlt := sz b hb
    refine ⟨⟨?_, (f2 b hb).2⟩, by rw [h3, Heap.size_push]; exact Nat.lt_succ_of_lt hlt⟩
    rw [upd_ne (by rw [← hD]; exact Nat.ne_of_lt hlt)]
    exact (f2 b hb).1
  have st3 : tn 0 s3.heap := T.keep _ _ _ st2 fun b _ o e => by rw [h3]; exact Heap.get?_push_of_some _ e
  have I4 := block_start I3 ok C.nd f3
  have zb3 := fun z hz => (af3.rh).zb z hz
  have gfrom : ∀ {ι' : List Addr} {h' : IH} {H' : Hp}, RH (G.at (ι2 ++ [D]) (upd H2 D (.lst []))) ι' h' H' → RH G ι' h' H' := fun r => r.frm zb3
  have afF : ∀ {ι1 ι' : List Addr} {h' : IH} {H1 H' : Hp}, Aft (G.at (ι2 ++ [D]) (upd H2 D (.lst []))) ι1 H1 ι' h' H' → Aft G ι1 H1 ι' h' H' := fun r => ⟨r.pre, r.tl, gfrom r.rh⟩
  have q3 : PR (G.at (ι2 ++ [D]) (upd H2 D (.lst []))) (fun c d H' => W c d σ H') (ι2 ++ [D]) (upd H2 D (.lst [])) Q _ := q3.via afF
  have rh3 : RH (G.at (ι2 ++ [D]) (upd H2 D (.lst []))) (ι2 ++ [D]) (hh2 ++ [.lst []]) (upd H2 D (.lst [])) := af3.rh.to (List.prefix_refl _) (TL.refl _ _)
  have so3 : SrOk (G.at (ι2 ++ [D]) (upd H2 D (.lst []))) (ι2 ++ [D]) (upd H2 D (.lst [])) S J := so3.via fun r => gfrom r
  have enX : REn G.K (ι2 ++ [D]) (upd H2 D (.lst [])) e σ := (en.mono af2.pre af2.tl).mono af3.pre af3.tl
  have body := hb e (ι2 ++ [D]) pins σ s3 (upd H2 D (.lst [])) (cellsFrom (s3.heap.objs.size + 1) scope.names (cloFrom X.env.cells scope.names [])) s3.heap.objs.size fp I3 enX (fun b hb => (f3 b hb).1)
  show codeAny _ _ (.compStart (.ListComp elt [⟨tg, iter, ifs, 0⟩] scope pos) 0 (.ref itA) (.ref D) (compEnvC scope (cellsFrom (s3.heap.objs.size + 1) scope.names (cloFrom X.env.cells scope.names [])) s3.heap.objs.size X.env)) (compEnds (model X.prog X.w) X.A X.xe use Qf (.ref D) (compEnvC scope (cellsFrom (s3.heap.objs.size + 1) scope.names (cloFrom X.env.cells scope.names [])) s3.heap.objs.size X.env)) { s3 with heap := pushCells (s3.heap.push { cls := .type "dict", data := .dict #[] }) scope.names }
  have nfp : ∀ b ∈ fp, (upd H2 D (.lst [])) b = none := fun b hb => (f3 b hb).1.1
  have cL : (compEnvC scope (cellsFrom (s3.heap.objs.size + 1) scope.names (cloFrom X.env.cells scope.names [])) s3.heap.objs.size X.env).locals = s3.heap.objs.size := rfl
  have cF : (compEnvC scope (cellsFrom (s3.heap.objs.size + 1) scope.names (cloFrom X.env.cells scope.names [])) s3.heap.objs.size X.env).frame = X.env.frame := rfl
  generalize compEnvC scope (cellsFrom (s3.heap.objs.size + 1) scope.names (cloFrom X.env.cells scope.names [])) s3.heap.objs.size X.env = ce at I4 body cL cF ⊢
  generalize hH3 : upd H2 D (.lst []) = H3 at I3 I4 af3 so3 q3 body nfp f3 enX rh3
  -- the block's exceptions
  generalize hxe : notedBy (model X.prog X.w) X.A ce (CompFails (model X.prog X.w) X.A X.xe ce) = xe
  have C2 : Can (G.at (ι2 ++ [D]) H3) (blkX X s3 H3 scope ce fp xe) (bW W σ) k := by
    refine ⟨⟨L, ⟨tp.1, cF.trans tp.2⟩, fun u s' x => ?_⟩, C.room, C.calm, C.nd, C.hK⟩
    rw [← hxe] at x
    have := blk_out tp tf I3 (fun b hb => (f3 b hb).1) cL cF u s' x
    rw [hxe] at this
    exact this
  obtain ⟨pg, pt, pe⟩ := body xe (bW W σ) C2
  have I4 : Inv (blkX X s3 H3 scope ce fp xe) [] (L2.wipe σ (own.map (·.2))) H3 _ := I4.wish xe
  generalize hs4 : ({ s3 with heap := pushCells (s3.heap.push { cls := .type "dict", data := .dict #[] }) scope.names } : Shared) = s4 at I4 ⊢
  have st4 : tn 0 s4.heap := T.keep _ _ _ st3 fun b _ o e => by rw [← hs4]; exact pushCells_keeps _ _ _ _ (Heap.get?_push_of_some _ e)
  have stat : ∀ {σ' : L2.St} {H' : Hp} {s' : Shared}, Inv (blkX X s3 H3 scope ce fp xe) [] σ' H' s' → (∀ b ∈ fp, H' b = none) → ∀ b ∈ fp, FpOk (blkX X s3 H3 scope ce fp xe) [] H' b := fun {σ' H' s'} I' hn b hb =>
    ⟨hn b hb, (I'.ok.exf b hb).1, I'.ok.exfs b hb, .inl hb, fun x c e => (I'.ok.exf b hb).2 x c e, fun p hp => absurd (show p ∈ ([] : List (Addr × Obj)) ++ [] from hp) (by simp)⟩
  have en3 : REn G.K (ι2 ++ [D]) H3 (wipeI e (own.map (·.2))) (L2.wipe σ (own.map (·.2))) := by
    exact enX.wipe _
  have loop : codeAny (model X.prog X.w) X.A (.compLoop (.ListComp elt [⟨tg, iter, ifs, 0⟩] scope pos) 0 (.ref itA) (.ref D) ce) (compEnds (model X.prog X.w) X.A X.xe use Qf (.ref D) ce) s4 := by
    refine compLoop_any (fun n s' => ∃ i H' σ' ι' e' h', Inv (blkX X s3 H3 scope ce fp xe) [] σ' H' s' ∧ tn i s'.heap ∧ (∀ b ∈ fp, H' b = none) ∧ REn G.K ι' H' e' σ' ∧ RH (G.at (ι2 ++ [D]) H3) ι' h' H' ∧ (ι2 ++ [D]) <+: ι' ∧ TL G.K H3 H' ∧ PR (G.at (ι2 ++ [D]) H3) (fun c d H' => W c d σ H') ι' H' Q (lcL S g (t e) (f e) hh2.length n i e' h'))
      ?_ (S.n + 1) ⟨0, H3, _, ι2 ++ [D], _, _, I4, st4, nfp, en3, rh3, List.prefix_refl _, TL.refl _ _, q3⟩
    rintro n s5 ⟨i, H5, σ5, ι5, e5, h5, I5, st5, n5, en5, rh5, pre5, tl5, q5⟩
    rw [show notedBy (model X.prog X.w) X.A ce (fun e s' => compEnds (model X.prog X.w) X.A X.xe use Qf (.ref D) ce (.error e) s') = xe from hxe]
    cases n with
    | zero => exact q5.elim
    | succ n =>
      simp only [lcL] at q5
      have so5 := so3 i ι5 h5 H5 rh5 pre5 tl5
      cases zn : S.nx i h5 with
      | bad => rw [zn] at q5; exact q5.elim
      | stop =>
        rw [zn] at q5 so5
        have td := T.done (blkX X s3 H3 scope ce fp xe) rfl rfl rfl C.calm i [] s5 σ5 H5 xe I5 (stat I5 n5) st5 so5
        refine thn td fun r s6 ⟨hr, I6⟩ => ?_
        subst hr
        have I7 : Inv X pins σ H5 s6 := I3.call' (ch := fp) I6.os I6.base I6.hok I6.bare fun b hb => ⟨(f3 b hb).1.2.2.2.1, (f3 b hb).1.2.1, (f3 b hb).1.2.2.2.2.1, (f3 b hb).1.2.2.2.2.2⟩
        have nC : H5 s3.heap.objs.size = none := by
          have z : H5 ce.locals = none := I6.free
          rw [cL] at z
          exact z
        obtain ⟨m, hn, _⟩ := I6.loc
        have hn : s6.heap.Ns ce.locals m := hn
        refine hRR D ce s6 m H5 I7 (q5 ι5 H5 _ (Aft.refl rh5) (ref_iff.mpr ⟨D, pre_get pre5 dD, rfl⟩)) hn ?_
        rw [cL]
        exact I3.fpOk (Nat.le_refl _) nC
      | it x =>
        rw [zn] at q5 so5
        simp only at q5 so5
        obtain ⟨go, yl⟩ := so5
        have ti := T.item (blkX X s3 H3 scope ce fp xe) rfl rfl rfl C.calm i [] s5 σ5 H5 xe I5 (stat I5 n5) st5 go
        refine thn ti fun r s6 ⟨u, hr, h6⟩ => ?_
        subst hr
        refine thn h6 fun _ s7 ⟨xv, H7, I7, r7, y7, st7, n7⟩ => ?_
        obtain ⟨ι7, a7, rx⟩ := yl xv H7 y7
        have I7' := I7.pinned (stat I7 n7) (T.obj _ _ st7)
        -- a turn's end
        have fin : ∀ {s' : Shared} {H' : Hp} {σ' : L2.St}, Inv (blkX X s3 H3 scope ce fp xe) ([] ++ pinsAt fp s7.heap) σ' H' s' → Inv (blkX X s3 H3 scope ce fp xe) [] σ' H' s' ∧ tn (i + 1) s'.heap ∧ ∀ b ∈ fp, H' b = none := fun {s' H' σ'} I' => by
          have pin' : ∀ b ∈ fp, ∀ o, s7.heap.get? b = some o → s'.heap.get? b = some o ∧ H' b = none := fun b hb o e =>
            let z := I'.pin (b, o) (List.mem_append_right _ (List.mem_append_right _ (mem_pinsAt hb e)))
            ⟨z.1, z.2.1⟩
          refine ⟨I'.unpinned (pins := []), T.keep _ _ _ st7 fun b hb o e => (pin' b hb o e).1, fun b hb => ?_⟩
          obtain ⟨o, e, _⟩ := T.obj _ _ st7 b hb
          exact (pin' b hb o e).2
        have q7 := PR.after a7 q5
        have hg7 : TGI (G.at (ι2 ++ [D]) H3) (bW W σ) g xv σ5 H7 fun σ8 H8 => ∃ ι8 e8 h8, REn G.K ι8 H8 e8 σ8 ∧ Aft (G.at (ι2 ++ [D]) H3) ι7 H7 ι8 h8 H8 ∧ PR (G.at (ι2 ++ [D]) H3) (fun c d H' => W c d σ H') ι8 H8 Q (match t e e8 h8 with
          | .ok (.bl true) h2 => (f e e8 h2).bind fun y h3 => match h3[hh2.length]? with
            | some (.lst acc) => if acc.length < sizeLine then lcL S g (t e) (f e) hh2.length n (i + 1) e8 (h3.set hh2.length (.lst (acc ++ [y]))) else .bad
            | _ => .bad
          | .ok (.bl false) h2 => lcL S g (t e) (f e) hh2.length n (i + 1) e8 h2
          | .exc c h2 => .exc c h2
          | _ => .bad) := by
          refine ⟨ι7, e5, h5, x, en5.mono a7.pre a7.tl, a7.rh, rx, ?_⟩
          cases zg : g x e5 h5 with
          | nx e8 h8 =>
            rw [zg] at q7
            exact fun ι8 σ8 H8 a8 en8 => ⟨ι8, e8, h8, en8, a8, PR.after a8 q7⟩
          | _ => rw [zg] at q7; exact q7.elim
        refine thn (pg.run _ s7 σ5 H7 xv u _ I7' r7 hg7) fun _ s8 ⟨σ8, H8, I8, ι8, e8, h8, en8, a8, q8⟩ => ?_
        have ht8 : TB (G.at (ι2 ++ [D]) H3) (bW W σ) (t e) σ8 H8 fun b H9 => ∃ ι9 h9, REn G.K ι9 H9 e8 σ8 ∧ Aft (G.at (ι2 ++ [D]) H3) ι8 H8 ι9 h9 H9 ∧ PR (G.at (ι2 ++ [D]) H3) (fun c d H' => W c d σ H') ι9 H9 Q (if b = true then (f e e8 h9).bind fun y h3 => match h3[hh2.length]? with
            | some (.lst acc) => if acc.length < sizeLine then lcL S g (t e) (f e) hh2.length n (i + 1) e8 (h3.set hh2.length (.lst (acc ++ [y]))) else .bad
            | _ => .bad else lcL S g (t e) (f e) hh2.length n (i + 1) e8 h9) := by
          refine ⟨ι8, e8, h8, en8, a8.rh, ?_⟩
          cases zt : t e e8 h8 with
          | bad => rw [zt] at q8; exact q8
          | exc c h9 => rw [zt] at q8; exact q8
          | ok b h9 =>
            rw [zt] at q8
            cases b <;> try exact q8
            rename_i b
            cases b with
            | true => exact fun ι9 H9 a9 => ⟨ι9, h9, en8.mono a9.pre a9.tl, a9, by rw [if_pos rfl]; exact PR.after a9 q8⟩
            | false => exact fun ι9 H9 a9 => ⟨ι9, h9, en8.mono a9.pre a9.tl, a9, by rw [if_neg Bool.false_ne_true]; exact PR.after a9 q8⟩
        refine thn (pt.run _ s8 σ8 H8 _ I8 ht8) fun b s9 ⟨H9, I9, ι9, h9, en9, a9, q9⟩ => ?_
        have pre9 : (ι2 ++ [D]) <+: ι9 := pre5.trans (a7.pre.trans (a8.pre.trans a9.pre))
        have tl9 : TL G.K H3 H9 := tl5.trans (a7.tl.trans (a8.tl.trans a9.tl))
        cases b with
        | false =>
          rw [if_neg Bool.false_ne_true] at q9
          simp only [Bool.false_eq_true, if_false]
          obtain ⟨J9, t9, n9⟩ := fin I9
          exact ⟨n, Nat.lt_succ_self n, i + 1, H9, σ8, ι9, e8, h9, J9, t9, n9, en9, a9.rh, pre9, tl9, q9⟩
        | true =>
          rw [if_pos rfl] at q9
          simp only [if_true]
          have he9 : TI (G.at (ι2 ++ [D]) H3) (bW W σ) (f e) σ8 H9 fun y H10 => ∃ ι10 h10 yi acc vs, Aft (G.at (ι2 ++ [D]) H3) ι9 H9 ι10 h10 H10 ∧ RV G.K ι10 H10 yi y ∧ h10[hh2.length]? = some (.lst acc) ∧ H10 D = some (.lst vs) ∧ RVs G.K ι10 H10 acc vs ∧ acc.length < sizeLine ∧ PR (G.at (ι2 ++ [D]) H3) (fun c d H' => W c d σ H') ι10 H10 Q (lcL S g (t e) (f e) hh2.length n (i + 1) e8 (h10.set hh2.length (.lst (acc ++ [yi])))) := by
            refine ⟨ι9, e8, h9, en9, a9.rh, ?_⟩
            cases zf : f e e8 h9 with
            | bad => rw [zf] at q9; exact q9
            | exc c h10 => rw [zf] at q9; exact q9
            | ok yi h10 =>
              rw [zf] at q9
              simp only [Res.bind] at q9
              intro ι10 H10 y a10 ry
              cases z0 : h10[hh2.length]? with
              | none => rw [z0] at q9; exact q9.elim
              | some o =>
                rw [z0] at q9
                cases o <;> try exact q9.elim
                rename_i acc
                simp only at q9
                by_cases hl : acc.length < sizeLine
                · rw [if_pos hl] at q9
                  obtain ⟨vs, hv, rs⟩ := a10.rh.at z0 (pre_get (pre9.trans a10.pre) dD)
                  exact ⟨ι10, h10, yi, acc, vs, a10, ry, z0, hv, rs, hl, PR.after a10 q9⟩
                · rw [if_neg hl] at q9; exact q9.elim
          refine thn (pe.run _ s9 σ8 H9 _ I9 he9) fun zv s10 ⟨yv, H10, I10, r10, ι10, h10, yi, acc, vs, a10, ry, z0, hv, rs, hl, q10⟩ => ?_
          refine app_ok (X := blkX X s3 H3 scope ce fp xe) I10 hv (by rw [← rs.len]; exact hl) r10 fun s11 I11 => ?_
          obtain ⟨J11, t11, n11⟩ := fin I11
          have a11 := set_lst a10.rh z0 (pre_get (pre9.trans a10.pre) dD) (RVs.app rs (RVs.one ry))
          exact ⟨n, Nat.lt_succ_self n, i + 1, _, σ8, ι10, e8, _, J11, t11, n11, (en9.mono a10.pre a10.tl).mono a11.pre a11.tl, a11.rh, pre9.trans a10.pre, tl9.trans (a10.tl.trans a11.tl), PR.after a11 q10⟩
  exact codeAny_compStart_list loop (T.self X.A 0 _ _ _ st4 loop)
end
end Sh

/-! Sh19: the calls that tell lambdas. -/
namespace Sh
open PySem PySem.Spec PyProof.Rows L2 LamX
section
variable {G : Gx} {X : Cx} {W : WX} {k : Nat} {elt tg iter : Expr} {ifs : List Expr} {scope : Scope} {own : List (Str × Nat)} {pos spos p lpos pf : Pos} {it : MI} {g : MG} {t f : IE → ME} {x a y : Str} {d : String} {ret : List Nat} {Ng : List Str} {sg : Scope} {gt c P : Addr} {nm : Nat → Nat → Str} {isa : String → String → Option Bool} {params : Arguments} {body : Expr} {B : ME} {j : Nat}
theorem se_lcZ (C : Can G X W k) (hi : SI G X W tg iter it) (ok : BlkOk X.N X.env.scope scope own) (hb : SBz G X k scope tg ifs elt g t f) (hs : ∀ x, foldedSetIterable iter X.env x = pure x := by intro _; rfl) :
    SE G X W (.ListComp elt [⟨tg, iter, ifs, 0⟩] scope pos) (mLcZ it (own.map (·.2)) g t f) := by
  refine ⟨fun pins s σ H Q I h => ?_⟩
  rw [eval_ListComp]
  refine lcZ_core C I hi ok hb hs h fun D ce s' m H' I' q hn fC => ⟨m, hn, fun h2 sb => ?_⟩
  obtain ⟨f0, f1, f2, f3, f4, f5⟩ := fC
  exact ⟨.ref D, H', I'.turned (t' := s'.toks) (fun b o hb e => (sb.2 b hb).trans e) f0 f1 f3 f4 f5, rfl, q⟩
/-- x(lambda: ..) -/
@[simp] def mTell (isa : String → String → Option Bool) (d : String) (ret : List Nat) (B : ME) : ME := fun e h => tell1 isa d ret (B e h)
theorem se_tell (C : Can G X W (k + 2)) (ct : CT G X c P nm) (hn : nm lpos.line lpos.col = X.env.qual ++ "<lambda>") (lk : LamK G X k params body scope B) (T : Told G X.mg x a d ret Ng sg gt) (io : IsaOk G isa) (hg : Gl X x) (hm : X.mg x = some (.ref gt)) (hdef : defaultsOf params X.env = ([], [])) (hdb : (x == ("__debug__" : Str)) = false := by decide) :
    SE G X W (.Call (.Name x p) [.Lambda params body scope lpos] [] pos) (mTell isa d ret B) := by
  refine ⟨fun pins s σ H Q I hq => ?_⟩
  obtain ⟨ι, e, h, en, rh, q⟩ := hq
  have hk : PySem.W.keepIn X.K (.ref gt) = true := by
    obtain ⟨fd, pg, ex, rs, j, p1, p2, p3, p4, p5, p6, p7, p8, F, _⟩ := T.ex
    rw [C.hK]; exact F.kp
  refine wpAny_Call_Name_kw (ld_glob I hg hm ?_ hdb)
  refine PySem.W.callWith_K (h₀ := X.base) I.ok.mod.kin hk ?_ (by rfl) (by rfl)
  show wpAny _ _ (spliced ((false, eval (.Lambda params body scope lpos) X.env) :: backTo pos (starEach [] X.env))) _ _ s
  refine Calls.spliced_cons (lam_new I rh ct hn hdef (lk.ls.has I.ok) fun f c' H1 H2 s' I2 a1 hf e2 hc => ?_)
  subst e2
  refine Calls.spliced_nil ⟨I2.kIn, ?_⟩
  have a2 := Aft.fresh a1.rh hf (.ext ((lamD X params body scope).obj f c'))
  have a12 := a1.trans a2
  refine wpAny_call (codeAny_mono (told_run (W := W) I2 (en.mono a12.pre a12.tl) C.hK C.nd C.room lk T io a2.rh upd_same ((upd_ne (ne_of_none hc hf)).trans hc) (PR.after a12 q)) fun r s2 hq2 => ?_)
  cases r with
  | error e => exact C.pass σ pins _ _ e s2 I2 hq2
  | ok fl =>
    cases fl with
    | ret u => exact I2.after hq2
    | next => exact False.elim hq2
    | brk => exact False.elim hq2
    | cont => exact False.elim hq2
/-- x(f), f one of the lambdas of the def around, in its comprehension -/
@[simp] def mTellV (isa : String → String → Option Bool) (d : String) (ret : List Nat) (Bs : List ME) (e0 : IE) (fa : ME) : ME := fun e h => (fa e h).bind fun x h1 => match x with
  | .ref n => match h1[n]? with
    | some (.lam j) => match Bs[j]? with
      | some B => tell1 isa d ret (B e0 h1)
      | none => .bad
    | _ => .bad
  | _ => .bad
theorem se_tellV {cl : List (Str × Addr)} {D : Addr} {fp : List Addr} {xe : Value → Shared → Prop} {pins0 : List (Addr × Obj)} {σ0 : L2.St} {e0 : IE} {ι0 : List Addr} {H0 : Hp} {s0 : Shared} {Bs : List ME} {fa : ME} {ea : Expr} {j : Nat} (I0 : Inv X pins0 σ0 H0 s0) (en0 : REn G.K ι0 H0 e0 σ0) (hfp : ∀ b ∈ fp, FpOk X pins0 H0 b)
    (C : Can (G.at ι0 H0) (blkX X s0 H0 scope (compEnvC scope cl D X.env) fp xe) W (k + 2)) (hN : X.N.Nodup)
    (hB : ∀ j B, Bs[j]? = some B → ∃ params body scope, G.L j = lamD X params body scope ∧ ∀ ι H, LamK (G.at ι H) X k params body scope B) (T : Told G X.mg x a d ret Ng sg gt) (io : IsaOk G isa)
    (ha : SE (G.at ι0 H0) (blkX X s0 H0 scope (compEnvC scope cl D X.env) fp xe) W ea fa)
    (hg : Gl (blkX X s0 H0 scope (compEnvC scope cl D X.env) fp xe) x) (hm : X.mg x = some (.ref gt)) (hdb : (x == ("__debug__" : Str)) = false := by decide)
    (he : starEach [ea] (compEnvC scope cl D X.env) = (false, eval ea (compEnvC scope cl D X.env)) :: starEach [] (compEnvC scope cl D X.env) := by rfl) (hpl : (backTo pos (starEach [] (compEnvC scope cl D X.env))).any (·.1) = false := by rfl) :
    SE (G.at ι0 H0) (blkX X s0 H0 scope (compEnvC scope cl D X.env) fp xe) W (.Call (.Name x p) [ea] [] pos) (mTellV isa d ret Bs e0 fa) := by
  refine ⟨fun pins s σ H Q I hq => ?_⟩
  have hK : X.K = G.K := C.hK
  have hk : PySem.W.keepIn X.K (.ref gt) = true := by
    obtain ⟨fd, pg, ex, rs, j, p1, p2, p3, p4, p5, p6, p7, p8, F, _⟩ := T.ex
    rw [hK]; exact F.kp
  refine wpAny_Call_Name_kw (ld_glob I hg hm ?_ hdb)
  obtain ⟨ι, e, h, en, rh, q⟩ := hq
  have hT := TI.bind (Wh := fun c d H' => W c d σ H') (R := fun v H1 => ∃ f c' ι1 h1 params body scope B, v = .ref f ∧ RH (G.at ι0 H0) ι1 h1 H1 ∧ H1 f = some (.ext ((lamD X params body scope).obj f c')) ∧ H1 c' = some (CodeO c' (X.env.qual ++ "<lambda>")) ∧ (∀ ι H, LamK (G.at ι H) X k params body scope B) ∧
      PR (G.at ι0 H0) (fun c d H' => W c d σ H') ι1 H1 Q (tell1 isa d ret (B e0 h1))) en rh q (fun xv v ι1 h1 H1 a1 en1 r1 q1 => ?_)
  · refine PySem.W.callWith_K (h₀ := X.base) I.ok.mod.kin hk ?_ he hpl
    rw [he]
    show wpAny _ _ (spliced ((false, eval ea (compEnvC scope cl D X.env)) :: backTo pos (starEach [] (compEnvC scope cl D X.env)))) _ _ s
    refine Calls.spliced_cons (thn (ha.run pins s σ H _ I hT) fun u s1 ⟨v, H1, I1, ru, f, c', ι1, h1, params, body, scope', B, ev, rh1, hf, hc, lk, pr⟩ => ?_)
    subst ev
    obtain rfl : u = Value.ref f := ru
    refine Calls.spliced_nil ⟨I1.kIn, ?_⟩
    -- the def around, as it stands now
    have IM : Inv X pins0 σ0 H1 s1 := I0.call' (ch := fp) I1.os I1.base I1.hok I1.bare fun b hb => ⟨(hfp b hb).2.2.2.1, (hfp b hb).2.1, (hfp b hb).2.2.2.2.1, (hfp b hb).2.2.2.2.2⟩
    have zb := rh1.zb _ rfl
    refine wpAny_call (codeAny_mono (told_run (X := X) (G := G.at ι0 H0) (W := fun c d _ H' => W c d σ H') (σ := σ0) (e := e0) IM (en0.mono zb.1 zb.2) hK hN C.room (lk _ _) (show Told (G.at ι0 H0) X.mg x a d ret Ng sg gt from ⟨T.ex, T.sc, T.vis, T.da, T.dc⟩) io rh1 hf hc pr) fun r s2 hq2 => ?_)
    cases r with
    | error e => exact C.pass σ pins _ _ e s2 I1 hq2
    | ok fl =>
      cases fl with
      | ret u => exact I1.after hq2
      | next => exact False.elim hq2
      | brk => exact False.elim hq2
      | cont => exact False.elim hq2
  · cases xv <;> try exact q1.elim
    rename_i n
    obtain ⟨f, iq, rfl⟩ := ref_iff.mp r1
    simp only at q1
    cases z0 : h1[n]? with
    | none => rw [z0] at q1; exact q1.elim
    | some o =>
      rw [z0] at q1
      cases o <;> try exact q1.elim
      rename_i j
      simp only at q1
      cases zB : Bs[j]? with
      | none => rw [zB] at q1; exact q1.elim
      | some B =>
        rw [zB] at q1
        obtain ⟨params, body, scope', hL, lk⟩ := hB j B zB
        obtain ⟨c', e1, e2⟩ := a1.rh.at z0 iq
        have hL' : (G.at ι0 H0).L j = lamD X params body scope' := hL
        rw [hL'] at e1 e2
        exact ⟨f, c', ι1, h1, params, body, scope', B, rfl, a1.rh, e1, e2, lk, q1⟩
end
end Sh

/-! Sh20: defs that keep lambdas; a law. -/
namespace Sh
open PySem PySem.Spec PyProof.Rows L2 LamX
def IO.isLam : IO → Bool
  | .lam _ => true
  | _ => false
def IO.un : IO → IO
  | .lam _ => .gone
  | o => o
def noLam (h : IH) : Bool := h.all fun o => !o.isLam
def unLam (h : IH) : IH := h.map IO.un
def Gx.lam (G : Gx) (L : Nat → LamD) : Gx := { G with L := L }
/-- a def that keeps lambdas -/
def fnK (N : List Str) (b : MS) : Fn := fun xs h => if noLam h = true then (match b (xs.map some ++ List.replicate (N.length - xs.length) none) h with
  | .rt v h => .ok v (unLam h)
  | .nx _ h => .ok .non (unLam h)
  | .ex c _ h => .exc c (unLam h)
  | _ => .bad) else .bad
section
variable {G : Gx} {L : Nat → LamD} {ι ι1 : List Addr} {h : IH} {H H1 : Hp}
theorem RO.unL {L L' : Nat → LamD} {lay : String → List Str} {a : Addr} {K : PySem.W.Frag} : ∀ {o : IO}, o.isLam = false → RO K L lay ι H a o → RO K L' lay ι H a o
  | .lst _, _, r => r
  | .dic false _, _, r => r
  | .dic true _, _, r => r
  | .ins _ _, _, r => r
  | .lam _, e, _ => by cases e
  | .gone, _, r => r
theorem RO.un {L L' : Nat → LamD} {lay : String → List Str} {a : Addr} {K : PySem.W.Frag} : ∀ {o : IO}, RO K L lay ι H a o → RO K L' lay ι H a o.un
  | .lst _, r => r
  | .dic false _, r => r
  | .dic true _, r => r
  | .ins _ _, r => r
  | .lam _, ⟨c, e, _⟩ => ⟨_, e⟩
  | .gone, r => r
theorem RH.lamTo (r : RH G ι h H) (n : noLam h = true) : RH (G.lam L) ι h H := by
  refine ⟨r.len, r.nd, fun m o e => ?_, r.tb, r.zb⟩
  obtain ⟨a, e1, q⟩ := r.ob m o e
  have z := List.all_eq_true.mp n o (List.mem_of_getElem? e)
  exact ⟨a, e1, RO.unL (by simpa using z) q⟩
theorem RH.lamFrom (r : RH (G.lam L) ι h H) : RH G ι (unLam h) H := by
  refine ⟨by unfold unLam; rw [List.length_map]; exact r.len, r.nd, fun m o e => ?_, r.tb, r.zb⟩
  unfold unLam at e
  rw [List.getElem?_map] at e
  cases z : h[m]? with
  | none => rw [z] at e; cases e
  | some o' =>
    rw [z] at e
    cases e
    obtain ⟨a, e1, q⟩ := r.ob m o' z
    exact ⟨a, e1, RO.un q⟩
theorem Aft.lamFrom (a : Aft (G.lam L) ι H ι1 h H1) : Aft G ι H ι1 (unLam h) H1 := ⟨a.pre, a.tl, a.rh.lamFrom⟩
end
section
variable {G : Gx} {P : Program} {w : World} {mg : Str → Option Value} {base : Heap} {x qual : Str} {params : Arguments} {body : List Stmt} {scope : Scope} {f : Addr} {fd : FuncData} {N ps : List Str} {k : Nat} {b : MS}
theorem kn_maker (LL : Cx → Nat → LamD) (F : FunD G.K x qual params body scope [] [] f fd) (S : FnScope N ps scope)
    (hbn : ∀ (kV doc pm : Value) (an : Option Addr) (cdv ct : Value) (us : List Value), us.length = ps.length → bindArgs (PySem.W.fnOf x qual params body scope .none kV doc pm an cdv ct) ⟨us, []⟩ = pure (ps.zip us)) {p : He.Defn} (hp : f = He.fAd G.K p)
    (hb : ∀ (cdv : Value) (A : Around) (outer : List Env) (s : Shared) (H : Hp) (E : XK) (G' : Gx), G' = G.lam (LL (dX P w G.K mg base N qual scope f cdv A outer s H E)) → cdv = .ref (He.codeOf G.K p) → CanS G' (dX P w G.K mg base N qual scope f cdv A outer s H E) (dW E) k → SB G' (dX P w G.K mg base N qual scope f cdv A outer s H E) (dW E) body b) :
    Kn G P w mg base (k + 1) f ps.length (fnK N b) := by
  refine ⟨⟨fd, ps, rfl, ?_, FunD.bindsN F hbn⟩, F.kp⟩
  obtain ⟨oc, od, dV, kV, doc, pm, an, cdv, ct, osl, rfl, lk, hcd, _, _⟩ := F.ex
  obtain ⟨c, ec⟩ := He.codeIn_ref hcd
  have lk' := lk
  rw [hp] at lk'
  have ecd : cdv = .ref (He.codeOf G.K p) := by
    rw [He.codeOf_eq lk' (c := c) (by subst ec; rfl)]
    exact ec
  refine fn_of lk hcd S (fun vs H Q E h => h.1) fun A outer s H vs Q E hr hsp => ⟨_, hb cdv A outer s H E _ rfl ecd (canS_cx (G := G.lam _) hr S.nd), ?_⟩
  obtain ⟨hl, ι, h, xs, rs, rh, q⟩ := hsp
  unfold fnK at q
  by_cases hn : noLam h = true
  · rw [if_pos hn] at q
    refine ⟨ι, _, h, REn.start N rs, rh.lamTo hn, ?_⟩
    cases z : b (xs.map some ++ List.replicate (N.length - xs.length) none) h with
    | nx e h' => rw [z] at q; exact fun ι' σ' H' a en => q ι' H' .non a.lamFrom (non_iff.mpr rfl)
    | rt v h' => rw [z] at q; exact fun ι' v' H' a r => q ι' H' v' a.lamFrom r
    | bk e h' => rw [z] at q; exact q.elim
    | ct e h' => rw [z] at q; exact q.elim
    | ex c e h' => rw [z] at q; exact fun ι' σ' H' a en => q ι' H' a.lamFrom
    | bad => rw [z] at q; exact q
  · rw [if_neg hn] at q; exact q.elim
/-- a law's promise -/
def spLaw (G : Gx) (n : Nat) : Sp := fun vs H Q _ => ∃ (a : Addr) (ns : List Int), vs = [.ref a] ∧ ns.length ≤ n ∧ (∀ z ∈ ns, Builtin.Int.intBits z ≤ 1048576) ∧ SqL G.K H a (ns.map V.int) ∧ NdefX.TabsN G.T H ∧ ∀ H', Q (.bl true) H'
theorem rvs_ints {K : PySem.W.Frag} {ι : List Addr} {H : Hp} : ∀ ns : List Int, RVs K ι H (ns.map IV.int) (ns.map V.int)
  | [] => RVs.nil
  | n :: ns => RVs.cons (int_iff.mpr rfl) (rvs_ints ns)
theorem REn.blank {K : PySem.W.Frag} {ι : List Addr} {H : Hp} : ∀ (σ : L2.St), REn K ι H (List.replicate σ.length Option.none) σ
  | [] => by unfold REn; rfl
  | v :: r => ⟨v, r, rfl, trivial, REn.blank r⟩
theorem law_fn {st1 st2 : Stmt} {b1 b2 : MS} {n : Nat} (F : FunD G.K x qual params [st1, st2] scope [] [] f fd) (S : FnScope N ["script"] scope) {p : He.Defn} (hp : f = He.fAd G.K p) (hZ : G.Z = none)
    (hb : ∀ (cdv : Value) (A : Around) (outer : List Env) (s : Shared) (H : Hp) (E : XK), cdv = .ref (He.codeOf G.K p) → CanS G (dX P w G.K mg base N qual scope f cdv A outer s H E) (dW E) k → SS G (dX P w G.K mg base N qual scope f cdv A outer s H E) (dW E) st1 b1 ∧ SS G (dX P w G.K mg base N qual scope f cdv A outer s H E) (dW E) st2 b2)
    (h1 : ∀ (ns : List Int) (x : IV) (h : IH), ns.length ≤ n → (∀ z ∈ ns, Builtin.Int.intBits z ≤ 1048576) → (x = .fz (ns.map .int) ∧ h = [] ∨ x = .ref 0 ∧ h = [.lst (ns.map .int)]) → ∃ e' h', b1 (some x :: List.replicate (N.length - 1) none) h = .nx e' h' ∧ e'.length = N.length)
    (h2 : ∃ h', b2 (List.replicate N.length none) [] = .rt (.bl true) h') : FnOk P w G.K mg base (L2.CX P w) (k + 1) f fd ["script"] (spLaw G n) := by
  obtain ⟨oc, od, dV, kV, doc, pm, an, cdv, ct, osl, rfl, lk, hcd, _, _⟩ := F.ex
  obtain ⟨c, ec⟩ := He.codeIn_ref hcd
  have lk' := lk
  rw [hp] at lk'
  have ecd : cdv = .ref (He.codeOf G.K p) := by
    rw [He.codeOf_eq lk' (c := c) (by subst ec; rfl)]
    exact ec
  refine fn_of lk hcd S (fun vs H Q E ⟨a, ns, e, _⟩ => by rw [e]; rfl) fun A outer s H vs Q E hr hsp => ?_
  obtain ⟨q1, q2⟩ := hb cdv A outer s H E ecd (canS_cx hr S.nd)
  refine ⟨_, pss_cons q1 (pss_one q2), ?_⟩
  obtain ⟨a, ns, rfl, hl, hbits, hS, hT, hQ⟩ := hsp
  have start : ∃ ι x h, RV G.K ι H x (.ref a) ∧ RH G ι h H ∧ (x = .fz (ns.map .int) ∧ h = [] ∨ x = .ref 0 ∧ h = [.lst (ns.map .int)]) := by
    have e0 : RH G [] [] H := ⟨rfl, List.nodup_nil, fun n o e => by simp at e, hT, fun p hp => by rw [hZ] at hp; cases hp⟩
    rcases hS with (hS | ⟨o, hS⟩) | hS
    · refine ⟨[a], .ref 0, [.lst (ns.map .int)], ref_iff.mpr ⟨a, rfl, rfl⟩, ⟨rfl, by simp, fun n o e => ?_, hT, fun p hp => by rw [hZ] at hp; cases hp⟩, .inr ⟨rfl, rfl⟩⟩
      cases n with
      | zero => cases e; exact ⟨a, rfl, _, hS, rvs_ints ns⟩
      | succ n => simp at e
    · exact ⟨[], _, [], fz_iff.mpr ⟨a, _, rfl, .inl ⟨o, hS⟩, rvs_ints ns⟩, e0, .inl ⟨rfl, rfl⟩⟩
    · exact ⟨[], _, [], fz_iff.mpr ⟨a, _, rfl, .inr fun H' => .inr hS, rvs_ints ns⟩, e0, .inl ⟨rfl, rfl⟩⟩
  obtain ⟨ι, xv, h, rx, rh, hx⟩ := start
  obtain ⟨e1, hh1, hb1, hle⟩ := h1 ns xv h hl hbits hx
  have en : REn G.K ι H (some xv :: List.replicate (N.length - 1) none) (L2.start N [V.ref a]) := REn.start N (RVs.one rx)
  refine ⟨ι, _, h, en, rh, ?_⟩
  rw [hb1]
  intro ι' σ' H' af en'
  obtain ⟨h', hb2⟩ := h2
  have hlen : σ'.length = N.length := by rw [← en'.len]; exact hle
  refine ⟨[], List.replicate N.length none, [], by rw [← hlen]; exact REn.blank σ', ⟨rfl, List.nodup_nil, fun n o e => by simp at e, af.rh.tb, fun p hp => by rw [hZ] at hp; cases hp⟩, ?_⟩
  rw [hb2]
  exact fun ι2 v H2 _ r => by rw [bl_iff.mp r]; exact hQ H2
end
end Sh

/-! Sh21: short names for the derivations. -/
namespace Sh
open PySem PySem.Spec PyProof.Rows L2
section
variable {G : Gx} {X : Cx} {W : WX} {a b c e o tg : Expr} {es rest : List Expr} {fa fb fc : ME} {fs : IE → M (List IV)} {p pos apos cpos : Pos} {x : Str} {k : Nat}
theorem e_add (C : Can G X W k) (ha : SE G X W a fa) (hb : SE G X W b fb) : SE G X W (.BinOp a .Add b pos) (m2 gAdd fa fb) := se_op op_addU (C.hK ▸ mean_add) ha hb
theorem e_sub (ha : SE G X W a fa) (hb : SE G X W b fb) : SE G X W (.BinOp a .Sub b pos) (m2 Sh.gSub fa fb) := se_op op_sub mean_sub ha hb
theorem e_mul (ha : SE G X W a fa) (hb : SE G X W b fb) : SE G X W (.BinOp a .Mult b pos) (m2 gMul fa fb) := se_op op_mulU mean_mul ha hb
theorem e_mod (ha : SE G X W a fa) (hb : SE G X W b fb) : SE G X W (.BinOp a .Mod b pos) (m2 gMod fa fb) := se_op op_mod mean_mod ha hb
theorem e_div (ha : SE G X W a fa) (hb : SE G X W b fb) : SE G X W (.BinOp a .FloorDiv b pos) (m2 gDiv fa fb) := se_op op_fdivW mean_div ha hb
theorem e_pow (ha : SE G X W a fa) (hb : SE G X W b fb) : SE G X W (.BinOp a .Pow b pos) (m2 gPow fa fb) := se_op op_pow mean_pow ha hb
theorem e_neg (ha : SE G X W a fa) : SE G X W (.UnaryOp .USub a pos) (m1 gNeg fa) := se_un un_neg mean_neg ha
theorem e_eq (C : Can G X W k) (ha : SE G X W a fa) (hb : SE G X W b fb) (hk : behindInMarks .Eq b = false := by rfl) : SE G X W (.Compare a [.Eq] [b] pos) (m2 gEq fa fb) := se_cmp (op_eqU C.room.units) (C.hK ▸ mean_eq) ha hb hk
theorem e_ne (C : Can G X W k) (ha : SE G X W a fa) (hb : SE G X W b fb) (hk : behindInMarks .NotEq b = false := by rfl) : SE G X W (.Compare a [.NotEq] [b] pos) (m2 gNe fa fb) := se_cmp (op_neU C.room.units) (C.hK ▸ mean_ne) ha hb hk
theorem e_lt (ha : SE G X W a fa) (hb : SE G X W b fb) (hk : behindInMarks .Lt b = false := by rfl) : SE G X W (.Compare a [.Lt] [b] pos) (m2 gLt fa fb) := se_cmp op_lt mean_B ha hb hk
theorem e_le (ha : SE G X W a fa) (hb : SE G X W b fb) (hk : behindInMarks .LtE b = false := by rfl) : SE G X W (.Compare a [.LtE] [b] pos) (m2 gLe fa fb) := se_cmp op_le mean_B ha hb hk
theorem e_gt (ha : SE G X W a fa) (hb : SE G X W b fb) (hk : behindInMarks .Gt b = false := by rfl) : SE G X W (.Compare a [.Gt] [b] pos) (m2 gGt fa fb) := se_cmp op_gt mean_B ha hb hk
theorem e_ge (ha : SE G X W a fa) (hb : SE G X W b fb) (hk : behindInMarks .GtE b = false := by rfl) : SE G X W (.Compare a [.GtE] [b] pos) (m2 gGe fa fb) := se_cmp op_ge mean_B ha hb hk
theorem e_is (ha : SE G X W a fa) (hb : SE G X W b fb) (hk : behindInMarks .Is b = false := by rfl) : SE G X W (.Compare a [.Is] [b] pos) (m2 gIs fa fb) := se_cmp op_isN mean_is ha hb hk
theorem e_isn (ha : SE G X W a fa) (hb : SE G X W b fb) (hk : behindInMarks .IsNot b = false := by rfl) : SE G X W (.Compare a [.IsNot] [b] pos) (m2 gIsNot fa fb) := se_cmp op_notN mean_isNot ha hb hk
theorem e_in (C : Can G X W k) (ha : SE G X W a fa) (hb : SE G X W b fb) (hk : behindInMarks .In b = false := by rfl) : SE G X W (.Compare a [.In] [b] pos) (m2 (gIn false) fa fb) := se_in C.hK ha hb hk
theorem e_nin (C : Can G X W k) (ha : SE G X W a fa) (hb : SE G X W b fb) (hk : behindInMarks .NotIn b = false := by rfl) : SE G X W (.Compare a [.NotIn] [b] pos) (m2 (gIn true) fa fb) := se_notIn C.hK ha hb hk
theorem c_eq (C : Can G X W k) (ha : SE G X W a fa) (hb : SE G X W b fb) (hk : behindInMarks .Eq b = false := by rfl) : SC G X W (.Compare a [.Eq] [b] pos) (m2 gEq fa fb) := sc_cmp (op_eqU C.room.units) (C.hK ▸ mean_eq) ha hb hk
theorem c_ne (C : Can G X W k) (ha : SE G X W a fa) (hb : SE G X W b fb) (hk : behindInMarks .NotEq b = false := by rfl) : SC G X W (.Compare a [.NotEq] [b] pos) (m2 gNe fa fb) := sc_cmp (op_neU C.room.units) (C.hK ▸ mean_ne) ha hb hk
theorem c_lt (ha : SE G X W a fa) (hb : SE G X W b fb) (hk : behindInMarks .Lt b = false := by rfl) : SC G X W (.Compare a [.Lt] [b] pos) (m2 gLt fa fb) := sc_cmp op_lt mean_B ha hb hk
theorem c_le (ha : SE G X W a fa) (hb : SE G X W b fb) (hk : behindInMarks .LtE b = false := by rfl) : SC G X W (.Compare a [.LtE] [b] pos) (m2 gLe fa fb) := sc_cmp op_le mean_B ha hb hk
theorem c_gt (ha : SE G X W a fa) (hb : SE G X W b fb) (hk : behindInMarks .Gt b = false := by rfl) : SC G X W (.Compare a [.Gt] [b] pos) (m2 gGt fa fb) := sc_cmp op_gt mean_B ha hb hk
theorem c_ge (ha : SE G X W a fa) (hb : SE G X W b fb) (hk : behindInMarks .GtE b = false := by rfl) : SC G X W (.Compare a [.GtE] [b] pos) (m2 gGe fa fb) := sc_cmp op_ge mean_B ha hb hk
theorem c_is (ha : SE G X W a fa) (hb : SE G X W b fb) (hk : behindInMarks .Is b = false := by rfl) : SC G X W (.Compare a [.Is] [b] pos) (m2 gIs fa fb) := sc_cmp op_isN mean_is ha hb hk
theorem c_isn (ha : SE G X W a fa) (hb : SE G X W b fb) (hk : behindInMarks .IsNot b = false := by rfl) : SC G X W (.Compare a [.IsNot] [b] pos) (m2 gIsNot fa fb) := sc_cmp op_notN mean_isNot ha hb hk
theorem c_in (C : Can G X W k) (ha : SE G X W a fa) (hb : SE G X W b fb) (hk : behindInMarks .In b = false := by rfl) : SC G X W (.Compare a [.In] [b] pos) (m2 (gIn false) fa fb) := sc_cmp op_in_seq (C.hK ▸ mean_in) ha hb hk
theorem c_nin (C : Can G X W k) (ha : SE G X W a fa) (hb : SE G X W b fb) (hk : behindInMarks .NotIn b = false := by rfl) : SC G X W (.Compare a [.NotIn] [b] pos) (m2 (gIn true) fa fb) := sc_cmp op_notIn_seq (C.hK ▸ mean_in) ha hb hk
/-! comparisons in a chain -/
/-- a comparison of two values, as a chain has it -/
structure Cp (G : Gx) (X : Cx) (op : CmpOp) (g : IV → IV → M IV) : Prop where
  ex : ∃ r, OpR X (compareOp op) r ∧ Mean2 G r g
  nx : ∀ x y h c h', g x y h ≠ .exc c h'
theorem p_lt : Cp G X .Lt gLt := ⟨⟨_, op_lt, mean_B⟩, gB_ne⟩
theorem p_le : Cp G X .LtE gLe := ⟨⟨_, op_le, mean_B⟩, gB_ne⟩
theorem p_gt : Cp G X .Gt gGt := ⟨⟨_, op_gt, mean_B⟩, gB_ne⟩
theorem p_ge : Cp G X .GtE gGe := ⟨⟨_, op_ge, mean_B⟩, gB_ne⟩
theorem gEq_ne : ∀ x y h c h', gEq x y h ≠ .exc c h' := by
  intro x y h c h' z
  simp only [gEq] at z
  split at z
  · cases z
  · split at z
    · split at z <;> cases z
    · cases z
theorem p_eq (C : Can G X W k) : Cp G X .Eq gEq := ⟨⟨_, op_eqU C.room.units, C.hK ▸ mean_eq⟩, gEq_ne⟩
theorem e_ch {op op' : CmpOp} {g g' : IV → IV → M IV} (h1 : Cp G X op g) (h2 : Cp G X op' g') (ha : SE G X W a fa) (hb : SE G X W b fb) (hc : SE G X W c fc) (hk : lastMarks [op, op'] [b, c] = false := by with_unfolding_all rfl) : SE G X W (.Compare a [op, op'] [b, c] pos) (mChain g g' fa fb fc) := by
  obtain ⟨⟨r, o, m⟩, n⟩ := h1
  obtain ⟨⟨r', o', m'⟩, _⟩ := h2
  exact se_chain o m o' m' n ha hb hc hk
theorem c_ch {op op' : CmpOp} {g g' : IV → IV → M IV} (h1 : Cp G X op g) (h2 : Cp G X op' g') (ha : SE G X W a fa) (hb : SE G X W b fb) (hc : SE G X W c fc) (hk : lastMarks [op, op'] [b, c] = false := by with_unfolding_all rfl) : SC G X W (.Compare a [op, op'] [b, c] pos) (mChain g g' fa fb fc) := by
  obtain ⟨⟨r, o, m⟩, n⟩ := h1
  obtain ⟨⟨r', o', m'⟩, _⟩ := h2
  exact sc_chain o m o' m' n ha hb hc hk
/-! built-in calls -/
theorem e_len (C : Can G X W k) (hm : X.mg "len" = none) (hg : Gl X "len") (ha : SA G X W (e :: es) fs) (he : starEach (e :: es) X.env = (false, eval e X.env) :: starEach es X.env := by rfl) (hpl : (backTo pos (starEach es X.env)).any (·.1) = false := by rfl) : SE G X W (.Call (.Name "len" p) (e :: es) [] pos) (mCall gLen fs) := se_callB call_len (C.hK ▸ mean_len) hg hm boot_len ha (by decide) (by decide) he hpl
theorem e_abs (C : Can G X W k) (hm : X.mg "abs" = none) (hg : Gl X "abs") (ha : SA G X W (e :: es) fs) (he : starEach (e :: es) X.env = (false, eval e X.env) :: starEach es X.env := by rfl) (hpl : (backTo pos (starEach es X.env)).any (·.1) = false := by rfl) : SE G X W (.Call (.Name "abs" p) (e :: es) [] pos) (mCall gAbs fs) := se_callB call_abs mean_abs hg hm boot_abs ha (by decide) (by decide) he hpl
theorem e_int (C : Can G X W k) (hm : X.mg "int" = none) (hg : Gl X "int") (ha : SA G X W (e :: es) fs) (he : starEach (e :: es) X.env = (false, eval e X.env) :: starEach es X.env := by rfl) (hpl : (backTo pos (starEach es X.env)).any (·.1) = false := by rfl) : SE G X W (.Call (.Name "int" p) (e :: es) [] pos) (mCall gInt fs) := se_callTy call_int1 mean_int hg hm boot_int ha (by decide) (by decide) he hpl
theorem e_list (C : Can G X W k) (hm : X.mg "list" = none) (hg : Gl X "list") (ha : SA G X W (e :: es) fs) (he : starEach (e :: es) X.env = (false, eval e X.env) :: starEach es X.env := by rfl) (hpl : (backTo pos (starEach es X.env)).any (·.1) = false := by rfl) : SE G X W (.Call (.Name "list" p) (e :: es) [] pos) (mCall gList fs) := se_callTy call_list_of (C.hK ▸ mean_list) hg hm boot_list ha (by decide) (by decide) he hpl
theorem e_tuple (C : Can G X W k) (hm : X.mg "tuple" = none) (hg : Gl X "tuple") (ha : SA G X W (e :: es) fs) (he : starEach (e :: es) X.env = (false, eval e X.env) :: starEach es X.env := by rfl) (hpl : (backTo pos (starEach es X.env)).any (·.1) = false := by rfl) : SE G X W (.Call (.Name "tuple" p) (e :: es) [] pos) (mCall gTuple fs) := se_callTy call_tuple_of (C.hK ▸ mean_tuple) hg hm boot_tuple ha (by decide) (by decide) he hpl
theorem e_min2 (C : Can G X W k) (hm : X.mg "min" = none) (hg : Gl X "min") (ha : SA G X W (e :: es) fs) (he : starEach (e :: es) X.env = (false, eval e X.env) :: starEach es X.env := by rfl) (hpl : (backTo pos (starEach es X.env)).any (·.1) = false := by rfl) : SE G X W (.Call (.Name "min" p) (e :: es) [] pos) (mCall gMin2 fs) := se_callB (call_min2 C.calm) mean_min2 hg hm boot_min ha (by decide) (by decide) he hpl
theorem e_max2 (C : Can G X W k) (hm : X.mg "max" = none) (hg : Gl X "max") (ha : SA G X W (e :: es) fs) (he : starEach (e :: es) X.env = (false, eval e X.env) :: starEach es X.env := by rfl) (hpl : (backTo pos (starEach es X.env)).any (·.1) = false := by rfl) : SE G X W (.Call (.Name "max" p) (e :: es) [] pos) (mCall gMax2 fs) := se_callB (call_max2 C.calm) mean_max2 hg hm boot_max ha (by decide) (by decide) he hpl
@[simp] def gMin3 : Fn := fun xs h => match xs with
  | [.int i, .int j, .int k] => .ok (.int (if k < (if j < i then j else i) then k else if j < i then j else i)) h
  | _ => .bad
theorem mean_min3 : MeanC G (rNuC3 nuMin3) gMin3 := by
  intro xs vs ι h H Q Wh rx r p
  unfold gMin3 at p
  split at p
  · rename_i i j k
    unfold RVs at rx
    obtain ⟨v, w, rfl, rv, rx⟩ := rx
    obtain ⟨v2, v3, rfl, r2, r3⟩ := rx.un2
    obtain rfl := int_iff.mp rv
    obtain rfl := int_iff.mp r2
    obtain rfl := int_iff.mp r3
    refine ⟨_, _, _, _, rfl, ?_, p ι H _ (Aft.refl r) (int_iff.mpr rfl)⟩
    unfold nuMin3 nuMin2 nuLt nuCB
    by_cases h1 : j < i
    · by_cases h2 : k < j <;> simp [h1, h2]
    · by_cases h2 : k < i <;> simp [h1, h2]
  · exact p.elim
theorem e_min3 (C : Can G X W k) (hm : X.mg "min" = none) (hg : Gl X "min") (ha : SA G X W (e :: es) fs) (he : starEach (e :: es) X.env = (false, eval e X.env) :: starEach es X.env := by rfl) (hpl : (backTo pos (starEach es X.env)).any (·.1) = false := by rfl) : SE G X W (.Call (.Name "min" p) (e :: es) [] pos) (mCall gMin3 fs) := se_callB (call_min3Nu C.calm) mean_min3 hg hm boot_min ha (by decide) (by decide) he hpl

/-! methods -/
theorem e_append (C : Can G X W k) {fo : ME} (ho : SE G X W o fo) (ha : SA G X W (e :: es) fs) (hbase : attributeBase o "append" X.env (eval o X.env) = eval o X.env := by rfl)
    (hfew : ((backTo cpos (starEach (e :: es) X.env)).all (fun x => !x.1) && (backToKw cpos (keywordEach [] X.env)).all (fun x => x.1.isSome)
      && decide ((e :: es).length + ([] : List Keyword).length + (if ([] : List Keyword).isEmpty then 0 else 1) < 30)) = true := by rfl)
    (hline : (apos.endLine == cpos.line) = true := by rfl) (hs : starEach (e :: es) X.env = (false, eval e X.env) :: starEach es X.env := by rfl) (hplain : (backTo cpos (starEach es X.env)).any (·.1) = false := by rfl) :
    SE G X W (.Call (.Attribute o "append" apos) (e :: es) [] cpos) (mBM .list gAppend fo fs) := se_bm (t := .list) C.hK PySem.F.plainAttrs_list PySem.F.slot_list_append PySem.F.type_list_append mt_append mean_append ho ha hbase hfew hline hs hplain
def sameK : IV → IV → Bool
  | .int _, .int _ => true
  | .str _, .str _ => true
  | _, _ => false
def sameV : IV → IV → Bool
  | .int i, .int j => decide (i = j)
  | .str i, .str j => decide (i = j)
  | _, _ => false
def fiI (y : IV) : List IV → Nat → Option Nat
  | [], _ => none
  | x :: xs, n => if sameV x y = true then some n else fiI y xs (n + 1)
@[simp] def gIndex : IV → List IV → M IV := fun x ys h => match x, ys with
  | .ref n, [y] => match h[n]? with
    | some (.lst xs) => if xs.all (fun z => sameK z y) = true then (match fiI y xs 0 with
      | some j => .ok (.int (j : Nat)) h
      | none => .bad) else .bad
    | _ => .bad
  | _, _ => .bad
theorem sameK_ok {K : PySem.W.Frag} {ι : List Addr} {H : Hp} {x y : IV} {v w : V} (rv : RV K ι H x v) (ry : RV K ι H y w) (h : sameK x y = true) : flatV v = true ∧ flatV w = true ∧ eqV v w = sameV x y := by
  cases x <;> cases y <;> try cases h
  · obtain rfl := int_iff.mp rv
    obtain rfl := int_iff.mp ry
    refine ⟨rfl, rfl, ?_⟩
    simp only [eqV, sameV]
    rfl
  · rename_i a b
    obtain rfl := str_iff.mp rv
    obtain rfl := str_iff.mp ry
    refine ⟨rfl, rfl, ?_⟩
    simp only [eqV, sameV]
    by_cases z : a = b
    · subst z; simp
    · rw [decide_eq_false z]
      have : ¬ sS a = sS b := fun q => z (sS_inj q)
      simpa using this
theorem fiI_all {K : PySem.W.Frag} {ι : List Addr} {H : Hp} {y : IV} {w : V} (ry : RV K ι H y w) : ∀ {xs : List IV} {vs : List V}, RVs K ι H xs vs → xs.all (fun z => sameK z y) = true → vs.all flatV = true
  | [], _, r, _ => by unfold RVs at r; subst r; rfl
  | x :: xs, _, r, ha => by
    unfold RVs at r
    obtain ⟨v, vs, rfl, rv, rs⟩ := r
    rw [List.all_cons, Bool.and_eq_true] at ha
    rw [List.all_cons, (sameK_ok rv ry ha.1).1, fiI_all ry rs ha.2]
    rfl
theorem fiI_ok {K : PySem.W.Frag} {ι : List Addr} {H : Hp} {y : IV} {w : V} (ry : RV K ι H y w) : ∀ {xs : List IV} {vs : List V} {n j : Nat}, RVs K ι H xs vs → xs.all (fun z => sameK z y) = true → fiI y xs n = some j →
    flatV w = true ∧ ∃ i z, j = n + i ∧ vs[i]? = some z ∧ eqV z w = true ∧ ∀ m z', m < i → vs[m]? = some z' → eqV z' w = false
  | [], _, _, _, _, _, e => by simp [fiI] at e
  | x :: xs, _, n, j, r, ha, e => by
    unfold RVs at r
    obtain ⟨v, vs, rfl, rv, rs⟩ := r
    rw [List.all_cons, Bool.and_eq_true] at ha
    obtain ⟨f1, f2, f3⟩ := sameK_ok rv ry ha.1
    unfold fiI at e
    by_cases hs : sameV x y = true
    · rw [if_pos hs] at e
      cases e
      exact ⟨f2, 0, v, rfl, rfl, by rw [f3]; exact hs, fun m z' hm => absurd hm (Nat.not_lt_zero _)⟩
    · rw [if_neg hs] at e
      obtain ⟨a1, i, z, e1, e2, e3, e4⟩ := fiI_ok ry rs ha.2 e
      refine ⟨a1, i + 1, z, by omega, by simpa using e2, e3, fun m z' hm hz => ?_⟩
      cases m with
      | zero =>
        simp only [List.getElem?_cons_zero, Option.some.injEq] at hz
        subst hz
        rw [f3]
        exact Bool.eq_false_iff.mpr hs
      | succ m => simp only [List.getElem?_cons_succ] at hz; exact e4 m z' (by omega) hz
theorem mean_index : MeanM G (rIndex G.K) gIndex := by
  intro x xs v vs ι h H Q rx rs rh p
  unfold gIndex at p
  split at p
  · rename_i n y
    obtain ⟨q, iq, rfl⟩ := ref_iff.mp rx
    obtain ⟨w, rfl, rw'⟩ := rs.un1
    split at p
    · rename_i ys z
      obtain ⟨ws, hv, r⟩ := rh.at z iq
      split at p
      · rename_i hall
        split at p
        · rename_i j hj
          obtain ⟨a1, i, z, e1, e2, e3, e4⟩ := fiI_ok rw' r hall hj
          have ej : j = i := by omega
          subst ej
          exact ⟨q, ws, w, j, z, rfl, rfl, SqL.of hv, a1, fiI_all rw' r hall, e2, e3, e4, p ι H _ (Aft.refl rh) (int_iff.mpr rfl)⟩
        · exact p.elim
      · exact p.elim
    · exact p.elim
  · exact p.elim
theorem e_index (C : Can G X W k) {fo : ME} (ho : SE G X W o fo) (ha : SA G X W (e :: es) fs) (hbase : attributeBase o "index" X.env (eval o X.env) = eval o X.env := by rfl)
    (hfew : ((backTo cpos (starEach (e :: es) X.env)).all (fun x => !x.1) && (backToKw cpos (keywordEach [] X.env)).all (fun x => x.1.isSome)
      && decide ((e :: es).length + ([] : List Keyword).length + (if ([] : List Keyword).isEmpty then 0 else 1) < 30)) = true := by rfl)
    (hline : (apos.endLine == cpos.line) = true := by rfl) (hs : starEach (e :: es) X.env = (false, eval e X.env) :: starEach es X.env := by rfl) (hplain : (backTo cpos (starEach es X.env)).any (·.1) = false := by rfl) :
    SE G X W (.Call (.Attribute o "index" apos) (e :: es) [] cpos) (mBM .list gIndex fo fs) := se_bm (t := .list) C.hK PySem.F.plainAttrs_list PySem.F.slot_list_index PySem.F.type_list_index (C.hK ▸ mt_index) mean_index ho ha hbase hfew hline hs hplain
end
end Sh

/-! Sh22: targets of either kind; op=; the defs of a class. -/
namespace Sh
open PySem PySem.Spec PyProof.Rows L2
def clsB : Stmt → List Stmt
  | .ClassDef _ _ _ b _ _ _ _ _ _ _ => b
  | _ => []
section
variable {G : Gx} {X : Cx} {W : WX} {a b c e o v tg : Expr} {es rest : List Expr} {fa fb fc fo fv : ME} {fs : IE → M (List IV)} {p pos pos' tpos apos cpos : Pos} {x f : Str} {k : Nat}
/-- a, b, .. = a tuple or a list -/
def gSeq' (n : Nat) (gs : List IV → MS) : MG := fun x e h => match x with
  | .tup xs => if xs.length = n then gs xs e h else .bad
  | .ref k => match h[k]? with
    | some (.lst xs) => if xs.length = n then gs xs e h else .bad
    | _ => .bad
  | _ => .bad
theorem sg_seq {ts : List Expr} {kk : Nat} {n : Nat} {gs : List IV → MS} (C : Can G X W k) (h : SGs G X W ts gs) (hn : (assignEach ts X.env).length = n := by rfl) (hst : (assignEach ts X.env).findIdx? (·.1) = none := by rfl) : SG G X W (.Tuple ts kk pos) (gSeq' n gs) := by
  have p1 : SG G X W (.Tuple ts kk pos) (gTup' n gs) := sg_tup (fun t ht => pg_tup C.calm ht hn hst) C.hK h
  have p2 : SG G X W (.Tuple ts kk pos) (gLst' n gs) := sg_lst (fun t ht => pg_lst C.calm ht hn hst) C.hK h
  refine ⟨fun pins s σ H v u Q I r hq => ?_⟩
  obtain ⟨ι, e, h, x, en, rh, rx, q⟩ := hq
  cases x with
  | tup xs => exact p1.run pins s σ H v u Q I r ⟨ι, e, h, .tup xs, en, rh, rx, q⟩
  | ref m => exact p2.run pins s σ H v u Q I r ⟨ι, e, h, .ref m, en, rh, rx, q⟩
  | _ => exact q.elim
theorem mean_ip {f : Int → Int → Int} : Mean2 G (ipI f) (gI (fun _ _ => true) f) := fun x y v w ι h H Q Wh rx ry r p => by
  obtain ⟨i, j, a, b, _, q⟩ := mean_I (P := fun _ _ => True) (C := fun _ _ => true) (f := f) (fun _ _ _ => trivial) x y v w ι h H Q Wh rx ry r p
  exact ⟨i, j, a, b, q⟩
@[simp] def gIadd : IV → IV → M IV := gI (fun _ _ => true) fun i j => i + j
@[simp] def gIsub : IV → IV → M IV := gI (fun _ _ => true) fun i j => i - j
theorem s_iaddF {C : String} {j : Nat} (Cn : Can G X W k) (kc : KC G C) (hf : (G.lay C)[j]? = some f) (ho : SE G X W o fo) (hv : SE G X W v fv) : SS G X W (.AugAssign (.Attribute o f tpos) .Add v pos) (sAugF C j gIadd fo fv) := ss_augF Cn.hK kc hf in_add (fun x y v w ι h H Q Wh rx ry r p => mean_ip x y v w ι h H Q Wh rx ry r p) ho hv
theorem s_isubF {C : String} {j : Nat} (Cn : Can G X W k) (kc : KC G C) (hf : (G.lay C)[j]? = some f) (ho : SE G X W o fo) (hv : SE G X W v fv) : SS G X W (.AugAssign (.Attribute o f tpos) .Sub v pos) (sAugF C j gIsub fo fv) := ss_augF Cn.hK kc hf in_sub (fun x y v w ι h H Q Wh rx ry r p => mean_ip x y v w ι h H Q Wh rx ry r p) ho hv
theorem s_iadd {i : Nat} (Cn : Can G X W k) (hN : X.N[i]? = some x) (hx : Loc X.env.scope x) (hf : X.fn x = true ∨ X.env.scope.names.lookup x = some .local) (hv : SE G X W v fv) : SS G X W (.AugAssign (.Name x pos') .Add v pos) (sAug i gIadd fv) := ss_aug (fun te h => ps_aug Cn.nd hN hx h ip_add hf) mean_ip hv
theorem s_isub {i : Nat} (Cn : Can G X W k) (hN : X.N[i]? = some x) (hx : Loc X.env.scope x) (hf : X.fn x = true ∨ X.env.scope.names.lookup x = some .local) (hv : SE G X W v fv) : SS G X W (.AugAssign (.Name x pos') .Sub v pos) (sAug i gIsub fv) := ss_aug (fun te h => ps_aug Cn.nd hN hx h ip_sub hf) mean_ip hv
theorem t_nm (i : Nat) (C : Can G X W k) (hi : X.N[i]? = some x := by rfl) (hx : Loc X.env.scope x := by first | exact Or.inl rfl | exact Or.inr rfl) (hf : X.fn x = true ∨ X.env.scope.names.lookup x = some .local := by first | exact .inl rfl | exact .inr rfl) : SG G X W (.Name x pos) (gName' i) := sg_name i (pg_name C.nd hi hx hf)
theorem t_sub {i : Expr} {fo fi : ME} (ho : SE G X W o fo) (hi : SE G X W i fi)
    (hs : ∀ v, assign (.Subscript o i pos) X.env v = (do
      let ov ← holding [v] (eval o X.env)
      let iv ← holding [v, ov] (eval i X.env)
      standAt pos
      holding [v, ov, iv] (setItem ov iv v)
      release [v, ov, iv] []) := by intro _; rfl) : SG G X W (.Subscript o i pos) (gSubL fo fi) := sg_subL ho hi fun _ _ h1 h2 => pg_sub h1 h2 set_list hs
end
end Sh

/-! Sh23: all that a law's head tells, in one. -/
namespace Sh
open PySem PySem.Spec PyProof.Rows L2
abbrev TnL := List (He.Defn × (Nat → Nat → Str))
/-- the names of what a def makes, by place -/
def nmOf (q : Str) (ls : List (Nat × Nat)) : Nat → Nat → Str := fun l c => q ++ (if ls.contains (l, c) then ("<lambda>" : Str) else ("<genexpr>" : Str))
def exB (tn : TnL) (xs : List String) (K : PySem.W.Frag) : Bool := decide ((tn.map fun p => (He.cT K p.1).2).Nodup) && xs.all fun c => decide (PySem.W.subIn K (.ref (He.ga K (Str.ofString c))) (.type "StopIteration") = some false)
structure Zx (fa : List He.Fa) (fn : List He.DefD) (tn : TnL) (xs : List String) (lay : String → List Str) (G : Gx) (w : World) (mg : Str → Option Value) (h base : Heap) : Prop where
  X : G.K.In h
  N : h.Ns mainGlobals mg
  c : He.SaysX fa fn [] (tn.map (·.1)) (exB tn xs) w h G.K
  T : G.T = tn.map fun p => ((He.cT G.K p.1).2, p.2)
  tb : ∀ p ∈ tn, LamX.TabB base mg (He.cT G.K p.1).1 (He.cT G.K p.1).2
  lay : G.lay = lay
section
variable {fa : List He.Fa} {fn : List He.DefD} {tn : TnL} {xs : List String} {lay : String → List Str} {G : Gx} {w : World} {mg : Str → Option Value} {h base : Heap}
theorem Zx.fact (Z : Zx fa fn tn xs lay G w mg h base) (i : Nat) {f : He.Fa} (e : fa[i]? = some f) : f.ok G.K = true := Z.c.t.d.fact i e
theorem Zx.glo (Z : Zx fa fn tn xs lay G w mg h base) (i : Nat) {x : Str} (e : fa[i]? = some (.glo x)) : mg x = some (.ref (He.ga G.K x)) := He.glo_ok Z.X Z.N (Z.fact i e)
theorem Zx.free (Z : Zx fa fn tn xs lay G w mg h base) (i : Nat) {x : Str} (e : fa[i]? = some (.free x)) : mg x = none := He.free_ok Z.X Z.N (Z.fact i e)
theorem Zx.int (Z : Zx fa fn tn xs lay G w mg h base) (i : Nat) {x : Str} {n : Int} (e : fa[i]? = some (.int x n)) : ∃ t, mg x = some (.int n t) := He.int_ok Z.X Z.N (Z.fact i e)
theorem Zx.str (Z : Zx fa fn tn xs lay G w mg h base) (i : Nat) {x z : Str} (e : fa[i]? = some (.str x z)) : ∃ t, mg x = some (.str z t) := He.str_ok Z.X Z.N (Z.fact i e)
theorem Zx.meth (Z : Zx fa fn tn xs lay G w mg h base) (i : Nat) {x m : Str} (e : fa[i]? = some (.meth x m)) : Meth G.K (He.ga G.K x) m (He.fAd G.K (x, some m)) := He.meth_ok (Z.fact i e)
theorem Zx.mkr (Z : Zx fa fn tn xs lay G w mg h base) (i : Nat) {x : Str} (e : fa[i]? = some (.mkr x)) : Mk G.K (He.ga G.K x) (He.fAd G.K (x, some "__init__")) := He.mkr_ok (Z.fact i e)
theorem Zx.kx (Z : Zx fa fn tn xs lay G w mg h base) (i : Nat) {c : String} (e : fa[i]? = some (.exc (Str.ofString c))) : KX G c := by
  obtain ⟨a1, a2, a3, a4⟩ := He.exc_ok (Z.fact i e)
  exact ⟨⟨_, _, _, _, PySem.F.excBase_ValueError, a1⟩, a2, a3, a4⟩
theorem Zx.def_ (Z : Zx fa fn tn xs lay G w mg h base) (i : Nat) {d : He.DefD} (e : fn[i]? = some d) : ∃ fd, FunD G.K d.name d.qual d.params d.body d.scope (d.dvs G.K) (d.kws G.K) (He.fAd G.K d.at_) fd := Z.c.t.d.def_ i e
theorem Zx.at (Z : Zx fa fn tn xs lay G w mg h base) (ι0 : List Addr) (H0 : Hp) : Zx fa fn tn xs lay (G.at ι0 H0) w mg h base := ⟨Z.X, Z.N, Z.c, Z.T, Z.tb, Z.lay⟩
theorem Zx.lam (Z : Zx fa fn tn xs lay G w mg h base) (L : Nat → LamD) : Zx fa fn tn xs lay (G.lam L) w mg h base := ⟨Z.X, Z.N, Z.c, Z.T, Z.tb, Z.lay⟩
theorem Zx.lamC {X : Cx} {W : WX} {k : Nat} {L : Nat → LamD} (Z : Zx fa fn tn xs lay G w mg h base) (C : CanS (G.lam L) X W k) : Zx fa fn tn xs lay (G.lam L) w mg h base := Z.lam L
theorem Zx.lamE (Z : Zx fa fn tn xs lay G w mg h base) {G' : Gx} {L : Nat → LamD} (e : G' = G.lam L) : Zx fa fn tn xs lay G' w mg h base := e ▸ Z.lam L
theorem nodup_un {α β γ : Type} (f : α → β) (g : α → γ) : ∀ {l : List α} {i : Nat} {p : α}, (l.map f).Nodup → l[i]? = some p → ∀ q ∈ l, f q = f p → q = p
  | [], _, _, _, e, _, _, _ => by simp at e
  | a :: l, 0, p, nd, e, q, hq, z => by
    cases e
    rcases List.mem_cons.mp hq with hq | hq
    · exact hq
    · exact absurd (List.mem_map.mpr ⟨q, hq, z⟩) (List.nodup_cons.mp nd).1
  | a :: l, i + 1, p, nd, e, q, hq, z => by
    rcases List.mem_cons.mp hq with hq | hq
    · subst hq
      exact absurd (List.mem_map.mpr ⟨p, List.mem_of_getElem? (by simpa using e), z.symm⟩) (List.nodup_cons.mp nd).1
    · exact nodup_un f g (List.nodup_cons.mp nd).2 (by simpa using e) q hq z
theorem Zx.ct (Z : Zx fa fn tn xs lay G w mg h base) (i : Nat) {p : He.Defn} {nm : Nat → Nat → Str} {X : Cx} {cdv : Value} (ecd : cdv = .ref (He.codeOf G.K p)) (e : tn[i]? = some (p, nm)) (hc : X.env.code = cdv := by rfl) (hb : X.base = base := by rfl) (hm : X.mg = mg := by rfl) :
    CT G X (He.codeOf G.K p) (He.cT G.K p).2 nm := by
  have hmem := List.mem_of_getElem? e
  have hn : (tn.map fun p => (He.cT G.K p.1).2).Nodup := of_decide_eq_true (Bool.and_eq_true_iff.mp Z.c.more).1
  refine ⟨by rw [hb, hm]; exact Z.tb _ hmem, by rw [hc, ecd], by rw [Z.T]; exact List.mem_map.mpr ⟨_, hmem, rfl⟩, fun q hq e1 => ?_⟩
  rw [Z.T] at hq
  obtain ⟨q', h1, rfl⟩ := List.mem_map.mp hq
  have := nodup_un (fun p : He.Defn × (Nat → Nat → Str) => (He.cT G.K p.1).2) (fun p => p) hn e q' h1 e1
  rw [this]
theorem Zx.ns (Z : Zx fa fn tn xs lay G w mg h base) : NoStp G.K xs := fun c hc => of_decide_eq_true (List.all_eq_true.mp (Bool.and_eq_true_iff.mp Z.c.more).2 c hc)
/-- a class -/
theorem Zx.kc (Z : Zx fa fn tn xs lay G w mg h base) (i : Nat) {C : String} (e : fa[i]? = some (.cls (Str.ofString C))) (nd : (lay C).Nodup) (few : (lay C).length < 1000) {n0 : Nat} {r : List He.Fa} (na : fa.drop n0 = (lay C).map (He.Fa.noat (Str.ofString C)) ++ r) : KC G C :=
  ⟨He.cls_ok (Z.fact i e), by rw [Z.lay]; exact nd, by rw [Z.lay]; exact few, fun f hf => He.noat_ok (Z.c.t.d.facts (List.mem_of_mem_drop (i := n0) (by rw [na]; exact List.mem_append_left _ (List.mem_map.mpr ⟨f, by rw [← Z.lay]; exact hf, rfl⟩))))⟩
theorem Zx.hf (Z : Zx fa fn tn xs lay G w mg h base) {C : String} {j : Nat} {f : Str} (e : (lay C)[j]? = some f) : (G.lay C)[j]? = some f := by rw [Z.lay]; exact e
theorem Zx.hno (Z : Zx fa fn tn xs lay G w mg h base) {C : String} {f : Str} (e : f ∉ lay C) : f ∉ G.lay C := by rw [Z.lay]; exact e
/-- is the one a kind of the other: as told -/
def isaF : List He.Fa → String → String → Option Bool
  | [], _, _ => none
  | .exm x y b :: r, c, d => if x = Str.ofString c ∧ y = Str.ofString d then some b else isaF r c d
  | _ :: r, c, d => isaF r c d
theorem isaF_ok : ∀ {fa : List He.Fa} {c d : String} {b : Bool}, isaF fa c d = some b → He.Fa.exm (Str.ofString c) (Str.ofString d) b ∈ fa
  | [], _, _, _, e => by cases e
  | f :: r, c, d, b, e => by
    cases f with
    | exm x y b' =>
      simp only [isaF] at e
      split at e
      · rename_i z
        obtain ⟨z1, z2⟩ := z
        subst z1 z2
        cases e
        exact List.mem_cons_self
      · exact List.mem_cons_of_mem _ (isaF_ok e)
    | _ => exact List.mem_cons_of_mem _ (isaF_ok (show isaF r c d = some b from e))
theorem Zx.io (Z : Zx fa fn tn xs lay G w mg h base) {isa : String → String → Option Bool} (k : ∀ c d b, isa c d = some b → isaF fa c d = some b) : IsaOk G isa := fun c d b e => He.exm_ok (Z.c.t.d.facts (isaF_ok (k c d b e)))
end
theorem bt_all : bootBuiltins "all" = some (.builtin "all") := by decide +kernel
/-! lambdas kept in lists -/
def lamsE : Expr → List (Arguments × Expr × Scope)
  | .List es _ => es.filterMap fun
    | .Lambda p b s _ => some (p, b, s)
    | _ => none
  | _ => []
def lamsS : Stmt → List (Arguments × Expr × Scope)
  | .Assign _ (.BinOp _ _ v _) _ => lamsE v
  | .Assign _ v _ => lamsE v
  | _ => []
def lamAt (X : Cx) (body : List Stmt) (j : Nat) : LamD := match (body.flatMap lamsS)[j]? with
  | some (p, b, s) => lamD X p b s
  | none => ⟨fun _ _ _ => False, Str.empty⟩
def HB (G : Gx) (X : Cx) (k n : Nat) (Bs : List ME) : Prop := ∀ j B, Bs[j]? = some B → ∃ params body scope, G.L (n + j) = lamD X params body scope ∧ ∀ ι H, LamK (G.at ι H) X k params body scope B
theorem hb_nil {G : Gx} {X : Cx} {k n : Nat} : HB G X k n [] := fun j B e => by simp at e
theorem hb_cons {G : Gx} {X : Cx} {k n : Nat} {B : ME} {Bs : List ME} {params : Arguments} {body : Expr} {scope : Scope} (h : G.L n = lamD X params body scope) (l : ∀ ι H, LamK (G.at ι H) X k params body scope B) (r : HB G X k (n + 1) Bs) : HB G X k n (B :: Bs) := fun j C e => by
  cases j with
  | zero => cases e; exact ⟨_, _, _, h, l⟩
  | succ j =>
    have := r j C (by simpa using e)
    rw [show n + (j + 1) = n + 1 + j by omega]
    exact this
theorem hb0 {G : Gx} {X : Cx} {k : Nat} {Bs : List ME} (r : HB G X k 0 Bs) : ∀ j B, Bs[j]? = some B → ∃ params body scope, G.L j = lamD X params body scope ∧ ∀ ι H, LamK (G.at ι H) X k params body scope B := fun j B e => by
  have := r j B e
  rw [Nat.zero_add] at this
  exact this
/-- a def of which nothing is told -/
theorem kn_bad {G : Gx} {P : Program} {w : World} {mg : Str → Option Value} {base : Heap} {x qual : Str} {params : Arguments} {body : List Stmt} {scope : Scope} {f : Addr} {fd : FuncData} {N ps : List Str} {k : Nat} (F : FunD G.K x qual params body scope [] [] f fd) (S : FnScope N ps scope)
    (hbn : ∀ (kV doc pm : Value) (an : Option Addr) (cdv ct : Value) (us : List Value), us.length = ps.length → bindArgs (PySem.W.fnOf x qual params body scope .none kV doc pm an cdv ct) ⟨us, []⟩ = pure (ps.zip us)) : Kn G P w mg base (k + 1) f ps.length (fun _ _ => .bad) := by
  refine ⟨⟨fd, ps, rfl, ?_, FunD.bindsN F hbn⟩, F.kp⟩
  obtain ⟨oc, od, dV, kV, doc, pm, an, cdv, ct, osl, rfl, lk, hcd, _, _⟩ := F.ex
  exact fn_of lk hcd S (fun vs H Q E h => h.1) fun A outer s H vs Q E hr hsp => by
    obtain ⟨hl, ι, h, xs, rs, rh, q⟩ := hsp
    exact q.elim
end Sh

/-! Sh24: the end of a law. -/
namespace Sh
open PySem PySem.Spec PyProof.Rows L2
theorem lawAt_of {fa : List He.Fa} {fn : List He.DefD} {tn : TnL} {xs : List String} {lay : String → List Str} {l : PySem.W.OpenLaw} {w : World} {h : Heap} {K : PySem.W.Frag} {mg : Str → Option Value} {f : Addr} {k : Nat} {pa : Arguments} {bo : List Stmt} {sc : Scope}
    (c : He.SaysX fa fn [] (tn.map (·.1)) (exB tn xs) w h K) (X : K.In h) (N : h.Ns mainGlobals mg) (j : Nat) (hj : fa[j]? = some (.glo "law")) (hfa : mg ("law" : Str) = some (.ref f)) (i : Nat) (hd : fn[i]? = some ⟨("law", none), "law", "law", pa, bo, sc, [], []⟩)
    (hbn : ∀ (kV doc pm : Value) (an : Option Addr) (cdv ct : Value) (us : List Value), us.length = ["script"].length → bindArgs (PySem.W.fnOf "law" "law" pa bo sc .none kV doc pm an cdv ct) ⟨us, []⟩ = pure ((["script"] : List Str).zip us))
    (ok : ∀ (G : Gx) (base : Heap) (fd : FuncData), Zx fa fn tn xs lay G w mg h base → G.Z = none → FunD G.K "law" "law" pa bo sc [] [] (He.fAd G.K ("law", none)) fd → FnOk l.prog w G.K mg base (L2.CX l.prog w) k (He.fAd G.K ("law", none)) fd ["script"] (spLaw G 63)) :
    LamX.LawAtS l w K (L2.CX l.prog w) k 63 "script" mg f h := by
  obtain ⟨fd, F⟩ := c.t.d.def_ i hd
  have e1 : mg ("law" : Str) = some (.ref (He.ga K "law")) := He.glo_ok X N (c.t.d.fact j hj)
  rw [hfa] at e1
  cases e1
  have b := FunD.bindsA (ps := ["script"]) F hbn
  let G : Gx := ⟨K, fun _ => ⟨fun _ _ _ => False, Str.empty⟩, tn.map fun p => ((He.cT K p.1).2, p.2), lay, none⟩
  refine ⟨fd, tn.map fun p => He.cT K p.1, spLaw G 63, fun p hp => ?_, fun p hp => ?_, fun p hp => ?_, fun s u => b s [u] rfl, fun H a ns hl hb hT hS => ⟨a, ns, rfl, hl, hb, hS, fun p hp => ?_, fun _ => rfl⟩, fun base KB NB hT => ?_⟩
  · obtain ⟨q, hq, rfl⟩ := List.mem_map.mp hp
    exact c.empty _ (List.mem_map.mpr ⟨q, hq, rfl⟩)
  · obtain ⟨q, hq, rfl⟩ := List.mem_map.mp hp
    exact c.out _ (List.mem_map.mpr ⟨q, hq, rfl⟩)
  · obtain ⟨q, hq, rfl⟩ := List.mem_map.mp hp
    exact PySem.W.codeHd_of_K X (c.hd _ (List.mem_map.mpr ⟨q, hq, rfl⟩))
  · obtain ⟨q, hq, rfl⟩ := List.mem_map.mp hp
    exact NdefX.TabN.nil (hT _ (List.mem_map.mpr ⟨q, hq, rfl⟩))
  · exact ok G base fd ⟨X, N, c, rfl, fun p hp => hT _ (List.mem_map.mpr ⟨p, hp, rfl⟩), rfl⟩ rfl F
def okB : Fl → Bool
  | .rt (.bl true) _ => true
  | _ => false
theorem okB_ok : ∀ {r : Fl}, okB r = true → ∃ h', r = .rt (.bl true) h'
  | .rt (.bl true) h, _ => ⟨h, rfl⟩
  | .rt (.bl false) _, e => by cases e
  | .rt .non _, e => by cases e
  | .rt (.int _) _, e => by cases e
  | .rt (.str _) _, e => by cases e
  | .rt (.tup _) _, e => by cases e
  | .rt (.fz _) _, e => by cases e
  | .rt (.ref _) _, e => by cases e
  | .nx _ _, e => by cases e
  | .bk _ _, e => by cases e
  | .ct _ _, e => by cases e
  | .ex _ _ _, e => by cases e
  | .bad, e => by cases e
theorem cx_none {P : Program} {w : World} {H : Hp} {s s' : Shared} {e : Value} (c : L2.CX P w [] H s (fun _ _ _ => False) e s') : False := by
  obtain ⟨_, _, _, _, _, _, _, _, _, _, _, _, q⟩ := c
  exact q
end Sh

/-! Sh25: how meanings are evaluated. -/
namespace Sh
open PySem PySem.Spec PyProof.Rows L2
section
variable {α β : Type} {a : α} {h h1 h2 : IH} {c : String} {f : α → M β} {p : Prop} [Decidable p] {r r' : Res α}
@[simp] theorem bind_ok : Res.bind (.ok a h) f = f a h := rfl
@[simp] theorem bind_exc : Res.bind (.exc c h : Res α) f = .exc c h := rfl
@[simp] theorem bind_bad : Res.bind (.bad : Res α) f = .bad := rfl
@[simp] theorem bind_ite : Res.bind (if p then r else r') f = if p then Res.bind r f else Res.bind r' f := by split <;> rfl
end
section
variable {e e1 : IE} {h h1 h2 : IH} {c : String} {v x y : IV} {g : IV → MS} {m : MS} {p : Prop} [Decidable p] {r r' : Res IV} {s s' : Fl} {fa fb fc ft : ME} {gl : Fn}
@[simp] theorem st_ok : Res.st (.ok v h) e g = g v e h := rfl
@[simp] theorem st_exc : Res.st (.exc c h) e g = .ex c e h := rfl
@[simp] theorem st_bad : Res.st .bad e g = .bad := rfl
@[simp] theorem st_ite : Res.st (if p then r else r') e g = if p then Res.st r e g else Res.st r' e g := by split <;> rfl
@[simp] theorem thn_nx : Fl.thn (.nx e h) m = m e h := rfl
@[simp] theorem thn_rt : Fl.thn (.rt v h) m = .rt v h := rfl
@[simp] theorem thn_ex : Fl.thn (.ex c e h) m = .ex c e h := rfl
@[simp] theorem thn_bk : Fl.thn (.bk e h) m = .bk e h := rfl
@[simp] theorem thn_ct : Fl.thn (.ct e h) m = .ct e h := rfl
@[simp] theorem thn_bad : Fl.thn .bad m = .bad := rfl
@[simp] theorem thn_ite : Fl.thn (if p then s else s') m = if p then Fl.thn s m else Fl.thn s' m := by split <;> rfl
@[simp] theorem turn_nx : Fl.turn (.nx e h) m = m e h := rfl
@[simp] theorem turn_ct : Fl.turn (.ct e h) m = m e h := rfl
@[simp] theorem turn_bk : Fl.turn (.bk e h) m = .nx e h := rfl
@[simp] theorem turn_rt : Fl.turn (.rt v h) m = .rt v h := rfl
@[simp] theorem turn_ex : Fl.turn (.ex c e h) m = .ex c e h := rfl
@[simp] theorem turn_bad : Fl.turn .bad m = .bad := rfl
@[simp] theorem turn_ite : Fl.turn (if p then s else s') m = if p then Fl.turn s m else Fl.turn s' m := by split <;> rfl
@[simp] theorem put_nx : Fl.put (.nx e h) m = m e h := rfl
/-- a def's end -/
def Fl.fin (s : Fl) : Res IV := match s with
  | .rt v h => .ok v h
  | .nx _ h => .ok .non h
  | .ex c _ h => .exc c h
  | _ => .bad
@[simp] theorem fin_rt : Fl.fin (.rt v h) = .ok v h := rfl
@[simp] theorem fin_nx : Fl.fin (.nx e h) = .ok .non h := rfl
@[simp] theorem fin_ex : Fl.fin (.ex c e h) = .exc c h := rfl
@[simp] theorem fin_ite : Fl.fin (if p then s else s') = if p then Fl.fin s else Fl.fin s' := by split <;> rfl
theorem fnM_eq {N : List Str} {b : MS} {xs : List IV} : fnM N b xs h = (b (xs.map some ++ List.replicate (N.length - xs.length) none) h).fin := rfl
/-- by a truth value -/
def brM {γ : Type} (x : IV) (a b c : γ) : γ := match x with
  | .bl true => a
  | .bl false => b
  | _ => c
@[simp] theorem brM_t {γ : Type} {a b c : γ} : brM (.bl true) a b c = a := rfl
@[simp] theorem brM_f {γ : Type} {a b c : γ} : brM (.bl false) a b c = b := rfl
@[simp] theorem brM_d {γ : Type} {a b c : γ} : brM (.bl (decide p)) a b c = if p then a else b := by by_cases h : p <;> simp [h]
@[simp low] theorem brM_b {γ : Type} {a b c : γ} {k : Bool} : brM (.bl k) a b c = if k = true then a else b := by cases k <;> rfl
@[simp] theorem brM_n {γ : Type} {a b c : γ} {k : Bool} : brM (.bl (!k)) a b c = brM (.bl k) b a c := by cases k <;> rfl
@[simp] theorem sIf_eq {f : ME} {g g' : MS} : sIf f g g' e h = (f e h).st e fun x e h => brM x (g e h) (g' e h) .bad := rfl
@[simp] theorem mIf_eq : mIf ft fa fb e h = (ft e h).bind fun x h1 => brM x (fa e h1) (fb e h1) .bad := rfl
@[simp] theorem mAnd_eq : mAnd fa fb e h = (fa e h).bind fun x h1 => brM x (fb e h1) (.ok (.bl false) h1) .bad := rfl
@[simp] theorem mOr_eq : mOr fa fb e h = (fa e h).bind fun x h1 => brM x (.ok (.bl true) h1) (fb e h1) .bad := rfl
@[simp] theorem mChain_eq {g g' : IV → IV → M IV} : mChain g g' fa fb fc e h = (fa e h).bind fun x h1 => (fb e h1).bind fun y h2 => (g x y h2).bind fun k h3 => brM k ((fc e h3).bind fun z h4 => g' y z h4) (.ok (.bl false) h3) .bad := rfl
def notM (x : IV) : M IV := fun h => match x with
  | .bl k => .ok (.bl (!k)) h
  | _ => .bad
@[simp] theorem notM_b {k : Bool} : notM (.bl k) h = .ok (.bl (!k)) h := rfl
@[simp] theorem mNot_eq : mNot fa e h = (fa e h).bind fun x h1 => notM x h1 := rfl
@[simp] theorem mOwn_eq {n : Nat} {fs : IE → M (List IV)} : mOwn n gl fs e h = (fs e h).bind fun xs h1 => if xs.length = n then gl xs h1 else .bad := rfl
/-- a store's end -/
def Fl.asg (s : Fl) : Fl := match s with
  | .nx e h => .nx e h
  | _ => .bad
@[simp] theorem asg_nx : Fl.asg (.nx e h) = .nx e h := rfl
@[simp] theorem sAsg_eq {f : ME} {g : MG} : sAsg f g e h = (f e h).st e fun x e h => (g x e h).asg := rfl
@[simp] theorem gsCons_eq {g : MG} {gs : List IV → MS} {xs : List IV} : gsCons g gs (x :: xs) e h = (g x e h).thn (gs xs) := rfl
@[simp] theorem gSeq_tup {n : Nat} {gs : List IV → MS} {xs : List IV} : gSeq' n gs (.tup xs) e h = if xs.length = n then gs xs e h else .bad := rfl
theorem gSeq_ref {n k : Nat} {gs : List IV → MS} {xs : List IV} (z : h[k]? = some (.lst xs)) : gSeq' n gs (.ref k) e h = if xs.length = n then gs xs e h else .bad := by simp [gSeq', z]
/-! == of scalars -/
@[simp] theorem eqS_ii {i j : Int} : eqS (.int i) (.int j) = some (decide (i = j)) := rfl
@[simp] theorem eqS_bb {i j : Bool} : eqS (.bl i) (.bl j) = some (i == j) := rfl
@[simp] theorem eqS_ss {i j : List Nat} : eqS (.str i) (.str j) = some (decide (i = j)) := rfl
@[simp] theorem eqS_nn : eqS .non .non = some true := rfl
theorem gEq_s {b : Bool} (z : eqS x y = some b) : gEq x y h = .ok (.bl b) h := by simp [gEq, z]
theorem gNe_s {b : Bool} (z : eqS x y = some b) : gNe x y h = .ok (.bl (!b)) h := by simp [gNe, z]
@[simp] theorem gEq_ii {i j : Int} : gEq (.int i) (.int j) h = .ok (.bl (decide (i = j))) h := gEq_s rfl
@[simp] theorem gEq_bb {i j : Bool} : gEq (.bl i) (.bl j) h = .ok (.bl (i == j)) h := gEq_s rfl
@[simp] theorem gEq_ss {i j : List Nat} : gEq (.str i) (.str j) h = .ok (.bl (decide (i = j))) h := gEq_s rfl
@[simp] theorem gEq_nn : gEq .non .non h = .ok (.bl true) h := gEq_s rfl
@[simp] theorem gEq_ni {i : Int} : gEq .non (.int i) h = .ok (.bl false) h := gEq_s rfl
@[simp] theorem gEq_in {i : Int} : gEq (.int i) .non h = .ok (.bl false) h := gEq_s rfl
@[simp] theorem gEq_is {i : Int} {u : List Nat} : gEq (.int i) (.str u) h = .ok (.bl false) h := gEq_s rfl
@[simp] theorem gEq_si {i : Int} {u : List Nat} : gEq (.str u) (.int i) h = .ok (.bl false) h := gEq_s rfl
@[simp] theorem gEq_ns {u : List Nat} : gEq .non (.str u) h = .ok (.bl false) h := gEq_s rfl
@[simp] theorem gEq_sn {u : List Nat} : gEq (.str u) .non h = .ok (.bl false) h := gEq_s rfl
@[simp] theorem gNe_ii {i j : Int} : gNe (.int i) (.int j) h = .ok (.bl (!decide (i = j))) h := gNe_s rfl
@[simp] theorem gNe_bb {i j : Bool} : gNe (.bl i) (.bl j) h = .ok (.bl (!(i == j))) h := gNe_s rfl
@[simp] theorem gNe_ss {i j : List Nat} : gNe (.str i) (.str j) h = .ok (.bl (!decide (i = j))) h := gNe_s rfl
@[simp] theorem gNe_nn : gNe .non .non h = .ok (.bl false) h := gNe_s (b := true) rfl
@[simp] theorem gNe_ni {i : Int} : gNe .non (.int i) h = .ok (.bl true) h := gNe_s (b := false) rfl
@[simp] theorem gNe_in {i : Int} : gNe (.int i) .non h = .ok (.bl true) h := gNe_s (b := false) rfl
@[simp] theorem gNe_is {i : Int} {u : List Nat} : gNe (.int i) (.str u) h = .ok (.bl true) h := gNe_s (b := false) rfl
@[simp] theorem gNe_si {i : Int} {u : List Nat} : gNe (.str u) (.int i) h = .ok (.bl true) h := gNe_s (b := false) rfl
@[simp] theorem gNe_ns {u : List Nat} : gNe .non (.str u) h = .ok (.bl true) h := gNe_s (b := false) rfl
@[simp] theorem gNe_sn {u : List Nat} : gNe (.str u) .non h = .ok (.bl true) h := gNe_s (b := false) rfl
/-! telling -/
@[simp] theorem tell_ok {isa : String → String → Option Bool} {d : String} {ret : List Nat} : tell1 isa d ret (.ok x h) = .ok x h := rfl
theorem tell_exc {isa : String → String → Option Bool} {d : String} {ret : List Nat} (z : isa c d = some true) : tell1 isa d ret (.exc c h) = .ok (.str ret) h := by simp [tell1, z]
@[simp] theorem tell_ite {isa : String → String → Option Bool} {d : String} {ret : List Nat} : tell1 isa d ret (if p then r else r') = if p then tell1 isa d ret r else tell1 isa d ret r' := by split <;> rfl
/-! lists by their place -/
theorem gIx_ref {n : Nat} {k : Int} {xs : List IV} (z : h[n]? = some (.lst xs)) (z2 : atI xs k = some v) : gIx (.ref n) (.int k) h = .ok v h := by simp [gIx, z, z2]
theorem gSubL_eq {n j : Nat} {k : Int} {xs : List IV} {fo fi : ME} (z1 : fo e h = .ok (.ref n) h) (z2 : fi e h = .ok (.int k) h) (z : h[n]? = some (.lst xs)) (zj : ixN xs.length k = some j) : gSubL fo fi x e h = .nx e (h.set n (.lst (xs.set j x))) := by simp [gSubL, z1, z2, z, zj]
end
end Sh

/-! Sh26: loops by an invariant. -/
namespace Sh
open PySem PySem.Spec PyProof.Rows L2
/-- a turn's end, as the loop takes it -/
def Fl.lp (r : Fl) (J : IE → IH → Prop) (Q : Fl → Prop) : Prop := match r with
  | .nx e h => J e h
  | .ct e h => J e h
  | .bk e h => Q (.nx e h)
  | .rt v h => Q (.rt v h)
  | .ex c e h => Q (.ex c e h)
  | .bad => False
theorem forL_run {S : Sr} {g : MG} {b : MS} {Q : Fl → Prop} (xs : List IV) (J : Nat → IE → IH → Prop)
    (hS : ∀ i x e h, xs[i]? = some x → J i e h → S.nx i h = .it x) (hE : ∀ e h, J xs.length e h → S.nx xs.length h = .stop ∧ Q (.nx e h))
    (hb : ∀ i x e h, xs[i]? = some x → J i e h → ∃ e1 h1, g x e h = .nx e1 h1 ∧ (b e1 h1).lp (J (i + 1)) Q) :
    ∀ (k i m : Nat) (e : IE) (h : IH), i + k = xs.length → k < m → J i e h → Q (forL S g b m i e h)
  | 0, i, m + 1, e, h, hi, _, j => by
    have e0 : i = xs.length := by omega
    subst e0
    obtain ⟨h1, h2⟩ := hE e h j
    unfold forL
    rw [h1]
    exact h2
  | k + 1, i, m + 1, e, h, hi, hm, j => by
    have hlt : i < xs.length := by omega
    have hx : xs[i]? = some xs[i] := List.getElem?_eq_getElem hlt
    obtain ⟨e1, h1, hg, hl⟩ := hb i _ e h hx j
    unfold forL
    rw [hS i _ e h hx j]
    simp only [hg, put_nx]
    cases hz : b e1 h1 with
    | nx e2 h2 => rw [hz] at hl; exact forL_run xs J hS hE hb k (i + 1) m e2 h2 (by omega) (by omega) hl
    | ct e2 h2 => rw [hz] at hl; exact forL_run xs J hS hE hb k (i + 1) m e2 h2 (by omega) (by omega) hl
    | bk e2 h2 => rw [hz] at hl; exact hl
    | rt v h2 => rw [hz] at hl; exact hl
    | ex c e2 h2 => rw [hz] at hl; exact hl
    | bad => rw [hz] at hl; exact hl.elim
/-- a comprehension's turn -/
theorem lcL_run {S : Sr} {g : MG} {t f : ME} {d : Nat} {Q : Res IV → Prop} (xs : List IV) (J : Nat → List IV → IE → IH → Prop)
    (hS : ∀ i x a e h, xs[i]? = some x → J i a e h → S.nx i h = .it x) (hE : ∀ a e h, J xs.length a e h → S.nx xs.length h = .stop ∧ Q (.ok (.ref d) h))
    (hb : ∀ i x a e h, xs[i]? = some x → J i a e h → ∃ e1 h1 b h2, g x e h = .nx e1 h1 ∧ t e1 h1 = .ok (.bl b) h2 ∧ (if b = true then ∃ y h3, f e1 h2 = .ok y h3 ∧ h3[d]? = some (.lst a) ∧ a.length < sizeLine ∧ J (i + 1) (a ++ [y]) e1 (h3.set d (.lst (a ++ [y]))) else J (i + 1) a e1 h2)) :
    ∀ (k i m : Nat) (a : List IV) (e : IE) (h : IH), i + k = xs.length → k < m → J i a e h → Q (lcL S g t f d m i e h)
  | 0, i, m + 1, a, e, h, hi, _, j => by
    have e0 : i = xs.length := by omega
    subst e0
    obtain ⟨h1, h2⟩ := hE a e h j
    unfold lcL
    rw [h1]
    exact h2
  | k + 1, i, m + 1, a, e, h, hi, hm, j => by
    have hlt : i < xs.length := by omega
    have hx : xs[i]? = some xs[i] := List.getElem?_eq_getElem hlt
    obtain ⟨e1, h1, b, h2, hg, ht, hl⟩ := hb i _ a e h hx j
    unfold lcL
    rw [hS i _ a e h hx j]
    simp only [hg, ht]
    cases b with
    | true =>
      rw [if_pos rfl] at hl
      obtain ⟨y, h3, hf, hd, hl1, hj⟩ := hl
      simp only [hf, bind_ok, hd]
      rw [if_pos hl1]
      exact lcL_run xs J hS hE hb k (i + 1) m _ e1 _ (by omega) (by omega) hj
    | false =>
      rw [if_neg Bool.false_ne_true] at hl
      exact lcL_run xs J hS hE hb k (i + 1) m a e1 h2 (by omega) (by omega) hl
/-- a generator's turn -/
theorem genL_run {α : Type} {cs : List String} {S : Sr} {g : MG} {t f : ME} {st : α → IV → St3 α} {fin : α → M IV} {Q : Res IV → Prop} (xs : List IV) (J : Nat → α → IE → IH → Prop)
    (hS : ∀ i x a e h, xs[i]? = some x → J i a e h → S.nx i h = .it x) (hE : ∀ a e h, J xs.length a e h → S.nx xs.length h = .stop ∧ Q (fin a h))
    (hb : ∀ i x a e h, xs[i]? = some x → J i a e h → ∃ e1 h1 b h2, g x e h = .nx e1 h1 ∧ t e1 h1 = .ok (.bl b) h2 ∧ (if b = true then ∃ y h3, f e1 h2 = .ok y h3 ∧ ((∃ a', st a y = .more a' ∧ J (i + 1) a' e1 h3) ∨ ∃ z, st a y = .out z ∧ Q (.ok z h3)) else J (i + 1) a e1 h2)) :
    ∀ (k i m : Nat) (a : α) (e : IE) (h : IH), i + k = xs.length → k < m → J i a e h → Q (genL cs S g t f st fin m i e a h)
  | 0, i, m + 1, a, e, h, hi, _, j => by
    have e0 : i = xs.length := by omega
    subst e0
    obtain ⟨h1, h2⟩ := hE a e h j
    unfold genL
    rw [h1]
    exact h2
  | k + 1, i, m + 1, a, e, h, hi, hm, j => by
    have hlt : i < xs.length := by omega
    have hx : xs[i]? = some xs[i] := List.getElem?_eq_getElem hlt
    obtain ⟨e1, h1, b, h2, hg, ht, hl⟩ := hb i _ a e h hx j
    unfold genL
    rw [hS i _ a e h hx j]
    simp only [hg, ht]
    cases b with
    | true =>
      rw [if_pos rfl] at hl
      obtain ⟨y, h3, hf, hj⟩ := hl
      simp only [hf]
      rcases hj with ⟨a', hs, hj⟩ | ⟨z, hs, hq⟩
      · rw [hs]
        simp only [St3.go]
        exact genL_run xs J hS hE hb k (i + 1) m a' e1 _ (by omega) (by omega) hj
      · rw [hs]
        exact hq
    | false =>
      rw [if_neg Bool.false_ne_true] at hl
      exact genL_run xs J hS hE hb k (i + 1) m a e1 h2 (by omega) (by omega) hl
theorem srT_it {xs : List IV} {i : Nat} {x : IV} {h : IH} (e : xs[i]? = some x) : (srT xs).nx i h = .it x := by simp [srT, e]
theorem srT_end {xs : List IV} {h : IH} : (srT xs).nx xs.length h = .stop := by simp [srT]
theorem srL_it {n m i : Nat} {xs : List IV} {x : IV} {h : IH} (z : h[n]? = some (.lst xs)) (e : xs[i]? = some x) : (srL n m).nx i h = .it x := by
  have := (List.getElem?_eq_some_iff.mp e).1
  simp only [srL, z, this, e, if_true]
theorem srL_end {n m : Nat} {xs : List IV} {h : IH} (z : h[n]? = some (.lst xs)) : (srL n m).nx xs.length h = .stop := by simp [srL, z]
theorem srR_it {lo hi : Int} {i : Nat} {h : IH} (e : i < (hi - lo).toNat) : (srR lo hi).nx i h = .it (.int (lo + i)) := by simp only [srR, e, if_true]
theorem srR_end {lo hi : Int} {h : IH} : (srR lo hi).nx (hi - lo).toNat h = .stop := by simp only [srR, Nat.lt_irrefl, if_false]
/-- what range walks -/
def rngL (lo : Int) (n : Nat) : List IV := (List.range n).map fun i => IV.int (lo + (i : Nat))
theorem rngL_len {lo : Int} {n : Nat} : (rngL lo n).length = n := by simp [rngL]
theorem rngL_get {lo : Int} {n i : Nat} {x : IV} (e : (rngL lo n)[i]? = some x) : i < n ∧ x = .int (lo + (i : Nat)) := by
  unfold rngL at e
  rw [List.getElem?_map] at e
  cases z : (List.range n)[i]? with
  | none => rw [z] at e; cases e
  | some j =>
    rw [z] at e
    cases e
    obtain ⟨h1, h2⟩ := List.getElem?_eq_some_iff.mp z
    simp at h1 h2
    exact ⟨h1, by rw [← h2]⟩
end Sh

/-! Sh27: lists compared; growing heaps. -/
namespace Sh
open PySem PySem.Spec PyProof.Rows L2
theorem mapO_map {α β γ : Type} {f : β → Option γ} {g : α → β} {k : α → γ} (e : ∀ x, f (g x) = some (k x)) : ∀ xs : List α, mapO f (xs.map g) = some (xs.map k)
  | [] => rfl
  | x :: xs => by
    rw [List.map_cons]
    unfold mapO
    rw [e x, mapO_map e xs]
    rfl
theorem dat_ints {h : IH} {k n : Nat} {ys : List Int} (e : h[k]? = some (.lst (ys.map .int))) : dat (n + 1) h (.ref k) = some (.list (ys.map .int)) := by
  unfold dat
  rw [e]
  simp only
  rw [mapO_map (k := PyData.int) (fun x => by cases n <;> rfl) ys]
  rfl
theorem lay_ints : ∀ ys : List Int, PyData.canLayAll0 (ys.map .int) = true
  | [] => by simp [PyData.canLayAll0]
  | y :: ys => by
    rw [List.map_cons]
    unfold PyData.canLayAll0
    rw [lay_ints ys]
    simp [PyData.canLay0]
theorem depth_ints : ∀ ys : List Int, PyData.depthAll (ys.map .int) ≤ 1
  | [] => by simp [PyData.depthAll]
  | y :: ys => by
    have := depth_ints ys
    rw [List.map_cons]
    unfold PyData.depthAll
    simp [PyData.depth]
    exact this
theorem shaped_ints {ys : List Int} : SeqAt.shaped (.list (ys.map .int)) = true := by
  have := depth_ints ys
  unfold SeqAt.shaped PyData.canLay0 PyData.depth
  rw [lay_ints]
  simp
  omega
theorem eqv_ints : ∀ ys zs : List Int, PyData.eqvAll (ys.map .int) (zs.map .int) = decide (ys = zs)
  | [], [] => by simp [PyData.eqvAll]
  | [], _ :: _ => by simp [PyData.eqvAll]
  | _ :: _, [] => by simp [PyData.eqvAll]
  | y :: ys, z :: zs => by
    rw [List.map_cons, List.map_cons]
    unfold PyData.eqvAll
    rw [eqv_ints ys zs]
    by_cases a : y = z <;> by_cases b : ys = zs <;> simp [a, b, PyData.eqv]
theorem gEq_ints {h : IH} {k j : Nat} {ys zs : List Int} (e1 : h[k]? = some (.lst (ys.map .int))) (e2 : h[j]? = some (.lst (zs.map .int))) : gEq (.ref k) (.ref j) h = .ok (.bl (decide (ys = zs))) h := by
  simp only [gEq, eqS, dat_ints e1, dat_ints e2, shaped_ints, Bool.and_self, if_true]
  rw [PyData.eqv, eqv_ints]
theorem gNe_ints {h : IH} {k j : Nat} {ys zs : List Int} (e1 : h[k]? = some (.lst (ys.map .int))) (e2 : h[j]? = some (.lst (zs.map .int))) : gNe (.ref k) (.ref j) h = .ok (.bl (!decide (ys = zs))) h := by
  simp only [gNe, eqS, dat_ints e1, dat_ints e2, shaped_ints, Bool.and_self, if_true]
  rw [PyData.eqv, eqv_ints]
theorem pre_app {h h' l : IH} (p : h <+: h') : h <+: h' ++ l := p.trans (List.prefix_append _ _)
theorem pre_set {h h' : IH} {i : Nat} {o : IO} (p : h <+: h') (hi : h.length ≤ i) : h <+: h'.set i o := by
  obtain ⟨r, rfl⟩ := p
  rw [List.set_append_right _ _ hi]
  exact List.prefix_append _ _
theorem pre_len {h h' : IH} (p : h <+: h') : h.length ≤ h'.length := p.length_le
theorem get_lt {h : IH} {i : Nat} {o : IO} (e : h[i]? = some o) : i < h.length := (List.getElem?_eq_some_iff.mp e).1
theorem set_at {h : IH} {i : Nat} {o o' : IO} (e : h[i]? = some o) : (h.set i o')[i]? = some o' := by simp [get_lt e]
theorem set_ne {h : IH} {i j : Nat} {o o' : IO} (e : h[j]? = some o) (n : i ≠ j) : (h.set i o')[j]? = some o := by rw [List.getElem?_set_ne n]; exact e
theorem app_at {h l : IH} {i : Nat} {o : IO} (e : h[i]? = some o) : (h ++ l)[i]? = some o := by rw [List.getElem?_append_left (get_lt e)]; exact e
theorem new_at (h : IH) (o : IO) : (h ++ [o])[h.length]? = some o := by simp
theorem atI_last {α : Type} {xs : List α} {y : α} : atI (xs ++ [y]) (-1) = some y := by
  have e : (-1 + ((xs.length : Int) + 1)).toNat = xs.length := by omega
  have e2 : -((xs.length : Int) + 1) ≤ -1 := by omega
  have e3 : ((xs ++ [y]).length : Int) = (xs.length : Int) + 1 := by simp
  unfold atI ixN
  rw [e3, if_neg (by omega), if_pos e2, e]
  simp
/-- a check that holds -/
theorem chk_eq {e : IE} {h h1 : IH} {c : ME} {s : MS} (z : c e h = .ok (.bl false) h1) : sIf c s sSkip e h = .nx e h1 := by
  rw [sIf_eq, z]; rfl
end Sh

namespace K10
open PySem PySem.Spec PyProof.Rows L2 Sh
def top (i : Nat) : Stmt := PySem.Challenge.pw_namestack_k10_numbers_that_go_round.main.body.getD i (.Pass ⟨0, 0, 0, 0⟩)
abbrev s_law_told : Stmt := top 24
abbrev s_law : Stmt := top 30
abbrev s_law_rounds : Stmt := top 23
abbrev s_law_dice : Stmt := top 21
abbrev s_law_counts : Stmt := top 28
abbrev s_next_look : Stmt := top 19
abbrev s_law_roll : Stmt := top 22
abbrev s_Primary_behind_by : Stmt := (clsB (top 18)).getD 3 (.Pass ⟨0, 0, 0, 0⟩)
abbrev s_check_serial : Stmt := top 6
abbrev s_Primary_change_once : Stmt := (clsB (top 18)).getD 1 (.Pass ⟨0, 0, 0, 0⟩)
abbrev s_Primary_tell_now : Stmt := (clsB (top 18)).getD 2 (.Pass ⟨0, 0, 0, 0⟩)
abbrev s_added_to : Stmt := top 9
abbrev s_Primary_init : Stmt := (clsB (top 18)).getD 0 (.Pass ⟨0, 0, 0, 0⟩)
abbrev s_told_serial : Stmt := top 15
abbrev s_days_in : Stmt := top 11
abbrev s_is_leap : Stmt := top 10
abbrev s_law_days : Stmt := top 26
abbrev s_next_by_day : Stmt := top 14
abbrev s_is_later : Stmt := top 8
abbrev s_compared_to : Stmt := top 7
abbrev s_first_of_day : Stmt := top 13
abbrev s_check_day : Stmt := top 12
abbrev s_law_compared : Stmt := top 25
abbrev s_latest_of : Stmt := top 17
abbrev s_law_serial : Stmt := top 27
abbrev s_steps_to : Stmt := top 16
abbrev s_law_plain : Stmt := top 29
/-! ### what each def does -/
def isa : String → String → Option Bool := fun c d => if c = "NameFault" ∧ d = "SerialError" then some false else if c = "SerialError" ∧ d = "SerialError" then some true else none
def m_law_dice : MS :=
  sSeq (sIf (mChain gLt gLt (m2 Sh.gSub (mC (.int 0)) (mC (.int 10))) (mVar 0) (mC (.int 10))) (sRet (mLst (mCons (mCall gAbs (mCons (mVar 0) (mNil))) (mCons (mC (.int 0)) (mCons (mC (.int 2)) (mNil)))))) (sSkip))
          (sRet (mLst (mCons (mVar 0) (mCons (m2 gAdd (mC (.int 1)) (m2 gMod (mCall gInt (mCons (mVar 0) (mNil))) (mC (.int 1009)))) (mCons (mCall gInt (mCons (m2 gGe (mVar 0) (m2 gPow (mC (.int 10)) (mC (.int 18)))) (mNil))) (mNil))))))
def f_law_dice : Fn := fnM ["cell"] m_law_dice
def m_law_rounds : MS :=
  sSeq (sAsg (mSl (mVar 0) (mNoPart) (mPart (mVar 1))) (gName' 2))
          (sSeq (sIf (m2 gEq (mVar 2) (mLst (mNil))) (sAsg (mLst (mCons (mC (.int 0)) (mNil))) (gName' 2)) (sSkip))
          (sRet (mLc (mItV (mVar 2)) [3] (gName' 3) (mC (.bl true)) (mOwn 1 f_law_dice (mCons (mVar 3) (mNil))))))
def f_law_rounds : Fn := fnM ["script", "most", "cells", "cell"] m_law_rounds
def m_next_look : MS :=
  sSeq (sIf (mOr (m2 gLt (mCall gMin3 (mCons (mVar 0) (mCons (mVar 1) (mCons (mVar 2) (mNil))))) (mC (.int 1))) (mGen (mZip (mCons (m2 gAdd (mLst (mCons (mVar 3) (mNil))) (mCall gList (mCons (mVar 4) (mNil)))) (mCons (mVar 4) (mNil)))) [6, 7] (gSeq' 2 (gsCons (gName' 6) (gsCons (gName' 7) (gsNil)))) (mC (.bl true)) (m2 gLe (mVar 7) (mVar 6)) ["NameFault", "SerialError"] (stB true) (finB true) ())) (sRaise "SerialError") (sSkip))
          (sSeq (sAsg (mIf (m2 gGt (mCall gLen (mCons (mVar 4) (mNil))) (mC (.int 0))) (m2 gAdd (m2 gIx (mVar 4) (m1 gNeg (mC (.int 1)))) (mVar 1)) (m2 gAdd (mVar 3) (mVar 0))) (gName' 5))
          (sRet (mTup (mCons (mVar 5) (mCons (m2 gLt (mVar 5) (m2 gAdd (mVar 3) (mVar 2))) (mNil))))))
def f_next_look : Fn := fnM ["refresh", "retry", "expire", "last_good", "looks", "when", "one", "two"] m_next_look
def m_law_roll (r : Fn) : MS :=
  sSeq (sIf (mOr (m2 gEq (m2 gIx (mVar 0) (mC (.int 2))) (mC (.int 2))) (mAnd (m2 gEq (m2 gIx (mVar 0) (mC (.int 2))) (mC (.int 1))) (m2 gGt (m2 gIx (mVar 0) (mC (.int 0))) (mC (.int 0))))) (sSeq (sAsg (m2 gMod (mCall gInt (mCons (m2 gIx (mVar 0) (mC (.int 0))) (mNil))) (mVar 1)) (gName' 2))
          (sSeq (sAsg (m2 gDiv (m2 gIx (mVar 0) (mC (.int 0))) (mVar 1)) (gSubL (mVar 0) (mC (.int 0))))
          (sRet (mVar 2)))) (sSkip))
          (sSeq (sAsg (mC (.int 0)) (gSubL (mVar 0) (mC (.int 2))))
          (sSeq (sIf (m2 gGt (mVar 1) (mC (.int 100000000))) (sRet (m2 gMod (mCall gInt (mCons (m2 gAdd (m2 gMul (mOwn 2 r (mCons (mVar 0) (mCons (m2 gAdd (m2 gDiv (mVar 1) (mC (.int 100000000))) (mC (.int 1))) (mNil)))) (mC (.int 100000000))) (mOwn 2 r (mCons (mVar 0) (mCons (mC (.int 100000000)) (mNil))))) (mNil))) (mVar 1))) (sSkip))
          (sSeq (sAsg (m2 gMod (mCall gInt (mCons (m2 gAdd (m2 gAdd (m2 gMul (m2 gIx (mVar 0) (mC (.int 0))) (mC (.int 48271))) (m2 gMul (m2 gIx (mVar 0) (mC (.int 1))) (mC (.int 69621)))) (mC (.int 11))) (mNil))) (mC (.int 2147483647))) (gSubL (mVar 0) (mC (.int 0))))
          (sSeq (sAsg (m2 gAdd (m2 gIx (mVar 0) (mC (.int 1))) (mC (.int 1))) (gSubL (mVar 0) (mC (.int 1))))
          (sRet (m2 gMod (mCall gInt (mCons (m2 gDiv (m2 gIx (mVar 0) (mC (.int 0))) (mC (.int 7))) (mNil))) (mVar 1)))))))
def f_law_roll : Nat → Fn
  | 0 => fun _ _ => .bad
  | n + 1 => fnM ["dice", "many", "found"] (m_law_roll (f_law_roll n))
def m_check_serial : MS :=
  sIf (mNot (mChain gLe gLt (mC (.int 0)) (mVar 0) (mC (.int 4294967296)))) (sRaise "SerialError") (sSkip)
def f_check_serial : Fn := fnM ["serial"] m_check_serial
def m_Primary_behind_by : MS :=
  sSeq (sExpr (mOwn 1 f_check_serial (mCons (mVar 1) (mNil))))
          (sSeq (sAsg (mLc (mEnum (mCons (mFld "Primary" 3 (mVar 0)) (mNil))) [3, 4] (gSeq' 2 (gsCons (gName' 3) (gsCons (gName' 4) (gsNil)))) (m2 gEq (mVar 4) (mVar 1)) (mVar 3)) (gName' 2))
          (sRet (mIf (m2 gNe (mVar 2) (mLst (mNil))) (m2 Sh.gSub (m2 Sh.gSub (mCall gLen (mCons (mFld "Primary" 3 (mVar 0)) (mNil))) (mC (.int 1))) (m2 gIx (mVar 2) (m1 gNeg (mC (.int 1))))) (mC .non))))
def f_Primary_behind_by : Fn := fnM ["self", "serial", "places", "place", "one"] m_Primary_behind_by
def m_added_to : MS :=
  sSeq (sExpr (mOwn 1 f_check_serial (mCons (mVar 0) (mNil))))
          (sSeq (sIf (mNot (mChain gLe gLt (mC (.int 1)) (mVar 1) (mC (.int 2147483648)))) (sRaise "SerialError") (sSkip))
          (sRet (m2 gMod (m2 gAdd (mVar 0) (mVar 1)) (mC (.int 4294967296)))))
def f_added_to : Fn := fnM ["serial", "many"] m_added_to
def m_Primary_tell_now : MS :=
  sSeq (sFldI "Primary" 0 (mVar 0) (mOwn 2 f_added_to (mCons (mFld "Primary" 0 (mVar 0)) (mCons (mC (.int 1)) (mNil)))))
          (sSeq (sFldI "Primary" 2 (mVar 0) (mC (.int 0)))
          (sSeq (sExpr (mBM .list gAppend (mFld "Primary" 3 (mVar 0)) (mCons (mFld "Primary" 0 (mVar 0)) (mNil))))
          (sRet (mFld "Primary" 0 (mVar 0)))))
def f_Primary_tell_now : Fn := fnM ["self"] m_Primary_tell_now
def m_Primary_change_once : MS :=
  sSeq (sAugF "Primary" 2 gIadd (mVar 0) (mC (.int 1)))
          (sSeq (sIf (m2 gLt (mFld "Primary" 2 (mVar 0)) (mFld "Primary" 1 (mVar 0))) (sRet (mC (.bl false))) (sSkip))
          (sSeq (sExpr (mMeth "Primary" 1 f_Primary_tell_now (mVar 0) mNil))
          (sRet (mC (.bl true)))))
def f_Primary_change_once : Fn := fnM ["self"] m_Primary_change_once
def m_Primary_init : MS :=
  sSeq (sExpr (mOwn 1 f_check_serial (mCons (mVar 1) (mNil))))
          (sSeq (sIf (m2 gLt (mVar 2) (mC (.int 1))) (sRaise "SerialError") (sSkip))
          (sSeq (sFldI "Primary" 0 (mVar 0) (mVar 1))
          (sSeq (sFldI "Primary" 1 (mVar 0) (mVar 2))
          (sSeq (sFldI "Primary" 2 (mVar 0) (mC (.int 0)))
          (sFldI "Primary" 3 (mVar 0) (mLst (mCons (mVar 1) (mNil))))))))
def f_Primary_init : Fn := fnM ["self", "serial", "each"] m_Primary_init
def m_law_counts : MS :=
  sSeq (sPar3 2 3 4 (mCons (m2 gAdd (mC (.int 1)) (mOwn 2 (f_law_roll 2) (mCons (mVar 0) (mCons (mC (.int 4)) (mNil))))) (mCons (mLst (mCons (mVar 1) (mNil))) (mCons (mC (.int 0)) (mNil)))))
          (sSeq (sAsg (mMake "Primary" 3 f_Primary_init (mCons (mVar 1) (mCons (mVar 2) (mNil)))) (gName' 5))
          (sSeq (sFor (mRng1 (mCons (mOwn 2 (f_law_roll 2) (mCons (mVar 0) (mCons (mC (.int 20)) (mNil)))) (mNil))) (gName' 6) (sSeq (sAsg (m2 gGt (mOwn 2 (f_law_roll 2) (mCons (mVar 0) (mCons (mC (.int 6)) (mNil)))) (mC (.int 0))) (gName' 7))
          (sSeq (sAsg (mIf (mVar 7) (m2 gAdd (mVar 4) (mC (.int 1))) (mVar 2)) (gName' 4))
          (sSeq (sAsg (m2 gGe (mVar 4) (mVar 2)) (gName' 8))
          (sSeq (sAsg (m2 gAdd (mVar 3) (m2 gMul (mLst (mCons (m2 gMod (m2 gAdd (m2 gIx (mVar 3) (m1 gNeg (mC (.int 1)))) (mC (.int 1))) (mC (.int 4294967296))) (mNil))) (mCall gInt (mCons (mVar 8) (mNil))))) (gName' 3))
          (sSeq (sAsg (mIf (mVar 8) (mC (.int 0)) (mVar 4)) (gName' 4))
          (sSeq (sAsg (mIf (mVar 7) (mMeth "Primary" 1 f_Primary_change_once (mVar 5) mNil) (mMeth "Primary" 1 f_Primary_tell_now (mVar 5) mNil)) (gName' 9))
          (sSeq (sIf (m2 gNe (mVar 9) (mIf (mVar 7) (mVar 8) (m2 gIx (mVar 3) (m1 gNeg (mC (.int 1)))))) (sRet (mC (.bl false))) (sSkip))
          (sIf (m2 gNe (mTup (mCons (mFld "Primary" 0 (mVar 5)) (mCons (mFld "Primary" 2 (mVar 5)) (mCons (mFld "Primary" 3 (mVar 5)) (mNil))))) (mTup (mCons (m2 gIx (mVar 3) (m1 gNeg (mC (.int 1)))) (mCons (mVar 4) (mCons (mVar 3) (mNil)))))) (sRet (mC (.bl false))) (sSkip))))))))))
          (sSeq (sAsg (m2 gIx (mLst (mCons (m2 gIx (mVar 3) (mOwn 2 (f_law_roll 2) (mCons (mVar 0) (mCons (mCall gLen (mCons (mVar 3) (mNil))) (mNil))))) (mCons (m2 gMod (m2 gAdd (mVar 1) (mC (.int 4000000))) (mC (.int 4294967296))) (mNil)))) (mOwn 2 (f_law_roll 2) (mCons (mVar 0) (mCons (mC (.int 2)) (mNil))))) (gName' 10))
          (sSeq (sIf (m2 gNe (mMeth "Primary" 2 f_Primary_behind_by (mVar 5) (mCons (mVar 10) (mNil))) (mIf (m2 (gIn false) (mVar 10) (mVar 3)) (m2 Sh.gSub (m2 Sh.gSub (mCall gLen (mCons (mVar 3) (mNil))) (mC (.int 1))) (mBM .list gIndex (mVar 3) (mCons (mVar 10) (mNil)))) (mC .non))) (sRet (mC (.bl false))) (sSkip))
          (sSeq (sAsg (mLc (mRng1 (mCons (mC (.int 4)) (mNil))) [11] (gName' 11) (mC (.bl true)) (m2 gAdd (mC (.int 1)) (mOwn 2 (f_law_roll 2) (mCons (mVar 0) (mCons (mC (.int 50)) (mNil)))))) (gSeq' 4 (gsCons (gName' 12) (gsCons (gName' 13) (gsCons (gName' 14) (gsCons (gName' 15) (gsNil)))))))
          (sSeq (sAsg (mLst (mNil)) (gName' 16))
          (sSeq (sAsg (mVar 15) (gName' 17))
          (sSeq (sFor (mRng1 (mCons (mOwn 2 (f_law_roll 2) (mCons (mVar 0) (mCons (mC (.int 4)) (mNil)))) (mNil))) (gName' 11) (sSeq (sAsg (m2 gAdd (m2 gAdd (mVar 17) (mC (.int 1))) (mOwn 2 (f_law_roll 2) (mCons (mVar 0) (mCons (mC (.int 30)) (mNil))))) (gName' 17))
          (sAsg (m2 gAdd (mVar 16) (mLst (mCons (mVar 17) (mNil)))) (gName' 16))))
          (sSeq (sAsg (mIf (m2 gNe (mVar 16) (mLst (mNil))) (m2 gAdd (m2 gIx (mVar 16) (m1 gNeg (mC (.int 1)))) (mVar 13)) (m2 gAdd (mVar 15) (mVar 12))) (gName' 18))
          (sRet (m2 gEq (mOwn 5 f_next_look (mCons (mVar 12) (mCons (mVar 13) (mCons (mVar 14) (mCons (mVar 15) (mCons (mVar 16) (mNil))))))) (mTup (mCons (mVar 18) (mCons (m2 gLt (mVar 18) (m2 gAdd (mVar 15) (mVar 14))) (mNil)))))))))))))))
def f_law_counts : Fn := fnM ["dice", "serial", "each", "had", "waiting", "primary", "step", "notes", "due", "told", "asked", "k", "refresh", "retry", "expire", "last", "looks", "time", "when"] m_law_counts
def m_is_leap : MS :=
  sRet (mOr (mAnd (m2 gEq (m2 gMod (mVar 0) (mC (.int 4))) (mC (.int 0))) (m2 gNe (m2 gMod (mVar 0) (mC (.int 100))) (mC (.int 0)))) (m2 gEq (m2 gMod (mVar 0) (mC (.int 400))) (mC (.int 0))))
def f_is_leap : Fn := fnM ["year"] m_is_leap
def m_days_in : MS :=
  sSeq (sIf (mOr (mNot (mChain gLe gLe (mC (.int 1)) (mVar 0) (mC (.int 4294)))) (mNot (mChain gLe gLe (mC (.int 1)) (mVar 1) (mC (.int 12))))) (sRaise "SerialError") (sSkip))
          (sSeq (sIf (m2 gEq (mVar 1) (mC (.int 2))) (sRet (mIf (mOwn 1 f_is_leap (mCons (mVar 0) (mNil))) (mC (.int 29)) (mC (.int 28)))) (sSkip))
          (sRet (mIf (m2 (gIn false) (mVar 1) (mTup (mCons (mC (.int 4)) (mCons (mC (.int 6)) (mCons (mC (.int 9)) (mCons (mC (.int 11)) (mNil))))))) (mC (.int 30)) (mC (.int 31)))))
def f_days_in : Fn := fnM ["year", "month"] m_days_in
def m_told_serial : MS :=
  sSeq (sExpr (mOwn 1 f_check_serial (mCons (mVar 0) (mNil))))
          (sSeq (sAsg (mTup (mCons (m2 gMod (mVar 0) (mC (.int 100))) (mCons (m2 gMod (m2 gDiv (mVar 0) (mC (.int 100))) (mC (.int 100))) (mCons (m2 gMod (m2 gDiv (mVar 0) (mC (.int 10000))) (mC (.int 100))) (mCons (m2 gDiv (mVar 0) (mC (.int 1000000))) (mNil)))))) (gSeq' 4 (gsCons (gName' 1) (gsCons (gName' 2) (gsCons (gName' 3) (gsCons (gName' 4) (gsNil)))))))
          (sSeq (sIf (mOr (mNot (mChain gLe gLe (mC (.int 1)) (mVar 4) (mC (.int 4294)))) (mOr (mNot (mChain gLe gLe (mC (.int 1)) (mVar 3) (mC (.int 12)))) (mNot (mChain gLe gLe (mC (.int 1)) (mVar 2) (mOwn 2 f_days_in (mCons (mVar 4) (mCons (mVar 3) (mNil)))))))) (sRet (mC .non)) (sSkip))
          (sRet (mTup (mCons (mVar 4) (mCons (mVar 3) (mCons (mVar 2) (mCons (mVar 1) (mNil)))))))))
def f_told_serial : Fn := fnM ["serial", "number", "day", "month", "year"] m_told_serial
def m_law_days : MS :=
  sSeq (sAsg (mOr (m2 gEq (m2 gMod (mVar 0) (mC (.int 400))) (mC (.int 0))) (mAnd (m2 gEq (m2 gMod (mVar 0) (mC (.int 4))) (mC (.int 0))) (m2 gNe (m2 gMod (mVar 0) (mC (.int 100))) (mC (.int 0))))) (gName' 2))
          (sRet (m2 gIx (mLst (mCons (mC (.int 31)) (mCons (m2 gAdd (mC (.int 28)) (mCall gInt (mCons (mVar 2) (mNil)))) (mCons (mC (.int 31)) (mCons (mC (.int 30)) (mCons (mC (.int 31)) (mCons (mC (.int 30)) (mCons (mC (.int 31)) (mCons (mC (.int 31)) (mCons (mC (.int 30)) (mCons (mC (.int 31)) (mCons (mC (.int 30)) (mCons (mC (.int 31)) (mNil)))))))))))))) (m2 Sh.gSub (mVar 1) (mC (.int 1)))))
def f_law_days : Fn := fnM ["year", "month", "leap"] m_law_days
def m_compared_to : MS :=
  sSeq (sExpr (mOwn 1 f_check_serial (mCons (mVar 0) (mNil))))
          (sSeq (sExpr (mOwn 1 f_check_serial (mCons (mVar 1) (mNil))))
          (sSeq (sIf (m2 gEq (mVar 0) (mVar 1)) (sRet (mC (.str [115, 97, 109, 101]))) (sSkip))
          (sSeq (sAsg (m2 gMod (m2 Sh.gSub (mVar 0) (mVar 1)) (mC (.int 4294967296))) (gName' 2))
          (sRet (mIf (m2 gEq (mVar 2) (mC (.int 2147483648))) (mC (.str [110, 101, 105, 116, 104, 101, 114])) (mIf (m2 gLt (mVar 2) (mC (.int 2147483648))) (mC (.str [108, 97, 116, 101, 114])) (mC (.str [101, 97, 114, 108, 105, 101, 114]))))))))
def f_compared_to : Fn := fnM ["one", "other", "apart"] m_compared_to
def m_is_later : MS :=
  sRet (m2 gEq (mOwn 2 f_compared_to (mCons (mVar 0) (mCons (mVar 1) (mNil)))) (mC (.str [108, 97, 116, 101, 114])))
def f_is_later : Fn := fnM ["one", "other"] m_is_later
def m_check_day : MS :=
  sIf (mNot (mChain gLe gLe (mC (.int 1)) (mVar 2) (mOwn 2 f_days_in (mCons (mVar 0) (mCons (mVar 1) (mNil)))))) (sRaise "SerialError") (sSkip)
def f_check_day : Fn := fnM ["year", "month", "day"] m_check_day
def m_first_of_day : MS :=
  sSeq (sExpr (mOwn 3 f_check_day (mCons (mVar 0) (mCons (mVar 1) (mCons (mVar 2) (mNil))))))
          (sRet (m2 gMul (m2 gAdd (m2 gMul (m2 gAdd (m2 gMul (mVar 0) (mC (.int 100))) (mVar 1)) (mC (.int 100))) (mVar 2)) (mC (.int 100))))
def f_first_of_day : Fn := fnM ["year", "month", "day"] m_first_of_day
def m_next_by_day : MS :=
  sSeq (sAsg (mOwn 3 f_first_of_day (mCons (mVar 1) (mCons (mVar 2) (mCons (mVar 3) (mNil))))) (gName' 4))
          (sRet (mIf (mOwn 2 f_is_later (mCons (mVar 4) (mCons (mVar 0) (mNil)))) (mVar 4) (mOwn 2 f_added_to (mCons (mVar 0) (mCons (mC (.int 1)) (mNil))))))
def f_next_by_day : Fn := fnM ["serial", "year", "month", "day", "fresh"] m_next_by_day
def m_law_compared : MS :=
  sSeq (sAsg (mIf (m2 gGe (mVar 0) (mVar 1)) (m2 Sh.gSub (mVar 0) (mVar 1)) (m2 gAdd (m2 Sh.gSub (mVar 0) (mVar 1)) (mC (.int 4294967296)))) (gName' 2))
          (sRet (mIf (m2 gEq (mVar 2) (mC (.int 0))) (mC (.str [115, 97, 109, 101])) (mIf (m2 gLt (mVar 2) (mC (.int 2147483648))) (mC (.str [108, 97, 116, 101, 114])) (mIf (m2 gEq (mVar 2) (mC (.int 2147483648))) (mC (.str [110, 101, 105, 116, 104, 101, 114])) (mC (.str [101, 97, 114, 108, 105, 101, 114]))))))
def f_law_compared : Fn := fnM ["one", "other", "way"] m_law_compared
def m_latest_of : MS :=
  sSeq (sIf (m2 gEq (mCall gLen (mCons (mVar 0) (mNil))) (mC (.int 0))) (sRaise "SerialError") (sSkip))
          (sSeq (sFor (mItV (mVar 0)) (gName' 1) (sIf (mGen (mItV (mVar 0)) [2] (gName' 2) (mC (.bl true)) (m2 (gIn false) (mOwn 2 f_compared_to (mCons (mVar 1) (mCons (mVar 2) (mNil)))) (mTup (mCons (mC (.str [115, 97, 109, 101])) (mCons (mC (.str [108, 97, 116, 101, 114])) (mNil))))) ["NameFault", "SerialError"] (stB false) (finB false) ()) (sRet (mVar 1)) (sSkip)))
          (sRet (mC .non)))
def f_latest_of : Fn := fnM ["serials", "one", "other"] m_latest_of
def m_law_serial : MS :=
  sRet (m2 gIx (mLst (mCons (mOwn 2 (f_law_roll 2) (mCons (mVar 0) (mCons (mC (.int 4294967296)) (mNil)))) (mCons (mOwn 2 (f_law_roll 2) (mCons (mVar 0) (mCons (mC (.int 5)) (mNil)))) (mCons (m2 gAdd (mC (.int 2147483646)) (mOwn 2 (f_law_roll 2) (mCons (mVar 0) (mCons (mC (.int 5)) (mNil))))) (mCons (m2 Sh.gSub (mC (.int 4294967295)) (mOwn 2 (f_law_roll 2) (mCons (mVar 0) (mCons (mC (.int 5)) (mNil))))) (mNil)))))) (mOwn 2 (f_law_roll 2) (mCons (mVar 0) (mCons (mC (.int 4)) (mNil)))))
def f_law_serial : Fn := fnM ["dice"] m_law_serial
def m_steps_to : MS :=
  sSeq (sExpr (mOwn 1 f_check_serial (mCons (mVar 1) (mNil))))
          (sSeq (sIf (m2 gEq (mVar 0) (mVar 1)) (sRet (mTup (mNil))) (sSkip))
          (sSeq (sIf (mOwn 2 f_is_later (mCons (mVar 1) (mCons (mVar 0) (mNil)))) (sRet (mTup (mCons (mVar 1) (mNil)))) (sSkip))
          (sSeq (sAsg (mOwn 2 f_added_to (mCons (mVar 0) (mCons (m2 Sh.gSub (mC (.int 2147483648)) (mC (.int 1))) (mNil)))) (gName' 2))
          (sSeq (sIf (mOwn 2 f_is_later (mCons (mVar 1) (mCons (mVar 2) (mNil)))) (sRet (mTup (mCons (mVar 2) (mCons (mVar 1) (mNil))))) (sSkip))
          (sRet (mTup (mCons (mVar 2) (mCons (mOwn 2 f_added_to (mCons (mVar 2) (mCons (m2 Sh.gSub (mC (.int 2147483648)) (mC (.int 1))) (mNil)))) (mCons (mVar 1) (mNil))))))))))
def f_steps_to : Fn := fnM ["old", "new", "first"] m_steps_to
def l_law_plain : List ME := [mOwn 1 f_check_serial (mCons (m1 gNeg (mC (.int 1))) (mNil)),
  mOwn 1 f_check_serial (mCons (mC (.int 4294967296)) (mNil)),
  mOwn 2 f_compared_to (mCons (m1 gNeg (mC (.int 1))) (mCons (mC (.int 0)) (mNil))),
  mOwn 2 f_compared_to (mCons (mC (.int 0)) (mCons (m1 gNeg (mC (.int 1))) (mNil))),
  mOwn 2 f_is_later (mCons (mC (.int 0)) (mCons (m1 gNeg (mC (.int 1))) (mNil))),
  mOwn 2 f_added_to (mCons (mC (.int 0)) (mCons (mC (.int 0)) (mNil))),
  mOwn 2 f_added_to (mCons (mC (.int 0)) (mCons (mC (.int 2147483648)) (mNil))),
  mOwn 2 f_added_to (mCons (m1 gNeg (mC (.int 1))) (mCons (mC (.int 1)) (mNil))),
  mOwn 2 f_days_in (mCons (mC (.int 0)) (mCons (mC (.int 1)) (mNil))),
  mOwn 2 f_days_in (mCons (mC (.int 4295)) (mCons (mC (.int 1)) (mNil))),
  mOwn 2 f_days_in (mCons (mC (.int 1)) (mCons (mC (.int 0)) (mNil))),
  mOwn 2 f_days_in (mCons (mC (.int 1)) (mCons (mC (.int 13)) (mNil))),
  mOwn 3 f_check_day (mCons (mC (.int 2023)) (mCons (mC (.int 2)) (mCons (mC (.int 29)) (mNil)))),
  mOwn 3 f_check_day (mCons (mC (.int 2023)) (mCons (mC (.int 2)) (mCons (mC (.int 0)) (mNil)))),
  mOwn 3 f_first_of_day (mCons (mC (.int 1)) (mCons (mC (.int 1)) (mCons (mC (.int 32)) (mNil)))),
  mOwn 4 f_next_by_day (mCons (m1 gNeg (mC (.int 1))) (mCons (mC (.int 1)) (mCons (mC (.int 1)) (mCons (mC (.int 1)) (mNil))))),
  mOwn 4 f_next_by_day (mCons (mC (.int 1)) (mCons (mC (.int 1)) (mCons (mC (.int 1)) (mCons (mC (.int 32)) (mNil))))),
  mOwn 1 f_told_serial (mCons (m1 gNeg (mC (.int 1))) (mNil)),
  mOwn 2 f_steps_to (mCons (m1 gNeg (mC (.int 1))) (mCons (mC (.int 0)) (mNil))),
  mOwn 2 f_steps_to (mCons (mC (.int 0)) (mCons (m1 gNeg (mC (.int 1))) (mNil))),
  mOwn 1 f_latest_of (mCons (mTup (mNil)) (mNil)),
  mOwn 1 f_latest_of (mCons (mTup (mCons (mC (.int 1)) (mCons (m1 gNeg (mC (.int 1))) (mNil)))) (mNil)),
  mMake "Primary" 3 f_Primary_init (mCons (mC (.int 1)) (mCons (mC (.int 0)) (mNil))),
  mMake "Primary" 3 f_Primary_init (mCons (m1 gNeg (mC (.int 1))) (mCons (mC (.int 1)) (mNil))),
  mMeth "Primary" 2 f_Primary_behind_by (mVar 3) (mCons (m1 gNeg (mC (.int 1))) (mNil)),
  mOwn 5 f_next_look (mCons (mC (.int 0)) (mCons (mC (.int 1)) (mCons (mC (.int 1)) (mCons (mC (.int 0)) (mCons (mTup (mNil)) (mNil)))))),
  mOwn 5 f_next_look (mCons (mC (.int 1)) (mCons (mC (.int 0)) (mCons (mC (.int 1)) (mCons (mC (.int 0)) (mCons (mTup (mNil)) (mNil)))))),
  mOwn 5 f_next_look (mCons (mC (.int 1)) (mCons (mC (.int 1)) (mCons (mC (.int 0)) (mCons (mC (.int 0)) (mCons (mTup (mNil)) (mNil)))))),
  mOwn 5 f_next_look (mCons (mC (.int 1)) (mCons (mC (.int 1)) (mCons (mC (.int 1)) (mCons (mC (.int 5)) (mCons (mTup (mCons (mC (.int 5)) (mNil))) (mNil)))))),
  mOwn 5 f_next_look (mCons (mC (.int 1)) (mCons (mC (.int 1)) (mCons (mC (.int 1)) (mCons (mC (.int 0)) (mCons (mTup (mCons (mC (.int 5)) (mCons (mC (.int 5)) (mNil)))) (mNil))))))]
def m_law_plain : MS :=
  sSeq (sAsg (mMake "Primary" 3 f_Primary_init (mCons (mC (.int 5)) (mCons (mC (.int 2)) (mNil)))) (gName' 3))
          (sSeq (sAsg (mLst (mCons (mOwn 2 f_compared_to (mCons (mC (.int 1)) (mCons (mC (.int 4294967295)) (mNil)))) (mCons (mOwn 2 f_compared_to (mCons (mC (.int 0)) (mCons (mC (.int 2147483648)) (mNil)))) (mCons (mOwn 2 f_is_later (mCons (mC (.int 5)) (mCons (mC (.int 3)) (mNil)))) (mCons (mOwn 2 f_added_to (mCons (mC (.int 4294967295)) (mCons (mC (.int 2)) (mNil)))) (mCons (mOwn 3 f_first_of_day (mCons (mC (.int 2026)) (mCons (mC (.int 11)) (mCons (mC (.int 19)) (mNil))))) (mNil))))))) (gName' 0))
          (sSeq (sAsg (m2 gAdd (mVar 0) (mLst (mCons (mOwn 4 f_next_by_day (mCons (mC (.int 2026111905)) (mCons (mC (.int 2026)) (mCons (mC (.int 11)) (mCons (mC (.int 19)) (mNil)))))) (mCons (mOwn 1 f_told_serial (mCons (mC (.int 2026111905)) (mNil))) (mCons (mOwn 1 f_told_serial (mCons (mC (.int 5)) (mNil))) (mCons (mOwn 2 f_steps_to (mCons (mC (.int 5)) (mCons (mC (.int 3)) (mNil)))) (mCons (mOwn 2 f_steps_to (mCons (mC (.int 3)) (mCons (mC (.int 5)) (mNil)))) (mCons (mOwn 1 f_latest_of (mCons (mTup (mCons (mC (.int 1)) (mCons (mC (.int 5)) (mCons (mC (.int 3)) (mNil))))) (mNil))) (mNil))))))))) (gName' 0))
          (sSeq (sAsg (m2 gAdd (mVar 0) (mLst (mCons (mOwn 5 f_next_look (mCons (mC (.int 60)) (mCons (mC (.int 10)) (mCons (mC (.int 300)) (mCons (mC (.int 0)) (mCons (mTup (mCons (mC (.int 60)) (mCons (mC (.int 70)) (mNil)))) (mNil))))))) (mCons (mOwn 2 f_days_in (mCons (mC (.int 2024)) (mCons (mC (.int 2)) (mNil)))) (mCons (mOwn 1 f_is_leap (mCons (mC (.int 1900)) (mNil))) (mCons (mMeth "Primary" 1 f_Primary_change_once (mVar 3) mNil) (mCons (mMeth "Primary" 1 f_Primary_change_once (mVar 3) mNil) (mCons (mMeth "Primary" 1 f_Primary_tell_now (mVar 3) mNil) (mNil))))))))) (gName' 0))
          (sSeq (sAsg (m2 gAdd (mVar 0) (mLst (mCons (mFld "Primary" 3 (mVar 3)) (mCons (mMeth "Primary" 2 f_Primary_behind_by (mVar 3) (mCons (mC (.int 6)) (mNil))) (mCons (mOwn 1 f_check_serial (mCons (mC (.int 0)) (mNil))) (mCons (mOwn 3 f_check_day (mCons (mC (.int 2024)) (mCons (mC (.int 2)) (mCons (mC (.int 29)) (mNil))))) (mCons (mOwn 2 f_steps_to (mCons (mC (.int 5)) (mCons (mC (.int 5)) (mNil)))) (mCons (mCall gLen (mCons (mOwn 2 f_steps_to (mCons (mC (.int 5)) (mCons (mC (.int 4)) (mNil)))) (mNil))) (mCons (mOwn 1 f_latest_of (mCons (mTup (mCons (mC (.int 0)) (mCons (mC (.int 2147483648)) (mNil)))) (mNil))) (mNil)))))))))) (gName' 0))
          (sSeq (sAsg (m2 gAdd (mVar 0) (mLst (mCons (mMeth "Primary" 2 f_Primary_behind_by (mVar 3) (mCons (mC (.int 99)) (mNil))) (mNil)))) (gName' 0))
          (sSeq (sAsg (mLst (mCons (mLam 0) (mCons (mLam 1) (mCons (mLam 2) (mCons (mLam 3) (mCons (mLam 4) (mNil))))))) (gName' 1))
          (sSeq (sAsg (m2 gAdd (mVar 1) (mLst (mCons (mLam 5) (mCons (mLam 6) (mCons (mLam 7) (mCons (mLam 8) (mCons (mLam 9) (mNil)))))))) (gName' 1))
          (sSeq (sAsg (m2 gAdd (mVar 1) (mLst (mCons (mLam 10) (mCons (mLam 11) (mCons (mLam 12) (mCons (mLam 13) (mNil))))))) (gName' 1))
          (sSeq (sAsg (m2 gAdd (mVar 1) (mLst (mCons (mLam 14) (mCons (mLam 15) (mCons (mLam 16) (mNil)))))) (gName' 1))
          (sSeq (sAsg (m2 gAdd (mVar 1) (mLst (mCons (mLam 17) (mCons (mLam 18) (mCons (mLam 19) (mCons (mLam 20) (mCons (mLam 21) (mNil)))))))) (gName' 1))
          (sSeq (sAsg (m2 gAdd (mVar 1) (mLst (mCons (mLam 22) (mCons (mLam 23) (mCons (mLam 24) (mCons (mLam 25) (mNil))))))) (gName' 1))
          (sSeq (sAsg (m2 gAdd (mVar 1) (mLst (mCons (mLam 26) (mCons (mLam 27) (mCons (mLam 28) (mNil)))))) (gName' 1))
          (sSeq (sAsg (m2 gAdd (mVar 1) (mLst (mCons (mLam 29) (mNil)))) (gName' 1))
          (sSeq (sIf (m2 gNe (mLcZ (mEnum (mCons (mVar 1) (mNil))) [4, 5] (gSeq' 2 (gsCons (gName' 4) (gsCons (gName' 5) (gsNil)))) (fun e44 => m2 gNe (mTellV isa "SerialError" [83, 101, 114, 105, 97, 108, 69, 114, 114, 111, 114] l_law_plain e44 (mVar 5)) (mC (.str [83, 101, 114, 105, 97, 108, 69, 114, 114, 111, 114]))) (fun e44 => mVar 4)) (mLst (mNil))) (sRet (mC (.bl false))) (sSkip))
          (sSeq (sIf (m2 gNe (mTup (mCons (mC (.int 4294967296)) (mCons (mC (.int 2147483648)) (mNil)))) (mTup (mCons (mC (.int 4294967296)) (mCons (mC (.int 2147483648)) (mNil))))) (sRet (mC (.bl false))) (sSkip))
          (sSeq (sAsg (mLst (mCons (mC (.str [108, 97, 116, 101, 114])) (mCons (mC (.str [110, 101, 105, 116, 104, 101, 114])) (mCons (mC (.bl true)) (mCons (mC (.int 1)) (mCons (mC (.int 2026111900)) (mCons (mC (.int 2026111906)) (mCons (mTup (mCons (mC (.int 2026)) (mCons (mC (.int 11)) (mCons (mC (.int 19)) (mCons (mC (.int 5)) (mNil)))))) (mCons (mC .non) (mCons (mTup (mCons (mC (.int 2147483652)) (mCons (mC (.int 3)) (mNil)))) (mCons (mTup (mCons (mC (.int 5)) (mNil))) (mCons (mC (.int 5)) (mCons (mTup (mCons (mC (.int 80)) (mCons (mC (.bl true)) (mNil)))) (mCons (mC (.int 29)) (mCons (mC (.bl false)) (mCons (mC (.bl false)) (mCons (mC (.bl true)) (mCons (mC (.int 7)) (mNil))))))))))))))))))) (gName' 2))
          (sSeq (sAsg (m2 gAdd (mVar 2) (mLst (mCons (mLst (mCons (mC (.int 5)) (mCons (mC (.int 6)) (mCons (mC (.int 7)) (mNil))))) (mCons (mC (.int 1)) (mCons (mC .non) (mCons (mC .non) (mCons (mTup (mNil)) (mCons (mC (.int 3)) (mCons (mC .non) (mCons (mC .non) (mNil))))))))))) (gName' 2))
          (sRet (m2 gEq (mVar 0) (mVar 2))))))))))))))))))))
def f_law_plain : Fn := fnK ["told", "bad", "due", "primary", "k", "f"] m_law_plain
def m_law1 : MS := sFor (mItV (mOwn 2 f_law_rounds (mCons (mVar 0) (mCons (mC (.int 1)) (mNil))))) (gName' 1) (sSeq (sAsg (mTup (mCons (mOwn 1 f_law_serial (mCons (mVar 1) (mNil))) (mCons (mOwn 1 f_law_serial (mCons (mVar 1) (mNil))) (mCons (m2 gAdd (mC (.int 1)) (mOwn 2 (f_law_roll 2) (mCons (mVar 1) (mCons (mC (.int 2147483647)) (mNil))))) (mNil))))) (gSeq' 3 (gsCons (gName' 18) (gsCons (gName' 2) (gsCons (gName' 3) (gsNil))))))
          (sSeq (sIf (m2 gNe (mOwn 2 f_compared_to (mCons (mVar 18) (mCons (mVar 2) (mNil)))) (mOwn 2 f_law_compared (mCons (mVar 18) (mCons (mVar 2) (mNil))))) (sRet (mC (.bl false))) (sSkip))
          (sSeq (sIf (m2 gNe (mOwn 2 f_is_later (mCons (mVar 18) (mCons (mVar 2) (mNil)))) (m2 gEq (mOwn 2 f_law_compared (mCons (mVar 18) (mCons (mVar 2) (mNil)))) (mC (.str [108, 97, 116, 101, 114])))) (sRet (mC (.bl false))) (sSkip))
          (sSeq (sIf (mOr (m2 gNe (mOwn 2 f_added_to (mCons (mVar 18) (mCons (mVar 3) (mNil)))) (m2 gMod (m2 gAdd (mVar 18) (mVar 3)) (mC (.int 4294967296)))) (mNot (mOwn 2 f_is_later (mCons (mOwn 2 f_added_to (mCons (mVar 18) (mCons (mVar 3) (mNil)))) (mCons (mVar 18) (mNil)))))) (sRet (mC (.bl false))) (sSkip))
          (sSeq (sAsg (mCall gList (mCons (mOwn 2 f_steps_to (mCons (mVar 18) (mCons (mVar 2) (mNil)))) (mNil))) (gName' 4))
          (sSeq (sAsg (m2 gAdd (mLst (mCons (mVar 18) (mNil))) (mVar 4)) (gName' 5))
          (sSeq (sAsg (m2 gEq (mLc (mRng2 (mCons (mC (.int 1)) (mCons (mCall gLen (mCons (mVar 5) (mNil))) (mNil)))) [20] (gName' 20) (m2 gNe (mOwn 2 f_law_compared (mCons (m2 gIx (mVar 5) (mVar 20)) (mCons (m2 gIx (mVar 5) (m2 Sh.gSub (mVar 20) (mC (.int 1)))) (mNil)))) (mC (.str [108, 97, 116, 101, 114]))) (mVar 20)) (mLst (mNil))) (gName' 6))
          (sSeq (sAsg (mIf (m2 gEq (mVar 18) (mVar 2)) (mC (.int 0)) (mIf (m2 gEq (mOwn 2 f_law_compared (mCons (mVar 2) (mCons (mVar 18) (mNil)))) (mC (.str [108, 97, 116, 101, 114]))) (mC (.int 1)) (mIf (m2 gEq (mOwn 2 f_law_compared (mCons (mVar 2) (mCons (m2 gMod (m2 gAdd (mVar 18) (mC (.int 2147483647))) (mC (.int 4294967296))) (mNil)))) (mC (.str [108, 97, 116, 101, 114]))) (mC (.int 2)) (mC (.int 3))))) (gName' 7))
          (sSeq (sIf (mOr (mNot (mVar 6)) (mOr (m2 gNe (m2 gIx (mVar 5) (m1 gNeg (mC (.int 1)))) (mVar 2)) (m2 gNe (mCall gLen (mCons (mVar 4) (mNil))) (mVar 7)))) (sRet (mC (.bl false))) (sSkip))
          (sSeq (sAsg (mLc (mRng1 (mCons (m2 gAdd (mC (.int 1)) (mOwn 2 (f_law_roll 2) (mCons (mVar 1) (mCons (mC (.int 4)) (mNil))))) (mNil))) [20] (gName' 20) (mC (.bl true)) (mOwn 1 f_law_serial (mCons (mVar 1) (mNil)))) (gName' 8))
          (sSeq (sAsg (mLc (mItV (mVar 8)) [21] (gName' 21) (m2 gEq (mLc (mItV (mVar 8)) [22] (gName' 22) (m2 (gIn true) (mOwn 2 f_law_compared (mCons (mVar 21) (mCons (mVar 22) (mNil)))) (mLst (mCons (mC (.str [115, 97, 109, 101])) (mCons (mC (.str [108, 97, 116, 101, 114])) (mNil))))) (mVar 22)) (mLst (mNil))) (mVar 21)) (gName' 9))
          (sSeq (sIf (m2 gNe (mOwn 1 f_latest_of (mCons (mVar 8) (mNil))) (mIf (m2 gNe (mVar 9) (mLst (mNil))) (m2 gIx (mVar 9) (mC (.int 0))) (mC .non))) (sRet (mC (.bl false))) (sSkip))
          (sSeq (sAsg (mTup (mCons (m2 gAdd (mC (.int 1)) (mOwn 2 (f_law_roll 2) (mCons (mVar 1) (mCons (mC (.int 4300)) (mNil))))) (mCons (mOwn 2 (f_law_roll 2) (mCons (mVar 1) (mCons (mC (.int 14)) (mNil)))) (mCons (mOwn 2 (f_law_roll 2) (mCons (mVar 1) (mCons (mC (.int 33)) (mNil)))) (mNil))))) (gSeq' 3 (gsCons (gName' 19) (gsCons (gName' 17) (gsCons (gName' 16) (gsNil))))))
          (sSeq (sAsg (mAnd (m2 gLt (mVar 19) (mC (.int 4295))) (mAnd (mChain gLt gLt (mC (.int 0)) (mVar 17) (mC (.int 13))) (mChain gLt gLe (mC (.int 0)) (mVar 16) (mOwn 2 f_law_days (mCons (mVar 19) (mCons (mCall gMax2 (mCons (mC (.int 1)) (mCons (mCall gMin2 (mCons (mC (.int 12)) (mCons (mVar 17) (mNil)))) (mNil)))) (mNil))))))) (gName' 10))
          (sSeq (sAsg (m2 gMul (m2 gAdd (m2 gMul (m2 gAdd (m2 gMul (mVar 19) (mC (.int 100))) (mVar 17)) (mC (.int 100))) (mVar 16)) (mC (.int 100))) (gName' 11))
          (sSeq (sAsg (mAnd (mVar 10) (m2 gLt (mVar 11) (mC (.int 4294967296)))) (gName' 12))
          (sSeq (sIf (m2 gNe (mOwn 1 f_is_leap (mCons (mVar 19) (mNil))) (mOr (m2 gEq (m2 gMod (mVar 19) (mC (.int 400))) (mC (.int 0))) (mAnd (m2 gEq (m2 gMod (mVar 19) (mC (.int 4))) (mC (.int 0))) (m2 gNe (m2 gMod (mVar 19) (mC (.int 100))) (mC (.int 0)))))) (sRet (mC (.bl false))) (sSkip))
          (sSeq (sIf (m2 gNe (m2 gIs (mTell isa "SerialError" [83, 101, 114, 105, 97, 108, 69, 114, 114, 111, 114] (mOwn 3 f_check_day (mCons (mVar 19) (mCons (mVar 17) (mCons (mVar 16) (mNil)))))) (mC .non)) (mVar 10)) (sRet (mC (.bl false))) (sSkip))
          (sSeq (sIf (m2 gNe (mTell isa "SerialError" [83, 101, 114, 105, 97, 108, 69, 114, 114, 111, 114] (mOwn 3 f_first_of_day (mCons (mVar 19) (mCons (mVar 17) (mCons (mVar 16) (mNil)))))) (mIf (mVar 12) (mVar 11) (mC (.str [83, 101, 114, 105, 97, 108, 69, 114, 114, 111, 114])))) (sRet (mC (.bl false))) (sSkip))
          (sSeq (sIf (m2 gNe (mTell isa "SerialError" [83, 101, 114, 105, 97, 108, 69, 114, 114, 111, 114] (mOwn 2 f_days_in (mCons (mVar 19) (mCons (mVar 17) (mNil))))) (mIf (mAnd (m2 gLt (mVar 19) (mC (.int 4295))) (mChain gLt gLt (mC (.int 0)) (mVar 17) (mC (.int 13)))) (mOwn 2 f_law_days (mCons (mVar 19) (mCons (mVar 17) (mNil)))) (mC (.str [83, 101, 114, 105, 97, 108, 69, 114, 114, 111, 114])))) (sRet (mC (.bl false))) (sSkip))
          (sSeq (sIf (m2 gNe (mTell isa "SerialError" [83, 101, 114, 105, 97, 108, 69, 114, 114, 111, 114] (mOwn 4 f_next_by_day (mCons (mVar 18) (mCons (mVar 19) (mCons (mVar 17) (mCons (mVar 16) (mNil))))))) (mIf (mNot (mVar 12)) (mC (.str [83, 101, 114, 105, 97, 108, 69, 114, 114, 111, 114])) (mIf (m2 gEq (mOwn 2 f_law_compared (mCons (mVar 11) (mCons (mVar 18) (mNil)))) (mC (.str [108, 97, 116, 101, 114]))) (mVar 11) (m2 gMod (m2 gAdd (mVar 18) (mC (.int 1))) (mC (.int 4294967296)))))) (sRet (mC (.bl false))) (sSkip))
          (sSeq (sPar2 13 14 (mCons (mOwn 2 (f_law_roll 2) (mCons (mVar 1) (mCons (mC (.int 100)) (mNil)))) (mCons (mTup (mCons (m2 gDiv (mVar 18) (mC (.int 1000000))) (mCons (m2 gMod (m2 gDiv (mVar 18) (mC (.int 10000))) (mC (.int 100))) (mCons (m2 gMod (m2 gDiv (mVar 18) (mC (.int 100))) (mC (.int 100))) (mCons (m2 gMod (mVar 18) (mC (.int 100))) (mNil)))))) (mNil))))
          (sSeq (sAsg (mAnd (mChain gLt gLt (mC (.int 0)) (m2 gIx (mVar 14) (mC (.int 0))) (mC (.int 4295))) (mAnd (mChain gLt gLt (mC (.int 0)) (m2 gIx (mVar 14) (mC (.int 1))) (mC (.int 13))) (mChain gLt gLe (mC (.int 0)) (m2 gIx (mVar 14) (mC (.int 2))) (mOwn 2 f_law_days (mCons (m2 gIx (mVar 14) (mC (.int 0))) (mCons (mCall gMax2 (mCons (mC (.int 1)) (mCons (mCall gMin2 (mCons (mC (.int 12)) (mCons (m2 gIx (mVar 14) (mC (.int 1))) (mNil)))) (mNil)))) (mNil))))))) (gName' 15))
          (sSeq (sIf (m2 gNe (mOwn 1 f_told_serial (mCons (mVar 18) (mNil))) (mIf (mVar 15) (mVar 14) (mC .non))) (sRet (mC (.bl false))) (sSkip))
          (sSeq (sIf (mAnd (mVar 12) (mAnd (m2 gLt (m2 gAdd (mVar 11) (mVar 13)) (mC (.int 4294967296))) (m2 gNe (mOwn 1 f_told_serial (mCons (m2 gAdd (mVar 11) (mVar 13)) (mNil))) (mTup (mCons (mVar 19) (mCons (mVar 17) (mCons (mVar 16) (mCons (mVar 13) (mNil))))))))) (sRet (mC (.bl false))) (sSkip))
          (sIf (mNot (mOwn 2 f_law_counts (mCons (mVar 1) (mCons (mVar 18) (mNil))))) (sRet (mC (.bl false))) (sSkip)))))))))))))))))))))))))))
def m_law2 : MS := sRet (mOwn 0 f_law_plain mNil)
/-! ### what the head tells -/
def d_law_told : He.DefD := ⟨("_law_told", none), "_law_told", "_law_told", defArgs s_law_told, defBody s_law_told, defScope s_law_told, [], []⟩
def d_law : He.DefD := ⟨("law", none), "law", "law", defArgs s_law, defBody s_law, defScope s_law, [], []⟩
def d_law_rounds : He.DefD := ⟨("_law_rounds", none), "_law_rounds", "_law_rounds", defArgs s_law_rounds, defBody s_law_rounds, defScope s_law_rounds, [], []⟩
def d_law_dice : He.DefD := ⟨("_law_dice", none), "_law_dice", "_law_dice", defArgs s_law_dice, defBody s_law_dice, defScope s_law_dice, [], []⟩
def d_law_counts : He.DefD := ⟨("_law_counts", none), "_law_counts", "_law_counts", defArgs s_law_counts, defBody s_law_counts, defScope s_law_counts, [], []⟩
def d_next_look : He.DefD := ⟨("next_look", none), "next_look", "next_look", defArgs s_next_look, defBody s_next_look, defScope s_next_look, [], []⟩
def d_law_roll : He.DefD := ⟨("_law_roll", none), "_law_roll", "_law_roll", defArgs s_law_roll, defBody s_law_roll, defScope s_law_roll, [], []⟩
def d_Primary_behind_by : He.DefD := ⟨("Primary", some "behind_by"), "behind_by", "Primary.behind_by", defArgs s_Primary_behind_by, defBody s_Primary_behind_by, defScope s_Primary_behind_by, [], []⟩
def d_check_serial : He.DefD := ⟨("check_serial", none), "check_serial", "check_serial", defArgs s_check_serial, defBody s_check_serial, defScope s_check_serial, [], []⟩
def d_Primary_change_once : He.DefD := ⟨("Primary", some "change_once"), "change_once", "Primary.change_once", defArgs s_Primary_change_once, defBody s_Primary_change_once, defScope s_Primary_change_once, [], []⟩
def d_Primary_tell_now : He.DefD := ⟨("Primary", some "tell_now"), "tell_now", "Primary.tell_now", defArgs s_Primary_tell_now, defBody s_Primary_tell_now, defScope s_Primary_tell_now, [], []⟩
def d_added_to : He.DefD := ⟨("added_to", none), "added_to", "added_to", defArgs s_added_to, defBody s_added_to, defScope s_added_to, [], []⟩
def d_Primary_init : He.DefD := ⟨("Primary", some "__init__"), "__init__", "Primary.__init__", defArgs s_Primary_init, defBody s_Primary_init, defScope s_Primary_init, [], []⟩
def d_told_serial : He.DefD := ⟨("told_serial", none), "told_serial", "told_serial", defArgs s_told_serial, defBody s_told_serial, defScope s_told_serial, [], []⟩
def d_days_in : He.DefD := ⟨("days_in", none), "days_in", "days_in", defArgs s_days_in, defBody s_days_in, defScope s_days_in, [], []⟩
def d_is_leap : He.DefD := ⟨("is_leap", none), "is_leap", "is_leap", defArgs s_is_leap, defBody s_is_leap, defScope s_is_leap, [], []⟩
def d_law_days : He.DefD := ⟨("_law_days", none), "_law_days", "_law_days", defArgs s_law_days, defBody s_law_days, defScope s_law_days, [], []⟩
def d_next_by_day : He.DefD := ⟨("next_by_day", none), "next_by_day", "next_by_day", defArgs s_next_by_day, defBody s_next_by_day, defScope s_next_by_day, [], []⟩
def d_is_later : He.DefD := ⟨("is_later", none), "is_later", "is_later", defArgs s_is_later, defBody s_is_later, defScope s_is_later, [], []⟩
def d_compared_to : He.DefD := ⟨("compared_to", none), "compared_to", "compared_to", defArgs s_compared_to, defBody s_compared_to, defScope s_compared_to, [], []⟩
def d_first_of_day : He.DefD := ⟨("first_of_day", none), "first_of_day", "first_of_day", defArgs s_first_of_day, defBody s_first_of_day, defScope s_first_of_day, [], []⟩
def d_check_day : He.DefD := ⟨("check_day", none), "check_day", "check_day", defArgs s_check_day, defBody s_check_day, defScope s_check_day, [], []⟩
def d_law_compared : He.DefD := ⟨("_law_compared", none), "_law_compared", "_law_compared", defArgs s_law_compared, defBody s_law_compared, defScope s_law_compared, [], []⟩
def d_latest_of : He.DefD := ⟨("latest_of", none), "latest_of", "latest_of", defArgs s_latest_of, defBody s_latest_of, defScope s_latest_of, [], []⟩
def d_law_serial : He.DefD := ⟨("_law_serial", none), "_law_serial", "_law_serial", defArgs s_law_serial, defBody s_law_serial, defScope s_law_serial, [], []⟩
def d_steps_to : He.DefD := ⟨("steps_to", none), "steps_to", "steps_to", defArgs s_steps_to, defBody s_steps_to, defScope s_steps_to, [], []⟩
def d_law_plain : He.DefD := ⟨("_law_plain", none), "_law_plain", "_law_plain", defArgs s_law_plain, defBody s_law_plain, defScope s_law_plain, [], []⟩
def fn : List He.DefD := [d_law_told, d_law, d_law_rounds, d_law_dice, d_law_counts, d_next_look, d_law_roll, d_Primary_behind_by, d_check_serial, d_Primary_change_once, d_Primary_tell_now, d_added_to, d_Primary_init, d_told_serial, d_days_in, d_is_leap, d_law_days, d_next_by_day, d_is_later, d_compared_to, d_first_of_day, d_check_day, d_law_compared, d_latest_of, d_law_serial, d_steps_to, d_law_plain]
def fa : List He.Fa := [.free "int", .free "abs", .glo "_law_dice", .glo "_law_rounds", .free "len", .free "min", .free "any", .free "zip", .free "list", .exc "SerialError", .glo "SerialError", .glo "next_look", .free "range", .glo "_law_roll", .free "enumerate", .int "ROUND" 4294967296, .glo "check_serial", .meth "Primary" "behind_by", .int "HALF_ROUND" 2147483648, .glo "added_to", .meth "Primary" "tell_now", .meth "Primary" "change_once", .mkr "Primary", .glo "Primary", .glo "_law_counts", .glo "is_leap", .glo "days_in", .glo "told_serial", .free "max", .glo "_law_days", .exm "NameFault" "SerialError" false, .exm "SerialError" "SerialError" true, .glo "compared_to", .glo "is_later", .glo "check_day", .glo "first_of_day", .glo "next_by_day", .glo "_law_told", .glo "_law_compared", .free "all", .glo "latest_of", .glo "_law_serial", .glo "steps_to", .glo "_law_plain", .cls "Primary", .noat "Primary" "serial", .noat "Primary" "each", .noat "Primary" "waiting", .noat "Primary" "had", .glo "law"]
def tn : TnL := [(("next_look", none), nmOf "next_look.<locals>." []), (("law", none), nmOf "law.<locals>." [(235, 22), (237, 21), (239, 21), (241, 21)]), (("latest_of", none), nmOf "latest_of.<locals>." []), (("_law_plain", none), nmOf "_law_plain.<locals>." [(166, 0), (167, 0), (168, 0), (169, 0), (170, 0), (172, 0), (173, 0), (174, 0), (175, 0), (176, 0), (178, 0), (179, 0), (180, 0), (181, 0), (183, 0), (184, 0), (185, 0), (187, 0), (188, 0), (189, 0), (190, 0), (191, 0), (193, 0), (194, 0), (195, 0), (196, 0), (198, 0), (199, 0), (200, 0), (202, 0)])]
def xs : List String := ["NameFault", "SerialError"]
def lay : String → List Str := fun C => if C = "Primary" then ["serial", "each", "waiting", "had"] else []
abbrev ZZ (G : Gx) (w : World) (mg : Str → Option Value) (h base : Heap) : Prop := Zx fa fn tn xs lay G w mg h base
section
variable {P : Program} {w : World} {G : Gx} {mg : Str → Option Value} {h base : Heap}
theorem kc_Primary (Z : ZZ G w mg h base) : KC G "Primary" := Z.kc 44 rfl (by decide +kernel) (by decide +kernel) (n0 := 45) rfl
theorem ns_ok (Z : ZZ G w mg h base) : NoStp G.K ["NameFault", "SerialError"] := Z.ns
theorem isa_ok (Z : ZZ G w mg h base) : IsaOk G isa := Z.io fun c d b e => by
  unfold isa at e
  repeat
    split at e
    · rename_i z; obtain ⟨rfl, rfl⟩ := z; exact e
  cases e
theorem told (Z : ZZ G w mg h base) : Told G mg "_law_told" "what" "SerialError" [83, 101, 114, 105, 97, 108, 69, 114, 114, 111, 114] ["what"] (defScope s_law_told) (He.fAd G.K ("_law_told", none)) := by
  obtain ⟨fd, F⟩ := Z.def_ 0 (d := d_law_told) rfl
  exact ⟨⟨fd, _, _, _, _, _, _, _, _, _, _, _, _, F, rfl, rfl, Z.glo 10 rfl, rfl, fun _ _ _ _ _ _ us hl => match us, hl with | [_], _ => rfl⟩, ⟨rfl, rfl, rfl, by decide +kernel, rfl, by decide +kernel, by decide +kernel⟩, .inl rfl, rfl, rfl⟩
theorem sc_law_dice : FnScope ["cell"] ["cell"] (defScope s_law_dice) := ⟨rfl, rfl, rfl, by decide +kernel, rfl, by decide +kernel, by decide +kernel⟩
theorem k_law_dice (Z : ZZ G w mg h base) : Kn G P w mg base 1 (He.fAd G.K ("_law_dice", none)) 1 f_law_dice := by
  obtain ⟨fd, F⟩ := Z.def_ 3 (d := d_law_dice) rfl
  exact kn_of (k := 0) (ps := ["cell"]) F sc_law_dice (fun _ _ _ _ _ _ us hl => match us, hl with | [_], _ => rfl) rfl fun cdv A outer s H E ecd Cs =>
          sb_cons (ss_if (c_ch p_lt p_lt (e_sub (se_int) (se_int)) (se_var 0 (pv 0)) (se_int)) (sb_one (ss_ret (se_lst (sa_cons (e_abs Cs.toCan (Z.free 1 rfl) rfl (sa_cons (se_var 0 (pv 0)) (sa_nil))) (sa_cons (se_int) (sa_cons (se_int) (sa_nil))))))) (sb_nil))
          (sb_one (ss_ret (se_lst (sa_cons (se_var 0 (pv 0)) (sa_cons (e_add Cs.toCan (se_int) (e_mod (e_int Cs.toCan (Z.free 0 rfl) rfl (sa_cons (se_var 0 (pv 0)) (sa_nil))) (se_int))) (sa_cons (e_int Cs.toCan (Z.free 0 rfl) rfl (sa_cons (e_ge (se_var 0 (pv 0)) (e_pow (se_int) (se_int))) (sa_nil))) (sa_nil)))))))
theorem sc_law_rounds : FnScope ["script", "most", "cells", "cell"] ["script", "most"] (defScope s_law_rounds) := ⟨rfl, rfl, rfl, by decide +kernel, rfl, by decide +kernel, by decide +kernel⟩
theorem k_law_rounds (Z : ZZ G w mg h base) : Kn G P w mg base 2 (He.fAd G.K ("_law_rounds", none)) 2 f_law_rounds := by
  obtain ⟨fd, F⟩ := Z.def_ 2 (d := d_law_rounds) rfl
  exact kn_of (k := 1) (ps := ["script", "most"]) F sc_law_rounds (fun _ _ _ _ _ _ us hl => match us, hl with | [_, _], _ => rfl) rfl fun cdv A outer s H E ecd Cs =>
          sb_cons (ss_asg (se_slice Cs.toCan.hK (se_var 0 (pv 0)) (so_none) (so_some (se_var 1 (pv 1)))) (t_nm 2 Cs.toCan))
          (sb_cons (ss_if (c_eq Cs.toCan (se_var 2 (pv 2)) (se_lst (sa_nil))) (sb_one (ss_asg (se_lst (sa_cons (se_int) (sa_nil))) (t_nm 2 Cs.toCan))) (sb_nil))
          (sb_one (ss_ret (se_lc (own := [("cell", 3)]) Cs.toCan (si_val Cs.toCan.hK (se_var 2 (pv 2))) (blkOk_by rfl) (fun _ _ _ _ _ _ _ C1 => ⟨t_nm 3 C1, sq_nil, se_call C1 ((k_law_dice Z).mono (by omega)) rfl (Z.glo 2 rfl) (sa_cons (se_var 3 (pv 3)) (sa_nil))⟩)))))
theorem sc_next_look : FnScope ["refresh", "retry", "expire", "last_good", "looks", "when", "one", "two"] ["refresh", "retry", "expire", "last_good", "looks"] (defScope s_next_look) := ⟨rfl, rfl, rfl, by decide +kernel, rfl, by decide +kernel, by decide +kernel⟩
theorem k_next_look (Z : ZZ G w mg h base) : Kn G P w mg base 4 (He.fAd G.K ("next_look", none)) 5 f_next_look := by
  obtain ⟨fd, F⟩ := Z.def_ 5 (d := d_next_look) rfl
  exact kn_of (k := 3) (ps := ["refresh", "retry", "expire", "last_good", "looks"]) F sc_next_look (fun _ _ _ _ _ _ us hl => match us, hl with | [_, _, _, _, _], _ => rfl) rfl fun cdv A outer s H E ecd Cs =>
          sb_cons (ss_if (sc_w (sw_or (c_lt (e_min3 Cs.toCan (Z.free 5 rfl) rfl (sa_cons (se_var 0 (pv 0)) (sa_cons (se_var 1 (pv 1)) (sa_cons (se_var 2 (pv 2)) (sa_nil))))) (se_int)) (sw_or1 (sc_val (se_any (own := [("one", 6), ("two", 7)]) (cs := ["NameFault", "SerialError"]) Cs.toCan (si_zip Cs.toCan.hK rfl (Z.free 7 rfl) (sa_cons (e_add Cs.toCan (se_lst (sa_cons (se_var 3 (pv 3)) (sa_nil))) (e_list Cs.toCan (Z.free 8 rfl) rfl (sa_cons (se_var 4 (pv 4)) (sa_nil)))) (sa_cons (se_var 4 (pv 4)) (sa_nil)))) ⟨⟨_, _, _, (Z.ct 0 ecd rfl), rfl⟩, ns_ok Z, blkOk_by rfl, by decide +kernel, rfl, rfl, (fun _ _ _ _ _ _ _ _ _ C2 => ⟨sg_seq C2 (sgs_cons (t_nm 6 C2) (sgs_cons (t_nm 7 C2) (sgs_nil))), sq_nil, e_le (se_var 7 (pv 7)) (se_var 6 (pv 6))⟩), fun _ => rfl⟩ rfl (Z.free 6 rfl)))))) (sb_one (ss_raise Cs (Z.kx 9 rfl) rfl (Z.glo 10 rfl))) (sb_nil))
          (sb_cons (ss_asg (se_if (c_gt (e_len Cs.toCan (Z.free 4 rfl) rfl (sa_cons (se_var 4 (pv 4)) (sa_nil))) (se_int)) (e_add Cs.toCan (se_ix Cs.toCan.hK (se_var 4 (pv 4)) (e_neg (se_int))) (se_var 1 (pv 1))) (e_add Cs.toCan (se_var 3 (pv 3)) (se_var 0 (pv 0)))) (t_nm 5 Cs.toCan))
          (sb_one (ss_ret (se_tup (sa_cons (se_var 5 (pv 5)) (sa_cons (e_lt (se_var 5 (pv 5)) (e_add Cs.toCan (se_var 3 (pv 3)) (se_var 2 (pv 2)))) (sa_nil)))))))
theorem sc_law_roll : FnScope ["dice", "many", "found"] ["dice", "many"] (defScope s_law_roll) := ⟨rfl, rfl, rfl, by decide +kernel, rfl, by decide +kernel, by decide +kernel⟩
theorem k_law_roll (Z : ZZ G w mg h base) : ∀ n : Nat, Kn G P w mg base (n + 1) (He.fAd G.K ("_law_roll", none)) 2 (f_law_roll n)
  | 0 => by
    obtain ⟨fd, F⟩ := Z.def_ 6 (d := d_law_roll) rfl
    exact kn_bad (k := 0) (ps := ["dice", "many"]) F sc_law_roll (fun _ _ _ _ _ _ us hl => match us, hl with | [_, _], _ => rfl)
  | n + 1 => by
    have ih := k_law_roll Z n
    obtain ⟨fd, F⟩ := Z.def_ 6 (d := d_law_roll) rfl
    exact kn_of (k := n + 1) (ps := ["dice", "many"]) F sc_law_roll (fun _ _ _ _ _ _ us hl => match us, hl with | [_, _], _ => rfl) rfl fun cdv A outer s H E ecd Cs =>
          sb_cons (ss_if (sc_w (sw_or (c_eq Cs.toCan (se_ix Cs.toCan.hK (se_var 0 (pv 0)) (se_int)) (se_int)) (sw_or1 (sc_w (sw_and (c_eq Cs.toCan (se_ix Cs.toCan.hK (se_var 0 (pv 0)) (se_int)) (se_int)) (sw_and1 (c_gt (se_ix Cs.toCan.hK (se_var 0 (pv 0)) (se_int)) (se_int)))))))) (sb_cons (ss_asg (e_mod (e_int Cs.toCan (Z.free 0 rfl) rfl (sa_cons (se_ix Cs.toCan.hK (se_var 0 (pv 0)) (se_int)) (sa_nil))) (se_var 1 (pv 1))) (t_nm 2 Cs.toCan))
          (sb_cons (ss_asg (e_div (se_ix Cs.toCan.hK (se_var 0 (pv 0)) (se_int)) (se_var 1 (pv 1))) (t_sub (se_var 0 (pv 0)) (se_int)))
          (sb_one (ss_ret (se_var 2 (pv 2)))))) (sb_nil))
          (sb_cons (ss_asg (se_int) (t_sub (se_var 0 (pv 0)) (se_int)))
          (sb_cons (ss_if (c_gt (se_var 1 (pv 1)) (se_int)) (sb_one (ss_ret (e_mod (e_int Cs.toCan (Z.free 0 rfl) rfl (sa_cons (e_add Cs.toCan (e_mul (se_call Cs.toCan (ih) rfl (Z.glo 13 rfl) (sa_cons (se_var 0 (pv 0)) (sa_cons (e_add Cs.toCan (e_div (se_var 1 (pv 1)) (se_int)) (se_int)) (sa_nil)))) (se_int)) (se_call Cs.toCan (ih) rfl (Z.glo 13 rfl) (sa_cons (se_var 0 (pv 0)) (sa_cons (se_int) (sa_nil))))) (sa_nil))) (se_var 1 (pv 1))))) (sb_nil))
          (sb_cons (ss_asg (e_mod (e_int Cs.toCan (Z.free 0 rfl) rfl (sa_cons (e_add Cs.toCan (e_add Cs.toCan (e_mul (se_ix Cs.toCan.hK (se_var 0 (pv 0)) (se_int)) (se_int)) (e_mul (se_ix Cs.toCan.hK (se_var 0 (pv 0)) (se_int)) (se_int))) (se_int)) (sa_nil))) (se_int)) (t_sub (se_var 0 (pv 0)) (se_int)))
          (sb_cons (ss_asg (e_add Cs.toCan (se_ix Cs.toCan.hK (se_var 0 (pv 0)) (se_int)) (se_int)) (t_sub (se_var 0 (pv 0)) (se_int)))
          (sb_one (ss_ret (e_mod (e_int Cs.toCan (Z.free 0 rfl) rfl (sa_cons (e_div (se_ix Cs.toCan.hK (se_var 0 (pv 0)) (se_int)) (se_int)) (sa_nil))) (se_var 1 (pv 1)))))))))
theorem sc_check_serial : FnScope ["serial"] ["serial"] (defScope s_check_serial) := ⟨rfl, rfl, rfl, by decide +kernel, rfl, by decide +kernel, by decide +kernel⟩
theorem k_check_serial (Z : ZZ G w mg h base) : Kn G P w mg base 1 (He.fAd G.K ("check_serial", none)) 1 f_check_serial := by
  obtain ⟨fd, F⟩ := Z.def_ 8 (d := d_check_serial) rfl
  exact kn_of (k := 0) (ps := ["serial"]) F sc_check_serial (fun _ _ _ _ _ _ us hl => match us, hl with | [_], _ => rfl) rfl fun cdv A outer s H E ecd Cs =>
          sb_one (ss_if (sc_not (c_ch p_le p_lt (se_int) (se_var 0 (pv 0)) (se_gi (Z.int 15 rfl) rfl))) (sb_one (ss_raise Cs (Z.kx 9 rfl) rfl (Z.glo 10 rfl))) (sb_nil))
theorem sc_Primary_behind_by : FnScope ["self", "serial", "places", "place", "one"] ["self", "serial"] (defScope s_Primary_behind_by) := ⟨rfl, rfl, rfl, by decide +kernel, rfl, by decide +kernel, by decide +kernel⟩
theorem k_Primary_behind_by (Z : ZZ G w mg h base) : Kn G P w mg base 2 (He.fAd G.K ("Primary", some "behind_by")) 2 f_Primary_behind_by := by
  obtain ⟨fd, F⟩ := Z.def_ 7 (d := d_Primary_behind_by) rfl
  exact kn_of (k := 1) (ps := ["self", "serial"]) F sc_Primary_behind_by (fun _ _ _ _ _ _ us hl => match us, hl with | [_, _], _ => rfl) rfl fun cdv A outer s H E ecd Cs =>
          sb_cons (ss_expr (se_call Cs.toCan ((k_check_serial Z).mono (by omega)) rfl (Z.glo 16 rfl) (sa_cons (se_var 1 (pv 1)) (sa_nil))))
          (sb_cons (ss_setLc (i := 2) (own := [("place", 3), ("one", 4)]) Cs.toCan rfl rfl rfl (si_enum Cs.toCan.hK rfl (Z.free 14 rfl) (sa_cons (se_fld Cs.toCan.hK (kc_Primary Z) (Z.hf rfl) (se_var 0 (pv 0))) (sa_nil))) (blkOk_by rfl) (fun _ _ _ _ _ _ _ C4 => ⟨sg_seq C4 (sgs_cons (t_nm 3 C4) (sgs_cons (t_nm 4 C4) (sgs_nil))), sq_one (c_eq C4 (se_var 4 (pv 4)) (se_var 1 (pv 1))), se_var 3 (pv 3)⟩))
          (sb_one (ss_ret (se_if (c_ne Cs.toCan (se_var 2 (pv 2)) (se_lst (sa_nil))) (e_sub (e_sub (e_len Cs.toCan (Z.free 4 rfl) rfl (sa_cons (se_fld Cs.toCan.hK (kc_Primary Z) (Z.hf rfl) (se_var 0 (pv 0))) (sa_nil))) (se_int)) (se_ix Cs.toCan.hK (se_var 2 (pv 2)) (e_neg (se_int)))) (se_non)))))
theorem sc_added_to : FnScope ["serial", "many"] ["serial", "many"] (defScope s_added_to) := ⟨rfl, rfl, rfl, by decide +kernel, rfl, by decide +kernel, by decide +kernel⟩
theorem k_added_to (Z : ZZ G w mg h base) : Kn G P w mg base 2 (He.fAd G.K ("added_to", none)) 2 f_added_to := by
  obtain ⟨fd, F⟩ := Z.def_ 11 (d := d_added_to) rfl
  exact kn_of (k := 1) (ps := ["serial", "many"]) F sc_added_to (fun _ _ _ _ _ _ us hl => match us, hl with | [_, _], _ => rfl) rfl fun cdv A outer s H E ecd Cs =>
          sb_cons (ss_expr (se_call Cs.toCan ((k_check_serial Z).mono (by omega)) rfl (Z.glo 16 rfl) (sa_cons (se_var 0 (pv 0)) (sa_nil))))
          (sb_cons (ss_if (sc_not (c_ch p_le p_lt (se_int) (se_var 1 (pv 1)) (se_gi (Z.int 18 rfl) rfl))) (sb_one (ss_raise Cs (Z.kx 9 rfl) rfl (Z.glo 10 rfl))) (sb_nil))
          (sb_one (ss_ret (e_mod (e_add Cs.toCan (se_var 0 (pv 0)) (se_var 1 (pv 1))) (se_gi (Z.int 15 rfl) rfl)))))
theorem sc_Primary_tell_now : FnScope ["self"] ["self"] (defScope s_Primary_tell_now) := ⟨rfl, rfl, rfl, by decide +kernel, rfl, by decide +kernel, by decide +kernel⟩
theorem k_Primary_tell_now (Z : ZZ G w mg h base) : Kn G P w mg base 3 (He.fAd G.K ("Primary", some "tell_now")) 1 f_Primary_tell_now := by
  obtain ⟨fd, F⟩ := Z.def_ 10 (d := d_Primary_tell_now) rfl
  exact kn_of (k := 2) (ps := ["self"]) F sc_Primary_tell_now (fun _ _ _ _ _ _ us hl => match us, hl with | [_], _ => rfl) rfl fun cdv A outer s H E ecd Cs =>
          sb_cons (ss_fld Cs.toCan.hK (kc_Primary Z) (Z.hf rfl) (se_var 0 (pv 0)) (se_call Cs.toCan ((k_added_to Z).mono (by omega)) rfl (Z.glo 19 rfl) (sa_cons (se_fld Cs.toCan.hK (kc_Primary Z) (Z.hf rfl) (se_var 0 (pv 0))) (sa_cons (se_int) (sa_nil)))))
          (sb_cons (ss_fld Cs.toCan.hK (kc_Primary Z) (Z.hf rfl) (se_var 0 (pv 0)) (se_int))
          (sb_cons (ss_expr (e_append Cs.toCan (se_fld Cs.toCan.hK (kc_Primary Z) (Z.hf rfl) (se_var 0 (pv 0))) (sa_cons (se_fld Cs.toCan.hK (kc_Primary Z) (Z.hf rfl) (se_var 0 (pv 0))) (sa_nil))))
          (sb_one (ss_ret (se_fld Cs.toCan.hK (kc_Primary Z) (Z.hf rfl) (se_var 0 (pv 0)))))))
theorem sc_Primary_change_once : FnScope ["self"] ["self"] (defScope s_Primary_change_once) := ⟨rfl, rfl, rfl, by decide +kernel, rfl, by decide +kernel, by decide +kernel⟩
theorem k_Primary_change_once (Z : ZZ G w mg h base) : Kn G P w mg base 4 (He.fAd G.K ("Primary", some "change_once")) 1 f_Primary_change_once := by
  obtain ⟨fd, F⟩ := Z.def_ 9 (d := d_Primary_change_once) rfl
  exact kn_of (k := 3) (ps := ["self"]) F sc_Primary_change_once (fun _ _ _ _ _ _ us hl => match us, hl with | [_], _ => rfl) rfl fun cdv A outer s H E ecd Cs =>
          sb_cons (s_iaddF Cs.toCan (kc_Primary Z) (Z.hf rfl) (se_var 0 (pv 0)) (se_int))
          (sb_cons (ss_if (c_lt (se_fld Cs.toCan.hK (kc_Primary Z) (Z.hf rfl) (se_var 0 (pv 0))) (se_fld Cs.toCan.hK (kc_Primary Z) (Z.hf rfl) (se_var 0 (pv 0)))) (sb_one (ss_ret (se_bl))) (sb_nil))
          (sb_cons (ss_expr (se_meth0 Cs.toCan (kc_Primary Z) (Z.meth 20 rfl) (Z.hno (by decide)) ((k_Primary_tell_now Z).mono (by omega)) (se_var 0 (pv 0))))
          (sb_one (ss_ret (se_bl)))))
theorem sc_Primary_init : FnScope ["self", "serial", "each"] ["self", "serial", "each"] (defScope s_Primary_init) := ⟨rfl, rfl, rfl, by decide +kernel, rfl, by decide +kernel, by decide +kernel⟩
theorem k_Primary_init (Z : ZZ G w mg h base) : Kn G P w mg base 2 (He.fAd G.K ("Primary", some "__init__")) 3 f_Primary_init := by
  obtain ⟨fd, F⟩ := Z.def_ 12 (d := d_Primary_init) rfl
  exact kn_of (k := 1) (ps := ["self", "serial", "each"]) F sc_Primary_init (fun _ _ _ _ _ _ us hl => match us, hl with | [_, _, _], _ => rfl) rfl fun cdv A outer s H E ecd Cs =>
          sb_cons (ss_expr (se_call Cs.toCan ((k_check_serial Z).mono (by omega)) rfl (Z.glo 16 rfl) (sa_cons (se_var 1 (pv 1)) (sa_nil))))
          (sb_cons (ss_if (c_lt (se_var 2 (pv 2)) (se_int)) (sb_one (ss_raise Cs (Z.kx 9 rfl) rfl (Z.glo 10 rfl))) (sb_nil))
          (sb_cons (ss_fld Cs.toCan.hK (kc_Primary Z) (Z.hf rfl) (se_var 0 (pv 0)) (se_var 1 (pv 1)))
          (sb_cons (ss_fld Cs.toCan.hK (kc_Primary Z) (Z.hf rfl) (se_var 0 (pv 0)) (se_var 2 (pv 2)))
          (sb_cons (ss_fld Cs.toCan.hK (kc_Primary Z) (Z.hf rfl) (se_var 0 (pv 0)) (se_int))
          (sb_one (ss_fld Cs.toCan.hK (kc_Primary Z) (Z.hf rfl) (se_var 0 (pv 0)) (se_lst (sa_cons (se_var 1 (pv 1)) (sa_nil)))))))))
theorem sc_law_counts : FnScope ["dice", "serial", "each", "had", "waiting", "primary", "step", "notes", "due", "told", "asked", "k", "refresh", "retry", "expire", "last", "looks", "time", "when"] ["dice", "serial"] (defScope s_law_counts) := ⟨rfl, rfl, rfl, by decide +kernel, rfl, by decide +kernel, by decide +kernel⟩
theorem k_law_counts (Z : ZZ G w mg h base) : Kn G P w mg base 5 (He.fAd G.K ("_law_counts", none)) 2 f_law_counts := by
  obtain ⟨fd, F⟩ := Z.def_ 4 (d := d_law_counts) rfl
  exact kn_of (k := 4) (ps := ["dice", "serial"]) F sc_law_counts (fun _ _ _ _ _ _ us hl => match us, hl with | [_, _], _ => rfl) rfl fun cdv A outer s H E ecd Cs =>
          sb_cons (ss_par3 (i := 2) (j := 3) (l := 4) Cs.toCan rfl rfl rfl (by decide) (by decide) (by decide) rfl rfl rfl (sa_cons (e_add Cs.toCan (se_int) (se_call Cs.toCan ((k_law_roll Z 2).mono (by omega)) rfl (Z.glo 13 rfl) (sa_cons (se_var 0 (pv 0)) (sa_cons (se_int) (sa_nil))))) (sa_cons (se_lst (sa_cons (se_var 1 (pv 1)) (sa_nil))) (sa_cons (se_int) (sa_nil)))) rfl)
          (sb_cons (ss_asg (se_make Cs.toCan (Z.mkr 22 rfl) ((k_Primary_init Z).mono (by omega)) rfl (Z.glo 23 rfl) (sa_cons (se_var 1 (pv 1)) (sa_cons (se_var 2 (pv 2)) (sa_nil)))) (t_nm 5 Cs.toCan))
          (sb_cons (ss_for Cs (si_range1 rfl (Z.free 12 rfl) (sa_cons (se_call Cs.toCan ((k_law_roll Z 2).mono (by omega)) rfl (Z.glo 13 rfl) (sa_cons (se_var 0 (pv 0)) (sa_cons (se_int) (sa_nil)))) (sa_nil))) (t_nm 6 Cs.toCan) (sb_cons (ss_asg (e_gt (se_call Cs.toCan ((k_law_roll Z 2).mono (by omega)) rfl (Z.glo 13 rfl) (sa_cons (se_var 0 (pv 0)) (sa_cons (se_int) (sa_nil)))) (se_int)) (t_nm 7 Cs.toCan))
          (sb_cons (ss_asg (se_if (sc_val (se_var 7 (pv 7))) (e_add Cs.toCan (se_var 4 (pv 4)) (se_int)) (se_var 2 (pv 2))) (t_nm 4 Cs.toCan))
          (sb_cons (ss_asg (e_ge (se_var 4 (pv 4)) (se_var 2 (pv 2))) (t_nm 8 Cs.toCan))
          (sb_cons (ss_asg (e_add Cs.toCan (se_var 3 (pv 3)) (e_mul (se_lst (sa_cons (e_mod (e_add Cs.toCan (se_ix Cs.toCan.hK (se_var 3 (pv 3)) (e_neg (se_int))) (se_int)) (se_int)) (sa_nil))) (e_int Cs.toCan (Z.free 0 rfl) rfl (sa_cons (se_var 8 (pv 8)) (sa_nil))))) (t_nm 3 Cs.toCan))
          (sb_cons (ss_asg (se_if (sc_val (se_var 8 (pv 8))) (se_int) (se_var 4 (pv 4))) (t_nm 4 Cs.toCan))
          (sb_cons (ss_asg (se_if (sc_val (se_var 7 (pv 7))) (se_meth0 Cs.toCan (kc_Primary Z) (Z.meth 21 rfl) (Z.hno (by decide)) ((k_Primary_change_once Z).mono (by omega)) (se_var 5 (pv 5))) (se_meth0 Cs.toCan (kc_Primary Z) (Z.meth 20 rfl) (Z.hno (by decide)) ((k_Primary_tell_now Z).mono (by omega)) (se_var 5 (pv 5)))) (t_nm 9 Cs.toCan))
          (sb_cons (ss_if (c_ne Cs.toCan (se_var 9 (pv 9)) (se_if (sc_val (se_var 7 (pv 7))) (se_var 8 (pv 8)) (se_ix Cs.toCan.hK (se_var 3 (pv 3)) (e_neg (se_int))))) (sb_one (ss_ret (se_bl))) (sb_nil))
          (sb_one (ss_if (c_ne Cs.toCan (se_tup (sa_cons (se_fld Cs.toCan.hK (kc_Primary Z) (Z.hf rfl) (se_var 5 (pv 5))) (sa_cons (se_fld Cs.toCan.hK (kc_Primary Z) (Z.hf rfl) (se_var 5 (pv 5))) (sa_cons (se_fld Cs.toCan.hK (kc_Primary Z) (Z.hf rfl) (se_var 5 (pv 5))) (sa_nil))))) (se_tup (sa_cons (se_ix Cs.toCan.hK (se_var 3 (pv 3)) (e_neg (se_int))) (sa_cons (se_var 4 (pv 4)) (sa_cons (se_var 3 (pv 3)) (sa_nil)))))) (sb_one (ss_ret (se_bl))) (sb_nil)))))))))))
          (sb_cons (ss_asg (se_ix Cs.toCan.hK (se_lst (sa_cons (se_ix Cs.toCan.hK (se_var 3 (pv 3)) (se_call Cs.toCan ((k_law_roll Z 2).mono (by omega)) rfl (Z.glo 13 rfl) (sa_cons (se_var 0 (pv 0)) (sa_cons (e_len Cs.toCan (Z.free 4 rfl) rfl (sa_cons (se_var 3 (pv 3)) (sa_nil))) (sa_nil))))) (sa_cons (e_mod (e_add Cs.toCan (se_var 1 (pv 1)) (se_int)) (se_int)) (sa_nil)))) (se_call Cs.toCan ((k_law_roll Z 2).mono (by omega)) rfl (Z.glo 13 rfl) (sa_cons (se_var 0 (pv 0)) (sa_cons (se_int) (sa_nil))))) (t_nm 10 Cs.toCan))
          (sb_cons (ss_if (c_ne Cs.toCan (se_meth Cs.toCan (kc_Primary Z) (Z.meth 17 rfl) (Z.hno (by decide)) ((k_Primary_behind_by Z).mono (by omega)) (se_var 5 (pv 5)) (sa_cons (se_var 10 (pv 10)) (sa_nil))) (se_if (c_in Cs.toCan (se_var 10 (pv 10)) (se_var 3 (pv 3))) (e_sub (e_sub (e_len Cs.toCan (Z.free 4 rfl) rfl (sa_cons (se_var 3 (pv 3)) (sa_nil))) (se_int)) (e_index Cs.toCan (se_var 3 (pv 3)) (sa_cons (se_var 10 (pv 10)) (sa_nil)))) (se_non))) (sb_one (ss_ret (se_bl))) (sb_nil))
          (sb_cons (ss_asg (se_lc (own := [("k", 11)]) Cs.toCan (si_range1 rfl (Z.free 12 rfl) (sa_cons (se_int) (sa_nil))) (blkOk_by rfl) (fun _ _ _ _ _ _ _ C3 => ⟨t_nm 11 C3, sq_nil, e_add C3 (se_int) (se_call C3 ((k_law_roll Z 2).mono (by omega)) rfl (Z.glo 13 rfl) (sa_cons (se_var 0 (pv 0)) (sa_cons (se_int) (sa_nil))))⟩)) (sg_seq Cs.toCan (sgs_cons (t_nm 12 Cs.toCan) (sgs_cons (t_nm 13 Cs.toCan) (sgs_cons (t_nm 14 Cs.toCan) (sgs_cons (t_nm 15 Cs.toCan) (sgs_nil)))))))
          (sb_cons (ss_asg (se_lst (sa_nil)) (t_nm 16 Cs.toCan))
          (sb_cons (ss_asg (se_var 15 (pv 15)) (t_nm 17 Cs.toCan))
          (sb_cons (ss_for Cs (si_range1 rfl (Z.free 12 rfl) (sa_cons (se_call Cs.toCan ((k_law_roll Z 2).mono (by omega)) rfl (Z.glo 13 rfl) (sa_cons (se_var 0 (pv 0)) (sa_cons (se_int) (sa_nil)))) (sa_nil))) (t_nm 11 Cs.toCan) (sb_cons (ss_asg (e_add Cs.toCan (e_add Cs.toCan (se_var 17 (pv 17)) (se_int)) (se_call Cs.toCan ((k_law_roll Z 2).mono (by omega)) rfl (Z.glo 13 rfl) (sa_cons (se_var 0 (pv 0)) (sa_cons (se_int) (sa_nil))))) (t_nm 17 Cs.toCan))
          (sb_one (ss_asg (e_add Cs.toCan (se_var 16 (pv 16)) (se_lst (sa_cons (se_var 17 (pv 17)) (sa_nil)))) (t_nm 16 Cs.toCan)))))
          (sb_cons (ss_asg (se_if (c_ne Cs.toCan (se_var 16 (pv 16)) (se_lst (sa_nil))) (e_add Cs.toCan (se_ix Cs.toCan.hK (se_var 16 (pv 16)) (e_neg (se_int))) (se_var 13 (pv 13))) (e_add Cs.toCan (se_var 15 (pv 15)) (se_var 12 (pv 12)))) (t_nm 18 Cs.toCan))
          (sb_one (ss_ret (e_eq Cs.toCan (se_call Cs.toCan ((k_next_look Z).mono (by omega)) rfl (Z.glo 11 rfl) (sa_cons (se_var 12 (pv 12)) (sa_cons (se_var 13 (pv 13)) (sa_cons (se_var 14 (pv 14)) (sa_cons (se_var 15 (pv 15)) (sa_cons (se_var 16 (pv 16)) (sa_nil))))))) (se_tup (sa_cons (se_var 18 (pv 18)) (sa_cons (e_lt (se_var 18 (pv 18)) (e_add Cs.toCan (se_var 15 (pv 15)) (se_var 14 (pv 14)))) (sa_nil))))))))))))))))
theorem sc_is_leap : FnScope ["year"] ["year"] (defScope s_is_leap) := ⟨rfl, rfl, rfl, by decide +kernel, rfl, by decide +kernel, by decide +kernel⟩
theorem k_is_leap (Z : ZZ G w mg h base) : Kn G P w mg base 1 (He.fAd G.K ("is_leap", none)) 1 f_is_leap := by
  obtain ⟨fd, F⟩ := Z.def_ 15 (d := d_is_leap) rfl
  exact kn_of (k := 0) (ps := ["year"]) F sc_is_leap (fun _ _ _ _ _ _ us hl => match us, hl with | [_], _ => rfl) rfl fun cdv A outer s H E ecd Cs =>
          sb_one (ss_ret (se_or (se_and (e_eq Cs.toCan (e_mod (se_var 0 (pv 0)) (se_int)) (se_int)) (se_one (e_ne Cs.toCan (e_mod (se_var 0 (pv 0)) (se_int)) (se_int)))) (se_one (e_eq Cs.toCan (e_mod (se_var 0 (pv 0)) (se_int)) (se_int)))))
theorem sc_days_in : FnScope ["year", "month"] ["year", "month"] (defScope s_days_in) := ⟨rfl, rfl, rfl, by decide +kernel, rfl, by decide +kernel, by decide +kernel⟩
theorem k_days_in (Z : ZZ G w mg h base) : Kn G P w mg base 2 (He.fAd G.K ("days_in", none)) 2 f_days_in := by
  obtain ⟨fd, F⟩ := Z.def_ 14 (d := d_days_in) rfl
  exact kn_of (k := 1) (ps := ["year", "month"]) F sc_days_in (fun _ _ _ _ _ _ us hl => match us, hl with | [_, _], _ => rfl) rfl fun cdv A outer s H E ecd Cs =>
          sb_cons (ss_if (sc_w (sw_or (sc_not (c_ch p_le p_le (se_int) (se_var 0 (pv 0)) (se_int))) (sw_or1 (sc_not (c_ch p_le p_le (se_int) (se_var 1 (pv 1)) (se_int)))))) (sb_one (ss_raise Cs (Z.kx 9 rfl) rfl (Z.glo 10 rfl))) (sb_nil))
          (sb_cons (ss_if (c_eq Cs.toCan (se_var 1 (pv 1)) (se_int)) (sb_one (ss_ret (se_if (sc_val (se_call Cs.toCan ((k_is_leap Z).mono (by omega)) rfl (Z.glo 25 rfl) (sa_cons (se_var 0 (pv 0)) (sa_nil)))) (se_int) (se_int)))) (sb_nil))
          (sb_one (ss_ret (se_if (c_in Cs.toCan (se_var 1 (pv 1)) (se_tup (sa_cons (se_int) (sa_cons (se_int) (sa_cons (se_int) (sa_cons (se_int) (sa_nil))))))) (se_int) (se_int)))))
theorem sc_told_serial : FnScope ["serial", "number", "day", "month", "year"] ["serial"] (defScope s_told_serial) := ⟨rfl, rfl, rfl, by decide +kernel, rfl, by decide +kernel, by decide +kernel⟩
theorem k_told_serial (Z : ZZ G w mg h base) : Kn G P w mg base 3 (He.fAd G.K ("told_serial", none)) 1 f_told_serial := by
  obtain ⟨fd, F⟩ := Z.def_ 13 (d := d_told_serial) rfl
  exact kn_of (k := 2) (ps := ["serial"]) F sc_told_serial (fun _ _ _ _ _ _ us hl => match us, hl with | [_], _ => rfl) rfl fun cdv A outer s H E ecd Cs =>
          sb_cons (ss_expr (se_call Cs.toCan ((k_check_serial Z).mono (by omega)) rfl (Z.glo 16 rfl) (sa_cons (se_var 0 (pv 0)) (sa_nil))))
          (sb_cons (ss_asg (se_tup (sa_cons (e_mod (se_var 0 (pv 0)) (se_int)) (sa_cons (e_mod (e_div (se_var 0 (pv 0)) (se_int)) (se_int)) (sa_cons (e_mod (e_div (se_var 0 (pv 0)) (se_int)) (se_int)) (sa_cons (e_div (se_var 0 (pv 0)) (se_int)) (sa_nil)))))) (sg_seq Cs.toCan (sgs_cons (t_nm 1 Cs.toCan) (sgs_cons (t_nm 2 Cs.toCan) (sgs_cons (t_nm 3 Cs.toCan) (sgs_cons (t_nm 4 Cs.toCan) (sgs_nil)))))))
          (sb_cons (ss_if (sc_w (sw_or (sc_not (c_ch p_le p_le (se_int) (se_var 4 (pv 4)) (se_int))) (sw_or (sc_not (c_ch p_le p_le (se_int) (se_var 3 (pv 3)) (se_int))) (sw_or1 (sc_not (c_ch p_le p_le (se_int) (se_var 2 (pv 2)) (se_call Cs.toCan ((k_days_in Z).mono (by omega)) rfl (Z.glo 26 rfl) (sa_cons (se_var 4 (pv 4)) (sa_cons (se_var 3 (pv 3)) (sa_nil)))))))))) (sb_one (ss_ret (se_non))) (sb_nil))
          (sb_one (ss_ret (se_tup (sa_cons (se_var 4 (pv 4)) (sa_cons (se_var 3 (pv 3)) (sa_cons (se_var 2 (pv 2)) (sa_cons (se_var 1 (pv 1)) (sa_nil))))))))))
theorem sc_law_days : FnScope ["year", "month", "leap"] ["year", "month"] (defScope s_law_days) := ⟨rfl, rfl, rfl, by decide +kernel, rfl, by decide +kernel, by decide +kernel⟩
theorem k_law_days (Z : ZZ G w mg h base) : Kn G P w mg base 1 (He.fAd G.K ("_law_days", none)) 2 f_law_days := by
  obtain ⟨fd, F⟩ := Z.def_ 16 (d := d_law_days) rfl
  exact kn_of (k := 0) (ps := ["year", "month"]) F sc_law_days (fun _ _ _ _ _ _ us hl => match us, hl with | [_, _], _ => rfl) rfl fun cdv A outer s H E ecd Cs =>
          sb_cons (ss_asg (se_or (e_eq Cs.toCan (e_mod (se_var 0 (pv 0)) (se_int)) (se_int)) (se_one (se_and (e_eq Cs.toCan (e_mod (se_var 0 (pv 0)) (se_int)) (se_int)) (se_one (e_ne Cs.toCan (e_mod (se_var 0 (pv 0)) (se_int)) (se_int)))))) (t_nm 2 Cs.toCan))
          (sb_one (ss_ret (se_ix Cs.toCan.hK (se_lst (sa_cons (se_int) (sa_cons (e_add Cs.toCan (se_int) (e_int Cs.toCan (Z.free 0 rfl) rfl (sa_cons (se_var 2 (pv 2)) (sa_nil)))) (sa_cons (se_int) (sa_cons (se_int) (sa_cons (se_int) (sa_cons (se_int) (sa_cons (se_int) (sa_cons (se_int) (sa_cons (se_int) (sa_cons (se_int) (sa_cons (se_int) (sa_cons (se_int) (sa_nil)))))))))))))) (e_sub (se_var 1 (pv 1)) (se_int)))))
theorem sc_compared_to : FnScope ["one", "other", "apart"] ["one", "other"] (defScope s_compared_to) := ⟨rfl, rfl, rfl, by decide +kernel, rfl, by decide +kernel, by decide +kernel⟩
theorem k_compared_to (Z : ZZ G w mg h base) : Kn G P w mg base 2 (He.fAd G.K ("compared_to", none)) 2 f_compared_to := by
  obtain ⟨fd, F⟩ := Z.def_ 19 (d := d_compared_to) rfl
  exact kn_of (k := 1) (ps := ["one", "other"]) F sc_compared_to (fun _ _ _ _ _ _ us hl => match us, hl with | [_, _], _ => rfl) rfl fun cdv A outer s H E ecd Cs =>
          sb_cons (ss_expr (se_call Cs.toCan ((k_check_serial Z).mono (by omega)) rfl (Z.glo 16 rfl) (sa_cons (se_var 0 (pv 0)) (sa_nil))))
          (sb_cons (ss_expr (se_call Cs.toCan ((k_check_serial Z).mono (by omega)) rfl (Z.glo 16 rfl) (sa_cons (se_var 1 (pv 1)) (sa_nil))))
          (sb_cons (ss_if (c_eq Cs.toCan (se_var 0 (pv 0)) (se_var 1 (pv 1))) (sb_one (ss_ret (se_str))) (sb_nil))
          (sb_cons (ss_asg (e_mod (e_sub (se_var 0 (pv 0)) (se_var 1 (pv 1))) (se_gi (Z.int 15 rfl) rfl)) (t_nm 2 Cs.toCan))
          (sb_one (ss_ret (se_if (c_eq Cs.toCan (se_var 2 (pv 2)) (se_gi (Z.int 18 rfl) rfl)) (se_str) (se_if (c_lt (se_var 2 (pv 2)) (se_gi (Z.int 18 rfl) rfl)) (se_str) (se_str))))))))
theorem sc_is_later : FnScope ["one", "other"] ["one", "other"] (defScope s_is_later) := ⟨rfl, rfl, rfl, by decide +kernel, rfl, by decide +kernel, by decide +kernel⟩
theorem k_is_later (Z : ZZ G w mg h base) : Kn G P w mg base 3 (He.fAd G.K ("is_later", none)) 2 f_is_later := by
  obtain ⟨fd, F⟩ := Z.def_ 18 (d := d_is_later) rfl
  exact kn_of (k := 2) (ps := ["one", "other"]) F sc_is_later (fun _ _ _ _ _ _ us hl => match us, hl with | [_, _], _ => rfl) rfl fun cdv A outer s H E ecd Cs =>
          sb_one (ss_ret (e_eq Cs.toCan (se_call Cs.toCan ((k_compared_to Z).mono (by omega)) rfl (Z.glo 32 rfl) (sa_cons (se_var 0 (pv 0)) (sa_cons (se_var 1 (pv 1)) (sa_nil)))) (se_str)))
theorem sc_check_day : FnScope ["year", "month", "day"] ["year", "month", "day"] (defScope s_check_day) := ⟨rfl, rfl, rfl, by decide +kernel, rfl, by decide +kernel, by decide +kernel⟩
theorem k_check_day (Z : ZZ G w mg h base) : Kn G P w mg base 3 (He.fAd G.K ("check_day", none)) 3 f_check_day := by
  obtain ⟨fd, F⟩ := Z.def_ 21 (d := d_check_day) rfl
  exact kn_of (k := 2) (ps := ["year", "month", "day"]) F sc_check_day (fun _ _ _ _ _ _ us hl => match us, hl with | [_, _, _], _ => rfl) rfl fun cdv A outer s H E ecd Cs =>
          sb_one (ss_if (sc_not (c_ch p_le p_le (se_int) (se_var 2 (pv 2)) (se_call Cs.toCan ((k_days_in Z).mono (by omega)) rfl (Z.glo 26 rfl) (sa_cons (se_var 0 (pv 0)) (sa_cons (se_var 1 (pv 1)) (sa_nil)))))) (sb_one (ss_raise Cs (Z.kx 9 rfl) rfl (Z.glo 10 rfl))) (sb_nil))
theorem sc_first_of_day : FnScope ["year", "month", "day"] ["year", "month", "day"] (defScope s_first_of_day) := ⟨rfl, rfl, rfl, by decide +kernel, rfl, by decide +kernel, by decide +kernel⟩
theorem k_first_of_day (Z : ZZ G w mg h base) : Kn G P w mg base 4 (He.fAd G.K ("first_of_day", none)) 3 f_first_of_day := by
  obtain ⟨fd, F⟩ := Z.def_ 20 (d := d_first_of_day) rfl
  exact kn_of (k := 3) (ps := ["year", "month", "day"]) F sc_first_of_day (fun _ _ _ _ _ _ us hl => match us, hl with | [_, _, _], _ => rfl) rfl fun cdv A outer s H E ecd Cs =>
          sb_cons (ss_expr (se_call Cs.toCan ((k_check_day Z).mono (by omega)) rfl (Z.glo 34 rfl) (sa_cons (se_var 0 (pv 0)) (sa_cons (se_var 1 (pv 1)) (sa_cons (se_var 2 (pv 2)) (sa_nil))))))
          (sb_one (ss_ret (e_mul (e_add Cs.toCan (e_mul (e_add Cs.toCan (e_mul (se_var 0 (pv 0)) (se_int)) (se_var 1 (pv 1))) (se_int)) (se_var 2 (pv 2))) (se_int))))
theorem sc_next_by_day : FnScope ["serial", "year", "month", "day", "fresh"] ["serial", "year", "month", "day"] (defScope s_next_by_day) := ⟨rfl, rfl, rfl, by decide +kernel, rfl, by decide +kernel, by decide +kernel⟩
theorem k_next_by_day (Z : ZZ G w mg h base) : Kn G P w mg base 5 (He.fAd G.K ("next_by_day", none)) 4 f_next_by_day := by
  obtain ⟨fd, F⟩ := Z.def_ 17 (d := d_next_by_day) rfl
  exact kn_of (k := 4) (ps := ["serial", "year", "month", "day"]) F sc_next_by_day (fun _ _ _ _ _ _ us hl => match us, hl with | [_, _, _, _], _ => rfl) rfl fun cdv A outer s H E ecd Cs =>
          sb_cons (ss_asg (se_call Cs.toCan ((k_first_of_day Z).mono (by omega)) rfl (Z.glo 35 rfl) (sa_cons (se_var 1 (pv 1)) (sa_cons (se_var 2 (pv 2)) (sa_cons (se_var 3 (pv 3)) (sa_nil))))) (t_nm 4 Cs.toCan))
          (sb_one (ss_ret (se_if (sc_val (se_call Cs.toCan ((k_is_later Z).mono (by omega)) rfl (Z.glo 33 rfl) (sa_cons (se_var 4 (pv 4)) (sa_cons (se_var 0 (pv 0)) (sa_nil))))) (se_var 4 (pv 4)) (se_call Cs.toCan ((k_added_to Z).mono (by omega)) rfl (Z.glo 19 rfl) (sa_cons (se_var 0 (pv 0)) (sa_cons (se_int) (sa_nil)))))))
theorem sc_law_compared : FnScope ["one", "other", "way"] ["one", "other"] (defScope s_law_compared) := ⟨rfl, rfl, rfl, by decide +kernel, rfl, by decide +kernel, by decide +kernel⟩
theorem k_law_compared (Z : ZZ G w mg h base) : Kn G P w mg base 1 (He.fAd G.K ("_law_compared", none)) 2 f_law_compared := by
  obtain ⟨fd, F⟩ := Z.def_ 22 (d := d_law_compared) rfl
  exact kn_of (k := 0) (ps := ["one", "other"]) F sc_law_compared (fun _ _ _ _ _ _ us hl => match us, hl with | [_, _], _ => rfl) rfl fun cdv A outer s H E ecd Cs =>
          sb_cons (ss_asg (se_if (c_ge (se_var 0 (pv 0)) (se_var 1 (pv 1))) (e_sub (se_var 0 (pv 0)) (se_var 1 (pv 1))) (e_add Cs.toCan (e_sub (se_var 0 (pv 0)) (se_var 1 (pv 1))) (se_int))) (t_nm 2 Cs.toCan))
          (sb_one (ss_ret (se_if (c_eq Cs.toCan (se_var 2 (pv 2)) (se_int)) (se_str) (se_if (c_lt (se_var 2 (pv 2)) (se_int)) (se_str) (se_if (c_eq Cs.toCan (se_var 2 (pv 2)) (se_int)) (se_str) (se_str))))))
theorem sc_latest_of : FnScope ["serials", "one", "other"] ["serials"] (defScope s_latest_of) := ⟨rfl, rfl, rfl, by decide +kernel, rfl, by decide +kernel, by decide +kernel⟩
theorem k_latest_of (Z : ZZ G w mg h base) : Kn G P w mg base 6 (He.fAd G.K ("latest_of", none)) 1 f_latest_of := by
  obtain ⟨fd, F⟩ := Z.def_ 23 (d := d_latest_of) rfl
  exact kn_of (k := 5) (ps := ["serials"]) F sc_latest_of (fun _ _ _ _ _ _ us hl => match us, hl with | [_], _ => rfl) rfl fun cdv A outer s H E ecd Cs =>
          sb_cons (ss_if (c_eq Cs.toCan (e_len Cs.toCan (Z.free 4 rfl) rfl (sa_cons (se_var 0 (pv 0)) (sa_nil))) (se_int)) (sb_one (ss_raise Cs (Z.kx 9 rfl) rfl (Z.glo 10 rfl))) (sb_nil))
          (sb_cons (ss_for Cs (si_val Cs.toCan.hK (se_var 0 (pv 0))) (t_nm 1 Cs.toCan) (sb_one (ss_if (sc_val (se_all (own := [("other", 2)]) (cs := ["NameFault", "SerialError"]) Cs.toCan (si_val Cs.toCan.hK (se_var 0 (pv 0))) ⟨⟨_, _, _, (Z.ct 2 ecd rfl), rfl⟩, ns_ok Z, blkOk_by rfl, by decide +kernel, rfl, rfl, (fun _ _ _ _ _ _ _ _ _ C9 => ⟨t_nm 2 C9, sq_nil, e_in C9 (se_call C9 ((k_compared_to Z).mono (by omega)) rfl (Z.glo 32 rfl) (sa_cons (se_var 1 (pv 1)) (sa_cons (se_var 2 (pv 2)) (sa_nil)))) (se_tup (sa_cons (se_str) (sa_cons (se_str) (sa_nil))))⟩), fun _ => rfl⟩ rfl (Z.free 39 rfl) bt_all)) (sb_one (ss_ret (se_var 1 (pv 1)))) (sb_nil))))
          (sb_one (ss_ret (se_non))))
theorem sc_law_serial : FnScope ["dice"] ["dice"] (defScope s_law_serial) := ⟨rfl, rfl, rfl, by decide +kernel, rfl, by decide +kernel, by decide +kernel⟩
theorem k_law_serial (Z : ZZ G w mg h base) : Kn G P w mg base 4 (He.fAd G.K ("_law_serial", none)) 1 f_law_serial := by
  obtain ⟨fd, F⟩ := Z.def_ 24 (d := d_law_serial) rfl
  exact kn_of (k := 3) (ps := ["dice"]) F sc_law_serial (fun _ _ _ _ _ _ us hl => match us, hl with | [_], _ => rfl) rfl fun cdv A outer s H E ecd Cs =>
          sb_one (ss_ret (se_ix Cs.toCan.hK (se_lst (sa_cons (se_call Cs.toCan ((k_law_roll Z 2).mono (by omega)) rfl (Z.glo 13 rfl) (sa_cons (se_var 0 (pv 0)) (sa_cons (se_int) (sa_nil)))) (sa_cons (se_call Cs.toCan ((k_law_roll Z 2).mono (by omega)) rfl (Z.glo 13 rfl) (sa_cons (se_var 0 (pv 0)) (sa_cons (se_int) (sa_nil)))) (sa_cons (e_add Cs.toCan (se_int) (se_call Cs.toCan ((k_law_roll Z 2).mono (by omega)) rfl (Z.glo 13 rfl) (sa_cons (se_var 0 (pv 0)) (sa_cons (se_int) (sa_nil))))) (sa_cons (e_sub (se_int) (se_call Cs.toCan ((k_law_roll Z 2).mono (by omega)) rfl (Z.glo 13 rfl) (sa_cons (se_var 0 (pv 0)) (sa_cons (se_int) (sa_nil))))) (sa_nil)))))) (se_call Cs.toCan ((k_law_roll Z 2).mono (by omega)) rfl (Z.glo 13 rfl) (sa_cons (se_var 0 (pv 0)) (sa_cons (se_int) (sa_nil))))))
theorem sc_steps_to : FnScope ["old", "new", "first"] ["old", "new"] (defScope s_steps_to) := ⟨rfl, rfl, rfl, by decide +kernel, rfl, by decide +kernel, by decide +kernel⟩
theorem k_steps_to (Z : ZZ G w mg h base) : Kn G P w mg base 4 (He.fAd G.K ("steps_to", none)) 2 f_steps_to := by
  obtain ⟨fd, F⟩ := Z.def_ 25 (d := d_steps_to) rfl
  exact kn_of (k := 3) (ps := ["old", "new"]) F sc_steps_to (fun _ _ _ _ _ _ us hl => match us, hl with | [_, _], _ => rfl) rfl fun cdv A outer s H E ecd Cs =>
          sb_cons (ss_expr (se_call Cs.toCan ((k_check_serial Z).mono (by omega)) rfl (Z.glo 16 rfl) (sa_cons (se_var 1 (pv 1)) (sa_nil))))
          (sb_cons (ss_if (c_eq Cs.toCan (se_var 0 (pv 0)) (se_var 1 (pv 1))) (sb_one (ss_ret (se_tup (sa_nil)))) (sb_nil))
          (sb_cons (ss_if (sc_val (se_call Cs.toCan ((k_is_later Z).mono (by omega)) rfl (Z.glo 33 rfl) (sa_cons (se_var 1 (pv 1)) (sa_cons (se_var 0 (pv 0)) (sa_nil))))) (sb_one (ss_ret (se_tup (sa_cons (se_var 1 (pv 1)) (sa_nil))))) (sb_nil))
          (sb_cons (ss_asg (se_call Cs.toCan ((k_added_to Z).mono (by omega)) rfl (Z.glo 19 rfl) (sa_cons (se_var 0 (pv 0)) (sa_cons (e_sub (se_gi (Z.int 18 rfl) rfl) (se_int)) (sa_nil)))) (t_nm 2 Cs.toCan))
          (sb_cons (ss_if (sc_val (se_call Cs.toCan ((k_is_later Z).mono (by omega)) rfl (Z.glo 33 rfl) (sa_cons (se_var 1 (pv 1)) (sa_cons (se_var 2 (pv 2)) (sa_nil))))) (sb_one (ss_ret (se_tup (sa_cons (se_var 2 (pv 2)) (sa_cons (se_var 1 (pv 1)) (sa_nil)))))) (sb_nil))
          (sb_one (ss_ret (se_tup (sa_cons (se_var 2 (pv 2)) (sa_cons (se_call Cs.toCan ((k_added_to Z).mono (by omega)) rfl (Z.glo 19 rfl) (sa_cons (se_var 2 (pv 2)) (sa_cons (e_sub (se_gi (Z.int 18 rfl) rfl) (se_int)) (sa_nil)))) (sa_cons (se_var 1 (pv 1)) (sa_nil)))))))))))
theorem sc_law_plain : FnScope ["told", "bad", "due", "primary", "k", "f"] [] (defScope s_law_plain) := ⟨rfl, rfl, rfl, by decide +kernel, rfl, by decide +kernel, by decide +kernel⟩
theorem k_law_plain (Z : ZZ G w mg h base) : Kn G P w mg base 9 (He.fAd G.K ("_law_plain", none)) 0 f_law_plain := by
  obtain ⟨fd, F⟩ := Z.def_ 26 (d := d_law_plain) rfl
  exact kn_maker (fun X j => lamAt X (defBody s_law_plain) j) (k := 8) (ps := []) F sc_law_plain (fun _ _ _ _ _ _ us hl => match us, hl with | [], _ => rfl) rfl fun cdv A outer s H E G' eG ecd Cs => by
    subst eG
    have ZL := Z.lamC Cs
    exact sb_cons (ss_asg (se_make Cs.toCan (ZL.mkr 22 rfl) ((k_Primary_init ZL).mono (by omega)) rfl (ZL.glo 23 rfl) (sa_cons (se_int) (sa_cons (se_int) (sa_nil)))) (t_nm 3 Cs.toCan))
          (sb_cons (ss_asg (se_lst (sa_cons (se_call Cs.toCan ((k_compared_to ZL).mono (by omega)) rfl (ZL.glo 32 rfl) (sa_cons (se_int) (sa_cons (se_int) (sa_nil)))) (sa_cons (se_call Cs.toCan ((k_compared_to ZL).mono (by omega)) rfl (ZL.glo 32 rfl) (sa_cons (se_int) (sa_cons (se_int) (sa_nil)))) (sa_cons (se_call Cs.toCan ((k_is_later ZL).mono (by omega)) rfl (ZL.glo 33 rfl) (sa_cons (se_int) (sa_cons (se_int) (sa_nil)))) (sa_cons (se_call Cs.toCan ((k_added_to ZL).mono (by omega)) rfl (ZL.glo 19 rfl) (sa_cons (se_int) (sa_cons (se_int) (sa_nil)))) (sa_cons (se_call Cs.toCan ((k_first_of_day ZL).mono (by omega)) rfl (ZL.glo 35 rfl) (sa_cons (se_int) (sa_cons (se_int) (sa_cons (se_int) (sa_nil))))) (sa_nil))))))) (t_nm 0 Cs.toCan))
          (sb_cons (ss_asg (e_add Cs.toCan (se_var 0 (pv 0)) (se_lst (sa_cons (se_call Cs.toCan ((k_next_by_day ZL).mono (by omega)) rfl (ZL.glo 36 rfl) (sa_cons (se_int) (sa_cons (se_int) (sa_cons (se_int) (sa_cons (se_int) (sa_nil)))))) (sa_cons (se_call Cs.toCan ((k_told_serial ZL).mono (by omega)) rfl (ZL.glo 27 rfl) (sa_cons (se_int) (sa_nil))) (sa_cons (se_call Cs.toCan ((k_told_serial ZL).mono (by omega)) rfl (ZL.glo 27 rfl) (sa_cons (se_int) (sa_nil))) (sa_cons (se_call Cs.toCan ((k_steps_to ZL).mono (by omega)) rfl (ZL.glo 42 rfl) (sa_cons (se_int) (sa_cons (se_int) (sa_nil)))) (sa_cons (se_call Cs.toCan ((k_steps_to ZL).mono (by omega)) rfl (ZL.glo 42 rfl) (sa_cons (se_int) (sa_cons (se_int) (sa_nil)))) (sa_cons (se_call Cs.toCan ((k_latest_of ZL).mono (by omega)) rfl (ZL.glo 40 rfl) (sa_cons (se_tup (sa_cons (se_int) (sa_cons (se_int) (sa_cons (se_int) (sa_nil))))) (sa_nil))) (sa_nil))))))))) (t_nm 0 Cs.toCan))
          (sb_cons (ss_asg (e_add Cs.toCan (se_var 0 (pv 0)) (se_lst (sa_cons (se_call Cs.toCan ((k_next_look ZL).mono (by omega)) rfl (ZL.glo 11 rfl) (sa_cons (se_int) (sa_cons (se_int) (sa_cons (se_int) (sa_cons (se_int) (sa_cons (se_tup (sa_cons (se_int) (sa_cons (se_int) (sa_nil)))) (sa_nil))))))) (sa_cons (se_call Cs.toCan ((k_days_in ZL).mono (by omega)) rfl (ZL.glo 26 rfl) (sa_cons (se_int) (sa_cons (se_int) (sa_nil)))) (sa_cons (se_call Cs.toCan ((k_is_leap ZL).mono (by omega)) rfl (ZL.glo 25 rfl) (sa_cons (se_int) (sa_nil))) (sa_cons (se_meth0 Cs.toCan (kc_Primary ZL) (ZL.meth 21 rfl) (ZL.hno (by decide)) ((k_Primary_change_once ZL).mono (by omega)) (se_var 3 (pv 3))) (sa_cons (se_meth0 Cs.toCan (kc_Primary ZL) (ZL.meth 21 rfl) (ZL.hno (by decide)) ((k_Primary_change_once ZL).mono (by omega)) (se_var 3 (pv 3))) (sa_cons (se_meth0 Cs.toCan (kc_Primary ZL) (ZL.meth 20 rfl) (ZL.hno (by decide)) ((k_Primary_tell_now ZL).mono (by omega)) (se_var 3 (pv 3))) (sa_nil))))))))) (t_nm 0 Cs.toCan))
          (sb_cons (ss_asg (e_add Cs.toCan (se_var 0 (pv 0)) (se_lst (sa_cons (se_fld Cs.toCan.hK (kc_Primary ZL) (ZL.hf rfl) (se_var 3 (pv 3))) (sa_cons (se_meth Cs.toCan (kc_Primary ZL) (ZL.meth 17 rfl) (ZL.hno (by decide)) ((k_Primary_behind_by ZL).mono (by omega)) (se_var 3 (pv 3)) (sa_cons (se_int) (sa_nil))) (sa_cons (se_call Cs.toCan ((k_check_serial ZL).mono (by omega)) rfl (ZL.glo 16 rfl) (sa_cons (se_int) (sa_nil))) (sa_cons (se_call Cs.toCan ((k_check_day ZL).mono (by omega)) rfl (ZL.glo 34 rfl) (sa_cons (se_int) (sa_cons (se_int) (sa_cons (se_int) (sa_nil))))) (sa_cons (se_call Cs.toCan ((k_steps_to ZL).mono (by omega)) rfl (ZL.glo 42 rfl) (sa_cons (se_int) (sa_cons (se_int) (sa_nil)))) (sa_cons (e_len Cs.toCan (ZL.free 4 rfl) rfl (sa_cons (se_call Cs.toCan ((k_steps_to ZL).mono (by omega)) rfl (ZL.glo 42 rfl) (sa_cons (se_int) (sa_cons (se_int) (sa_nil)))) (sa_nil))) (sa_cons (se_call Cs.toCan ((k_latest_of ZL).mono (by omega)) rfl (ZL.glo 40 rfl) (sa_cons (se_tup (sa_cons (se_int) (sa_cons (se_int) (sa_nil)))) (sa_nil))) (sa_nil)))))))))) (t_nm 0 Cs.toCan))
          (sb_cons (ss_asg (e_add Cs.toCan (se_var 0 (pv 0)) (se_lst (sa_cons (se_meth Cs.toCan (kc_Primary ZL) (ZL.meth 17 rfl) (ZL.hno (by decide)) ((k_Primary_behind_by ZL).mono (by omega)) (se_var 3 (pv 3)) (sa_cons (se_int) (sa_nil))) (sa_nil)))) (t_nm 0 Cs.toCan))
          (sb_cons (ss_asg (se_lst (sa_cons (se_lam (j := 0) (ZL.ct 3 ecd rfl) rfl (rfl) (LamX.lamS_by (by rfl)) rfl) (sa_cons (se_lam (j := 1) (ZL.ct 3 ecd rfl) rfl (rfl) (LamX.lamS_by (by rfl)) rfl) (sa_cons (se_lam (j := 2) (ZL.ct 3 ecd rfl) rfl (rfl) (LamX.lamS_by (by rfl)) rfl) (sa_cons (se_lam (j := 3) (ZL.ct 3 ecd rfl) rfl (rfl) (LamX.lamS_by (by rfl)) rfl) (sa_cons (se_lam (j := 4) (ZL.ct 3 ecd rfl) rfl (rfl) (LamX.lamS_by (by rfl)) rfl) (sa_nil))))))) (t_nm 1 Cs.toCan))
          (sb_cons (ss_asg (e_add Cs.toCan (se_var 1 (pv 1)) (se_lst (sa_cons (se_lam (j := 5) (ZL.ct 3 ecd rfl) rfl (rfl) (LamX.lamS_by (by rfl)) rfl) (sa_cons (se_lam (j := 6) (ZL.ct 3 ecd rfl) rfl (rfl) (LamX.lamS_by (by rfl)) rfl) (sa_cons (se_lam (j := 7) (ZL.ct 3 ecd rfl) rfl (rfl) (LamX.lamS_by (by rfl)) rfl) (sa_cons (se_lam (j := 8) (ZL.ct 3 ecd rfl) rfl (rfl) (LamX.lamS_by (by rfl)) rfl) (sa_cons (se_lam (j := 9) (ZL.ct 3 ecd rfl) rfl (rfl) (LamX.lamS_by (by rfl)) rfl) (sa_nil)))))))) (t_nm 1 Cs.toCan))
          (sb_cons (ss_asg (e_add Cs.toCan (se_var 1 (pv 1)) (se_lst (sa_cons (se_lam (j := 10) (ZL.ct 3 ecd rfl) rfl (rfl) (LamX.lamS_by (by rfl)) rfl) (sa_cons (se_lam (j := 11) (ZL.ct 3 ecd rfl) rfl (rfl) (LamX.lamS_by (by rfl)) rfl) (sa_cons (se_lam (j := 12) (ZL.ct 3 ecd rfl) rfl (rfl) (LamX.lamS_by (by rfl)) rfl) (sa_cons (se_lam (j := 13) (ZL.ct 3 ecd rfl) rfl (rfl) (LamX.lamS_by (by rfl)) rfl) (sa_nil))))))) (t_nm 1 Cs.toCan))
          (sb_cons (ss_asg (e_add Cs.toCan (se_var 1 (pv 1)) (se_lst (sa_cons (se_lam (j := 14) (ZL.ct 3 ecd rfl) rfl (rfl) (LamX.lamS_by (by rfl)) rfl) (sa_cons (se_lam (j := 15) (ZL.ct 3 ecd rfl) rfl (rfl) (LamX.lamS_by (by rfl)) rfl) (sa_cons (se_lam (j := 16) (ZL.ct 3 ecd rfl) rfl (rfl) (LamX.lamS_by (by rfl)) rfl) (sa_nil)))))) (t_nm 1 Cs.toCan))
          (sb_cons (ss_asg (e_add Cs.toCan (se_var 1 (pv 1)) (se_lst (sa_cons (se_lam (j := 17) (ZL.ct 3 ecd rfl) rfl (rfl) (LamX.lamS_by (by rfl)) rfl) (sa_cons (se_lam (j := 18) (ZL.ct 3 ecd rfl) rfl (rfl) (LamX.lamS_by (by rfl)) rfl) (sa_cons (se_lam (j := 19) (ZL.ct 3 ecd rfl) rfl (rfl) (LamX.lamS_by (by rfl)) rfl) (sa_cons (se_lam (j := 20) (ZL.ct 3 ecd rfl) rfl (rfl) (LamX.lamS_by (by rfl)) rfl) (sa_cons (se_lam (j := 21) (ZL.ct 3 ecd rfl) rfl (rfl) (LamX.lamS_by (by rfl)) rfl) (sa_nil)))))))) (t_nm 1 Cs.toCan))
          (sb_cons (ss_asg (e_add Cs.toCan (se_var 1 (pv 1)) (se_lst (sa_cons (se_lam (j := 22) (ZL.ct 3 ecd rfl) rfl (rfl) (LamX.lamS_by (by rfl)) rfl) (sa_cons (se_lam (j := 23) (ZL.ct 3 ecd rfl) rfl (rfl) (LamX.lamS_by (by rfl)) rfl) (sa_cons (se_lam (j := 24) (ZL.ct 3 ecd rfl) rfl (rfl) (LamX.lamS_by (by rfl)) rfl) (sa_cons (se_lam (j := 25) (ZL.ct 3 ecd rfl) rfl (rfl) (LamX.lamS_by (by rfl)) rfl) (sa_nil))))))) (t_nm 1 Cs.toCan))
          (sb_cons (ss_asg (e_add Cs.toCan (se_var 1 (pv 1)) (se_lst (sa_cons (se_lam (j := 26) (ZL.ct 3 ecd rfl) rfl (rfl) (LamX.lamS_by (by rfl)) rfl) (sa_cons (se_lam (j := 27) (ZL.ct 3 ecd rfl) rfl (rfl) (LamX.lamS_by (by rfl)) rfl) (sa_cons (se_lam (j := 28) (ZL.ct 3 ecd rfl) rfl (rfl) (LamX.lamS_by (by rfl)) rfl) (sa_nil)))))) (t_nm 1 Cs.toCan))
          (sb_cons (ss_asg (e_add Cs.toCan (se_var 1 (pv 1)) (se_lst (sa_cons (se_lam (j := 29) (ZL.ct 3 ecd rfl) rfl (rfl) (LamX.lamS_by (by rfl)) rfl) (sa_nil)))) (t_nm 1 Cs.toCan))
          (sb_cons (ss_if (c_ne Cs.toCan (se_lcZ (own := [("k", 4), ("f", 5)]) Cs.toCan (si_enum Cs.toCan.hK rfl (ZL.free 14 rfl) (sa_cons (se_var 1 (pv 1)) (sa_nil))) (blkOk_by rfl) (fun e44 ι44 pins44 σ44 s44 H44 cl44 D44 fp44 I44 en44 hfp44 xe44 W44 C45 => ⟨sg_seq C45 (sgs_cons (t_nm 4 C45) (sgs_cons (t_nm 5 C45) (sgs_nil))), sq_one (c_ne C45 (se_tellV (j := 0) I44 en44 hfp44 C45 Cs.toCan.nd (hb0 (hb_cons rfl (fun _ _ => ⟨LamX.lamS_by (by rfl), fun _ _ _ _ _ => rfl, fun _ _ _ _ _ _ _ C14 => se_call C14 ((k_check_serial (ZL.at _ _)).mono (by omega)) rfl ((ZL.at _ _).glo 16 rfl) (sa_cons (e_neg (se_int)) (sa_nil))⟩)
      (hb_cons rfl (fun _ _ => ⟨LamX.lamS_by (by rfl), fun _ _ _ _ _ => rfl, fun _ _ _ _ _ _ _ C15 => se_call C15 ((k_check_serial (ZL.at _ _)).mono (by omega)) rfl ((ZL.at _ _).glo 16 rfl) (sa_cons (se_int) (sa_nil))⟩)
      (hb_cons rfl (fun _ _ => ⟨LamX.lamS_by (by rfl), fun _ _ _ _ _ => rfl, fun _ _ _ _ _ _ _ C16 => se_call C16 ((k_compared_to (ZL.at _ _)).mono (by omega)) rfl ((ZL.at _ _).glo 32 rfl) (sa_cons (e_neg (se_int)) (sa_cons (se_int) (sa_nil)))⟩)
      (hb_cons rfl (fun _ _ => ⟨LamX.lamS_by (by rfl), fun _ _ _ _ _ => rfl, fun _ _ _ _ _ _ _ C17 => se_call C17 ((k_compared_to (ZL.at _ _)).mono (by omega)) rfl ((ZL.at _ _).glo 32 rfl) (sa_cons (se_int) (sa_cons (e_neg (se_int)) (sa_nil)))⟩)
      (hb_cons rfl (fun _ _ => ⟨LamX.lamS_by (by rfl), fun _ _ _ _ _ => rfl, fun _ _ _ _ _ _ _ C18 => se_call C18 ((k_is_later (ZL.at _ _)).mono (by omega)) rfl ((ZL.at _ _).glo 33 rfl) (sa_cons (se_int) (sa_cons (e_neg (se_int)) (sa_nil)))⟩)
      (hb_cons rfl (fun _ _ => ⟨LamX.lamS_by (by rfl), fun _ _ _ _ _ => rfl, fun _ _ _ _ _ _ _ C19 => se_call C19 ((k_added_to (ZL.at _ _)).mono (by omega)) rfl ((ZL.at _ _).glo 19 rfl) (sa_cons (se_int) (sa_cons (se_int) (sa_nil)))⟩)
      (hb_cons rfl (fun _ _ => ⟨LamX.lamS_by (by rfl), fun _ _ _ _ _ => rfl, fun _ _ _ _ _ _ _ C20 => se_call C20 ((k_added_to (ZL.at _ _)).mono (by omega)) rfl ((ZL.at _ _).glo 19 rfl) (sa_cons (se_int) (sa_cons (se_int) (sa_nil)))⟩)
      (hb_cons rfl (fun _ _ => ⟨LamX.lamS_by (by rfl), fun _ _ _ _ _ => rfl, fun _ _ _ _ _ _ _ C21 => se_call C21 ((k_added_to (ZL.at _ _)).mono (by omega)) rfl ((ZL.at _ _).glo 19 rfl) (sa_cons (e_neg (se_int)) (sa_cons (se_int) (sa_nil)))⟩)
      (hb_cons rfl (fun _ _ => ⟨LamX.lamS_by (by rfl), fun _ _ _ _ _ => rfl, fun _ _ _ _ _ _ _ C22 => se_call C22 ((k_days_in (ZL.at _ _)).mono (by omega)) rfl ((ZL.at _ _).glo 26 rfl) (sa_cons (se_int) (sa_cons (se_int) (sa_nil)))⟩)
      (hb_cons rfl (fun _ _ => ⟨LamX.lamS_by (by rfl), fun _ _ _ _ _ => rfl, fun _ _ _ _ _ _ _ C23 => se_call C23 ((k_days_in (ZL.at _ _)).mono (by omega)) rfl ((ZL.at _ _).glo 26 rfl) (sa_cons (se_int) (sa_cons (se_int) (sa_nil)))⟩)
      (hb_cons rfl (fun _ _ => ⟨LamX.lamS_by (by rfl), fun _ _ _ _ _ => rfl, fun _ _ _ _ _ _ _ C24 => se_call C24 ((k_days_in (ZL.at _ _)).mono (by omega)) rfl ((ZL.at _ _).glo 26 rfl) (sa_cons (se_int) (sa_cons (se_int) (sa_nil)))⟩)
      (hb_cons rfl (fun _ _ => ⟨LamX.lamS_by (by rfl), fun _ _ _ _ _ => rfl, fun _ _ _ _ _ _ _ C25 => se_call C25 ((k_days_in (ZL.at _ _)).mono (by omega)) rfl ((ZL.at _ _).glo 26 rfl) (sa_cons (se_int) (sa_cons (se_int) (sa_nil)))⟩)
      (hb_cons rfl (fun _ _ => ⟨LamX.lamS_by (by rfl), fun _ _ _ _ _ => rfl, fun _ _ _ _ _ _ _ C26 => se_call C26 ((k_check_day (ZL.at _ _)).mono (by omega)) rfl ((ZL.at _ _).glo 34 rfl) (sa_cons (se_int) (sa_cons (se_int) (sa_cons (se_int) (sa_nil))))⟩)
      (hb_cons rfl (fun _ _ => ⟨LamX.lamS_by (by rfl), fun _ _ _ _ _ => rfl, fun _ _ _ _ _ _ _ C27 => se_call C27 ((k_check_day (ZL.at _ _)).mono (by omega)) rfl ((ZL.at _ _).glo 34 rfl) (sa_cons (se_int) (sa_cons (se_int) (sa_cons (se_int) (sa_nil))))⟩)
      (hb_cons rfl (fun _ _ => ⟨LamX.lamS_by (by rfl), fun _ _ _ _ _ => rfl, fun _ _ _ _ _ _ _ C28 => se_call C28 ((k_first_of_day (ZL.at _ _)).mono (by omega)) rfl ((ZL.at _ _).glo 35 rfl) (sa_cons (se_int) (sa_cons (se_int) (sa_cons (se_int) (sa_nil))))⟩)
      (hb_cons rfl (fun _ _ => ⟨LamX.lamS_by (by rfl), fun _ _ _ _ _ => rfl, fun _ _ _ _ _ _ _ C29 => se_call C29 ((k_next_by_day (ZL.at _ _)).mono (by omega)) rfl ((ZL.at _ _).glo 36 rfl) (sa_cons (e_neg (se_int)) (sa_cons (se_int) (sa_cons (se_int) (sa_cons (se_int) (sa_nil)))))⟩)
      (hb_cons rfl (fun _ _ => ⟨LamX.lamS_by (by rfl), fun _ _ _ _ _ => rfl, fun _ _ _ _ _ _ _ C30 => se_call C30 ((k_next_by_day (ZL.at _ _)).mono (by omega)) rfl ((ZL.at _ _).glo 36 rfl) (sa_cons (se_int) (sa_cons (se_int) (sa_cons (se_int) (sa_cons (se_int) (sa_nil)))))⟩)
      (hb_cons rfl (fun _ _ => ⟨LamX.lamS_by (by rfl), fun _ _ _ _ _ => rfl, fun _ _ _ _ _ _ _ C31 => se_call C31 ((k_told_serial (ZL.at _ _)).mono (by omega)) rfl ((ZL.at _ _).glo 27 rfl) (sa_cons (e_neg (se_int)) (sa_nil))⟩)
      (hb_cons rfl (fun _ _ => ⟨LamX.lamS_by (by rfl), fun _ _ _ _ _ => rfl, fun _ _ _ _ _ _ _ C32 => se_call C32 ((k_steps_to (ZL.at _ _)).mono (by omega)) rfl ((ZL.at _ _).glo 42 rfl) (sa_cons (e_neg (se_int)) (sa_cons (se_int) (sa_nil)))⟩)
      (hb_cons rfl (fun _ _ => ⟨LamX.lamS_by (by rfl), fun _ _ _ _ _ => rfl, fun _ _ _ _ _ _ _ C33 => se_call C33 ((k_steps_to (ZL.at _ _)).mono (by omega)) rfl ((ZL.at _ _).glo 42 rfl) (sa_cons (se_int) (sa_cons (e_neg (se_int)) (sa_nil)))⟩)
      (hb_cons rfl (fun _ _ => ⟨LamX.lamS_by (by rfl), fun _ _ _ _ _ => rfl, fun _ _ _ _ _ _ _ C34 => se_call C34 ((k_latest_of (ZL.at _ _)).mono (by omega)) rfl ((ZL.at _ _).glo 40 rfl) (sa_cons (se_tup (sa_nil)) (sa_nil))⟩)
      (hb_cons rfl (fun _ _ => ⟨LamX.lamS_by (by rfl), fun _ _ _ _ _ => rfl, fun _ _ _ _ _ _ _ C35 => se_call C35 ((k_latest_of (ZL.at _ _)).mono (by omega)) rfl ((ZL.at _ _).glo 40 rfl) (sa_cons (se_tup (sa_cons (se_int) (sa_cons (e_neg (se_int)) (sa_nil)))) (sa_nil))⟩)
      (hb_cons rfl (fun _ _ => ⟨LamX.lamS_by (by rfl), fun _ _ _ _ _ => rfl, fun _ _ _ _ _ _ _ C36 => se_make C36 ((ZL.at _ _).mkr 22 rfl) ((k_Primary_init (ZL.at _ _)).mono (by omega)) rfl ((ZL.at _ _).glo 23 rfl) (sa_cons (se_int) (sa_cons (se_int) (sa_nil)))⟩)
      (hb_cons rfl (fun _ _ => ⟨LamX.lamS_by (by rfl), fun _ _ _ _ _ => rfl, fun _ _ _ _ _ _ _ C37 => se_make C37 ((ZL.at _ _).mkr 22 rfl) ((k_Primary_init (ZL.at _ _)).mono (by omega)) rfl ((ZL.at _ _).glo 23 rfl) (sa_cons (e_neg (se_int)) (sa_cons (se_int) (sa_nil)))⟩)
      (hb_cons rfl (fun _ _ => ⟨LamX.lamS_by (by rfl), fun _ _ _ _ _ => rfl, fun _ _ _ _ _ _ _ C38 => se_meth C38 (kc_Primary (ZL.at _ _)) ((ZL.at _ _).meth 17 rfl) ((ZL.at _ _).hno (by decide)) ((k_Primary_behind_by (ZL.at _ _)).mono (by omega)) (se_var 3 (pv 3)) (sa_cons (e_neg (se_int)) (sa_nil))⟩)
      (hb_cons rfl (fun _ _ => ⟨LamX.lamS_by (by rfl), fun _ _ _ _ _ => rfl, fun _ _ _ _ _ _ _ C39 => se_call C39 ((k_next_look (ZL.at _ _)).mono (by omega)) rfl ((ZL.at _ _).glo 11 rfl) (sa_cons (se_int) (sa_cons (se_int) (sa_cons (se_int) (sa_cons (se_int) (sa_cons (se_tup (sa_nil)) (sa_nil))))))⟩)
      (hb_cons rfl (fun _ _ => ⟨LamX.lamS_by (by rfl), fun _ _ _ _ _ => rfl, fun _ _ _ _ _ _ _ C40 => se_call C40 ((k_next_look (ZL.at _ _)).mono (by omega)) rfl ((ZL.at _ _).glo 11 rfl) (sa_cons (se_int) (sa_cons (se_int) (sa_cons (se_int) (sa_cons (se_int) (sa_cons (se_tup (sa_nil)) (sa_nil))))))⟩)
      (hb_cons rfl (fun _ _ => ⟨LamX.lamS_by (by rfl), fun _ _ _ _ _ => rfl, fun _ _ _ _ _ _ _ C41 => se_call C41 ((k_next_look (ZL.at _ _)).mono (by omega)) rfl ((ZL.at _ _).glo 11 rfl) (sa_cons (se_int) (sa_cons (se_int) (sa_cons (se_int) (sa_cons (se_int) (sa_cons (se_tup (sa_nil)) (sa_nil))))))⟩)
      (hb_cons rfl (fun _ _ => ⟨LamX.lamS_by (by rfl), fun _ _ _ _ _ => rfl, fun _ _ _ _ _ _ _ C42 => se_call C42 ((k_next_look (ZL.at _ _)).mono (by omega)) rfl ((ZL.at _ _).glo 11 rfl) (sa_cons (se_int) (sa_cons (se_int) (sa_cons (se_int) (sa_cons (se_int) (sa_cons (se_tup (sa_cons (se_int) (sa_nil))) (sa_nil))))))⟩)
      (hb_cons rfl (fun _ _ => ⟨LamX.lamS_by (by rfl), fun _ _ _ _ _ => rfl, fun _ _ _ _ _ _ _ C43 => se_call C43 ((k_next_look (ZL.at _ _)).mono (by omega)) rfl ((ZL.at _ _).glo 11 rfl) (sa_cons (se_int) (sa_cons (se_int) (sa_cons (se_int) (sa_cons (se_int) (sa_cons (se_tup (sa_cons (se_int) (sa_cons (se_int) (sa_nil)))) (sa_nil))))))⟩)
      hb_nil))))))))))))))))))))))))))))))) (told ZL) (isa_ok ZL) (se_var 5 (pv 5)) rfl (ZL.glo 37 rfl)) (se_str)), se_var 4 (pv 4)⟩)) (se_lst (sa_nil))) (sb_one (ss_ret (se_bl))) (sb_nil))
          (sb_cons (ss_if (c_ne Cs.toCan (se_tup (sa_cons (se_gi (ZL.int 15 rfl) rfl) (sa_cons (se_gi (ZL.int 18 rfl) rfl) (sa_nil)))) (se_tup (sa_cons (se_int) (sa_cons (se_int) (sa_nil))))) (sb_one (ss_ret (se_bl))) (sb_nil))
          (sb_cons (ss_asg (se_lst (sa_cons (se_str) (sa_cons (se_str) (sa_cons (se_bl) (sa_cons (se_int) (sa_cons (se_int) (sa_cons (se_int) (sa_cons (se_tup (sa_cons (se_int) (sa_cons (se_int) (sa_cons (se_int) (sa_cons (se_int) (sa_nil)))))) (sa_cons (se_non) (sa_cons (se_tup (sa_cons (se_int) (sa_cons (se_int) (sa_nil)))) (sa_cons (se_tup (sa_cons (se_int) (sa_nil))) (sa_cons (se_int) (sa_cons (se_tup (sa_cons (se_int) (sa_cons (se_bl) (sa_nil)))) (sa_cons (se_int) (sa_cons (se_bl) (sa_cons (se_bl) (sa_cons (se_bl) (sa_cons (se_int) (sa_nil))))))))))))))))))) (t_nm 2 Cs.toCan))
          (sb_cons (ss_asg (e_add Cs.toCan (se_var 2 (pv 2)) (se_lst (sa_cons (se_lst (sa_cons (se_int) (sa_cons (se_int) (sa_cons (se_int) (sa_nil))))) (sa_cons (se_int) (sa_cons (se_non) (sa_cons (se_non) (sa_cons (se_tup (sa_nil)) (sa_cons (se_int) (sa_cons (se_non) (sa_cons (se_non) (sa_nil))))))))))) (t_nm 2 Cs.toCan))
          (sb_one (ss_ret (e_eq Cs.toCan (se_var 0 (pv 0)) (se_var 2 (pv 2))))))))))))))))))))))
theorem sc_law : FnScope ["script", "dice", "other", "many", "steps", "way", "fits", "due", "some", "best", "good", "first", "fine", "number", "mine", "whole", "day", "month", "one", "year", "k", "serial", "two"] ["script"] (defScope s_law) := ⟨rfl, rfl, rfl, by decide +kernel, rfl, by decide +kernel, by decide +kernel⟩
end
end K10
namespace K10
open PySem PySem.Spec PyProof.Rows L2 Sh
abbrev In32 (a : Int) : Prop := 0 ≤ a ∧ a < 4294967296
abbrev zSame : List Nat := [115, 97, 109, 101]
abbrev zNei : List Nat := [110, 101, 105, 116, 104, 101, 114]
abbrev zLat : List Nat := [108, 97, 116, 101, 114]
abbrev zEar : List Nat := [101, 97, 114, 108, 105, 101, 114]
abbrev zErr : List Nat := [83, 101, 114, 105, 97, 108, 69, 114, 114, 111, 114]
def sw (a b : Int) : List Nat := if a = b then zSame else if (a - b) % 4294967296 = 2147483648 then zNei else if (a - b) % 4294967296 < 2147483648 then zLat else zEar
theorem s_check (a : Int) (h : IH) : f_check_serial [.int a] h = if In32 a then .ok .non h else .exc "SerialError" h := by
  simp [f_check_serial, fnM_eq, m_check_serial]
  (repeat' split) <;> first | rfl | (exfalso; omega)
theorem s_cmp (a b : Int) (h : IH) (ha : In32 a) (hb : In32 b) : f_compared_to [.int a, .int b] h = .ok (.str (sw a b)) h := by
  unfold sw
  simp [f_compared_to, fnM_eq, m_compared_to, s_check, ha, hb]
  (repeat' split) <;> first | rfl | (exfalso; omega)
theorem s_lcmp (a b : Int) (h : IH) (ha : In32 a) (hb : In32 b) : f_law_compared [.int a, .int b] h = .ok (.str (sw a b)) h := by
  unfold sw
  simp [f_law_compared, fnM_eq, m_law_compared]
  (repeat' split) <;> first | rfl | (exfalso; omega)
theorem s_later (a b : Int) (h : IH) (ha : In32 a) (hb : In32 b) : f_is_later [.int a, .int b] h = .ok (.bl (decide (sw a b = zLat))) h := by
  simp [f_is_later, fnM_eq, m_is_later, s_cmp, In32, ha, hb]
theorem s_added (a m : Int) (h : IH) (ha : In32 a) : f_added_to [.int a, .int m] h = if 1 ≤ m ∧ m < 2147483648 then .ok (.int ((a + m) % 4294967296)) h else .exc "SerialError" h := by
  simp [f_added_to, fnM_eq, m_added_to, s_check, ha]
  (repeat' split) <;> first | rfl | (exfalso; omega)
theorem in32_mod (a : Int) : In32 (a % 4294967296) := by omega
def stepsP (a b : Int) : List Int := if a = b then [] else if sw b a = zLat then [b] else if sw b ((a + 2147483647) % 4294967296) = zLat then [(a + 2147483647) % 4294967296, b] else [(a + 2147483647) % 4294967296, ((a + 2147483647) % 4294967296 + 2147483647) % 4294967296, b]
theorem s_steps (a b : Int) (h : IH) (ha : In32 a) (hb : In32 b) : f_steps_to [.int a, .int b] h = .ok (.tup ((stepsP a b).map .int)) h := by
  unfold stepsP
  simp [f_steps_to, fnM_eq, m_steps_to, s_check, s_later _ _ _ hb ha, s_later _ _ _ hb (in32_mod _), s_added _ _ _ ha, s_added _ _ _ (in32_mod _), ha, hb, big]
  (repeat' split) <;> first | rfl | (exfalso; omega)
def leapP (y : Int) : Bool := decide (y % 4 = 0 ∧ y % 100 ≠ 0 ∨ y % 400 = 0)
theorem s_leap (y : Int) (h : IH) : f_is_leap [.int y] h = .ok (.bl (leapP y)) h := by
  unfold leapP
  simp [f_is_leap, fnM_eq, m_is_leap]
  (repeat' split) <;> simp_all <;> omega
def dayP (y m : Int) : Int := if m = 2 then (if leapP y = true then 29 else 28) else if m = 4 ∨ m = 6 ∨ m = 9 ∨ m = 11 then 30 else 31
abbrev okM (y m : Int) : Prop := (1 ≤ y ∧ y ≤ 4294) ∧ 1 ≤ m ∧ m ≤ 12
theorem s_days (y m : Int) (h : IH) : f_days_in [.int y, .int m] h = if okM y m then .ok (.int (dayP y m)) h else .exc "SerialError" h := by
  unfold dayP
  simp [f_days_in, fnM_eq, m_days_in, s_leap, inI, big]
  (repeat' split) <;> first | rfl | (exfalso; omega)
theorem s_checkday (y m d : Int) (h : IH) : f_check_day [.int y, .int m, .int d] h = if okM y m ∧ 1 ≤ d ∧ d ≤ dayP y m then .ok .non h else .exc "SerialError" h := by
  simp [f_check_day, fnM_eq, m_check_day, s_days]
  (repeat' split) <;> first | rfl | (exfalso; omega)
def fstP (y m d : Int) : Int := ((y * 100 + m) * 100 + d) * 100
theorem s_first (y m d : Int) (h : IH) : f_first_of_day [.int y, .int m, .int d] h = if okM y m ∧ 1 ≤ d ∧ d ≤ dayP y m then .ok (.int (fstP y m d)) h else .exc "SerialError" h := by
  unfold fstP
  simp [f_first_of_day, fnM_eq, m_first_of_day, s_checkday]
theorem s_next (a y m d : Int) (h : IH) (ha : In32 a) : f_next_by_day [.int a, .int y, .int m, .int d] h = if (okM y m ∧ 1 ≤ d ∧ d ≤ dayP y m) ∧ fstP y m d < 4294967296 then .ok (.int (if sw (fstP y m d) a = zLat then fstP y m d else (a + 1) % 4294967296)) h else .exc "SerialError" h := by
  by_cases hc : okM y m ∧ 1 ≤ d ∧ d ≤ dayP y m
  · have h0 : 0 ≤ fstP y m d := by unfold fstP; omega
    by_cases hf : fstP y m d < 4294967296
    · have hi : In32 (fstP y m d) := ⟨h0, hf⟩
      simp [f_next_by_day, fnM_eq, m_next_by_day, s_first, hc, hf, s_later _ _ _ hi ha, s_added _ _ _ ha]
      (repeat' split) <;> first | rfl | (exfalso; omega)
    · simp [f_next_by_day, fnM_eq, m_next_by_day, s_first, hc, hf, f_is_later, m_is_later, f_compared_to, m_compared_to, s_check]
  · simp [f_next_by_day, fnM_eq, m_next_by_day, s_first, hc]
def mineP (a : Int) : List Int := [a / 1000000, a / 10000 % 100, a / 100 % 100, a % 100]
theorem s_told (a : Int) (h : IH) (ha : In32 a) : f_told_serial [.int a] h = if okM (a / 1000000) (a / 10000 % 100) ∧ 1 ≤ a / 100 % 100 ∧ a / 100 % 100 ≤ dayP (a / 1000000) (a / 10000 % 100) then .ok (.tup ((mineP a).map .int)) h else .ok .non h := by
  unfold mineP
  simp [f_told_serial, fnM_eq, m_told_serial, s_check, ha, s_days, big, pow200]
  (repeat' split) <;> first | rfl | (exfalso; omega)
end K10

namespace K10
open PySem PySem.Spec PyProof.Rows L2 Sh
def Dc (o : IO) : Prop := ∃ a b c, o = .lst [.int a, .int b, .int c]
def Dice (h : IH) (d : Nat) : Prop := ∃ o, h[d]? = some o ∧ Dc o
theorem Dice.set {h : IH} {d : Nat} {o : IO} (k : Dice h d) (q : Dc o) : Dice (h.set d o) d := by
  obtain ⟨o', e, _⟩ := k
  have := (List.getElem?_eq_some_iff.mp e).1
  exact ⟨o, by simp [this], q⟩
theorem s_roll1 (n : Nat) (h : IH) (d : Nat) (m : Int) (k : Dice h d) (hm : 0 < m ∧ m ≤ 100000000) : ∃ r o, f_law_roll (n + 1) [.ref d, .int m] h = .ok (.int r) (h.set d o) ∧ Dc o ∧ 0 ≤ r ∧ r < m := by
  obtain ⟨o, e, a, b, c, rfl⟩ := k
  have hl := (List.getElem?_eq_some_iff.mp e).1
  have hs : ∀ x, (h.set d x)[d]? = some x := fun x => by simp [hl]
  clear hl
  have hm1 := hm.1
  have hm2 : m < 1606938044258990275541962092341162602522202993782792835301376 := by omega
  have hm3 : ¬ 100000000 < m := by omega
  have hb : ∀ x : Int, 0 ≤ x % m ∧ x % m < m := fun x => ⟨Int.emod_nonneg _ (by omega), Int.emod_lt_of_pos _ (by omega)⟩
  by_cases hc : c = 2 ∨ c = 1 ∧ 0 < a
  · refine ⟨a % m, .lst [.int (a / m), .int b, .int c], ?_, ⟨_, _, _, rfl⟩, hb _⟩
    rcases hc with hc | ⟨hc, ha⟩
    · simp [f_law_roll, fnM_eq, m_law_roll, e, hc, hm1, hm2, atI, ixN, pow200, gSubL]
    · simp [f_law_roll, fnM_eq, m_law_roll, e, hc, ha, hm1, hm2, atI, ixN, pow200, gSubL]
  · have h1 : ¬ c = 2 := fun z => hc (.inl z)
    refine ⟨(((a * 48271 + b * 69621 + 11) % 2147483647) / 7) % m, .lst [.int ((a * 48271 + b * 69621 + 11) % 2147483647), .int (b + 1), .int 0], ?_, ⟨_, _, _, rfl⟩, hb _⟩
    by_cases h2 : c = 1
    · have ha : ¬ 0 < a := fun z => hc (.inr ⟨h2, z⟩)
      simp [f_law_roll, fnM_eq, m_law_roll, e, h2, ha, hm1, hm2, hm3, atI, ixN, pow200, gSubL, hs]
    · simp [f_law_roll, fnM_eq, m_law_roll, e, h1, h2, hm1, hm2, hm3, atI, ixN, pow200, gSubL, hs]
theorem Dice.ok {h : IH} {d : Nat} {o : IO} (e : h[d]? = some o) (q : Dc o) : Dice h d := ⟨o, e, q⟩
theorem s_roll (h : IH) (d : Nat) (m : Int) (k : Dice h d) (hm : 0 < m ∧ m ≤ 9000000000000) : ∃ r o, f_law_roll 2 [.ref d, .int m] h = .ok (.int r) (h.set d o) ∧ Dc o ∧ 0 ≤ r ∧ r < m := by
  by_cases hs : m ≤ 100000000
  · exact s_roll1 1 h d m k ⟨hm.1, hs⟩
  · obtain ⟨o, e, a, b, c, rfl⟩ := k
    have hl := (List.getElem?_eq_some_iff.mp e).1
    have hs' : ∀ x, (h.set d x)[d]? = some x := fun x => by simp [hl]
    clear hl
    have hm1 := hm.1
    have hm2 : m < 1606938044258990275541962092341162602522202993782792835301376 := by omega
    have hm3 : 100000000 < m := by omega
    have hb : ∀ x : Int, 0 ≤ x % m ∧ x % m < m := fun x => ⟨Int.emod_nonneg _ (by omega), Int.emod_lt_of_pos _ (by omega)⟩
    by_cases hc : c = 2 ∨ c = 1 ∧ 0 < a
    · refine ⟨a % m, .lst [.int (a / m), .int b, .int c], ?_, ⟨_, _, _, rfl⟩, hb _⟩
      rcases hc with hc | ⟨hc, ha⟩
      · simp [f_law_roll, fnM_eq, m_law_roll, e, hc, hm1, hm2, atI, ixN, pow200, gSubL]
      · simp [f_law_roll, fnM_eq, m_law_roll, e, hc, ha, hm1, hm2, atI, ixN, pow200, gSubL]
    · obtain ⟨r1, o1, e1, q1, b1, b2⟩ := s_roll1 0 (h.set d (.lst [.int a, .int b, .int 0])) d (m / 100000000 + 1) ⟨_, hs' _, _, _, _, rfl⟩ (by omega)
      obtain ⟨r2, o2, e2, q2, b3, b4⟩ := s_roll1 0 (h.set d o1) d 100000000 ⟨_, hs' _, q1⟩ (by omega)
      have z1 : -18446744073709551616 < r1 ∧ r1 < 18446744073709551616 := by omega
      refine ⟨(r1 * 100000000 + r2) % m, o2, ?_, q2, hb _⟩
      have h1 : ¬ c = 2 := fun z => hc (.inl z)
      rw [List.set_set] at e1 e2
      generalize hf : f_law_roll 1 = f1 at *
      have hf2 : f_law_roll 2 = fnM ["dice", "many", "found"] (m_law_roll f1) := by rw [← hf]; rfl
      rw [hf2]
      by_cases h2 : c = 1
      · have ha : ¬ 0 < a := fun z => hc (.inr ⟨h2, z⟩)
        simp [fnM_eq, m_law_roll, e, h2, ha, hm1, hm2, hm3, atI, ixN, pow200, gSubL, e1, e2, z1]
      · simp [fnM_eq, m_law_roll, e, h1, h2, hm1, hm2, hm3, atI, ixN, pow200, gSubL, e1, e2, z1]
end K10

namespace K10
open PySem PySem.Spec PyProof.Rows L2 Sh
/-- all but d's place stays -/
structure Ext (d : Nat) (h h' : IH) : Prop where
  len : h.length ≤ h'.length
  at_ : ∀ i, i < h.length → i ≠ d → h'[i]? = h[i]?
theorem Ext.refl {d : Nat} {h : IH} : Ext d h h := ⟨Nat.le_refl _, fun _ _ _ => rfl⟩
theorem Ext.trans {d : Nat} {h h1 h2 : IH} (a : Ext d h h1) (b : Ext d h1 h2) : Ext d h h2 := ⟨Nat.le_trans a.len b.len, fun i hi hd => (b.at_ i (Nat.lt_of_lt_of_le hi a.len) hd).trans (a.at_ i hi hd)⟩
theorem Ext.set {d : Nat} {h : IH} {o : IO} : Ext d h (h.set d o) := ⟨by simp, fun i _ hd => by rw [List.getElem?_set_ne (Ne.symm hd)]⟩
theorem Ext.app {d : Nat} {h l : IH} : Ext d h (h ++ l) := ⟨by simp, fun i hi _ => List.getElem?_append_left hi⟩
theorem Ext.get {d : Nat} {h h' : IH} (x : Ext d h h') {i : Nat} {o : IO} (e : h[i]? = some o) (hd : i ≠ d) : h'[i]? = some o := (x.at_ i (List.getElem?_eq_some_iff.mp e).1 hd).trans e
theorem Dice.lt {h : IH} {d : Nat} (k : Dice h d) : d < h.length := by
  obtain ⟨o, e, _⟩ := k
  exact (List.getElem?_eq_some_iff.mp e).1
theorem Dice.app {h l : IH} {d : Nat} (k : Dice h d) : Dice (h ++ l) d := by
  have hl := k.lt
  obtain ⟨o, e, q⟩ := k
  exact ⟨o, by rw [List.getElem?_append_left hl]; exact e, q⟩
theorem s_rollE (h : IH) (d : Nat) (m : Int) (k : Dice h d) (hm : 0 < m ∧ m ≤ 9000000000000) : ∃ r h', f_law_roll 2 [.ref d, .int m] h = .ok (.int r) h' ∧ (0 ≤ r ∧ r < m) ∧ Dice h' d ∧ Ext d h h' ∧ h'.length = h.length := by
  obtain ⟨r, o, e, q, a, b⟩ := s_roll h d m k hm
  exact ⟨r, _, e, ⟨a, b⟩, k.set q, Ext.set, by simp⟩
theorem s_serial (h : IH) (d : Nat) (k : Dice h d) : ∃ r h', f_law_serial [.ref d] h = .ok (.int r) h' ∧ In32 r ∧ Dice h' d ∧ Ext d h h' := by
  obtain ⟨r1, h1, e1, b1, k1, x1, l1⟩ := s_rollE h d 4294967296 k (by omega)
  obtain ⟨r2, h2, e2, b2, k2, x2, l2⟩ := s_rollE h1 d 5 k1 (by omega)
  obtain ⟨r3, h3, e3, b3, k3, x3, l3⟩ := s_rollE h2 d 5 k2 (by omega)
  obtain ⟨r4, h4, e4, b4, k4, x4, l4⟩ := s_rollE h3 d 5 k3 (by omega)
  obtain ⟨L, hL⟩ : ∃ L, L = [IV.int r1, IV.int r2, IV.int (2147483646 + r3), IV.int (4294967295 - r4)] := ⟨_, rfl⟩
  have hLl : L.length = 4 := by rw [hL]; rfl
  obtain ⟨r5, h5, e5, b5, k5, x5, l5⟩ := s_rollE (h4 ++ [Sh.IO.lst L]) d 4 k4.app (by omega)
  have hx : h5[h4.length]? = some (Sh.IO.lst L) := x5.get (new_at _ _) (Nat.ne_of_gt k4.lt)
  have fin : ∀ r : Int, In32 r → atI L r5 = some (.int r) → ∃ r h', f_law_serial [.ref d] h = .ok (.int r) h' ∧ In32 r ∧ Dice h' d ∧ Ext d h h' := fun r hr e => by
    refine ⟨r, h5, ?_, hr, k5, x1.trans (x2.trans (x3.trans (x4.trans (Ext.app.trans x5))))⟩
    simp [f_law_serial, fnM_eq, m_law_serial, e1, e2, e3, e4, big, ← hL, hLl, e5, hx, e]
  have c5 : r5 = 0 ∨ r5 = 1 ∨ r5 = 2 ∨ r5 = 3 := by omega
  subst hL
  rcases c5 with c | c | c | c <;> subst c
  · exact fin r1 b1 rfl
  · exact fin r2 (by omega) rfl
  · exact fin (2147483646 + r3) (by omega) rfl
  · exact fin (4294967295 - r4) (by omega) rfl
end K10

namespace K10
open PySem PySem.Spec PyProof.Rows L2 Sh
theorem s_ldays (y m : Int) (h : IH) (hm : 1 ≤ m ∧ m ≤ 12) : ∃ o, f_law_days [.int y, .int m] h = .ok (.int (dayP y m)) (h ++ [o]) := by
  have c : m = 1 ∨ m = 2 ∨ m = 3 ∨ m = 4 ∨ m = 5 ∨ m = 6 ∨ m = 7 ∨ m = 8 ∨ m = 9 ∨ m = 10 ∨ m = 11 ∨ m = 12 := by omega
  refine ⟨.lst [.int 31, .int (28 + if leapP y = true then 1 else 0), .int 31, .int 30, .int 31, .int 30, .int 31, .int 31, .int 30, .int 31, .int 30, .int 31], ?_⟩
  have hb : (28 : Int) + (if leapP y = true then 1 else 0) = if leapP y = true then 29 else 28 := by split <;> rfl
  have key : ∀ (k : Bool), k = leapP y → (f_law_days [.int y, .int m] h = ((sRet (m2 gIx (mLst (mCons (mC (.int 31)) (mCons (m2 gAdd (mC (.int 28)) (mCall gInt (mCons (mVar 2) (mNil)))) (mCons (mC (.int 31)) (mCons (mC (.int 30)) (mCons (mC (.int 31)) (mCons (mC (.int 30)) (mCons (mC (.int 31)) (mCons (mC (.int 31)) (mCons (mC (.int 30)) (mCons (mC (.int 31)) (mCons (mC (.int 30)) (mCons (mC (.int 31)) (mNil)))))))))))))) (m2 Sh.gSub (mVar 1) (mC (.int 1))))) [some (.int y), some (.int m), some (.bl k)] h).fin) := by
    intro k hk
    subst hk
    unfold leapP
    simp [f_law_days, fnM_eq, m_law_days, -sRet]
    by_cases h1 : y % 400 = 0 <;> by_cases h2 : y % 4 = 0 <;> by_cases h3 : y % 100 = 0 <;> simp [h1, h2, h3, -sRet]
  rw [key _ rfl]
  rcases c with c | c | c | c | c | c | c | c | c | c | c | c <;> subst c <;> simp [dayP, big, atI, ixN, hb] <;> (try (split <;> rfl))
def okS (a b : Int) : Bool := decide (sw a b = zSame) || decide (sw a b = zLat)
def bestP (xs : List Int) : List Int := xs.filter fun a => xs.all (okS a)
theorem beq_dec (u s : List Nat) : (u == s) = decide (s = u) := by
  by_cases e : s = u
  · subst e; simp
  · rw [decide_eq_false e, beq_eq_false_iff_ne.mpr (Ne.symm e)]
theorem okS_in {a b : Int} {h : IH} : gIn false (.str (sw a b)) (.tup [.str zSame, .str zLat]) h = .ok (.bl (okS a b)) h := by
  unfold okS
  generalize sw a b = s
  simp only [gIn, flatI, List.all_cons, List.all_nil, Bool.and_true, Bool.and_self, if_true, inI, List.any_cons, List.any_nil, eqI, Bool.or_false, beq_dec, Bool.false_eq_true, if_false]
theorem filter_split {α : Type} {p : α → Bool} {xs : List α} {i : Nat} {b : α} (hb : xs[i]? = some b) (hf : (xs.take i).filter p = []) (hp : p b = true) : xs.filter p = b :: (xs.drop (i + 1)).filter p := by
  conv => lhs; rw [← List.take_append_drop (i + 1) xs]
  rw [List.filter_append, List.take_add_one, hb, List.filter_append, hf]
  simp [hp]
theorem s_latest (xs : List Int) (n : Nat) (h : IH) (e : h[n]? = some (.lst (xs.map .int))) (hx : ∀ a ∈ xs, In32 a) (hne : xs ≠ []) : f_latest_of [.ref n] h = .ok (match bestP xs with | [] => .non | a :: _ => .int a) h := by
  have hlen : ¬ xs.length = 0 := fun z => hne (List.length_eq_zero_iff.mp z)
  have inner : ∀ a ∈ xs, mGen (mItV (mVar 0)) [2] (gName' 2) (mC (IV.bl true))
                (m2 (gIn false) (mOwn 2 f_compared_to (mCons (mVar 1) (mCons (mVar 2) mNil)))
                  (mTup (mCons (mC (IV.str [115, 97, 109, 101])) (mCons (mC (IV.str [108, 97, 116, 101, 114])) mNil))))
                ["NameFault", "SerialError"] (stB false) (finB false) () [some (.ref n), some (.int a), none] h = .ok (.bl (xs.all (okS a))) h := by
    intro a ha
    have e2 : ∀ z, mItV (mVar 0) [some (.ref n), some (.int a), z] h = .ok (srL n xs.length) h := fun z => by simp [e, -srL]
    simp only [mGen, e2, wipeI]
    refine genL_run (Q := fun r => r = .ok (.bl (xs.all (okS a))) h) (xs.map .int) (fun i _ e' h' => h' = h ∧ (∃ z, e' = [some (.ref n), some (.int a), z]) ∧ ∀ b ∈ xs.take i, okS a b = true) ?_ ?_ ?_ xs.length 0 _ () _ h (by simp) (by simp [srL]) ⟨rfl, ⟨_, rfl⟩, by simp⟩
    · rintro i x _ e' h' hx' ⟨rfl, _, _⟩
      exact srL_it e hx'
    · rintro _ e' h' ⟨rfl, _, hall⟩
      refine ⟨srL_end e, ?_⟩
      have : xs.all (okS a) = true := List.all_eq_true.mpr fun b hb => hall b (by simpa using hb)
      simp [this]
    · rintro i x _ e' h' hx' ⟨rfl, ⟨z, rfl⟩, hall⟩
      rw [List.getElem?_map] at hx'
      cases hb : xs[i]? with
      | none => rw [hb] at hx'; cases hx'
      | some b =>
        rw [hb] at hx'
        cases hx'
        have hbm := List.mem_of_getElem? hb
        refine ⟨[some (.ref n), some (.int a), some (.int b)], h', true, h', by simp, by simp, ?_⟩
        rw [if_pos rfl]
        refine ⟨.bl (okS a b), h', ?_, ?_⟩
        · have := @okS_in a b h'
          simp [s_cmp _ _ _ (hx a ha) (hx b hbm), big, -gIn]
          exact this
        · cases ho : okS a b with
          | true =>
            refine .inl ⟨(), by simp [stB], rfl, ⟨_, rfl⟩, fun c hc => ?_⟩
            rw [List.take_add_one, hb] at hc
            rcases List.mem_append.mp hc with hc | hc
            · exact hall c hc
            · simp at hc; rw [hc]; exact ho
          | false =>
            refine .inr ⟨.bl false, by simp [stB], ?_⟩
            have : xs.all (okS a) = false := by
              rw [Bool.eq_false_iff]
              intro z
              rw [List.all_eq_true.mp z b hbm] at ho
              cases ho
            rw [this]
  have hfor : ∀ Q : Fl → Prop, (∀ a r, bestP xs = a :: r → Q (.rt (.int a) h)) → (bestP xs = [] → ∀ e', Q (.nx e' h)) → Q (forL (srL n xs.length) (gName' 1) (sIf (mGen (mItV (mVar 0)) [2] (gName' 2) (mC (IV.bl true))
                (m2 (gIn false) (mOwn 2 f_compared_to (mCons (mVar 1) (mCons (mVar 2) mNil)))
                  (mTup (mCons (mC (IV.str [115, 97, 109, 101])) (mCons (mC (IV.str [108, 97, 116, 101, 114])) mNil))))
                ["NameFault", "SerialError"] (stB false) (finB false) ())
              (sRet (mVar 1)) sSkip) (xs.length + 1) 0 [some (IV.ref n), none, none] h) := by
    intro Q q1 q2
    refine forL_run (Q := Q) (xs.map .int) (fun i e' h' => h' = h ∧ (∃ z, e' = [some (.ref n), z, none]) ∧ (xs.take i).filter (fun a => xs.all (okS a)) = []) ?_ ?_ ?_ xs.length 0 _ _ h (by simp) (by simp) ⟨rfl, ⟨_, rfl⟩, by simp⟩
    · rintro i x e' h' hx' ⟨rfl, _, _⟩
      exact srL_it e hx'
    · rintro e' h' ⟨rfl, _, hf⟩
      refine ⟨srL_end e, q2 ?_ _⟩
      simpa [bestP] using hf
    · rintro i x e' h' hx' ⟨rfl, ⟨z, rfl⟩, hf⟩
      rw [List.getElem?_map] at hx'
      cases hb : xs[i]? with
      | none => rw [hb] at hx'; cases hx'
      | some b =>
        rw [hb] at hx'
        cases hx'
        have hbm := List.mem_of_getElem? hb
        refine ⟨[some (.ref n), some (.int b), none], h', by simp, ?_⟩
        rw [sIf_eq, inner b hbm]
        cases ho : xs.all (okS b) with
        | false =>
          simp only [st_ok, brM_f, sSkip, Fl.lp]
          refine ⟨trivial, ⟨_, rfl⟩, ?_⟩
          rw [List.take_add_one, hb, List.filter_append, hf]
          simp [ho]
        | true =>
          have := q1 b _ (filter_split hb hf ho)
          simp [Fl.lp]
          exact this
  simp [f_latest_of, fnM_eq, m_latest_of, e, hlen, -srL, -mGen]
  refine hfor (fun r => (r.thn (sRet (mC .non))).fin = _) (fun a r hr => ?_) (fun hr e' => ?_)
  · rw [hr]; simp
  · rw [hr]; simp
end K10

namespace K10
open PySem PySem.Spec PyProof.Rows L2 Sh
theorem okS_nin {a b : Int} {h : IH} {k : Nat} (e : h[k]? = some (.lst [.str zSame, .str zLat])) : gIn true (.str (sw a b)) (.ref k) h = .ok (.bl (!okS a b)) h := by
  unfold okS
  generalize sw a b = s
  simp only [gIn, e, flatI, List.all_cons, List.all_nil, Bool.and_true, Bool.and_self, if_true, inI, List.any_cons, List.any_nil, eqI, Bool.or_false, beq_dec]
theorem set_get {e : IE} {i j : Nat} {x y : Option IV} (z : e[j]? = some y) (n : i ≠ j) : (e.set i x)[j]? = some y := by rw [List.getElem?_set_ne n]; exact z
theorem set_own {e : IE} {i : Nat} {x y : Option IV} (z : e[i]? = some y) : (e.set i x)[i]? = some x := by
  have := (List.getElem?_eq_some_iff.mp z).1
  simp [this]
theorem mVar_at {e : IE} {h : IH} {i : Nat} {x : IV} (z : e[i]? = some (some x)) : mVar i e h = .ok x h := by simp [z]
abbrev t_in : ME := m2 (gIn true) (mOwn 2 f_law_compared (mCons (mVar 21) (mCons (mVar 22) (mNil)))) (mLst (mCons (mC (.str [115, 97, 109, 101])) (mCons (mC (.str [108, 97, 116, 101, 114])) (mNil))))
theorem two_run (xs : List Int) (n : Nat) (a : Int) (hx : ∀ a ∈ xs, In32 a) (ha : In32 a) (hl : xs.length < 1000) (e : IE) (h : IH) (en : h[n]? = some (.lst (xs.map .int))) (e8 : e[8]? = some (some (.ref n))) (e21 : e[21]? = some (some (.int a))) (y22 : ∃ z, e[22]? = some z) :
    ∃ h', mLc (mItV (mVar 8)) [22] (gName' 22) t_in (mVar 22) e h = .ok (.ref h.length) h' ∧ h <+: h' ∧ h'[h.length]? = some (.lst ((xs.filter fun b => !okS a b).map .int)) := by
  obtain ⟨z22, e22⟩ := y22
  have e2 : mItV (mVar 8) e h = .ok (srL n xs.length) h := by simp [mVar_at e8, en, -srL, -mVar]
  simp only [mLc, e2, wipeI]
  refine lcL_run (Q := fun r => ∃ h', r = .ok (.ref h.length) h' ∧ h <+: h' ∧ h'[h.length]? = some (.lst ((xs.filter fun b => !okS a b).map .int))) (xs.map .int)
    (fun i acc e' h' => h <+: h' ∧ h'[h.length]? = some (.lst acc) ∧ acc = ((xs.take i).filter fun b => !okS a b).map .int ∧ e'[21]? = some (some (.int a)) ∧ ∃ z, e'[22]? = some z) ?_ ?_ ?_ xs.length 0 _ [] _ _ (by simp) (by simp [srL]) ⟨List.prefix_append _ _, new_at _ _, by simp, set_get e21 (by decide), ⟨_, set_own e22⟩⟩
  · rintro i x acc e' h' hx' ⟨p, _⟩
    exact srL_it (pre_get p en) hx'
  · rintro acc e' h' ⟨p, q, rfl, _⟩
    refine ⟨srL_end (pre_get p en), h', rfl, p, by simpa using q⟩
  · rintro i x acc e' h' hx' ⟨p, q, rfl, q21, z, q22⟩
    rw [List.getElem?_map] at hx'
    cases hb : xs[i]? with
    | none => rw [hb] at hx'; cases hx'
    | some b =>
      rw [hb] at hx'
      cases hx'
      have hbm := List.mem_of_getElem? hb
      have q21' : (e'.set 22 (some (.int b)))[21]? = some (some (.int a)) := set_get q21 (by decide)
      have q22' : (e'.set 22 (some (.int b)))[22]? = some (some (.int b)) := set_own q22
      refine ⟨_, h', !okS a b, h' ++ [.lst [.str zSame, .str zLat]], rfl, ?_, ?_⟩
      · have := @okS_nin a b (h' ++ [Sh.IO.lst [.str zSame, .str zLat]]) h'.length (new_at _ _)
        simp [mVar_at q21', mVar_at q22', s_lcmp _ _ _ ha (hx b hbm), big, -gIn, -mVar]
        exact this
      · have pp := pre_app (l := [Sh.IO.lst [.str zSame, .str zLat]]) p
        have qq := app_at (l := [Sh.IO.lst [.str zSame, .str zLat]]) q
        have tk : (xs.take (i + 1)).filter (fun b => !okS a b) = (xs.take i).filter (fun b => !okS a b) ++ (if okS a b = true then [] else [b]) := by
          rw [List.take_add_one, hb, List.filter_append]
          cases ho : okS a b <;> simp [ho]
        cases ho : okS a b with
        | true =>
          simp only [Bool.not_true, Bool.false_eq_true, if_false]
          refine ⟨pp, qq, ?_, q21', _, q22'⟩
          rw [tk, ho]; simp
        | false =>
          simp only [Bool.not_false, if_true]
          refine ⟨.int b, _, mVar_at q22', qq, ?_, pre_set pp (Nat.le_refl _), set_at qq, ?_, q21', _, q22'⟩
          · have := List.length_filter_le (fun b => !okS a b) (xs.take i)
            have h3 : (xs.take i).length ≤ xs.length := by simp; omega
            have : sizeLine > 1000 := by decide
            simp only [List.length_map]
            omega
          · rw [tk, ho]; simp
theorem best_run (xs : List Int) (n : Nat) (hx : ∀ a ∈ xs, In32 a) (hl : xs.length < 1000) (e : IE) (h : IH) (en : h[n]? = some (.lst (xs.map .int))) (e8 : e[8]? = some (some (.ref n))) (y21 : ∃ z, e[21]? = some z) (y22 : ∃ z, e[22]? = some z) :
    ∃ h', mLc (mItV (mVar 8)) [21] (gName' 21) (m2 gEq (mLc (mItV (mVar 8)) [22] (gName' 22) t_in (mVar 22)) (mLst mNil)) (mVar 21) e h = .ok (.ref h.length) h' ∧ h <+: h' ∧ h'[h.length]? = some (.lst ((bestP xs).map .int)) := by
  obtain ⟨z21, e21⟩ := y21
  obtain ⟨z22, e22⟩ := y22
  have e2 : mItV (mVar 8) e h = .ok (srL n xs.length) h := by simp [mVar_at e8, en, -srL, -mVar]
  simp only [mLc, e2, wipeI]
  have hnil : ∀ a, decide ((xs.filter fun b => !okS a b) = []) = xs.all (okS a) := fun a => by
    rw [Bool.eq_iff_iff]
    simp [List.filter_eq_nil_iff, List.all_eq_true]
  refine lcL_run (Q := fun r => ∃ h', r = .ok (.ref h.length) h' ∧ h <+: h' ∧ h'[h.length]? = some (.lst ((bestP xs).map .int))) (xs.map .int)
    (fun i acc e' h' => h <+: h' ∧ h'[h.length]? = some (.lst acc) ∧ acc = ((xs.take i).filter fun a => xs.all (okS a)).map .int ∧ e'[8]? = some (some (.ref n)) ∧ (∃ z, e'[21]? = some z) ∧ ∃ z, e'[22]? = some z) ?_ ?_ ?_ xs.length 0 _ [] _ _ (by simp) (by simp [srL]) ⟨List.prefix_append _ _, new_at _ _, by simp, set_get e8 (by decide), ⟨_, set_own e21⟩, ⟨_, set_get e22 (by decide)⟩⟩
  · rintro i x acc e' h' hx' ⟨p, _⟩
    exact srL_it (pre_get p en) hx'
  · rintro acc e' h' ⟨p, q, rfl, _⟩
    refine ⟨srL_end (pre_get p en), h', rfl, p, by simpa [bestP] using q⟩
  · rintro i x acc e' h' hx' ⟨p, q, rfl, q8, ⟨z1, q21⟩, z2, q22⟩
    rw [List.getElem?_map] at hx'
    cases hb : xs[i]? with
    | none => rw [hb] at hx'; cases hx'
    | some a =>
      rw [hb] at hx'
      cases hx'
      have ham := List.mem_of_getElem? hb
      have q8' : (e'.set 21 (some (.int a)))[8]? = some (some (.ref n)) := set_get q8 (by decide)
      have q21' : (e'.set 21 (some (.int a)))[21]? = some (some (.int a)) := set_own q21
      have q22' : (e'.set 21 (some (.int a)))[22]? = some z2 := set_get q22 (by decide)
      obtain ⟨h2, t1, t2, t3⟩ := two_run xs n a hx (hx a ham) hl _ h' (pre_get p en) q8' q21' ⟨_, q22'⟩
      refine ⟨_, h', xs.all (okS a), h2 ++ [.lst []], rfl, ?_, ?_⟩
      · have g1 := gEq_ints (h := h2 ++ [Sh.IO.lst []]) (k := h'.length) (j := h2.length) (ys := xs.filter fun b => !okS a b) (zs := []) (app_at t3) (new_at _ _)
        rw [hnil] at g1
        simp only [m2, t1, bind_ok, mLst, mNil]
        simp [big]
        exact g1
      · have pp : h <+: h2 ++ [Sh.IO.lst []] := pre_app (p.trans t2)
        have qq := app_at (l := [Sh.IO.lst []]) (pre_get t2 q)
        have tk : (xs.take (i + 1)).filter (fun a => xs.all (okS a)) = (xs.take i).filter (fun a => xs.all (okS a)) ++ (if xs.all (okS a) = true then [a] else []) := by
          rw [List.take_add_one, hb, List.filter_append]
          cases ho : xs.all (okS a) <;> simp [ho]
        cases ho : xs.all (okS a) with
        | false =>
          simp only [Bool.false_eq_true, if_false]
          refine ⟨pp, qq, ?_, q8', ⟨_, q21'⟩, _, q22'⟩
          rw [tk, ho]; simp
        | true =>
          simp only [if_true]
          refine ⟨.int a, _, mVar_at q21', qq, ?_, pre_set pp (Nat.le_refl _), set_at qq, ?_, q8', ⟨_, q21'⟩, _, q22'⟩
          · have := List.length_filter_le (fun a => xs.all (okS a)) (xs.take i)
            have h3 : (xs.take i).length ≤ xs.length := by simp; omega
            have : sizeLine > 1000 := by decide
            simp only [List.length_map]
            omega
          · rw [tk, ho]; simp
end K10

namespace K10
open PySem PySem.Spec PyProof.Rows L2 Sh
theorem some_run (d : Nat) (e : IE) (h : IH) (k : Dice h d) (e1 : e[1]? = some (some (.ref d))) (y20 : ∃ z, e[20]? = some z) :
    ∃ (h' : IH) (n : Nat) (xs : List Int), mLc (mRng1 (mCons (m2 gAdd (mC (.int 1)) (mOwn 2 (f_law_roll 2) (mCons (mVar 1) (mCons (mC (.int 4)) (mNil))))) (mNil))) [20] (gName' 20) (mC (.bl true)) (mOwn 1 f_law_serial (mCons (mVar 1) (mNil))) e h = .ok (.ref n) h' ∧ Ext d h h' ∧ Dice h' d ∧ h'[n]? = some (.lst (xs.map .int)) ∧ (∀ a ∈ xs, In32 a) ∧ 1 ≤ xs.length ∧ xs.length ≤ 4 ∧ n ≠ d := by
  obtain ⟨z20, e20⟩ := y20
  obtain ⟨r, h1, er, br, k1, x1, l1⟩ := s_rollE h d 4 k (by omega)
  have e2 : mRng1 (mCons (m2 gAdd (mC (.int 1)) (mOwn 2 (f_law_roll 2) (mCons (mVar 1) (mCons (mC (.int 4)) (mNil))))) (mNil)) e h = .ok (srR 0 (1 + r)) h1 := by
    have : (-4611686018427387904 ≤ 1 + r) ∧ 1 + r < 4611686018427387904 := by omega
    simp [mVar_at e1, er, -srR, -mVar, this]
  simp only [mLc, e2, wipeI]
  have hd : d < h1.length := k1.lt
  have hn : h1.length ≠ d := by omega
  refine lcL_run (Q := fun r' => ∃ (h' : IH) (n : Nat) (xs : List Int), r' = .ok (.ref n) h' ∧ Ext d h h' ∧ Dice h' d ∧ h'[n]? = some (.lst (xs.map .int)) ∧ (∀ a ∈ xs, In32 a) ∧ 1 ≤ xs.length ∧ xs.length ≤ 4 ∧ n ≠ d) (rngL 0 (1 + r).toNat)
    (fun i acc e' h' => Ext d h h' ∧ Dice h' d ∧ (∃ xs : List Int, acc = xs.map .int ∧ xs.length = i ∧ ∀ a ∈ xs, In32 a) ∧ h'[h1.length]? = some (.lst acc) ∧ i ≤ 4 ∧ e'[1]? = some (some (.ref d)) ∧ ∃ z, e'[20]? = some z) ?_ ?_ ?_ (1 + r).toNat 0 _ [] _ _ (by simp [rngL_len]) (by simp [srR])
    ⟨x1.trans Ext.app, k1.app, ⟨[], rfl, rfl, by simp⟩, new_at _ _, by omega, set_get e1 (by decide), ⟨_, set_own e20⟩⟩
  · rintro i x acc e' h' hx' _
    obtain ⟨q1, rfl⟩ := rngL_get hx'
    exact srR_it (by simpa using q1)
  · rintro acc e' h' ⟨p, q, ⟨xs, rfl, hl, hx⟩, q3, _⟩
    rw [rngL_len] at *
    have hl2 : xs.length = (1 + r).toNat := hl
    exact ⟨by have := srR_end (lo := 0) (hi := 1 + r) (h := h'); simpa using this, h', _, xs, rfl, p, q, q3, hx, by omega, by omega, hn⟩
  · rintro i x acc e' h' hx' ⟨p, q, ⟨xs, rfl, hl, hx⟩, q3, q4, q5, z, q6⟩
    obtain ⟨w1, rfl⟩ := rngL_get hx'
    have q5' : (e'.set 20 (some (.int (0 + (i : Nat)))))[1]? = some (some (.ref d)) := set_get q5 (by decide)
    obtain ⟨a, h2, ea, ia, ka, xa⟩ := s_serial h' d q
    have q3' := xa.get q3 hn
    refine ⟨_, h', true, h', rfl, rfl, ?_⟩
    rw [if_pos rfl]
    refine ⟨.int a, h2, ?_, q3', ?_, ?_, ?_, ⟨xs ++ [a], by simp, by simp [hl], ?_⟩, set_at q3', by omega, q5', _, set_own q6⟩
    · simp only [mOwn_eq, mCons, mNil, mVar_at q5', bind_ok]
      simp [ea]
    · have : sizeLine > 1000 := by decide
      simp only [List.length_map]
      omega
    · have h0 : h.length ≤ h1.length := x1.len
      have pp := p.trans xa
      refine ⟨by have := pp.len; simpa using this, fun j hj hjd => ?_⟩
      rw [List.getElem?_set_ne (by omega)]
      exact pp.at_ j hj hjd
    · obtain ⟨o, eo, co⟩ := ka
      exact ⟨o, set_ne eo hn, co⟩
    · intro b hb
      rcases List.mem_append.mp hb with hb | hb
      · exact hx b hb
      · simp at hb; rw [hb]; exact ia
/-- the primary at p, its list at q -/
structure Pr (h : IH) (p q : Nat) (s each w : Int) (had : List Int) : Prop where
  p_ : h[p]? = some (.ins "Primary" [.int s, .int each, .int w, .ref q])
  q_ : h[q]? = some (.lst (had.map .int))
/-- only these places change -/
structure Kp (l : List Nat) (h h' : IH) : Prop where
  len : h.length ≤ h'.length
  at_ : ∀ i, i < h.length → i ∉ l → h'[i]? = h[i]?
theorem Kp.refl {l : List Nat} {h : IH} : Kp l h h := ⟨Nat.le_refl _, fun _ _ _ => rfl⟩
theorem Kp.trans {l : List Nat} {h h1 h2 : IH} (a : Kp l h h1) (b : Kp l h1 h2) : Kp l h h2 := ⟨Nat.le_trans a.len b.len, fun i hi hd => (b.at_ i (Nat.lt_of_lt_of_le hi a.len) hd).trans (a.at_ i hi hd)⟩
theorem Kp.mono {l l' : List Nat} {h h' : IH} (a : Kp l h h') (s : ∀ i ∈ l, i ∈ l') : Kp l' h h' := ⟨a.len, fun i hi hd => a.at_ i hi fun z => hd (s i z)⟩
theorem Kp.set {l : List Nat} {h : IH} {i : Nat} {o : IO} (m : i ∈ l) : Kp l h (h.set i o) := ⟨by simp, fun j _ hd => by rw [List.getElem?_set_ne (fun z => hd (by rw [← z]; exact m))]⟩
theorem Kp.app {l : List Nat} {h r : IH} : Kp l h (h ++ r) := ⟨by simp, fun i hi _ => List.getElem?_append_left hi⟩
theorem Kp.get {l : List Nat} {h h' : IH} (x : Kp l h h') {i : Nat} {o : IO} (e : h[i]? = some o) (hd : i ∉ l) : h'[i]? = some o := (x.at_ i (get_lt e) hd).trans e
theorem Ext.kp {d : Nat} {h h' : IH} (x : Ext d h h') : Kp [d] h h' := ⟨x.len, fun i hi hd => x.at_ i hi (by simpa using hd)⟩
theorem Dice.kp {l : List Nat} {h h' : IH} {d : Nat} (k : Dice h d) (x : Kp l h h') (hd : d ∉ l) : Dice h' d := by
  obtain ⟨o, e, q⟩ := k
  exact ⟨o, x.get e hd, q⟩
theorem s_tell (h : IH) (p q : Nat) (s each w : Int) (had : List Int) (P : Pr h p q s each w had) (hs : In32 s) (hl : had.length < 1000) : ∃ h', f_Primary_tell_now [.ref p] h = .ok (.int ((s + 1) % 4294967296)) h' ∧ Pr h' p q ((s + 1) % 4294967296) each 0 (had ++ [(s + 1) % 4294967296]) ∧ Kp [p, q] h h' := by
  obtain ⟨ep, eq⟩ := P
  have hne : p ≠ q := fun z => by rw [z, eq] at ep; cases ep
  have hne' : q ≠ p := Ne.symm hne
  have s1 : ∀ o : Sh.IO, (h.set p o)[p]? = some o := fun o => set_at ep
  have s2 : ∀ o : Sh.IO, (h.set p o)[q]? = some (.lst (had.map .int)) := fun o => set_ne eq hne
  have s3 : ∀ o o' : Sh.IO, ((h.set p o).set q o')[p]? = some o := fun o o' => set_ne (s1 o) hne'
  have hl2 : had.length < sizeLine := Nat.lt_trans hl (by decide)
  refine ⟨(h.set p (.ins "Primary" [.int ((s + 1) % 4294967296), .int each, .int 0, .ref q])).set q (.lst ((had ++ [(s + 1) % 4294967296]).map .int)), ?_, ⟨s3 _ _, set_at (s2 _)⟩, (Kp.set (by simp)).trans (Kp.set (by simp))⟩
  simp [f_Primary_tell_now, fnM_eq, m_Primary_tell_now, sFldI, mFld, mBM, noX, okT, ep, s_added _ _ _ hs, s1, s2, s3, putI, hl2]
end K10

namespace K10
open PySem PySem.Spec PyProof.Rows L2 Sh
theorem s_change (h : IH) (p q : Nat) (s each w : Int) (had : List Int) (P : Pr h p q s each w had) (hs : In32 s) (hl : had.length < 1000) :
    (w + 1 < each → ∃ h', f_Primary_change_once [.ref p] h = .ok (.bl false) h' ∧ Pr h' p q s each (w + 1) had ∧ Kp [p, q] h h') ∧
    (¬ w + 1 < each → ∃ h', f_Primary_change_once [.ref p] h = .ok (.bl true) h' ∧ Pr h' p q ((s + 1) % 4294967296) each 0 (had ++ [(s + 1) % 4294967296]) ∧ Kp [p, q] h h') := by
  have P0 := P
  obtain ⟨ep, eq⟩ := P
  have hne : p ≠ q := fun z => by rw [z, eq] at ep; cases ep
  have hne' : q ≠ p := Ne.symm hne
  obtain ⟨H, eH⟩ : ∃ H, H = h.set p (.ins "Primary" [.int s, .int each, .int (w + 1), .ref q]) := ⟨_, rfl⟩
  have s1 : H[p]? = some (.ins "Primary" [.int s, .int each, .int (w + 1), .ref q]) := by rw [eH]; exact set_at ep
  have s2 : H[q]? = some (.lst (had.map .int)) := by rw [eH]; exact set_ne eq hne
  have kp : Kp [p, q] h H := by rw [eH]; exact Kp.set (by simp)
  refine ⟨fun hc => ⟨H, ?_, ⟨s1, s2⟩, kp⟩, fun hc => ?_⟩
  · simp [f_Primary_change_once, fnM_eq, m_Primary_change_once, sAugF, mFld, ep, s1, putI, ← eH, hc]
  · obtain ⟨h2, e2, P2, k2⟩ := s_tell H p q s each (w + 1) had ⟨s1, s2⟩ hs hl
    refine ⟨h2, ?_, P2, kp.trans k2⟩
    simp [f_Primary_change_once, fnM_eq, m_Primary_change_once, sAugF, mFld, mMeth, ep, s1, putI, ← eH, hc, e2]
theorem s_make (h : IH) (s each : Int) (e : IE) (h1 : IH) (fs : IE → M (List IV)) (ef : fs e h = .ok [.int s, .int each] h1) (hs : In32 s) (he : 1 ≤ each) :
    ∃ h', mMake "Primary" 3 f_Primary_init fs e h = .ok (.ref h1.length) h' ∧ Pr h' h1.length (h1.length + 1) s each 0 [s] ∧ h1 <+: h' := by
  have he' : ¬ each < 1 := by omega
  refine ⟨h1 ++ [.ins "Primary" [.int s, .int each, .int 0, .ref (h1.length + 1)], .lst [.int s]], ?_, ⟨by simp, by simp⟩, List.prefix_append _ _⟩
  simp [mMake, ef, f_Primary_init, fnM_eq, m_Primary_init, s_check, hs, he', sFldI, putI, big, List.getElem?_append]
theorem dat_scal {n : Nat} {h : IH} {i : Int} : dat n h (.int i) = some (.int i) := by cases n <;> rfl
/-- (serial, waiting, had) of both -/
theorem gNe_three {h : IH} {q a : Nat} {s w : Int} {had : List Int} (e1 : h[q]? = some (.lst (had.map .int))) (e2 : h[a]? = some (.lst (had.map .int))) : gNe (.tup [.int s, .int w, .ref q]) (.tup [.int s, .int w, .ref a]) h = .ok (.bl false) h := by
  have hd := depth_ints had
  have hl := lay_ints had
  have he := eqv_ints had had
  have d1 : ∀ k, h[k]? = some (.lst (had.map .int)) → dat 9 h (.tup [.int s, .int w, .ref k]) = some (.tuple [.int s, .int w, .list (had.map .int)]) := fun k ek => by
    show (mapO (dat 8 h) [.int s, .int w, .ref k]).map PyData.tuple = _
    simp only [mapO, dat_scal, dat_ints (n := 7) ek]
    rfl
  simp only [gNe, eqS, d1 _ e1, d1 _ e2]
  simp [SeqAt.shaped, PyData.canLay0, PyData.canLayAll0, PyData.depth, PyData.depthAll, PyData.eqv, PyData.eqvAll, hl, he]
  omega
/-- the places of v -/
def plP (v : Int) : Nat → List Int → List Int
  | _, [] => []
  | k, x :: xs => (if x = v then [(k : Int)] else []) ++ plP v (k + 1) xs
theorem plP_app (v : Int) : ∀ (k : Nat) (xs ys : List Int), plP v k (xs ++ ys) = plP v k xs ++ plP v (k + xs.length) ys
  | k, [], ys => by simp [plP]
  | k, x :: xs, ys => by
    simp only [List.cons_append, plP, plP_app v (k + 1) xs ys, List.length_cons, List.append_assoc]
    rw [show k + 1 + xs.length = k + (xs.length + 1) by omega]
theorem plP_len (v : Int) : ∀ (k : Nat) (xs : List Int), (plP v k xs).length ≤ xs.length
  | k, [] => by simp [plP]
  | k, x :: xs => by
    have := plP_len v (k + 1) xs
    simp only [plP, List.length_append, List.length_cons]
    split <;> simp <;> omega
def lastO (xs : List Int) : Option Int := xs.getLast?
theorem s_checkT (a : Int) (h : IH) (ha : In32 a) : f_check_serial [.int a] h = .ok .non h := by rw [s_check, if_pos ha]
theorem s_behind (h : IH) (p q : Nat) (s each w a : Int) (had : List Int) (P : Pr h p q s each w had) (ha : In32 a) (hl : had.length < 1000) :
    ∃ h', f_Primary_behind_by [.ref p, .int a] h = .ok (match (plP a 0 had).getLast? with | none => .non | some j => .int ((had.length : Int) - 1 - j)) h' ∧ h <+: h' := by
  obtain ⟨ep, eq⟩ := P
  have e2 : ∀ y z x, mEnum (mCons (mFld "Primary" 3 (mVar 0)) mNil) [some (.ref p), some (.int a), y, z, x] h = .ok (srE (srL q had.length)) h := fun y z x => by
    simp [mFld, ep, eq, -srL, -srE]
  have hc : ∃ h' , mLc (mEnum (mCons (mFld "Primary" 3 (mVar 0)) (mNil))) [3, 4] (gSeq' 2 (gsCons (gName' 3) (gsCons (gName' 4) (gsNil)))) (m2 gEq (mVar 4) (mVar 1)) (mVar 3) [some (.ref p), some (.int a), none, none, none] h = .ok (.ref h.length) h' ∧ h <+: h' ∧ h'[h.length]? = some (.lst ((plP a 0 had).map .int)) := by
    simp only [mLc, e2 none none none, wipeI]
    refine lcL_run (Q := fun r => ∃ h', r = .ok (.ref h.length) h' ∧ h <+: h' ∧ h'[h.length]? = some (.lst ((plP a 0 had).map .int))) ((List.range had.length).map fun i => IV.tup [.int (i : Nat), .int (had.getD i 0)])
      (fun i acc e' h' => h <+: h' ∧ h'[h.length]? = some (.lst acc) ∧ acc = (plP a 0 (had.take i)).map .int ∧ ∃ y z, e' = [some (.ref p), some (.int a), none, y, z]) ?_ ?_ ?_ had.length 0 _ [] _ _ (by simp) (by simp [srL]) ⟨List.prefix_append _ _, by simp, by simp [plP], _, _, rfl⟩
    · rintro i x acc e' h' hx' ⟨pp, _⟩
      rw [List.getElem?_map] at hx'
      cases hb : (List.range had.length)[i]? with
      | none => rw [hb] at hx'; cases hx'
      | some b =>
        rw [hb] at hx'
        cases hx'
        obtain ⟨b1, b2⟩ := List.getElem?_eq_some_iff.mp hb
        simp at b1 b2
        subst b2
        have hx : (had.map IV.int)[i]? = some (.int (had.getD i 0)) := by simp [b1]
        have := srL_it (n := q) (m := had.length) (pre_get pp eq) hx
        simp only [srE, this]
    · rintro acc e' h' ⟨pp, qq, rfl, _⟩
      have hlen : ((List.range had.length).map fun i => IV.tup [.int (i : Nat), .int (had.getD i 0)]).length = had.length := by simp
      rw [hlen]
      have := srL_end (n := q) (m := had.length) (pre_get pp eq)
      rw [List.length_map] at this
      refine ⟨by simp only [srE, this], h', rfl, pp, ?_⟩
      rw [hlen, List.take_length] at qq
      exact qq
    · rintro i x acc e' h' hx' ⟨pp, qq, rfl, y, z, rfl⟩
      rw [List.getElem?_map] at hx'
      cases hb : (List.range had.length)[i]? with
      | none => rw [hb] at hx'; cases hx'
      | some b =>
        rw [hb] at hx'
        cases hx'
        obtain ⟨b1, b2⟩ := List.getElem?_eq_some_iff.mp hb
        simp at b1 b2
        subst b2
        have hg : had[i]? = some (had.getD i 0) := by simp [b1]
        generalize had.getD i 0 = c at *
        have tk : plP a 0 (had.take (i + 1)) = plP a 0 (had.take i) ++ (if c = a then [(i : Int)] else []) := by
          rw [List.take_add_one, hg, plP_app]
          simp [plP, Nat.min_eq_left (Nat.le_of_lt b1)]
        refine ⟨[some (.ref p), some (.int a), none, some (.int (i : Nat)), some (.int c)], h', decide (c = a), h', by simp [hg], by simp, ?_⟩
        by_cases hca : c = a
        · simp only [hca, decide_true, if_true]
          refine ⟨.int (i : Nat), h', by simp, qq, ?_, pre_set pp (Nat.le_refl _), set_at qq, ?_, _, _, rfl⟩
          · have := plP_len a 0 (had.take i)
            have h3 : (had.take i).length ≤ had.length := by simp; omega
            have : sizeLine > 1000 := by decide
            simp only [List.length_map]
            omega
          · rw [tk, if_pos hca]; simp
        · simp only [hca, decide_false, Bool.false_eq_true, if_false]
          exact ⟨pp, qq, by rw [tk, if_neg hca]; simp, _, _, rfl⟩
  obtain ⟨h2, c1, c2, c3⟩ := hc
  have ep2 := pre_get c2 ep
  have eq2 := pre_get c2 eq
  obtain ⟨H, eH⟩ : ∃ H, H = h2 ++ [Sh.IO.lst []] := ⟨_, rfl⟩
  have pH : h2 <+: H := by rw [eH]; exact List.prefix_append _ _
  have ep3 := pre_get pH ep2
  have eq3 := pre_get pH eq2
  have c4 := pre_get pH c3
  have hn : H[h2.length]? = some (.lst ([].map IV.int)) := by rw [eH]; exact new_at _ _
  have g1 := gNe_ints c4 hn
  refine ⟨H, ?_, c2.trans pH⟩
  simp only [f_Primary_behind_by, fnM_eq, m_Primary_behind_by]
  simp [s_checkT _ _ ha, c1, -mLc, ← eH, big]
  rw [g1]
  cases hp : (plP a 0 had).getLast? with
  | none =>
    have hp' : plP a 0 had = [] := by simpa using hp
    simp [hp']
  | some j =>
    have hp' : plP a 0 had ≠ [] := fun z => by rw [z] at hp; cases hp
    obtain ⟨l, hl'⟩ : ∃ l, plP a 0 had = l ++ [j] := by
      obtain ⟨l, hl'⟩ := List.getLast?_eq_some_iff.mp hp
      exact ⟨l, hl'⟩
    have hat : atI ((plP a 0 had).map IV.int) (-1) = some (.int j) := by
      rw [hl', List.map_append]
      exact atI_last
    simp [hp', mFld, ep3, eq3, c4, hat]
end K10

namespace K10
open PySem PySem.Spec PyProof.Rows L2 Sh
def whenP (rf rt lg : Int) (looks : List Int) : Int := match looks.getLast? with
  | some j => j + rt
  | none => lg + rf
def Rising (lg : Int) (looks : List Int) : Prop := ∀ (i : Nat) (x y : Int), (lg :: looks)[i]? = some x → looks[i]? = some y → x < y
abbrev z_any : ME := mGen (mZip (mCons (m2 gAdd (mLst (mCons (mVar 3) (mNil))) (mCall gList (mCons (mVar 4) (mNil)))) (mCons (mVar 4) (mNil)))) [6, 7] (gSeq' 2 (gsCons (gName' 6) (gsCons (gName' 7) (gsNil)))) (mC (.bl true)) (m2 gLe (mVar 7) (mVar 6)) ["NameFault", "SerialError"] (stB true) (finB true) ()
theorem any_run (h : IH) (n : Nat) (rf rt ex lg : Int) (looks : List Int) (en : h[n]? = some (.lst (looks.map .int))) (hl : looks.length < 1000) (hr : Rising lg looks) :
    ∃ h', z_any [some (.int rf), some (.int rt), some (.int ex), some (.int lg), some (.ref n), none, none, none] h = .ok (.bl false) h' ∧ h <+: h' := by
  obtain ⟨H, eH⟩ : ∃ H, H = h ++ [Sh.IO.lst [.int lg], .lst (looks.map .int), .lst ((lg :: looks).map .int)] := ⟨_, rfl⟩
  have pH : h <+: H := by rw [eH]; exact List.prefix_append _ _
  have e3 : H[h.length + 2]? = some (.lst ((lg :: looks).map .int)) := by rw [eH]; simp [List.getElem?_append]
  have en3 := pre_get pH en
  have ha : (h ++ [Sh.IO.lst [.int lg]])[n]? = some (.lst (looks.map .int)) := app_at en
  have hb1 : (h ++ [Sh.IO.lst [.int lg], .lst (looks.map .int)])[h.length]? = some (.lst [.int lg]) := by simp
  have hb2 : (h ++ [Sh.IO.lst [.int lg], .lst (looks.map .int)])[h.length + 1]? = some (.lst (looks.map .int)) := by simp [List.getElem?_append]
  have hz : 1 + looks.length ≤ 10000000 := by omega
  have hm : mZip (mCons (m2 gAdd (mLst (mCons (mVar 3) (mNil))) (mCall gList (mCons (mVar 4) (mNil)))) (mCons (mVar 4) (mNil))) [some (.int rf), some (.int rt), some (.int ex), some (.int lg), some (.ref n), none, none, none] h = .ok (srZ (srL (h.length + 2) (looks.length + 1)) (srL n looks.length)) H := by
    have en3' := en3
    rw [eH] at en3' ⊢
    rw [List.map_cons] at en3' ⊢
    simp [ha, big, hb1, hb2, hz, en3']
  have hlen3 : ((lg :: looks).map IV.int).length = looks.length + 1 := by simp
  refine ⟨H, ?_, pH⟩
  simp only [z_any, mGen, hm, wipeI]
  refine genL_run (Q := fun r => r = .ok (.bl false) H) ((List.range looks.length).map fun i => IV.tup [.int ((lg :: looks).getD i 0), .int (looks.getD i 0)])
    (fun i _ e' h' => h' = H ∧ ∃ y z, e' = [some (.int rf), some (.int rt), some (.int ex), some (.int lg), some (.ref n), none, y, z]) ?_ ?_ ?_ looks.length 0 _ () _ H (by simp) (by simp [srZ, srL]; omega) ⟨rfl, _, _, rfl⟩
  · rintro i x _ e' h' hx' ⟨rfl, _⟩
    rw [List.getElem?_map] at hx'
    cases hb : (List.range looks.length)[i]? with
    | none => rw [hb] at hx'; cases hx'
    | some b =>
      rw [hb] at hx'
      cases hx'
      obtain ⟨b1, b2⟩ := List.getElem?_eq_some_iff.mp hb
      simp at b1 b2
      subst b2
      have b3 : i < (lg :: looks).length := by simp; omega
      have hx1 : ((lg :: looks).map IV.int)[i]? = some (.int ((lg :: looks).getD i 0)) := by
        rw [List.getElem?_map, List.getElem?_eq_getElem b3, List.getD_eq_getElem?_getD, List.getElem?_eq_getElem b3]; rfl
      have hx2 : (looks.map IV.int)[i]? = some (.int (looks.getD i 0)) := by
        rw [List.getElem?_map, List.getElem?_eq_getElem b1, List.getD_eq_getElem?_getD, List.getElem?_eq_getElem b1]; rfl
      simp only [srZ, srL_it e3 hx1, srL_it en3 hx2]
  · rintro _ e' h' ⟨rfl, _⟩
    have hl0 : ((List.range looks.length).map fun i => IV.tup [.int ((lg :: looks).getD i 0), .int (looks.getD i 0)]).length = looks.length := by simp
    rw [hl0]
    have b3 : looks.length < (lg :: looks).length := by simp
    have hx1 : ((lg :: looks).map IV.int)[looks.length]? = some (.int ((lg :: looks)[looks.length])) := by
      rw [List.getElem?_map, List.getElem?_eq_getElem b3]; rfl
    have hx2 := srL_end (n := n) (m := looks.length) en3
    rw [List.length_map] at hx2
    refine ⟨by simp only [srZ, srL_it e3 hx1, hx2], rfl⟩
  · rintro i x _ e' h' hx' ⟨rfl, y, z, rfl⟩
    rw [List.getElem?_map] at hx'
    cases hb : (List.range looks.length)[i]? with
    | none => rw [hb] at hx'; cases hx'
    | some b =>
      rw [hb] at hx'
      cases hx'
      obtain ⟨b1, b2⟩ := List.getElem?_eq_some_iff.mp hb
      simp at b1 b2
      subst b2
      have b3 : i < (lg :: looks).length := by simp; omega
      have lt : (lg :: looks).getD i 0 < looks.getD i 0 := hr i _ _ (by rw [List.getD_eq_getElem?_getD, List.getElem?_eq_getElem b3]; rfl) (by rw [List.getD_eq_getElem?_getD, List.getElem?_eq_getElem b1]; rfl)
      obtain ⟨u, hu⟩ : ∃ u, (lg :: looks).getD i 0 = u := ⟨_, rfl⟩
      obtain ⟨v, hv⟩ : ∃ v, looks.getD i 0 = v := ⟨_, rfl⟩
      rw [hu, hv] at lt
      simp only [hu, hv]
      refine ⟨[some (.int rf), some (.int rt), some (.int ex), some (.int lg), some (.ref n), none, some (.int u), some (.int v)], h', true, h', by simp, by simp, ?_⟩
      rw [if_pos rfl]
      have nle : ¬ v ≤ u := by omega
      exact ⟨.bl false, h', by simp [nle], .inl ⟨(), by simp [stB], rfl, _, _, rfl⟩⟩
theorem s_look (h : IH) (n : Nat) (rf rt ex lg : Int) (looks : List Int) (en : h[n]? = some (.lst (looks.map .int))) (hl : looks.length < 1000) (hr : Rising lg looks) (h1 : 1 ≤ rf) (h2 : 1 ≤ rt) (h3 : 1 ≤ ex) :
    ∃ h', f_next_look [.int rf, .int rt, .int ex, .int lg, .ref n] h = .ok (.tup [.int (whenP rf rt lg looks), .bl (decide (whenP rf rt lg looks < lg + ex))]) h' ∧ h <+: h' := by
  obtain ⟨h', e1, p⟩ := any_run h n rf rt ex lg looks en hl hr
  have en' := pre_get p en
  refine ⟨h', ?_, p⟩
  have hmin : ¬ (if ex < (if rt < rf then rt else rf) then ex else if rt < rf then rt else rf) < 1 := by
    (repeat' split) <;> omega
  simp only [z_any, gLe] at e1
  simp only [f_next_look, fnM_eq, m_next_look]
  unfold whenP
  cases hg : looks.getLast? with
  | none =>
    have : looks = [] := by simpa using hg
    subst this
    simp [hmin, -mGen, -mZip, e1, en', big]
  | some j =>
    obtain ⟨l, rfl⟩ := List.getLast?_eq_some_iff.mp hg
    have hat : atI ((l ++ [j]).map IV.int) (-1) = some (.int j) := by rw [List.map_append]; exact atI_last
    have hpos2 : (0 : Int) < (l.length : Int) + 1 := by omega
    rw [List.map_append] at en' hat
    simp at en' hat
    simp [hmin, -mGen, -mZip, e1, en', hat, big, hpos2]
end K10

namespace K10
open PySem PySem.Spec PyProof.Rows L2 Sh
theorem seq_ex {P : Fl → Prop} {f g : MS} {e e1 : IE} {h h1 : IH} (a : f e h = .nx e1 h1) (b : P (g e1 h1)) : P (sSeq f g e h) := by
  show P ((f e h).thn g)
  rw [a]
  exact b
theorem for_ex {P : Fl → Prop} {f : MI} {t : MG} {b g : MS} {e : IE} {h h1 : IH} {S : Sr} (a : f e h = .ok S h1) (q : P ((forL S t b (S.n + 1) 0 e h1).thn g)) : P (sSeq (sFor f t b) g e h) := by
  show P ((sFor f t b e h).thn g)
  simp only [sFor, a]
  exact q
def hadP (s : Int) (m : Nat) : List Int := (List.range (m + 1)).map fun i => (s + (i : Nat)) % 4294967296
theorem hadP_len {s : Int} {m : Nat} : (hadP s m).length = m + 1 := by simp [hadP]
theorem hadP_zero {s : Int} (hs : In32 s) : hadP s 0 = [s] := by
  simp [hadP]
  omega
theorem hadP_succ {s : Int} {m : Nat} : hadP s (m + 1) = hadP s m ++ [((s + (m : Nat)) % 4294967296 + 1) % 4294967296] := by
  unfold hadP
  rw [List.range_succ, List.map_append]
  simp
  omega
theorem hadP_last {s : Int} {m : Nat} : ∃ l, hadP s m = l ++ [(s + (m : Nat)) % 4294967296] := by
  refine ⟨(List.range m).map fun i => (s + (i : Nat)) % 4294967296, ?_⟩
  unfold hadP
  rw [List.range_succ, List.map_append]
  rfl
theorem hadP_at {s : Int} {m : Nat} : atI ((hadP s m).map IV.int) (-1) = some (.int ((s + (m : Nat)) % 4294967296)) := by
  obtain ⟨l, e⟩ := @hadP_last s m
  rw [e, List.map_append]
  exact atI_last
abbrev env1 (d a p : Nat) (s each w : Int) (y6 y7 y8 y9 : Option IV) : IE := [some (.ref d), some (.int s), some (.int each), some (.ref a), some (.int w), some (.ref p), y6, y7, y8, y9, none, none, none, none, none, none, none, none, none]
structure J1 (d p q : Nat) (s each : Int) (i : Nat) (e : IE) (h : IH) : Prop where
  ex : ∃ a m w y6 y7 y8 y9, m ≤ i ∧ a ≠ d ∧ e = env1 d a p s each w y6 y7 y8 y9 ∧ h[a]? = some (.lst ((hadP s m).map .int)) ∧ Pr h p q ((s + (m : Nat)) % 4294967296) each w (hadP s m)
  dice : Dice h d
abbrev b_one : MS := (sSeq (sAsg (m2 gGt (mOwn 2 (f_law_roll 2) (mCons (mVar 0) (mCons (mC (.int 6)) (mNil)))) (mC (.int 0))) (gName' 7))
          (sSeq (sAsg (mIf (mVar 7) (m2 gAdd (mVar 4) (mC (.int 1))) (mVar 2)) (gName' 4))
          (sSeq (sAsg (m2 gGe (mVar 4) (mVar 2)) (gName' 8))
          (sSeq (sAsg (m2 gAdd (mVar 3) (m2 gMul (mLst (mCons (m2 gMod (m2 gAdd (m2 gIx (mVar 3) (m1 gNeg (mC (.int 1)))) (mC (.int 1))) (mC (.int 4294967296))) (mNil))) (mCall gInt (mCons (mVar 8) (mNil))))) (gName' 3))
          (sSeq (sAsg (mIf (mVar 8) (mC (.int 0)) (mVar 4)) (gName' 4))
          (sSeq (sAsg (mIf (mVar 7) (mMeth "Primary" 1 f_Primary_change_once (mVar 5) mNil) (mMeth "Primary" 1 f_Primary_tell_now (mVar 5) mNil)) (gName' 9))
          (sSeq (sIf (m2 gNe (mVar 9) (mIf (mVar 7) (mVar 8) (m2 gIx (mVar 3) (m1 gNeg (mC (.int 1)))))) (sRet (mC (.bl false))) (sSkip))
          (sIf (m2 gNe (mTup (mCons (mFld "Primary" 0 (mVar 5)) (mCons (mFld "Primary" 2 (mVar 5)) (mCons (mFld "Primary" 3 (mVar 5)) (mNil))))) (mTup (mCons (m2 gIx (mVar 3) (m1 gNeg (mC (.int 1)))) (mCons (mVar 4) (mCons (mVar 3) (mNil)))))) (sRet (mC (.bl false))) (sSkip)))))))))
/-- had + [x] * int(due) -/
theorem grow_run (h : IH) (a d p : Nat) (s each w : Int) (m : Nat) (k : Bool) (y6 y7 y9 : Option IV) (ea : h[a]? = some (.lst ((hadP s m).map .int))) (hm : m < 100) :
    ∃ h', sAsg (m2 gAdd (mVar 3) (m2 gMul (mLst (mCons (m2 gMod (m2 gAdd (m2 gIx (mVar 3) (m1 gNeg (mC (.int 1)))) (mC (.int 1))) (mC (.int 4294967296))) (mNil))) (mCall gInt (mCons (mVar 8) (mNil))))) (gName' 3) (env1 d a p s each w y6 y7 (some (.bl k)) y9) h = .nx (env1 d (h.length + 2) p s each w y6 y7 (some (.bl k)) y9) h' ∧ h <+: h' ∧ h'[h.length + 2]? = some (.lst ((hadP s (if k = true then m + 1 else m)).map .int)) := by
  obtain ⟨x, hx⟩ : ∃ x, x = ((s + (m : Nat)) % 4294967296 + 1) % 4294967296 := ⟨_, rfl⟩
  have hat := @hadP_at s m
  have hl : (hadP s m).length = m + 1 := hadP_len
  cases k with
  | true =>
    refine ⟨h ++ [.lst [.int x], .lst [.int x], .lst ((hadP s m).map .int ++ [.int x])], ?_, List.prefix_append _ _, ?_⟩
    · have e1 : (h ++ [Sh.IO.lst [.int x]])[h.length]? = some (.lst [.int x]) := new_at _ _
      have e2 : (h ++ [Sh.IO.lst [.int x], .lst [.int x]])[h.length + 1]? = some (.lst [.int x]) := by simp [List.getElem?_append]
      have e3 : (h ++ [Sh.IO.lst [.int x], .lst [.int x]])[a]? = some (.lst ((hadP s m).map .int)) := app_at ea
      have hb : m + 1 + 1 ≤ 10000000 := by omega
      simp [ea, hat, ← hx, big, e1, e2, e3, hl, hb]
    · rw [if_pos rfl, hadP_succ, ← hx]
      simp [List.getElem?_append]
  | false =>
    refine ⟨h ++ [.lst [.int x], .lst [], .lst ((hadP s m).map .int)], ?_, List.prefix_append _ _, ?_⟩
    · have e1 : (h ++ [Sh.IO.lst [.int x]])[h.length]? = some (.lst [.int x]) := new_at _ _
      have e2 : (h ++ [Sh.IO.lst [.int x], .lst []])[h.length + 1]? = some (.lst []) := by simp [List.getElem?_append]
      have e3 : (h ++ [Sh.IO.lst [.int x], .lst []])[a]? = some (.lst ((hadP s m).map .int)) := app_at ea
      have hb : m + 1 ≤ 10000000 := by omega
      simp [ea, hat, ← hx, big, e1, e2, e3, hl, hb]
    · simp [List.getElem?_append]
end K10

namespace K10
open PySem PySem.Spec PyProof.Rows L2 Sh
theorem Pr.pre {h h' : IH} {p q : Nat} {s each w : Int} {had : List Int} (P : Pr h p q s each w had) (k : h <+: h') : Pr h' p q s each w had := ⟨pre_get k P.p_, pre_get k P.q_⟩
theorem Pr.ext {h h' : IH} {p q d : Nat} {s each w : Int} {had : List Int} (P : Pr h p q s each w had) (k : Ext d h h') (hp : p ≠ d) (hq : q ≠ d) : Pr h' p q s each w had := ⟨k.get P.p_ hp, k.get P.q_ hq⟩
theorem Dice.pre {h h' : IH} {d : Nat} (k : Dice h d) (x : h <+: h') : Dice h' d := by
  obtain ⟨o, e, q⟩ := k
  exact ⟨o, pre_get x e, q⟩
/-- the two checks at a turn's end -/
theorem checks (h : IH) (d a p q : Nat) (s each w : Int) (m : Nat) (n k : Bool) (y6 : Option IV) (v : IV) (ea : h[a]? = some (.lst ((hadP s m).map .int))) (P : Pr h p q ((s + (m : Nat)) % 4294967296) each w (hadP s m)) (hv : v = if n = true then .bl k else .int ((s + (m : Nat)) % 4294967296)) :
    sSeq (sIf (m2 gNe (mVar 9) (mIf (mVar 7) (mVar 8) (m2 gIx (mVar 3) (m1 gNeg (mC (.int 1)))))) (sRet (mC (.bl false))) (sSkip))
          (sIf (m2 gNe (mTup (mCons (mFld "Primary" 0 (mVar 5)) (mCons (mFld "Primary" 2 (mVar 5)) (mCons (mFld "Primary" 3 (mVar 5)) (mNil))))) (mTup (mCons (m2 gIx (mVar 3) (m1 gNeg (mC (.int 1)))) (mCons (mVar 4) (mCons (mVar 3) (mNil)))))) (sRet (mC (.bl false))) (sSkip)) (env1 d a p s each w y6 (some (.bl n)) (some (.bl k)) (some v)) h = .nx (env1 d a p s each w y6 (some (.bl n)) (some (.bl k)) (some v)) h := by
  have hat := @hadP_at s m
  have g3 := gNe_three (s := (s + (m : Nat)) % 4294967296) (w := w) P.q_ ea
  have ep := P.p_
  subst hv
  cases n with
  | true => simp [ea, hat, mFld, ep, big, g3]
  | false => simp [ea, hat, mFld, ep, big, g3]
def PT (d p q : Nat) (s each : Int) (i : Nat) (h : IH) (r : Fl) : Prop := ∃ e' h', r = .nx e' h' ∧ J1 d p q s each (i + 1) e' h' ∧ Kp [d, p, q] h h'
theorem kX {l : List Nat} {h h' : IH} (p : h <+: h') : Kp l h h' := by
  obtain ⟨r, rfl⟩ := p
  exact Kp.app
theorem kE {d p q : Nat} {h h' : IH} (x : Ext d h h') : Kp [d, p, q] h h' := x.kp.mono (by simp)
theorem kP {d p q : Nat} {h h' : IH} (x : Kp [p, q] h h') : Kp [d, p, q] h h' := x.mono (by simp)
theorem turn1 (d p q : Nat) (s each : Int) (i : Nat) (h : IH) (a m : Nat) (w : Int) (y6 y7 y8 y9 : Option IV) (hm : m ≤ i) (hi : i < 50) (ea : h[a]? = some (.lst ((hadP s m).map .int))) (P : Pr h p q ((s + (m : Nat)) % 4294967296) each w (hadP s m)) (D : Dice h d) (hpd : p ≠ d) (hqd : q ≠ d) (had_ : a ≠ d) :
    PT d p q s each i h (b_one (env1 d a p s each w y6 y7 y8 y9) h) := by
  obtain ⟨r, h1, er, br, k1, x1, l1⟩ := s_rollE h d 6 D (by omega)
  have ea1 := x1.get ea had_
  have P1 := P.ext x1 hpd hqd
  have hl : (hadP s m).length < 1000 := by rw [hadP_len]; omega
  unfold b_one
  refine seq_ex (P := PT d p q s each i h) (e1 := env1 d a p s each w y6 (some (.bl (decide (0 < r)))) y8 y9) (h1 := h1) (by simp [er]) ?_
  have fin : ∀ (n : Bool) (w1 : Int), w1 = (if n = true then w + 1 else each) → ∀ k : Bool, k = decide (each ≤ w1) → PT d p q s each i h (sSeq (sAsg (m2 gAdd (mVar 3) (m2 gMul (mLst (mCons (m2 gMod (m2 gAdd (m2 gIx (mVar 3) (m1 gNeg (mC (.int 1)))) (mC (.int 1))) (mC (.int 4294967296))) (mNil))) (mCall gInt (mCons (mVar 8) (mNil))))) (gName' 3))
          (sSeq (sAsg (mIf (mVar 8) (mC (.int 0)) (mVar 4)) (gName' 4))
          (sSeq (sAsg (mIf (mVar 7) (mMeth "Primary" 1 f_Primary_change_once (mVar 5) mNil) (mMeth "Primary" 1 f_Primary_tell_now (mVar 5) mNil)) (gName' 9))
          (sSeq (sIf (m2 gNe (mVar 9) (mIf (mVar 7) (mVar 8) (m2 gIx (mVar 3) (m1 gNeg (mC (.int 1)))))) (sRet (mC (.bl false))) (sSkip))
          (sIf (m2 gNe (mTup (mCons (mFld "Primary" 0 (mVar 5)) (mCons (mFld "Primary" 2 (mVar 5)) (mCons (mFld "Primary" 3 (mVar 5)) (mNil))))) (mTup (mCons (m2 gIx (mVar 3) (m1 gNeg (mC (.int 1)))) (mCons (mVar 4) (mCons (mVar 3) (mNil)))))) (sRet (mC (.bl false))) (sSkip))))) (env1 d a p s each w1 y6 (some (.bl n)) (some (.bl k)) y9) h1) := by
    intro n w1 hw1 k hk
    obtain ⟨h2, g1, g2, g3⟩ := grow_run h1 a d p s each w1 m k y6 (some (.bl n)) y9 ea1 (by omega)
    refine seq_ex (P := PT d p q s each i h) g1 ?_
    have P2 := P1.pre g2
    have k2 := k1.pre g2
    have hs : In32 ((s + (m : Nat)) % 4294967296) := in32_mod _
    have s2 : ((s + (m : Nat)) % 4294967296 + 1) % 4294967296 = (s + ((m + 1 : Nat) : Int)) % 4294967296 := by omega
    have hmem : h1.length + 2 ∉ [p, q] := by
      have := get_lt P1.p_
      have := get_lt P1.q_
      simp; omega
    have hdm : d ∉ [p, q] := by simp; exact ⟨Ne.symm hpd, Ne.symm hqd⟩
    have last : ∀ (h3 : IH) (v : IV) (m' : Nat) (w2 : Int), m' ≤ i + 1 → Kp [p, q] h2 h3 → h2[h1.length + 2]? = some (.lst ((hadP s m').map .int)) → Pr h3 p q ((s + (m' : Nat)) % 4294967296) each w2 (hadP s m') → v = (if n = true then .bl k else .int ((s + (m' : Nat)) % 4294967296)) →
        PT d p q s each i h (sSeq (sIf (m2 gNe (mVar 9) (mIf (mVar 7) (mVar 8) (m2 gIx (mVar 3) (m1 gNeg (mC (.int 1)))))) (sRet (mC (.bl false))) (sSkip))
          (sIf (m2 gNe (mTup (mCons (mFld "Primary" 0 (mVar 5)) (mCons (mFld "Primary" 2 (mVar 5)) (mCons (mFld "Primary" 3 (mVar 5)) (mNil))))) (mTup (mCons (m2 gIx (mVar 3) (m1 gNeg (mC (.int 1)))) (mCons (mVar 4) (mCons (mVar 3) (mNil)))))) (sRet (mC (.bl false))) (sSkip)) (env1 d (h1.length + 2) p s each w2 y6 (some (.bl n)) (some (.bl k)) (some v)) h3) := by
      intro h3 v m' w2 hm' K3 eL P3 hv
      have e3 := K3.get eL hmem
      exact ⟨_, _, checks h3 d _ p q s each w2 m' n k y6 v e3 P3 hv, ⟨⟨_, _, _, _, _, _, _, hm', Nat.ne_of_gt (Nat.lt_of_lt_of_le k1.lt (Nat.le_add_right _ _)), rfl, e3, P3⟩, k2.kp K3 hdm⟩, (kE x1).trans ((kX g2).trans (kP K3))⟩
    cases n with
    | true =>
      rw [if_pos rfl] at hw1
      subst hw1
      obtain ⟨c1, c2⟩ := s_change h2 p q _ each w _ P2 hs hl
      by_cases hc : w + 1 < each
      · obtain ⟨h3, e3, P3, K3⟩ := c1 hc
        have hk0 : k = false := by rw [hk]; simp; omega
        subst hk0
        rw [if_neg Bool.false_ne_true] at g3
        refine seq_ex (P := PT d p q s each i h) (e1 := env1 d (h1.length + 2) p s each (w + 1) y6 (some (.bl true)) (some (.bl false)) y9) (h1 := h2) (by simp) ?_
        refine seq_ex (P := PT d p q s each i h) (e1 := env1 d (h1.length + 2) p s each (w + 1) y6 (some (.bl true)) (some (.bl false)) (some (.bl false))) (h1 := h3) (by simp [mMeth, P2.p_, e3]) ?_
        exact last h3 _ m (w + 1) (by omega) K3 g3 P3 rfl
      · obtain ⟨h3, e3, P3, K3⟩ := c2 hc
        have hk0 : k = true := by rw [hk]; simp; omega
        subst hk0
        rw [if_pos rfl] at g3
        rw [← hadP_succ, s2] at P3
        refine seq_ex (P := PT d p q s each i h) (e1 := env1 d (h1.length + 2) p s each 0 y6 (some (.bl true)) (some (.bl true)) y9) (h1 := h2) (by simp) ?_
        refine seq_ex (P := PT d p q s each i h) (e1 := env1 d (h1.length + 2) p s each 0 y6 (some (.bl true)) (some (.bl true)) (some (.bl true))) (h1 := h3) (by simp [mMeth, P2.p_, e3]) ?_
        exact last h3 _ (m + 1) 0 (by omega) K3 g3 P3 rfl
    | false =>
      rw [if_neg Bool.false_ne_true] at hw1
      subst hw1
      have hk0 : k = true := by rw [hk]; simp
      subst hk0
      rw [if_pos rfl] at g3
      obtain ⟨h3, e3, P3, K3⟩ := s_tell h2 p q _ w1 w _ P2 hs hl
      rw [← hadP_succ, s2] at P3
      rw [s2] at e3
      refine seq_ex (P := PT d p q s w1 i h) (e1 := env1 d (h1.length + 2) p s w1 0 y6 (some (.bl false)) (some (.bl true)) y9) (h1 := h2) (by simp) ?_
      refine seq_ex (P := PT d p q s w1 i h) (e1 := env1 d (h1.length + 2) p s w1 0 y6 (some (.bl false)) (some (.bl true)) (some (.int ((s + ((m + 1 : Nat) : Int)) % 4294967296)))) (h1 := h3) (by simp [mMeth, P2.p_, e3]) ?_
      exact last h3 _ (m + 1) 0 (by omega) K3 g3 P3 rfl
  by_cases hn : 0 < r
  · have e0 : decide (0 < r) = true := decide_eq_true hn
    rw [e0]
    refine seq_ex (P := PT d p q s each i h) (e1 := env1 d a p s each (w + 1) y6 (some (.bl true)) y8 y9) (h1 := h1) (by simp) ?_
    refine seq_ex (P := PT d p q s each i h) (e1 := env1 d a p s each (w + 1) y6 (some (.bl true)) (some (.bl (decide (each ≤ w + 1)))) y9) (h1 := h1) (by simp) ?_
    exact fin true (w + 1) rfl _ rfl
  · have e0 : decide (0 < r) = false := decide_eq_false hn
    rw [e0]
    refine seq_ex (P := PT d p q s each i h) (e1 := env1 d a p s each each y6 (some (.bl false)) y8 y9) (h1 := h1) (by simp) ?_
    refine seq_ex (P := PT d p q s each i h) (e1 := env1 d a p s each each y6 (some (.bl false)) (some (.bl (decide (each ≤ each)))) y9) (h1 := h1) (by simp) ?_
    exact fin false each rfl _ rfl
end K10

namespace K10
open PySem PySem.Spec PyProof.Rows L2 Sh
theorem plP_nil {v : Int} : ∀ {k : Nat} {xs : List Int}, v ∉ xs → plP v k xs = []
  | _, [], _ => rfl
  | k, x :: xs, h => by
    have h1 : ¬ x = v := fun z => h (z ▸ List.mem_cons_self)
    unfold plP
    rw [if_neg h1, plP_nil (fun z => h (List.mem_cons_of_mem _ z))]
    rfl
theorem pl_fi {v : Int} : ∀ {xs : List Int} (k : Nat), xs.Nodup → (plP v k xs).getLast? = (fiI (.int v) (xs.map .int) k).map fun j => (j : Int)
  | [], _, _ => rfl
  | x :: xs, k, nd => by
    obtain ⟨n1, n2⟩ := List.nodup_cons.mp nd
    unfold plP
    rw [List.map_cons]
    unfold fiI
    by_cases e : x = v
    · subst e
      rw [if_pos rfl, plP_nil n1]
      simp [sameV]
    · rw [if_neg e, List.nil_append, pl_fi (k + 1) n2]
      simp [sameV, e]
theorem fiI_cons {y x : IV} {xs : List IV} {n : Nat} : fiI y (x :: xs) n = if sameV x y = true then some n else fiI y xs (n + 1) := rfl
theorem in_fi {v : Int} : ∀ {xs : List Int} (k : Nat), inI (.int v) (xs.map .int) = (fiI (.int v) (xs.map .int) k).isSome
  | [], _ => rfl
  | x :: xs, k => by
    have ih := in_fi (v := v) (xs := xs) (k + 1)
    unfold inI at ih ⊢
    rw [List.map_cons, List.any_cons, ih, fiI_cons]
    by_cases e : x = v <;> simp [sameV, e]
theorem flats {xs : List Int} : (xs.map IV.int).all flatI = true := by
  rw [List.all_map]
  exact List.all_eq_true.mpr fun _ _ => rfl
theorem samesK {v : Int} {xs : List Int} : (xs.map IV.int).all (fun z => sameK z (.int v)) = true := by
  rw [List.all_map]
  exact List.all_eq_true.mpr fun _ _ => rfl
theorem hadP_nd {s : Int} {m : Nat} (hm : m < 1000) : (hadP s m).Nodup := by
  unfold hadP List.Nodup
  rw [List.pairwise_map]
  refine List.Pairwise.imp_of_mem (R := fun a b => a < b) ?_ List.pairwise_lt_range
  intro a b ha hb hab
  rw [List.mem_range] at ha hb
  omega
/-- the check of behind_by -/
theorem behind_check (h : IH) (d a p q : Nat) (s each w v : Int) (m : Nat) (hm : m < 100) (t : IE) (y6 y7 y8 y9 : Option IV) (ea : h[a]? = some (.lst ((hadP s m).map .int))) (P : Pr h p q ((s + (m : Nat)) % 4294967296) each w (hadP s m)) (hv : In32 v) :
    ∃ h', sIf (m2 gNe (mMeth "Primary" 2 f_Primary_behind_by (mVar 5) (mCons (mVar 10) (mNil))) (mIf (m2 (gIn false) (mVar 10) (mVar 3)) (m2 Sh.gSub (m2 Sh.gSub (mCall gLen (mCons (mVar 3) (mNil))) (mC (.int 1))) (mBM .list gIndex (mVar 3) (mCons (mVar 10) (mNil)))) (mC .non))) (sRet (mC (.bl false))) (sSkip)
      (some (.ref d) :: some (.int s) :: some (.int each) :: some (.ref a) :: some (.int w) :: some (.ref p) :: y6 :: y7 :: y8 :: y9 :: some (.int v) :: t) h = .nx (some (.ref d) :: some (.int s) :: some (.int each) :: some (.ref a) :: some (.int w) :: some (.ref p) :: y6 :: y7 :: y8 :: y9 :: some (.int v) :: t) h' ∧ h <+: h' := by
  obtain ⟨h1, e1, p1⟩ := s_behind h p q _ each w v (hadP s m) P hv (by rw [hadP_len]; omega)
  have ea1 := pre_get p1 ea
  have f1 := pl_fi (v := v) 0 (hadP_nd (s := s) (m := m) (by omega))
  have f2 := in_fi (v := v) (xs := hadP s m) 0
  refine ⟨h1, chk_eq (h1 := h1) ?_, p1⟩
  rw [f1] at e1
  have ep := P.p_
  cases hf : fiI (.int v) ((hadP s m).map .int) 0 with
  | none =>
    rw [hf] at e1 f2
    simp at e1 f2
    simp [mMeth, ep, e1, ea1, f2, flats]
  | some j =>
    rw [hf] at e1 f2
    simp at e1 f2
    simp [mMeth, ep, e1, ea1, f2, flats, mBM, noX, okT, samesK, hf, show ∀ a, sameK (.int a) (.int v) = true from fun _ => rfl]
theorem asked_run (h : IH) (d a p : Nat) (s each w : Int) (m : Nat) (hm : m < 100) (hs : In32 s) (y6 y7 y8 y9 y10 : Option IV) (t : IE) (ea : h[a]? = some (.lst ((hadP s m).map .int))) (D : Dice h d) (had_ : a ≠ d) :
    ∃ v h', sAsg (m2 gIx (mLst (mCons (m2 gIx (mVar 3) (mOwn 2 (f_law_roll 2) (mCons (mVar 0) (mCons (mCall gLen (mCons (mVar 3) (mNil))) (mNil))))) (mCons (m2 gMod (m2 gAdd (mVar 1) (mC (.int 4000000))) (mC (.int 4294967296))) (mNil)))) (mOwn 2 (f_law_roll 2) (mCons (mVar 0) (mCons (mC (.int 2)) (mNil))))) (gName' 10)
      (some (.ref d) :: some (.int s) :: some (.int each) :: some (.ref a) :: some (.int w) :: some (.ref p) :: y6 :: y7 :: y8 :: y9 :: y10 :: t) h = .nx (some (.ref d) :: some (.int s) :: some (.int each) :: some (.ref a) :: some (.int w) :: some (.ref p) :: y6 :: y7 :: y8 :: y9 :: some (.int v) :: t) h' ∧ In32 v ∧ Dice h' d ∧ Ext d h h' := by
  obtain ⟨r, h1, er, br, k1, x1, l1⟩ := s_rollE h d ((m : Nat) + 1) D (by omega)
  have ea1 := x1.get ea had_
  obtain ⟨u, hu, iu⟩ : ∃ u, atI ((hadP s m).map IV.int) r = some (.int u) ∧ In32 u := by
    have hr : r.toNat < (hadP s m).length := by rw [hadP_len]; omega
    refine ⟨(hadP s m)[r.toNat], ?_, ?_⟩
    · unfold atI ixN
      rw [if_pos br.1, if_pos (by rw [List.length_map, hadP_len]; omega)]
      simp [hr]
    · have := List.getElem_mem hr
      unfold hadP at this
      obtain ⟨i, _, e⟩ := List.mem_map.mp this
      unfold hadP
      rw [← e]
      exact in32_mod _
  obtain ⟨L, hL⟩ : ∃ L, L = [IV.int u, IV.int ((s + 4000000) % 4294967296)] := ⟨_, rfl⟩
  have hLl : L.length = 2 := by rw [hL]; rfl
  obtain ⟨r2, h2, er2, br2, k2, x2, l2⟩ := s_rollE (h1 ++ [Sh.IO.lst L]) d 2 k1.app (by omega)
  have hx : h2[h1.length]? = some (Sh.IO.lst L) := x2.get (new_at _ _) (Nat.ne_of_gt k1.lt)
  have hlen : ((hadP s m).length : Int) = (m : Int) + 1 := by rw [hadP_len]; rfl
  have fin : ∀ v : Int, In32 v → atI L r2 = some (.int v) → ∃ v h', sAsg (m2 gIx (mLst (mCons (m2 gIx (mVar 3) (mOwn 2 (f_law_roll 2) (mCons (mVar 0) (mCons (mCall gLen (mCons (mVar 3) (mNil))) (mNil))))) (mCons (m2 gMod (m2 gAdd (mVar 1) (mC (.int 4000000))) (mC (.int 4294967296))) (mNil)))) (mOwn 2 (f_law_roll 2) (mCons (mVar 0) (mCons (mC (.int 2)) (mNil))))) (gName' 10)
      (some (.ref d) :: some (.int s) :: some (.int each) :: some (.ref a) :: some (.int w) :: some (.ref p) :: y6 :: y7 :: y8 :: y9 :: y10 :: t) h = .nx (some (.ref d) :: some (.int s) :: some (.int each) :: some (.ref a) :: some (.int w) :: some (.ref p) :: y6 :: y7 :: y8 :: y9 :: some (.int v) :: t) h' ∧ In32 v ∧ Dice h' d ∧ Ext d h h' := fun v hv e => by
    refine ⟨v, h2, ?_, hv, k2, x1.trans (Ext.app.trans x2)⟩
    simp [ea, hlen, er, ea1, hu, big, ← hL, hLl, er2, hx, e]
  have c : r2 = 0 ∨ r2 = 1 := by omega
  subst hL
  rcases c with c | c <;> subst c
  · exact fin u iu rfl
  · exact fin _ (in32_mod _) rfl
end K10

namespace K10
open PySem PySem.Spec PyProof.Rows L2 Sh
theorem four_run (d : Nat) (e : IE) (h : IH) (k : Dice h d) (e0 : e[0]? = some (some (.ref d))) (y11 : ∃ z, e[11]? = some z) :
    ∃ (h' : IH) (n : Nat) (r1 r2 r3 r4 : Int), mLc (mRng1 (mCons (mC (.int 4)) (mNil))) [11] (gName' 11) (mC (.bl true)) (m2 gAdd (mC (.int 1)) (mOwn 2 (f_law_roll 2) (mCons (mVar 0) (mCons (mC (.int 50)) (mNil))))) e h = .ok (.ref n) h' ∧ Ext d h h' ∧ Dice h' d ∧ h'[n]? = some (.lst [.int r1, .int r2, .int r3, .int r4]) ∧ (1 ≤ r1 ∧ 1 ≤ r2 ∧ 1 ≤ r3) := by
  obtain ⟨z11, e11⟩ := y11
  have e2 : mRng1 (mCons (mC (.int 4)) (mNil)) e h = .ok (srR 0 4) h := by simp [-srR]
  simp only [mLc, e2, wipeI]
  have hd : d < h.length := k.lt
  have hn : h.length ≠ d := by omega
  refine lcL_run (Q := fun r' => ∃ (h' : IH) (n : Nat) (r1 r2 r3 r4 : Int), r' = .ok (.ref n) h' ∧ Ext d h h' ∧ Dice h' d ∧ h'[n]? = some (.lst [.int r1, .int r2, .int r3, .int r4]) ∧ (1 ≤ r1 ∧ 1 ≤ r2 ∧ 1 ≤ r3)) (rngL 0 4)
    (fun i acc e' h' => Ext d h h' ∧ Dice h' d ∧ (∃ xs : List Int, acc = xs.map .int ∧ xs.length = i ∧ ∀ a ∈ xs, 1 ≤ a) ∧ h'[h.length]? = some (.lst acc) ∧ e'[0]? = some (some (.ref d)) ∧ ∃ z, e'[11]? = some z) ?_ ?_ ?_ 4 0 _ [] _ _ (by simp [rngL_len]) (by simp [srR])
    ⟨Ext.app, k.app, ⟨[], rfl, rfl, by simp⟩, new_at _ _, set_get e0 (by decide), ⟨_, set_own e11⟩⟩
  · rintro i x acc e' h' hx' _
    obtain ⟨q1, rfl⟩ := rngL_get hx'
    exact srR_it (by simpa using q1)
  · rintro acc e' h' ⟨p, q, ⟨xs, rfl, hl, hx⟩, q3, _⟩
    rw [rngL_len] at *
    refine ⟨srR_end (lo := 0) (hi := 4), h', h.length, ?_⟩
    match xs, hl with
    | [r1, r2, r3, r4], _ => exact ⟨r1, r2, r3, r4, rfl, p, q, q3, hx _ (by simp), hx _ (by simp), hx _ (by simp)⟩
  · rintro i x acc e' h' hx' ⟨p, q, ⟨xs, rfl, hl, hx⟩, q3, q5, z, q6⟩
    obtain ⟨w1, rfl⟩ := rngL_get hx'
    have q5' : (e'.set 11 (some (.int (0 + (i : Nat)))))[0]? = some (some (.ref d)) := set_get q5 (by decide)
    obtain ⟨a, h2, ea, ia, ka, xa, _⟩ := s_rollE h' d 50 q (by omega)
    have q3' := xa.get q3 hn
    refine ⟨_, h', true, h', rfl, rfl, ?_⟩
    rw [if_pos rfl]
    refine ⟨.int (1 + a), h2, ?_, q3', ?_, ?_, ?_, ⟨xs ++ [1 + a], by simp, by simp [hl], ?_⟩, set_at q3', q5', _, set_own q6⟩
    · simp only [m2, mOwn_eq, mCons, mNil, mVar_at q5', bind_ok]
      simp [ea]
    · have : sizeLine > 1000 := by decide
      simp only [List.length_map]
      omega
    · have pp := p.trans xa
      refine ⟨by have := pp.len; simpa using this, fun j hj hjd => ?_⟩
      rw [List.getElem?_set_ne (by omega)]
      exact pp.at_ j hj hjd
    · obtain ⟨o, eo, co⟩ := ka
      exact ⟨o, set_ne eo hn, co⟩
    · intro b hb
      rcases List.mem_append.mp hb with hb | hb
      · exact hx b hb
      · simp at hb; omega
abbrev env2 (d a p : Nat) (s each w : Int) (y6 y7 y8 y9 y10 y11 : Option IV) (r1 r2 r3 r4 : Int) (b : Nat) (t : Int) (y18 : Option IV) : IE := [some (.ref d), some (.int s), some (.int each), some (.ref a), some (.int w), some (.ref p), y6, y7, y8, y9, y10, y11, some (.int r1), some (.int r2), some (.int r3), some (.int r4), some (.ref b), some (.int t), y18]
abbrev b_two : MS := (sSeq (sAsg (m2 gAdd (m2 gAdd (mVar 17) (mC (.int 1))) (mOwn 2 (f_law_roll 2) (mCons (mVar 0) (mCons (mC (.int 30)) (mNil))))) (gName' 17))
          (sAsg (m2 gAdd (mVar 16) (mLst (mCons (mVar 17) (mNil)))) (gName' 16)))
theorem turn2 (d a p : Nat) (s each w : Int) (y6 y7 y8 y9 y10 y11 : Option IV) (r1 r2 r3 r4 : Int) (b : Nat) (t : Int) (y18 : Option IV) (h : IH) (looks : List Int) (D : Dice h d) (eb : h[b]? = some (.lst (looks.map .int))) (hb : b ≠ d) (hl : looks.length < 100) :
    ∃ (b' : Nat) (t' : Int) (h' : IH), b_two (env2 d a p s each w y6 y7 y8 y9 y10 y11 r1 r2 r3 r4 b t y18) h = .nx (env2 d a p s each w y6 y7 y8 y9 y10 y11 r1 r2 r3 r4 b' t' y18) h' ∧ t < t' ∧ Dice h' d ∧ b' ≠ d ∧ h'[b']? = some (.lst ((looks ++ [t']).map .int)) ∧ Ext d h h' := by
  obtain ⟨r, h1, er, br, k1, x1, l1⟩ := s_rollE h d 30 D (by omega)
  have eb1 := x1.get eb hb
  have e2 : (h1 ++ [Sh.IO.lst [.int (t + 1 + r)]])[b]? = some (.lst (looks.map .int)) := app_at eb1
  have e3 : (h1 ++ [Sh.IO.lst [.int (t + 1 + r)]])[h1.length]? = some (.lst [.int (t + 1 + r)]) := new_at _ _
  have hz : looks.length + 1 ≤ 10000000 := by omega
  refine ⟨h1.length + 1, t + 1 + r, h1 ++ [.lst [.int (t + 1 + r)], .lst ((looks ++ [t + 1 + r]).map .int)], ?_, by omega, k1.app, ?_, by simp [List.getElem?_append], x1.trans Ext.app⟩
  · simp [b_two, er, e2, e3, big, hz]
  · have := k1.lt; omega
theorem Rising.snoc {lg : Int} {looks : List Int} {t t' : Int} (r : Rising lg looks) (ht : t = (lg :: looks).getLast (by simp)) (h : t < t') : Rising lg (looks ++ [t']) := by
  intro i x y e1 e2
  by_cases hi : i < looks.length
  · refine r i x y ?_ ?_
    · rw [← List.cons_append, List.getElem?_append_left (by simp; omega)] at e1
      exact e1
    · rw [List.getElem?_append_left hi] at e2
      exact e2
  · have hi2 : i = looks.length := by
      have := (List.getElem?_eq_some_iff.mp e2).1
      simp at this
      omega
    subst hi2
    rw [← List.cons_append, List.getElem?_append_left (by simp)] at e1
    simp at e2
    subst e2
    have : (lg :: looks)[looks.length]? = some t := by
      rw [ht, List.getLast_eq_getElem]
      simp
    rw [this] at e1
    cases e1
    exact h
theorem gEq_when {h : IH} {x : Int} {b : Bool} : gEq (.tup [.int x, .bl b]) (.tup [.int x, .bl b]) h = .ok (.bl true) h := by
  have hb : ∀ n, dat n h (.bl b) = some (.bool b) := fun n => by cases n <;> rfl
  have d1 : dat 9 h (.tup [.int x, .bl b]) = some (.tuple [.int x, .bool b]) := by
    show (mapO (dat 8 h) [.int x, .bl b]).map PyData.tuple = _
    simp only [mapO, dat_scal, hb]
    rfl
  simp only [gEq, eqS, d1]
  simp [SeqAt.shaped, PyData.canLay0, PyData.canLayAll0, PyData.depth, PyData.depthAll, PyData.eqv, PyData.eqvAll]
end K10

namespace K10
open PySem PySem.Spec PyProof.Rows L2 Sh
theorem for_go {P : Fl → Prop} {f : MI} {t : MG} {b g : MS} {e : IE} {h h1 : IH} {S : Sr} (a : f e h = .ok S h1) (xs : List IV) (J : Nat → IE → IH → Prop)
    (hS : ∀ i x e h, xs[i]? = some x → J i e h → S.nx i h = .it x) (hE : ∀ e h, J xs.length e h → S.nx xs.length h = .stop ∧ P (g e h))
    (hb : ∀ i x e h, xs[i]? = some x → J i e h → ∃ e1 h1, t x e h = .nx e1 h1 ∧ ∃ e2 h2, b e1 h1 = .nx e2 h2 ∧ J (i + 1) e2 h2) (hn : xs.length ≤ S.n) (j0 : J 0 e h1) : P (sSeq (sFor f t b) g e h) := by
  refine for_ex a (forL_run (Q := fun fl => P (fl.thn g)) xs J hS hE (fun i x e h hx j => ?_) xs.length 0 _ e h1 (by omega) (by omega) j0)
  obtain ⟨e1, h1, q1, e2, h2, q2, q3⟩ := hb i x e h hx j
  exact ⟨e1, h1, q1, by rw [q2]; exact q3⟩
theorem last_snoc {x t : Int} {l : List Int} : t = (x :: (l ++ [t])).getLast (by simp) := by
  rw [List.getLast_cons (by simp)]
  simp
def PC (d : Nat) (h : IH) (r : Fl) : Prop := ∃ h', r = .rt (.bl true) h' ∧ Ext d h h'
theorem s_counts (h : IH) (d : Nat) (s : Int) (D : Dice h d) (hs : In32 s) : ∃ h', f_law_counts [.ref d, .int s] h = .ok (.bl true) h' ∧ Ext d h h' := by
  have main : PC d h (m_law_counts [some (.ref d), some (.int s), none, none, none, none, none, none, none, none, none, none, none, none, none, none, none, none, none] h) := by
    obtain ⟨r, h1, er, br, k1, x1, l1⟩ := s_rollE h d 4 D (by omega)
    obtain ⟨h2, eh2⟩ : ∃ h2, h2 = h1 ++ [Sh.IO.lst [.int s]] := ⟨_, rfl⟩
    have k2 : Dice h2 d := by rw [eh2]; exact k1.app
    have e2 : h2[h1.length]? = some (.lst [.int s]) := by rw [eh2]; exact new_at _ _
    have l2 : h2.length = h1.length + 1 := by rw [eh2]; simp
    have hd2 := k1.lt
    unfold m_law_counts
    refine seq_ex (P := PC d h) (e1 := [some (.ref d), some (.int s), some (.int (1 + r)), some (.ref h1.length), some (.int 0), none, none, none, none, none, none, none, none, none, none, none, none, none, none]) (h1 := h2) (by simp [er, big, eh2]) ?_
    obtain ⟨h3, e3, P3, p3⟩ := s_make h2 s (1 + r) [some (.ref d), some (.int s), some (.int (1 + r)), some (.ref h1.length), some (.int 0), none, none, none, none, none, none, none, none, none, none, none, none, none, none] h2 (mCons (mVar 1) (mCons (mVar 2) (mNil))) (by simp) hs (by omega)
    refine seq_ex (P := PC d h) (e1 := env1 d h1.length h2.length s (1 + r) 0 none none none none) (h1 := h3) (by rw [sAsg_eq, e3]; rfl) ?_
    obtain ⟨n, h4, er4, br4, k4, x4, l4⟩ := s_rollE h3 d 20 (k2.pre p3) (by omega)
    have hp : h2.length ≠ d := by omega
    have hq : h2.length + 1 ≠ d := by omega
    generalize hpp : h2.length = p at *
    generalize 1 + r = each at *
    have hp0 : h.length ≤ p := by have := x1.len; omega
    have kk4 : Kp [d, p, p + 1] h h4 := (kE x1).trans ((by rw [eh2]; exact Kp.app : Kp [d, p, p + 1] h1 h2).trans ((kX p3).trans (kE x4)))
    have hS : mRng1 (mCons (mOwn 2 (f_law_roll 2) (mCons (mVar 0) (mCons (mC (.int 20)) (mNil)))) (mNil)) (env1 d h1.length p s each 0 none none none none) h3 = .ok (srR 0 n) h4 := by
      have : -4611686018427387904 ≤ n ∧ n < 4611686018427387904 := by omega
      simp [er4, -srR, this]
    have a4 : h4[h1.length]? = some (.lst ((hadP s 0).map .int)) := by
      rw [hadP_zero hs]
      exact x4.get (pre_get p3 e2) (by omega)
    have P4 : Pr h4 p (p + 1) ((s + ((0 : Nat) : Int)) % 4294967296) each 0 (hadP s 0) := by
      rw [hadP_zero hs, show (s + ((0 : Nat) : Int)) % 4294967296 = s by omega]
      exact P3.ext x4 hp hq
    refine for_go (P := PC d h) hS (rngL 0 n.toNat) (fun i e h' => i ≤ n.toNat ∧ J1 d p (p + 1) s each i e h' ∧ Kp [d, p, p + 1] h h') ?_ ?_ ?_ (by simp [rngL_len, srR]) ⟨Nat.zero_le _, ⟨⟨_, 0, 0, _, _, _, _, Nat.le_refl _, by omega, rfl, a4, P4⟩, k4⟩, kk4⟩
    · rintro i x e' h' hx' _
      obtain ⟨q1, rfl⟩ := rngL_get hx'
      exact srR_it (by simpa using q1)
    · rintro e' h' ⟨hi, ⟨⟨a, m, w, y6, y7, y8, y9, hm, ha, rfl, ea, P5⟩, k5⟩, kk5⟩
      rw [rngL_len] at *
      refine ⟨by have := srR_end (lo := 0) (hi := n) (h := h'); simpa using this, ?_⟩
      obtain ⟨v, h6, a6, iv, k6, x6⟩ := asked_run h' d a p s each w m (by omega) hs y6 y7 y8 y9 none [none, none, none, none, none, none, none, none] ea k5 ha
      refine seq_ex (P := PC d h) a6 ?_
      obtain ⟨h7, a7, p7⟩ := behind_check h6 d a p (p + 1) s each w v m (by omega) [none, none, none, none, none, none, none, none] y6 y7 y8 y9 (x6.get ea ha) (P5.ext x6 hp hq) iv
      refine seq_ex (P := PC d h) a7 ?_
      obtain ⟨h8, c, r1, r2, r3, r4, a8, x8, k8, c8, w1, w2, w3⟩ := four_run d [some (.ref d), some (.int s), some (.int each), some (.ref a), some (.int w), some (.ref p), y6, y7, y8, y9, some (.int v), none, none, none, none, none, none, none, none] h7 (k6.pre p7) rfl ⟨_, rfl⟩
      refine seq_ex (P := PC d h) (e1 := [some (.ref d), some (.int s), some (.int each), some (.ref a), some (.int w), some (.ref p), y6, y7, y8, y9, some (.int v), none, some (.int r1), some (.int r2), some (.int r3), some (.int r4), none, none, none]) (h1 := h8) (by rw [sAsg_eq, a8, st_ok, gSeq_ref c8]; simp) ?_
      obtain ⟨h9, eh9⟩ : ∃ h9, h9 = h8 ++ [Sh.IO.lst []] := ⟨_, rfl⟩
      have k9 : Dice h9 d := by rw [eh9]; exact k8.app
      have e9 : h9[h8.length]? = some (.lst []) := by rw [eh9]; exact new_at _ _
      have b9 : h8.length ≠ d := Nat.ne_of_gt k8.lt
      refine seq_ex (P := PC d h) (e1 := [some (.ref d), some (.int s), some (.int each), some (.ref a), some (.int w), some (.ref p), y6, y7, y8, y9, some (.int v), none, some (.int r1), some (.int r2), some (.int r3), some (.int r4), some (.ref h8.length), none, none]) (h1 := h9) (by simp [big, eh9]) ?_
      refine seq_ex (P := PC d h) (e1 := env2 d a p s each w y6 y7 y8 y9 (some (.int v)) none r1 r2 r3 r4 h8.length r4 none) (h1 := h9) (by simp) ?_
      obtain ⟨n2, h10, er10, br10, k10, x10, l10⟩ := s_rollE h9 d 4 k9 (by omega)
      have hS2 : mRng1 (mCons (mOwn 2 (f_law_roll 2) (mCons (mVar 0) (mCons (mC (.int 4)) (mNil)))) (mNil)) (env2 d a p s each w y6 y7 y8 y9 (some (.int v)) none r1 r2 r3 r4 h8.length r4 none) h9 = .ok (srR 0 n2) h10 := by
        have : -4611686018427387904 ≤ n2 ∧ n2 < 4611686018427387904 := by omega
        simp [er10, -srR, this]
      have kk10 : Kp [d, p, p + 1] h h10 := kk5.trans ((kE x6).trans ((kX p7).trans ((kE x8).trans ((by rw [eh9]; exact Kp.app : Kp [d, p, p + 1] h8 h9).trans (kE x10)))))
      refine for_go (P := PC d h) hS2 (rngL 0 n2.toNat) (fun i e h' => (i ≤ n2.toNat ∧ Kp [d, p, p + 1] h h') ∧ Dice h' d ∧ ∃ b t looks y11, e = env2 d a p s each w y6 y7 y8 y9 (some (.int v)) y11 r1 r2 r3 r4 b t none ∧ h'[b]? = some (.lst (looks.map .int)) ∧ b ≠ d ∧ looks.length = i ∧ Rising r4 looks ∧ t = (r4 :: looks).getLast (by simp)) ?_ ?_ ?_ (by simp [rngL_len, srR]) ⟨⟨Nat.zero_le _, kk10⟩, k10, _, _, [], _, rfl, x10.get e9 b9, b9, rfl, fun i x y _ e => by simp at e, rfl⟩
      · rintro i x e' h' hx' _
        obtain ⟨q1, rfl⟩ := rngL_get hx'
        exact srR_it (by simpa using q1)
      · rintro e' h11 ⟨⟨hi2, kk11⟩, k11, b, t, looks, y11, rfl, eb, hbd, hl11, ris, ht⟩
        rw [rngL_len] at *
        refine ⟨by have := srR_end (lo := 0) (hi := n2) (h := h11); simpa using this, ?_⟩
        obtain ⟨h12, eh12⟩ : ∃ h12, h12 = h11 ++ [Sh.IO.lst []] := ⟨_, rfl⟩
        have eb12 : h12[b]? = some (.lst (looks.map .int)) := by rw [eh12]; exact app_at eb
        have en12 : h12[h11.length]? = some (.lst (([] : List Int).map .int)) := by rw [eh12]; exact new_at _ _
        have g12 := gNe_ints eb12 en12
        have hwhen : sAsg (mIf (m2 gNe (mVar 16) (mLst (mNil))) (m2 gAdd (m2 gIx (mVar 16) (m1 gNeg (mC (.int 1)))) (mVar 13)) (m2 gAdd (mVar 15) (mVar 12))) (gName' 18) (env2 d a p s each w y6 y7 y8 y9 (some (.int v)) y11 r1 r2 r3 r4 b t none) h11 = .nx (env2 d a p s each w y6 y7 y8 y9 (some (.int v)) y11 r1 r2 r3 r4 b t (some (.int (whenP r1 r2 r4 looks)))) h12 := by
          unfold whenP
          cases hg : looks.getLast? with
          | none =>
            have hnil : looks = [] := by simpa using hg
            subst hnil
            simp [big, ← eh12, g12]
          | some j =>
            obtain ⟨l, rfl⟩ := List.getLast?_eq_some_iff.mp hg
            have hat : atI ((l ++ [j]).map IV.int) (-1) = some (.int j) := by rw [List.map_append]; exact atI_last
            have hne : ¬ l ++ [j] = [] := by simp
            rw [List.map_append] at eb12 hat
            simp at eb12 hat
            simp [big, ← eh12, g12, hne, eb12, hat]
        refine seq_ex (P := PC d h) hwhen ?_
        obtain ⟨h13, e13, p13⟩ := s_look h12 b r1 r2 r3 r4 looks eb12 (by omega) ris w1 w2 w3
        have kk13 : Kp [d, p, p + 1] h h13 := kk11.trans ((by rw [eh12]; exact Kp.app : Kp [d, p, p + 1] h11 h12).trans (kX p13))
        refine ⟨h13, ?_, ⟨kk13.len, fun j hj hjd => kk13.at_ j hj (by simp; omega)⟩⟩
        have g13 := gEq_when (h := h13) (x := whenP r1 r2 r4 looks) (b := decide (whenP r1 r2 r4 looks < r4 + r3))
        simp [e13, big, g13]
      · rintro i x e' h' hx' ⟨⟨hi2, kk11⟩, k11, b, t, looks, y11, rfl, eb, hbd, hl11, ris, ht⟩
        obtain ⟨q1, rfl⟩ := rngL_get hx'
        obtain ⟨b', t', h12, e12, lt12, k12, hb12, eb12, xx12⟩ := turn2 d a p s each w y6 y7 y8 y9 (some (.int v)) (some (.int (0 + (i : Nat)))) r1 r2 r3 r4 b t none h' looks k11 eb hbd (by omega)
        exact ⟨_, h', rfl, _, h12, e12, ⟨by omega, kk11.trans (kE xx12)⟩, k12, b', t', looks ++ [t'], _, rfl, eb12, hb12, by simp [hl11], ris.snoc ht lt12, last_snoc⟩
    · rintro i x e' h' hx' ⟨hi, ⟨⟨a, m, w, y6, y7, y8, y9, hm, ha, rfl, ea, P5⟩, k5⟩, kk5⟩
      obtain ⟨q1, rfl⟩ := rngL_get hx'
      obtain ⟨e2, h6, e6, j6, kk6⟩ := turn1 d p (p + 1) s each i h' a m w (some (.int (0 + (i : Nat)))) y7 y8 y9 hm (by omega) ea P5 k5 hp hq ha
      exact ⟨_, h', rfl, e2, h6, e6, by omega, j6, kk5.trans kk6⟩
  obtain ⟨h', e, xx⟩ := main
  refine ⟨h', ?_, xx⟩
  simp only [f_law_counts, fnM_eq]
  show (m_law_counts [some (.ref d), some (.int s), none, none, none, none, none, none, none, none, none, none, none, none, none, none, none, none, none] h).fin = _
  rw [e]
  rfl
end K10

namespace K10
open PySem PySem.Spec PyProof.Rows L2 Sh
theorem s_dice (n : Int) (h : IH) : ∃ o, f_law_dice [.int n] h = .ok (.ref h.length) (h ++ [o]) ∧ Dc o := by
  by_cases h1 : -10 < n
  · by_cases h2 : n < 10
    · refine ⟨.lst [.int (if n < 0 then -n else n), .int 0, .int 2], ?_, ⟨_, _, _, rfl⟩⟩
      simp [f_law_dice, fnM_eq, m_law_dice, h1, h2, big]
    · refine ⟨.lst [.int n, .int (1 + n % 1009), .int (if 1000000000000000000 ≤ n then 1 else 0)], ?_, ⟨_, _, _, rfl⟩⟩
      simp [f_law_dice, fnM_eq, m_law_dice, h1, h2, big]
  · refine ⟨.lst [.int n, .int (1 + n % 1009), .int (if 1000000000000000000 ≤ n then 1 else 0)], ?_, ⟨_, _, _, rfl⟩⟩
    simp [f_law_dice, fnM_eq, m_law_dice, h1, big]
theorem cut_one (ns : List Int) : cutI (ns.map IV.int) none (some 1) = (ns.take 1).map IV.int := by
  unfold cutI HT.sIx
  cases ns with
  | nil => simp
  | cons n r => simp; try omega
/-- the one die -/
theorem comp_run (c : Nat) (n : Int) (x : Option IV) (h : IH) (ec : h[c]? = some (.lst [.int n])) :
    ∃ h' d, mLc (mItV (mVar 2)) [3] (gName' 3) (mC (.bl true)) (mOwn 1 f_law_dice (mCons (mVar 3) (mNil))) [x, some (.int 1), some (.ref c), none] h = .ok (.ref h.length) h' ∧ h'[h.length]? = some (.lst [.ref d]) ∧ Dice h' d := by
  obtain ⟨o, eo, co⟩ := s_dice n (h ++ [.lst []])
  have h0 : (h ++ [Sh.IO.lst []])[c]? = some (.lst [.int n]) := app_at ec
  have h1 : (h ++ [Sh.IO.lst [], o])[h.length]? = some (.lst []) := by simp
  refine ⟨h ++ [.lst [.ref (h.length + 1)], o], h.length + 1, ?_, by simp, ⟨o, by simp [List.getElem?_append], co⟩⟩
  have e1 : f_law_dice [.int n] (h ++ [.lst []]) = .ok (.ref (h.length + 1)) (h ++ [.lst [], o]) := by rw [eo]; simp
  have h2 : (h ++ [Sh.IO.lst [.ref (h.length + 1)], o])[c]? = some (.lst [.int n]) := app_at ec
  have hs : (0 : Nat) < sizeLine := by decide
  simp [ec, wipeI, lcL, h0, e1, h1, hs, h2]
theorem s_rounds (ns : List Int) (x : IV) (h : IH) (hx : x = .fz (ns.map .int) ∧ h = [] ∨ x = .ref 0 ∧ h = [.lst (ns.map .int)]) :
    ∃ h' c d, f_law_rounds [x, .int 1] h = .ok (.ref c) h' ∧ h'[c]? = some (.lst [.ref d]) ∧ Dice h' d := by
  have hsl : gSl x none (some 1) h = .ok (.ref h.length) (h ++ [.lst ((ns.take 1).map .int)]) := by
    rcases hx with ⟨rfl, rfl⟩ | ⟨rfl, rfl⟩ <;> simp [gSl, cut_one]
  have g0 := gEq_ints (h := h ++ [Sh.IO.lst ((ns.take 1).map .int), .lst []]) (k := h.length) (j := h.length + 1) (ys := ns.take 1) (zs := []) (by simp) (by simp [List.getElem?_append])
  cases ns with
  | nil =>
    obtain ⟨h', d, e, q1, q2⟩ := comp_run (h.length + 2) 0 (some x) (h ++ [.lst [], .lst [], .lst [.int 0]]) (by simp [List.getElem?_append])
    refine ⟨h', _, d, ?_, q1, q2⟩
    simp [-gSl] at hsl g0
    simp [f_law_rounds, fnM_eq, m_law_rounds, hsl, big, g0, -gSl, -mLc, e]
  | cons n r =>
    obtain ⟨h', d, e, q1, q2⟩ := comp_run h.length n (some x) (h ++ [.lst [.int n], .lst []]) (by simp)
    refine ⟨h', _, d, ?_, q1, q2⟩
    simp [-gSl] at hsl g0
    simp [f_law_rounds, fnM_eq, m_law_rounds, hsl, big, g0, -gSl, -mLc, e]
end K10

namespace K10
open PySem PySem.Spec PyProof.Rows L2 Sh
theorem sw_lat {a b : Int} : sw a b = zLat ↔ a ≠ b ∧ (a - b) % 4294967296 < 2147483648 := by
  unfold sw
  (repeat' split) <;> simp [zSame, zNei, zLat, zEar] <;> omega
def dueP (a b : Int) : Int := if a = b then 0 else if sw b a = zLat then 1 else if sw b ((a + 2147483647) % 4294967296) = zLat then 2 else 3
theorem due_len {a b : Int} : dueP a b = ((stepsP a b).length : Int) := by
  unfold dueP stepsP
  (repeat' split) <;> rfl
theorem way_in {a b : Int} (ha : In32 a) (hb : In32 b) : ∀ x ∈ a :: stepsP a b, In32 x := by
  intro x hx
  unfold stepsP at hx
  rcases List.mem_cons.mp hx with rfl | hx
  · exact ha
  · (repeat' split at hx) <;> simp at hx
    · rw [hx]; exact hb
    · rcases hx with rfl | rfl
      · exact in32_mod _
      · exact hb
    · rcases hx with rfl | rfl | rfl
      · exact in32_mod _
      · omega
      · exact hb
theorem way_last {a b : Int} : ∃ l, a :: stepsP a b = l ++ [b] := by
  unfold stepsP
  split
  · rename_i e; exact ⟨[], by rw [e]; rfl⟩
  · split
    · exact ⟨[a], rfl⟩
    · split
      · exact ⟨[a, _], rfl⟩
      · exact ⟨[a, _, _], rfl⟩
theorem way_later {a b : Int} (ha : In32 a) (hb : In32 b) : ∀ (i : Nat) (u v : Int), (a :: stepsP a b)[i]? = some u → (a :: stepsP a b)[i + 1]? = some v → sw v u = zLat := by
  intro i u v h1 h2
  unfold stepsP at h1 h2
  by_cases e1 : a = b
  · simp [e1] at h2
  · rw [if_neg e1] at h1 h2
    by_cases e2 : sw b a = zLat
    · rw [if_pos e2] at h1 h2
      match i, h1, h2 with
      | 0, h1, h2 => simp at h1 h2; subst h1 h2; exact e2
      | n + 1, _, h2 => simp at h2
    · rw [if_neg e2] at h1 h2
      by_cases e3 : sw b ((a + 2147483647) % 4294967296) = zLat
      · rw [if_pos e3] at h1 h2
        match i, h1, h2 with
        | 0, h1, h2 => simp at h1 h2; subst h1 h2; rw [sw_lat]; omega
        | 1, h1, h2 => simp at h1 h2; subst h1 h2; exact e3
        | n + 2, _, h2 => simp at h2
      · rw [if_neg e3] at h1 h2
        rw [sw_lat] at e2 e3
        match i, h1, h2 with
        | 0, h1, h2 => simp at h1 h2; subst h1 h2; rw [sw_lat]; omega
        | 1, h1, h2 => simp only [List.getElem?_cons_succ, List.getElem?_cons_zero, Option.some.injEq] at h1 h2; subst h1 h2; rw [sw_lat]; omega
        | 2, h1, h2 => simp only [List.getElem?_cons_succ, List.getElem?_cons_zero, Option.some.injEq] at h1 h2; subst h1 h2; rw [sw_lat]; omega
        | n + 3, _, h2 => simp at h2
theorem way_len {a b : Int} : (a :: stepsP a b).length ≤ 4 := by
  unfold stepsP
  (repeat' split) <;> simp
abbrev t_fit : ME := m2 gNe (mOwn 2 f_law_compared (mCons (m2 gIx (mVar 5) (mVar 20)) (mCons (m2 gIx (mVar 5) (m2 Sh.gSub (mVar 20) (mC (.int 1)))) (mNil)))) (mC (.str [108, 97, 116, 101, 114]))
theorem mRng2_ok {fs : IE → M (List IV)} {e : IE} {h h1 : IH} {i j : Int} (a : fs e h = .ok [.int i, .int j] h1) (hi : -1000 ≤ i ∧ i ≤ 1000) (hj : -1000 ≤ j ∧ j ≤ 1000) : mRng2 fs e h = .ok (srR i j) h1 := by
  have c : -(2 ^ 62) ≤ i ∧ i < 2 ^ 62 ∧ -(2 ^ 62) ≤ j ∧ j < 2 ^ 62 := by omega
  simp only [mRng2, a, bind_ok]
  rw [if_pos c]
theorem atI_nat {α : Type} {xs : List α} {i : Nat} {x : α} (e : xs[i]? = some x) : atI xs (i : Int) = some x := by
  have := (List.getElem?_eq_some_iff.mp e).1
  unfold atI ixN
  rw [if_pos (by omega), if_pos (by omega)]
  simpa using e
theorem fits_run (e : IE) (h : IH) (k : Nat) (ws : List Int) (hw : ws.length ≤ 4) (h1 : 1 ≤ ws.length) (e5 : e[5]? = some (some (.ref k))) (y20 : ∃ z, e[20]? = some z) (ek : h[k]? = some (.lst (ws.map .int))) (hx : ∀ a ∈ ws, In32 a) (hl : ∀ (i : Nat) (u v : Int), ws[i]? = some u → ws[i + 1]? = some v → sw v u = zLat) :
    mLc (mRng2 (mCons (mC (.int 1)) (mCons (mCall gLen (mCons (mVar 5) (mNil))) (mNil)))) [20] (gName' 20) t_fit (mVar 20) e h = .ok (.ref h.length) (h ++ [.lst []]) := by
  obtain ⟨z20, e20⟩ := y20
  have e2 : mRng2 (mCons (mC (.int 1)) (mCons (mCall gLen (mCons (mVar 5) (mNil))) (mNil))) e h = .ok (srR 1 ws.length) h := by
    refine mRng2_ok ?_ (by omega) (by omega)
    simp [mVar_at e5, ek, -mVar]
  have hn : ((ws.length : Int) - 1).toNat = ws.length - 1 := by omega
  have hn2 : ws.length - 1 < (srR 1 (ws.length : Int)).n + 1 := by
    show ws.length - 1 < ((ws.length : Int) - 1).toNat + 1
    omega
  simp only [mLc, e2, wipeI]
  have ek' : (h ++ [Sh.IO.lst []])[k]? = some (.lst (ws.map .int)) := app_at ek
  refine lcL_run (Q := fun r => r = .ok (.ref h.length) (h ++ [.lst []])) (rngL 1 (ws.length - 1))
    (fun i acc e' h' => h' = h ++ [.lst []] ∧ acc = [] ∧ e'[5]? = some (some (.ref k)) ∧ ∃ z, e'[20]? = some z) ?_ ?_ ?_ (ws.length - 1) 0 ((srR 1 (ws.length : Int)).n + 1) [] _ _ (by simp [rngL_len]) hn2 ⟨rfl, rfl, set_get e5 (by decide), ⟨_, set_own e20⟩⟩
  · rintro i x acc e' h' hx' _
    obtain ⟨q1, rfl⟩ := rngL_get hx'
    exact srR_it (by omega)
  · rintro acc e' h' ⟨rfl, rfl, _⟩
    rw [rngL_len, ← hn]
    exact ⟨srR_end, rfl⟩
  · rintro i x acc e' h' hx' ⟨rfl, rfl, q5, z, q20⟩
    obtain ⟨w1, rfl⟩ := rngL_get hx'
    have q5' : (e'.set 20 (some (.int (1 + (i : Nat)))))[5]? = some (some (.ref k)) := set_get q5 (by decide)
    have q20' : (e'.set 20 (some (.int (1 + (i : Nat)))))[20]? = some (some (.int (1 + (i : Nat)))) := set_own q20
    have l1 : i < ws.length := by omega
    have l2 : i + 1 < ws.length := by omega
    have g1 : ws[i]? = some ws[i] := List.getElem?_eq_getElem l1
    have g2 : ws[i + 1]? = some ws[i + 1] := List.getElem?_eq_getElem l2
    have a1 : atI (ws.map IV.int) (1 + (i : Nat) - 1) = some (.int ws[i]) := by
      rw [show (1 + (i : Int) - 1) = (i : Int) by omega]
      exact atI_nat (by rw [List.getElem?_map, g1]; rfl)
    have a2 : atI (ws.map IV.int) (1 + (i : Nat)) = some (.int ws[i + 1]) := by
      rw [show (1 + (i : Int)) = ((i + 1 : Nat) : Int) by omega]
      exact atI_nat (by rw [List.getElem?_map, g2]; rfl)
    have la := hl i _ _ g1 g2
    refine ⟨_, h ++ [.lst []], false, h ++ [.lst []], rfl, ?_, ?_⟩
    · simp only [t_fit, m2, mOwn_eq, mCons, mNil, mC, mVar_at q5', mVar_at q20', bind_ok, Sh.gSub, gI, if_true, gIx_ref ek' a2, gIx_ref ek' a1]
      simp [s_lcmp _ _ _ (hx _ (List.getElem_mem l2)) (hx _ (List.getElem_mem l1)), la]
    · rw [if_neg Bool.false_ne_true]
      exact ⟨rfl, rfl, q5', _, q20'⟩
end K10

namespace K10
open PySem PySem.Spec PyProof.Rows L2 Sh
theorem isa_ss : isa "SerialError" "SerialError" = some true := by decide
theorem tellE {h : IH} : tell1 isa "SerialError" zErr (.exc "SerialError" h) = .ok (.str zErr) h := tell_exc isa_ss
theorem gNe_i4 {h : IH} {a b c d : Int} : gNe (.tup [.int a, .int b, .int c, .int d]) (.tup [.int a, .int b, .int c, .int d]) h = .ok (.bl false) h := by
  have d1 : dat 9 h (.tup [.int a, .int b, .int c, .int d]) = some (.tuple [.int a, .int b, .int c, .int d]) := by
    show (mapO (dat 8 h) [.int a, .int b, .int c, .int d]).map PyData.tuple = _
    simp only [mapO, dat_scal]
    rfl
  simp only [gNe, eqS, d1]
  simp [SeqAt.shaped, PyData.canLay0, PyData.canLayAll0, PyData.depth, PyData.depthAll, PyData.eqv, PyData.eqvAll]
abbrev GG (y mo da : Int) : Prop := okM y mo ∧ 1 ≤ da ∧ da ≤ dayP y mo
theorem clamp {mo : Int} (h : 1 ≤ mo ∧ mo ≤ 12) : (if (if mo < 12 then mo else 12) > 1 then (if mo < 12 then mo else 12) else 1) = mo := by
  (repeat' split) <;> omega
/-- 0 < y < 4295, 0 < mo < 13, 0 < da <= the days; the first test is t -/
theorem good_run (fy fm fd : ME) (t : ME) (e : IE) (h : IH) (y mo da : Int) (ey : ∀ h, fy e h = .ok (.int y) h) (em : ∀ h, fm e h = .ok (.int mo) h) (ed : ∀ h, fd e h = .ok (.int da) h) (et : t e h = .ok (.bl (decide (1 ≤ y ∧ y ≤ 4294))) h) :
    ∃ h', mAnd t (mAnd (mChain gLt gLt (mC (.int 0)) fm (mC (.int 13))) (mChain gLt gLe (mC (.int 0)) fd (mOwn 2 f_law_days (mCons fy (mCons (mCall gMax2 (mCons (mC (.int 1)) (mCons (mCall gMin2 (mCons (mC (.int 12)) (mCons fm (mNil)))) (mNil)))) (mNil)))))) e h = .ok (.bl (decide (GG y mo da))) h' ∧ h <+: h' := by
  by_cases h1 : 1 ≤ y ∧ y ≤ 4294
  · by_cases h2 : 0 < mo
    · by_cases h3 : mo < 13
      · have hm : 1 ≤ mo ∧ mo ≤ 12 := by omega
        by_cases h4 : 0 < da
        · obtain ⟨o, eo⟩ := s_ldays y mo h hm
          refine ⟨h ++ [o], ?_, List.prefix_append _ _⟩
          have hG : GG y mo da ↔ da ≤ dayP y mo := ⟨fun z => z.2.2, fun z => ⟨⟨h1, hm⟩, by omega, z⟩⟩
          have c := clamp hm
          simp only [gt_iff_lt] at c
          simp [et, h1, em, h2, h3, ed, h4, ey, c, eo, hG]
        · refine ⟨h, ?_, List.prefix_refl _⟩
          have hG : ¬ GG y mo da := fun z => by have := z.2.1; omega
          rw [decide_eq_false hG]
          simp [et, h1, em, h2, h3, ed, h4]
      · refine ⟨h, ?_, List.prefix_refl _⟩
        have hG : ¬ GG y mo da := fun z => by have := z.1.2; omega
        rw [decide_eq_false hG]
        simp [et, h1, em, h2, h3]
    · refine ⟨h, ?_, List.prefix_refl _⟩
      have hG : ¬ GG y mo da := fun z => by have := z.1.2; omega
      rw [decide_eq_false hG]
      simp [et, h1, em, h2]
  · refine ⟨h, ?_, List.prefix_refl _⟩
    have hG : ¬ GG y mo da := fun z => h1 z.1.1
    rw [decide_eq_false hG]
    rw [decide_eq_false h1] at et
    simp [et]
theorem dayP_le {y mo : Int} : dayP y mo ≤ 31 := by
  unfold dayP
  (repeat' split) <;> omega
theorem fst_lt {y mo da : Int} (g : GG y mo da) : 0 ≤ fstP y mo da ∧ fstP y mo da < 4294967296 := by
  have := @dayP_le y mo
  unfold fstP
  omega
def PB (d c : Nat) (r : Fl) : Prop := ∃ e' h', r = .nx e' h' ∧ e'.length = 23 ∧ h'[c]? = some (.lst [.ref d])
abbrev LE (x : Option IV) (d : Nat) (o m st wy ft du so be go fi fn nu mi wh da mo on ye : Option IV) : IE := [x, some (.ref d), o, m, st, wy, ft, du, so, be, go, fi, fn, nu, mi, wh, da, mo, on, ye, none, none, none]
def b_dates : MS := (sSeq (sAsg (mAnd (m2 gLt (mVar 19) (mC (.int 4295))) (mAnd (mChain gLt gLt (mC (.int 0)) (mVar 17) (mC (.int 13))) (mChain gLt gLe (mC (.int 0)) (mVar 16) (mOwn 2 f_law_days (mCons (mVar 19) (mCons (mCall gMax2 (mCons (mC (.int 1)) (mCons (mCall gMin2 (mCons (mC (.int 12)) (mCons (mVar 17) (mNil)))) (mNil)))) (mNil))))))) (gName' 10))
          (sSeq (sAsg (m2 gMul (m2 gAdd (m2 gMul (m2 gAdd (m2 gMul (mVar 19) (mC (.int 100))) (mVar 17)) (mC (.int 100))) (mVar 16)) (mC (.int 100))) (gName' 11))
          (sSeq (sAsg (mAnd (mVar 10) (m2 gLt (mVar 11) (mC (.int 4294967296)))) (gName' 12))
          (sSeq (sIf (m2 gNe (mOwn 1 f_is_leap (mCons (mVar 19) (mNil))) (mOr (m2 gEq (m2 gMod (mVar 19) (mC (.int 400))) (mC (.int 0))) (mAnd (m2 gEq (m2 gMod (mVar 19) (mC (.int 4))) (mC (.int 0))) (m2 gNe (m2 gMod (mVar 19) (mC (.int 100))) (mC (.int 0)))))) (sRet (mC (.bl false))) (sSkip))
          (sSeq (sIf (m2 gNe (m2 gIs (mTell isa "SerialError" [83, 101, 114, 105, 97, 108, 69, 114, 114, 111, 114] (mOwn 3 f_check_day (mCons (mVar 19) (mCons (mVar 17) (mCons (mVar 16) (mNil)))))) (mC .non)) (mVar 10)) (sRet (mC (.bl false))) (sSkip))
          (sSeq (sIf (m2 gNe (mTell isa "SerialError" [83, 101, 114, 105, 97, 108, 69, 114, 114, 111, 114] (mOwn 3 f_first_of_day (mCons (mVar 19) (mCons (mVar 17) (mCons (mVar 16) (mNil)))))) (mIf (mVar 12) (mVar 11) (mC (.str [83, 101, 114, 105, 97, 108, 69, 114, 114, 111, 114])))) (sRet (mC (.bl false))) (sSkip))
          (sSeq (sIf (m2 gNe (mTell isa "SerialError" [83, 101, 114, 105, 97, 108, 69, 114, 114, 111, 114] (mOwn 2 f_days_in (mCons (mVar 19) (mCons (mVar 17) (mNil))))) (mIf (mAnd (m2 gLt (mVar 19) (mC (.int 4295))) (mChain gLt gLt (mC (.int 0)) (mVar 17) (mC (.int 13)))) (mOwn 2 f_law_days (mCons (mVar 19) (mCons (mVar 17) (mNil)))) (mC (.str [83, 101, 114, 105, 97, 108, 69, 114, 114, 111, 114])))) (sRet (mC (.bl false))) (sSkip))
          (sSeq (sIf (m2 gNe (mTell isa "SerialError" [83, 101, 114, 105, 97, 108, 69, 114, 114, 111, 114] (mOwn 4 f_next_by_day (mCons (mVar 18) (mCons (mVar 19) (mCons (mVar 17) (mCons (mVar 16) (mNil))))))) (mIf (mNot (mVar 12)) (mC (.str [83, 101, 114, 105, 97, 108, 69, 114, 114, 111, 114])) (mIf (m2 gEq (mOwn 2 f_law_compared (mCons (mVar 11) (mCons (mVar 18) (mNil)))) (mC (.str [108, 97, 116, 101, 114]))) (mVar 11) (m2 gMod (m2 gAdd (mVar 18) (mC (.int 1))) (mC (.int 4294967296)))))) (sRet (mC (.bl false))) (sSkip))
          (sSeq (sPar2 13 14 (mCons (mOwn 2 (f_law_roll 2) (mCons (mVar 1) (mCons (mC (.int 100)) (mNil)))) (mCons (mTup (mCons (m2 gDiv (mVar 18) (mC (.int 1000000))) (mCons (m2 gMod (m2 gDiv (mVar 18) (mC (.int 10000))) (mC (.int 100))) (mCons (m2 gMod (m2 gDiv (mVar 18) (mC (.int 100))) (mC (.int 100))) (mCons (m2 gMod (mVar 18) (mC (.int 100))) (mNil)))))) (mNil))))
          (sSeq (sAsg (mAnd (mChain gLt gLt (mC (.int 0)) (m2 gIx (mVar 14) (mC (.int 0))) (mC (.int 4295))) (mAnd (mChain gLt gLt (mC (.int 0)) (m2 gIx (mVar 14) (mC (.int 1))) (mC (.int 13))) (mChain gLt gLe (mC (.int 0)) (m2 gIx (mVar 14) (mC (.int 2))) (mOwn 2 f_law_days (mCons (m2 gIx (mVar 14) (mC (.int 0))) (mCons (mCall gMax2 (mCons (mC (.int 1)) (mCons (mCall gMin2 (mCons (mC (.int 12)) (mCons (m2 gIx (mVar 14) (mC (.int 1))) (mNil)))) (mNil)))) (mNil))))))) (gName' 15))
          (sSeq (sIf (m2 gNe (mOwn 1 f_told_serial (mCons (mVar 18) (mNil))) (mIf (mVar 15) (mVar 14) (mC .non))) (sRet (mC (.bl false))) (sSkip))
          (sSeq (sIf (mAnd (mVar 12) (mAnd (m2 gLt (m2 gAdd (mVar 11) (mVar 13)) (mC (.int 4294967296))) (m2 gNe (mOwn 1 f_told_serial (mCons (m2 gAdd (mVar 11) (mVar 13)) (mNil))) (mTup (mCons (mVar 19) (mCons (mVar 17) (mCons (mVar 16) (mCons (mVar 13) (mNil))))))))) (sRet (mC (.bl false))) (sSkip))
          (sIf (mNot (mOwn 2 f_law_counts (mCons (mVar 1) (mCons (mVar 18) (mNil))))) (sRet (mC (.bl false))) (sSkip))))))))))))))

abbrev LD (x : Option IV) (d : Nat) (a b m y mo da : Int) (v4 v5 v7 v8 v9 go fi fn nu mi wh : Option IV) : IE := LE x d (some (.int b)) (some (.int m)) v4 v5 (some (.bl true)) v7 v8 v9 go fi fn nu mi wh (some (.int da)) (some (.int mo)) (some (.int a)) (some (.int y))
theorem dates (x : Option IV) (d c : Nat) (h : IH) (a b m y mo da : Int) (v4 v5 v7 v8 v9 : Option IV) (ia : In32 a) (by1 : 1 ≤ y ∧ y ≤ 4300) (bm : 0 ≤ mo ∧ mo < 14) (bd : 0 ≤ da ∧ da < 33) (k : Dice h d) (ec : h[c]? = some (.lst [.ref d])) (hc : c ≠ d) :
    PB d c (b_dates (LD x d a b m y mo da v4 v5 v7 v8 v9 none none none none none none) h) := by
  unfold b_dates
  obtain ⟨h1, e1, p1⟩ := good_run (mVar 19) (mVar 17) (mVar 16) (m2 gLt (mVar 19) (mC (.int 4295))) (LD x d a b m y mo da v4 v5 v7 v8 v9 none none none none none none) h y mo da (fun _ => rfl) (fun _ => rfl) (fun _ => rfl) (by
    have : (y < 4295) ↔ (1 ≤ y ∧ y ≤ 4294) := by omega
    simp [this])
  obtain ⟨G, hG⟩ : ∃ G, G = decide (GG y mo da) := ⟨_, rfl⟩
  rw [← hG] at e1
  refine seq_ex (P := PB d c) (e1 := LD x d a b m y mo da v4 v5 v7 v8 v9 (some (.bl G)) none none none none none) (h1 := h1) (by rw [sAsg_eq, e1]; rfl) ?_
  have k1 := k.pre p1
  have c1 := pre_get p1 ec
  obtain ⟨F, hF⟩ : ∃ F, F = fstP y mo da := ⟨_, rfl⟩
  refine seq_ex (P := PB d c) (e1 := LD x d a b m y mo da v4 v5 v7 v8 v9 (some (.bl G)) (some (.int F)) none none none none) (h1 := h1) (by simp [hF, fstP]) ?_
  have hfine : G = true → 0 ≤ F ∧ F < 4294967296 := fun z => by
    rw [hG, decide_eq_true_eq] at z
    rw [hF]
    exact fst_lt z
  refine seq_ex (P := PB d c) (e1 := LD x d a b m y mo da v4 v5 v7 v8 v9 (some (.bl G)) (some (.int F)) (some (.bl G)) none none none) (h1 := h1) (by
    cases hg : G with
    | true => have := (hfine hg).2; simp [this]
    | false => simp) ?_
  refine seq_ex (P := PB d c) (e1 := LD x d a b m y mo da v4 v5 v7 v8 v9 (some (.bl G)) (some (.int F)) (some (.bl G)) none none none) (h1 := h1) (chk_eq (by
    simp [s_leap]
    unfold leapP
    by_cases z1 : y % 400 = 0 <;> by_cases z2 : y % 4 = 0 <;> by_cases z3 : y % 100 = 0 <;> simp [z1, z2, z3])) ?_
  have hGG : (GG y mo da ↔ G = true) := by rw [hG, decide_eq_true_eq]
  refine seq_ex (P := PB d c) (e1 := LD x d a b m y mo da v4 v5 v7 v8 v9 (some (.bl G)) (some (.int F)) (some (.bl G)) none none none) (h1 := h1) (chk_eq (by
    have := s_checkday y mo da h1
    cases hg : G with
    | true => rw [if_pos (hGG.mpr hg)] at this; simp [this]
    | false => rw [if_neg (fun z => by rw [hGG.mp z] at hg; cases hg)] at this; simp [this, tellE])) ?_
  refine seq_ex (P := PB d c) (e1 := LD x d a b m y mo da v4 v5 v7 v8 v9 (some (.bl G)) (some (.int F)) (some (.bl G)) none none none) (h1 := h1) (chk_eq (by
    have := s_first y mo da h1
    cases hg : G with
    | true => rw [if_pos (hGG.mpr hg), ← hF] at this; simp [this]
    | false => rw [if_neg (fun z => by rw [hGG.mp z] at hg; cases hg)] at this; simp [this, tellE])) ?_
  have days_chk : ∃ h2, sIf (m2 gNe (mTell isa "SerialError" [83, 101, 114, 105, 97, 108, 69, 114, 114, 111, 114] (mOwn 2 f_days_in (mCons (mVar 19) (mCons (mVar 17) (mNil))))) (mIf (mAnd (m2 gLt (mVar 19) (mC (.int 4295))) (mChain gLt gLt (mC (.int 0)) (mVar 17) (mC (.int 13)))) (mOwn 2 f_law_days (mCons (mVar 19) (mCons (mVar 17) (mNil)))) (mC (.str [83, 101, 114, 105, 97, 108, 69, 114, 114, 111, 114])))) (sRet (mC (.bl false))) (sSkip) (LD x d a b m y mo da v4 v5 v7 v8 v9 (some (.bl G)) (some (.int F)) (some (.bl G)) none none none) h1 = .nx (LD x d a b m y mo da v4 v5 v7 v8 v9 (some (.bl G)) (some (.int F)) (some (.bl G)) none none none) h2 ∧ h1 <+: h2 := by
    have e := s_days y mo h1
    by_cases ok : okM y mo
    · rw [if_pos ok] at e
      obtain ⟨o, eo⟩ := s_ldays y mo h1 ok.2
      have z1 : y < 4295 := by omega
      have z2 : 0 < mo := by omega
      have z3 : mo < 13 := by omega
      exact ⟨_, chk_eq (by simp [e, eo, z1, z2, z3]), List.prefix_append _ [o]⟩
    · rw [if_neg ok] at e
      refine ⟨h1, chk_eq ?_, List.prefix_refl _⟩
      by_cases z1 : y < 4295
      · by_cases z2 : 0 < mo
        · have z3 : ¬ mo < 13 := fun z3 => ok (by omega)
          simp [e, z1, z2, z3, tellE]
        · simp [e, z1, z2, tellE]
      · simp [e, z1, tellE]
  obtain ⟨h2, e2, p2⟩ := days_chk
  refine seq_ex (P := PB d c) e2 ?_
  have k2 := k1.pre p2
  have c2 := pre_get p2 c1
  refine seq_ex (P := PB d c) (e1 := LD x d a b m y mo da v4 v5 v7 v8 v9 (some (.bl G)) (some (.int F)) (some (.bl G)) none none none) (h1 := h2) (chk_eq (by
    have := s_next a y mo da h2 ia
    cases hg : G with
    | true =>
      have fl := hfine hg
      rw [if_pos ⟨hGG.mpr hg, by rw [← hF]; exact fl.2⟩, ← hF] at this
      by_cases z : sw F a = [108, 97, 116, 101, 114]
      · rw [if_pos z] at this; simp [this, s_lcmp F a _ fl ia, z]
      · rw [if_neg z] at this; simp [this, s_lcmp F a _ fl ia, z]
    | false => rw [if_neg (fun z => by rw [hGG.mp z.1] at hg; cases hg)] at this; simp [this, tellE])) ?_
  obtain ⟨nu, h3, e3, b3, k3, x3, _⟩ := s_rollE h2 d 100 k2 (by omega)
  have c3 := x3.get c2 hc
  refine seq_ex (P := PB d c) (e1 := LD x d a b m y mo da v4 v5 v7 v8 v9 (some (.bl G)) (some (.int F)) (some (.bl G)) (some (.int nu)) (some (.tup ((mineP a).map .int))) none) (h1 := h3) (by simp [e3, big, pow200, mineP]) ?_
  obtain ⟨h4, e4, p4⟩ := good_run (m2 gIx (mVar 14) (mC (.int 0))) (m2 gIx (mVar 14) (mC (.int 1))) (m2 gIx (mVar 14) (mC (.int 2))) (mChain gLt gLt (mC (.int 0)) (m2 gIx (mVar 14) (mC (.int 0))) (mC (.int 4295))) (LD x d a b m y mo da v4 v5 v7 v8 v9 (some (.bl G)) (some (.int F)) (some (.bl G)) (some (.int nu)) (some (.tup ((mineP a).map .int))) none) h3 (a / 1000000) (a / 10000 % 100) (a / 100 % 100) (fun _ => by simp [mineP, atI, ixN]) (fun _ => by simp [mineP, atI, ixN]) (fun _ => by simp [mineP, atI, ixN]) (by
    simp [mineP, atI, ixN]
    by_cases z1 : 0 < a / 1000000 <;> by_cases z2 : a / 1000000 < 4295 <;> simp [z1, z2] <;> omega)
  obtain ⟨W, hW⟩ : ∃ W, W = decide (GG (a / 1000000) (a / 10000 % 100) (a / 100 % 100)) := ⟨_, rfl⟩
  rw [← hW] at e4
  refine seq_ex (P := PB d c) (e1 := LD x d a b m y mo da v4 v5 v7 v8 v9 (some (.bl G)) (some (.int F)) (some (.bl G)) (some (.int nu)) (some (.tup ((mineP a).map .int))) (some (.bl W))) (h1 := h4) (by rw [sAsg_eq, e4]; rfl) ?_
  have k4 := k3.pre p4
  have c4 := pre_get p4 c3
  have hWW : (GG (a / 1000000) (a / 10000 % 100) (a / 100 % 100) ↔ W = true) := by rw [hW, decide_eq_true_eq]
  refine seq_ex (P := PB d c) (e1 := LD x d a b m y mo da v4 v5 v7 v8 v9 (some (.bl G)) (some (.int F)) (some (.bl G)) (some (.int nu)) (some (.tup ((mineP a).map .int))) (some (.bl W))) (h1 := h4) (chk_eq (by
    have := s_told a h4 ia
    have g4 := gNe_i4 (h := h4) (a := a / 1000000) (b := a / 10000 % 100) (c := a / 100 % 100) (d := a % 100)
    cases hg : W with
    | true => rw [if_pos (hWW.mpr hg)] at this; simp [mineP] at this ⊢; simp [this, g4]
    | false => rw [if_neg (fun z => by rw [hWW.mp z] at hg; cases hg)] at this; simp [this])) ?_
  refine seq_ex (P := PB d c) (e1 := LD x d a b m y mo da v4 v5 v7 v8 v9 (some (.bl G)) (some (.int F)) (some (.bl G)) (some (.int nu)) (some (.tup ((mineP a).map .int))) (some (.bl W))) (h1 := h4) (chk_eq (by
    cases hg : G with
    | false => simp
    | true =>
      have g := hGG.mpr hg
      have fl := hfine hg
      by_cases hs : F + nu < 4294967296
      · have is : In32 (F + nu) := by omega
        have := s_told (F + nu) h4 is
        have dl := @dayP_le y mo
        have q : F = ((y * 100 + mo) * 100 + da) * 100 := by rw [hF]; rfl
        have q1 : (F + nu) / 1000000 = y := by omega
        have q2 : (F + nu) / 10000 % 100 = mo := by omega
        have q3 : (F + nu) / 100 % 100 = da := by omega
        have q4 : (F + nu) % 100 = nu := by omega
        unfold mineP at this
        rw [q1, q2, q3, q4, if_pos g] at this
        have g4 := gNe_i4 (h := h4) (a := y) (b := mo) (c := da) (d := nu)
        simp at this
        simp [hs, this, big, g4]
      · simp [hs])) ?_
  obtain ⟨h5, e5, x5⟩ := s_counts h4 d a k4 ia
  exact ⟨_, h5, chk_eq (by simp [e5]), rfl, x5.get c4 hc⟩
end K10

namespace K10
open PySem PySem.Spec PyProof.Rows L2 Sh
def b_law : MS := (sSeq (sAsg (mTup (mCons (mOwn 1 f_law_serial (mCons (mVar 1) (mNil))) (mCons (mOwn 1 f_law_serial (mCons (mVar 1) (mNil))) (mCons (m2 gAdd (mC (.int 1)) (mOwn 2 (f_law_roll 2) (mCons (mVar 1) (mCons (mC (.int 2147483647)) (mNil))))) (mNil))))) (gSeq' 3 (gsCons (gName' 18) (gsCons (gName' 2) (gsCons (gName' 3) (gsNil))))))
          (sSeq (sIf (m2 gNe (mOwn 2 f_compared_to (mCons (mVar 18) (mCons (mVar 2) (mNil)))) (mOwn 2 f_law_compared (mCons (mVar 18) (mCons (mVar 2) (mNil))))) (sRet (mC (.bl false))) (sSkip))
          (sSeq (sIf (m2 gNe (mOwn 2 f_is_later (mCons (mVar 18) (mCons (mVar 2) (mNil)))) (m2 gEq (mOwn 2 f_law_compared (mCons (mVar 18) (mCons (mVar 2) (mNil)))) (mC (.str [108, 97, 116, 101, 114])))) (sRet (mC (.bl false))) (sSkip))
          (sSeq (sIf (mOr (m2 gNe (mOwn 2 f_added_to (mCons (mVar 18) (mCons (mVar 3) (mNil)))) (m2 gMod (m2 gAdd (mVar 18) (mVar 3)) (mC (.int 4294967296)))) (mNot (mOwn 2 f_is_later (mCons (mOwn 2 f_added_to (mCons (mVar 18) (mCons (mVar 3) (mNil)))) (mCons (mVar 18) (mNil)))))) (sRet (mC (.bl false))) (sSkip))
          (sSeq (sAsg (mCall gList (mCons (mOwn 2 f_steps_to (mCons (mVar 18) (mCons (mVar 2) (mNil)))) (mNil))) (gName' 4))
          (sSeq (sAsg (m2 gAdd (mLst (mCons (mVar 18) (mNil))) (mVar 4)) (gName' 5))
          (sSeq (sAsg (m2 gEq (mLc (mRng2 (mCons (mC (.int 1)) (mCons (mCall gLen (mCons (mVar 5) (mNil))) (mNil)))) [20] (gName' 20) (m2 gNe (mOwn 2 f_law_compared (mCons (m2 gIx (mVar 5) (mVar 20)) (mCons (m2 gIx (mVar 5) (m2 Sh.gSub (mVar 20) (mC (.int 1)))) (mNil)))) (mC (.str [108, 97, 116, 101, 114]))) (mVar 20)) (mLst (mNil))) (gName' 6))
          (sSeq (sAsg (mIf (m2 gEq (mVar 18) (mVar 2)) (mC (.int 0)) (mIf (m2 gEq (mOwn 2 f_law_compared (mCons (mVar 2) (mCons (mVar 18) (mNil)))) (mC (.str [108, 97, 116, 101, 114]))) (mC (.int 1)) (mIf (m2 gEq (mOwn 2 f_law_compared (mCons (mVar 2) (mCons (m2 gMod (m2 gAdd (mVar 18) (mC (.int 2147483647))) (mC (.int 4294967296))) (mNil)))) (mC (.str [108, 97, 116, 101, 114]))) (mC (.int 2)) (mC (.int 3))))) (gName' 7))
          (sSeq (sIf (mOr (mNot (mVar 6)) (mOr (m2 gNe (m2 gIx (mVar 5) (m1 gNeg (mC (.int 1)))) (mVar 2)) (m2 gNe (mCall gLen (mCons (mVar 4) (mNil))) (mVar 7)))) (sRet (mC (.bl false))) (sSkip))
          (sSeq (sAsg (mLc (mRng1 (mCons (m2 gAdd (mC (.int 1)) (mOwn 2 (f_law_roll 2) (mCons (mVar 1) (mCons (mC (.int 4)) (mNil))))) (mNil))) [20] (gName' 20) (mC (.bl true)) (mOwn 1 f_law_serial (mCons (mVar 1) (mNil)))) (gName' 8))
          (sSeq (sAsg (mLc (mItV (mVar 8)) [21] (gName' 21) (m2 gEq (mLc (mItV (mVar 8)) [22] (gName' 22) (m2 (gIn true) (mOwn 2 f_law_compared (mCons (mVar 21) (mCons (mVar 22) (mNil)))) (mLst (mCons (mC (.str [115, 97, 109, 101])) (mCons (mC (.str [108, 97, 116, 101, 114])) (mNil))))) (mVar 22)) (mLst (mNil))) (mVar 21)) (gName' 9))
          (sSeq (sIf (m2 gNe (mOwn 1 f_latest_of (mCons (mVar 8) (mNil))) (mIf (m2 gNe (mVar 9) (mLst (mNil))) (m2 gIx (mVar 9) (mC (.int 0))) (mC .non))) (sRet (mC (.bl false))) (sSkip))
          (sSeq (sAsg (mTup (mCons (m2 gAdd (mC (.int 1)) (mOwn 2 (f_law_roll 2) (mCons (mVar 1) (mCons (mC (.int 4300)) (mNil))))) (mCons (mOwn 2 (f_law_roll 2) (mCons (mVar 1) (mCons (mC (.int 14)) (mNil)))) (mCons (mOwn 2 (f_law_roll 2) (mCons (mVar 1) (mCons (mC (.int 33)) (mNil)))) (mNil))))) (gSeq' 3 (gsCons (gName' 19) (gsCons (gName' 17) (gsCons (gName' 16) (gsNil))))))
          (sSeq (sAsg (mAnd (m2 gLt (mVar 19) (mC (.int 4295))) (mAnd (mChain gLt gLt (mC (.int 0)) (mVar 17) (mC (.int 13))) (mChain gLt gLe (mC (.int 0)) (mVar 16) (mOwn 2 f_law_days (mCons (mVar 19) (mCons (mCall gMax2 (mCons (mC (.int 1)) (mCons (mCall gMin2 (mCons (mC (.int 12)) (mCons (mVar 17) (mNil)))) (mNil)))) (mNil))))))) (gName' 10))
          (sSeq (sAsg (m2 gMul (m2 gAdd (m2 gMul (m2 gAdd (m2 gMul (mVar 19) (mC (.int 100))) (mVar 17)) (mC (.int 100))) (mVar 16)) (mC (.int 100))) (gName' 11))
          (sSeq (sAsg (mAnd (mVar 10) (m2 gLt (mVar 11) (mC (.int 4294967296)))) (gName' 12))
          (sSeq (sIf (m2 gNe (mOwn 1 f_is_leap (mCons (mVar 19) (mNil))) (mOr (m2 gEq (m2 gMod (mVar 19) (mC (.int 400))) (mC (.int 0))) (mAnd (m2 gEq (m2 gMod (mVar 19) (mC (.int 4))) (mC (.int 0))) (m2 gNe (m2 gMod (mVar 19) (mC (.int 100))) (mC (.int 0)))))) (sRet (mC (.bl false))) (sSkip))
          (sSeq (sIf (m2 gNe (m2 gIs (mTell isa "SerialError" [83, 101, 114, 105, 97, 108, 69, 114, 114, 111, 114] (mOwn 3 f_check_day (mCons (mVar 19) (mCons (mVar 17) (mCons (mVar 16) (mNil)))))) (mC .non)) (mVar 10)) (sRet (mC (.bl false))) (sSkip))
          (sSeq (sIf (m2 gNe (mTell isa "SerialError" [83, 101, 114, 105, 97, 108, 69, 114, 114, 111, 114] (mOwn 3 f_first_of_day (mCons (mVar 19) (mCons (mVar 17) (mCons (mVar 16) (mNil)))))) (mIf (mVar 12) (mVar 11) (mC (.str [83, 101, 114, 105, 97, 108, 69, 114, 114, 111, 114])))) (sRet (mC (.bl false))) (sSkip))
          (sSeq (sIf (m2 gNe (mTell isa "SerialError" [83, 101, 114, 105, 97, 108, 69, 114, 114, 111, 114] (mOwn 2 f_days_in (mCons (mVar 19) (mCons (mVar 17) (mNil))))) (mIf (mAnd (m2 gLt (mVar 19) (mC (.int 4295))) (mChain gLt gLt (mC (.int 0)) (mVar 17) (mC (.int 13)))) (mOwn 2 f_law_days (mCons (mVar 19) (mCons (mVar 17) (mNil)))) (mC (.str [83, 101, 114, 105, 97, 108, 69, 114, 114, 111, 114])))) (sRet (mC (.bl false))) (sSkip))
          (sSeq (sIf (m2 gNe (mTell isa "SerialError" [83, 101, 114, 105, 97, 108, 69, 114, 114, 111, 114] (mOwn 4 f_next_by_day (mCons (mVar 18) (mCons (mVar 19) (mCons (mVar 17) (mCons (mVar 16) (mNil))))))) (mIf (mNot (mVar 12)) (mC (.str [83, 101, 114, 105, 97, 108, 69, 114, 114, 111, 114])) (mIf (m2 gEq (mOwn 2 f_law_compared (mCons (mVar 11) (mCons (mVar 18) (mNil)))) (mC (.str [108, 97, 116, 101, 114]))) (mVar 11) (m2 gMod (m2 gAdd (mVar 18) (mC (.int 1))) (mC (.int 4294967296)))))) (sRet (mC (.bl false))) (sSkip))
          (sSeq (sPar2 13 14 (mCons (mOwn 2 (f_law_roll 2) (mCons (mVar 1) (mCons (mC (.int 100)) (mNil)))) (mCons (mTup (mCons (m2 gDiv (mVar 18) (mC (.int 1000000))) (mCons (m2 gMod (m2 gDiv (mVar 18) (mC (.int 10000))) (mC (.int 100))) (mCons (m2 gMod (m2 gDiv (mVar 18) (mC (.int 100))) (mC (.int 100))) (mCons (m2 gMod (mVar 18) (mC (.int 100))) (mNil)))))) (mNil))))
          (sSeq (sAsg (mAnd (mChain gLt gLt (mC (.int 0)) (m2 gIx (mVar 14) (mC (.int 0))) (mC (.int 4295))) (mAnd (mChain gLt gLt (mC (.int 0)) (m2 gIx (mVar 14) (mC (.int 1))) (mC (.int 13))) (mChain gLt gLe (mC (.int 0)) (m2 gIx (mVar 14) (mC (.int 2))) (mOwn 2 f_law_days (mCons (m2 gIx (mVar 14) (mC (.int 0))) (mCons (mCall gMax2 (mCons (mC (.int 1)) (mCons (mCall gMin2 (mCons (mC (.int 12)) (mCons (m2 gIx (mVar 14) (mC (.int 1))) (mNil)))) (mNil)))) (mNil))))))) (gName' 15))
          (sSeq (sIf (m2 gNe (mOwn 1 f_told_serial (mCons (mVar 18) (mNil))) (mIf (mVar 15) (mVar 14) (mC .non))) (sRet (mC (.bl false))) (sSkip))
          (sSeq (sIf (mAnd (mVar 12) (mAnd (m2 gLt (m2 gAdd (mVar 11) (mVar 13)) (mC (.int 4294967296))) (m2 gNe (mOwn 1 f_told_serial (mCons (m2 gAdd (mVar 11) (mVar 13)) (mNil))) (mTup (mCons (mVar 19) (mCons (mVar 17) (mCons (mVar 16) (mCons (mVar 13) (mNil))))))))) (sRet (mC (.bl false))) (sSkip))
          (sIf (mNot (mOwn 2 f_law_counts (mCons (mVar 1) (mCons (mVar 18) (mNil))))) (sRet (mC (.bl false))) (sSkip)))))))))))))))))))))))))))
theorem m_law1_eq : m_law1 = sFor (mItV (mOwn 2 f_law_rounds (mCons (mVar 0) (mCons (mC (.int 1)) (mNil))))) (gName' 1)  b_law := rfl
theorem s_laterT (a b : Int) (h : IH) (ha : In32 a) (hb : In32 b) : f_is_later [.int a, .int b] h = .ok (.bl (decide (sw a b = zLat))) h := s_later a b h ha hb
theorem s_addT (a m : Int) (h : IH) (ha : In32 a) (hm : 1 ≤ m ∧ m < 2147483648) : f_added_to [.int a, .int m] h = .ok (.int ((a + m) % 4294967296)) h := by rw [s_added a m h ha, if_pos hm]
theorem body (x : Option IV) (d c : Nat) (h : IH) (D : Dice h d) (ec : h[c]? = some (.lst [.ref d])) (hc : c ≠ d) : PB d c (b_law (LE x d none none none none none none none none none none none none none none none none none none) h) := by
  obtain ⟨a, h1, e1, ia, k1, x1⟩ := s_serial h d D
  obtain ⟨b, h2, e2, ib, k2, x2⟩ := s_serial h1 d k1
  obtain ⟨m', h3, e3, im, k3, x3, _⟩ := s_rollE h2 d 2147483647 k2 (by omega)
  obtain ⟨m, hm⟩ : ∃ m, m = 1 + m' := ⟨_, rfl⟩
  have bm : 1 ≤ m ∧ m < 2147483648 := by omega
  have c3 := (x1.trans (x2.trans x3)).get ec hc
  unfold b_law
  refine seq_ex (P := PB d c) (e1 := LE x d (some (.int b)) (some (.int m)) none none none none none none none none none none none none none none (some (.int a)) none) (h1 := h3) (by simp [e1, e2, e3, big, hm]) ?_
  refine seq_ex (P := PB d c) (e1 := LE x d (some (.int b)) (some (.int m)) none none none none none none none none none none none none none none (some (.int a)) none) (h1 := h3) (chk_eq (by simp [s_cmp a b _ ia ib, s_lcmp a b _ ia ib])) ?_
  refine seq_ex (P := PB d c) (e1 := LE x d (some (.int b)) (some (.int m)) none none none none none none none none none none none none none none (some (.int a)) none) (h1 := h3) (chk_eq (by simp [s_laterT a b _ ia ib, s_lcmp a b _ ia ib])) ?_
  have i1 : In32 ((a + m) % 4294967296) := in32_mod _
  have w1 : sw ((a + m) % 4294967296) a = zLat := by rw [sw_lat]; omega
  refine seq_ex (P := PB d c) (e1 := LE x d (some (.int b)) (some (.int m)) none none none none none none none none none none none none none none (some (.int a)) none) (h1 := h3) (chk_eq (by simp [s_addT a m _ ia bm, s_laterT _ a _ i1 ia, w1])) ?_
  obtain ⟨S, hS⟩ : ∃ S, S = stepsP a b := ⟨_, rfl⟩
  have es : f_steps_to [.int a, .int b] h3 = .ok (.tup (S.map .int)) h3 := by rw [hS]; exact s_steps a b h3 ia ib
  have lS : (a :: S).length ≤ 4 := by rw [hS]; exact way_len
  obtain ⟨h4, eh4⟩ : ∃ h4, h4 = h3 ++ [Sh.IO.lst (S.map .int)] := ⟨_, rfl⟩
  have s4 : h4[h3.length]? = some (.lst (S.map .int)) := by rw [eh4]; exact new_at _ _
  refine seq_ex (P := PB d c) (e1 := LE x d (some (.int b)) (some (.int m)) (some (.ref h3.length)) none none none none none none none none none none none none none (some (.int a)) none) (h1 := h4) (by simp [es, eh4]) ?_
  obtain ⟨h5, eh5⟩ : ∃ h5, h5 = h4 ++ [Sh.IO.lst [.int a], .lst ((a :: S).map .int)] := ⟨_, rfl⟩
  have p5 : h4 <+: h5 := by rw [eh5]; exact List.prefix_append _ _
  have s5 : h5[h4.length + 1]? = some (.lst ((a :: S).map .int)) := by rw [eh5]; simp [List.getElem?_append]
  have s5b := pre_get p5 s4
  have wb : S.length + 1 ≤ 10000000 := by simp at lS; omega
  have q5 : (h4 ++ [Sh.IO.lst [.int a]])[h3.length]? = some (.lst (S.map .int)) := app_at s4
  refine seq_ex (P := PB d c) (e1 := LE x d (some (.int b)) (some (.int m)) (some (.ref h3.length)) (some (.ref (h4.length + 1))) none none none none none none none none none none none none (some (.int a)) none) (h1 := h5) (by simp [big, q5, wb, eh5, Nat.add_comm]) ?_
  have f5 := fits_run (LE x d (some (.int b)) (some (.int m)) (some (.ref h3.length)) (some (.ref (h4.length + 1))) none none none none none none none none none none none none (some (.int a)) none) h5 (h4.length + 1) (a :: S) lS (by simp) rfl ⟨_, rfl⟩ s5 (by rw [hS]; exact way_in ia ib) (by rw [hS]; exact way_later ia ib)
  obtain ⟨h6, eh6⟩ : ∃ h6, h6 = h5 ++ [Sh.IO.lst []] ++ [Sh.IO.lst []] := ⟨_, rfl⟩
  have g6 : gEq (.ref h5.length) (.ref (h5.length + 1)) h6 = .ok (.bl true) h6 := by
    have := gEq_ints (h := h6) (k := h5.length) (j := h5.length + 1) (ys := []) (zs := []) (by rw [eh6]; simp [List.getElem?_append]) (by rw [eh6]; simp [List.getElem?_append])
    simpa using this
  have p6 : h5 <+: h6 := by rw [eh6, List.append_assoc]; exact List.prefix_append _ _
  refine seq_ex (P := PB d c) (e1 := LE x d (some (.int b)) (some (.int m)) (some (.ref h3.length)) (some (.ref (h4.length + 1))) (some (.bl true)) none none none none none none none none none none none (some (.int a)) none) (h1 := h6) (by
    rw [sAsg_eq]
    simp only [m2, f5, bind_ok]
    simp [big, ← eh6, g6]) ?_
  have s6 := pre_get p6 s5
  have s6b := pre_get p6 s5b
  have ifx : In32 ((a + 2147483647) % 4294967296) := in32_mod _
  refine seq_ex (P := PB d c) (e1 := LE x d (some (.int b)) (some (.int m)) (some (.ref h3.length)) (some (.ref (h4.length + 1))) (some (.bl true)) (some (.int (dueP a b))) none none none none none none none none none none (some (.int a)) none) (h1 := h6) (by
    unfold dueP
    simp [s_lcmp b a _ ib ia, s_lcmp b _ _ ib ifx]
    (repeat' split) <;> simp) ?_
  have hat : atI ((a :: S).map IV.int) (-1) = some (.int b) := by
    obtain ⟨l, hl⟩ := @way_last a b
    rw [hS, hl, List.map_append]
    exact atI_last
  have hdue : (S.length : Int) = dueP a b := by rw [hS]; exact due_len.symm
  rw [List.map_cons] at hat s6
  refine seq_ex (P := PB d c) (e1 := LE x d (some (.int b)) (some (.int m)) (some (.ref h3.length)) (some (.ref (h4.length + 1))) (some (.bl true)) (some (.int (dueP a b))) none none none none none none none none none none (some (.int a)) none) (h1 := h6) (chk_eq (by simp [s6, hat, s6b, hdue])) ?_
  have k6 : Dice h6 d := (((by rw [eh4]; exact k3.app : Dice h4 d).pre p5).pre p6)
  have p36 : h3 <+: h6 := (by rw [eh4]; exact List.prefix_append _ _ : h3 <+: h4).trans (p5.trans p6)
  have c6 := pre_get p36 c3
  obtain ⟨h7, n, xs, e7, x7, k7, s7, ix7, l7, l7', n7⟩ := some_run d (LE x d (some (.int b)) (some (.int m)) (some (.ref h3.length)) (some (.ref (h4.length + 1))) (some (.bl true)) (some (.int (dueP a b))) none none none none none none none none none none (some (.int a)) none) h6 k6 rfl ⟨_, rfl⟩
  refine seq_ex (P := PB d c) (e1 := LE x d (some (.int b)) (some (.int m)) (some (.ref h3.length)) (some (.ref (h4.length + 1))) (some (.bl true)) (some (.int (dueP a b))) (some (.ref n)) none none none none none none none none none (some (.int a)) none) (h1 := h7) (by rw [sAsg_eq, e7]; rfl) ?_
  obtain ⟨h8, e8, p8, s8⟩ := best_run xs n ix7 (by omega) (LE x d (some (.int b)) (some (.int m)) (some (.ref h3.length)) (some (.ref (h4.length + 1))) (some (.bl true)) (some (.int (dueP a b))) (some (.ref n)) none none none none none none none none none (some (.int a)) none) h7 s7 rfl ⟨_, rfl⟩ ⟨_, rfl⟩
  refine seq_ex (P := PB d c) (e1 := LE x d (some (.int b)) (some (.int m)) (some (.ref h3.length)) (some (.ref (h4.length + 1))) (some (.bl true)) (some (.int (dueP a b))) (some (.ref n)) (some (.ref h7.length)) none none none none none none none none (some (.int a)) none) (h1 := h8) (by rw [sAsg_eq, e8]; rfl) ?_
  have c8 := pre_get p8 (x7.get c6 hc)
  have k8 := k7.pre p8
  have s7b := pre_get p8 s7
  have e9 := s_latest xs n h8 s7b ix7 (by intro z; rw [z] at l7; simp at l7)
  obtain ⟨h9, eh9⟩ : ∃ h9, h9 = h8 ++ [Sh.IO.lst []] := ⟨_, rfl⟩
  have p9 : h8 <+: h9 := by rw [eh9]; exact List.prefix_append _ _
  have s9 := pre_get p9 s8
  have g9 := gNe_ints (zs := []) s9 (by rw [eh9]; exact new_at _ _ : h9[h8.length]? = some (.lst (([] : List Int).map .int)))
  refine seq_ex (P := PB d c) (e1 := LE x d (some (.int b)) (some (.int m)) (some (.ref h3.length)) (some (.ref (h4.length + 1))) (some (.bl true)) (some (.int (dueP a b))) (some (.ref n)) (some (.ref h7.length)) none none none none none none none none (some (.int a)) none) (h1 := h9) (chk_eq (by
    cases hb : bestP xs with
    | nil =>
      rw [hb] at e9 g9
      simp at e9 g9
      simp [e9, big, ← eh9, g9]
    | cons u r =>
      rw [hb] at e9 g9 s9
      simp at e9 g9 s9
      simp [e9, big, ← eh9, g9, s9, atI, ixN])) ?_
  have c9 := pre_get p9 c8
  have k9 := k8.pre p9
  obtain ⟨y', h10, e10, b10, k10, x10, _⟩ := s_rollE h9 d 4300 k9 (by omega)
  obtain ⟨mo, h11, e11, b11, k11, x11, _⟩ := s_rollE h10 d 14 k10 (by omega)
  obtain ⟨da, h12, e12, b12, k12, x12, _⟩ := s_rollE h11 d 33 k11 (by omega)
  obtain ⟨y, hy⟩ : ∃ y, y = 1 + y' := ⟨_, rfl⟩
  have c12 := (x10.trans (x11.trans x12)).get c9 hc
  refine seq_ex (P := PB d c) (e1 := LE x d (some (.int b)) (some (.int m)) (some (.ref h3.length)) (some (.ref (h4.length + 1))) (some (.bl true)) (some (.int (dueP a b))) (some (.ref n)) (some (.ref h7.length)) none none none none none none (some (.int da)) (some (.int mo)) (some (.int a)) (some (.int y))) (h1 := h12) (by simp [e10, e11, e12, big, hy]) ?_
  generalize some (IV.ref h3.length) = v4 at *
  generalize some (IV.ref (h4.length + 1)) = v5 at *
  generalize some (IV.ref n) = v8 at *
  generalize some (IV.ref h7.length) = v9 at *
  generalize some (IV.int (dueP a b)) = v7 at *
  have by1 : 1 ≤ y ∧ y ≤ 4300 := by omega
  clear e1 e2 e3 e7 e8 e9 e10 e11 e12
  exact dates x d c h12 a b m y mo da v4 v5 v7 v8 v9 ia by1 b11 b12 k12 c12 hc
theorem pure1 : ∀ (ns : List Int) (x : IV) (h : IH), ns.length ≤ 63 → (∀ z ∈ ns, Builtin.Int.intBits z ≤ 1048576) → (x = .fz (ns.map .int) ∧ h = [] ∨ x = .ref 0 ∧ h = [.lst (ns.map .int)]) → ∃ e' h', m_law1 (some x :: List.replicate (23 - 1) none) h = .nx e' h' ∧ e'.length = 23 := by
  intro ns x h _ _ hx
  obtain ⟨h', c, d, e, ec, D⟩ := s_rounds ns x h hx
  have hc : c ≠ d := fun z => by
    obtain ⟨o, eo, p, q, r, rfl⟩ := D
    rw [z, eo] at ec
    cases ec
  have it : mItV (mOwn 2 f_law_rounds (mCons (mVar 0) (mCons (mC (.int 1)) (mNil)))) (some x :: List.replicate (23 - 1) none) h = .ok (srL c 1) h' := by simp [e, ec, -srL]
  rw [m_law1_eq]
  simp only [sFor, it]
  refine forL_run (Q := fun r => ∃ e' h', r = .nx e' h' ∧ e'.length = 23) [.ref d]
    (fun i e1 h1 => (i = 0 ∧ e1 = some x :: List.replicate (23 - 1) none ∧ h1 = h') ∨ (i = 1 ∧ e1.length = 23 ∧ h1[c]? = some (.lst [.ref d]))) ?_ ?_ ?_ 1 0 2 _ h' rfl (by omega) (.inl ⟨rfl, rfl, rfl⟩)
  · rintro i y e1 h1 hy (⟨rfl, rfl, rfl⟩ | ⟨rfl, _, _⟩)
    · exact srL_it ec hy
    · cases hy
  · rintro e1 h1 (⟨z, _⟩ | ⟨_, l, ec1⟩)
    · cases z
    · exact ⟨srL_end ec1, e1, h1, rfl, l⟩
  · rintro i y e1 h1 hy (⟨rfl, rfl, rfl⟩ | ⟨rfl, _, _⟩)
    · cases hy
      obtain ⟨e2, h2, q1, q2, q3⟩ := body (some x) d c h1 D ec hc
      refine ⟨LE (some x) d none none none none none none none none none none none none none none none none none none, h1, rfl, ?_⟩
      rw [q1]
      exact .inr ⟨rfl, q2, q3⟩
    · cases hy
theorem pure2 : ∃ h', m_law2 (List.replicate 23 none) [] = .rt (.bl true) h' := okB_ok (by kernel_rfl)
end K10

namespace K10
open PySem PySem.Spec PyProof.Rows L2 Sh
section
variable {P : Program} {w : World} {G : Gx} {mg : Str → Option Value} {h base : Heap}
theorem ok_law {fd : FuncData} (Z : ZZ G w mg h base) (hZ : G.Z = none) (F : FunD G.K "law" "law" (defArgs s_law) (defBody s_law) (defScope s_law) [] [] (He.fAd G.K ("law", none)) fd) : FnOk P w G.K mg base (L2.CX P w) 10 (He.fAd G.K ("law", none)) fd ["script"] (spLaw G 63) :=
  law_fn (k := 9) F sc_law rfl hZ (fun cdv A outer s H E ecd Cs => ⟨ss_for Cs (si_val Cs.toCan.hK (se_call Cs.toCan ((k_law_rounds Z).mono (by omega)) rfl (Z.glo 3 rfl) (sa_cons (se_var 0 (pv 0)) (sa_cons (se_int) (sa_nil))))) (t_nm 1 Cs.toCan) (sb_cons (ss_asg (se_tup (sa_cons (se_call Cs.toCan ((k_law_serial Z).mono (by omega)) rfl (Z.glo 41 rfl) (sa_cons (se_var 1 (pv 1)) (sa_nil))) (sa_cons (se_call Cs.toCan ((k_law_serial Z).mono (by omega)) rfl (Z.glo 41 rfl) (sa_cons (se_var 1 (pv 1)) (sa_nil))) (sa_cons (e_add Cs.toCan (se_int) (se_call Cs.toCan ((k_law_roll Z 2).mono (by omega)) rfl (Z.glo 13 rfl) (sa_cons (se_var 1 (pv 1)) (sa_cons (se_int) (sa_nil))))) (sa_nil))))) (sg_seq Cs.toCan (sgs_cons (t_nm 18 Cs.toCan) (sgs_cons (t_nm 2 Cs.toCan) (sgs_cons (t_nm 3 Cs.toCan) (sgs_nil))))))
          (sb_cons (ss_if (c_ne Cs.toCan (se_call Cs.toCan ((k_compared_to Z).mono (by omega)) rfl (Z.glo 32 rfl) (sa_cons (se_var 18 (pv 18)) (sa_cons (se_var 2 (pv 2)) (sa_nil)))) (se_call Cs.toCan ((k_law_compared Z).mono (by omega)) rfl (Z.glo 38 rfl) (sa_cons (se_var 18 (pv 18)) (sa_cons (se_var 2 (pv 2)) (sa_nil))))) (sb_one (ss_ret (se_bl))) (sb_nil))
          (sb_cons (ss_if (c_ne Cs.toCan (se_call Cs.toCan ((k_is_later Z).mono (by omega)) rfl (Z.glo 33 rfl) (sa_cons (se_var 18 (pv 18)) (sa_cons (se_var 2 (pv 2)) (sa_nil)))) (e_eq Cs.toCan (se_call Cs.toCan ((k_law_compared Z).mono (by omega)) rfl (Z.glo 38 rfl) (sa_cons (se_var 18 (pv 18)) (sa_cons (se_var 2 (pv 2)) (sa_nil)))) (se_str))) (sb_one (ss_ret (se_bl))) (sb_nil))
          (sb_cons (ss_if (sc_w (sw_or (c_ne Cs.toCan (se_call Cs.toCan ((k_added_to Z).mono (by omega)) rfl (Z.glo 19 rfl) (sa_cons (se_var 18 (pv 18)) (sa_cons (se_var 3 (pv 3)) (sa_nil)))) (e_mod (e_add Cs.toCan (se_var 18 (pv 18)) (se_var 3 (pv 3))) (se_int))) (sw_or1 (sc_not (sc_val (se_call Cs.toCan ((k_is_later Z).mono (by omega)) rfl (Z.glo 33 rfl) (sa_cons (se_call Cs.toCan ((k_added_to Z).mono (by omega)) rfl (Z.glo 19 rfl) (sa_cons (se_var 18 (pv 18)) (sa_cons (se_var 3 (pv 3)) (sa_nil)))) (sa_cons (se_var 18 (pv 18)) (sa_nil))))))))) (sb_one (ss_ret (se_bl))) (sb_nil))
          (sb_cons (ss_asg (e_list Cs.toCan (Z.free 8 rfl) rfl (sa_cons (se_call Cs.toCan ((k_steps_to Z).mono (by omega)) rfl (Z.glo 42 rfl) (sa_cons (se_var 18 (pv 18)) (sa_cons (se_var 2 (pv 2)) (sa_nil)))) (sa_nil))) (t_nm 4 Cs.toCan))
          (sb_cons (ss_asg (e_add Cs.toCan (se_lst (sa_cons (se_var 18 (pv 18)) (sa_nil))) (se_var 4 (pv 4))) (t_nm 5 Cs.toCan))
          (sb_cons (ss_asg (e_eq Cs.toCan (se_lc (own := [("k", 20)]) Cs.toCan (si_range2 rfl (Z.free 12 rfl) (sa_cons (se_int) (sa_cons (e_len Cs.toCan (Z.free 4 rfl) rfl (sa_cons (se_var 5 (pv 5)) (sa_nil))) (sa_nil)))) (blkOk_by rfl) (fun _ _ _ _ _ _ _ C13 => ⟨t_nm 20 C13, sq_one (c_ne C13 (se_call C13 ((k_law_compared Z).mono (by omega)) rfl (Z.glo 38 rfl) (sa_cons (se_ix C13.hK (se_var 5 (pv 5)) (se_var 20 (pv 20))) (sa_cons (se_ix C13.hK (se_var 5 (pv 5)) (e_sub (se_var 20 (pv 20)) (se_int))) (sa_nil)))) (se_str)), se_var 20 (pv 20)⟩)) (se_lst (sa_nil))) (t_nm 6 Cs.toCan))
          (sb_cons (ss_asg (se_if (c_eq Cs.toCan (se_var 18 (pv 18)) (se_var 2 (pv 2))) (se_int) (se_if (c_eq Cs.toCan (se_call Cs.toCan ((k_law_compared Z).mono (by omega)) rfl (Z.glo 38 rfl) (sa_cons (se_var 2 (pv 2)) (sa_cons (se_var 18 (pv 18)) (sa_nil)))) (se_str)) (se_int) (se_if (c_eq Cs.toCan (se_call Cs.toCan ((k_law_compared Z).mono (by omega)) rfl (Z.glo 38 rfl) (sa_cons (se_var 2 (pv 2)) (sa_cons (e_mod (e_add Cs.toCan (se_var 18 (pv 18)) (se_int)) (se_int)) (sa_nil)))) (se_str)) (se_int) (se_int)))) (t_nm 7 Cs.toCan))
          (sb_cons (ss_if (sc_w (sw_or (sc_not (sc_val (se_var 6 (pv 6)))) (sw_or (c_ne Cs.toCan (se_ix Cs.toCan.hK (se_var 5 (pv 5)) (e_neg (se_int))) (se_var 2 (pv 2))) (sw_or1 (c_ne Cs.toCan (e_len Cs.toCan (Z.free 4 rfl) rfl (sa_cons (se_var 4 (pv 4)) (sa_nil))) (se_var 7 (pv 7))))))) (sb_one (ss_ret (se_bl))) (sb_nil))
          (sb_cons (ss_asg (se_lc (own := [("k", 20)]) Cs.toCan (si_range1 rfl (Z.free 12 rfl) (sa_cons (e_add Cs.toCan (se_int) (se_call Cs.toCan ((k_law_roll Z 2).mono (by omega)) rfl (Z.glo 13 rfl) (sa_cons (se_var 1 (pv 1)) (sa_cons (se_int) (sa_nil))))) (sa_nil))) (blkOk_by rfl) (fun _ _ _ _ _ _ _ C12 => ⟨t_nm 20 C12, sq_nil, se_call C12 ((k_law_serial Z).mono (by omega)) rfl (Z.glo 41 rfl) (sa_cons (se_var 1 (pv 1)) (sa_nil))⟩)) (t_nm 8 Cs.toCan))
          (sb_cons (ss_setLc (i := 9) (own := [("serial", 21)]) Cs.toCan rfl rfl rfl (si_val Cs.toCan.hK (se_var 8 (pv 8))) (blkOk_by rfl) (fun _ _ _ _ _ _ _ C10 => ⟨t_nm 21 C10, sq_one (c_eq C10 (se_lc (own := [("two", 22)]) C10 (si_val C10.hK (se_var 8 (pv 8))) (blkOk_by rfl) (fun _ _ _ _ _ _ _ C11 => ⟨t_nm 22 C11, sq_one (c_nin C11 (se_call C11 ((k_law_compared Z).mono (by omega)) rfl (Z.glo 38 rfl) (sa_cons (se_var 21 (pv 21)) (sa_cons (se_var 22 (pv 22)) (sa_nil)))) (se_lst (sa_cons (se_str) (sa_cons (se_str) (sa_nil))))), se_var 22 (pv 22)⟩)) (se_lst (sa_nil))), se_var 21 (pv 21)⟩))
          (sb_cons (ss_if (c_ne Cs.toCan (se_call Cs.toCan ((k_latest_of Z).mono (by omega)) rfl (Z.glo 40 rfl) (sa_cons (se_var 8 (pv 8)) (sa_nil))) (se_if (c_ne Cs.toCan (se_var 9 (pv 9)) (se_lst (sa_nil))) (se_ix Cs.toCan.hK (se_var 9 (pv 9)) (se_int)) (se_non))) (sb_one (ss_ret (se_bl))) (sb_nil))
          (sb_cons (ss_asg (se_tup (sa_cons (e_add Cs.toCan (se_int) (se_call Cs.toCan ((k_law_roll Z 2).mono (by omega)) rfl (Z.glo 13 rfl) (sa_cons (se_var 1 (pv 1)) (sa_cons (se_int) (sa_nil))))) (sa_cons (se_call Cs.toCan ((k_law_roll Z 2).mono (by omega)) rfl (Z.glo 13 rfl) (sa_cons (se_var 1 (pv 1)) (sa_cons (se_int) (sa_nil)))) (sa_cons (se_call Cs.toCan ((k_law_roll Z 2).mono (by omega)) rfl (Z.glo 13 rfl) (sa_cons (se_var 1 (pv 1)) (sa_cons (se_int) (sa_nil)))) (sa_nil))))) (sg_seq Cs.toCan (sgs_cons (t_nm 19 Cs.toCan) (sgs_cons (t_nm 17 Cs.toCan) (sgs_cons (t_nm 16 Cs.toCan) (sgs_nil))))))
          (sb_cons (ss_asg (se_and (e_lt (se_var 19 (pv 19)) (se_int)) (se_and (e_ch p_lt p_lt (se_int) (se_var 17 (pv 17)) (se_int)) (se_one (e_ch p_lt p_le (se_int) (se_var 16 (pv 16)) (se_call Cs.toCan ((k_law_days Z).mono (by omega)) rfl (Z.glo 29 rfl) (sa_cons (se_var 19 (pv 19)) (sa_cons (e_max2 Cs.toCan (Z.free 28 rfl) rfl (sa_cons (se_int) (sa_cons (e_min2 Cs.toCan (Z.free 5 rfl) rfl (sa_cons (se_int) (sa_cons (se_var 17 (pv 17)) (sa_nil)))) (sa_nil)))) (sa_nil)))))))) (t_nm 10 Cs.toCan))
          (sb_cons (ss_asg (e_mul (e_add Cs.toCan (e_mul (e_add Cs.toCan (e_mul (se_var 19 (pv 19)) (se_int)) (se_var 17 (pv 17))) (se_int)) (se_var 16 (pv 16))) (se_int)) (t_nm 11 Cs.toCan))
          (sb_cons (ss_asg (se_and (se_var 10 (pv 10)) (se_one (e_lt (se_var 11 (pv 11)) (se_int)))) (t_nm 12 Cs.toCan))
          (sb_cons (ss_if (c_ne Cs.toCan (se_call Cs.toCan ((k_is_leap Z).mono (by omega)) rfl (Z.glo 25 rfl) (sa_cons (se_var 19 (pv 19)) (sa_nil))) (se_or (e_eq Cs.toCan (e_mod (se_var 19 (pv 19)) (se_int)) (se_int)) (se_one (se_and (e_eq Cs.toCan (e_mod (se_var 19 (pv 19)) (se_int)) (se_int)) (se_one (e_ne Cs.toCan (e_mod (se_var 19 (pv 19)) (se_int)) (se_int))))))) (sb_one (ss_ret (se_bl))) (sb_nil))
          (sb_cons (ss_if (c_ne Cs.toCan (e_is (se_tell Cs.toCan (Z.ct 1 ecd rfl) rfl ⟨LamX.lamS_by (by rfl), fun _ _ _ _ _ => rfl, fun _ _ _ _ _ _ _ C8 => se_call C8 ((k_check_day Z).mono (by omega)) rfl (Z.glo 34 rfl) (sa_cons (se_var 19 (pv 19)) (sa_cons (se_var 17 (pv 17)) (sa_cons (se_var 16 (pv 16)) (sa_nil))))⟩ (told Z) (isa_ok Z) rfl (Z.glo 37 rfl) rfl) (se_non)) (se_var 10 (pv 10))) (sb_one (ss_ret (se_bl))) (sb_nil))
          (sb_cons (ss_if (c_ne Cs.toCan (se_tell Cs.toCan (Z.ct 1 ecd rfl) rfl ⟨LamX.lamS_by (by rfl), fun _ _ _ _ _ => rfl, fun _ _ _ _ _ _ _ C7 => se_call C7 ((k_first_of_day Z).mono (by omega)) rfl (Z.glo 35 rfl) (sa_cons (se_var 19 (pv 19)) (sa_cons (se_var 17 (pv 17)) (sa_cons (se_var 16 (pv 16)) (sa_nil))))⟩ (told Z) (isa_ok Z) rfl (Z.glo 37 rfl) rfl) (se_if (sc_val (se_var 12 (pv 12))) (se_var 11 (pv 11)) (se_str))) (sb_one (ss_ret (se_bl))) (sb_nil))
          (sb_cons (ss_if (c_ne Cs.toCan (se_tell Cs.toCan (Z.ct 1 ecd rfl) rfl ⟨LamX.lamS_by (by rfl), fun _ _ _ _ _ => rfl, fun _ _ _ _ _ _ _ C6 => se_call C6 ((k_days_in Z).mono (by omega)) rfl (Z.glo 26 rfl) (sa_cons (se_var 19 (pv 19)) (sa_cons (se_var 17 (pv 17)) (sa_nil)))⟩ (told Z) (isa_ok Z) rfl (Z.glo 37 rfl) rfl) (se_if (sc_w (sw_and (c_lt (se_var 19 (pv 19)) (se_int)) (sw_and1 (c_ch p_lt p_lt (se_int) (se_var 17 (pv 17)) (se_int))))) (se_call Cs.toCan ((k_law_days Z).mono (by omega)) rfl (Z.glo 29 rfl) (sa_cons (se_var 19 (pv 19)) (sa_cons (se_var 17 (pv 17)) (sa_nil)))) (se_str))) (sb_one (ss_ret (se_bl))) (sb_nil))
          (sb_cons (ss_if (c_ne Cs.toCan (se_tell Cs.toCan (Z.ct 1 ecd rfl) rfl ⟨LamX.lamS_by (by rfl), fun _ _ _ _ _ => rfl, fun _ _ _ _ _ _ _ C5 => se_call C5 ((k_next_by_day Z).mono (by omega)) rfl (Z.glo 36 rfl) (sa_cons (se_var 18 (pv 18)) (sa_cons (se_var 19 (pv 19)) (sa_cons (se_var 17 (pv 17)) (sa_cons (se_var 16 (pv 16)) (sa_nil)))))⟩ (told Z) (isa_ok Z) rfl (Z.glo 37 rfl) rfl) (se_if (sc_not (sc_val (se_var 12 (pv 12)))) (se_str) (se_if (c_eq Cs.toCan (se_call Cs.toCan ((k_law_compared Z).mono (by omega)) rfl (Z.glo 38 rfl) (sa_cons (se_var 11 (pv 11)) (sa_cons (se_var 18 (pv 18)) (sa_nil)))) (se_str)) (se_var 11 (pv 11)) (e_mod (e_add Cs.toCan (se_var 18 (pv 18)) (se_int)) (se_int))))) (sb_one (ss_ret (se_bl))) (sb_nil))
          (sb_cons (ss_par2 (i := 13) (j := 14) Cs.toCan rfl rfl (by decide) rfl rfl (sa_cons (se_call Cs.toCan ((k_law_roll Z 2).mono (by omega)) rfl (Z.glo 13 rfl) (sa_cons (se_var 1 (pv 1)) (sa_cons (se_int) (sa_nil)))) (sa_cons (se_tup (sa_cons (e_div (se_var 18 (pv 18)) (se_int)) (sa_cons (e_mod (e_div (se_var 18 (pv 18)) (se_int)) (se_int)) (sa_cons (e_mod (e_div (se_var 18 (pv 18)) (se_int)) (se_int)) (sa_cons (e_mod (se_var 18 (pv 18)) (se_int)) (sa_nil)))))) (sa_nil))) rfl)
          (sb_cons (ss_asg (se_and (e_ch p_lt p_lt (se_int) (se_ix Cs.toCan.hK (se_var 14 (pv 14)) (se_int)) (se_int)) (se_and (e_ch p_lt p_lt (se_int) (se_ix Cs.toCan.hK (se_var 14 (pv 14)) (se_int)) (se_int)) (se_one (e_ch p_lt p_le (se_int) (se_ix Cs.toCan.hK (se_var 14 (pv 14)) (se_int)) (se_call Cs.toCan ((k_law_days Z).mono (by omega)) rfl (Z.glo 29 rfl) (sa_cons (se_ix Cs.toCan.hK (se_var 14 (pv 14)) (se_int)) (sa_cons (e_max2 Cs.toCan (Z.free 28 rfl) rfl (sa_cons (se_int) (sa_cons (e_min2 Cs.toCan (Z.free 5 rfl) rfl (sa_cons (se_int) (sa_cons (se_ix Cs.toCan.hK (se_var 14 (pv 14)) (se_int)) (sa_nil)))) (sa_nil)))) (sa_nil)))))))) (t_nm 15 Cs.toCan))
          (sb_cons (ss_if (c_ne Cs.toCan (se_call Cs.toCan ((k_told_serial Z).mono (by omega)) rfl (Z.glo 27 rfl) (sa_cons (se_var 18 (pv 18)) (sa_nil))) (se_if (sc_val (se_var 15 (pv 15))) (se_var 14 (pv 14)) (se_non))) (sb_one (ss_ret (se_bl))) (sb_nil))
          (sb_cons (ss_if (sc_w (sw_and (sc_val (se_var 12 (pv 12))) (sw_and (c_lt (e_add Cs.toCan (se_var 11 (pv 11)) (se_var 13 (pv 13))) (se_int)) (sw_and1 (c_ne Cs.toCan (se_call Cs.toCan ((k_told_serial Z).mono (by omega)) rfl (Z.glo 27 rfl) (sa_cons (e_add Cs.toCan (se_var 11 (pv 11)) (se_var 13 (pv 13))) (sa_nil))) (se_tup (sa_cons (se_var 19 (pv 19)) (sa_cons (se_var 17 (pv 17)) (sa_cons (se_var 16 (pv 16)) (sa_cons (se_var 13 (pv 13)) (sa_nil))))))))))) (sb_one (ss_ret (se_bl))) (sb_nil))
          (sb_one (ss_if (sc_not (sc_val (se_call Cs.toCan ((k_law_counts Z).mono (by omega)) rfl (Z.glo 24 rfl) (sa_cons (se_var 1 (pv 1)) (sa_cons (se_var 18 (pv 18)) (sa_nil)))))) (sb_one (ss_ret (se_bl))) (sb_nil)))))))))))))))))))))))))))),
    ss_ret (se_call0 Cs.toCan ((k_law_plain Z).mono (by omega)) rfl (Z.glo 43 rfl))⟩) pure1 pure2
end
def loose : List PySem.Str := (["__name__", "NameFault", "ValueError", "SerialError", "ROUND", "HALF_ROUND", "check_serial", "compared_to", "is_later", "added_to", "is_leap", "days_in", "check_day", "first_of_day", "next_by_day", "told_serial", "steps_to", "latest_of", "Primary", "next_look", "_law_dice", "_law_roll", "_law_rounds", "_law_told", "_law_compared", "_law_days", "_law_serial", "_law_counts", "_law_plain"] : List PySem.Str)
abbrev R : PySem.W.OpenRow := PySem.W.OpenLaw.row PySem.Challenge.rw_namestack_k10_numbers_that_go_round
abbrev hk : PySem.W.Hook := He.hookX 4 fa fn [] (tn.map (·.1)) (exB tn xs)
def ob (s : PySem.W.SharedT) : He.AlX := He.obsX 4 fa fn [] (tn.map (·.1)) (exB tn xs) (HandSHeadRun.getT s)
theorem ob_eq (s : PySem.W.SharedT) : ob s = hk.obs s.abs := He.obsX_eq (HandSHeadRun.getT_eq s)
theorem run (w : World) : HandSHeadRun.RunEq R (PySem.W.view R.prog [30]) hk ob 4000 loose w := by
  intro os
  kernel_rfl
end K10
open PySem PySem.W PySem.Calls PyProof.Rows
theorem PySem.Challenge.cw_namestack_k10_numbers_that_go_round_holds : PySem.Challenge.rw_namestack_k10_numbers_that_go_round.Holds := by
  w_on; o_law
  refine HandSHeadRun.head_any (r := OpenLaw.row PySem.Challenge.rw_namestack_k10_numbers_that_go_round) (q := view (OpenLaw.row PySem.Challenge.rw_namestack_k10_numbers_that_go_round).prog [30]) (H := K10.hk) (ob := K10.ob) (M := 4000) (loose := K10.loose) (d := HandSHeadRun.topDef (OpenLaw.row PySem.Challenge.rw_namestack_k10_numbers_that_go_round).prog 30) (kwd := []) K10.ob_eq
    (by kernel_rfl) (fun s => by kernel_rfl) K10.run (by kernel_rfl) (by kernel_rfl) (by kernel_rfl) (by rfl) (by first | assumption | decide +kernel) (by decide +kernel) ⟨rfl, rfl, rfl, rfl, rfl, by decide +kernel⟩ ?hw ?hc
  case hw => w_witness2
  case hc =>
    refine LamX.walk_ofTsE (l := PySem.Challenge.rw_namestack_k10_numbers_that_go_round) (n := 63) (k := 10) (x := "script") (CX := fun w => L2.CX (PySem.Challenge.rw_namestack_k10_numbers_that_go_round).prog w) rfl (by decide) (by kernel_rfl) ⟨rfl, by decide, by decide⟩ ?F (fun w H s e s' c => Sh.cx_none c)
    intro w mg fa h Y G hmg0
    obtain ⟨K, KX, c⟩ := Y
    have hmg : mg ("law" : PySem.Str) = some (.ref fa) := by
      have e : (HandSHeadRun.topDef (OpenLaw.row PySem.Challenge.rw_namestack_k10_numbers_that_go_round).prog 30).name = ("law" : PySem.Str) := by kernel_rfl
      rw [← e]
      exact hmg0
    exact ⟨K, KX, Sh.lawAt_of c KX G 49 rfl hmg 1 rfl (fun _ _ _ _ _ _ us hl => match us, hl with | [_], _ => rfl) fun G base fd Z hZ F => K10.ok_law Z hZ F⟩