import PyProof.Rows.All
import Wide.All
import OpenK.AllK
import Wide.FinOn
import HandS.ForMost
import HandS.ForExc
import HandS.Nested
import HandS.HeadHook4
import HandS.HeadWalk
import HandS.CallSlots
import HandS.Wide
import HandS.TupAny
import HandS.TupMul
import HandS.Style
import KE.GoesRaise
import HandS.GenList
import HandS.AnyAll
import KE.GoesEnum
import HandS.Lambda
import HandS.Flt
import HandS.Ends
import HandS.Head0
import HandS.Head1
import HandS.Head2
import HandS.HeadEnd
import HandS.HeadHook1
import HandS.HeadHook2
import HandS.Dict
import HandS.WordsDict
import HandS.Text
import HandS.StrMore
import HandS.Codes
import HandS.FStr
import HandS.Conv
import HandS.Deep
import PyProof.MeetsStr3
import KE.SortData
import KE.DataMinMax
import KE.DataCmp
import HandS.TupLen
import HandS.RaiseMore
import HandS.DictComp
import PySem.Challenge.RW_namestack_k01_names_in_parts
set_option Elab.async false
set_option linter.all false
set_option maxRecDepth 100000
set_option maxHeartbeats 4000000
/-! A shallow functional meaning of Python, sound over HandS: values with tuples by value, a heap of places. -/
namespace Sh
open PySem PySem.Spec PyProof.Rows L2

/-- a value: tuples by value, what may change by its place -/
inductive IV where
  | non | bl (b : Bool) | int (i : Int) | str (x : List Nat) | tup (xs : List IV) | fz (xs : List IV) | ref (n : Nat)
inductive IO where
  | lst (xs : List IV)
  | dic (t : Bool) (kvs : List (IV × IV))
  | dicL (t : Bool) (kvs : List (IV × IV))
  | ins (C : String) (fs : List IV)
  | lam (k : Nat)
  | gone
abbrev IH := List IO
abbrev IE := List (Option IV)
inductive Res (α : Type) where
  | ok (a : α) (h : IH)
  | exc (c : String) (h : IH)
  | bad
abbrev M (α : Type) := IH → Res α
def Res.bind {α β : Type} (r : Res α) (f : α → M β) : Res β := match r with
  | .ok a h => f a h
  | .exc c h => .exc c h
  | .bad => .bad
abbrev ME := IE → M IV
/-- a statement's way on -/
inductive Fl where
  | nx (e : IE) (h : IH)
  | rt (v : IV) (h : IH)
  | bk (e : IE) (h : IH)
  | ct (e : IE) (h : IH)
  | ex (c : String) (e : IE) (h : IH)
  | bad
abbrev MS := IE → IH → Fl
abbrev Fn := List IV → M IV
def sS (x : List Nat) : Str := ⟨x.toArray⟩
theorem sS_inj {x y : List Nat} (h : sS x = sS y) : x = y := by
  unfold sS at h
  injection h with h
  have := congrArg Array.toList h
  simpa using this
theorem sS_cps (x : List Nat) : (sS x).cps.toList = x := by unfold sS; simp

/-- a list that nothing changes -/
def SqF (K : PySem.W.Frag) (H : Hp) (a : Addr) (xs : List V) : Prop := (∃ o, H a = some (.frz o (.lst xs))) ∨ (∀ H' : Hp, SqL K H' a xs)
theorem SqF.sq {K : PySem.W.Frag} {H : Hp} {a : Addr} {xs : List V} (h : SqF K H a xs) : SqL K H a xs := by
  rcases h with ⟨o, h⟩ | h
  · exact .inl (.inr ⟨o, h⟩)
  · exact h H
mutual
def RV (K : PySem.W.Frag) (ι : List Addr) (H : Hp) : IV → V → Prop
  | .non, v => v = .non
  | .bl b, v => v = .bl b
  | .int i, v => v = .int i
  | .str x, v => v = .str (sS x)
  | .tup xs, v => ∃ a vs, v = .ref a ∧ H a = some (.tup vs) ∧ RVs K ι H xs vs
  | .fz xs, v => ∃ a vs, v = .ref a ∧ SqF K H a vs ∧ RVs K ι H xs vs
  | .ref n, v => ∃ a, ι[n]? = some a ∧ v = .ref a
def RVs (K : PySem.W.Frag) (ι : List Addr) (H : Hp) : List IV → List V → Prop
  | [], vs => vs = []
  | x :: xs, vs => ∃ v r, vs = v :: r ∧ RV K ι H x v ∧ RVs K ι H xs r
end
def RVo (K : PySem.W.Frag) (ι : List Addr) (H : Hp) : Option IV → Option V → Prop
  | none, _ => True
  | some x, v => ∃ w, v = some w ∧ RV K ι H x w
def REn (K : PySem.W.Frag) (ι : List Addr) (H : Hp) : IE → L2.St → Prop
  | [], σ => σ = []
  | x :: xs, σ => ∃ v r, σ = v :: r ∧ RVo K ι H x v ∧ REn K ι H xs r
def kI : Key → IV
  | .inl i => .int i
  | .inr s => .str s.cps.toList
def RKs (K : PySem.W.Frag) (ι : List Addr) (H : Hp) : List (IV × IV) → List (Key × V) → Prop
  | [], ws => ws = []
  | x :: xs, ws => ∃ k v r, ws = (k, v) :: r ∧ x.1 = kI k ∧ RV K ι H x.2 v ∧ RKs K ι H xs r
def RTs (K : PySem.W.Frag) (ι : List Addr) (H : Hp) : List (IV × IV) → List (List Key × V) → Prop
  | [], ws => ws = []
  | x :: xs, ws => ∃ k v r, ws = (k, v) :: r ∧ x.1 = .tup (k.map kI) ∧ RV K ι H x.2 v ∧ RTs K ι H xs r
def RFs (K : PySem.W.Frag) (ι : List Addr) (H : Hp) : List Str → List IV → List (Str × V) → Prop
  | _, [], ws => ws = []
  | n :: ns, x :: xs, ws => ∃ v r, ws = (n, v) :: r ∧ RV K ι H x v ∧ RFs K ι H ns xs r
  | [], _ :: _, _ => False
/-- a lambda: its object at a, its code object at c being so; that one's name -/
structure LamD where
  obj : Addr → Addr → Heap → Prop
  q : Str
/-- what stands at a place; L: the lambdas' objects -/
def RO (K : PySem.W.Frag) (L : Nat → LamD) (lay : String → List Str) (ι : List Addr) (H : Hp) (a : Addr) : IO → Prop
  | .lst xs => ∃ vs, H a = some (.lst vs) ∧ RVs K ι H xs vs
  | .dic false kvs => ∃ ws, H a = some (.dK ws) ∧ RKs K ι H kvs ws
  | .dic true kvs => ∃ ws, H a = some (.dT ws) ∧ RTs K ι H kvs ws
  | .dicL false kvs => ∃ o ws, H a = some (.frz o (.dK ws)) ∧ RKs K ι H kvs ws
  | .dicL true kvs => ∃ o ws, H a = some (.frz o (.dT ws)) ∧ RTs K ι H kvs ws
  | .ins C fs => ∃ dx ws, H a = some (.ins (He.ga K (Str.ofString C)) dx ws) ∧ RFs K ι H (lay C) fs ws
  | .lam k => ∃ c, H a = some (.ext ((L k).obj a c)) ∧ H c = some (LamX.CodeO c (L k).q)
  | .gone => ∃ φ, H a = some (.ext φ)
/-- all tuples stand, and what is frozen -/
structure TLm (K : PySem.W.Frag) (H H' : Hp) : Prop where
  t : ∀ a xs, H a = some (.tup xs) → H' a = some (.tup xs)
  f : ∀ a xs, SqF K H a xs → SqF K H' a xs
  e : ∀ a φ, H a = some (.ext φ) → H' a = some (.ext φ)
structure TL (K : PySem.W.Frag) (H H' : Hp) : Prop extends TLm K H H' where
  z : ∀ a o u, H a = some (.frz o u) → H' a = some (.frz o u)
theorem TL.refl (K : PySem.W.Frag) (H : Hp) : TL K H H := ⟨⟨fun _ _ h => h, fun _ _ h => h, fun _ _ h => h⟩, fun _ _ _ h => h⟩
theorem TL.trans {K : PySem.W.Frag} {H H1 H2 : Hp} (a : TL K H H1) (b : TL K H1 H2) : TL K H H2 := ⟨⟨fun x xs h => b.t x xs (a.t x xs h), fun x xs h => b.f x xs (a.f x xs h), fun x xs h => b.e x xs (a.e x xs h)⟩, fun x o u h => b.z x o u (a.z x o u h)⟩
/-- all that is no list, dict, instance stands -/
theorem TL.of {K : PySem.W.Frag} {H H' : Hp} (ht : ∀ b xs, H b = some (.tup xs) → H' b = some (.tup xs)) (hf : ∀ b o u, H b = some (.frz o u) → H' b = some (.frz o u)) (he : ∀ b φ, H b = some (.ext φ) → H' b = some (.ext φ)) : TL K H H' := ⟨⟨ht, fun a xs q => by
  rcases q with ⟨o, q⟩ | q
  · exact .inl ⟨o, hf _ _ _ q⟩
  · exact .inr q, he⟩, hf⟩

section
variable {K : PySem.W.Frag} {ι ι' : List Addr} {H H' : Hp}
theorem pre_get {α : Type} {l l' : List α} (h : l <+: l') {n : Nat} {a : α} (e : l[n]? = some a) : l'[n]? = some a := by
  obtain ⟨r, rfl⟩ := h
  rw [List.getElem?_append_left (List.getElem?_eq_some_iff.mp e).1]
  exact e
mutual
theorem RV.monoM (hι : ι <+: ι') (hT : TLm K H H') : ∀ {x : IV} {v : V}, RV K ι H x v → RV K ι' H' x v
  | .non, _, h => by unfold RV at h ⊢; exact h
  | .bl _, _, h => by unfold RV at h ⊢; exact h
  | .int _, _, h => by unfold RV at h ⊢; exact h
  | .str _, _, h => by unfold RV at h ⊢; exact h
  | .tup xs, _, h => by
    unfold RV at h ⊢
    obtain ⟨a, vs, e, q, r⟩ := h
    exact ⟨a, vs, e, hT.t _ _ q, RVs.monoM hι hT r⟩
  | .fz xs, _, h => by
    unfold RV at h ⊢
    obtain ⟨a, vs, e, q, r⟩ := h
    exact ⟨a, vs, e, hT.f _ _ q, RVs.monoM hι hT r⟩
  | .ref n, _, h => by
    unfold RV at h ⊢
    obtain ⟨a, e, q⟩ := h
    exact ⟨a, pre_get hι e, q⟩
theorem RVs.monoM (hι : ι <+: ι') (hT : TLm K H H') : ∀ {xs : List IV} {vs : List V}, RVs K ι H xs vs → RVs K ι' H' xs vs
  | [], _, h => by unfold RVs at h ⊢; exact h
  | _ :: _, _, h => by
    unfold RVs at h ⊢
    obtain ⟨v, r, e, a, b⟩ := h
    exact ⟨v, r, e, RV.monoM hι hT a, RVs.monoM hι hT b⟩
end
theorem RVo.monoM (hι : ι <+: ι') (hT : TLm K H H') : ∀ {x : Option IV} {v : Option V}, RVo K ι H x v → RVo K ι' H' x v
  | none, _, _ => trivial
  | some _, _, ⟨w, e, r⟩ => ⟨w, e, r.monoM hι hT⟩
theorem REn.monoM (hι : ι <+: ι') (hT : TLm K H H') : ∀ {e : IE} {σ : L2.St}, REn K ι H e σ → REn K ι' H' e σ
  | [], _, h => h
  | _ :: _, _, ⟨v, r, e, a, b⟩ => ⟨v, r, e, a.monoM hι hT, b.monoM hι hT⟩
theorem RKs.monoM (hι : ι <+: ι') (hT : TLm K H H') : ∀ {l : List (IV × IV)} {ws : List (Key × V)}, RKs K ι H l ws → RKs K ι' H' l ws
  | [], _, h => h
  | _ :: _, _, ⟨k, v, r, e, q, a, b⟩ => ⟨k, v, r, e, q, a.monoM hι hT, b.monoM hι hT⟩
theorem RTs.monoM (hι : ι <+: ι') (hT : TLm K H H') : ∀ {l : List (IV × IV)} {ws : List (List Key × V)}, RTs K ι H l ws → RTs K ι' H' l ws
  | [], _, h => h
  | _ :: _, _, ⟨k, v, r, e, q, a, b⟩ => ⟨k, v, r, e, q, a.monoM hι hT, b.monoM hι hT⟩
theorem RFs.monoM (hι : ι <+: ι') (hT : TLm K H H') : ∀ {ns : List Str} {l : List IV} {ws : List (Str × V)}, RFs K ι H ns l ws → RFs K ι' H' ns l ws
  | _, [], _, h => by unfold RFs at h ⊢; exact h
  | _ :: _, _ :: _, _, ⟨v, r, e, a, b⟩ => ⟨v, r, e, a.monoM hι hT, b.monoM hι hT⟩
  | [], _ :: _, _, h => by unfold RFs at h; exact h.elim
/-- an object whose place is kept -/
theorem RO.monoM {L : Nat → LamD} {lay : String → List Str} {a : Addr} (hι : ι <+: ι') (hT : TLm K H H') (ha : H' a = H a) : ∀ {o : IO}, RO K L lay ι H a o → RO K L lay ι' H' a o
  | .lst _, ⟨vs, e, r⟩ => ⟨vs, ha.trans e, r.monoM hι hT⟩
  | .dic false _, ⟨ws, e, r⟩ => ⟨ws, ha.trans e, r.monoM hι hT⟩
  | .dic true _, ⟨ws, e, r⟩ => ⟨ws, ha.trans e, r.monoM hι hT⟩
  | .dicL false _, ⟨o, ws, e, r⟩ => ⟨o, ws, ha.trans e, r.monoM hι hT⟩
  | .dicL true _, ⟨o, ws, e, r⟩ => ⟨o, ws, ha.trans e, r.monoM hι hT⟩
  | .ins _ _, ⟨dx, ws, e, r⟩ => ⟨dx, ws, ha.trans e, r.monoM hι hT⟩
  | .lam _, ⟨c, e, q⟩ => ⟨c, ha.trans e, hT.e _ _ q⟩
  | .gone, ⟨φ, e⟩ => ⟨φ, ha.trans e⟩
theorem RV.mono (hι : ι <+: ι') (hT : TL K H H') {x : IV} {v : V} (r : RV K ι H x v) : RV K ι' H' x v := r.monoM hι hT.toTLm
theorem RVs.mono (hι : ι <+: ι') (hT : TL K H H') {xs : List IV} {vs : List V} (r : RVs K ι H xs vs) : RVs K ι' H' xs vs := r.monoM hι hT.toTLm
theorem RVo.mono (hι : ι <+: ι') (hT : TL K H H') {x : Option IV} {v : Option V} (r : RVo K ι H x v) : RVo K ι' H' x v := r.monoM hι hT.toTLm
theorem REn.mono (hι : ι <+: ι') (hT : TL K H H') {e : IE} {σ : L2.St} (r : REn K ι H e σ) : REn K ι' H' e σ := r.monoM hι hT.toTLm
theorem RKs.mono (hι : ι <+: ι') (hT : TL K H H') {l : List (IV × IV)} {ws : List (Key × V)} (r : RKs K ι H l ws) : RKs K ι' H' l ws := r.monoM hι hT.toTLm
theorem RTs.mono (hι : ι <+: ι') (hT : TL K H H') {l : List (IV × IV)} {ws : List (List Key × V)} (r : RTs K ι H l ws) : RTs K ι' H' l ws := r.monoM hι hT.toTLm
theorem RFs.mono (hι : ι <+: ι') (hT : TL K H H') {ns : List Str} {l : List IV} {ws : List (Str × V)} (r : RFs K ι H ns l ws) : RFs K ι' H' ns l ws := r.monoM hι hT.toTLm
theorem RO.mono {L : Nat → LamD} {lay : String → List Str} {a : Addr} (hι : ι <+: ι') (hT : TL K H H') (ha : H' a = H a) {o : IO} (r : RO K L lay ι H a o) : RO K L lay ι' H' a o := r.monoM hι hT.toTLm ha
theorem RVs.len : ∀ {xs : List IV} {vs : List V}, RVs K ι H xs vs → xs.length = vs.length
  | [], _, h => by unfold RVs at h; subst h; rfl
  | _ :: _, _, h => by
    unfold RVs at h
    obtain ⟨v, r, e, _, b⟩ := h
    subst e
    simp only [List.length_cons, b.len]
theorem RVs.get : ∀ {xs : List IV} {vs : List V} {i : Nat} {x : IV}, RVs K ι H xs vs → xs[i]? = some x → ∃ v, vs[i]? = some v ∧ RV K ι H x v
  | [], _, _, _, _, e => by simp at e
  | _ :: _, _, 0, _, h, e => by
    unfold RVs at h
    obtain ⟨v, r, q, a, _⟩ := h
    simp only [List.getElem?_cons_zero, Option.some.injEq] at e
    subst e q
    exact ⟨v, rfl, a⟩
  | _ :: _, _, i + 1, _, h, e => by
    unfold RVs at h
    obtain ⟨v, r, q, _, b⟩ := h
    subst q
    simp only [List.getElem?_cons_succ] at e ⊢
    exact b.get e
theorem RVs.get' : ∀ {xs : List IV} {vs : List V} {i : Nat} {v : V}, RVs K ι H xs vs → vs[i]? = some v → ∃ x, xs[i]? = some x ∧ RV K ι H x v
  | [], _, _, _, h, e => by unfold RVs at h; subst h; simp at e
  | x :: _, _, 0, _, h, e => by
    unfold RVs at h
    obtain ⟨v, r, q, a, _⟩ := h
    subst q
    simp only [List.getElem?_cons_zero, Option.some.injEq] at e
    subst e
    exact ⟨x, rfl, a⟩
  | _ :: _, _, i + 1, _, h, e => by
    unfold RVs at h
    obtain ⟨v, r, q, _, b⟩ := h
    subst q
    simp only [List.getElem?_cons_succ] at e ⊢
    exact b.get' e
theorem RVs.app : ∀ {xs ys : List IV} {vs ws : List V}, RVs K ι H xs vs → RVs K ι H ys ws → RVs K ι H (xs ++ ys) (vs ++ ws)
  | [], _, _, _, h, h' => by unfold RVs at h; subst h; exact h'
  | _ :: _, _, _, _, h, h' => by
    unfold RVs at h
    obtain ⟨v, r, q, a, b⟩ := h
    subst q
    simp only [List.cons_append]
    unfold RVs
    exact ⟨v, _, rfl, a, b.app h'⟩
theorem RVs.one {x : IV} {v : V} (h : RV K ι H x v) : RVs K ι H [x] [v] := by
  unfold RVs
  exact ⟨v, [], rfl, h, by unfold RVs; rfl⟩
theorem RVs.nil : RVs K ι H [] [] := by unfold RVs; rfl
theorem RVs.cons {x : IV} {v : V} {xs : List IV} {vs : List V} (h : RV K ι H x v) (h' : RVs K ι H xs vs) : RVs K ι H (x :: xs) (v :: vs) := by
  unfold RVs
  exact ⟨v, vs, rfl, h, h'⟩
theorem REn.len : ∀ {e : IE} {σ : L2.St}, REn K ι H e σ → e.length = σ.length
  | [], _, h => by unfold REn at h; subst h; rfl
  | _ :: _, _, ⟨v, r, e, _, b⟩ => by subst e; simp only [List.length_cons, b.len]
theorem REn.get : ∀ {e : IE} {σ : L2.St} {i : Nat} {x : IV}, REn K ι H e σ → e[i]? = some (some x) → ∃ v, σ[i]? = some (some v) ∧ RV K ι H x v
  | [], _, _, _, _, e => by simp at e
  | _ :: _, _, 0, _, ⟨v, r, q, a, _⟩, e => by
    simp only [List.getElem?_cons_zero, Option.some.injEq] at e
    subst e q
    obtain ⟨w, ew, rw'⟩ := a
    subst ew
    exact ⟨w, rfl, rw'⟩
  | _ :: _, _, i + 1, _, ⟨v, r, q, _, b⟩, e => by
    subst q
    simp only [List.getElem?_cons_succ] at e ⊢
    exact b.get e
theorem REn.set : ∀ {e : IE} {σ : L2.St} (i : Nat) {x : Option IV} {v : Option V}, REn K ι H e σ → RVo K ι H x v → REn K ι H (e.set i x) (σ.set i v)
  | [], _, _, _, _, h, _ => by unfold REn at h; subst h; rfl
  | _ :: _, _, 0, _, _, ⟨v, r, q, _, b⟩, h => by
    subst q
    exact ⟨_, r, rfl, h, b⟩
  | _ :: _, _, i + 1, _, _, ⟨v, r, q, a, b⟩, h => by
    subst q
    exact ⟨v, _, rfl, a, b.set i h⟩
end
theorem non_iff {K : PySem.W.Frag} {ι : List Addr} {H : Hp} {v : V} : RV K ι H .non v ↔ v = .non := by unfold RV; exact Iff.rfl
theorem bl_iff {K : PySem.W.Frag} {ι : List Addr} {H : Hp} {b : Bool} {v : V} : RV K ι H (.bl b) v ↔ v = .bl b := by unfold RV; exact Iff.rfl
theorem int_iff {K : PySem.W.Frag} {ι : List Addr} {H : Hp} {i : Int} {v : V} : RV K ι H (.int i) v ↔ v = .int i := by unfold RV; exact Iff.rfl
theorem str_iff {K : PySem.W.Frag} {ι : List Addr} {H : Hp} {x : List Nat} {v : V} : RV K ι H (.str x) v ↔ v = .str (sS x) := by unfold RV; exact Iff.rfl
theorem tup_iff {K : PySem.W.Frag} {ι : List Addr} {H : Hp} {xs : List IV} {v : V} : RV K ι H (.tup xs) v ↔ ∃ a vs, v = .ref a ∧ H a = some (.tup vs) ∧ RVs K ι H xs vs := by
  constructor
  · intro h; unfold RV at h; exact h
  · intro h; unfold RV; exact h
theorem fz_iff {K : PySem.W.Frag} {ι : List Addr} {H : Hp} {xs : List IV} {v : V} : RV K ι H (.fz xs) v ↔ ∃ a vs, v = .ref a ∧ SqF K H a vs ∧ RVs K ι H xs vs := by
  constructor
  · intro h; unfold RV at h; exact h
  · intro h; unfold RV; exact h
theorem ref_iff {K : PySem.W.Frag} {ι : List Addr} {H : Hp} {n : Nat} {v : V} : RV K ι H (.ref n) v ↔ ∃ a, ι[n]? = some a ∧ v = .ref a := by unfold RV; exact Iff.rfl

/-- what is known of the whole: K; the lambdas' objects; the defs' tables -/
structure Gx where
  K : PySem.W.Frag
  L : Nat → LamD
  T : List NdefX.NTab
  lay : String → List Str
  Z : Option (List Addr × Hp)
/-- the heap of places is held -/
structure RH (G : Gx) (ι : List Addr) (h : IH) (H : Hp) : Prop where
  len : ι.length = h.length
  nd : ι.Nodup
  ob : ∀ (n : Nat) (o : IO), h[n]? = some o → ∃ a, ι[n]? = some a ∧ RO G.K G.L G.lay ι H a o
  tb : NdefX.TabsN G.T H
  zb : ∀ p, G.Z = some p → p.1 <+: ι ∧ TL G.K p.2 H
/-- what a state has come to: more places, all tuples stand -/
structure Aft (G : Gx) (ι : List Addr) (H : Hp) (ι' : List Addr) (h' : IH) (H' : Hp) : Prop where
  pre : ι <+: ι'
  tl : TL G.K H H'
  rh : RH G ι' h' H'
theorem Aft.refl {G : Gx} {ι : List Addr} {h : IH} {H : Hp} (r : RH G ι h H) : Aft G ι H ι h H := ⟨List.prefix_refl _, TL.refl _ _, r⟩
theorem Aft.trans {G : Gx} {ι ι1 ι2 : List Addr} {h1 h2 : IH} {H H1 H2 : Hp} (a : Aft G ι H ι1 h1 H1) (b : Aft G ι1 H1 ι2 h2 H2) : Aft G ι H ι2 h2 H2 := ⟨a.pre.trans b.pre, a.tl.trans b.tl, b.rh⟩

/-- what is wanted of a result -/
def PR (G : Gx) (W : Value → Option Addr → Hp → Prop) (ι : List Addr) (H : Hp) (Q : VK) : Res IV → Prop
  | .ok x h' => ∀ ι' H' v, Aft G ι H ι' h' H' → RV G.K ι' H' x v → Q v H'
  | .exc c h' => ∀ ι' H', Aft G ι H ι' h' H' → W (.ref (He.ga G.K (Str.ofString c))) none H'
  | .bad => False
def PRs (G : Gx) (W : Value → Option Addr → Hp → Prop) (ι : List Addr) (H : Hp) (Q : List V → Hp → Prop) : Res (List IV) → Prop
  | .ok xs h' => ∀ ι' H' vs, Aft G ι H ι' h' H' → RVs G.K ι' H' xs vs → Q vs H'
  | .exc c h' => ∀ ι' H', Aft G ι H ι' h' H' → W (.ref (He.ga G.K (Str.ofString c))) none H'
  | .bad => False
/-- the reading that a meaning gives -/
def TI (G : Gx) (W : WX) (f : ME) : TE := fun σ H Q => ∃ ι e h, REn G.K ι H e σ ∧ RH G ι h H ∧ PR G (fun c d H' => W c d σ H') ι H Q (f e h)
def TIs (G : Gx) (W : WX) (f : IE → M (List IV)) : TA := fun σ H Q => ∃ ι e h, REn G.K ι H e σ ∧ RH G ι h H ∧ PRs G (fun c d H' => W c d σ H') ι H Q (f e h)
/-- what is wanted of a statement's end -/
def PF (G : Gx) (W : WX) (ι : List Addr) (H : Hp) (D : Ends) : Fl → Prop
  | .nx e h' => ∀ ι' σ' H', Aft G ι H ι' h' H' → REn G.K ι' H' e σ' → D.nx σ' H'
  | .rt x h' => ∀ ι' v H', Aft G ι H ι' h' H' → RV G.K ι' H' x v → D.rt v H'
  | .bk e h' => ∀ ι' σ' H', Aft G ι H ι' h' H' → REn G.K ι' H' e σ' → D.bk σ' H'
  | .ct e h' => ∀ ι' σ' H', Aft G ι H ι' h' H' → REn G.K ι' H' e σ' → D.ct σ' H'
  | .ex c e h' => ∀ ι' σ' H', Aft G ι H ι' h' H' → REn G.K ι' H' e σ' → W (.ref (He.ga G.K (Str.ofString c))) none σ' H'
  | .bad => False
def TSI (G : Gx) (W : WX) (f : MS) : TS := fun D σ H => ∃ ι e h, REn G.K ι H e σ ∧ RH G ι h H ∧ PF G W ι H D (f e h)

/-- an expression, a block, .. with a meaning -/
def SE (G : Gx) (X : Cx) (W : WX) (e : Expr) (f : ME) : Prop := PE X e (TI G W f)
def SA (G : Gx) (X : Cx) (W : WX) (es : List Expr) (f : IE → M (List IV)) : Prop := PA X es (TIs G W f)
def SS (G : Gx) (X : Cx) (W : WX) (st : Stmt) (f : MS) : Prop := PS X st (TSI G W f)
def SB (G : Gx) (X : Cx) (W : WX) (st : List Stmt) (f : MS) : Prop := PSs X st (TSI G W f)
def ST (G : Gx) (X : Cx) (W : WX) (e : Expr) (f : IE → M Bool) : Prop := PT X e (fun σ H Q => ∃ ι e h, REn G.K ι H e σ ∧ RH G ι h H ∧ match f e h with
  | .ok b h' => ∀ ι' H', Aft G ι H ι' h' H' → Q b H'
  | .exc c h' => ∀ ι' H', Aft G ι H ι' h' H' → W (.ref (He.ga G.K (Str.ofString c))) none σ H'
  | .bad => False)

theorem pe_weak {X : Cx} {e : Expr} {t u : TE} (p : PE X e t) (h : ∀ σ H Q, u σ H Q → t σ H Q) : PE X e u := ⟨fun pins s σ H Q I q => p.run pins s σ H Q I (h σ H Q q)⟩
theorem pa_weak {X : Cx} {e : List Expr} {t u : TA} (p : PA X e t) (h : ∀ σ H Q, u σ H Q → t σ H Q) : PA X e u := ⟨fun pos pins s σ H Q I q => p.run pos pins s σ H Q I (h σ H Q q)⟩
theorem pt_weak {X : Cx} {e : Expr} {t u : TT} (p : PT X e t) (h : ∀ σ H Q, u σ H Q → t σ H Q) : PT X e u := ⟨fun pins s σ H Q I q => p.run pins s σ H Q I (h σ H Q q)⟩
theorem ps_weak {X : Cx} {e : Stmt} {t u : TS} (p : PS X e t) (h : ∀ D σ H, u D σ H → t D σ H) : PS X e u := ⟨fun pins s σ H D I q => p.run pins s σ H D I (h D σ H q)⟩
theorem pss_weak {X : Cx} {e : List Stmt} {t u : TS} (p : PSs X e t) (h : ∀ D σ H, u D σ H → t D σ H) : PSs X e u := ⟨fun pins s σ H D I q => p.run pins s σ H D I (h D σ H q)⟩

section
variable {G : Gx} {W : Value → Option Addr → Hp → Prop} {ι ι1 : List Addr} {H H1 : Hp} {Q Q' : VK} {h1 : IH}
/-- later is as well -/
theorem PR.after {r : Res IV} (a : Aft G ι H ι1 h1 H1) (p : PR G W ι H Q r) : PR G W ι1 H1 Q r := by
  cases r with
  | ok x h' => exact fun ι' H' v b r => p ι' H' v (a.trans b) r
  | exc c h' => exact fun ι' H' b => p ι' H' (a.trans b)
  | bad => exact p
theorem PR.imp {r : Res IV} (p : PR G W ι H Q r) (f : ∀ v H', Q v H' → Q' v H') : PR G W ι H Q' r := by
  cases r with
  | ok x h' => exact fun ι' H' v b r => f _ _ (p ι' H' v b r)
  | exc c h' => exact p
  | bad => exact p
end

section
variable {G : Gx} {X : Cx} {W : WX} {a b c : Expr} {fa fb fc : ME} {pos : Pos}

/-- one value first, then what stands behind it: T gives the reading from the value on -/
theorem TI.bind {σ : L2.St} {H : Hp} {R : VK} {Wh : Value → Option Addr → Hp → Prop} {ι : List Addr} {e : IE} {h : IH} {k : IV → M IV} {Q : VK} (en : REn G.K ι H e σ) (rh : RH G ι h H)
    (p : PR G (fun c d H' => W c d σ H') ι H Q (Res.bind (fa e h) k))
    (hk : ∀ x v ι1 h1 H1, Aft G ι H ι1 h1 H1 → REn G.K ι1 H1 e σ → RV G.K ι1 H1 x v → PR G (fun c d H' => W c d σ H') ι1 H1 Q (k x h1) → R v H1) : TI G W fa σ H R := by
  refine ⟨ι, e, h, en, rh, ?_⟩
  cases q : fa e h with
  | ok x h1 =>
    rw [q] at p
    exact fun ι1 H1 v a r => hk x v ι1 h1 H1 a (en.mono a.pre a.tl) r (PR.after a p)
  | exc c h1 =>
    rw [q] at p
    exact p
  | bad =>
    rw [q] at p
    exact p

/-! ### names and constants -/
@[simp] def mVar (i : Nat) : ME := fun e h => match e[i]? with
  | some (some x) => .ok x h
  | _ => .bad
@[simp] def mC (x : IV) : ME := fun _ h => .ok x h
theorem se_var (i : Nat) {x : Str} (p : PE X (.Name x pos) (tVar i)) : SE G X W (.Name x pos) (mVar i) := by
  refine pe_weak p fun σ H Q hq => ?_
  obtain ⟨ι, e, h, en, rh, q⟩ := hq
  unfold mVar at q
  cases z : e[i]? with
  | none => rw [z] at q; exact q.elim
  | some o =>
    cases o with
    | none => rw [z] at q; exact q.elim
    | some y =>
      rw [z] at q
      obtain ⟨v, hv, r⟩ := en.get z
      exact ⟨v, hv, q ι H v (Aft.refl rh) r⟩
theorem se_c {x : IV} {v : V} (p : PE X a (tC v)) (r : ∀ ι H, RV G.K ι H x v) : SE G X W a (mC x) := by
  refine pe_weak p fun σ H Q hq => ?_
  obtain ⟨ι, e, h, en, rh, q⟩ := hq
  exact q ι H v (Aft.refl rh) (r ι H)
theorem se_int {i j} : SE G X W (.Constant (.int i) j pos) (mC (.int i)) := se_c pe_int fun _ _ => int_iff.mpr rfl
theorem se_bl {b j} : SE G X W (.Constant (.bool b) j pos) (mC (.bl b)) := se_c pe_bl fun _ _ => bl_iff.mpr rfl
theorem se_non {j} : SE G X W (.Constant .none j pos) (mC .non) := se_c pe_non fun _ _ => non_iff.mpr rfl
theorem se_str {x : Str} {j} {z : List Nat} (hz : x = sS z := by rfl) : SE G X W (.Constant (.str x) j pos) (mC (.str z)) := se_c pe_str fun _ _ => str_iff.mpr (by rw [hz])

/-! ### operators by values -/
/-- a two-place operator's meaning: g is sound for the reading r -/
def Mean2 (G : Gx) (r : R2) (g : IV → IV → M IV) : Prop := ∀ (x y : IV) (v w : V) (ι : List Addr) (h : IH) (H : Hp) (Q : VK) (Wh : Value → Option Addr → Hp → Prop), RV G.K ι H x v → RV G.K ι H y w → RH G ι h H → PR G Wh ι H Q (g x y h) → r v w H Q
def Mean1 (G : Gx) (r : V → Hp → VK → Prop) (g : IV → M IV) : Prop := ∀ (x : IV) (v : V) (ι : List Addr) (h : IH) (H : Hp) (Q : VK) (Wh : Value → Option Addr → Hp → Prop), RV G.K ι H x v → RH G ι h H → PR G Wh ι H Q (g x h) → r v H Q
@[simp] def m2 (g : IV → IV → M IV) (fa fb : ME) : ME := fun e h => (fa e h).bind fun x h1 => (fb e h1).bind fun y h2 => g x y h2
@[simp] def m1 (g : IV → M IV) (fa : ME) : ME := fun e h => (fa e h).bind fun x h1 => g x h1
theorem tOp_mean {r : R2} {g : IV → IV → M IV} (hm : Mean2 G r g) : ∀ σ H Q, TI G W (m2 g fa fb) σ H Q → tOp r (TI G W fa) (TI G W fb) σ H Q := by
  intro σ H Q hq
  obtain ⟨ι, e, h, en, rh, q⟩ := hq
  refine TI.bind (Wh := fun c d H' => W c d σ H') en rh q fun x v ι1 h1 H1 a1 en1 r1 q1 => ?_
  refine TI.bind (Wh := fun c d H' => W c d σ H') en1 a1.rh q1 fun y w ι2 h2 H2 a2 en2 r2 q2 => ?_
  exact hm x y v w ι2 h2 H2 Q _ (r1.mono a2.pre a2.tl) r2 a2.rh q2
theorem se_op {op : Operator} {r : R2} {g : IV → IV → M IV} (ho : OpR X (binaryOp op) r) (hm : Mean2 G r g) (ha : SE G X W a fa) (hb : SE G X W b fb) : SE G X W (.BinOp a op b pos) (m2 g fa fb) := pe_weak (pe_op ho ha hb) (tOp_mean hm)
theorem se_cmp {op : CmpOp} {r : R2} {g : IV → IV → M IV} (ho : OpR X (compareOp op) r) (hm : Mean2 G r g) (ha : SE G X W a fa) (hb : SE G X W b fb) (hk : behindInMarks op b = false) : SE G X W (.Compare a [op] [b] pos) (m2 g fa fb) := pe_weak (pe_cmpR ho ha hb hk) (tOp_mean hm)
theorem se_un {op : UnaryOp} {r : V → Hp → VK → Prop} {g : IV → M IV} (ho : UnR X (unaryOp op) r) (hm : Mean1 G r g) (ha : SE G X W a fa) : SE G X W (.UnaryOp op a pos) (m1 g fa) := by
  refine pe_weak (pe_un ho ha) fun σ H Q hq => ?_
  obtain ⟨ι, e, h, en, rh, q⟩ := hq
  refine TI.bind (Wh := fun c d H' => W c d σ H') en rh q fun x v ι1 h1 H1 a1 en1 r1 q1 => ?_
  exact hm x v ι1 h1 H1 Q _ r1 a1.rh q1
end
end Sh

/-! Sh2: steps of the heap; displays, indices, calls, statements. -/
namespace Sh
open PySem PySem.Spec PyProof.Rows L2

/-- what may change: lists, dicts, instances -/
def Mu : HO → Prop
  | .lst _ => True
  | .dK _ => True
  | .dT _ => True
  | .ins _ _ _ => True
  | _ => False
section
variable {G : Gx} {ι : List Addr} {h : IH} {H H' : Hp} {p a : Addr} {n : Nat}
theorem RO.mu {K : PySem.W.Frag} {L : Nat → LamD} {lay : String → List Str} {a : Addr} : ∀ {o : IO}, RO K L lay ι H a o → ∃ u, H a = some u ∧ (Mu u ∨ (∃ φ, u = .ext φ) ∨ ∃ o v, u = .frz o v)
  | .lst _, ⟨vs, e, r⟩ => ⟨_, e, .inl trivial⟩
  | .dic false _, ⟨ws, e, r⟩ => ⟨_, e, .inl trivial⟩
  | .dic true _, ⟨ws, e, r⟩ => ⟨_, e, .inl trivial⟩
  | .dicL false _, ⟨o, ws, e, r⟩ => ⟨_, e, .inr (.inr ⟨_, _, rfl⟩)⟩
  | .dicL true _, ⟨o, ws, e, r⟩ => ⟨_, e, .inr (.inr ⟨_, _, rfl⟩)⟩
  | .ins _ _, ⟨dx, ws, e, r⟩ => ⟨_, e, .inl trivial⟩
  | .lam k, ⟨c, e, q⟩ => ⟨_, e, .inr (.inl ⟨_, rfl⟩)⟩
  | .gone, ⟨φ, e⟩ => ⟨_, e, .inr (.inl ⟨_, rfl⟩)⟩
theorem RO.some {K : PySem.W.Frag} {L : Nat → LamD} {lay : String → List Str} {a : Addr} : ∀ {o : IO}, RO K L lay ι H a o → ∃ u, H a = some u
  | .lst _, ⟨vs, e, r⟩ => ⟨_, e⟩
  | .dic false _, ⟨ws, e, r⟩ => ⟨_, e⟩
  | .dic true _, ⟨ws, e, r⟩ => ⟨_, e⟩
  | .dicL false _, ⟨o, ws, e, r⟩ => ⟨_, e⟩
  | .dicL true _, ⟨o, ws, e, r⟩ => ⟨_, e⟩
  | .ins _ _, ⟨dx, ws, e, r⟩ => ⟨_, e⟩
  | .lam k, ⟨c, e, q⟩ => ⟨_, e⟩
  | .gone, ⟨φ, e⟩ => ⟨_, e⟩
theorem RH.at (r : RH G ι h H) {o : IO} (e : h[n]? = some o) (q : ι[n]? = some a) : RO G.K G.L G.lay ι H a o := by
  obtain ⟨b, e1, z⟩ := r.ob n o e
  rw [q] at e1
  cases e1
  exact z
theorem RH.mem (r : RH G ι h H) (q : ι[n]? = some a) : ∃ u, H a = some u := by
  have hn : n < h.length := by rw [← r.len]; exact (List.getElem?_eq_some_iff.mp q).1
  exact (r.at (List.getElem?_eq_getElem hn) q).some
theorem RH.new (r : RH G ι h H) (hp : H p = none) : p ∉ ι := fun hm => by
  obtain ⟨n, hn, e⟩ := List.getElem_of_mem hm
  obtain ⟨u, q⟩ := r.mem (List.getElem?_eq_some_iff.mpr ⟨hn, e⟩)
  rw [hp] at q
  cases q
theorem RH.nd_ix (r : RH G ι h H) {m : Nat} (e1 : ι[m]? = some a) (e2 : ι[n]? = some a) : m = n := by
  obtain ⟨l1, g1⟩ := List.getElem?_eq_some_iff.mp e1
  obtain ⟨l2, g2⟩ := List.getElem?_eq_some_iff.mp e2
  have z := List.pairwise_iff_getElem.mp r.nd
  rcases Nat.lt_trichotomy m n with q | q | q
  · exact absurd (g1.trans g2.symm) (z m n l1 l2 q)
  · exact q
  · exact absurd (g2.trans g1.symm) (z n m l2 l1 q)
/-- what was there is there -/
theorem Aft.same (r : RH G ι h H) (k : ∀ b o, H b = some o → H' b = some o) : Aft G ι H ι h H' := by
  have tl : TL G.K H H' := TL.of (fun b xs q => k b _ q) (fun b o u q => k b _ q) (fun b φ q => k b _ q)
  refine ⟨List.prefix_refl _, tl, r.len, r.nd, fun n o e => ?_, r.tb.ext k, fun p hp => ⟨(r.zb p hp).1, (r.zb p hp).2.trans tl⟩⟩
  obtain ⟨a, e1, q⟩ := r.ob n o e
  obtain ⟨u, hu⟩ := q.some
  exact ⟨a, e1, q.mono (List.prefix_refl _) tl ((k a u hu).trans hu.symm)⟩
theorem upd_keep (hp : H p = none) {o : HO} : ∀ b u, H b = some u → upd H p o b = some u := fun b u e => by
  rw [upd_ne (ne_of_none e hp)]
  exact e
/-- a new tuple, or another new thing without a place -/
theorem Aft.fresh (r : RH G ι h H) (hp : H p = none) (o : HO) : Aft G ι H ι h (upd H p o) := Aft.same r (upd_keep hp)
/-- a new thing at a new place -/
theorem Aft.place (r : RH G ι h H) (hp : H p = none) (u : HO) (o : IO) (ho : RO G.K G.L G.lay (ι ++ [p]) (upd H p u) p o) : Aft G ι H (ι ++ [p]) (h ++ [o]) (upd H p u) := by
  have a := Aft.fresh r hp u
  have pi : ι <+: ι ++ [p] := List.prefix_append _ _
  refine ⟨pi, a.tl, by rw [List.length_append, List.length_append, r.len]; rfl, ?_, fun n x e => ?_, a.rh.tb, fun p hp => ⟨(a.rh.zb p hp).1.trans pi, (a.rh.zb p hp).2⟩⟩
  · rw [List.nodup_append]
    refine ⟨r.nd, by simp, fun x hx y hy e => ?_⟩
    rw [List.mem_singleton] at hy
    subst hy e
    exact r.new hp hx
  · by_cases hn : n < h.length
    · rw [List.getElem?_append_left hn] at e
      obtain ⟨b, e1, q⟩ := a.rh.ob n x e
      exact ⟨b, pre_get pi e1, q.mono pi (TL.refl _ _) rfl⟩
    · rw [List.getElem?_append_right (by omega)] at e
      have h0 : n - h.length = 0 := by
        cases z : n - h.length with
        | zero => rfl
        | succ m => rw [z] at e; simp at e
      rw [h0] at e
      simp only [List.getElem?_cons_zero, Option.some.injEq] at e
      subst e
      refine ⟨p, ?_, ho⟩
      have : n = ι.length := by rw [r.len]; omega
      subst this
      rw [List.getElem?_append_right (Nat.le_refl _), Nat.sub_self]
      rfl
/-- a thing at a place changed -/
theorem Aft.set (r : RH G ι h H) (q : ι[n]? = some a) {u0 : HO} (h0 : H a = some u0) (m0 : Mu u0) (u : HO) (o : IO) (ho : RO G.K G.L G.lay ι (upd H a u) a o) (hn : n < h.length) : Aft G ι H ι (h.set n o) (upd H a u) := by
  have hne : ∀ b w, H b = some w → ¬ Mu w → b ≠ a := fun b w e nm z => by
    subst z
    rw [h0] at e
    cases e
    exact nm m0
  have tl : TL G.K H (upd H a u) := TL.of (fun b xs e => by rw [upd_ne (hne b _ e (fun z => z))]; exact e) (fun b o w e => by rw [upd_ne (hne b _ e (fun z => z))]; exact e) (fun b φ e => by rw [upd_ne (hne b _ e (fun z => z))]; exact e)
  refine ⟨List.prefix_refl _, tl, by rw [List.length_set]; exact r.len, r.nd, fun m x e => ?_, fun P hP => ?_, fun p hp => ⟨(r.zb p hp).1, (r.zb p hp).2.trans tl⟩⟩
  · by_cases hm : m = n
    · subst hm
      rw [List.getElem?_set_self hn] at e
      cases e
      exact ⟨a, q, ho⟩
    · rw [List.getElem?_set_ne (Ne.symm hm)] at e
      obtain ⟨b, e1, z⟩ := r.ob m x e
      have hb : b ≠ a := fun w => by
        subst w
        exact hm (r.nd_ix e1 q)
      exact ⟨b, e1, z.mono (List.prefix_refl _) tl (upd_ne hb)⟩
  · obtain ⟨ps, z1, z2, z3⟩ := r.tb P hP
    refine ⟨ps, by rw [upd_ne (hne _ _ z1 (fun z => z))]; exact z1, z2, fun pos cv hc => ?_⟩
    obtain ⟨c, e1, e2⟩ := z3 pos cv hc
    refine ⟨c, e1, ?_⟩
    rw [upd_ne (hne _ _ e2 (fun z => z))]
    exact e2
end
end Sh

/-! Sh3: operators and comparisons. -/
namespace Sh
open PySem PySem.Spec PyProof.Rows L2

theorem opr_or {X : Cx} {f : Value → Value → Sem Value} {r r' : R2} (a : OpR X f r) (b : OpR X f r') : OpR X f (fun x y H Q => r x y H Q ∨ r' x y H Q) := by
  intro pins s σ H x y v u Q I rx ry h
  rcases h with h | h
  · exact a pins s σ H x y v u Q I rx ry h
  · exact b pins s σ H x y v u Q I rx ry h
abbrev big : Nat := 10000000
theorem big_le {n : Nat} (h : n ≤ big) : n ≤ sizeLine := Nat.le_trans h (by decide)
theorem sS_len (x : List Nat) : (sS x).length = x.length := by
  unfold sS
  show (x.toArray).size = x.length
  simp
theorem sS_app (x y : List Nat) : sS x ++ sS y = sS (x ++ y) := by
  show Str.mk (x.toArray ++ y.toArray) = Str.mk (x ++ y).toArray
  simp
section
variable {X : Cx}
theorem int_rmul_listW (a : Int) (t : Tok) (l : Addr) (items : Array Value) (n : Nat) (dd : Option Addr) (sl : Array (Option Value)) :
    Meets (Builtin.«int.__rmul__» ⟨[.int a t, .ref l], []⟩) (fun _ R s => s.heap.get? l = some { cls := .type "list", dict := dd, data := .seq items n, slots := sl } ∧ R (.ok (.ret Value.notImplemented)) s) :=
  .of_wp fun prog w A R s h => by obtain ⟨hp, g, d, tk, os⟩ := s; obtain ⟨hl, h⟩ := h; wp_walk using AutoSeq1.wpAny_loadPart' hl; exact ⟨_, rfl, h⟩
theorem list_mulW (l : Addr) (items : Array Value) (n : Nat) (dd : Option Addr) (sl : Array (Option Value)) (x : Int) (u : Tok) (hc0 : ¬(!Builtin.List.listFitsIndex x) = true) (hc1 : ¬items.size * x.toNat > (2 ^ 63 - 1) / 8) (hc2 : ¬Builtin.List.listTooLong (items.size * x.toNat) = true) :
    Meets (Builtin.«list.__mul__» ⟨[.ref l, .int x u], []⟩) (fun _ R s => s.heap.get? l = some { cls := .type "list", dict := dd, data := .seq items n, slots := sl } ∧ R (.ok (.ret (Value.ref s.heap.objs.size))) { s with heap := s.heap.push { cls := Value.type "list", data := Data.seq (List.foldl (fun x1 x2 => x1 ++ x2) #[] (List.replicate (if items.isEmpty then 0 else x.toNat) items)) }, toks := s.toks }) :=
  .of_wp fun prog w A R s h => by
    obtain ⟨hp, g, d, tk, os⟩ := s; obtain ⟨hl, h⟩ := h
    have hsz := AutoListH.joined_fits hc2
    have f1 := AutoSeq1.idx_int; have f2 := AutoSeq1.sub_tuple_tuple; have f3 := AutoSeq1.sub_list_list; have f4 := AutoSeq1.sub_tuple_list; have f5 := AutoSeq1.sub_list_tuple
    wp_walk using AutoSeq1.wpAny_loadPart' hl; refine wpAny_ite_false (decide_eq_false (Nat.not_lt.mpr hsz)) ?_; wp_walk using AutoSeq1.wpAny_loadPart' hl; exact ⟨_, rfl, h⟩
/-- list + list -/
def rCatS (K : PySem.W.Frag) : R2 := fun x y H Q => ∃ l b xs zs, x = .ref l ∧ y = .ref b ∧ SqL K H l xs ∧ SqL K H b zs ∧ xs.length + zs.length ≤ sizeLine ∧ ∀ p, H p = none → Q (.ref p) (upd H p (.lst (xs ++ zs)))
theorem op_catS : OpR X (binaryOp .Add) (rCatS X.K) := by
  intro pins s σ H x y v u Q I rx ry h
  obtain ⟨l, b, xs, zs, rfl, rfl, hH, hB, hz, q⟩ := h
  cases rx
  cases ry
  obtain ⟨its, r, ⟨⟨cls, dd, data, sl⟩, n, ho, hc, hdd, hd⟩, _⟩ := I.list hH
  obtain ⟨its2, r2, ⟨⟨cls2, dd2, data2, sl2⟩, n2, ho2, hc2, hdd2, hd2⟩, _⟩ := I.list hB
  simp only at hc hd hc2 hd2
  subst hc hd hc2 hd2
  have hl := r.length
  have hl2 := r2.length
  have e : its.toArray ++ its2.toArray = (its ++ its2).toArray := by simp
  refine concat_meets ⟨_, ho, rfl⟩ ⟨_, ho2, rfl⟩ noFill_list_add seq_list_add PySem.F.slot_list_add PySem.F.entry_list_add (PySem.F.args_list_add_2 _ _) (list_addW l b its.toArray its2.toArray n n2 dd dd2 sl sl2 (by rw [List.size_toArray, List.size_toArray]; omega)) ⟨ho, ho2, ?_⟩
  rw [e]
  exact ⟨.ref _, _, I.lnew (t' := s.toks) (r.append r2) (by rw [List.length_append]; omega), rfl, q _ I.fresh⟩
def rRepS (K : PySem.W.Frag) : R2 := fun x y H Q => ∃ l k xs, x = .ref l ∧ y = .int k ∧ SqL K H l xs ∧ -(2 ^ 63) ≤ k ∧ k < 2 ^ 63 ∧ xs.length * k.toNat ≤ sizeLine ∧
  ∀ p, H p = none → Q (.ref p) (upd H p (.lst (List.replicate k.toNat xs).flatten))
theorem op_repS : OpR X (binaryOp .Mult) (rRepS X.K) := by
  intro pins s σ H x y v u Q I rx ry h
  obtain ⟨l, k, xs, rfl, rfl, hH, h1, h2, hz, q⟩ := h
  cases rx
  obtain ⟨t, rfl⟩ := ry
  obtain ⟨its, r, ⟨⟨cls, dd, data, sl⟩, n, e, hc, hdd, hd⟩, _⟩ := I.list hH
  simp only at hc hd
  subst hc hd
  have hl := r.length
  have hlen : its.toArray.size * k.toNat ≤ sizeLine := by rw [List.size_toArray, ← hl]; exact hz
  have hcap : ¬ its.toArray.size * k.toNat > (2 ^ 63 - 1) / 8 := by
    have : (sizeLine : Nat) ≤ (2 ^ 63 - 1) / 8 := by decide
    omega
  have hfit : ¬ (!Builtin.List.listFitsIndex k) = true := by
    rw [fitsIndex_both h1 h2]
    exact Bool.false_ne_true
  have hlong : ¬ Builtin.List.listTooLong (its.toArray.size * k.toNat) = true := by
    rw [notLongL hlen]
    exact Bool.false_ne_true
  have hnew : List.foldl (fun x1 x2 => x1 ++ x2) #[] (List.replicate (if its.toArray.isEmpty = true then 0 else k.toNat) its.toArray) = (List.replicate k.toNat its).flatten.toArray := by
    have f0 : ∀ m : Nat, List.foldl (fun x1 x2 => x1 ++ x2) #[] (List.replicate m its.toArray) = (List.replicate m its).flatten.toArray := fun m => by
      have := foldl_rep its m []
      rw [List.nil_append] at this
      exact this
    rw [f0]
    cases its with
    | nil => simp
    | cons a r' => rw [if_neg (by simp)]
  refine wpAny_binaryOp_repeat_ref (T := "list") (U := "int") (by decide) ⟨_, e, rfl⟩ (fun s' => typeIs_int s' k t) noFill_list_mul F.fills_int_mul F.slot_int_rmul repeat_list F.slot_int_index.lookup
    (call_meets F.slot_int_rmul (typeIs_int s k t) F.entry_int_rmul (F.args_int_rmul_2 _ _) (int_rmul_listW k t l its.toArray n dd sl)
      ⟨e, rfl, ⟨_, e, rfl⟩, call_meets F.slot_list_mul ⟨_, e, rfl⟩ F.entry_list_mul (F.args_list_mul_2 _ _) (list_mulW l its.toArray n dd sl k t hfit hcap hlong) ⟨e, ?_⟩⟩)
  rw [hnew]
  exact ⟨.ref _, _, I.lnew (t' := s.toks) (r.rep k.toNat) (by rw [PyProof.Rows.lm_len_rep_flat, Nat.mul_comm]; exact hz), rfl, q _ I.fresh⟩
end
/-! ### results that nothing changes any more -/
/-- a result, as it is or frozen -/
def QF (Q : VK) : VK := fun v H => Q v H ∨ ∃ d vs, v = .ref d ∧ H d = some (.lst vs) ∧ ∀ od, Q v (upd H d (.frz od (.lst vs)))
theorem pe_fz {X : Cx} {e : Expr} {t : TE} (p : PE X e t) : PE X e (fun σ H Q => t σ H (QF Q)) := by
  refine ⟨fun pins s σ H Q I h => thn (p.run pins s σ H _ I h) fun v s1 ⟨x, H1, I1, r1, q1⟩ => ?_⟩
  rcases q1 with q1 | ⟨d, vs, rfl, hd, q1⟩
  · exact ⟨x, H1, I1, r1, q1⟩
  · obtain ⟨od, I2⟩ := I1.lock hd trivial
    exact ⟨_, _, I2, r1, q1 od⟩
/-! ### + -/
@[simp] def gAdd (x y : IV) : M IV := fun h => match x, y with
  | .int i, .int j => .ok (.int (i + j)) h
  | .str a, .str b => if a.length + b.length ≤ big then .ok (.str (a ++ b)) h else .bad
  | .tup a, .tup b => if a.length + b.length ≤ big then .ok (.tup (a ++ b)) h else .bad
  | .ref n, .ref m => match h[n]?, h[m]? with
    | some (.lst a), some (.lst b) => if a.length + b.length ≤ big then .ok (.ref h.length) (h ++ [.lst (a ++ b)]) else .bad
    | _, _ => .bad
  | _, _ => .bad
def rAddU (K : PySem.W.Frag) : R2 := fun x y H Q => (rI0 (fun i j => .int (i + j))) x y H Q ∨ (fun x y H Q => ∃ i j, x = .str i ∧ y = .str j ∧ i.length + j.length ≤ sizeLine ∧ Q (.str (i ++ j)) H : R2) x y H Q ∨ rCatA K x y H Q ∨ rCat x y H Q
theorem op_addU {X : Cx} : OpR X (binaryOp .Add) (rAddU X.K) := opr_or op_add (opr_or op_add_str (opr_or op_catA op_cat))
theorem ref_len {G : Gx} {ι : List Addr} {h : IH} {H : Hp} (r : RH G ι h H) {p : Addr} : (ι ++ [p])[h.length]? = some p := by
  rw [← r.len, List.getElem?_append_right (Nat.le_refl _), Nat.sub_self]
  rfl
theorem mean_add {G : Gx} : Mean2 G (rAddU G.K) gAdd := by
  intro x y v w ι h H Q Wh rx ry r p
  cases x <;> cases y <;> try exact p.elim
  · rename_i i j
    rw [int_iff] at rx ry
    exact .inl ⟨i, j, rx, ry, p ι H _ (Aft.refl r) (int_iff.mpr rfl)⟩
  · rename_i a b
    rw [str_iff] at rx ry
    simp only [gAdd] at p
    split at p
    · rename_i hz
      refine .inr (.inl ⟨_, _, rx, ry, by rw [sS_len, sS_len]; exact big_le hz, p ι H _ (Aft.refl r) (str_iff.mpr ?_)⟩)
      rw [sS_app]
    · exact p.elim
  · rename_i a b
    rw [tup_iff] at rx ry
    obtain ⟨pa, va, rfl, qa, ra⟩ := rx
    obtain ⟨pb, vb, rfl, qb, rb⟩ := ry
    simp only [gAdd] at p
    split at p
    · rename_i hz
      have la := ra.len
      have lb := rb.len
      refine .inr (.inr (.inl ⟨pa, pb, va, vb, rfl, rfl, (SqT.of qa), (SqT.of qb), by rw [← la, ← lb]; exact big_le hz, fun e => ?_, fun _ e => ?_, fun _ _ q hq => ?_⟩))
      · refine p ι H _ (Aft.refl r) (tup_iff.mpr ⟨pb, vb, rfl, qb, ?_⟩)
        have : a = [] := List.length_eq_zero_iff.mp (by rw [la, e]; rfl)
        rw [this]
        exact rb
      · refine p ι H _ (Aft.refl r) (tup_iff.mpr ⟨pa, va, rfl, qa, ?_⟩)
        have : b = [] := List.length_eq_zero_iff.mp (by rw [lb, e]; rfl)
        rw [this, List.append_nil]
        exact ra
      · have af := Aft.fresh r hq (.tup (va ++ vb))
        exact p ι _ _ af (tup_iff.mpr ⟨q, _, rfl, upd_same, (ra.mono af.pre af.tl).app (rb.mono af.pre af.tl)⟩)
    · exact p.elim
  · rename_i n m
    rw [ref_iff] at rx ry
    obtain ⟨pa, ia, rfl⟩ := rx
    obtain ⟨pb, ib, rfl⟩ := ry
    simp only [gAdd] at p
    split at p
    · rename_i a b e1 e2
      split at p
      · rename_i hz
        obtain ⟨va, ea, ra⟩ := r.at e1 ia
        obtain ⟨vb, eb, rb⟩ := r.at e2 ib
        refine .inr (.inr (.inr ⟨pa, pb, va, vb, rfl, rfl, ea, eb, by rw [← ra.len, ← rb.len]; exact big_le hz, fun q hq => ?_⟩))
        have a0 := Aft.fresh r hq (.lst (va ++ vb))
        have af := Aft.place r hq (.lst (va ++ vb)) (.lst (a ++ b)) ⟨_, upd_same, ((ra.mono a0.pre a0.tl).app (rb.mono a0.pre a0.tl)).mono (List.prefix_append _ _) (TL.refl _ _)⟩
        exact p _ _ _ af (ref_iff.mpr ⟨q, ref_len r, rfl⟩)
      · exact p.elim
    · exact p.elim
/-! ### lists that nothing changes -/
@[simp] def sqI (x : IV) (h : IH) : Option (List IV) := match x with
  | .fz xs => some xs
  | .ref n => match h[n]? with
    | some (.lst xs) => some xs
    | _ => none
  | _ => none
theorem sq_ok {G : Gx} {ι : List Addr} {h : IH} {H : Hp} {x : IV} {v : V} {xs : List IV} (rx : RV G.K ι H x v) (r : RH G ι h H) (e : sqI x h = some xs) : ∃ a vs, v = .ref a ∧ SqL G.K H a vs ∧ RVs G.K ι H xs vs := by
  cases x with
  | fz ys =>
    simp only [sqI, Option.some.injEq] at e
    subst e
    rw [fz_iff] at rx
    obtain ⟨a, vs, rfl, q, rs⟩ := rx
    exact ⟨a, vs, rfl, q.sq, rs⟩
  | ref n =>
    rw [ref_iff] at rx
    obtain ⟨a, ia, rfl⟩ := rx
    simp only [sqI] at e
    split at e
    · rename_i ys hk
      cases e
      obtain ⟨vs, ea, rs⟩ := r.at hk ia
      exact ⟨a, vs, rfl, SqL.of ea, rs⟩
    · cases e
  | _ => simp [sqI] at e
theorem qf_new {G : Gx} {W : Value → Option Addr → Hp → Prop} {ι : List Addr} {h : IH} {H : Hp} {Q : VK} {xs : List IV} {vs : List V} {q : Addr} (p : PR G W ι H Q (.ok (.fz xs) h)) (r : RH G ι h H) (hq : H q = none) (rs : RVs G.K ι H xs vs) : QF Q (.ref q) (upd H q (.lst vs)) :=
  .inr ⟨q, vs, rfl, upd_same, fun od => by
    rw [upd_upd]
    have af := Aft.fresh r hq (.frz od (.lst vs))
    exact p ι _ _ af (fz_iff.mpr ⟨q, vs, rfl, .inl ⟨od, upd_same⟩, rs.mono af.pre af.tl⟩)⟩
/-- .. its result may be frozen -/
def MeanF2 (G : Gx) (r : R2) (g : IV → IV → M IV) : Prop := ∀ (x y : IV) (v w : V) (ι : List Addr) (h : IH) (H : Hp) (Q : VK) (Wh : Value → Option Addr → Hp → Prop), RV G.K ι H x v → RV G.K ι H y w → RH G ι h H → PR G Wh ι H Q (g x y h) → r v w H (QF Q)
theorem PR.qf {G : Gx} {W : Value → Option Addr → Hp → Prop} {ι : List Addr} {H : Hp} {Q : VK} {r : Res IV} (p : PR G W ι H Q r) : PR G W ι H (QF Q) r := p.imp fun _ _ q => .inl q
section
variable {G : Gx} {X : Cx} {W : WX} {a b : Expr} {fa fb : ME} {pos : Pos}
theorem tOp_meanF {r : R2} {g : IV → IV → M IV} (hm : MeanF2 G r g) : ∀ σ H Q, TI G W (m2 g fa fb) σ H Q → tOp r (TI G W fa) (TI G W fb) σ H (QF Q) := by
  intro σ H Q hq
  obtain ⟨ι, e, h, en, rh, q⟩ := hq
  refine TI.bind (Wh := fun c d H' => W c d σ H') en rh q fun x v ι1 h1 H1 a1 en1 r1 q1 => ?_
  refine TI.bind (Wh := fun c d H' => W c d σ H') en1 a1.rh q1 fun y w ι2 h2 H2 a2 en2 r2 q2 => ?_
  exact hm x y v w ι2 h2 H2 Q _ (r1.mono a2.pre a2.tl) r2 a2.rh q2
theorem se_opF {op : Operator} {r : R2} {g : IV → IV → M IV} (ho : OpR X (binaryOp op) r) (hm : MeanF2 G r g) (ha : SE G X W a fa) (hb : SE G X W b fb) : SE G X W (.BinOp a op b pos) (m2 g fa fb) := pe_weak (pe_fz (pe_op ho ha hb)) (tOp_meanF hm)
end
@[simp] def gAddF (x y : IV) : M IV := fun h => match sqI x h, sqI y h with
  | some a, some b => if a.length + b.length ≤ big then .ok (.fz (a ++ b)) h else .bad
  | _, _ => gAdd x y h
def rAddS (K : PySem.W.Frag) : R2 := fun x y H Q => rAddU K x y H Q ∨ rCatS K x y H Q
theorem op_addS {X : Cx} : OpR X (binaryOp .Add) (rAddS X.K) := opr_or op_addU op_catS
theorem mean_addF {G : Gx} : MeanF2 G (rAddS G.K) gAddF := by
  intro x y v w ι h H Q Wh rx ry r p
  simp only [gAddF] at p
  split at p
  · rename_i a b e1 e2
    split at p
    · rename_i hz
      obtain ⟨pa, va, rfl, qa, ra⟩ := sq_ok rx r e1
      obtain ⟨pb, vb, rfl, qb, rb⟩ := sq_ok ry r e2
      exact .inr ⟨pa, pb, va, vb, rfl, rfl, qa, qb, by rw [← ra.len, ← rb.len]; exact big_le hz, fun q hq => qf_new p r hq (ra.app rb)⟩
    · exact p.elim
  · exact .inl (mean_add x y v w ι h H _ Wh rx ry r p.qf)
/-! ### - * // % ** -/
@[simp] def gI (C : Int → Int → Bool) (f : Int → Int → Int) (x y : IV) : M IV := fun h => match x, y with
  | .int i, .int j => if C i j = true then .ok (.int (f i j)) h else .bad
  | _, _ => .bad
theorem mean_I {G : Gx} {C : Int → Int → Bool} {P : Int → Int → Prop} {f : Int → Int → Int} (hc : ∀ i j, C i j = true → P i j) : Mean2 G (rI P fun i j => .int (f i j)) (gI C f) := by
  intro x y v w ι h H Q Wh rx ry r p
  cases x <;> cases y <;> try exact p.elim
  rename_i i j
  rw [int_iff] at rx ry
  simp only [gI] at p
  split at p
  · rename_i z
    exact ⟨i, j, rx, ry, hc i j z, p ι H _ (Aft.refl r) (int_iff.mpr rfl)⟩
  · exact p.elim
@[simp] def gSub : IV → IV → M IV := gI (fun _ _ => true) fun i j => i - j
theorem mean_sub {G : Gx} : Mean2 G (rI0 fun i j => .int (i - j)) gSub := fun x y v w ι h H Q Wh rx ry r p => by
  obtain ⟨i, j, a, b, _, q⟩ := mean_I (P := fun _ _ => True) (C := fun _ _ => true) (f := fun i j => i - j) (fun _ _ _ => trivial) x y v w ι h H Q Wh rx ry r p
  exact ⟨i, j, a, b, q⟩
/-- the rest: by a number above nought -/
@[simp] def gMod : IV → IV → M IV := gI (fun _ j => decide (0 < j)) fun i j => i % j
theorem mean_mod {G : Gx} : Mean2 G (rI (fun _ j => 0 < j) fun i j => .int (i % j)) gMod := mean_I fun _ _ h => of_decide_eq_true h
def pow200 : Int := 2 ^ 200
@[simp] def gDiv : IV → IV → M IV := gI (fun _ j => decide (0 < j ∧ j < pow200)) fun i j => i / j
theorem mean_div {G : Gx} : Mean2 G (rI CDivW fun i j => .int (i / j)) gDiv := mean_I fun i j h => by
  have h := of_decide_eq_true h
  refine wide_div (b := 200) h.1 ?_ (by decide) (by decide)
  have h2 := h.2
  unfold pow200 at h2
  have e : ((2 : Int) ^ 200) = ((2 ^ 200 : Nat) : Int) := by norm_cast
  omega
/-- a list so often, or a product one of whose factors is small -/
@[simp] def gMul (x y : IV) : M IV := fun h => match x, y with
  | .int i, .int j => if (-(2 ^ 64) < i ∧ i < 2 ^ 64) ∨ (-(2 ^ 64) < j ∧ j < 2 ^ 64) then .ok (.int (i * j)) h else .bad
  | .ref n, .int k => match h[n]? with
    | some (.lst a) => if -(2 ^ 63) ≤ k ∧ k < 2 ^ 63 ∧ a.length * k.toNat ≤ big then .ok (.ref h.length) (h ++ [.lst (List.replicate k.toNat a).flatten]) else .bad
    | _ => .bad
  | _, _ => .bad
def rMulU : R2 := fun x y H Q => rI CMul (fun i j => .int (i * j)) x y H Q ∨ rRep x y H Q
theorem op_mulU {X : Cx} : OpR X (binaryOp .Mult) rMulU := opr_or op_mul op_rep
theorem RVs.rep {K : PySem.W.Frag} {ι : List Addr} {H : Hp} {xs : List IV} {vs : List V} (h : RVs K ι H xs vs) : ∀ n : Nat, RVs K ι H (List.replicate n xs).flatten (List.replicate n vs).flatten
  | 0 => by simp only [List.replicate_zero, List.flatten_nil]; exact RVs.nil
  | n + 1 => by
    rw [List.replicate_succ, List.replicate_succ, List.flatten_cons, List.flatten_cons]
    exact h.app (RVs.rep h n)
theorem mean_mul {G : Gx} : Mean2 G rMulU gMul := by
  intro x y v w ι h H Q Wh rx ry r p
  cases x <;> cases y <;> try exact p.elim
  · rename_i i j
    rw [int_iff] at rx ry
    simp only [gMul] at p
    split at p
    · rename_i z
      exact .inl ⟨i, j, rx, ry, z, p ι H _ (Aft.refl r) (int_iff.mpr rfl)⟩
    · exact p.elim
  · rename_i n k
    rw [ref_iff] at rx
    rw [int_iff] at ry
    obtain ⟨pa, ia, rfl⟩ := rx
    simp only [gMul] at p
    split at p
    · rename_i a e1
      split at p
      · rename_i hz
        obtain ⟨va, ea, ra⟩ := r.at e1 ia
        refine .inr ⟨pa, k, va, rfl, ry, ea, hz.1, hz.2.1, by rw [← ra.len]; exact big_le hz.2.2, fun q hq => ?_⟩
        have a0 := Aft.fresh r hq (.lst (List.replicate k.toNat va).flatten)
        have af := Aft.place r hq (.lst (List.replicate k.toNat va).flatten) (.lst (List.replicate k.toNat a).flatten) ⟨_, upd_same, ((ra.mono a0.pre a0.tl).rep _).mono (List.prefix_append _ _) (TL.refl _ _)⟩
        exact p _ _ _ af (ref_iff.mpr ⟨q, ref_len r, rfl⟩)
      · exact p.elim
    · exact p.elim
@[simp] def gPow : IV → IV → M IV := gI (fun i j => decide (0 ≤ j ∧ j ≤ 1000000 ∧ i.natAbs < 2 ^ 64)) fun i j => i ^ j.toNat
theorem mean_pow {G : Gx} : Mean2 G (rI CPow fun i j => .int (i ^ j.toNat)) gPow := mean_I fun i j h => (of_decide_eq_true h : 0 ≤ j ∧ j ≤ 1000000 ∧ i.natAbs < 2 ^ 64)
@[simp] def gNeg (x : IV) : M IV := fun h => match x with
  | .int i => .ok (.int (-i)) h
  | _ => .bad
theorem mean_neg {G : Gx} : Mean1 G (rU fun i => .int (-i)) gNeg := by
  intro x v ι h H Q Wh rx r p
  cases x <;> try exact p.elim
  rw [int_iff] at rx
  exact ⟨_, rx, p ι H _ (Aft.refl r) (int_iff.mpr rfl)⟩
/-! ### == != -/
def eqS : IV → IV → Option Bool
  | .non, .non => some true
  | .int i, .int j => some (decide (i = j))
  | .bl a, .bl b => some (a == b)
  | .str a, .str b => some (decide (a = b))
  | .non, .int _ => some false | .int _, .non => some false | .non, .bl _ => some false | .bl _, .non => some false | .non, .str _ => some false | .str _, .non => some false
  | .int _, .str _ => some false | .str _, .int _ => some false | .bl _, .str _ => some false | .str _, .bl _ => some false
  | _, _ => none
def mapO {α β : Type} (f : α → Option β) : List α → Option (List β)
  | [] => some []
  | x :: xs => match f x, mapO f xs with
    | some y, some ys => some (y :: ys)
    | _, _ => none
/-- a value as data: what lists hold is read -/
def dat : Nat → IH → IV → Option PyData
  | _, _, .non => some .none
  | _, _, .bl b => some (.bool b)
  | _, _, .int i => some (.int i)
  | _, _, .str x => some (.str (sS x))
  | n + 1, h, .tup xs => (mapO (dat n h) xs).map .tuple
  | n + 1, h, .fz xs => (mapO (dat n h) xs).map .list
  | n + 1, h, .ref k => match h[k]? with
    | some (.lst xs) => (mapO (dat n h) xs).map .list
    | _ => none
  | _, _, _ => none
theorem dp_all {K : PySem.W.Frag} {ι : List Addr} {H : Hp} {f : IV → Option PyData} (hf : ∀ x v d, RV K ι H x v → f x = some d → Dp K H v d) : ∀ (xs : List IV) (vs : List V) (ds : List PyData), RVs K ι H xs vs → mapO f xs = some ds → DpAll K H vs ds
  | [], vs, ds, r, e => by
    unfold RVs at r
    unfold mapO at e
    cases e
    subst r
    exact .nil
  | x :: xs, vs, ds, r, e => by
    unfold RVs at r
    obtain ⟨v, w, rfl, rv, rs⟩ := r
    unfold mapO at e
    cases z1 : f x with
    | none => rw [z1] at e; cases e
    | some d =>
      cases z2 : mapO f xs with
      | none => rw [z1, z2] at e; cases e
      | some es =>
        rw [z1, z2] at e
        cases e
        exact .cons (hf _ _ _ rv z1) (dp_all hf xs w es rs z2)
theorem dp_of {G : Gx} {ι : List Addr} {h : IH} {H : Hp} (r : RH G ι h H) : ∀ (n : Nat) (x : IV) (v : V) (d : PyData), RV G.K ι H x v → dat n h x = some d → Dp G.K H v d := by
  intro n
  induction n with
  | zero =>
    intro x v d rx e
    cases x <;> simp only [dat, Option.some.injEq, reduceCtorEq] at e
    · subst e; rw [non_iff] at rx; subst rx; exact .non
    · subst e; rw [bl_iff] at rx; subst rx; exact .bl _
    · subst e; rw [int_iff] at rx; subst rx; exact .int _
    · subst e; rw [str_iff] at rx; subst rx; exact .str _
  | succ n ih =>
    intro x v d rx e
    cases x with
    | non => simp only [dat, Option.some.injEq] at e; subst e; rw [non_iff] at rx; subst rx; exact .non
    | bl b => simp only [dat, Option.some.injEq] at e; subst e; rw [bl_iff] at rx; subst rx; exact .bl _
    | int i => simp only [dat, Option.some.injEq] at e; subst e; rw [int_iff] at rx; subst rx; exact .int _
    | str z => simp only [dat, Option.some.injEq] at e; subst e; rw [str_iff] at rx; subst rx; exact .str _
    | fz xs =>
      simp only [dat] at e
      obtain ⟨ds, e1, e2⟩ := Option.map_eq_some_iff.mp e
      subst e2
      rw [fz_iff] at rx
      obtain ⟨a, vs, rfl, q, rs⟩ := rx
      exact .lst q.sq (dp_all (fun x v d a b => ih x v d a b) xs vs ds rs e1)
    | tup xs =>
      simp only [dat] at e
      obtain ⟨ds, e1, e2⟩ := Option.map_eq_some_iff.mp e
      subst e2
      rw [tup_iff] at rx
      obtain ⟨a, vs, rfl, q, rs⟩ := rx
      exact .tup (SqT.of q) (dp_all (fun x v d a b => ih x v d a b) xs vs ds rs e1)
    | ref k =>
      simp only [dat] at e
      rw [ref_iff] at rx
      obtain ⟨a, ia, rfl⟩ := rx
      split at e
      · rename_i xs hk
        obtain ⟨ds, e1, e2⟩ := Option.map_eq_some_iff.mp e
        subst e2
        obtain ⟨vs, ea, rs⟩ := r.at hk ia
        exact .lst (SqL.of ea) (dp_all (fun x v d a b => ih x v d a b) xs vs ds rs e1)
      · cases e
def gEq (x y : IV) : M IV := fun h => match eqS x y with
  | some b => .ok (.bl b) h
  | none => match dat 9 h x, dat 9 h y with
    | some d, some e => if SeqAt.shaped d && SeqAt.shaped e then .ok (.bl (PyData.eqv d e)) h else .bad
    | _, _ => .bad
def gNe (x y : IV) : M IV := fun h => match eqS x y with
  | some b => .ok (.bl (!b)) h
  | none => match dat 9 h x, dat 9 h y with
    | some d, some e => if SeqAt.shaped d && SeqAt.shaped e then .ok (.bl (!PyData.eqv d e)) h else .bad
    | _, _ => .bad
def rEqU (K : PySem.W.Frag) : R2 := fun x y H Q => rEq x y H Q ∨ rEqD K x y H Q
def rNeU (K : PySem.W.Frag) : R2 := fun x y H Q => rNe x y H Q ∨ rNeD K x y H Q
theorem op_eqU {X : Cx} (hu : X.A.units + 64 < cLine) : OpR X (compareOp .Eq) (rEqU X.K) := opr_or op_eq (op_eqD hu)
theorem op_neU {X : Cx} (hu : X.A.units + 64 < cLine) : OpR X (compareOp .NotEq) (rNeU X.K) := opr_or op_ne (op_neD hu)
theorem eqS_ok {K : PySem.W.Frag} {ι : List Addr} {H : Hp} {x y : IV} {v w : V} {b : Bool} (rx : RV K ι H x v) (ry : RV K ι H y w) (e : eqS x y = some b) : scal v w = true ∧ decide (v = w) = b := by
  cases x <;> cases y <;> simp only [eqS, Option.some.injEq, reduceCtorEq] at e <;> simp only [non_iff, bl_iff, int_iff, str_iff] at rx ry <;> subst rx ry <;> refine ⟨rfl, ?_⟩ <;> rw [← e]
  all_goals first
    | exact decide_eq_true rfl
    | exact decide_eq_false (fun z => by cases z)
    | skip
  · rename_i a b
    cases a <;> cases b <;> decide
  · rename_i i j
    by_cases z : i = j
    · subst z; simp
    · rw [decide_eq_false z, decide_eq_false (fun q => z (V.int.inj q))]
  · rename_i i j
    by_cases z : i = j
    · subst z; simp
    · rw [decide_eq_false z, decide_eq_false (fun q => z (sS_inj (V.str.inj q)))]
theorem mean_eq {G : Gx} : Mean2 G (rEqU G.K) gEq := by
  intro x y v w ι h H Q Wh rx ry r p
  simp only [gEq] at p
  split at p
  · rename_i b e
    obtain ⟨z1, z2⟩ := eqS_ok rx ry e
    exact .inl ⟨z1, by rw [z2]; exact p ι H _ (Aft.refl r) (bl_iff.mpr rfl)⟩
  · split at p
    · rename_i d e h1 h2
      split at p
      · rename_i hz
        obtain ⟨s1, s2⟩ := Bool.and_eq_true_iff.mp hz
        exact .inr ⟨d, e, dp_of r _ _ _ _ rx h1, dp_of r _ _ _ _ ry h2, s1, s2, p ι H _ (Aft.refl r) (bl_iff.mpr rfl)⟩
      · exact p.elim
    · exact p.elim
theorem mean_ne {G : Gx} : Mean2 G (rNeU G.K) gNe := by
  intro x y v w ι h H Q Wh rx ry r p
  simp only [gNe] at p
  split at p
  · rename_i b e
    obtain ⟨z1, z2⟩ := eqS_ok rx ry e
    exact .inl ⟨z1, by rw [z2]; exact p ι H _ (Aft.refl r) (bl_iff.mpr rfl)⟩
  · split at p
    · rename_i d e h1 h2
      split at p
      · rename_i hz
        obtain ⟨s1, s2⟩ := Bool.and_eq_true_iff.mp hz
        exact .inr ⟨d, e, dp_of r _ _ _ _ rx h1, dp_of r _ _ _ _ ry h2, s1, s2, p ι H _ (Aft.refl r) (bl_iff.mpr rfl)⟩
      · exact p.elim
    · exact p.elim
/-! ### < <= > >= of numbers; is None -/
@[simp] def gB (f : Int → Int → Bool) (x y : IV) : M IV := fun h => match x, y with
  | .int i, .int j => .ok (.bl (f i j)) h
  | _, _ => .bad
theorem mean_B {G : Gx} {f : Int → Int → Bool} : Mean2 G (rI0 fun i j => .bl (f i j)) (gB f) := by
  intro x y v w ι h H Q Wh rx ry r p
  cases x <;> cases y <;> try exact p.elim
  rename_i i j
  rw [int_iff] at rx ry
  exact ⟨i, j, rx, ry, p ι H _ (Aft.refl r) (bl_iff.mpr rfl)⟩
@[simp] def gLt : IV → IV → M IV := gB fun i j => decide (i < j)
@[simp] def gLe : IV → IV → M IV := gB fun i j => decide (i ≤ j)
@[simp] def gGt : IV → IV → M IV := gB fun i j => decide (j < i)
@[simp] def gGe : IV → IV → M IV := gB fun i j => decide (j ≤ i)
@[simp] def isN : IV → Bool
  | .non => true
  | _ => false
@[simp] def gIs (x y : IV) : M IV := fun h => match y with
  | .non => .ok (.bl (isN x)) h
  | _ => .bad
@[simp] def gIsNot (x y : IV) : M IV := fun h => match y with
  | .non => .ok (.bl (!isN x)) h
  | _ => .bad
theorem isN_ok {K : PySem.W.Frag} {ι : List Addr} {H : Hp} {x : IV} {v : V} (rx : RV K ι H x v) : decide (v = .non) = isN x := by
  cases x <;> simp only [isN]
  · rw [non_iff] at rx; subst rx; rfl
  · rw [bl_iff] at rx; subst rx; rfl
  · rw [int_iff] at rx; subst rx; rfl
  · rw [str_iff] at rx; subst rx; rfl
  · rw [tup_iff] at rx; obtain ⟨a, vs, rfl, _⟩ := rx; rfl
  · rw [fz_iff] at rx; obtain ⟨a, vs, rfl, _⟩ := rx; rfl
  · rw [ref_iff] at rx; obtain ⟨a, _, rfl⟩ := rx; rfl
theorem mean_is {G : Gx} : Mean2 G (fun x y H Q => y = .non ∧ Q (.bl (decide (x = .non))) H) gIs := by
  intro x y v w ι h H Q Wh rx ry r p
  cases y <;> try exact p.elim
  rw [non_iff] at ry
  exact ⟨ry, by rw [isN_ok rx]; exact p ι H _ (Aft.refl r) (bl_iff.mpr rfl)⟩
theorem mean_isNot {G : Gx} : Mean2 G (fun x y H Q => y = .non ∧ Q (.bl (!decide (x = .non))) H) gIsNot := by
  intro x y v w ι h H Q Wh rx ry r p
  cases y <;> try exact p.elim
  rw [non_iff] at ry
  exact ⟨ry, by rw [isN_ok rx]; exact p ι H _ (Aft.refl r) (bl_iff.mpr rfl)⟩
end Sh

/-! Sh4: truth, displays, indices, cuts, calls. -/
namespace Sh
open PySem PySem.Spec PyProof.Rows L2

section
variable {G : Gx} {X : Cx} {W : WX} {a b c e : Expr} {fa fb fc : ME} {pos : Pos} {es rest : List Expr} {fs : IE → M (List IV)}

/-! ### and, or, not, if -/
def mAnd (fa fb : ME) : ME := fun e h => (fa e h).bind fun x h1 => match x with
  | .bl true => fb e h1
  | .bl false => .ok (.bl false) h1
  | _ => .bad
def mOr (fa fb : ME) : ME := fun e h => (fa e h).bind fun x h1 => match x with
  | .bl true => .ok (.bl true) h1
  | .bl false => fb e h1
  | _ => .bad
def mNot (fa : ME) : ME := fun e h => (fa e h).bind fun x h1 => match x with
  | .bl k => .ok (.bl (!k)) h1
  | _ => .bad
def mIf (ft fa fb : ME) : ME := fun e h => (ft e h).bind fun x h1 => match x with
  | .bl true => fa e h1
  | .bl false => fb e h1
  | _ => .bad
theorem se_one {op} (ha : SE G X W a fa) : SE G X W (.BoolOp op [a] pos) fa := pe_one ha
theorem se_and (ha : SE G X W a fa) (hb : SE G X W (.BoolOp .And (b :: rest) pos) fb) : SE G X W (.BoolOp .And (a :: b :: rest) pos) (mAnd fa fb) := by
  refine pe_weak (pe_and ha hb) fun σ H Q hq => ?_
  obtain ⟨ι, e, h, en, rh, q⟩ := hq
  refine TI.bind (Wh := fun c d H' => W c d σ H') en rh q fun x v ι1 h1 H1 a1 en1 r1 q1 => ?_
  cases x <;> try exact q1.elim
  rename_i k
  rw [bl_iff] at r1
  refine ⟨k, r1, ?_⟩
  cases k with
  | true => exact iteT ⟨ι1, e, h1, en1, a1.rh, q1⟩
  | false => exact iteF (q1 ι1 H1 _ (Aft.refl a1.rh) (bl_iff.mpr rfl))
theorem se_or (ha : SE G X W a fa) (hb : SE G X W (.BoolOp .Or (b :: rest) pos) fb) : SE G X W (.BoolOp .Or (a :: b :: rest) pos) (mOr fa fb) := by
  refine pe_weak (pe_or ha hb) fun σ H Q hq => ?_
  obtain ⟨ι, e, h, en, rh, q⟩ := hq
  refine TI.bind (Wh := fun c d H' => W c d σ H') en rh q fun x v ι1 h1 H1 a1 en1 r1 q1 => ?_
  cases x <;> try exact q1.elim
  rename_i k
  rw [bl_iff] at r1
  refine ⟨k, r1, ?_⟩
  cases k with
  | true => exact iteT (q1 ι1 H1 _ (Aft.refl a1.rh) (bl_iff.mpr rfl))
  | false => exact iteF ⟨ι1, e, h1, en1, a1.rh, q1⟩
theorem se_not (ha : SE G X W a fa) : SE G X W (.UnaryOp .Not a pos) (mNot fa) := by
  refine pe_weak (pe_not ha) fun σ H Q hq => ?_
  obtain ⟨ι, e, h, en, rh, q⟩ := hq
  refine TI.bind (Wh := fun c d H' => W c d σ H') en rh q fun x v ι1 h1 H1 a1 en1 r1 q1 => ?_
  cases x <;> try exact q1.elim
  rename_i k
  rw [bl_iff] at r1
  exact ⟨k, r1, q1 ι1 H1 _ (Aft.refl a1.rh) (bl_iff.mpr rfl)⟩
/-- a test, by what it is as a value -/
def TB (G : Gx) (W : WX) (f : ME) : TT := fun σ H Q => ∃ ι e h, REn G.K ι H e σ ∧ RH G ι h H ∧ match f e h with
  | .ok (.bl b) h' => ∀ ι' H', Aft G ι H ι' h' H' → Q b H'
  | .exc c h' => ∀ ι' H', Aft G ι H ι' h' H' → W (.ref (He.ga G.K (Str.ofString c))) none σ H'
  | _ => False
def SC (G : Gx) (X : Cx) (W : WX) (e : Expr) (f : ME) : Prop := PT X e (TB G W f)
theorem TB.to {σ : L2.St} {H : Hp} {Q : Bool → Hp → Prop} {f : ME} (h : TB G W f σ H Q) : TI G W f σ H (fun x H' => ∃ d, x = .bl d ∧ Q d H') := by
  obtain ⟨ι, e, h, en, rh, q⟩ := h
  refine ⟨ι, e, h, en, rh, ?_⟩
  cases z : f e h with
  | ok x h' =>
    rw [z] at q
    cases x <;> try exact q.elim
    rename_i k
    exact fun ι' H' v a r => ⟨k, bl_iff.mp r, q ι' H' a⟩
  | exc c h' => rw [z] at q; exact q
  | bad => rw [z] at q; exact q
theorem sc_val (p : SE G X W e fa) (he : ∀ whole, isTrue e X.env whole = (do let v ← whole; standAt e.pos; holding [v] (truthy v)) := by intro _; rfl) : SC G X W e fa := pt_weak (pt_val p he) fun σ H Q h => h.to
theorem sc_cmp {op : CmpOp} {r : R2} {g : IV → IV → M IV} (ho : OpR X (compareOp op) r) (hm : Mean2 G r g) (ha : SE G X W a fa) (hb : SE G X W b fb) (hk : behindInMarks op b = false) : SC G X W (.Compare a [op] [b] pos) (m2 g fa fb) :=
  pt_weak (pt_cmpR ho ha hb hk) fun σ H Q h => tOp_mean hm σ H _ h.to
/-- not, as a test -/
theorem sc_not (p : SC G X W a fa) : SC G X W (.UnaryOp .Not a pos) (mNot fa) := by
  refine pt_weak (pt_not p) fun σ H Q h => ?_
  obtain ⟨ι, e, h, en, rh, q⟩ := h
  refine ⟨ι, e, h, en, rh, ?_⟩
  simp only [mNot] at q
  cases z : fa e h with
  | ok x h' =>
    rw [z] at q
    cases x <;> try exact q.elim
    exact q
  | exc c h' => rw [z] at q; exact q
  | bad => rw [z] at q; exact q
theorem TB.andL {σ : L2.St} {H : Hp} {Q : Bool → Hp → Prop} (h : TB G W (mAnd fa fb) σ H Q) : tAnd (TB G W fa) (TB G W fb) σ H Q := by
  obtain ⟨ι, e, h, en, rh, q⟩ := h
  refine ⟨ι, e, h, en, rh, ?_⟩
  simp only [mAnd] at q
  cases z : fa e h with
  | ok x h' =>
    rw [z] at q
    cases x <;> try exact q.elim
    rename_i k
    cases k with
    | true =>
      refine fun ι' H' a => iteT ⟨ι', e, h', en.mono a.pre a.tl, a.rh, ?_⟩
      simp only [Res.bind] at q
      cases y : fb e h' with
      | ok u h2 =>
        rw [y] at q
        cases u <;> try exact q.elim
        exact fun ι2 H2 b => q ι2 H2 (a.trans b)
      | exc c h2 => rw [y] at q; exact fun ι2 H2 b => q ι2 H2 (a.trans b)
      | bad => rw [y] at q; exact q
    | false => exact fun ι' H' a => iteF (q ι' H' a)
  | exc c h' => rw [z] at q; exact q
  | bad => rw [z] at q; exact q
theorem TB.orL {σ : L2.St} {H : Hp} {Q : Bool → Hp → Prop} (h : TB G W (mOr fa fb) σ H Q) : tOr (TB G W fa) (TB G W fb) σ H Q := by
  obtain ⟨ι, e, h, en, rh, q⟩ := h
  refine ⟨ι, e, h, en, rh, ?_⟩
  simp only [mOr] at q
  cases z : fa e h with
  | ok x h' =>
    rw [z] at q
    cases x <;> try exact q.elim
    rename_i k
    cases k with
    | false =>
      refine fun ι' H' a => iteF ⟨ι', e, h', en.mono a.pre a.tl, a.rh, ?_⟩
      simp only [Res.bind] at q
      cases y : fb e h' with
      | ok u h2 =>
        rw [y] at q
        cases u <;> try exact q.elim
        exact fun ι2 H2 b => q ι2 H2 (a.trans b)
      | exc c h2 => rw [y] at q; exact fun ι2 H2 b => q ι2 H2 (a.trans b)
      | bad => rw [y] at q; exact q
    | true => exact fun ι' H' a => iteT (q ι' H' a)
  | exc c h' => rw [z] at q; exact q
  | bad => rw [z] at q; exact q
/-- a chain of and, of or, as a test -/
def SW (G : Gx) (X : Cx) (W : WX) (e : Expr) (f : ME) : Prop := PW X e (TB G W f)
theorem pw_weak {e : Expr} {t u : TT} (p : PW X e t) (h : ∀ σ H Q, u σ H Q → t σ H Q) : PW X e u := ⟨fun w pins s σ H Q I q => p.run w pins s σ H Q I (h σ H Q q)⟩
theorem sw_and1 (ha : SC G X W a fa) : SW G X W (.BoolOp .And [a] pos) fa := pw_and1 ha
theorem sw_or1 (ha : SC G X W a fa) : SW G X W (.BoolOp .Or [a] pos) fa := pw_or1 ha
theorem sw_and (ha : SC G X W a fa) (hb : SW G X W (.BoolOp .And (b :: rest) pos) fb) : SW G X W (.BoolOp .And (a :: b :: rest) pos) (mAnd fa fb) := pw_weak (pw_and ha hb) fun _ _ _ h => h.andL
theorem sw_or (ha : SC G X W a fa) (hb : SW G X W (.BoolOp .Or (b :: rest) pos) fb) : SW G X W (.BoolOp .Or (a :: b :: rest) pos) (mOr fa fb) := pw_weak (pw_or ha hb) fun _ _ _ h => h.orL
theorem sc_w (p : SW G X W a fa) : SC G X W a fa := L2.PW.pt p
theorem se_if {ft : ME} (hc : SC G X W c ft) (ha : SE G X W a fa) (hb : SE G X W b fb) : SE G X W (.IfExp c a b pos) (mIf ft fa fb) := by
  refine pe_weak (pe_ifExp hc ha hb) fun σ H Q hq => ?_
  obtain ⟨ι, e, h, en, rh, q⟩ := hq
  refine ⟨ι, e, h, en, rh, ?_⟩
  simp only [mIf] at q
  cases z : ft e h with
  | ok x h' =>
    rw [z] at q
    cases x <;> try exact q.elim
    rename_i k
    cases k with
    | true => exact fun ι' H' a => iteT ⟨ι', e, h', en.mono a.pre a.tl, a.rh, PR.after a q⟩
    | false => exact fun ι' H' a => iteF ⟨ι', e, h', en.mono a.pre a.tl, a.rh, PR.after a q⟩
  | exc c h' => rw [z] at q; exact q
  | bad => rw [z] at q; exact q
/-- a < b < c -/
def mChain (g g' : IV → IV → M IV) (fa fb fc : ME) : ME := fun e h => (fa e h).bind fun x h1 => (fb e h1).bind fun y h2 => (g x y h2).bind fun k h3 => match k with
  | .bl true => (fc e h3).bind fun z h4 => g' y z h4
  | .bl false => .ok (.bl false) h3
  | _ => .bad
/-- a mean-lemma for a step in the middle -/
theorem Mean2.mid {r : R2} {g : IV → IV → M IV} (hm : Mean2 G r g) {x y : IV} {v w : V} {ι : List Addr} {h : IH} {H : Hp} {Q R : VK} {Wh : Value → Option Addr → Hp → Prop} {k : IV → M IV} (rx : RV G.K ι H x v) (ry : RV G.K ι H y w) (r0 : RH G ι h H)
    (p : PR G Wh ι H Q (Res.bind (g x y h) k)) (hg : ∀ c h', g x y h ≠ .exc c h') (hk : ∀ z u ι1 h1 H1, Aft G ι H ι1 h1 H1 → RV G.K ι1 H1 z u → PR G Wh ι1 H1 Q (k z h1) → R u H1) : r v w H R := by
  refine hm x y v w ι h H R Wh rx ry r0 ?_
  cases q : g x y h with
  | ok z h1 =>
    rw [q] at p
    exact fun ι1 H1 u a ru => hk z u ι1 h1 H1 a ru (PR.after a p)
  | exc c h1 => exact absurd q (hg c h1)
  | bad => rw [q] at p; exact p
theorem tChain_mean {r r' : R2} {g g' : IV → IV → M IV} (hm : Mean2 G r g) (hm' : Mean2 G r' g') (hg : ∀ x y h c h', g x y h ≠ .exc c h') : ∀ σ H Q, TI G W (mChain g g' fa fb fc) σ H Q → tChain r r' (TI G W fa) (TI G W fb) (TI G W fc) σ H Q := by
  intro σ H Q hq
  obtain ⟨ι, e, h, en, rh, q⟩ := hq
  refine TI.bind (Wh := fun c d H' => W c d σ H') en rh q fun x v ι1 h1 H1 a1 en1 r1 q1 => ?_
  refine TI.bind (Wh := fun c d H' => W c d σ H') en1 a1.rh q1 fun y w ι2 h2 H2 a2 en2 r2 q2 => ?_
  refine hm.mid (r1.mono a2.pre a2.tl) r2 a2.rh q2 (hg _ _ _) fun z u ι3 h3 H3 a3 r3 q3 => ?_
  cases z <;> try exact q3.elim
  rename_i k
  rw [bl_iff] at r3
  refine ⟨k, r3, ?_⟩
  cases k with
  | true =>
    refine iteT (TI.bind (Wh := fun c d H' => W c d σ H') (en2.mono a3.pre a3.tl) a3.rh q3 fun z u ι4 h4 H4 a4 en4 r4 q4 => ?_)
    exact hm' y z w u ι4 h4 H4 Q _ (r2.mono (a3.pre.trans a4.pre) (a3.tl.trans a4.tl)) r4 a4.rh q4
  | false => exact iteF (q3 ι3 H3 _ (Aft.refl a3.rh) (bl_iff.mpr rfl))
theorem se_chain {op op' : CmpOp} {r r' : R2} {g g' : IV → IV → M IV} (ho : OpR X (compareOp op) r) (hm : Mean2 G r g) (ho' : OpR X (compareOp op') r') (hm' : Mean2 G r' g') (hg : ∀ x y h c h', g x y h ≠ .exc c h')
    (ha : SE G X W a fa) (hb : SE G X W b fb) (hc : SE G X W c fc) (hk : lastMarks [op, op'] [b, c] = false := by with_unfolding_all rfl) : SE G X W (.Compare a [op, op'] [b, c] pos) (mChain g g' fa fb fc) :=
  pe_weak (pe_chain ho ho' ha hb hc hk) (tChain_mean hm hm' hg)
theorem sc_chain {op op' : CmpOp} {r r' : R2} {g g' : IV → IV → M IV} (ho : OpR X (compareOp op) r) (hm : Mean2 G r g) (ho' : OpR X (compareOp op') r') (hm' : Mean2 G r' g') (hg : ∀ x y h c h', g x y h ≠ .exc c h')
    (ha : SE G X W a fa) (hb : SE G X W b fb) (hc : SE G X W c fc) (hk : lastMarks [op, op'] [b, c] = false := by with_unfolding_all rfl) : SC G X W (.Compare a [op, op'] [b, c] pos) (mChain g g' fa fb fc) :=
  pt_weak (pt_chain ho ho' ha hb hc hk) fun σ H Q h => tChain_mean hm hm' hg σ H _ h.to
theorem gB_ne {f : Int → Int → Bool} : ∀ x y h c h', gB f x y h ≠ .exc c h' := by
  intro x y h c h' z
  cases x <;> cases y <;> simp only [gB, reduceCtorEq] at z

/-! ### several values; tuples, lists -/
@[simp] def mNil : IE → M (List IV) := fun _ h => .ok [] h
@[simp] def mCons (f : ME) (fs : IE → M (List IV)) : IE → M (List IV) := fun e h => (f e h).bind fun x h1 => (fs e h1).bind fun xs h2 => .ok (x :: xs) h2
theorem sa_nil : SA G X W [] mNil := pa_weak pa_nil fun σ H Q hq => by
  obtain ⟨ι, e, h, en, rh, q⟩ := hq
  exact q ι H [] (Aft.refl rh) RVs.nil
theorem PRs.after {Wh : Value → Option Addr → Hp → Prop} {ι ι1 : List Addr} {H H1 : Hp} {Q : List V → Hp → Prop} {h1 : IH} {r : Res (List IV)} (a : Aft G ι H ι1 h1 H1) (p : PRs G Wh ι H Q r) : PRs G Wh ι1 H1 Q r := by
  cases r with
  | ok x h' => exact fun ι' H' v b r => p ι' H' v (a.trans b) r
  | exc c h' => exact fun ι' H' b => p ι' H' (a.trans b)
  | bad => exact p
theorem sa_cons (ha : SE G X W a fa) (hr : SA G X W es fs) (hs : starEach (a :: es) X.env = (false, eval a X.env) :: starEach es X.env := by rfl) : SA G X W (a :: es) (mCons fa fs) := by
  refine pa_weak (pa_cons ha hr hs) fun σ H Q hq => ?_
  obtain ⟨ι, e, h, en, rh, q⟩ := hq
  refine ⟨ι, e, h, en, rh, ?_⟩
  simp only [mCons] at q
  cases z : fa e h with
  | exc c h' => rw [z] at q; exact q
  | bad => rw [z] at q; exact q
  | ok x h1 =>
    rw [z] at q
    refine fun ι1 H1 v a1 r1 => ⟨ι1, e, h1, en.mono a1.pre a1.tl, a1.rh, ?_⟩
    simp only [Res.bind] at q
    cases y : fs e h1 with
    | exc c h' => rw [y] at q; exact fun ι2 H2 b => q ι2 H2 (a1.trans b)
    | bad => rw [y] at q; exact q
    | ok xs h2 =>
      rw [y] at q
      exact fun ι2 H2 vs a2 r2 => q ι2 H2 _ (a1.trans a2) (RVs.cons (r1.mono a2.pre a2.tl) r2)
/-- from several values to one: r, the reading behind them -/
theorem TIs.bind {σ : L2.St} {H : Hp} {R : List V → Hp → Prop} {ι : List Addr} {e : IE} {h : IH} {k : List IV → M IV} {Q : VK} (en : REn G.K ι H e σ) (rh : RH G ι h H)
    (p : PR G (fun c d H' => W c d σ H') ι H Q (Res.bind (fs e h) k))
    (hk : ∀ xs vs ι1 h1 H1, Aft G ι H ι1 h1 H1 → REn G.K ι1 H1 e σ → RVs G.K ι1 H1 xs vs → PR G (fun c d H' => W c d σ H') ι1 H1 Q (k xs h1) → R vs H1) : TIs G W fs σ H R := by
  refine ⟨ι, e, h, en, rh, ?_⟩
  cases q : fs e h with
  | ok x h1 =>
    rw [q] at p
    exact fun ι1 H1 v a r => hk x v ι1 h1 H1 a (en.mono a.pre a.tl) r (PR.after a p)
  | exc c h1 => rw [q] at p; exact p
  | bad => rw [q] at p; exact p
@[simp] def mTup (fs : IE → M (List IV)) : ME := fun e h => (fs e h).bind fun xs h1 => if xs.length ≤ big then .ok (.tup xs) h1 else .bad
@[simp] def mLst (fs : IE → M (List IV)) : ME := fun e h => (fs e h).bind fun xs h1 => if xs.length ≤ big then .ok (.ref h1.length) (h1 ++ [.lst xs]) else .bad
theorem se_tup {x1} (p : SA G X W es fs) : SE G X W (.Tuple es x1 pos) (mTup fs) := by
  refine pe_weak (pe_tup p) fun σ H Q hq => ?_
  obtain ⟨ι, e, h, en, rh, q⟩ := hq
  refine TIs.bind en rh q fun xs vs ι1 h1 H1 a1 en1 r1 q1 => ?_
  split at q1
  · rename_i hz
    refine ⟨by rw [← r1.len]; exact big_le hz, fun p hp => ?_⟩
    have af := Aft.fresh a1.rh hp (.tup vs)
    exact q1 _ _ _ af (tup_iff.mpr ⟨p, vs, rfl, upd_same, r1.mono af.pre af.tl⟩)
  · exact q1.elim
theorem new_lst {ι : List Addr} {h : IH} {H : Hp} {p : Addr} {xs : List IV} {vs : List V} (r : RH G ι h H) (hp : H p = none) (rs : RVs G.K ι H xs vs) : Aft G ι H (ι ++ [p]) (h ++ [.lst xs]) (upd H p (.lst vs)) :=
  have a0 := Aft.fresh r hp (.lst vs)
  Aft.place r hp (.lst vs) (.lst xs) ⟨_, upd_same, (rs.mono a0.pre a0.tl).mono (List.prefix_append _ _) (TL.refl _ _)⟩
theorem se_lst (p : SA G X W es fs) : SE G X W (.List es pos) (mLst fs) := by
  refine pe_weak (pe_lst p) fun σ H Q hq => ?_
  obtain ⟨ι, e, h, en, rh, q⟩ := hq
  refine TIs.bind en rh q fun xs vs ι1 h1 H1 a1 en1 r1 q1 => ?_
  split at q1
  · rename_i hz
    refine ⟨by rw [← r1.len]; exact big_le hz, fun p hp => ?_⟩
    exact q1 _ _ _ (new_lst a1.rh hp r1) (ref_iff.mpr ⟨p, ref_len a1.rh, rfl⟩)
  · exact q1.elim
end
end Sh

/-! Sh5: items, cuts, in, built-in calls, fields, own calls. -/
namespace Sh
open PySem PySem.Spec PyProof.Rows L2

section
variable {G : Gx} {X : Cx} {W : WX} {a b c e o : Expr} {fa fb fc : ME} {p pos pos' apos : Pos} {es rest : List Expr} {fs : IE → M (List IV)}

/-! ### items -/
@[simp] def gIx (x i : IV) : M IV := fun h => match x, i with
  | .tup xs, .int k => match atI xs k with
    | some v => .ok v h
    | none => .bad
  | .str xs, .int k => if xs.length ≤ big then (match atI xs k with
    | some v => .ok (.str [v]) h
    | none => .bad) else .bad
  | .fz xs, .int k => match atI xs k with
    | some v => .ok v h
    | none => .bad
  | .ref n, .int k => match h[n]? with
    | some (.lst xs) => match atI xs k with
      | some v => .ok v h
      | none => .bad
    | _ => .bad
  | _, _ => .bad
theorem RVs.at {K : PySem.W.Frag} {ι : List Addr} {H : Hp} {xs : List IV} {vs : List V} (r : RVs K ι H xs vs) {k : Int} {x : IV} (e : atI xs k = some x) : ∃ v, atI vs k = some v ∧ RV K ι H x v := by
  unfold atI at e ⊢
  rw [← r.len]
  cases z : ixN xs.length k with
  | none => rw [z] at e; cases e
  | some j =>
    rw [z] at e
    exact r.get e
theorem mean_ix : Mean2 G (rIx G.K) gIx := by
  intro x y v w ι h H Q Wh rx ry r p
  cases x <;> cases y <;> try exact p.elim
  · rename_i xs k
    rw [str_iff] at rx
    rw [int_iff] at ry
    simp only [gIx] at p
    split at p
    · rename_i hz
      split at p
      · rename_i c z
        refine .inr (.inr ⟨sS xs, k, c, rx, ry, by rw [sS_len]; exact big_le hz, by rw [sS_cps]; exact z, p ι H _ (Aft.refl r) (str_iff.mpr rfl)⟩)
      · exact p.elim
    · exact p.elim
  · rename_i xs k
    rw [tup_iff] at rx
    rw [int_iff] at ry
    obtain ⟨q, vs, rfl, hq, rs⟩ := rx
    simp only [gIx] at p
    split at p
    · rename_i x z
      obtain ⟨v, e1, r1⟩ := rs.at z
      exact .inr (.inl ⟨q, vs, k, v, rfl, ry, (SqT.of hq), e1, p ι H _ (Aft.refl r) r1⟩)
    · exact p.elim
  · rename_i xs k
    rw [fz_iff] at rx
    rw [int_iff] at ry
    obtain ⟨q, vs, rfl, hq, rs⟩ := rx
    simp only [gIx] at p
    split at p
    · rename_i x z
      obtain ⟨v, e1, r1⟩ := rs.at z
      exact .inl ⟨q, vs, k, v, rfl, ry, hq.sq, e1, p ι H _ (Aft.refl r) r1⟩
    · exact p.elim
  · rename_i n k
    rw [ref_iff] at rx
    rw [int_iff] at ry
    obtain ⟨q, iq, rfl⟩ := rx
    simp only [gIx] at p
    split at p
    · rename_i xs z0
      split at p
      · rename_i x z
        obtain ⟨vs, hq, rs⟩ := r.at z0 iq
        obtain ⟨v, e1, r1⟩ := rs.at z
        exact .inl ⟨q, vs, k, v, rfl, ry, SqL.of hq, e1, p ι H _ (Aft.refl r) r1⟩
      · exact p.elim
    · exact p.elim
theorem se_ix (hK : X.K = G.K) (ha : SE G X W a fa) (hb : SE G X W b fb) (hs : PlainIx b := by exact fun _ _ => rfl) : SE G X W (.Subscript a b pos) (m2 gIx fa fb) := pe_weak (pe_ix (hK ▸ ix_seq) ha hb hs) (tOp_mean mean_ix)

/-! ### cuts -/
def cutI {α : Type} (xs : List α) (lo hi : Option Int) : List α := (xs.drop (HT.sIx xs.length 0 lo)).take (HT.sIx xs.length xs.length hi - HT.sIx xs.length 0 lo)
theorem RVs.drop {K : PySem.W.Frag} {ι : List Addr} {H : Hp} : ∀ {xs : List IV} {vs : List V} (n : Nat), RVs K ι H xs vs → RVs K ι H (xs.drop n) (vs.drop n)
  | _, _, 0, r => r
  | [], _, _ + 1, r => by unfold RVs at r; subst r; exact RVs.nil
  | _ :: _, _, n + 1, r => by
    unfold RVs at r
    obtain ⟨v, w, rfl, _, rs⟩ := r
    exact RVs.drop n rs
theorem RVs.take {K : PySem.W.Frag} {ι : List Addr} {H : Hp} : ∀ {xs : List IV} {vs : List V} (n : Nat), RVs K ι H xs vs → RVs K ι H (xs.take n) (vs.take n)
  | _, _, 0, r => RVs.nil
  | [], _, _ + 1, r => by unfold RVs at r; subst r; exact RVs.nil
  | _ :: _, _, n + 1, r => by
    unfold RVs at r
    obtain ⟨v, w, rfl, rv, rs⟩ := r
    exact RVs.cons rv (RVs.take n rs)
theorem RVs.cut {K : PySem.W.Frag} {ι : List Addr} {H : Hp} {xs : List IV} {vs : List V} (r : RVs K ι H xs vs) (lo hi : Option Int) : RVs K ι H (cutI xs lo hi) (cutV vs lo hi) := by
  unfold cutI cutV
  rw [← r.len]
  exact (r.drop _).take _
@[simp] def gSl (x : IV) (lo hi : Option Int) : M IV := fun h => match x with
  | .str xs => if xs.length ≤ big then .ok (.str (cutI xs lo hi)) h else .bad
  | .tup xs => .ok (.tup (cutI xs lo hi)) h
  | .fz xs => .ok (.ref h.length) (h ++ [.lst (cutI xs lo hi)])
  | .ref n => match h[n]? with
    | some (.lst xs) => .ok (.ref h.length) (h ++ [.lst (cutI xs lo hi)])
    | _ => .bad
  | _ => .bad
/-- a bound of a cut -/
@[simp] def mPart (f : ME) : IE → M (Option Int) := fun e h => (f e h).bind fun x h1 => match x with
  | .int i => .ok (some i) h1
  | _ => .bad
@[simp] def mNoPart : IE → M (Option Int) := fun _ h => .ok none h
def TO' (G : Gx) (W : WX) (f : IE → M (Option Int)) : TO := fun σ H Q => ∃ ι e h, REn G.K ι H e σ ∧ RH G ι h H ∧ match f e h with
  | .ok o h' => ∀ ι' H', Aft G ι H ι' h' H' → Q o H'
  | .exc c h' => ∀ ι' H', Aft G ι H ι' h' H' → W (.ref (He.ga G.K (Str.ofString c))) none σ H'
  | .bad => False
def SO (G : Gx) (X : Cx) (W : WX) (e : Option Expr) (f : IE → M (Option Int)) : Prop := PO X e (TO' G W f)
theorem po_weak {e : Option Expr} {t u : TO} (p : PO X e t) (h : ∀ σ H Q, u σ H Q → t σ H Q) : PO X e u := ⟨fun pins s σ H Q I q => p.run pins s σ H Q I (h σ H Q q)⟩
theorem so_none : SO G X W none mNoPart := po_weak po_none fun σ H Q ⟨ι, e, h, en, rh, q⟩ => q ι H (Aft.refl rh)
theorem so_some (ha : SE G X W a fa) : SO G X W (some a) (mPart fa) := po_weak (po_some ha) fun σ H Q ⟨ι, e, h, en, rh, q⟩ => by
  refine ⟨ι, e, h, en, rh, ?_⟩
  simp only [mPart] at q
  cases z : fa e h with
  | ok x h' =>
    rw [z] at q
    cases x <;> try exact q.elim
    exact fun ι' H' v a r => ⟨_, int_iff.mp r, q ι' H' a⟩
  | exc c h' => rw [z] at q; exact q
  | bad => rw [z] at q; exact q
@[simp] def mSl (fa : ME) (fl fh : IE → M (Option Int)) : ME := fun e h => (fa e h).bind fun x h1 => (fl e h1).bind fun l h2 => (fh e h2).bind fun u h3 => gSl x l u h3
theorem TO'.bind {α : Type} {f : IE → M (Option Int)} {σ : L2.St} {H : Hp} {R : Option Int → Hp → Prop} {ι : List Addr} {e : IE} {h : IH} {k : Option Int → M IV} {Q : VK} (en : REn G.K ι H e σ) (rh : RH G ι h H)
    (p : PR G (fun c d H' => W c d σ H') ι H Q (Res.bind (f e h) k))
    (hk : ∀ o ι1 h1 H1, Aft G ι H ι1 h1 H1 → REn G.K ι1 H1 e σ → PR G (fun c d H' => W c d σ H') ι1 H1 Q (k o h1) → R o H1) : TO' G W f σ H R := by
  refine ⟨ι, e, h, en, rh, ?_⟩
  cases q : f e h with
  | ok x h1 =>
    rw [q] at p
    exact fun ι1 H1 a => hk x ι1 h1 H1 a (en.mono a.pre a.tl) (PR.after a p)
  | exc c h1 => rw [q] at p; exact p
  | bad => rw [q] at p; exact p
def rSlU (K : PySem.W.Frag) : V → Option Int → Option Int → Hp → VK → Prop := fun x lo hi H Q => rSlL K x lo hi H Q ∨ rSlA K x lo hi H Q ∨ rSlS x lo hi H Q
theorem sl_U : SlR X (rSlU X.K) := sl_list.or (sl_tupA.or sl_str)
theorem mean_sl {x : IV} {v : V} {lo hi : Option Int} {ι : List Addr} {h : IH} {H : Hp} {Q : VK} {Wh : Value → Option Addr → Hp → Prop} (rx : RV G.K ι H x v) (r : RH G ι h H) (p : PR G Wh ι H Q (gSl x lo hi h)) : rSlU G.K v lo hi H Q := by
  cases x <;> try exact p.elim
  · rename_i xs
    rw [str_iff] at rx
    simp only [gSl] at p
    split at p
    · rename_i hz
      refine .inr (.inr ⟨sS xs, rx, by rw [sS_len]; exact big_le hz, p ι H _ (Aft.refl r) (str_iff.mpr ?_)⟩)
      unfold cutS cutI sS
      have e : (Str.mk xs.toArray).length = xs.length := sS_len xs
      rw [e]
    · exact p.elim
  · rename_i xs
    rw [tup_iff] at rx
    obtain ⟨q, vs, rfl, hq, rs⟩ := rx
    refine .inr (.inl ⟨q, vs, rfl, (SqT.of hq), fun z => ?_, fun z q' hq' => ?_⟩)
    · refine p ι H _ (Aft.refl r) (tup_iff.mpr ⟨q, vs, rfl, hq, ?_⟩)
      have e : cutI xs lo hi = xs := by
        unfold cutI
        rw [rs.len, z.1, z.2, List.drop_zero, Nat.sub_zero, ← rs.len, List.take_length]
      rw [e]
      exact rs
    · have af := Aft.fresh r hq' (.tup (cutV vs lo hi))
      exact p ι _ _ af (tup_iff.mpr ⟨q', _, rfl, upd_same, (rs.mono af.pre af.tl).cut lo hi⟩)
  · rename_i xs
    rw [fz_iff] at rx
    obtain ⟨q, vs, rfl, hq, rs⟩ := rx
    exact .inl ⟨q, vs, rfl, hq.sq, fun q' hq' => p _ _ _ (new_lst r hq' (rs.cut lo hi)) (ref_iff.mpr ⟨q', ref_len r, rfl⟩)⟩
  · rename_i n
    rw [ref_iff] at rx
    obtain ⟨q, iq, rfl⟩ := rx
    simp only [gSl] at p
    split at p
    · rename_i xs z0
      obtain ⟨vs, hq, rs⟩ := r.at z0 iq
      exact .inl ⟨q, vs, rfl, SqL.of hq, fun q' hq' => p _ _ _ (new_lst r hq' (rs.cut lo hi)) (ref_iff.mpr ⟨q', ref_len r, rfl⟩)⟩
    · exact p.elim
theorem se_slice (hK : X.K = G.K) {lo hi : Option Expr} {p2 : Pos} {fl fh : IE → M (Option Int)} (ha : SE G X W a fa) (hl : SO G X W lo fl) (hh : SO G X W hi fh) : SE G X W (.Subscript a (.Slice lo hi none p2) pos) (mSl fa fl fh) := by
  refine pe_weak (pe_slice (hK ▸ sl_U) ha hl hh) fun σ H Q hq => ?_
  obtain ⟨ι, e, h, en, rh, q⟩ := hq
  refine TI.bind (Wh := fun c d H' => W c d σ H') en rh q fun x v ι1 h1 H1 a1 en1 r1 q1 => ?_
  refine TO'.bind (α := Nat) en1 a1.rh q1 fun l ι2 h2 H2 a2 en2 q2 => ?_
  refine TO'.bind (α := Nat) en2 a2.rh q2 fun u ι3 h3 H3 a3 en3 q3 => ?_
  exact mean_sl (r1.mono (a2.pre.trans a3.pre) (a2.tl.trans a3.tl)) a3.rh q3

/-! ### in, of flat values -/
@[simp] def flatI : IV → Bool
  | .non => true | .bl _ => true | .int _ => true | .str _ => true
  | _ => false
@[simp] def eqI : IV → IV → Bool
  | .non, .non => true
  | .bl a, .bl b => a == b
  | .bl a, .int b => (if a then 1 else 0) == b
  | .int a, .bl b => a == (if b then 1 else 0)
  | .int a, .int b => a == b
  | .str a, .str b => a == b
  | _, _ => false
def inI (x : IV) (xs : List IV) : Bool := xs.any fun y => eqI y x
theorem flat_ok {K : PySem.W.Frag} {ι : List Addr} {H : Hp} {x : IV} {v : V} (r : RV K ι H x v) (f : flatI x = true) : flatV v = true := by
  cases x <;> simp only [flatI, reduceCtorEq] at f
  · rw [non_iff] at r; subst r; rfl
  · rw [bl_iff] at r; subst r; rfl
  · rw [int_iff] at r; subst r; rfl
  · rw [str_iff] at r; subst r; rfl
theorem eqI_ok {K : PySem.W.Frag} {ι : List Addr} {H : Hp} {x y : IV} {v w : V} (r : RV K ι H x v) (q : RV K ι H y w) (f : flatI x = true) (g : flatI y = true) : eqV v w = eqI x y := by
  cases x <;> cases y <;> simp only [flatI, reduceCtorEq] at f g <;> simp only [non_iff, bl_iff, int_iff, str_iff] at r q <;> subst r q <;> first | rfl | skip
  rename_i a b
  show (sS a == sS b) = (a == b)
  by_cases e : a = b
  · subst e; simp
  · have e2 : ¬ sS a = sS b := fun z => e (sS_inj z)
    rw [beq_eq_false_iff_ne.mpr e, beq_eq_false_iff_ne.mpr e2]
theorem flats_ok {K : PySem.W.Frag} {ι : List Addr} {H : Hp} : ∀ {xs : List IV} {vs : List V}, RVs K ι H xs vs → xs.all flatI = true → vs.all flatV = true
  | [], _, r, _ => by unfold RVs at r; subst r; rfl
  | x :: xs, _, r, f => by
    unfold RVs at r
    obtain ⟨v, w, rfl, rv, rs⟩ := r
    rw [List.all_cons, Bool.and_eq_true] at f ⊢
    exact ⟨flat_ok rv f.1, flats_ok rs f.2⟩
theorem inI_ok {K : PySem.W.Frag} {ι : List Addr} {H : Hp} {x : IV} {v : V} (r : RV K ι H x v) (f : flatI x = true) : ∀ {xs : List IV} {vs : List V}, RVs K ι H xs vs → xs.all flatI = true → inV v vs = inI x xs
  | [], _, q, _ => by unfold RVs at q; subst q; rfl
  | y :: xs, _, q, g => by
    unfold RVs at q
    obtain ⟨w, ws, rfl, rv, rs⟩ := q
    rw [List.all_cons, Bool.and_eq_true] at g
    show (eqV w v || ws.any fun y => eqV y v) = (eqI y x || xs.any fun y => eqI y x)
    rw [eqI_ok rv r g.1 f]
    have := inI_ok r f rs g.2
    unfold inV inI at this
    rw [this]
@[simp] def gIn (neg : Bool) (x y : IV) : M IV := fun h => match y with
  | .tup xs => if flatI x && xs.all flatI then .ok (.bl (if neg then !inI x xs else inI x xs)) h else .bad
  | .fz xs => if flatI x && xs.all flatI then .ok (.bl (if neg then !inI x xs else inI x xs)) h else .bad
  | .ref n => match h[n]? with
    | some (.lst xs) => if flatI x && xs.all flatI then .ok (.bl (if neg then !inI x xs else inI x xs)) h else .bad
    | _ => .bad
  | _ => .bad
theorem mean_in {neg : Bool} : Mean2 G (rIn G.K neg) (gIn neg) := by
  intro x y v w ι h H Q Wh rx ry r p
  cases y <;> try exact p.elim
  · rename_i xs
    rw [tup_iff] at ry
    obtain ⟨q, vs, rfl, hq, rs⟩ := ry
    simp only [gIn] at p
    split at p
    · rename_i hz
      obtain ⟨z1, z2⟩ := Bool.and_eq_true_iff.mp hz
      refine ⟨q, vs, rfl, .inr (SqT.of hq), flat_ok rx z1, flats_ok rs z2, ?_⟩
      rw [inI_ok rx z1 rs z2]
      exact p ι H _ (Aft.refl r) (bl_iff.mpr rfl)
    · exact p.elim
  · rename_i xs
    rw [fz_iff] at ry
    obtain ⟨q, vs, rfl, hq, rs⟩ := ry
    simp only [gIn] at p
    split at p
    · rename_i hz
      obtain ⟨z1, z2⟩ := Bool.and_eq_true_iff.mp hz
      refine ⟨q, vs, rfl, .inl hq.sq, flat_ok rx z1, flats_ok rs z2, ?_⟩
      rw [inI_ok rx z1 rs z2]
      exact p ι H _ (Aft.refl r) (bl_iff.mpr rfl)
    · exact p.elim
  · rename_i n
    rw [ref_iff] at ry
    obtain ⟨q, iq, rfl⟩ := ry
    simp only [gIn] at p
    split at p
    · rename_i xs z0
      obtain ⟨vs, hq, rs⟩ := r.at z0 iq
      split at p
      · rename_i hz
        obtain ⟨z1, z2⟩ := Bool.and_eq_true_iff.mp hz
        refine ⟨q, vs, rfl, .inl (SqL.of hq), flat_ok rx z1, flats_ok rs z2, ?_⟩
        rw [inI_ok rx z1 rs z2]
        exact p ι H _ (Aft.refl r) (bl_iff.mpr rfl)
      · exact p.elim
    · exact p.elim
theorem se_in (hK : X.K = G.K) (ha : SE G X W a fa) (hb : SE G X W b fb) (hk : behindInMarks .In b = false := by rfl) : SE G X W (.Compare a [.In] [b] pos) (m2 (gIn false) fa fb) := se_cmp op_in_seq (hK ▸ mean_in) ha hb hk
theorem se_notIn (hK : X.K = G.K) (ha : SE G X W a fa) (hb : SE G X W b fb) (hk : behindInMarks .NotIn b = false := by rfl) : SE G X W (.Compare a [.NotIn] [b] pos) (m2 (gIn true) fa fb) := se_cmp op_notIn_seq (hK ▸ mean_in) ha hb hk

/-! ### built-in calls, by values -/
def MeanC (G : Gx) (r : List V → Hp → VK → Prop) (g : Fn) : Prop := ∀ (xs : List IV) (vs : List V) (ι : List Addr) (h : IH) (H : Hp) (Q : VK) (Wh : Value → Option Addr → Hp → Prop), RVs G.K ι H xs vs → RH G ι h H → PR G Wh ι H Q (g xs h) → r vs H Q
@[simp] def mCall (g : Fn) (fs : IE → M (List IV)) : ME := fun e h => (fs e h).bind fun xs h1 => g xs h1
theorem tCB_mean {r : List V → Hp → VK → Prop} {g : Fn} (hm : MeanC G r g) : ∀ σ H Q, TI G W (mCall g fs) σ H Q → tCB r (TIs G W fs) σ H Q := by
  intro σ H Q hq
  obtain ⟨ι, e, h, en, rh, q⟩ := hq
  exact TIs.bind en rh q fun xs vs ι1 h1 H1 a1 en1 r1 q1 => hm xs vs ι1 h1 H1 Q _ r1 a1.rh q1
theorem se_callB {id : String} {x : Str} {r : List V → Hp → VK → Prop} {g : Fn} (hc : CallR X (.builtin id) r) (hm : MeanC G r g) (hg : Gl X x) (hn : X.mg x = none) (hv : bootBuiltins x = some (.builtin id)) (ha : SA G X W (e :: es) fs) (hd : x ≠ "__name__" := by decide) (hdb : (x == ("__debug__" : Str)) = false := by decide)
    (he : starEach (e :: es) X.env = (false, eval e X.env) :: starEach es X.env := by rfl) (hpl : (backTo pos (starEach es X.env)).any (·.1) = false := by rfl) : SE G X W (.Call (.Name x p) (e :: es) [] pos) (mCall g fs) :=
  pe_weak (pe_callB hc hg hn hv ha hd hdb he hpl) (tCB_mean hm)
theorem se_callTy {T : String} {x : Str} {r : List V → Hp → VK → Prop} {g : Fn} (hc : CallR X (.type T) r) (hm : MeanC G r g) (hg : Gl X x) (hn : X.mg x = none) (hv : bootBuiltins x = some (.type T)) (ha : SA G X W (e :: es) fs) (hd : x ≠ "__name__" := by decide) (hdb : (x == ("__debug__" : Str)) = false := by decide)
    (he : starEach (e :: es) X.env = (false, eval e X.env) :: starEach es X.env := by rfl) (hpl : (backTo pos (starEach es X.env)).any (·.1) = false := by rfl) : SE G X W (.Call (.Name x p) (e :: es) [] pos) (mCall g fs) :=
  pe_weak (pe_callTy hc hg hn hv ha hd hdb he hpl) (tCB_mean hm)
/-- one value -/
theorem RVs.un1 {K : PySem.W.Frag} {ι : List Addr} {H : Hp} {x : IV} {vs : List V} (r : RVs K ι H [x] vs) : ∃ v, vs = [v] ∧ RV K ι H x v := by
  unfold RVs at r
  obtain ⟨v, w, rfl, rv, rs⟩ := r
  unfold RVs at rs
  subst rs
  exact ⟨v, rfl, rv⟩
theorem RVs.un2 {K : PySem.W.Frag} {ι : List Addr} {H : Hp} {x y : IV} {vs : List V} (r : RVs K ι H [x, y] vs) : ∃ v w, vs = [v, w] ∧ RV K ι H x v ∧ RV K ι H y w := by
  unfold RVs at r
  obtain ⟨v, w, rfl, rv, rs⟩ := r
  obtain ⟨u, rfl, ru⟩ := rs.un1
  exact ⟨v, u, rfl, rv, ru⟩
@[simp] def gLen : Fn := fun xs h => match xs with
  | [.str x] => if x.length ≤ big then .ok (.int x.length) h else .bad
  | [.tup x] => .ok (.int x.length) h
  | [.fz x] => .ok (.int x.length) h
  | [.ref n] => match h[n]? with
    | some (.lst x) => .ok (.int x.length) h
    | _ => .bad
  | _ => .bad
theorem mean_len : MeanC G (fun xs H Q => ∃ x n, xs = [x] ∧ LenV G.K x H n ∧ Q (.int n) H) gLen := by
  intro xs vs ι h H Q Wh rx r p
  match xs, rx, p with
  | [.str x], rx, p =>
    obtain ⟨v, rfl, rv⟩ := rx.un1
    rw [str_iff] at rv
    subst rv
    simp only [gLen] at p
    split at p
    · rename_i hz
      exact ⟨_, x.length, rfl, ⟨by rw [sS_len]; exact big_le hz, (sS_len x).symm⟩, p ι H _ (Aft.refl r) (int_iff.mpr rfl)⟩
    · exact p.elim
  | [.tup x], rx, p =>
    obtain ⟨v, rfl, rv⟩ := rx.un1
    rw [tup_iff] at rv
    obtain ⟨q, ws, rfl, hq, rs⟩ := rv
    exact ⟨_, x.length, rfl, .inr ⟨ws, (SqT.of hq), rs.len⟩, p ι H _ (Aft.refl r) (int_iff.mpr rfl)⟩
  | [.fz x], rx, p =>
    obtain ⟨v, rfl, rv⟩ := rx.un1
    rw [fz_iff] at rv
    obtain ⟨q, ws, rfl, hq, rs⟩ := rv
    exact ⟨_, x.length, rfl, .inl ⟨ws, hq.sq, rs.len⟩, p ι H _ (Aft.refl r) (int_iff.mpr rfl)⟩
  | [.ref n], rx, p =>
    obtain ⟨v, rfl, rv⟩ := rx.un1
    rw [ref_iff] at rv
    obtain ⟨q, iq, rfl⟩ := rv
    simp only [gLen] at p
    split at p
    · rename_i x z0
      obtain ⟨ws, hq, rs⟩ := r.at z0 iq
      exact ⟨_, x.length, rfl, .inl ⟨ws, SqL.of hq, rs.len⟩, p ι H _ (Aft.refl r) (int_iff.mpr rfl)⟩
    · exact p.elim
  | [], _, p | [.non], _, p | [.bl _], _, p | [.int _], _, p => exact p.elim
  | _ :: _ :: _, _, p => 
    simp only [gLen] at p
    exact p.elim
@[simp] def gAbs : Fn := fun xs h => match xs with
  | [.int i] => .ok (.int (if i < 0 then -i else i)) h
  | _ => .bad
theorem mean_abs : MeanC G (fun xs H Q => ∃ i, xs = [.int i] ∧ Q (.int (if i < 0 then -i else i)) H) gAbs := by
  intro xs vs ι h H Q Wh rx r p
  simp only [gAbs] at p
  split at p
  · obtain ⟨v, rfl, rv⟩ := rx.un1
    rw [int_iff] at rv
    subst rv
    exact ⟨_, rfl, p ι H _ (Aft.refl r) (int_iff.mpr rfl)⟩
  · exact p.elim
@[simp] def gInt : Fn := fun xs h => match xs with
  | [.int i] => .ok (.int i) h
  | [.bl k] => .ok (.int (if k then 1 else 0)) h
  | _ => .bad
theorem mean_int : MeanC G (fun xs H Q => (∃ i, xs = [.int i] ∧ Q (.int i) H) ∨ ∃ k, xs = [.bl k] ∧ Q (.int (if k then 1 else 0)) H) gInt := by
  intro xs vs ι h H Q Wh rx r p
  simp only [gInt] at p
  split at p
  · obtain ⟨v, rfl, rv⟩ := rx.un1
    rw [int_iff] at rv
    subst rv
    exact .inl ⟨_, rfl, p ι H _ (Aft.refl r) (int_iff.mpr rfl)⟩
  · obtain ⟨v, rfl, rv⟩ := rx.un1
    rw [bl_iff] at rv
    subst rv
    exact .inr ⟨_, rfl, p ι H _ (Aft.refl r) (int_iff.mpr rfl)⟩
  · exact p.elim
@[simp] def gMin2 : Fn := fun xs h => match xs with
  | [.int i, .int j] => .ok (.int (if j < i then j else i)) h
  | _ => .bad
@[simp] def gMax2 : Fn := fun xs h => match xs with
  | [.int i, .int j] => .ok (.int (if j > i then j else i)) h
  | _ => .bad
theorem mean_min2 : MeanC G (fun xs H Q => ∃ i j, xs = [.int i, .int j] ∧ Q (.int (if j < i then j else i)) H) gMin2 := by
  intro xs vs ι h H Q Wh rx r p
  simp only [gMin2] at p
  split at p
  · obtain ⟨v, w, rfl, rv, rw'⟩ := rx.un2
    rw [int_iff] at rv rw'
    subst rv rw'
    exact ⟨_, _, rfl, p ι H _ (Aft.refl r) (int_iff.mpr rfl)⟩
  · exact p.elim
theorem mean_max2 : MeanC G (fun xs H Q => ∃ i j, xs = [.int i, .int j] ∧ Q (.int (if j > i then j else i)) H) gMax2 := by
  intro xs vs ι h H Q Wh rx r p
  simp only [gMax2] at p
  split at p
  · obtain ⟨v, w, rfl, rv, rw'⟩ := rx.un2
    rw [int_iff] at rv rw'
    subst rv rw'
    exact ⟨_, _, rfl, p ι H _ (Aft.refl r) (int_iff.mpr rfl)⟩
  · exact p.elim
@[simp] def gList : Fn := fun xs h => match xs with
  | [.tup x] => .ok (.ref h.length) (h ++ [.lst x])
  | [.fz x] => .ok (.ref h.length) (h ++ [.lst x])
  | [.ref n] => match h[n]? with
    | some (.lst x) => .ok (.ref h.length) (h ++ [.lst x])
    | _ => .bad
  | _ => .bad
@[simp] def gTuple : Fn := fun xs h => match xs with
  | [.tup x] => .ok (.tup x) h
  | [.fz x] => .ok (.tup x) h
  | [.ref n] => match h[n]? with
    | some (.lst x) => .ok (.tup x) h
    | _ => .bad
  | _ => .bad
theorem mean_list : MeanC G (fun xs H Q => ∃ p ys, xs = [.ref p] ∧ (SqL G.K H p ys ∨ SqT G.K H p ys) ∧ ∀ l, H l = none → Q (.ref l) (upd H l (.lst ys))) gList := by
  intro xs vs ι h H Q Wh rx r p
  simp only [gList] at p
  split at p
  · obtain ⟨v, rfl, rv⟩ := rx.un1
    rw [tup_iff] at rv
    obtain ⟨q, ws, rfl, hq, rs⟩ := rv
    exact ⟨q, ws, rfl, .inr (SqT.of hq), fun l hl => p _ _ _ (new_lst r hl rs) (ref_iff.mpr ⟨l, ref_len r, rfl⟩)⟩
  · obtain ⟨v, rfl, rv⟩ := rx.un1
    rw [fz_iff] at rv
    obtain ⟨q, ws, rfl, hq, rs⟩ := rv
    exact ⟨q, ws, rfl, .inl hq.sq, fun l hl => p _ _ _ (new_lst r hl rs) (ref_iff.mpr ⟨l, ref_len r, rfl⟩)⟩
  · obtain ⟨v, rfl, rv⟩ := rx.un1
    rw [ref_iff] at rv
    obtain ⟨q, iq, rfl⟩ := rv
    split at p
    · rename_i x z0
      obtain ⟨ws, hq, rs⟩ := r.at z0 iq
      exact ⟨q, ws, rfl, .inl (SqL.of hq), fun l hl => p _ _ _ (new_lst r hl rs) (ref_iff.mpr ⟨l, ref_len r, rfl⟩)⟩
    · exact p.elim
  · exact p.elim
theorem mean_tuple : MeanC G (fun xs H Q => ∃ p ys, xs = [.ref p] ∧ ((SqL G.K H p ys ∧ ∀ l, H l = none → Q (.ref l) (upd H l (.tup ys))) ∨ (SqT G.K H p ys ∧ Q (.ref p) H))) gTuple := by
  intro xs vs ι h H Q Wh rx r p
  simp only [gTuple] at p
  split at p
  · obtain ⟨v, rfl, rv⟩ := rx.un1
    rw [tup_iff] at rv
    obtain ⟨q, ws, rfl, hq, rs⟩ := rv
    exact ⟨q, ws, rfl, .inr ⟨(SqT.of hq), p ι H _ (Aft.refl r) (tup_iff.mpr ⟨q, ws, rfl, hq, rs⟩)⟩⟩
  · obtain ⟨v, rfl, rv⟩ := rx.un1
    rw [fz_iff] at rv
    obtain ⟨q, ws, rfl, hq, rs⟩ := rv
    refine ⟨q, ws, rfl, .inl ⟨hq.sq, fun l hl => ?_⟩⟩
    have af := Aft.fresh r hl (.tup ws)
    exact p ι _ _ af (tup_iff.mpr ⟨l, ws, rfl, upd_same, rs.mono af.pre af.tl⟩)
  · obtain ⟨v, rfl, rv⟩ := rx.un1
    rw [ref_iff] at rv
    obtain ⟨q, iq, rfl⟩ := rv
    split at p
    · rename_i x z0
      obtain ⟨ws, hq, rs⟩ := r.at z0 iq
      refine ⟨q, ws, rfl, .inl ⟨SqL.of hq, fun l hl => ?_⟩⟩
      have af := Aft.fresh r hl (.tup ws)
      exact p ι _ _ af (tup_iff.mpr ⟨l, ws, rfl, upd_same, rs.mono af.pre af.tl⟩)
    · exact p.elim
  · exact p.elim
/-! ### results frozen -/
@[simp] def gSlF (x : IV) (lo hi : Option Int) : M IV := fun h => match sqI x h with
  | some xs => .ok (.fz (cutI xs lo hi)) h
  | _ => gSl x lo hi h
theorem mean_slF {x : IV} {v : V} {lo hi : Option Int} {ι : List Addr} {h : IH} {H : Hp} {Q : VK} {Wh : Value → Option Addr → Hp → Prop} (rx : RV G.K ι H x v) (r : RH G ι h H) (p : PR G Wh ι H Q (gSlF x lo hi h)) : rSlU G.K v lo hi H (QF Q) := by
  simp only [gSlF] at p
  split at p
  · rename_i xs e
    obtain ⟨q, vs, rfl, hq, rs⟩ := sq_ok rx r e
    exact .inl ⟨q, vs, rfl, hq, fun q' hq' => qf_new p r hq' (rs.cut lo hi)⟩
  · exact mean_sl rx r p.qf
@[simp] def mSlF (fa : ME) (fl fh : IE → M (Option Int)) : ME := fun e h => (fa e h).bind fun x h1 => (fl e h1).bind fun l h2 => (fh e h2).bind fun u h3 => gSlF x l u h3
theorem se_sliceF (hK : X.K = G.K) {lo hi : Option Expr} {p2 : Pos} {fl fh : IE → M (Option Int)} (ha : SE G X W a fa) (hl : SO G X W lo fl) (hh : SO G X W hi fh) : SE G X W (.Subscript a (.Slice lo hi none p2) pos) (mSlF fa fl fh) := by
  refine pe_weak (pe_fz (pe_slice (hK ▸ sl_U) ha hl hh)) fun σ H Q hq => ?_
  obtain ⟨ι, e, h, en, rh, q⟩ := hq
  refine TI.bind (Wh := fun c d H' => W c d σ H') en rh q fun x v ι1 h1 H1 a1 en1 r1 q1 => ?_
  refine TO'.bind (α := Nat) en1 a1.rh q1 fun l ι2 h2 H2 a2 en2 q2 => ?_
  refine TO'.bind (α := Nat) en2 a2.rh q2 fun u ι3 h3 H3 a3 en3 q3 => ?_
  exact mean_slF (r1.mono (a2.pre.trans a3.pre) (a2.tl.trans a3.tl)) a3.rh q3
def MeanCF (G : Gx) (r : List V → Hp → VK → Prop) (g : Fn) : Prop := ∀ (xs : List IV) (vs : List V) (ι : List Addr) (h : IH) (H : Hp) (Q : VK) (Wh : Value → Option Addr → Hp → Prop), RVs G.K ι H xs vs → RH G ι h H → PR G Wh ι H Q (g xs h) → r vs H (QF Q)
theorem tCB_meanF {r : List V → Hp → VK → Prop} {g : Fn} (hm : MeanCF G r g) : ∀ σ H Q, TI G W (mCall g fs) σ H Q → tCB r (TIs G W fs) σ H (QF Q) := by
  intro σ H Q hq
  obtain ⟨ι, e, h, en, rh, q⟩ := hq
  exact TIs.bind en rh q fun xs vs ι1 h1 H1 a1 en1 r1 q1 => hm xs vs ι1 h1 H1 Q _ r1 a1.rh q1
theorem se_callBF {id : String} {x : Str} {r : List V → Hp → VK → Prop} {g : Fn} (hc : CallR X (.builtin id) r) (hm : MeanCF G r g) (hg : Gl X x) (hn : X.mg x = none) (hv : bootBuiltins x = some (.builtin id)) (ha : SA G X W (e :: es) fs) (hd : x ≠ "__name__" := by decide) (hdb : (x == ("__debug__" : Str)) = false := by decide)
    (he : starEach (e :: es) X.env = (false, eval e X.env) :: starEach es X.env := by rfl) (hpl : (backTo pos (starEach es X.env)).any (·.1) = false := by rfl) : SE G X W (.Call (.Name x p) (e :: es) [] pos) (mCall g fs) :=
  pe_weak (pe_fz (pe_callB hc hg hn hv ha hd hdb he hpl)) (tCB_meanF hm)
theorem se_callTyF {T : String} {x : Str} {r : List V → Hp → VK → Prop} {g : Fn} (hc : CallR X (.type T) r) (hm : MeanCF G r g) (hg : Gl X x) (hn : X.mg x = none) (hv : bootBuiltins x = some (.type T)) (ha : SA G X W (e :: es) fs) (hd : x ≠ "__name__" := by decide) (hdb : (x == ("__debug__" : Str)) = false := by decide)
    (he : starEach (e :: es) X.env = (false, eval e X.env) :: starEach es X.env := by rfl) (hpl : (backTo pos (starEach es X.env)).any (·.1) = false := by rfl) : SE G X W (.Call (.Name x p) (e :: es) [] pos) (mCall g fs) :=
  pe_weak (pe_fz (pe_callTy hc hg hn hv ha hd hdb he hpl)) (tCB_meanF hm)
end
end Sh

/-! Sh6: own calls, fields, statements. -/
namespace Sh
open PySem PySem.Spec PyProof.Rows L2

/-! ### own defs -/
/-- the promise that a meaning gives -/
def spI (G : Gx) (n : Nat) (m : Fn) : Sp := fun vs H Q E => vs.length = n ∧ ∃ ι h xs, RVs G.K ι H xs vs ∧ RH G ι h H ∧ PR G (fun c d H' => E c d H') ι H Q (m xs h)
/-- an exception in the air over X, the frame that runs being L -/
def XF (X : Cx) (W : WX) (L : Addr) (u : Value) (s' : Shared) : Prop :=
  ∃ (a : Addr) (B : Heap) (sI : Shared) (pins : List (Addr × Obj)) (σ : L2.St) (H : Hp) (cls : Value) (d : Option Addr),
    u = .ref a ∧ Inv X pins σ H sI ∧ (∀ b o, sI.heap.get? b = some o → b ∉ frs X.stack → B.get? b = some o) ∧ sI.heap.UpToSlots s'.heap ∧
      Sky B X.stack a (Zc cls d) L s'.heap ∧ H a = none ∧ s'.os = sI.os ∧ AllBare s'.gens ∧ W cls d σ H
/-- the frame that runs is L -/
def Top (X : Cx) (L : Addr) : Prop := (∃ e0 r, X.stack = e0 :: r ∧ e0.frame = some L) ∧ X.env.frame = some L
/-- what a call let out, seen from X -/
theorem XF.of_call {X : Cx} {W : WX} {L : Addr} {E : XK} {pins : List (Addr × Obj)} {σ : L2.St} {H : Hp} {s s' : Shared} {u : Value} (I : Inv X pins σ H s) (hW : ∀ cls d H', E cls d H' → W cls d σ H') (c : L2.CX X.prog X.w X.stack H s E u s') : XF X W L u s' := by
  obtain ⟨a, B, H2, cls, d, rfl, fly, okB, ub, na, eo, ag, w⟩ := c
  obtain ⟨T, t1, t2⟩ := restrict s'.heap fun b => decide (b ∈ frs X.stack) || (B.get? b).isSome
  have inB : ∀ b o, B.get? b = some o → T.get? b = some o := fun b o z => (t1 b (by rw [z]; simp)).trans (fly.1 b o z)
  have inF : ∀ b, b ∈ frs X.stack → T.get? b = s'.heap.get? b := fun b z => t1 b (by simp [z])
  have out : ∀ b o, T.get? b = some o → s'.heap.get? b = some o ∧ (b ∈ frs X.stack ∨ ∃ o', B.get? b = some o') := fun b o z => by
    cases y : (decide (b ∈ frs X.stack) || (B.get? b).isSome) with
    | false => rw [t2 b y] at z; cases z
    | true =>
      refine ⟨(t1 b y).symm.trans z, ?_⟩
      rcases Bool.or_eq_true_iff.mp y with y | y
      · exact .inl (of_decide_eq_true y)
      · exact .inr (Option.isSome_iff_exists.mp y)
  have J : Inv X pins σ H2 { s with heap := T, gens := s'.gens, drawn := s'.drawn, toks := s'.toks } :=
    I.call (ch := []) ⟨fun b o e n hb _ => inB b o (ub.keep b o e n hb), fun b o e n hb _ => (ub.slot b o e hb).imp fun sl z => (inF b hb).trans z, fun b o e n _ => ub.free b o e n, fun b o e _ =>
      (Decidable.em (b ∈ frs X.stack)).elim (fun hb => (ub.slot b o e hb).elim fun sl z => ⟨_, (inF b hb).trans z⟩) fun hb => (ub.there b o e hb).imp fun o' z => inB b o' z, ub.tups, ub.frzs, ub.tbls⟩ (okB.kept inB) ag (fun _ z => nomatch z)
  refine ⟨a, B, _, pins, σ, H2, cls, d, rfl, J, fun b o z hb => ?_, Heap.UpToSlots.of_keeps fun b o z => (out b o z).1, .inr (.inl fly), na, eo, ag, hW _ _ _ w⟩
  obtain ⟨z1, z2⟩ := out b o z
  rcases z2 with z2 | ⟨o', z2⟩
  · exact absurd z2 hb
  · have := fly.1 b o' z2
    rw [z1] at this
    cases this
    exact z2
/-- what a context can do: pass exceptions on, call k deep -/
structure Can (G : Gx) (X : Cx) (W : WX) (k : Nat) : Prop where
  tf : ∃ L, Top X L ∧ ∀ u s', XF X W L u s' → X.xe u s'
  room : Room k X.A
  calm : X.calm = true
  nd : X.N.Nodup
  hK : X.K = G.K
theorem Can.pass {G : Gx} {X : Cx} {W : WX} {k : Nat} (C : Can G X W k) (σ : L2.St) : PassesAt (L2.CX X.prog X.w) X σ (WE W σ) := fun pins H s e s' I c =>
  let ⟨_, _, t⟩ := C.tf; t e s' (XF.of_call I (fun _ _ _ h => h) c)
/-- a def that is known: its name (or a method's), its meaning, its level -/
structure Kn (G : Gx) (P : Program) (w : World) (mg : Str → Option Value) (base : Heap) (k : Nat) (f : Addr) (n : Nat) (m : Fn) : Prop where
  ex : ∃ fd ps, ps.length = n ∧ FnOk P w G.K mg base (L2.CX P w) k f fd ps (spI G n m) ∧ Binds G.K fd ps []
  kp : PySem.W.keepIn G.K (.ref f) = true

section
variable {G : Gx} {X : Cx} {W : WX} {a b c e o : Expr} {fa fb fc : ME} {p pos pos' apos : Pos} {es rest : List Expr} {fs : IE → M (List IV)} {k n : Nat} {f : Addr} {m : Fn} {x : Str}
theorem run_kn {pins : List (Addr × Obj)} {σ : L2.St} {H : Hp} {s : Shared} {Q : VK} {us : List Value} {vs : List V} (C : Can G X W k) (F : Kn G X.prog X.w X.mg X.base k f n m) (I : Inv X pins σ H s) (r : Vals vs us) (h : spI G n m vs H Q (WE W σ)) :
    wpAny (model X.prog X.w) X.A (call (.ref f) us) (EP X pins σ Q) X.xe s := by
  obtain ⟨fd, ps, hn, F, hb⟩ := F.ex
  rw [← C.hK] at F hb
  exact run_fnS (E := WE W) F C.room hb (C.pass σ) I r h
theorem sp_of {σ : L2.St} {H : Hp} {Q : VK} {ι : List Addr} {h : IH} {xs : List IV} {vs : List V} (hn : xs.length = n) (r : RVs G.K ι H xs vs) (rh : RH G ι h H) (p : PR G (fun c d H' => W c d σ H') ι H Q (m xs h)) : spI G n m vs H Q (WE W σ) :=
  ⟨by rw [← r.len]; exact hn, ι, h, xs, r, rh, p⟩
def mOwn (n : Nat) (m : Fn) (fs : IE → M (List IV)) : ME := fun e h => (fs e h).bind fun xs h1 => if xs.length = n then m xs h1 else .bad
theorem TI.own {σ : L2.St} {H : Hp} {Q : VK} (hq : TI G W (mOwn n m fs) σ H Q) : TIs G W fs σ H fun vs H1 => spI G n m vs H1 Q (WE W σ) := by
  obtain ⟨ι, e, h, en, rh, q⟩ := hq
  refine TIs.bind en rh q fun xs vs ι1 h1 H1 a1 en1 r1 q1 => ?_
  split at q1
  · rename_i hn
    exact sp_of hn r1 a1.rh q1
  · exact q1.elim
theorem se_call (C : Can G X W k) (F : Kn G X.prog X.w X.mg X.base k f n m) (hg : Gl X x) (hm : X.mg x = some (.ref f)) (ha : SA G X W (e :: es) fs) (hdb : (x == ("__debug__" : Str)) = false := by decide)
    (he : starEach (e :: es) X.env = (false, eval e X.env) :: starEach es X.env := by rfl) (hpl : (backTo pos (starEach es X.env)).any (·.1) = false := by rfl) : SE G X W (.Call (.Name x p) (e :: es) [] pos) (mOwn n m fs) := by
  refine ⟨fun pins s σ H Q I hq => ?_⟩
  refine wpAny_Call_Name_kw (ld_glob I hg hm ?_ hdb)
  refine PySem.W.callWith_K (h₀ := X.base) I.ok.mod.kin (C.hK ▸ F.kp) (thn (ha.run pos pins s σ H _ I hq.own) fun us s1 ⟨vs, H1, I1, r, q⟩ => ⟨I1.kIn, ?_⟩) he hpl
  exact run_kn C F I1 r q
theorem TI.own0 {σ : L2.St} {H : Hp} {Q : VK} (hq : TI G W (mOwn n m mNil) σ H Q) : spI G n m [] H Q (WE W σ) := by
  obtain ⟨ι, e, h, en, rh, q⟩ := hq
  simp only [mOwn, mNil, Res.bind] at q
  split at q
  · rename_i hn
    exact sp_of hn RVs.nil rh q
  · exact q.elim
theorem se_call0 (C : Can G X W k) (F : Kn G X.prog X.w X.mg X.base k f n m) (hg : Gl X x) (hm : X.mg x = some (.ref f)) (hdb : (x == ("__debug__" : Str)) = false := by decide) : SE G X W (.Call (.Name x p) [] [] pos) (mOwn n m mNil) := by
  refine ⟨fun pins s σ H Q I hq => ?_⟩
  refine wpAny_Call_Name_kw (ld_glob I hg hm ?_ hdb)
  exact PySem.W.callWith_K0 I.kIn (C.hK ▸ F.kp) (run_kn C F (us := []) I .nil hq.own0)

/-! ### classes -/
/-- what is known of a class -/
structure KC (G : Gx) (C : String) : Prop where
  cls : Cls G.K (He.ga G.K (Str.ofString C))
  nd : (G.lay C).Nodup
  few : (G.lay C).length < 1000
  na : ∀ f ∈ G.lay C, NoAttr G.K (He.ga G.K (Str.ofString C)) f
theorem RFs.look {K : PySem.W.Frag} {ι : List Addr} {H : Hp} : ∀ {ns : List Str} {fs : List IV} {ws : List (Str × V)} {j : Nat} {f : Str} {x : IV}, ns.Nodup → RFs K ι H ns fs ws → ns[j]? = some f → fs[j]? = some x → ∃ v, ws.lookup f = some v ∧ RV K ι H x v
  | [], [], _, _, _, _, _, _, e, _ => by simp at e
  | [], _ :: _, _, _, _, _, _, r, _, _ => by unfold RFs at r; exact r.elim
  | _ :: _, [], _, _, _, _, _, _, _, e => by simp at e
  | n :: ns, y :: fs, _, 0, f, x, nd, ⟨v, r, q, a, b⟩, e, e2 => by
    simp only [List.getElem?_cons_zero, Option.some.injEq] at e e2
    subst e e2 q
    exact ⟨v, by simp [List.lookup], a⟩
  | n :: ns, y :: fs, _, j + 1, f, x, nd, ⟨v, r, q, a, b⟩, e, e2 => by
    simp only [List.getElem?_cons_succ] at e e2
    subst q
    obtain ⟨w, h1, h2⟩ := RFs.look (List.nodup_cons.mp nd).2 b e e2
    have hne : f ≠ n := fun z => (List.nodup_cons.mp nd).1 (z ▸ List.mem_of_getElem? e)
    refine ⟨w, ?_, h2⟩
    have hb : (f == n) = false := beq_eq_false_iff_ne.mpr hne
    rw [List.lookup_cons, hb]
    exact h1
theorem RFs.none {K : PySem.W.Frag} {ι : List Addr} {H : Hp} {m : Str} : ∀ {ns : List Str} {fs : List IV} {ws : List (Str × V)}, RFs K ι H ns fs ws → m ∉ ns → ws.lookup m = none
  | _, [], _, r, _ => by unfold RFs at r; subst r; rfl
  | [], _ :: _, _, r, _ => by unfold RFs at r; exact r.elim
  | n :: ns, y :: fs, _, ⟨v, r, q, a, b⟩, hm => by
    subst q
    have hb : (m == n) = false := beq_eq_false_iff_ne.mpr fun z => hm (z ▸ List.mem_cons_self)
    rw [List.lookup_cons, hb]
    exact RFs.none b fun z => hm (List.mem_cons_of_mem _ z)
theorem RFs.len {K : PySem.W.Frag} {ι : List Addr} {H : Hp} : ∀ {ns : List Str} {fs : List IV} {ws : List (Str × V)}, RFs K ι H ns fs ws → ws.length = fs.length ∧ fs.length ≤ ns.length
  | _, [], _, r => by unfold RFs at r; subst r; exact ⟨rfl, Nat.zero_le _⟩
  | [], _ :: _, _, r => by unfold RFs at r; exact r.elim
  | n :: ns, y :: fs, _, ⟨v, r, q, a, b⟩ => by
    subst q
    obtain ⟨h1, h2⟩ := b.len
    exact ⟨by simp only [List.length_cons, h1], by simp only [List.length_cons]; omega⟩
/-- a field stored: its own place, or the next -/
def putI (j : Nat) (x : IV) (fs : List IV) : Option (List IV) := if j < fs.length then some (fs.set j x) else if j = fs.length then some (fs ++ [x]) else none
theorem RFs.put {K : PySem.W.Frag} {ι : List Addr} {H : Hp} {x : IV} {v : V} (rx : RV K ι H x v) : ∀ {ns : List Str} {fs fs' : List IV} {ws : List (Str × V)} {j : Nat} {f : Str}, ns.Nodup → RFs K ι H ns fs ws → ns[j]? = some f → putI j x fs = some fs' → RFs K ι H ns fs' (putF f v ws)
  | [], _, _, _, _, _, _, _, e, _ => by simp at e
  | n :: ns, [], fs', _, 0, f, nd, r, e, p => by
    unfold RFs at r
    subst r
    simp only [List.getElem?_cons_zero, Option.some.injEq] at e
    subst e
    unfold putI at p
    simp at p
    subst p
    exact ⟨v, [], rfl, rx, by unfold RFs; rfl⟩
  | n :: ns, [], fs', _, j + 1, f, nd, r, e, p => by
    unfold putI at p
    simp at p
  | n :: ns, y :: fs, fs', _, 0, f, nd, ⟨w, r, q, a, b⟩, e, p => by
    subst q
    simp only [List.getElem?_cons_zero, Option.some.injEq] at e
    subst e
    unfold putI at p
    simp at p
    subst p
    show RFs K ι H (n :: ns) (x :: fs) (if n = n then (n, v) :: r else _)
    rw [if_pos rfl]
    exact ⟨v, r, rfl, rx, b⟩
  | n :: ns, y :: fs, fs', _, j + 1, f, nd, ⟨w, r, q, a, b⟩, e, p => by
    subst q
    simp only [List.getElem?_cons_succ] at e
    have hne : ¬ n = f := fun z => (List.nodup_cons.mp nd).1 (z ▸ List.mem_of_getElem? e)
    show RFs K ι H (n :: ns) fs' (if n = f then (n, v) :: r else (n, w) :: putF f v r)
    rw [if_neg hne]
    have key : ∃ fs2, putI j x fs = some fs2 ∧ fs' = y :: fs2 := by
      unfold putI at p ⊢
      simp only [List.length_cons, Nat.add_lt_add_iff_right, Nat.add_right_cancel_iff, List.set_cons_succ] at p
      split at p
      · rename_i z
        rw [if_pos z]
        exact ⟨_, rfl, (Option.some.inj p).symm⟩
      · rename_i z
        rw [if_neg z]
        split at p
        · rename_i z2
          rw [if_pos z2]
          exact ⟨_, rfl, (Option.some.inj p).symm⟩
        · cases p
    obtain ⟨fs2, h1, h2⟩ := key
    subst h2
    exact ⟨w, _, rfl, a, RFs.put rx (List.nodup_cons.mp nd).2 b e h1⟩

/-- o.f, o of the class C, f its j-th attribute -/
def mFld (C : String) (j : Nat) (fa : ME) : ME := fun e h => (fa e h).bind fun x h1 => match x with
  | .ref n => match h1[n]? with
    | some (.ins D fs) => if D = C then (match fs[j]? with
      | some v => .ok v h1
      | none => .bad) else .bad
    | _ => .bad
  | _ => .bad
theorem se_fld {C : String} {j : Nat} {f : Str} (hK : X.K = G.K) (kc : KC G C) (hf : (G.lay C)[j]? = some f) (ho : SE G X W o fa) (hb : attributeBase o f X.env (eval o X.env) = eval o X.env := by rfl) : SE G X W (.Attribute o f pos) (mFld C j fa) := by
  refine pe_weak (pe_fld ho hb) fun σ H Q hq => ?_
  obtain ⟨ι, e, h, en, rh, q⟩ := hq
  refine TI.bind (Wh := fun c d H' => W c d σ H') en rh q fun x v ι1 h1 H1 a1 en1 r1 q1 => ?_
  cases x <;> try exact q1.elim
  rename_i n
  rw [ref_iff] at r1
  obtain ⟨a, ia, rfl⟩ := r1
  simp only at q1
  split at q1
  · rename_i D fs z0
    split at q1
    · rename_i hD
      subst hD
      split at q1
      · rename_i y z1
        obtain ⟨dx, ws, hq, rf⟩ := a1.rh.at z0 ia
        obtain ⟨v, hl, rv⟩ := rf.look kc.nd hf z1
        rw [hK]
        exact ⟨a, _, dx, ws, v, rfl, hq, kc.cls, kc.na f (List.mem_of_getElem? hf), hl, q1 _ _ _ (Aft.refl a1.rh) rv⟩
      · exact q1.elim
    · exact q1.elim
  · exact q1.elim
/-- o.m(..) -/
def mMeth (C : String) (n : Nat) (m : Fn) (fa : ME) (fs : IE → M (List IV)) : ME := fun e h => (fa e h).bind fun x h1 => match x with
  | .ref r => match h1[r]? with
    | some (.ins D _) => if D = C then (fs e h1).bind fun xs h2 => if (x :: xs).length = n then m (x :: xs) h2 else .bad else .bad
    | _ => .bad
  | _ => .bad
theorem se_meth {C : String} {mn : Str} {pl : Sem Bool} (Cn : Can G X W k) (kc : KC G C) (hme : Meth G.K (He.ga G.K (Str.ofString C)) mn f) (hno : mn ∉ G.lay C) (F : Kn G X.prog X.w X.mg X.base k f n m) (ho : SE G X W o fa) (ha : SA G X W (e :: es) fs)
    (hst : starEach (e :: es) X.env = (false, eval e X.env) :: starEach es X.env := by rfl) (hpl : (backTo pos (starEach es X.env)).any (·.1) = false := by rfl)
    (ht : eval (.Call (.Attribute o mn apos) (e :: es) [] pos) X.env = (do
      let ov ← eval o X.env
      standAt apos.atName
      let (f, first) ← holding [ov] (getMethod ov mn pl)
      callWith pos f first (backTo pos (starEach (e :: es) X.env)) (backToKw pos (keywordEach [] X.env))) := by rfl) :
    SE G X W (.Call (.Attribute o mn apos) (e :: es) [] pos) (mMeth C n m fa fs) := by
  refine ⟨fun pins s σ H Q I hq => ?_⟩
  obtain ⟨ι, e0, h, en, rh, q⟩ := hq
  have hT := TI.bind (Wh := fun c d H' => W c d σ H') (R := fun v H1 => ∃ (a : Addr) (dx : Addr) (ws : List (Str × V)), v = .ref a ∧ H1 a = some (.ins (He.ga G.K (Str.ofString C)) dx ws) ∧ ws.lookup mn = none ∧ TIs G W fs σ H1 fun vs H2 => spI G n m (v :: vs) H2 Q (WE W σ)) en rh q (fun x v ι1 h1 H1 a1 en1 r1 q1 => ?_)
  · refine PySem.W.methodCall_KW (pl := pl) (thn (ho.run pins s σ H _ I hT) fun u s1 ⟨x, H1, I1, rx, a, dx, fs, ex, ea, l, q⟩ => ?_) ht
    subst ex
    obtain rfl : u = Value.ref a := rx
    rw [← Cn.hK] at ea
    refine getmeth_ok I1 ea (by rw [Cn.hK]; exact kc.cls) (by rw [Cn.hK]; exact hme) l ?_
    refine PySem.W.callWith_K (first := [.ref a]) (h₀ := X.base) I.ok.mod.kin (Cn.hK ▸ F.kp) (thn (ha.run pos pins s1 σ H1 _ I1 q) fun us s2 ⟨vs, H2, I2, r, q2⟩ => ⟨I2.kIn, ?_⟩) hst hpl
    exact run_kn Cn F (us := .ref a :: us) (vs := .ref a :: vs) I2 (.cons rfl r) q2
  · cases x <;> try exact q1.elim
    rename_i r
    have r1' := r1
    rw [ref_iff] at r1
    obtain ⟨a, ia, rfl⟩ := r1
    simp only at q1
    split at q1
    · rename_i D fl z0
      split at q1
      · rename_i hD
        subst hD
        obtain ⟨dx, ws, hq, rf⟩ := a1.rh.at z0 ia
        refine ⟨a, dx, ws, rfl, hq, rf.none hno, ?_⟩
        refine TIs.bind en1 a1.rh q1 fun xs vs ι2 h2 H2 a2 en2 r2 q2 => ?_
        split at q2
        · rename_i hn
          exact sp_of hn (RVs.cons (r1'.mono a2.pre a2.tl) r2) a2.rh q2
        · exact q2.elim
      · exact q1.elim
    · exact q1.elim
theorem se_meth0 {C : String} {mn : Str} {pl : Sem Bool} (Cn : Can G X W k) (kc : KC G C) (hme : Meth G.K (He.ga G.K (Str.ofString C)) mn f) (hno : mn ∉ G.lay C) (F : Kn G X.prog X.w X.mg X.base k f n m) (ho : SE G X W o fa)
    (ht : eval (.Call (.Attribute o mn apos) [] [] pos) X.env = (do
      let ov ← eval o X.env
      standAt apos.atName
      let (f, first) ← holding [ov] (getMethod ov mn pl)
      callWith pos f first (backTo pos (starEach [] X.env)) (backToKw pos (keywordEach [] X.env))) := by rfl) :
    SE G X W (.Call (.Attribute o mn apos) [] [] pos) (mMeth C n m fa mNil) := by
  refine ⟨fun pins s σ H Q I hq => ?_⟩
  obtain ⟨ι, e0, h, en, rh, q⟩ := hq
  have hT := TI.bind (Wh := fun c d H' => W c d σ H') (R := fun v H1 => ∃ (a : Addr) (dx : Addr) (ws : List (Str × V)), v = .ref a ∧ H1 a = some (.ins (He.ga G.K (Str.ofString C)) dx ws) ∧ ws.lookup mn = none ∧ spI G n m [v] H1 Q (WE W σ)) en rh q (fun x v ι1 h1 H1 a1 en1 r1 q1 => ?_)
  · refine PySem.W.methodCall_KW (pl := pl) (thn (ho.run pins s σ H _ I hT) fun u s1 ⟨x, H1, I1, rx, a, dx, fs, ex, ea, l, q⟩ => ?_) ht
    subst ex
    obtain rfl : u = Value.ref a := rx
    rw [← Cn.hK] at ea
    refine getmeth_ok I1 ea (by rw [Cn.hK]; exact kc.cls) (by rw [Cn.hK]; exact hme) l ?_
    exact PySem.W.callWith_K0 (first := [.ref a]) I1.kIn (Cn.hK ▸ F.kp) (run_kn Cn F (us := [.ref a]) (vs := [.ref a]) I1 (.cons rfl .nil) q)
  · cases x <;> try exact q1.elim
    rename_i r
    have r1' := r1
    rw [ref_iff] at r1
    obtain ⟨a, ia, rfl⟩ := r1
    simp only at q1
    split at q1
    · rename_i D fl z0
      split at q1
      · rename_i hD
        subst hD
        obtain ⟨dx, ws, hq, rf⟩ := a1.rh.at z0 ia
        refine ⟨a, dx, ws, rfl, hq, rf.none hno, ?_⟩
        simp only [mNil, Res.bind] at q1
        split at q1
        · rename_i hn
          exact sp_of hn (RVs.one r1') a1.rh q1
        · exact q1.elim
      · exact q1.elim
    · exact q1.elim
/-- C(..) -/
def mMake (C : String) (n : Nat) (m : Fn) (fs : IE → M (List IV)) : ME := fun e h => (fs e h).bind fun xs h1 => if xs.length + 1 = n then (m (.ref h1.length :: xs) (h1 ++ [.ins C []])).bind fun v h2 => match v with
  | .non => .ok (.ref h1.length) h2
  | _ => .bad
  else .bad
theorem run_mk {C : String} {pins : List (Addr × Obj)} {σ : L2.St} {H : Hp} {s : Shared} {Q : VK} {us : List Value} {vs : List V} (Cn : Can G X W (k + 1)) (M : Mk G.K (He.ga G.K (Str.ofString C)) f) (F : Kn G X.prog X.w X.mg X.base k f n m) (I : Inv X pins σ H s) (r : Vals vs us) (hl0 : vs.length + 1 = n)
    (h : ∀ x dx, H x = none → H dx = none → dx ≠ x → spI G n m (.ref x :: vs) (upd (upd H dx (.own x)) x (.ins (He.ga G.K (Str.ofString C)) dx [])) (fun v H2 => v = .non ∧ Q (.ref x) H2) (WE W σ)) :
    wpAny (model X.prog X.w) X.A (call (.ref (He.ga G.K (Str.ofString C))) us) (EP X pins σ Q) X.xe s := by
  obtain ⟨fd, ps, hn, F, hb⟩ := F.ex
  rw [← Cn.hK] at F hb M h ⊢
  have hq := h (s.heap.objs.size + 1) s.heap.objs.size (I.hok.fresh (Nat.le_succ _)) (I.hok.fresh (Nat.le_refl _)) (Nat.ne_of_lt (Nat.lt_succ_self _))
  have I2 := Inv.made (C := He.ga X.K (Str.ofString C)) I
  have r2 : Vals (V.ref (s.heap.objs.size + 1) :: vs) (Value.ref (s.heap.objs.size + 1) :: us) := .cons rfl r
  have hl : (Value.ref (s.heap.objs.size + 1) :: us).length = ps.length := by
    rw [hn, ← hl0, List.length_cons, r.length]
  have b := hb _ (Value.ref (s.heap.objs.size + 1) :: us) I2.kIn (by rw [List.append_nil]; exact hl)
  rw [List.append_nil] at b
  refine wpAny_call (make_map (f := f) I.kIn M.makes M.init (beq_iff_eq.mp M.fn) (codeAny_mono (F.run _ X.stack _ _ ⟨Value.ref (s.heap.objs.size + 1) :: us, []⟩ (Value.ref (s.heap.objs.size + 1) :: us) _ _ (WE W σ) (Cn.room.make (He.ga X.K (Str.ofString C)) us [])
    (I2.env0.make (He.ga X.K (Str.ofString C)) us []) b r2 hq) fun r s' hq' => ?_))
  cases r with
  | error e => exact Cn.pass σ pins _ _ e s' I2 hq'
  | ok fl =>
    cases fl with
    | ret u =>
      obtain ⟨v, H', I3, rv, ev, q3⟩ := I2.after hq'
      subst ev
      exact ⟨rv, ⟨V.ref (s.heap.objs.size + 1), H', I3, rfl, q3⟩⟩
    | next => exact False.elim hq'
    | brk => exact False.elim hq'
    | cont => exact False.elim hq'
theorem new_ins {ι : List Addr} {h : IH} {H : Hp} {C : String} {q dx : Addr} (r : RH G ι h H) (hp : H q = none) (hd : H dx = none) (hne : dx ≠ q) :
    Aft G ι H (ι ++ [q]) (h ++ [.ins C []]) (upd (upd H dx (.own q)) q (.ins (He.ga G.K (Str.ofString C)) dx [])) := by
  have a1 := Aft.fresh r hd (.own q)
  have hp' : upd H dx (.own q) q = none := by rw [upd_ne (Ne.symm hne)]; exact hp
  exact a1.trans (Aft.place a1.rh hp' _ _ ⟨dx, [], upd_same, by unfold RFs; rfl⟩)
theorem make_sp {C : String} {σ : L2.St} {H : Hp} {Q : VK} {ι : List Addr} {h : IH} {xs : List IV} {vs : List V} (hn : xs.length + 1 = n) (r : RVs G.K ι H xs vs) (rh : RH G ι h H)
    (p : PR G (fun c d H' => W c d σ H') ι H Q ((m (.ref h.length :: xs) (h ++ [.ins C []])).bind fun v h2 => match v with
      | .non => .ok (.ref h.length) h2
      | _ => .bad)) : ∀ x dx, H x = none → H dx = none → dx ≠ x → spI G n m (.ref x :: vs) (upd (upd H dx (.own x)) x (.ins (He.ga G.K (Str.ofString C)) dx [])) (fun v H2 => v = .non ∧ Q (.ref x) H2) (WE W σ) := by
  intro q dx hp hd hne
  have af := new_ins (C := C) rh hp hd hne
  refine ⟨by rw [List.length_cons, ← r.len]; exact hn, _, _, _, RVs.cons (ref_iff.mpr ⟨q, ref_len rh, rfl⟩) (r.mono af.pre af.tl), af.rh, ?_⟩
  cases z : m (.ref h.length :: xs) (h ++ [.ins C []]) with
  | ok v h2 =>
    rw [z] at p
    cases v <;> try exact p.elim
    refine fun ι' H' v a rv => ⟨non_iff.mp rv, p ι' H' _ (af.trans a) (ref_iff.mpr ⟨q, pre_get a.pre (ref_len rh), rfl⟩)⟩
  | exc c h2 =>
    rw [z] at p
    exact fun ι' H' a => p ι' H' (af.trans a)
  | bad => rw [z] at p; exact p
theorem se_make {C : String} {x : Str} (Cn : Can G X W (k + 1)) (M : Mk G.K (He.ga G.K (Str.ofString C)) f) (F : Kn G X.prog X.w X.mg X.base k f n m) (hg : Gl X x) (hm : X.mg x = some (.ref (He.ga G.K (Str.ofString C)))) (ha : SA G X W (e :: es) fs) (hdb : (x == ("__debug__" : Str)) = false := by decide)
    (he : starEach (e :: es) X.env = (false, eval e X.env) :: starEach es X.env := by rfl) (hpl : (backTo pos (starEach es X.env)).any (·.1) = false := by rfl) : SE G X W (.Call (.Name x p) (e :: es) [] pos) (mMake C n m fs) := by
  refine ⟨fun pins s σ H Q I hq => ?_⟩
  obtain ⟨ι, e0, h, en, rh, q⟩ := hq
  have hT := TIs.bind (R := fun vs H1 => vs.length + 1 = n ∧ ∀ x dx, H1 x = none → H1 dx = none → dx ≠ x → spI G n m (.ref x :: vs) (upd (upd H1 dx (.own x)) x (.ins (He.ga G.K (Str.ofString C)) dx [])) (fun v H2 => v = .non ∧ Q (.ref x) H2) (WE W σ)) en rh q (fun xs vs ι1 h1 H1 a1 en1 r1 q1 => by
    split at q1
    · rename_i hn
      exact ⟨by rw [← r1.len]; exact hn, make_sp hn r1 a1.rh q1⟩
    · exact q1.elim)
  refine wpAny_Call_Name_kw (ld_glob I hg hm ?_ hdb)
  refine PySem.W.callWith_K (h₀ := X.base) I.ok.mod.kin (Cn.hK ▸ M.kp) (thn (ha.run pos pins s σ H _ I hT) fun us s1 ⟨vs, H1, I1, r, q⟩ => ⟨I1.kIn, ?_⟩) he hpl
  exact run_mk Cn M F I1 r q.1 q.2
theorem se_make0 {C : String} {x : Str} (Cn : Can G X W (k + 1)) (M : Mk G.K (He.ga G.K (Str.ofString C)) f) (F : Kn G X.prog X.w X.mg X.base k f n m) (hg : Gl X x) (hm : X.mg x = some (.ref (He.ga G.K (Str.ofString C)))) (hdb : (x == ("__debug__" : Str)) = false := by decide) : SE G X W (.Call (.Name x p) [] [] pos) (mMake C n m mNil) := by
  refine ⟨fun pins s σ H Q I hq => ?_⟩
  obtain ⟨ι, e0, h, en, rh, q⟩ := hq
  simp only [mMake, mNil, Res.bind] at q
  refine wpAny_Call_Name_kw (ld_glob I hg hm ?_ hdb)
  split at q
  · rename_i hn
    exact PySem.W.callWith_K0 I.kIn (Cn.hK ▸ M.kp) (run_mk Cn M F (us := []) (vs := []) I .nil hn (make_sp hn RVs.nil rh q))
  · exact q.elim

/-! ### statements -/
def Fl.thn (r : Fl) (f : MS) : Fl := match r with
  | .nx e h => f e h
  | r => r
@[simp] def sSeq (f g : MS) : MS := fun e h => (f e h).thn g
@[simp] def sSkip : MS := fun e h => .nx e h
theorem PF.after {ι ι1 : List Addr} {H H1 : Hp} {D : Ends} {h1 : IH} {r : Fl} (a : Aft G ι H ι1 h1 H1) (q : PF G W ι H D r) : PF G W ι1 H1 D r := by
  cases r with
  | nx e h => exact fun ι' σ' H' b en => q ι' σ' H' (a.trans b) en
  | rt v h => exact fun ι' σ' H' b en => q ι' σ' H' (a.trans b) en
  | bk e h => exact fun ι' σ' H' b en => q ι' σ' H' (a.trans b) en
  | ct e h => exact fun ι' σ' H' b en => q ι' σ' H' (a.trans b) en
  | ex c e h => exact fun ι' σ' H' b en => q ι' σ' H' (a.trans b) en
  | bad => exact q
theorem sb_nil : SB G X W [] sSkip := pss_weak pss_nil fun D σ H ⟨ι, e, h, en, rh, q⟩ => q ι σ H (Aft.refl rh) en
theorem sb_cons {s : Stmt} {r : List Stmt} {f g : MS} (h1 : SS G X W s f) (h2 : SB G X W r g) : SB G X W (s :: r) (sSeq f g) := by
  refine pss_weak (pss_cons h1 h2) fun D σ H hq => ?_
  obtain ⟨ι, e, h, en, rh, q⟩ := hq
  refine ⟨ι, e, h, en, rh, ?_⟩
  simp only [sSeq] at q
  cases z : f e h with
  | nx e' h' =>
    rw [z] at q
    exact fun ι' σ' H' a en' => ⟨ι', e', h', en', a.rh, PF.after a q⟩
  | rt v h => rw [z] at q; exact q
  | bk e h => rw [z] at q; exact q
  | ct e h => rw [z] at q; exact q
  | ex c e h => rw [z] at q; exact q
  | bad => rw [z] at q; exact q
theorem sb_one {s : Stmt} {f : MS} (h1 : SS G X W s f) : SB G X W [s] f := pss_one h1
/-- from a value to a statement's end -/
def Res.st (r : Res IV) (e : IE) (f : IV → MS) : Fl := match r with
  | .ok x h => f x e h
  | .exc c h => .ex c e h
  | .bad => .bad
theorem TI.st {σ : L2.St} {H : Hp} {R : VK} {ι : List Addr} {e : IE} {h : IH} {k : IV → MS} {D : Ends} (en : REn G.K ι H e σ) (rh : RH G ι h H)
    (p : PF G W ι H D (Res.st (fa e h) e k))
    (hk : ∀ x v ι1 h1 H1, Aft G ι H ι1 h1 H1 → REn G.K ι1 H1 e σ → RV G.K ι1 H1 x v → PF G W ι1 H1 D (k x e h1) → R v H1) : TI G W fa σ H R := by
  refine ⟨ι, e, h, en, rh, ?_⟩
  cases q : fa e h with
  | ok x h1 =>
    rw [q] at p
    exact fun ι1 H1 v a r => hk x v ι1 h1 H1 a (en.mono a.pre a.tl) r (PF.after a p)
  | exc c h1 =>
    rw [q] at p
    exact fun ι' H' a => p ι' σ H' a (en.mono a.pre a.tl)
  | bad =>
    rw [q] at p
    exact p
@[simp] def sExpr (f : ME) : MS := fun e h => (f e h).st e fun _ e h => .nx e h
@[simp] def sRet (f : ME) : MS := fun e h => (f e h).st e fun x _ h => .rt x h
@[simp] def sRetN : MS := fun _ h => .rt .non h
theorem ss_expr (ha : SE G X W a fa) (hs : swapsWith a none pos.line X.env = pure false := by rfl) : SS G X W (.Expr a pos) (sExpr fa) := by
  refine ps_weak (ps_expr ha hs) fun D σ H hq => ?_
  obtain ⟨ι, e, h, en, rh, q⟩ := hq
  exact TI.st en rh q fun x v ι1 h1 H1 a1 en1 r1 q1 => q1 ι1 σ H1 (Aft.refl a1.rh) en1
theorem ss_ret (ha : SE G X W a fa) : SS G X W (.Return (some a) pos) (sRet fa) := by
  refine ps_weak (ps_ret ha) fun D σ H hq => ?_
  obtain ⟨ι, e, h, en, rh, q⟩ := hq
  exact TI.st en rh q fun x v ι1 h1 H1 a1 en1 r1 q1 => q1 ι1 v H1 (Aft.refl a1.rh) r1
theorem ss_retN : SS G X W (.Return none pos) sRetN := ps_weak ps_retN fun D σ H ⟨ι, e, h, en, rh, q⟩ => q ι .non H (Aft.refl rh) (non_iff.mpr rfl)
theorem ss_pass : SS G X W (.Pass pos) sSkip := ps_weak ps_pass fun D σ H ⟨ι, e, h, en, rh, q⟩ => q ι σ H (Aft.refl rh) en
theorem ss_doc {x j pos pos'} : SS G X W (.Expr (.Constant (.str x) j pos) pos') sSkip := ps_weak ps_doc fun D σ H ⟨ι, e, h, en, rh, q⟩ => q ι σ H (Aft.refl rh) en
@[simp] def sBreak : MS := fun e h => .bk e h
theorem ss_break : SS G X W (.Break pos) sBreak := ps_weak ps_break fun D σ H ⟨ι, e, h, en, rh, q⟩ => q ι σ H (Aft.refl rh) en
def sIf (f : ME) (g g' : MS) : MS := fun e h => (f e h).st e fun x e h => match x with
  | .bl true => g e h
  | .bl false => g' e h
  | _ => .bad
theorem ss_if {f g : MS} {as bs : List Stmt} (hc : SC G X W c fc) (ha : SB G X W as f) (hb : SB G X W bs g) : SS G X W (.If c as bs pos) (sIf fc f g) := by
  refine ps_weak (ps_if hc ha hb) fun D σ H hq => ?_
  obtain ⟨ι, e, h, en, rh, q⟩ := hq
  refine ⟨ι, e, h, en, rh, ?_⟩
  simp only [sIf] at q
  cases z : fc e h with
  | ok x h' =>
    rw [z] at q
    cases x <;> try exact q.elim
    rename_i k
    cases k with
    | true => exact fun ι' H' a => iteT ⟨ι', e, h', en.mono a.pre a.tl, a.rh, PF.after a q⟩
    | false => exact fun ι' H' a => iteF ⟨ι', e, h', en.mono a.pre a.tl, a.rh, PF.after a q⟩
  | exc c h' => rw [z] at q; exact fun ι' H' a => q ι' σ H' a (en.mono a.pre a.tl)
  | bad => rw [z] at q; exact q

/-! ### targets -/
/-- a target's meaning: a value is stored -/
abbrev MG := IV → MS
def Fl.only (fl : Fl) (P : IE → IH → Prop) : Prop := match fl with
  | .nx e' h' => P e' h'
  | _ => False
def TGI (G : Gx) (W : WX) (g : MG) : TG := fun v σ H Q => ∃ ι e h x, REn G.K ι H e σ ∧ RH G ι h H ∧ RV G.K ι H x v ∧ (g x e h).only fun e' h' => ∀ ι' σ' H', Aft G ι H ι' h' H' → REn G.K ι' H' e' σ' → Q σ' H'
def SG (G : Gx) (X : Cx) (W : WX) (t : Expr) (g : MG) : Prop := PG X t (TGI G W g)
def TGIs (G : Gx) (W : WX) (g : List IV → MS) : TGs := fun vs σ H Q => ∃ ι e h xs, REn G.K ι H e σ ∧ RH G ι h H ∧ RVs G.K ι H xs vs ∧ (g xs e h).only fun e' h' => ∀ ι' σ' H', Aft G ι H ι' h' H' → REn G.K ι' H' e' σ' → Q σ' H'
def SGs (G : Gx) (X : Cx) (W : WX) (ts : List Expr) (g : List IV → MS) : Prop := PGs X ts (TGIs G W g)
theorem pg_weak {t : Expr} {u u' : TG} (q : PG X t u) (h : ∀ v σ H Q, u' v σ H Q → u v σ H Q) : PG X t u' := ⟨fun pins s σ H v uu Q I r z => q.run pins s σ H v uu Q I r (h v σ H Q z)⟩
theorem pgs_weak {t : List Expr} {u u' : TGs} (q : PGs X t u) (h : ∀ v σ H Q, u' v σ H Q → u v σ H Q) : PGs X t u' := ⟨fun pins s σ H v uu Q I r z => q.run pins s σ H v uu Q I r (h v σ H Q z)⟩
@[simp] def gName' (i : Nat) : MG := fun x e h => .nx (e.set i (some x)) h
theorem sg_name (i : Nat) (hp : PG X (.Name x pos) (gName i)) : SG G X W (.Name x pos) (gName' i) := pg_weak hp fun v σ H Q ⟨ι, e, h, x, en, rh, r, q⟩ => q ι _ H (Aft.refl rh) (en.set i ⟨v, rfl, r⟩)
@[simp] def gsNil : List IV → MS := fun xs e h => match xs with
  | [] => .nx e h
  | _ => .bad
def gsCons (g : MG) (gs : List IV → MS) : List IV → MS := fun xs e h => match xs with
  | x :: xs => (g x e h).thn (gs xs)
  | [] => .bad
theorem sgs_nil : SGs G X W [] gsNil := pgs_weak pgs_nil fun v σ H Q ⟨ι, e, h, xs, en, rh, r, q⟩ => by
  cases xs with
  | nil =>
    unfold RVs at r
    exact ⟨r, q ι _ H (Aft.refl rh) en⟩
  | cons x xs => exact q.elim
theorem sgs_cons {t : Expr} {ts : List Expr} {g : MG} {gs : List IV → MS} (h1 : SG G X W t g) (h2 : SGs G X W ts gs) (hs : (assignEach (t :: ts) X.env).map (·.2) = assign t X.env :: (assignEach ts X.env).map (·.2) := by rfl) : SGs G X W (t :: ts) (gsCons g gs) := pgs_weak (pgs_cons h1 h2 hs) fun v σ H Q ⟨ι, e, h, xs, en, rh, r, q⟩ => by
  cases xs with
  | nil => exact q.elim
  | cons x xs =>
    unfold RVs at r
    obtain ⟨v, w, rfl, rv, rs⟩ := r
    refine ⟨v, w, rfl, ι, e, h, x, en, rh, rv, ?_⟩
    simp only [gsCons] at q
    cases z : g x e h with
    | nx e' h' =>
      rw [z] at q
      simp only [Fl.thn] at q
      refine fun ι' σ' H' a en' => ⟨ι', e', h', xs, en', a.rh, rs.mono a.pre a.tl, ?_⟩
      cases y : gs xs e' h' with
      | nx e2 h2 => rw [y] at q; exact fun ι2 σ2 H2 b en2 => q ι2 σ2 H2 (a.trans b) en2
      | _ => rw [y] at q; exact q
    | _ => rw [z] at q; exact q
@[simp] def gTup' (n : Nat) (gs : List IV → MS) : MG := fun x e h => match x with
  | .tup xs => if xs.length = n then gs xs e h else .bad
  | _ => .bad
theorem sg_tup {ts : List Expr} {kk : Nat} {n : Nat} {gs : List IV → MS} (hp : ∀ t : TGs, PGs X ts t → PG X (.Tuple ts kk pos) (gTup X.K n t)) (hK : X.K = G.K) (h : SGs G X W ts gs) : SG G X W (.Tuple ts kk pos) (gTup' n gs) := pg_weak (hp _ h) fun v σ H Q ⟨ι, e, h, x, en, rh, r, q⟩ => by
  cases x <;> try exact q.elim
  rename_i xs
  rw [tup_iff] at r
  obtain ⟨a, vs, rfl, hq, rs⟩ := r
  simp only [gTup'] at q
  by_cases hn : xs.length = n
  · rw [if_pos hn] at q
    rw [hK]
    exact ⟨a, vs, rfl, (SqT.of hq), by rw [← rs.len]; exact hn, ι, e, h, xs, en, rh, rs, q⟩
  · rw [if_neg hn] at q
    exact q.elim
@[simp] def gLst' (n : Nat) (gs : List IV → MS) : MG := fun x e h => match x with
  | .ref k => match h[k]? with
    | some (.lst xs) => if xs.length = n then gs xs e h else .bad
    | _ => .bad
  | _ => .bad
theorem sg_lst {ts : List Expr} {kk : Nat} {n : Nat} {gs : List IV → MS} (hp : ∀ t : TGs, PGs X ts t → PG X (.Tuple ts kk pos) (gLst X.K n t)) (hK : X.K = G.K) (h : SGs G X W ts gs) : SG G X W (.Tuple ts kk pos) (gLst' n gs) := pg_weak (hp _ h) fun v σ H Q ⟨ι, e, h, x, en, rh, r, q⟩ => by
  cases x <;> try exact q.elim
  rename_i k
  rw [ref_iff] at r
  obtain ⟨a, ia, rfl⟩ := r
  simp only [gLst'] at q
  cases z0 : h[k]? with
  | none => rw [z0] at q; exact q.elim
  | some o =>
    rw [z0] at q
    cases o <;> try exact q.elim
    rename_i xs
    obtain ⟨vs, hq, rs⟩ := rh.at z0 ia
    simp only at q
    by_cases hn : xs.length = n
    · rw [if_pos hn] at q
      rw [hK]
      exact ⟨a, vs, rfl, SqL.of hq, by rw [← rs.len]; exact hn, ι, e, h, xs, en, rh, rs, q⟩
    · rw [if_neg hn] at q
      exact q.elim
@[simp] def gFz' (n : Nat) (gs : List IV → MS) : MG := fun x e h => match x with
  | .fz xs => if xs.length = n then gs xs e h else .bad
  | _ => .bad
theorem sg_fzl {ts : List Expr} {kk : Nat} {n : Nat} {gs : List IV → MS} (hp : ∀ t : TGs, PGs X ts t → PG X (.Tuple ts kk pos) (gLst X.K n t)) (hK : X.K = G.K) (h : SGs G X W ts gs) : SG G X W (.Tuple ts kk pos) (gFz' n gs) := pg_weak (hp _ h) fun v σ H Q ⟨ι, e, h, x, en, rh, r, q⟩ => by
  cases x <;> try exact q.elim
  rename_i xs
  obtain ⟨a, vs, rfl, hq, rs⟩ := fz_iff.mp r
  simp only [gFz'] at q
  by_cases hn : xs.length = n
  · rw [if_pos hn] at q
    rw [hK]
    exact ⟨a, vs, rfl, hq.sq, by rw [← rs.len]; exact hn, ι, e, h, xs, en, rh, rs, q⟩
  · rw [if_neg hn] at q
    exact q.elim
/-- xs[i] = v -/
def gSubL (fo fi : ME) : MG := fun x e h => match fo e h with
  | .ok (.ref n) h1 => match fi e h1 with
    | .ok (.int k) h2 => match h2[n]? with
      | some (.lst xs) => match ixN xs.length k with
        | some j => .nx e (h2.set n (.lst (xs.set j x)))
        | none => .bad
      | _ => .bad
    | _ => .bad
  | _ => .bad
theorem RVs.set {K : PySem.W.Frag} {ι : List Addr} {H : Hp} {x : IV} {v : V} (rx : RV K ι H x v) : ∀ {xs : List IV} {vs : List V} (j : Nat), RVs K ι H xs vs → RVs K ι H (xs.set j x) (vs.set j v)
  | [], _, _, r => by unfold RVs at r; subst r; exact RVs.nil
  | _ :: _, _, 0, r => by
    unfold RVs at r
    obtain ⟨w, ws, rfl, _, rs⟩ := r
    exact RVs.cons rx rs
  | _ :: _, _, j + 1, r => by
    unfold RVs at r
    obtain ⟨w, ws, rfl, rw', rs⟩ := r
    exact RVs.cons rw' (RVs.set rx j rs)
theorem set_lst {ι : List Addr} {h : IH} {H : Hp} {n : Nat} {q : Addr} {xs ys : List IV} {ws : List V} (r : RH G ι h H) (e : h[n]? = some (.lst xs)) (iq : ι[n]? = some q) (ry : RVs G.K ι H ys ws) : Aft G ι H ι (h.set n (.lst ys)) (upd H q (.lst ws)) := by
  obtain ⟨vs, hq, rs⟩ := r.at e iq
  have tl : TL G.K H (upd H q (.lst ws)) := TL.of (fun b zs z => by
    rw [upd_ne (fun y => by rw [y, hq] at z; cases z)]; exact z) (fun b o u z => by rw [upd_ne (fun y => by rw [y, hq] at z; cases z)]; exact z) (fun b φ z => by rw [upd_ne (fun y => by rw [y, hq] at z; cases z)]; exact z)
  exact Aft.set r iq hq trivial _ _ ⟨_, upd_same, ry.mono (List.prefix_refl _) tl⟩ (List.getElem?_eq_some_iff.mp e).1
theorem sg_subL {i : Expr} {fo fi : ME} (ho : SE G X W o fo) (hi : SE G X W i fi) (hp : ∀ (to ti : TE), PE X o to → PE X i ti → PG X (.Subscript o i pos) (L2.gSub to ti rSetL)) : SG G X W (.Subscript o i pos) (gSubL fo fi) := pg_weak (hp _ _ ho hi) fun v σ H Q ⟨ι, e, h, x, en, rh, r, q⟩ => by
  simp only [gSubL] at q
  split at q
  · rename_i n h1 z1
    refine ⟨ι, e, h, en, rh, ?_⟩
    rw [z1]
    intro ι1 H1 u1 a1 r1
    refine ⟨ι1, e, h1, en.mono a1.pre a1.tl, a1.rh, ?_⟩
    split at q
    · rename_i k h2 z2
      rw [z2]
      intro ι2 H2 u2 a2 r2
      split at q
      · rename_i xs z3
        split at q
        · rename_i j z4
          rw [ref_iff] at r1
          obtain ⟨qa, iq, rfl⟩ := r1
          have iq2 := pre_get a2.pre iq
          obtain ⟨vs, hq, rs⟩ := a2.rh.at z3 iq2
          refine ⟨qa, vs, k, j, rfl, int_iff.mp r2, hq, by rw [← rs.len]; exact z4, ?_⟩
          have a12 := a1.trans a2
          have af := set_lst a2.rh z3 iq2 (rs.set (r.mono a12.pre a12.tl) j)
          exact q _ _ _ (a12.trans af) (en.mono (a12.trans af).pre (a12.trans af).tl)
        · exact q.elim
      · exact q.elim
    · exact q.elim
  · exact q.elim
def sAsg (f : ME) (g : MG) : MS := fun e h => (f e h).st e fun x e h => match g x e h with
  | .nx e h => .nx e h
  | _ => .bad
theorem TGI.st {σ : L2.St} {H : Hp} {ι : List Addr} {e : IE} {h : IH} {x : IV} {v : V} {D : Ends} {g : MG} (en : REn G.K ι H e σ) (rh : RH G ι h H) (r : RV G.K ι H x v) (q : PF G W ι H D (match g x e h with
  | .nx e h => .nx e h
  | _ => .bad)) : TGI G W g v σ H D.nx := by
  refine ⟨ι, e, h, x, en, rh, r, ?_⟩
  cases z : g x e h with
  | nx e' h' => rw [z] at q; exact q
  | _ => rw [z] at q; exact q
theorem ss_asg {t : Expr} {g : MG} (ha : SE G X W a fa) (hg : SG G X W t g) (hs : swapsWithSole [t] a pos.line X.env = pure false := by rfl) (hw : swappedStores [t] a X.env = pure none := by rfl) (hl : (assignEach [t] X.env).map (·.2) = [assign t X.env] := by rfl) : SS G X W (.Assign [t] a pos) (sAsg fa g) := by
  refine ps_weak (ps_asg ha hg hs hw hl) fun D σ H hq => ?_
  obtain ⟨ι, e, h, en, rh, q⟩ := hq
  exact TI.st en rh q fun x v ι1 h1 H1 a1 en1 r1 q1 => TGI.st en1 a1.rh r1 q1
/-- o.f = v -/
def sFldI (C : String) (j : Nat) (fo fv : ME) : MS := fun e h => (fv e h).st e fun y e h1 => (fo e h1).st e fun x e h2 => match x with
  | .ref n => match h2[n]? with
    | some (.ins D fs) => if D = C then (match putI j y fs with
      | some fs' => .nx e (h2.set n (.ins C fs'))
      | none => .bad) else .bad
    | _ => .bad
  | _ => .bad
theorem set_ins {C : String} {ι : List Addr} {h : IH} {H : Hp} {n j : Nat} {q dx : Addr} {y : IV} {v : V} {fl fl' : List IV} {ws : List (Str × V)} {f : Str} (kc : KC G C) (hf : (G.lay C)[j]? = some f) (r : RH G ι h H) (e : h[n]? = some (.ins C fl)) (iq : ι[n]? = some q)
    (hq : H q = some (.ins (He.ga G.K (Str.ofString C)) dx ws)) (rf : RFs G.K ι H (G.lay C) fl ws) (ry : RV G.K ι H y v) (hp : putI j y fl = some fl') : Aft G ι H ι (h.set n (.ins C fl')) (upd H q (.ins (He.ga G.K (Str.ofString C)) dx (putF f v ws))) := by
  have tl : TL G.K H (upd H q (.ins (He.ga G.K (Str.ofString C)) dx (putF f v ws))) := TL.of (fun b zs z => by
    rw [upd_ne (fun y => by rw [y, hq] at z; cases z)]; exact z) (fun b o u z => by rw [upd_ne (fun y => by rw [y, hq] at z; cases z)]; exact z) (fun b φ z => by rw [upd_ne (fun y => by rw [y, hq] at z; cases z)]; exact z)
  exact Aft.set r iq hq trivial _ _ ⟨dx, _, upd_same, (rf.put ry kc.nd hf hp).mono (List.prefix_refl _) tl⟩ (List.getElem?_eq_some_iff.mp e).1
theorem ss_fld {C : String} {j : Nat} {f : Str} {v : Expr} {fo fv : ME} (hK : X.K = G.K) (kc : KC G C) (hf : (G.lay C)[j]? = some f) (ho : SE G X W o fo) (hv : SE G X W v fv) (hs : swapsWith v (some (.Attribute o f pos')) pos.line X.env = pure false := by rfl) : SS G X W (.Assign [.Attribute o f pos'] v pos) (sFldI C j fo fv) := by
  refine ps_weak (ps_fld ho hv hs) fun D σ H hq => ?_
  obtain ⟨ι, e, h, en, rh, q⟩ := hq
  refine TI.st en rh q fun y w ι1 h1 H1 a1 en1 r1 q1 => ?_
  refine TI.st en1 a1.rh q1 fun x u ι2 h2 H2 a2 en2 r2 q2 => ?_
  cases x <;> try exact q2.elim
  rename_i n
  rw [ref_iff] at r2
  obtain ⟨qa, iq, rfl⟩ := r2
  simp only at q2
  split at q2
  · rename_i E fl z0
    split at q2
    · rename_i hD
      subst hD
      split at q2
      · rename_i fl' z1
        obtain ⟨dx, ws, hq, rf⟩ := a2.rh.at z0 iq
        rw [hK]
        have hl := rf.len
        refine ⟨qa, _, dx, ws, rfl, hq, kc.cls, kc.na f (List.mem_of_getElem? hf), by have := kc.few; omega, ?_⟩
        have af := set_ins kc hf a2.rh z0 iq hq rf (r1.mono a2.pre a2.tl) z1
        exact q2 _ _ _ af (en2.mono af.pre af.tl)
      · exact q2.elim
    · exact q2.elim
  · exact q2.elim
/-- o.f op= v; rd by values -/
def sAugF (C : String) (j : Nat) (g : IV → IV → M IV) (fo fv : ME) : MS := fun e h => (fo e h).st e fun x e h1 => match x with
  | .ref n => match h1[n]? with
    | some (.ins D fs) => if D = C then (match fs[j]? with
      | some old => (fv e h1).st e fun y e h2 => match g old y h2 with
        | .ok z h3 => (match h3[n]? with
          | some (.ins D' fs') => if D' = C then (match putI j z fs' with
            | some fs2 => .nx e (h3.set n (.ins C fs2))
            | none => .bad) else .bad
          | _ => .bad)
        | _ => .bad
      | none => .bad) else .bad
    | _ => .bad
  | _ => .bad
theorem ss_augF {C : String} {j : Nat} {f : Str} {v : Expr} {fo fv : ME} {op : Operator} {rd : R2} {g : IV → IV → M IV} {tpos : Pos} (hK : X.K = G.K) (kc : KC G C) (hf : (G.lay C)[j]? = some f) (hop : InOp X op rd) (hm : Mean2 G rd g) (ho : SE G X W o fo) (hv : SE G X W v fv) : SS G X W (.AugAssign (.Attribute o f tpos) op v pos) (sAugF C j g fo fv) := by
  refine ps_weak (ps_fldaug ho hv hop) fun D σ H hq => ?_
  obtain ⟨ι, e, h, en, rh, q⟩ := hq
  refine TI.st en rh q fun x u ι1 h1 H1 a1 en1 r1 q1 => ?_
  cases x <;> try exact q1.elim
  rename_i n
  rw [ref_iff] at r1
  obtain ⟨qa, iq, rfl⟩ := r1
  simp only at q1
  split at q1
  · rename_i E fl z0
    split at q1
    · rename_i hD
      subst hD
      split at q1
      · rename_i old z1
        obtain ⟨dx, ws, hq, rf⟩ := a1.rh.at z0 iq
        obtain ⟨vo, hl, rvo⟩ := rf.look kc.nd hf z1
        rw [hK]
        refine ⟨qa, _, dx, ws, vo, rfl, hq, kc.cls, kc.na f (List.mem_of_getElem? hf), hl, ?_⟩
        refine TI.st en1 a1.rh q1 fun y w ι2 h2 H2 a2 en2 r2 q2 => ?_
        refine hm old y vo w ι2 h2 H2 _ (fun _ _ _ => False) (rvo.mono a2.pre a2.tl) r2 a2.rh ?_
        cases zg : g old y h2 with
        | exc c h' => rw [zg] at q2; exact q2.elim
        | bad => rw [zg] at q2; exact q2.elim
        | ok z h3 =>
          rw [zg] at q2
          intro ι3 H3 vz a3 r3
          simp only at q2
          split at q2
          · rename_i E' fl' z2
            split at q2
            · rename_i hD
              subst hD
              split at q2
              · rename_i fl2 z3
                have iq3 := pre_get (a2.pre.trans a3.pre) iq
                obtain ⟨dx', ws', hq', rf'⟩ := a3.rh.at z2 iq3
                have hl' := rf'.len
                refine ⟨dx', ws', hq', by have := kc.few; omega, ?_⟩
                have af := set_ins kc hf a3.rh z2 iq3 hq' rf' r3 z3
                exact q2 _ _ _ (a3.trans af) (en2.mono (a3.trans af).pre (a3.trans af).tl)
              · exact q2.elim
            · exact q2.elim
          · exact q2.elim
      · exact q1.elim
    · exact q1.elim
  · exact q1.elim
/-- x op= v -/
@[simp] def sAug (i : Nat) (g : IV → IV → M IV) (fv : ME) : MS := fun e h => match e[i]? with
  | some (some old) => (fv e h).st e fun y e h1 => match g old y h1 with
    | .ok z h2 => .nx (e.set i (some z)) h2
    | _ => .bad
  | _ => .bad
theorem ss_aug {i : Nat} {v : Expr} {fv : ME} {op : Operator} {rd : R2} {g : IV → IV → M IV} {pos' : Pos} (hp : ∀ te : TE, PE X v te → PS X (.AugAssign (.Name x pos') op v pos) (tAug i te rd)) (hm : Mean2 G rd g) (hv : SE G X W v fv) : SS G X W (.AugAssign (.Name x pos') op v pos) (sAug i g fv) := by
  refine ps_weak (hp _ hv) fun D σ H hq => ?_
  obtain ⟨ι, e, h, en, rh, q⟩ := hq
  simp only [sAug] at q
  split at q
  · rename_i old z0
    obtain ⟨vo, h1, rvo⟩ := en.get z0
    refine ⟨vo, h1, ?_⟩
    refine TI.st en rh q fun y w ι2 h2 H2 a2 en2 r2 q2 => ?_
    refine hm old y vo w ι2 h2 H2 _ (fun _ _ _ => False) (rvo.mono a2.pre a2.tl) r2 a2.rh ?_
    cases zg : g old y h2 with
    | exc c h' => rw [zg] at q2; exact q2.elim
    | bad => rw [zg] at q2; exact q2.elim
    | ok z h3 =>
      rw [zg] at q2
      exact fun ι3 H3 vz a3 r3 => q2 ι3 _ H3 a3 ((en2.mono a3.pre a3.tl).set i ⟨vz, rfl, r3⟩)
  · exact q.elim
end
end Sh

/-! Sh7: what is walked; for, while. -/
namespace Sh
open PySem PySem.Spec PyProof.Rows L2

/-- at a turn -/
inductive Nx where
  | stop
  | it (x : IV)
  | bad
/-- what a loop walks: no more than n turns; what comes at a turn -/
structure Sr where
  n : Nat
  nx : Nat → IH → Nx
abbrev MI := IE → M Sr
/-- the source's promise, from the state at (ι0, H0) on -/
def SrOk (G : Gx) (ι0 : List Addr) (H0 : Hp) (S : Sr) (J : It) : Prop :=
  ∀ i ι h H, RH G ι h H → ι0 <+: ι → TL G.K H0 H → match S.nx i h with
    | .stop => J.stop i H
    | .it x => J.go i H ∧ ∀ v H', J.yld i H v H' → ∃ ι', Aft G ι H ι' h H' ∧ RV G.K ι' H' x v
    | .bad => True
def PRi (G : Gx) (W : Value → Option Addr → Hp → Prop) (ι : List Addr) (H : Hp) (R : It → Hp → Prop) : Res Sr → Prop
  | .ok S h1 => ∀ ι1 H1 J, Aft G ι H ι1 h1 H1 → SrOk G ι1 H1 S J → R J H1
  | .exc c h1 => ∀ ι1 H1, Aft G ι H ι1 h1 H1 → W (.ref (He.ga G.K (Str.ofString c))) none H1
  | .bad => False
theorem PRi.after {G : Gx} {W : Value → Option Addr → Hp → Prop} {ι ι1 : List Addr} {H H1 : Hp} {R : It → Hp → Prop} {h1 : IH} {r : Res Sr} (a : Aft G ι H ι1 h1 H1) (p : PRi G W ι H R r) : PRi G W ι1 H1 R r := by
  cases r with
  | ok S h' => exact fun ι' H' J b r => p ι' H' J (a.trans b) r
  | exc c h' => exact fun ι' H' b => p ι' H' (a.trans b)
  | bad => exact p
def TII (G : Gx) (W : WX) (f : MI) : L2.TI := fun σ H R => ∃ ι e h, REn G.K ι H e σ ∧ RH G ι h H ∧ PRi G (fun c d H' => W c d σ H') ι H R (f e h)
def SI (G : Gx) (X : Cx) (W : WX) (tg iter : Expr) (f : MI) : Prop := PI X tg iter (TII G W f)
theorem pi_weak {X : Cx} {tg e : Expr} {t u : L2.TI} (p : PI X tg e t) (h : ∀ σ H R, u σ H R → t σ H R) : PI X tg e u := ⟨fun pins s σ H R I q => p.run pins s σ H R I (h σ H R q)⟩

section
variable {G : Gx} {X : Cx} {W : WX} {a b c e o tg : Expr} {fa fb fc : ME} {p pos pos' : Pos} {x : Str}
/-- from a value to a source -/
theorem TI.src {σ : L2.St} {H : Hp} {R : It → Hp → Prop} {f : ME} {k : IV → M Sr}
    (q : TII G W (fun e h => (f e h).bind k) σ H R) : TI G W f σ H fun v H1 => ∃ ι1 h1 x, RH G ι1 h1 H1 ∧ RV G.K ι1 H1 x v ∧ PRi G (fun c d H' => W c d σ H') ι1 H1 R (k x h1) := by
  obtain ⟨ι, e, h, en, rh, q⟩ := q
  refine ⟨ι, e, h, en, rh, ?_⟩
  dsimp only at q
  cases z : f e h with
  | exc c h1 => rw [z] at q; exact q
  | bad => rw [z] at q; exact q
  | ok x h1 =>
    rw [z] at q
    exact fun ι1 H1 v a r => ⟨ι1, h1, x, a.rh, r, q.after a⟩
theorem TIs.src {σ : L2.St} {H : Hp} {R : It → Hp → Prop} {f : IE → M (List IV)} {k : List IV → M Sr}
    (q : TII G W (fun e h => (f e h).bind k) σ H R) : TIs G W f σ H fun v H1 => ∃ ι1 h1 x, RH G ι1 h1 H1 ∧ RVs G.K ι1 H1 x v ∧ PRi G (fun c d H' => W c d σ H') ι1 H1 R (k x h1) := by
  obtain ⟨ι, e, h, en, rh, q⟩ := q
  refine ⟨ι, e, h, en, rh, ?_⟩
  dsimp only at q
  cases z : f e h with
  | exc c h1 => rw [z] at q; exact q
  | bad => rw [z] at q; exact q
  | ok x h1 =>
    rw [z] at q
    exact fun ι1 H1 v a r => ⟨ι1, h1, x, a.rh, r, q.after a⟩
/-- the list at place n, as it stands -/
def srL (n : Nat) (m : Nat) : Sr := ⟨m, fun i h => match h[n]? with
  | some (.lst xs) => if i < xs.length then (match xs[i]? with
    | some x => .it x
    | none => .bad) else if i = xs.length then .stop else .bad
  | _ => .bad⟩
def srT (xs : List IV) : Sr := ⟨xs.length, fun i _ => match xs[i]? with
  | some x => .it x
  | none => if i = xs.length then .stop else .bad⟩
def srS (xs : List Nat) : Sr := ⟨xs.length, fun i _ => match xs[i]? with
  | some x => .it (.str [x])
  | none => if i = xs.length then .stop else .bad⟩
def srR (lo hi : Int) : Sr := ⟨(hi - lo).toNat, fun i _ => if i < (hi - lo).toNat then .it (.int (lo + i)) else .stop⟩
theorem RVs.nth {K : PySem.W.Frag} {ι : List Addr} {H : Hp} : ∀ {xs : List IV} {vs : List V} {i : Nat} {x : IV} {v : V}, RVs K ι H xs vs → xs[i]? = some x → vs[i]? = some v → RV K ι H x v
  | [], _, _, _, _, _, e, _ => by simp at e
  | y :: ys, _, 0, x, v, r, e, e2 => by
    unfold RVs at r
    obtain ⟨w, ws, rfl, rv, rs⟩ := r
    simp only [List.getElem?_cons_zero, Option.some.injEq] at e e2
    subst e e2
    exact rv
  | y :: ys, _, i + 1, x, v, r, e, e2 => by
    unfold RVs at r
    obtain ⟨w, ws, rfl, rv, rs⟩ := r
    simp only [List.getElem?_cons_succ] at e e2
    exact RVs.nth rs e e2
theorem RVs.has {K : PySem.W.Frag} {ι : List Addr} {H : Hp} {xs : List IV} {vs : List V} {i : Nat} {x : IV} (r : RVs K ι H xs vs) (e : xs[i]? = some x) : ∃ v, vs[i]? = some v ∧ RV K ι H x v := by
  have hi := (List.getElem?_eq_some_iff.mp e).1
  rw [r.len] at hi
  exact ⟨vs[i], List.getElem?_eq_getElem hi, r.nth e (List.getElem?_eq_getElem hi)⟩
theorem srOk_l {ι0 : List Addr} {H0 : Hp} {n m : Nat} {q : Addr} (hq : ι0[n]? = some q) : SrOk G ι0 H0 (srL n m) (Itl G.K q) := by
  intro i ι h H rh hι tl
  simp only [srL]
  cases z0 : h[n]? with
  | none => trivial
  | some o =>
    cases o <;> try trivial
    rename_i xs
    obtain ⟨vs, hv, rs⟩ := rh.at z0 (pre_get hι hq)
    simp only
    by_cases hi : i < xs.length
    · rw [if_pos hi]
      have z2 : xs[i]? = some xs[i] := List.getElem?_eq_getElem hi
      rw [z2]
      obtain ⟨v, hv2, rv⟩ := rs.has z2
      refine ⟨⟨vs, v, SqL.of hv, hv2⟩, fun v' H' ⟨e, hy⟩ => ?_⟩
      subst e
      have := hy vs (SqL.of hv)
      rw [hv2] at this
      cases this
      exact ⟨ι, Aft.refl rh, rv⟩
    · rw [if_neg hi]
      by_cases hj : i = xs.length
      · rw [if_pos hj]; exact ⟨vs, SqL.of hv, by rw [← rs.len]; omega⟩
      · rw [if_neg hj]; trivial
theorem srOk_t {ι0 : List Addr} {H0 : Hp} {xs : List IV} {vs : List V} {q : Addr} (ht : H0 q = some (.tup vs)) (rs : RVs G.K ι0 H0 xs vs) : SrOk G ι0 H0 (srT xs) (Itt G.K q) := by
  intro i ι h H rh hι tl
  have ht' : SqT G.K H q vs := SqT.of (tl.t _ _ ht)
  have rs' := rs.mono hι tl
  simp only [srT]
  cases z : xs[i]? with
  | none =>
    by_cases hi : i = xs.length
    · rw [if_pos hi]; exact ⟨vs, ht', by rw [← rs.len]; omega⟩
    · rw [if_neg hi]; trivial
  | some x =>
    obtain ⟨v, hv2, rv⟩ := rs'.has z
    refine ⟨⟨vs, v, ht', hv2⟩, fun v' H' ⟨e, hy⟩ => ?_⟩
    subst e
    have := hy vs ht'
    rw [hv2] at this
    cases this
    exact ⟨ι, Aft.refl rh, rv⟩
theorem srOk_f {ι0 : List Addr} {H0 : Hp} {xs : List IV} {vs : List V} {q : Addr} (ht : SqF G.K H0 q vs) (rs : RVs G.K ι0 H0 xs vs) : SrOk G ι0 H0 (srT xs) (Itl G.K q) := by
  intro i ι h H rh hι tl
  have ht' := (tl.f _ _ ht).sq
  have rs' := rs.mono hι tl
  simp only [srT]
  cases z : xs[i]? with
  | none =>
    by_cases hi : i = xs.length
    · rw [if_pos hi]; exact ⟨vs, ht', by rw [← rs.len]; omega⟩
    · rw [if_neg hi]; trivial
  | some x =>
    obtain ⟨v, hv2, rv⟩ := rs'.has z
    refine ⟨⟨vs, v, ht', hv2⟩, fun v' H' ⟨e, hy⟩ => ?_⟩
    subst e
    have := hy vs ht'
    rw [hv2] at this
    cases this
    exact ⟨ι, Aft.refl rh, rv⟩
theorem srOk_s {ι0 : List Addr} {H0 : Hp} {xs : List Nat} : SrOk G ι0 H0 (srS xs) (Its (sS xs)) := by
  intro i ι h H rh hι tl
  simp only [srS]
  cases z : xs[i]? with
  | none =>
    by_cases hi : i = xs.length
    · rw [if_pos hi]
      show (sS xs).cps.size ≤ i
      simp only [sS, List.size_toArray]
      omega
    · rw [if_neg hi]; trivial
  | some x =>
    refine ⟨by show i < (sS xs).cps.size; simp only [sS, List.size_toArray]; exact (List.getElem?_eq_some_iff.mp z).1, fun v' H' ⟨e, c, hc, hv⟩ => ?_⟩
    subst e
    have : (sS xs).cps[i]? = some x := by simp only [sS, List.getElem?_toArray]; exact z
    rw [this] at hc
    cases hc
    exact ⟨ι, Aft.refl rh, by rw [hv]; unfold RV; rfl⟩
theorem srOk_r {ι0 : List Addr} {H0 : Hp} {lo hi : Int} : SrOk G ι0 H0 (srR lo hi) (Itr lo (hi - lo).toNat) := by
  intro i ι h H rh hι tl
  simp only [srR]
  by_cases hn : i < (hi - lo).toNat
  · rw [if_pos hn]
    refine ⟨hn, fun v' H' ⟨e, hv⟩ => ?_⟩
    subst e hv
    exact ⟨ι, Aft.refl rh, int_iff.mpr rfl⟩
  · rw [if_neg hn]
    show (hi - lo).toNat ≤ i
    omega

/-- a value as a source -/
@[simp] def srV (x : IV) (h : IH) : Res Sr := match x with
  | .ref n => match h[n]? with
    | some (.lst xs) => .ok (srL n xs.length) h
    | _ => .bad
  | .tup xs => .ok (srT xs) h
  | .fz xs => .ok (srT xs) h
  | .str xs => .ok (srS xs) h
  | _ => .bad
@[simp] def mItV (fa : ME) : MI := fun e h => (fa e h).bind srV
theorem si_val (hK : X.K = G.K) (ha : SE G X W a fa) : SI G X W tg a (mItV fa) := by
  refine ⟨fun pins s σ H R I hq => ?_⟩
  refine thn (ha.run pins s σ H _ I (TI.src hq)) fun u s1 ⟨v, H1, I1, ru, ι1, h1, x, rh1, r1, q⟩ => ?_
  have one : ∀ {J : It} {tn : Nat → Heap → Prop} (o : Obj), Turn X.prog X.w X.K tg J [s1.heap.objs.size] s1.heap.objs.size tn → tn 0 (s1.heap.push o) → R J H1 → PIE X pins σ tg R (.ref s1.heap.objs.size) { s1 with heap := s1.heap.push o } :=
    fun o T t0 r => pi_one (tk := s1.toks) I1 o T t0 r
  cases x <;> try exact q.elim
  · rename_i xs
    obtain rfl := str_iff.mp r1
    obtain ⟨t, rfl⟩ := ru
    have r := q _ _ _ (Aft.refl rh1) srOk_s
    cases ha : (sS xs).cps.all (· < 128)
    · exact wpAny_pyIter_wide ha (one _ (turn_str _ _ t "str_iterator" (.inr rfl)) ⟨_, Heap.get?_push_size _ rfl, rfl, rfl⟩ r)
    · exact wpAny_pyIter_ascii ha (one _ (turn_str _ _ t "str_ascii_iterator" (.inl rfl)) ⟨_, Heap.get?_push_size _ rfl, rfl, rfl⟩ r)
  · rename_i xs
    rw [tup_iff] at r1
    obtain ⟨a, vs, rfl, hq, rs⟩ := r1
    cases ru
    obtain ⟨its, rv, p, hz⟩ := I1.tuple (SqT.of hq)
    refine wpAny_pyIter_tuple (show s1.heap.IsTuple a its.toArray from p) (one _ (turn_tuple a _) ⟨_, Heap.get?_push_size _ rfl, rfl, rfl⟩ ?_)
    rw [hK]
    exact q _ _ _ (Aft.refl rh1) (srOk_t hq rs)
  · rename_i xs
    rw [fz_iff] at r1
    obtain ⟨a, vs, rfl, hq, rs⟩ := r1
    cases ru
    have hq' := hq.sq
    rw [← hK] at hq'
    obtain ⟨its, rv, p, hz⟩ := I1.list hq'
    refine wpAny_pyIter_list p.isList (one _ (turn_list a _) ⟨_, Heap.get?_push_size _ rfl, rfl, rfl⟩ ?_)
    rw [hK]
    exact q _ _ _ (Aft.refl rh1) (srOk_f hq rs)
  · rename_i n
    obtain ⟨a, ia, rfl⟩ := ref_iff.mp r1
    cases ru
    simp only [srV] at q
    cases z0 : h1[n]? with
    | none => rw [z0] at q; exact q.elim
    | some o =>
      rw [z0] at q
      cases o <;> try exact q.elim
      rename_i xs
      obtain ⟨vs, hv, rs⟩ := rh1.at z0 ia
      have hq : SqL X.K H1 a vs := SqL.of hv
      obtain ⟨its, rv, p, hz⟩ := I1.list hq
      refine wpAny_pyIter_list p.isList (one _ (turn_list a _) ⟨_, Heap.get?_push_size _ rfl, rfl, rfl⟩ ?_)
      rw [hK]
      exact q _ _ _ (Aft.refl rh1) (srOk_l ia)
/-- range(..) -/
@[simp] def mRng1 (fs : IE → M (List IV)) : MI := fun e h => (fs e h).bind fun xs h1 => match xs with
  | [.int j] => if -(2 ^ 62) ≤ j ∧ j < 2 ^ 62 then .ok (srR 0 j) h1 else .bad
  | _ => .bad
@[simp] def mRng2 (fs : IE → M (List IV)) : MI := fun e h => (fs e h).bind fun xs h1 => match xs with
  | [.int i, .int j] => if -(2 ^ 62) ≤ i ∧ i < 2 ^ 62 ∧ -(2 ^ 62) ≤ j ∧ j < 2 ^ 62 then .ok (srR i j) h1 else .bad
  | _ => .bad
theorem TIs.imp {σ : L2.St} {H : Hp} {f : IE → M (List IV)} {R R' : List V → Hp → Prop} (q : TIs G W f σ H R) (k : ∀ vs H', R vs H' → R' vs H') : TIs G W f σ H R' := by
  obtain ⟨ι, e, h, en, rh, p⟩ := q
  refine ⟨ι, e, h, en, rh, ?_⟩
  cases z : f e h with
  | exc c h1 => rw [z] at p; exact p
  | bad => rw [z] at p; exact p
  | ok xs h1 =>
    rw [z] at p
    exact fun ι1 H1 vs a r => k _ _ (p ι1 H1 vs a r)
theorem RVs.int1 {K : PySem.W.Frag} {ι : List Addr} {H : Hp} {j : Int} {vs : List V} (r : RVs K ι H [.int j] vs) : vs = [.int j] := by
  unfold RVs at r
  obtain ⟨v, w, rfl, rv, rs⟩ := r
  unfold RVs at rs
  subst rs
  obtain rfl := int_iff.mp rv
  rfl
theorem RVs.int2 {K : PySem.W.Frag} {ι : List Addr} {H : Hp} {i j : Int} {vs : List V} (r : RVs K ι H [.int i, .int j] vs) : vs = [.int i, .int j] := by
  unfold RVs at r
  obtain ⟨v, w, rfl, rv, rs⟩ := r
  obtain rfl := rs.int1
  obtain rfl := int_iff.mp rv
  rfl
theorem si_range1 {fs : IE → M (List IV)} (hg : Gl X "range") (hm : X.mg "range" = none) (ha : SA G X W [a] fs) (hs : starEach [a] X.env = [(false, eval a X.env)] := by rfl) : SI G X W tg (.Call (.Name "range" p) [a] [] pos) (mRng1 fs) := by
  refine pi_weak (pi_range1 hg hm ha hs) fun σ H R q => (TIs.src q).imp fun vs H1 ⟨ι2, h2, ys, rh2, r2, q2⟩ => ?_
  split at q2
  · rename_i j
    split at q2
    · rename_i hb
      obtain rfl := r2.int1
      refine ⟨j, rfl, hb.1, hb.2, ?_⟩
      have e0 : j.toNat = (j - 0).toNat := by rw [Int.sub_zero]
      rw [e0]
      exact q2 _ _ _ (Aft.refl rh2) srOk_r
    · exact q2.elim
  · exact q2.elim
theorem si_range2 {fs : IE → M (List IV)} (hg : Gl X "range") (hm : X.mg "range" = none) (ha : SA G X W [a, b] fs) (hs : starEach [a, b] X.env = [(false, eval a X.env), (false, eval b X.env)] := by rfl) (hs2 : starEach [b] X.env = [(false, eval b X.env)] := by rfl) :
    SI G X W tg (.Call (.Name "range" p) [a, b] [] pos) (mRng2 fs) := by
  refine pi_weak (pi_range2 hg hm ha hs hs2) fun σ H R q => (TIs.src q).imp fun vs H1 ⟨ι2, h2, ys, rh2, r2, q2⟩ => ?_
  split at q2
  · rename_i i j
    split at q2
    · rename_i hb
      obtain rfl := r2.int2
      exact ⟨i, j, rfl, hb, q2 _ _ _ (Aft.refl rh2) srOk_r⟩
    · exact q2.elim
  · exact q2.elim

/-! ### for -/
/-- what a context of statements can do -/
structure CanS (G : Gx) (X : Cx) (W : WX) (k : Nat) : Prop extends Can G X W k where
  po : PassesOwn (model X.prog X.w) X.A X.env X.xe
  stk : X.stack = X.env :: X.outer
  fr : X.env.frame = some X.env.locals
theorem CanS.tk {k : Nat} (C : CanS G X W k) : Takes X W := fun u s' x => by
  obtain ⟨L, ⟨_, t2⟩, t⟩ := C.tf
  have e : L = X.env.locals := by rw [C.fr] at t2; cases t2; rfl
  subst e
  exact t u s' x
/-- a turn's end -/
def Fl.turn (r : Fl) (f : MS) : Fl := match r with
  | .nx e h => f e h
  | .ct e h => f e h
  | .bk e h => .nx e h
  | .rt v h => .rt v h
  | .ex c e h => .ex c e h
  | .bad => .bad
def Fl.put (r : Fl) (f : MS) : Fl := match r with
  | .nx e h => f e h
  | _ => .bad
def forL (S : Sr) (g : MG) (b : MS) : Nat → Nat → MS
  | 0, _ => fun _ _ => .bad
  | m + 1, i => fun e h => match S.nx i h with
    | .stop => .nx e h
    | .it x => (g x e h).put fun e h => (b e h).turn (forL S g b m (i + 1))
    | .bad => .bad
@[simp] def sFor (f : MI) (g : MG) (b : MS) : MS := fun e h => match f e h with
  | .ok S h => forL S g b (S.n + 1) 0 e h
  | .exc c h => .ex c e h
  | .bad => .bad
theorem PF.only {ι : List Addr} {H : Hp} {D : Ends} {r : Fl} {f : MS} (q : PF G W ι H D (r.put f)) : r.only fun e' h' => PF G W ι H D (f e' h') := by
  cases r <;> first | exact q.elim | exact q
theorem Fl.only.imp {r : Fl} {P Q : IE → IH → Prop} (q : r.only P) (k : ∀ e h, P e h → Q e h) : r.only Q := by
  cases r <;> first | exact q.elim | exact k _ _ q
theorem ss_for {k : Nat} {iter : Expr} {f : MI} {g : MG} {b : MS} {body : List Stmt} (C : CanS G X W k) (hi : SI G X W tg iter f) (hg : SG G X W tg g) (hb : SB G X W body b) (hs : ∀ x, foldedSetIterable iter X.env x = pure x := by intro _; rfl) :
    SS G X W (.For tg iter body [] pos) (sFor f g b) := by
  refine ps_weak (ps_for C.po C.calm hi hg hb hs) fun D σ H hq => ?_
  obtain ⟨ι, e, h, en, rh, q⟩ := hq
  refine ⟨ι, e, h, en, rh, ?_⟩
  simp only [sFor] at q
  cases z : f e h with
  | bad => rw [z] at q; exact q
  | exc c h' => rw [z] at q; exact fun ι' H' a => q ι' σ H' a (en.mono a.pre a.tl)
  | ok S h' =>
    rw [z] at q
    simp only at q
    intro ι1 H1 J a1 so
    refine ⟨fun i m σ' H' => ∃ ι' e' h', REn G.K ι' H' e' σ' ∧ RH G ι' h' H' ∧ ι1 <+: ι' ∧ TL G.K H1 H' ∧ PF G W ι' H' D (forL S g b m i e' h'), ⟨S.n + 1, ι1, e, h', en.mono a1.pre a1.tl, a1.rh, List.prefix_refl _, TL.refl _ _, PF.after a1 q⟩, ?_⟩
    rintro i m σ2 H2 ⟨ι2, e2, h2, en2, rh2, p2, t2, q2⟩
    cases m with
    | zero => exact q2.elim
    | succ m =>
      simp only [forL] at q2
      have s := so i ι2 h2 H2 rh2 p2 t2
      cases zn : S.nx i h2 with
      | stop =>
        rw [zn] at q2 s
        exact .inl ⟨s, q2 ι2 σ2 H2 (Aft.refl rh2) en2⟩
      | bad => rw [zn] at q2; exact q2.elim
      | it x =>
        rw [zn] at q2 s
        simp only at q2 s
        refine .inr ⟨s.1, _, fun σ' H' n => ⟨m, Nat.lt_succ_self m, n⟩, fun v H3 hy => ?_⟩
        obtain ⟨ι3, a3, r3⟩ := s.2 v H3 hy
        refine ⟨ι3, e2, h2, x, en2.mono a3.pre a3.tl, a3.rh, r3, (PF.only (PF.after a3 q2)).imp fun e4 h4 q4 => ?_⟩
        intro ι4 σ4 H4 a4 en4
        refine ⟨ι4, e4, h4, en4, a4.rh, ?_⟩
        have q5 := PF.after a4 q4
        have pre4 : ι1 <+: ι4 := p2.trans (a3.pre.trans a4.pre)
        have tl4 : TL G.K H1 H4 := t2.trans (a3.tl.trans a4.tl)
        cases zb : b e4 h4 with
        | nx e5 h5 => rw [zb] at q5; exact fun ι' σ' H' a en => ⟨ι', e5, h5, en, a.rh, pre4.trans a.pre, tl4.trans a.tl, PF.after a q5⟩
        | ct e5 h5 => rw [zb] at q5; exact fun ι' σ' H' a en => ⟨ι', e5, h5, en, a.rh, pre4.trans a.pre, tl4.trans a.tl, PF.after a q5⟩
        | bk e5 h5 => rw [zb] at q5; exact q5
        | rt v5 h5 => rw [zb] at q5; exact q5
        | ex c5 e5 h5 => rw [zb] at q5; exact q5
        | bad => rw [zb] at q5; exact q5

/-! ### while -/
def whileL (c : ME) (b : MS) : Nat → MS
  | 0 => fun _ _ => .bad
  | m + 1 => fun e h => (c e h).st e fun x e h => match x with
    | .bl true => (b e h).turn (whileL c b m)
    | .bl false => .nx e h
    | _ => .bad
/-- the fuel: a number of the state -/
@[simp] def sWhile (n : IE → IH → Nat) (c : ME) (b : MS) : MS := fun e h => whileL c b (n e h) e h
theorem ss_while {k : Nat} {n : IE → IH → Nat} {b : MS} {body : List Stmt} (C : CanS G X W k) (hc : SC G X W c fc) (hb : SB G X W body b) : SS G X W (.While c body [] pos) (sWhile n fc b) := by
  refine ps_weak (ps_while C.po hc hb) fun D σ H hq => ?_
  obtain ⟨ι, e, h, en, rh, q⟩ := hq
  refine ⟨fun m σ' H' => ∃ ι' e' h', REn G.K ι' H' e' σ' ∧ RH G ι' h' H' ∧ PF G W ι' H' D (whileL fc b m e' h'), ⟨n e h, ι, e, h, en, rh, q⟩, ?_⟩
  rintro m σ2 H2 ⟨ι2, e2, h2, en2, rh2, q2⟩
  cases m with
  | zero => exact q2.elim
  | succ m =>
    refine ⟨ι2, e2, h2, en2, rh2, ?_⟩
    simp only [whileL] at q2
    cases z : fc e2 h2 with
    | bad => rw [z] at q2; exact q2
    | exc c h' => rw [z] at q2; exact fun ι' H' a => q2 ι' σ2 H' a (en2.mono a.pre a.tl)
    | ok x h3 =>
      rw [z] at q2
      cases x <;> try exact q2.elim
      rename_i t
      cases t with
      | false =>
        intro ι' H' a
        show if false = true then _ else _
        rw [if_neg Bool.false_ne_true]
        exact q2 ι' σ2 H' a (en2.mono a.pre a.tl)
      | true =>
        intro ι3 H3 a3
        show if true = true then _ else _
        rw [if_pos rfl]
        refine ⟨_, fun σ' H' n => ⟨m, Nat.lt_succ_self m, n⟩, ι3, e2, h3, en2.mono a3.pre a3.tl, a3.rh, ?_⟩
        have q5 := PF.after a3 q2
        simp only [Res.st] at q5
        cases zb : b e2 h3 with
        | nx e5 h5 => rw [zb] at q5; exact fun ι' σ' H' a en => ⟨ι', e5, h5, en, a.rh, PF.after a q5⟩
        | ct e5 h5 => rw [zb] at q5; exact fun ι' σ' H' a en => ⟨ι', e5, h5, en, a.rh, PF.after a q5⟩
        | bk e5 h5 => rw [zb] at q5; exact q5
        | rt v5 h5 => rw [zb] at q5; exact q5
        | ex c5 e5 h5 => rw [zb] at q5; exact q5
        | bad => rw [zb] at q5; exact q5
end
end Sh

/-! Sh8: raise; methods of lists; several targets; a def by its body. -/
namespace Sh
open PySem PySem.Spec PyProof.Rows L2

/-- an own exception class without a body -/
structure KX (G : Gx) (c : String) : Prop where
  ex : ∃ (B newId initId : String) (bmB : List Value), ExcBaseFacts B newId initId bmB ∧ PySem.W.excIn G.K (He.ga G.K (Str.ofString c)) bmB newId = true
  kp : PySem.W.keepIn G.K (.ref (He.ga G.K (Str.ofString c))) = true
  sub : PySem.W.subIn G.K (.ref (He.ga G.K (Str.ofString c))) (.type "BaseException") = some true
  ty : PySem.W.typeIn G.K (.ref (He.ga G.K (Str.ofString c))) = some (.type "type")
/-- the built-in types whose methods are called -/
inductive BT where
  | list | str | dict
def BT.nm : BT → String
  | .list => "list"
  | .str => "str"
  | .dict => "dict"
/-- of that type now -/
def okT (t : BT) (x : IV) (h : IH) : Bool := match t, x with
  | .str, .str _ => true
  | .list, .fz _ => true
  | .list, .ref n => match h[n]? with
    | some (.lst _) => true
    | _ => false
  | .dict, .ref n => match h[n]? with
    | some (.dic _ _) => true
    | _ => false
  | _, _ => false
section
variable {G : Gx} {X : Cx} {W : WX} {a b c e o tg : Expr} {es : List Expr} {fa fb fc : ME} {fs : IE → M (List IV)} {p p2 pos pos' apos cpos : Pos} {x : Str} {k : Nat}
@[simp] def sRaise (c : String) : MS := fun e h => .ex c e h
theorem ss_raise {c : String} {m : Str} {j : Nat} (C : CanS G X W k) (F : KX G c) (hg : Gl X x) (gC : X.mg x = some (.ref (He.ga G.K (Str.ofString c)))) (hdb : (x == ("__debug__" : Str)) = false := by decide) :
    SS G X W (.Raise (some (.Call (.Name x p) [.Constant (.str m) j p2] [] pos)) none pos') (sRaise c) := by
  obtain ⟨B, n, i, bm, f, q⟩ := F.ex
  have q' : PySem.W.excIn X.K (He.ga G.K (Str.ofString c)) bm n = true := by rw [C.hK]; exact q
  refine ps_weak (ps_raise C.calm C.tk (pmk_own f q' gC (by rw [C.hK]; exact F.kp) (raises_own (by rw [C.hK]; exact F.sub) (by rw [C.hK]; exact F.ty)) hg hdb)) fun D σ H ⟨ι, e, h, en, rh, q⟩ => q ι σ H (Aft.refl rh) en

/-! ### methods of built-in types -/
theorem okT_ty {t : BT} {x : IV} {v : V} {ι : List Addr} {h : IH} {H : Hp} (hK : X.K = G.K) (rh : RH G ι h H) (r : RV G.K ι H x v) (q : okT t x h = true) : tyV X.K t.nm v H := by
  unfold okT at q
  split at q
  · obtain rfl := str_iff.mp r
    rfl
  · obtain ⟨a, vs, rfl, hq, rs⟩ := fz_iff.mp r
    exact .inl ⟨rfl, vs, by rw [hK]; exact hq.sq⟩
  · rename_i n
    obtain ⟨a, ia, rfl⟩ := ref_iff.mp r
    split at q
    · rename_i xs z
      obtain ⟨vs, hv, rs⟩ := rh.at z ia
      exact .inl ⟨rfl, vs, SqL.of hv⟩
    · cases q
  · rename_i n
    obtain ⟨a, ia, rfl⟩ := ref_iff.mp r
    split at q
    · rename_i b kvs z
      cases b with
      | false =>
        obtain ⟨ws, hv, rs⟩ := rh.at z ia
        exact .inr (.inr (.inl ⟨rfl, .inl ⟨ws, hv⟩⟩))
      | true =>
        obtain ⟨ws, hv, rs⟩ := rh.at z ia
        exact .inr (.inr (.inl ⟨rfl, .inr ⟨ws, hv⟩⟩))
    · cases q
  · cases q
/-- what a built-in method does, by values -/
def MeanM (G : Gx) (r : V → List V → Hp → VK → Prop) (g : IV → List IV → M IV) : Prop :=
  ∀ x xs v vs ι h H Q, RV G.K ι H x v → RVs G.K ι H xs vs → RH G ι h H → PR G (fun _ _ _ => False) ι H Q (g x xs h) → r v vs H Q
/-- an exception out of a built-in is nothing that we follow -/
@[simp] def noX (r : Res IV) : Res IV := match r with
  | .ok x h => .ok x h
  | _ => .bad
theorem PR.noX {Wh : Value → Option Addr → Hp → Prop} {ι : List Addr} {H : Hp} {Q : VK} {r : Res IV} (p : PR G Wh ι H Q (noX r)) : PR G (fun _ _ _ => False) ι H Q r := by
  cases r <;> first | exact p | exact p.elim
@[simp] def mBM (t : BT) (g : IV → List IV → M IV) (fo : ME) (fs : IE → M (List IV)) : ME := fun e h => (fo e h).bind fun x h1 => if okT t x h1 = true then (fs e h1).bind fun xs h2 => noX (g x xs h2) else .bad
theorem se_bm {t : BT} {id : String} {name : Str} {r : V → List V → Hp → VK → Prop} {g : IV → List IV → M IV} {fo : ME} (hK : X.K = G.K) (pa : PlainAttrs t.nm) (slot : Slot t.nm name id) (hty : typeOf (.builtin id) = pure (.type "method_descriptor")) (hm : MtR X id r) (hg : MeanM G r g)
    (ho : SE G X W o fo) (ha : SA G X W (e :: es) fs) (hbase : attributeBase o name X.env (eval o X.env) = eval o X.env := by rfl)
    (hfew : ((backTo cpos (starEach (e :: es) X.env)).all (fun x => !x.1) && (backToKw cpos (keywordEach [] X.env)).all (fun x => x.1.isSome)
      && decide ((e :: es).length + ([] : List Keyword).length + (if ([] : List Keyword).isEmpty then 0 else 1) < 30)) = true := by rfl)
    (hline : (apos.endLine == cpos.line) = true := by rfl) (hs : starEach (e :: es) X.env = (false, eval e X.env) :: starEach es X.env := by rfl) (hplain : (backTo cpos (starEach es X.env)).any (·.1) = false := by rfl) :
    SE G X W (.Call (.Attribute o name apos) (e :: es) [] cpos) (mBM t g fo fs) := by
  refine pe_weak (pe_bm pa slot hty hm ho ha hbase hfew hline hs hplain) fun σ H Q hq => ?_
  obtain ⟨ι, e0, h, en, rh, q⟩ := hq
  refine TI.bind (Wh := fun c d H' => W c d σ H') en rh q fun x v ι1 h1 H1 a1 en1 r1 q1 => ?_
  by_cases ho : okT t x h1 = true
  · rw [if_pos ho] at q1
    refine ⟨okT_ty hK a1.rh r1 ho, ?_⟩
    refine TIs.bind en1 a1.rh q1 fun xs vs ι2 h2 H2 a2 en2 r2 q2 => ?_
    exact hg x xs v vs ι2 h2 H2 Q (r1.mono a2.pre a2.tl) r2 a2.rh q2.noX
  · rw [if_neg ho] at q1; exact q1.elim
def MeanMF (G : Gx) (r : V → List V → Hp → VK → Prop) (g : IV → List IV → M IV) : Prop :=
  ∀ x xs v vs ι h H Q, RV G.K ι H x v → RVs G.K ι H xs vs → RH G ι h H → PR G (fun _ _ _ => False) ι H Q (g x xs h) → r v vs H (QF Q)
theorem se_bmF {t : BT} {id : String} {name : Str} {r : V → List V → Hp → VK → Prop} {g : IV → List IV → M IV} {fo : ME} (hK : X.K = G.K) (pa : PlainAttrs t.nm) (slot : Slot t.nm name id) (hty : typeOf (.builtin id) = pure (.type "method_descriptor")) (hm : MtR X id r) (hg : MeanMF G r g)
    (ho : SE G X W o fo) (ha : SA G X W (e :: es) fs) (hbase : attributeBase o name X.env (eval o X.env) = eval o X.env := by rfl)
    (hfew : ((backTo cpos (starEach (e :: es) X.env)).all (fun x => !x.1) && (backToKw cpos (keywordEach [] X.env)).all (fun x => x.1.isSome)
      && decide ((e :: es).length + ([] : List Keyword).length + (if ([] : List Keyword).isEmpty then 0 else 1) < 30)) = true := by rfl)
    (hline : (apos.endLine == cpos.line) = true := by rfl) (hs : starEach (e :: es) X.env = (false, eval e X.env) :: starEach es X.env := by rfl) (hplain : (backTo cpos (starEach es X.env)).any (·.1) = false := by rfl) :
    SE G X W (.Call (.Attribute o name apos) (e :: es) [] cpos) (mBM t g fo fs) := by
  refine pe_weak (pe_fz (pe_bm pa slot hty hm ho ha hbase hfew hline hs hplain)) fun σ H Q hq => ?_
  obtain ⟨ι, e0, h, en, rh, q⟩ := hq
  refine TI.bind (Wh := fun c d H' => W c d σ H') en rh q fun x v ι1 h1 H1 a1 en1 r1 q1 => ?_
  by_cases ho : okT t x h1 = true
  · rw [if_pos ho] at q1
    refine ⟨okT_ty hK a1.rh r1 ho, ?_⟩
    refine TIs.bind en1 a1.rh q1 fun xs vs ι2 h2 H2 a2 en2 r2 q2 => ?_
    exact hg x xs v vs ι2 h2 H2 Q (r1.mono a2.pre a2.tl) r2 a2.rh q2.noX
  · rw [if_neg ho] at q1; exact q1.elim
theorem se_bm0 {t : BT} {id : String} {name : Str} {r : V → List V → Hp → VK → Prop} {g : IV → List IV → M IV} {fo : ME} (hK : X.K = G.K) (pa : PlainAttrs t.nm) (slot : Slot t.nm name id) (hty : typeOf (.builtin id) = pure (.type "method_descriptor")) (hm : MtR X id r) (hg : MeanM G r g)
    (ho : SE G X W o fo) (hbase : attributeBase o name X.env (eval o X.env) = eval o X.env := by rfl) (hline : (apos.endLine == cpos.line) = true := by rfl) : SE G X W (.Call (.Attribute o name apos) [] [] cpos) (mBM t g fo mNil) := by
  refine pe_weak (pe_bm0 pa slot hty hm ho hbase hline) fun σ H Q hq => ?_
  obtain ⟨ι, e0, h, en, rh, q⟩ := hq
  refine TI.bind (Wh := fun c d H' => W c d σ H') en rh q fun x v ι1 h1 H1 a1 en1 r1 q1 => ?_
  by_cases ho : okT t x h1 = true
  · rw [if_pos ho] at q1
    refine ⟨okT_ty hK a1.rh r1 ho, ?_⟩
    simp only [mNil, Res.bind] at q1
    exact hg x [] v [] ι1 h1 H1 Q r1 RVs.nil a1.rh q1.noX
  · rw [if_neg ho] at q1; exact q1.elim
/-- xs.append(y) -/
@[simp] def gAppend : IV → List IV → M IV := fun x ys h => match x, ys with
  | .ref n, [y] => match h[n]? with
    | some (.lst xs) => if xs.length < sizeLine then .ok .non (h.set n (.lst (xs ++ [y]))) else .bad
    | _ => .bad
  | _, _ => .bad
theorem mean_append : MeanM G rAppend gAppend := by
  intro x xs v vs ι h H Q rx rs rh p
  unfold gAppend at p
  split at p
  · rename_i n y
    obtain ⟨q, iq, rfl⟩ := ref_iff.mp rx
    unfold RVs at rs
    obtain ⟨w, ws, rfl, rw', rs⟩ := rs
    unfold RVs at rs
    subst rs
    split at p
    · rename_i xs z
      obtain ⟨vs, hv, r⟩ := rh.at z iq
      split at p
      · rename_i hl
        refine ⟨q, vs, w, rfl, rfl, hv, by rw [← r.len]; exact hl, ?_⟩
        exact p _ _ _ (set_lst rh z iq (RVs.app r (RVs.one rw'))) (non_iff.mpr rfl)
      · exact p.elim
    · exact p.elim
  · exact p.elim
end

/-! ### a def by its body -/
/-- a def's meaning: the slots N, the parameters first -/
def fnM (N : List Str) (b : MS) : Fn := fun xs h => match b (xs.map some ++ List.replicate (N.length - xs.length) none) h with
  | .rt v h => .ok v h
  | .nx _ h => .ok .non h
  | .ex c _ h => .exc c h
  | _ => .bad
theorem REn.app {K : PySem.W.Frag} {ι : List Addr} {H : Hp} : ∀ {e1 e2 : IE} {s1 s2 : L2.St}, REn K ι H e1 s1 → REn K ι H e2 s2 → REn K ι H (e1 ++ e2) (s1 ++ s2)
  | [], _, _, _, a, b => by unfold REn at a; subst a; exact b
  | x :: xs, _, _, _, a, b => by
    unfold REn at a
    obtain ⟨v, r, rfl, a1, a2⟩ := a
    exact ⟨v, _, rfl, a1, REn.app a2 b⟩
theorem REn.somes {K : PySem.W.Frag} {ι : List Addr} {H : Hp} : ∀ {xs : List IV} {vs : List V}, RVs K ι H xs vs → REn K ι H (xs.map some) (vs.map some)
  | [], _, r => by unfold RVs at r; subst r; unfold REn; rfl
  | x :: xs, _, r => by
    unfold RVs at r
    obtain ⟨v, w, rfl, rv, rs⟩ := r
    exact ⟨some v, _, rfl, ⟨v, rfl, rv⟩, REn.somes rs⟩
theorem REn.nones {K : PySem.W.Frag} {ι : List Addr} {H : Hp} : ∀ n : Nat, REn K ι H (List.replicate n none) (List.replicate n none)
  | 0 => by unfold REn; rfl
  | n + 1 => ⟨none, _, rfl, trivial, REn.nones n⟩
theorem REn.start {K : PySem.W.Frag} {ι : List Addr} {H : Hp} {xs : List IV} {vs : List V} (N : List Str) (r : RVs K ι H xs vs) : REn K ι H (xs.map some ++ List.replicate (N.length - xs.length) none) (L2.start N vs) := by
  unfold L2.start
  rw [r.len]
  exact REn.app (REn.somes r) (REn.nones _)
section
variable {G : Gx} {P : Program} {w : World} {mg : Str → Option Value} {base : Heap} {x qual : Str} {params : Arguments} {body : List Stmt} {scope : Scope} {f : Addr} {fd : FuncData} {N ps : List Str} {k : Nat} {b : MS}
/-- the wish of a def's body -/
abbrev dW (E : XK) : WX := fun cls d _ H' => E cls d H'
/-- a def's body runs in this context -/
abbrev dX (P : Program) (w : World) (K : PySem.W.Frag) (mg : Str → Option Value) (base : Heap) (N : List Str) (qual : Str) (scope : Scope) (f : Addr) (cd : Value) (A : Around) (outer : List Env) (s : Shared) (H : Hp) (E : XK) : Cx := cxOf (L2.CX P w) P w K mg base N qual scope f cd A outer s H E
theorem canS_cx {cd : Value} {A : Around} {outer : List Env} {s : Shared} {H : Hp} {E : XK} (hr : Room k (A.deeper (envOfC qual scope s.heap.objs.size f cd))) (nd : N.Nodup) : CanS G (dX P w G.K mg base N qual scope f cd A outer s H E) (dW E) k := by
  have tk : Takes (dX P w G.K mg base N qual scope f cd A outer s H E) (dW E) := takes_of rfl rfl rfl rfl
  refine ⟨⟨⟨_, ⟨⟨_, _, rfl, rfl⟩, rfl⟩, fun u s' x => tk u s' x⟩, hr, rfl, nd, rfl⟩, passes_of rfl, rfl, rfl⟩
theorem kn_of (F : FunD G.K x qual params body scope [] [] f fd) (S : FnScope N ps scope)
    (hbn : ∀ (kV doc pm : Value) (an : Option Addr) (cdv ct : Value) (us : List Value), us.length = ps.length → bindArgs (PySem.W.fnOf x qual params body scope .none kV doc pm an cdv ct) ⟨us, []⟩ = pure (ps.zip us)) {p : He.Defn} (hp : f = He.fAd G.K p)
    (hb : ∀ (cdv : Value) (A : Around) (outer : List Env) (s : Shared) (H : Hp) (E : XK), cdv = .ref (He.codeOf G.K p) → CanS G (dX P w G.K mg base N qual scope f cdv A outer s H E) (dW E) k → SB G (dX P w G.K mg base N qual scope f cdv A outer s H E) (dW E) body b) :
    Kn G P w mg base (k + 1) f ps.length (fnM N b) := by
  refine ⟨⟨fd, ps, rfl, ?_, FunD.bindsN F hbn⟩, F.kp⟩
  obtain ⟨oc, od, dV, kV, doc, pm, an, cdv, ct, osl, rfl, lk, hcd, _, _⟩ := F.ex
  obtain ⟨c, ec⟩ := He.codeIn_ref hcd
  have lk' := lk
  rw [hp] at lk'
  have ecd : cdv = .ref (He.codeOf G.K p) := by
    rw [He.codeOf_eq lk' (c := c) (by subst ec; rfl)]
    exact ec
  refine fn_of lk hcd S (fun vs H Q E h => h.1) fun A outer s H vs Q E hr hsp => ⟨_, hb cdv A outer s H E ecd (canS_cx hr S.nd), ?_⟩
  obtain ⟨hl, ι, h, xs, rs, rh, q⟩ := hsp
  refine ⟨ι, _, h, REn.start N rs, rh, ?_⟩
  unfold fnM at q
  cases z : b (xs.map some ++ List.replicate (N.length - xs.length) none) h with
  | nx e h' => rw [z] at q; exact fun ι' σ' H' a en => q ι' H' .non a (non_iff.mpr rfl)
  | rt v h' => rw [z] at q; exact fun ι' v' H' a r => q ι' H' v' a r
  | bk e h' => rw [z] at q; exact q.elim
  | ct e h' => rw [z] at q; exact q.elim
  | ex c e h' => rw [z] at q; exact fun ι' σ' H' a en => q ι' H' a
  | bad => rw [z] at q; exact q
/-- a known def, one level up -/
theorem Kn.mono {n : Nat} {m : Fn} {j : Nat} (F : Kn G P w mg base j f n m) (h : j ≤ k) : Kn G P w mg base k f n m := by
  obtain ⟨⟨fd, ps, h1, h2, h3⟩, kp⟩ := F
  exact ⟨⟨fd, ps, h1, h2.mono h, h3⟩, kp⟩
end
end Sh

/-! Sh9: constants of the module; several names at once. -/
namespace Sh
open PySem PySem.Spec PyProof.Rows L2
theorem RVo.mk {K : PySem.W.Frag} {ι : List Addr} {H : Hp} {x : IV} {v : V} (r : RV K ι H x v) : RVo K ι H (some x) (some v) := ⟨v, rfl, r⟩
section
variable {G : Gx} {X : Cx} {W : WX} {a b c e o tg : Expr} {es : List Expr} {fa fb fc : ME} {fs : IE → M (List IV)} {pos pos' : Pos} {x y z : Str} {k : Nat}
theorem se_gi {i : Int} (hm : ∃ t, X.mg x = some (.int i t)) (hg : Gl X x) (hd : (x == ("__debug__" : Str)) = false := by decide) : SE G X W (.Name x pos) (mC (.int i)) :=
  let ⟨t, h⟩ := hm; se_c (v := .int i) (pe_glob hg h ⟨t, rfl⟩ hd) fun _ _ => int_iff.mpr rfl
theorem se_gs {s : Str} {u : List Nat} (hm : ∃ t, X.mg x = some (.str s t)) (hg : Gl X x) (hs : s = sS u := by rfl) (hd : (x == ("__debug__" : Str)) = false := by decide) : SE G X W (.Name x pos) (mC (.str u)) :=
  let ⟨t, h⟩ := hm; se_c (v := .str s) (pe_glob hg h ⟨t, rfl⟩ hd) fun _ _ => str_iff.mpr (by rw [hs])
/-- names at once, the values evaluated first -/
@[simp] def sPar2 (i j : Nat) (fs : IE → M (List IV)) : MS := fun e h => match fs e h with
  | .ok [x, y] h1 => .nx ((e.set i (some x)).set j (some y)) h1
  | .exc c h1 => .ex c e h1
  | _ => .bad
@[simp] def sPar3 (i j l : Nat) (fs : IE → M (List IV)) : MS := fun e h => match fs e h with
  | .ok [x, y, z] h1 => .nx (((e.set i (some x)).set j (some y)).set l (some z)) h1
  | .exc c h1 => .ex c e h1
  | _ => .bad
theorem ss_par2 {i j : Nat} {px py pt : Pos} {kt k2 pt2} (C : Can G X W k) (hi : X.N[i]? = some x) (hj : X.N[j]? = some y) (hij : i ≠ j) (hx : X.env.scope.names.lookup x = some .local) (hy : X.env.scope.names.lookup y = some .local) (ha : SA G X W [a, b] fs)
    (hw : swappedStores [.Tuple [.Name x px, .Name y py] kt pt] (.Tuple [a, b] k2 pt2) X.env = pure (some [x, y]))
    (hs : swapsWithSole [.Tuple [.Name x px, .Name y py] kt pt] (.Tuple [a, b] k2 pt2) pos.line X.env = pure false := by rfl) :
    SS G X W (.Assign [.Tuple [.Name x px, .Name y py] kt pt] (.Tuple [a, b] k2 pt2) pos) (sPar2 i j fs) := by
  refine ps_weak (ps_par C.calm C.nd hi hj hij hx hy ha hw hs) fun D σ H hq => ?_
  obtain ⟨ι, e, h, en, rh, q⟩ := hq
  refine ⟨ι, e, h, en, rh, ?_⟩
  simp only [sPar2] at q
  cases z : fs e h with
  | bad => rw [z] at q; exact q
  | exc c h1 => rw [z] at q; exact fun ι' H' a => q ι' σ H' a (en.mono a.pre a.tl)
  | ok xs h1 =>
    rw [z] at q
    intro ι1 H1 vs a r
    match xs, q with
    | [u, v], q =>
      unfold RVs at r
      obtain ⟨w1, r, rfl, r1, rr⟩ := r
      unfold RVs at rr
      obtain ⟨w2, r, rfl, r2, rr⟩ := rr
      unfold RVs at rr
      subst rr
      exact ⟨w1, w2, rfl, q ι1 _ H1 a (((en.mono a.pre a.tl).set i (RVo.mk r1)).set j (RVo.mk r2))⟩
    | [], q => exact q.elim
    | [_], q => exact q.elim
    | _ :: _ :: _ :: _, q => exact q.elim
theorem ss_par3 {i j l : Nat} {px py pz pt : Pos} {kt k2 pt2} (C : Can G X W k) (hi : X.N[i]? = some x) (hj : X.N[j]? = some y) (hl : X.N[l]? = some z) (hij : i ≠ j) (hil : i ≠ l) (hjl : j ≠ l)
    (hx : X.env.scope.names.lookup x = some .local) (hy : X.env.scope.names.lookup y = some .local) (hz : X.env.scope.names.lookup z = some .local) (ha : SA G X W [a, b, c] fs)
    (hw : swappedStores [.Tuple [.Name x px, .Name y py, .Name z pz] kt pt] (.Tuple [a, b, c] k2 pt2) X.env = pure (some [x, y, z]))
    (hs : swapsWithSole [.Tuple [.Name x px, .Name y py, .Name z pz] kt pt] (.Tuple [a, b, c] k2 pt2) pos.line X.env = pure false := by rfl) :
    SS G X W (.Assign [.Tuple [.Name x px, .Name y py, .Name z pz] kt pt] (.Tuple [a, b, c] k2 pt2) pos) (sPar3 i j l fs) := by
  refine ps_weak (ps_par3 C.calm C.nd hi hj hl hij hil hjl hx hy hz ha hw hs) fun D σ H hq => ?_
  obtain ⟨ι, e, h, en, rh, q⟩ := hq
  refine ⟨ι, e, h, en, rh, ?_⟩
  simp only [sPar3] at q
  cases z : fs e h with
  | bad => rw [z] at q; exact q
  | exc c h1 => rw [z] at q; exact fun ι' H' a => q ι' σ H' a (en.mono a.pre a.tl)
  | ok xs h1 =>
    rw [z] at q
    intro ι1 H1 vs a r
    match xs, q with
    | [u, v, t], q =>
      unfold RVs at r
      obtain ⟨w1, r, rfl, r1, rr⟩ := r
      unfold RVs at rr
      obtain ⟨w2, r, rfl, r2, rr⟩ := rr
      unfold RVs at rr
      obtain ⟨w3, r, rfl, r3, rr⟩ := rr
      unfold RVs at rr
      subst rr
      exact ⟨w1, w2, w3, rfl, q ι1 _ H1 a ((((en.mono a.pre a.tl).set i (RVo.mk r1)).set j (RVo.mk r2)).set l (RVo.mk r3))⟩
    | [], q => exact q.elim
    | [_], q => exact q.elim
    | [_, _], q => exact q.elim
    | _ :: _ :: _ :: _ :: _, q => exact q.elim
end
end Sh

/-! Sh10: list comprehensions, exceptions passing through. -/
namespace Sh
open PySem PySem.Spec PyProof.Rows L2
/-- a comprehension's block, its exceptions as xe says -/
abbrev blkX (X : Cx) (s : Shared) (H : Hp) (scope : Scope) (cenv : Env) (fp : List Addr) (xe : Value → Shared → Prop) : Cx := Cx.wish (X.blk s H scope cenv fp) xe
/-- a block's wish: the slots of the def around stay -/
abbrev bW (W : WX) (σ : L2.St) : WX := fun c d _ H' => W c d σ H'
theorem heldZ_hide {B h h' : Heap} {l : List Env} {a C L : Addr} {Z : Obj → Prop} {m m' : Str → Option Value} (hh : HandSPX.HeldZ B l a Z L h) (hn : h.Ns C m) (hn' : h'.Ns C m') (hs : Heap.SameBut C h h') : HandSPX.HeldZ (PySem.W.hideAll B [C]) l a Z L h' := by
  obtain ⟨b1, b2, b3, oe, vs, T, oT, ts, he, hz, hd, h1, nT, Te, hT, dT, h3⟩ := hh
  have ne : ∀ b o vs, h.get? b = some o → o.data = .fields vs → b ≠ C := fun b o vs e d z => by
    obtain ⟨oC, es, ep, e', d', _⟩ := hn
    rw [z, e'] at e
    cases e
    rw [d'] at d
    cases d
  refine ⟨fun b o e => ?_, ?_, ?_, oe, vs, T, oT, ts, (hs.2 a (ne a oe vs he hd)).trans he, hz, hd, h1, ?_, Te, (hs.2 T (ne T oT ts hT dT)).trans hT, dT, h3⟩
  · by_cases hb : b = C
    · rw [hb, PySem.W.hideAll_none _ (by simp)] at e; cases e
    · exact (hs.2 b hb).trans (b1 b o (PySem.W.of_hideAll _ e))
  · cases q : (PySem.W.hideAll B [C]).get? a with
    | none => rfl
    | some o => rw [PySem.W.of_hideAll _ q] at b2; cases b2
  · refine funFrames_none (Heap.FunFrames.sameBut hs hn' b3) fun L hL => ?_
    cases q : (PySem.W.hideAll B [C]).get? L with
    | none => rfl
    | some o =>
      have := (b3.mem hL).1
      rw [PySem.W.of_hideAll _ q] at this; cases this
  · cases q : (PySem.W.hideAll B [C]).get? T with
    | none => rfl
    | some o => rw [PySem.W.of_hideAll _ q] at nT; cases nT
/-- noted by the frame that runs -/
theorem sky_note {M : Model} {A : Around} {E₁ : Value → Shared → Prop} {env cenv : Env} {outer : List Env} {B : Heap} {L a : Addr} {Z : Obj → Prop} {s : Shared} {Q : Unit → Shared → Prop} (hZ : HandSPX.Steady Z) (hfr : A.frames = some (env :: outer)) (hf : env.frame = some L) (hc : cenv.frame = some L)
    (x : Sky B (env :: outer) a Z L s.heap) (hQ : ∀ h', HandSPX.HeldZ B (env :: outer) a Z L h' → s.heap.UpToSlots h' → Q () { s with heap := h' }) : wpAny M A (noteFrame (.ref a) cenv) Q E₁ s := by
  rw [noteFrame_env _ (hc.trans hf.symm)]
  rcases x with ⟨hB, hn, hl, oe, vs, he, hz, hd, h1⟩ | fl | hh
  · exact HandSPX.look_newZ hZ hfr hl hf he hB hn hd h1 hz hQ
  · exact HandSPX.looks_onZ hZ hfr hf fl hQ
  · exact HandSPX.againZ hf hh.2.2.2 (hQ s.heap hh (Heap.UpToSlots.refl _))
section
variable {X : Cx} {W : WX} {L : Addr} {pins : List (Addr × Obj)} {σ : L2.St} {H3 : Hp} {s3 : Shared} {scope : Scope} {ce : Env} {fp : List Addr}
/-- what a block lets out goes on in the def around -/
theorem blk_out (tp : Top X L) (tf : ∀ u s', XF X W L u s' → X.xe u s') (I3 : Inv X pins σ H3 s3) (f3 : ∀ b ∈ fp, FpOk X pins H3 b) (cL : ce.locals = s3.heap.objs.size) (cF : ce.frame = X.env.frame) (u : Value) (s' : Shared)
    (x : XF (blkX X s3 H3 scope ce fp (notedBy (model X.prog X.w) X.A ce (CompFails (model X.prog X.w) X.A X.xe ce))) (bW W σ) L u s') : notedBy (model X.prog X.w) X.A ce (CompFails (model X.prog X.w) X.A X.xe ce) u s' := by
  obtain ⟨a, B, sI, pins', σ', H', cls, d, rfl, J, nb, up, sky, na, os, ag, w⟩ := x
  obtain ⟨⟨env, outer, hst, hf⟩, hXf⟩ := tp
  have hfr : X.A.frames = some (env :: outer) := by rw [I3.ok.frames, hst]
  have sky' : Sky B (env :: outer) a (Zc cls d) L s'.heap := by rw [← hst]; exact sky
  have nb' : ∀ b o, sI.heap.get? b = some o → b ∉ frs (env :: outer) → B.get? b = some o := by rw [← hst]; exact nb
  obtain ⟨mC, hnC, _⟩ := J.loc
  have hnC : sI.heap.Ns ce.locals mC := hnC
  have nC : H' s3.heap.objs.size = none := by
    have z : H' ce.locals = none := J.free
    rw [cL] at z; exact z
  show wpAny _ X.A (noteFrame (.ref a) ce) _ _ _
  refine sky_note Zc.steady hfr hf (cF.trans hXf) sky' fun h1 held1 up1 => ?_
  have hn1 : h1.Ns ce.locals mC := hnC.upToSlots fun b o e hnf => (up.trans up1) b o e hnf
  refine ⟨mC, hn1, fun h2 m2 hn2 sb2 => ?_⟩
  have held2 := heldZ_hide held1 hn1 hn2 sb2
  obtain ⟨b1, b2, b3, oe, vs, T, oT, ts, he, hz, hd, hv1, _⟩ := id held2
  unfold PySem.passOn
  refine wpAny_bind (wpAny_field he hd hv1 ?_)
  rw [if_neg (show ¬ ((Value.ref T == Value.none) = true) from by simp)]
  have fin : wpAny (model X.prog X.w) X.A (setFlight (.ref a) ce.frame) (fun _ s4 => wpAny (model X.prog X.w) X.A (throw (.ref a) : Sem Value) (fun _ _ => False) X.xe s4) X.xe { s' with heap := h2 } := by
    rw [cF, hXf]
    refine HandSPX.setFlight_onZ held2 fun h4 held4 up4 => wpAny_throw (tf _ _ ?_)
    have I7 : Inv X pins σ H' sI := I3.call' (ch := fp) J.os J.base J.hok J.bare fun b hb => ⟨(f3 b hb).2.2.2.1, (f3 b hb).2.1, (f3 b hb).2.2.2.2.1, (f3 b hb).2.2.2.2.2⟩
    have fC : FpOk X pins H' s3.heap.objs.size := I3.fpOk (Nat.le_refl _) nC
    obtain ⟨f0, f1, f2, f3, f4, f5⟩ := fC
    have I8 : Inv X pins σ H' { sI with heap := PySem.W.hideAll sI.heap [s3.heap.objs.size] } := I7.turned (t' := sI.toks) (it := s3.heap.objs.size) (fun b o hb e => PySem.W.hideAll_get _ e (by simpa using hb)) f0 f1 f3 f4 f5
    refine ⟨a, PySem.W.hideAll B [ce.locals], _, pins, σ, H', cls, d, rfl, I8, fun b o e hb => ?_, fun b o e hnf => ?_, .inr (.inr (by rw [hst]; exact held4)), na, os, ag, w⟩
    · have hne : b ≠ s3.heap.objs.size := fun z => by
        rw [z] at e
        rw [PySem.W.hideAll_none _ (by simp)] at e
        cases e
      rw [hst] at hb
      exact PySem.W.hideAll_get _ (nb' b o (PySem.W.of_hideAll _ e) hb) (by rw [cL]; simpa using hne)
    · have hne : b ≠ s3.heap.objs.size := fun z => by
        rw [z] at e
        have e' : (PySem.W.hideAll sI.heap [s3.heap.objs.size]).get? s3.heap.objs.size = some o := e
        rw [PySem.W.hideAll_none _ (by simp)] at e'
        cases e'
      obtain ⟨sl, e1⟩ := (up.trans up1) b o (PySem.W.of_hideAll _ e) hnf
      obtain ⟨sl2, e2⟩ := up4 b _ ((sb2.2 b (by rw [cL]; exact hne)).trans e1) hnf
      exact ⟨sl2, e2⟩
  first
    | exact wpAny_bind (wpAny_pure (wpAny_bind fin))
    | exact wpAny_bind fin
end

/-! ### [elt for target in iter if ..] -/
def wipeI (e : IE) : List Nat → IE
  | [] => e
  | v :: vs => (wipeI e vs).set v none
theorem REn.none {K : PySem.W.Frag} {ι : List Addr} {H : Hp} : ∀ {e : IE} {σ : L2.St} (i : Nat), REn K ι H e σ → REn K ι H (e.set i none) (σ.set i none)
  | [], _, _, h => by unfold REn at h; subst h; unfold REn; rfl
  | x :: xs, _, 0, h => by
    unfold REn at h
    obtain ⟨v, r, rfl, a, b⟩ := h
    exact ⟨_, _, rfl, trivial, b⟩
  | x :: xs, _, i + 1, h => by
    unfold REn at h
    obtain ⟨v, r, rfl, a, b⟩ := h
    exact ⟨_, _, rfl, a, REn.none i b⟩
theorem REn.wipe {K : PySem.W.Frag} {ι : List Addr} {H : Hp} {e : IE} {σ : L2.St} (h : REn K ι H e σ) : ∀ vs : List Nat, REn K ι H (wipeI e vs) (L2.wipe σ vs)
  | [] => h
  | v :: vs => by
    unfold wipeI L2.wipe
    exact REn.none v (REn.wipe h vs)
/-- the loop: d, the new list's place -/
def lcL (S : Sr) (g : MG) (t f : ME) (d : Nat) : Nat → Nat → IE → M IV
  | 0, _, _ => fun _ => .bad
  | m + 1, i, e => fun h => match S.nx i h with
    | .stop => .ok (.ref d) h
    | .it x => match g x e h with
      | .nx e1 h1 => match t e1 h1 with
        | .ok (.bl true) h2 => (f e1 h2).bind fun y h3 => match h3[d]? with
          | some (.lst acc) => if acc.length < sizeLine then lcL S g t f d m (i + 1) e1 (h3.set d (.lst (acc ++ [y]))) else .bad
          | _ => .bad
        | .ok (.bl false) h2 => lcL S g t f d m (i + 1) e1 h2
        | .exc c h2 => .exc c h2
        | _ => .bad
      | _ => .bad
    | .bad => .bad
@[simp] def mLc (it : MI) (vs : List Nat) (g : MG) (t f : ME) : ME := fun e h => match it e h with
  | .ok S h1 => lcL S g t f h1.length (S.n + 1) 0 (wipeI e vs) (h1 ++ [.lst []])
  | .exc c h1 => .exc c h1
  | .bad => .bad
/-- a clause's tests -/
def SQ (G : Gx) (X : Cx) (W : WX) (ifs : List Expr) (f : ME) : Prop := PTs X ifs (TB G W f)
section
variable {G : Gx} {X : Cx} {W : WX} {pins : List (Addr × Obj)} {σ : L2.St} {H : Hp} {s : Shared}
theorem sq_nil : SQ G X W [] (mC (.bl true)) := ⟨fun pins s σ H Q I ⟨ι, e, h, en, rh, q⟩ => pts_nil.run pins s σ H Q I (q ι H (Aft.refl rh))⟩
theorem sq_one {c : Expr} {f : ME} (p : SC G X W c f) : SQ G X W [c] f := pts_one p
/-- the abstract frame of a block -/
structure BX (X : Cx) (scope : Scope) (cenv : Env) : Prop where
  cl : ∃ cl C, cenv = compEnvC scope cl C X.env
theorem lcI_core {k : Nat} {elt tg iter : Expr} {ifs : List Expr} {scope : Scope} {own : List (Str × Nat)} {pos pos' : Pos} {it : MI} {g : MG} {t f : ME} {use : Option (Value → Sem Unit)} {Q : VK} {Qf : Value → Shared → Prop}
    (C : Can G X W k) (I : Inv X pins σ H s) (hi : SI G X W tg iter it) (ok : BlkOk X.N X.env.scope scope own)
    (hb : ∀ (s : Shared) (H : Hp) (cl : List (Str × Addr)) (D : Addr) (fp : List Addr) (xe : Value → Shared → Prop) (W' : WX), Can G (blkX X s H scope (compEnvC scope cl D X.env) fp xe) W' k →
      SG G (blkX X s H scope (compEnvC scope cl D X.env) fp xe) W' tg g ∧ SQ G (blkX X s H scope (compEnvC scope cl D X.env) fp xe) W' ifs t ∧ SE G (blkX X s H scope (compEnvC scope cl D X.env) fp xe) W' elt f)
    (hs : ∀ x, foldedSetIterable iter X.env x = pure x)
    (h : TI G W (mLc it (own.map (·.2)) g t f) σ H Q)
    (hRR : ∀ D ce s' m H', Inv X pins σ H' s' → Q (.ref D) H' → s'.heap.Ns ce.locals m → FpOk X pins H' ce.locals → compEnds (model X.prog X.w) X.A X.xe use Qf (.ref D) ce (.ok .next) s') :
    wpAny (model X.prog X.w) X.A (comprehension (.ListComp elt [⟨tg, iter, ifs, 0⟩] scope pos) scope X.env pos' (newList []) false (eval iter X.env) use) Qf X.xe s := by
  obtain ⟨L, tp, tf⟩ := C.tf
  have hfree : ∀ y ∈ scope.names, y.2 = .free → ∃ c, X.env.cells.lookup y.1 = some c := fun y hy e => by
    rcases ok.free y hy e with k | k
    · exact I.ok.has _ (.inl k)
    · exact I.ok.has _ (.inr k)
  obtain ⟨ι, e, h0, en, rh, hq⟩ := h
  have hT : TII G W it σ H fun J H1 => ∃ S ι1 h1, Aft G ι H ι1 h1 H1 ∧ SrOk G ι1 H1 S J ∧ PR G (fun c d H' => W c d σ H') ι1 H1 Q (lcL S g t f h1.length (S.n + 1) 0 (wipeI e (own.map (·.2))) (h1 ++ [.lst []])) := by
    refine ⟨ι, e, h0, en, rh, ?_⟩
    simp only [mLc] at hq
    cases z : it e h0 with
    | bad => rw [z] at hq; exact hq
    | exc c h1 => rw [z] at hq; exact hq
    | ok S h1 =>
      rw [z] at hq
      exact fun ι1 H1 J a so => ⟨S, ι1, h1, a, so, PR.after a hq⟩
  refine comprehension_at (use := use) rfl hs (closure_ok hfree) ok.kind (fun y hy e => by rw [ok.uniq y hy, e])
    (thn (hi.run pins s σ H _ I hT) fun xv s1 hx => thn hx fun itv s2 h2 => ?_)
  obtain ⟨itA, fp, tn, J, H2, e2, I2, T, st2, f2, S, ι2, hh2, af2, so, q⟩ := h2
  subst e2
  refine wpAny_newObj_type (newEnv_comp ?_) (by show 0 ≤ sizeLine; decide)
  generalize hD : s2.heap.objs.size = D
  have hDn : H2 D = none := I2.hok.fresh (Nat.le_of_eq hD)
  generalize hs3 : ({ s2 with heap := s2.heap.push { cls := .type "list", data := .seq ([] : List Value).toArray } } : Shared) = s3
  have I3 : Inv X pins σ (upd H2 D (.lst [])) s3 := by
    rw [← hs3]
    refine I2.laid (t' := s2.toks) (fun b o e => Heap.get?_push_of_some _ e) (Nat.le_of_eq hD) ⟨Nat.zero_le _, [], 0, .nil, ?_⟩
    rw [← hD]
    exact Heap.get?_push_size _ rfl
  have h3 : s3.heap = s2.heap.push { cls := .type "list", data := .seq ([] : List Value).toArray } := by rw [← hs3]
  have af3 : Aft G ι2 H2 (ι2 ++ [D]) (hh2 ++ [.lst []]) (upd H2 D (.lst [])) := new_lst af2.rh hDn RVs.nil
  have so3 : SrOk G (ι2 ++ [D]) (upd H2 D (.lst [])) S J := fun i ι' h' H' r p tl => so i ι' h' H' r (af3.pre.trans p) (af3.tl.trans tl)
  have q3 := PR.after af3 q
  have lenD : ι2.length = hh2.length := af2.rh.len
  have dD : (ι2 ++ [D])[hh2.length]? = some D := by rw [← lenD]; simp
  have sz : ∀ b ∈ fp, b < s2.heap.objs.size := fun b hb => by
    obtain ⟨o, e, _⟩ := T.obj _ _ st2 b hb
    exact Heap.lt_size e
  have f3 : ∀ b ∈ fp, FpOk X pins (upd H2 D (.lst [])) b ∧ b < s3.heap.objs.size := fun b hb => by
    have hlt := sz b hb
    refine ⟨⟨?_, (f2 b hb).2⟩, by rw [h3, Heap.size_push]; exact Nat.lt_succ_of_lt hlt⟩
    rw [upd_ne (by rw [← hD]; exact Nat.ne_of_lt hlt)]
    exact (f2 b hb).1
  have st3 : tn 0 s3.heap := T.keep _ _ _ st2 fun b _ o e => by rw [h3]; exact Heap.get?_push_of_some _ e
  have I4 := block_start I3 ok C.nd f3
  have body := hb s3 (upd H2 D (.lst [])) (cellsFrom (s3.heap.objs.size + 1) scope.names (cloFrom X.env.cells scope.names [])) s3.heap.objs.size fp
  show codeAny _ _ (.compStart (.ListComp elt [⟨tg, iter, ifs, 0⟩] scope pos) 0 (.ref itA) (.ref D) (compEnvC scope (cellsFrom (s3.heap.objs.size + 1) scope.names (cloFrom X.env.cells scope.names [])) s3.heap.objs.size X.env)) (compEnds (model X.prog X.w) X.A X.xe use Qf (.ref D) (compEnvC scope (cellsFrom (s3.heap.objs.size + 1) scope.names (cloFrom X.env.cells scope.names [])) s3.heap.objs.size X.env)) { s3 with heap := pushCells (s3.heap.push { cls := .type "dict", data := .dict #[] }) scope.names }
  have nfp : ∀ b ∈ fp, (upd H2 D (.lst [])) b = none := fun b hb => (f3 b hb).1.1
  have cL : (compEnvC scope (cellsFrom (s3.heap.objs.size + 1) scope.names (cloFrom X.env.cells scope.names [])) s3.heap.objs.size X.env).locals = s3.heap.objs.size := rfl
  have cF : (compEnvC scope (cellsFrom (s3.heap.objs.size + 1) scope.names (cloFrom X.env.cells scope.names [])) s3.heap.objs.size X.env).frame = X.env.frame := rfl
  generalize compEnvC scope (cellsFrom (s3.heap.objs.size + 1) scope.names (cloFrom X.env.cells scope.names [])) s3.heap.objs.size X.env = ce at I4 body cL cF ⊢
  generalize hH3 : upd H2 D (.lst []) = H3 at I3 I4 af3 so3 q3 body nfp f3
  -- the block's exceptions
  generalize hxe : notedBy (model X.prog X.w) X.A ce (CompFails (model X.prog X.w) X.A X.xe ce) = xe
  have C2 : Can G (blkX X s3 H3 scope ce fp xe) (bW W σ) k := by
    refine ⟨⟨L, ⟨tp.1, cF.trans tp.2⟩, fun u s' x => ?_⟩, C.room, C.calm, C.nd, C.hK⟩
    rw [← hxe] at x
    have := blk_out tp tf I3 (fun b hb => (f3 b hb).1) cL cF u s' x
    rw [hxe] at this
    exact this
  obtain ⟨pg, pt, pe⟩ := body xe (bW W σ) C2
  have I4 : Inv (blkX X s3 H3 scope ce fp xe) [] (L2.wipe σ (own.map (·.2))) H3 _ := I4.wish xe
  generalize hs4 : ({ s3 with heap := pushCells (s3.heap.push { cls := .type "dict", data := .dict #[] }) scope.names } : Shared) = s4 at I4 ⊢
  have st4 : tn 0 s4.heap := T.keep _ _ _ st3 fun b _ o e => by rw [← hs4]; exact pushCells_keeps _ _ _ _ (Heap.get?_push_of_some _ e)
  have stat : ∀ {σ' : L2.St} {H' : Hp} {s' : Shared}, Inv (blkX X s3 H3 scope ce fp xe) [] σ' H' s' → (∀ b ∈ fp, H' b = none) → ∀ b ∈ fp, FpOk (blkX X s3 H3 scope ce fp xe) [] H' b := fun {σ' H' s'} I' hn b hb =>
    ⟨hn b hb, (I'.ok.exf b hb).1, I'.ok.exfs b hb, .inl hb, fun x c e => (I'.ok.exf b hb).2 x c e, fun p hp => absurd (show p ∈ ([] : List (Addr × Obj)) ++ [] from hp) (by simp)⟩
  have en3 : REn G.K (ι2 ++ [D]) H3 (wipeI e (own.map (·.2))) (L2.wipe σ (own.map (·.2))) := by
    have z := (en.mono af2.pre af2.tl).mono af3.pre af3.tl
    exact z.wipe _
  have loop : codeAny (model X.prog X.w) X.A (.compLoop (.ListComp elt [⟨tg, iter, ifs, 0⟩] scope pos) 0 (.ref itA) (.ref D) ce) (compEnds (model X.prog X.w) X.A X.xe use Qf (.ref D) ce) s4 := by
    refine compLoop_any (fun n s' => ∃ i H' σ' ι' e' h', Inv (blkX X s3 H3 scope ce fp xe) [] σ' H' s' ∧ tn i s'.heap ∧ (∀ b ∈ fp, H' b = none) ∧ REn G.K ι' H' e' σ' ∧ RH G ι' h' H' ∧ (ι2 ++ [D]) <+: ι' ∧ TL G.K H3 H' ∧ PR G (fun c d H' => W c d σ H') ι' H' Q (lcL S g t f hh2.length n i e' h'))
      ?_ (S.n + 1) ⟨0, H3, _, ι2 ++ [D], _, _, I4, st4, nfp, en3, af3.rh, List.prefix_refl _, TL.refl _ _, q3⟩
    rintro n s5 ⟨i, H5, σ5, ι5, e5, h5, I5, st5, n5, en5, rh5, pre5, tl5, q5⟩
    rw [show notedBy (model X.prog X.w) X.A ce (fun e s' => compEnds (model X.prog X.w) X.A X.xe use Qf (.ref D) ce (.error e) s') = xe from hxe]
    cases n with
    | zero => exact q5.elim
    | succ n =>
      simp only [lcL] at q5
      have so5 := so3 i ι5 h5 H5 rh5 pre5 tl5
      cases zn : S.nx i h5 with
      | bad => rw [zn] at q5; exact q5.elim
      | stop =>
        rw [zn] at q5 so5
        have td := T.done (blkX X s3 H3 scope ce fp xe) rfl rfl rfl C.calm i [] s5 σ5 H5 xe I5 (stat I5 n5) st5 so5
        refine thn td fun r s6 ⟨hr, I6⟩ => ?_
        subst hr
        have I7 : Inv X pins σ H5 s6 := I3.call' (ch := fp) I6.os I6.base I6.hok I6.bare fun b hb => ⟨(f3 b hb).1.2.2.2.1, (f3 b hb).1.2.1, (f3 b hb).1.2.2.2.2.1, (f3 b hb).1.2.2.2.2.2⟩
        have nC : H5 s3.heap.objs.size = none := by
          have z : H5 ce.locals = none := I6.free
          rw [cL] at z
          exact z
        obtain ⟨m, hn, _⟩ := I6.loc
        have hn : s6.heap.Ns ce.locals m := hn
        refine hRR D ce s6 m H5 I7 (q5 ι5 H5 _ (Aft.refl rh5) (ref_iff.mpr ⟨D, pre_get pre5 dD, rfl⟩)) hn ?_
        rw [cL]
        exact I3.fpOk (Nat.le_refl _) nC
      | it x =>
        rw [zn] at q5 so5
        simp only at q5 so5
        obtain ⟨go, yl⟩ := so5
        have ti := T.item (blkX X s3 H3 scope ce fp xe) rfl rfl rfl C.calm i [] s5 σ5 H5 xe I5 (stat I5 n5) st5 go
        refine thn ti fun r s6 ⟨u, hr, h6⟩ => ?_
        subst hr
        refine thn h6 fun _ s7 ⟨xv, H7, I7, r7, y7, st7, n7⟩ => ?_
        obtain ⟨ι7, a7, rx⟩ := yl xv H7 y7
        have I7' := I7.pinned (stat I7 n7) (T.obj _ _ st7)
        -- a turn's end
        have fin : ∀ {s' : Shared} {H' : Hp} {σ' : L2.St}, Inv (blkX X s3 H3 scope ce fp xe) ([] ++ pinsAt fp s7.heap) σ' H' s' → Inv (blkX X s3 H3 scope ce fp xe) [] σ' H' s' ∧ tn (i + 1) s'.heap ∧ ∀ b ∈ fp, H' b = none := fun {s' H' σ'} I' => by
          have pin' : ∀ b ∈ fp, ∀ o, s7.heap.get? b = some o → s'.heap.get? b = some o ∧ H' b = none := fun b hb o e =>
            let z := I'.pin (b, o) (List.mem_append_right _ (List.mem_append_right _ (mem_pinsAt hb e)))
            ⟨z.1, z.2.1⟩
          refine ⟨I'.unpinned (pins := []), T.keep _ _ _ st7 fun b hb o e => (pin' b hb o e).1, fun b hb => ?_⟩
          obtain ⟨o, e, _⟩ := T.obj _ _ st7 b hb
          exact (pin' b hb o e).2
        have q7 := PR.after a7 q5
        have hg7 : TGI G (bW W σ) g xv σ5 H7 fun σ8 H8 => ∃ ι8 e8 h8, REn G.K ι8 H8 e8 σ8 ∧ Aft G ι7 H7 ι8 h8 H8 ∧ PR G (fun c d H' => W c d σ H') ι8 H8 Q (match t e8 h8 with
          | .ok (.bl true) h2 => (f e8 h2).bind fun y h3 => match h3[hh2.length]? with
            | some (.lst acc) => if acc.length < sizeLine then lcL S g t f hh2.length n (i + 1) e8 (h3.set hh2.length (.lst (acc ++ [y]))) else .bad
            | _ => .bad
          | .ok (.bl false) h2 => lcL S g t f hh2.length n (i + 1) e8 h2
          | .exc c h2 => .exc c h2
          | _ => .bad) := by
          refine ⟨ι7, e5, h5, x, en5.mono a7.pre a7.tl, a7.rh, rx, ?_⟩
          cases zg : g x e5 h5 with
          | nx e8 h8 =>
            rw [zg] at q7
            exact fun ι8 σ8 H8 a8 en8 => ⟨ι8, e8, h8, en8, a8, PR.after a8 q7⟩
          | _ => rw [zg] at q7; exact q7.elim
        refine thn (pg.run _ s7 σ5 H7 xv u _ I7' r7 hg7) fun _ s8 ⟨σ8, H8, I8, ι8, e8, h8, en8, a8, q8⟩ => ?_
        have ht8 : TB G (bW W σ) t σ8 H8 fun b H9 => ∃ ι9 h9, REn G.K ι9 H9 e8 σ8 ∧ Aft G ι8 H8 ι9 h9 H9 ∧ PR G (fun c d H' => W c d σ H') ι9 H9 Q (if b = true then (f e8 h9).bind fun y h3 => match h3[hh2.length]? with
            | some (.lst acc) => if acc.length < sizeLine then lcL S g t f hh2.length n (i + 1) e8 (h3.set hh2.length (.lst (acc ++ [y]))) else .bad
            | _ => .bad else lcL S g t f hh2.length n (i + 1) e8 h9) := by
          refine ⟨ι8, e8, h8, en8, a8.rh, ?_⟩
          cases zt : t e8 h8 with
          | bad => rw [zt] at q8; exact q8
          | exc c h9 => rw [zt] at q8; exact q8
          | ok b h9 =>
            rw [zt] at q8
            cases b <;> try exact q8
            rename_i b
            cases b with
            | true => exact fun ι9 H9 a9 => ⟨ι9, h9, en8.mono a9.pre a9.tl, a9, by rw [if_pos rfl]; exact PR.after a9 q8⟩
            | false => exact fun ι9 H9 a9 => ⟨ι9, h9, en8.mono a9.pre a9.tl, a9, by rw [if_neg Bool.false_ne_true]; exact PR.after a9 q8⟩
        refine thn (pt.run _ s8 σ8 H8 _ I8 ht8) fun b s9 ⟨H9, I9, ι9, h9, en9, a9, q9⟩ => ?_
        have pre9 : (ι2 ++ [D]) <+: ι9 := pre5.trans (a7.pre.trans (a8.pre.trans a9.pre))
        have tl9 : TL G.K H3 H9 := tl5.trans (a7.tl.trans (a8.tl.trans a9.tl))
        cases b with
        | false =>
          rw [if_neg Bool.false_ne_true] at q9
          simp only [Bool.false_eq_true, if_false]
          obtain ⟨J9, t9, n9⟩ := fin I9
          exact ⟨n, Nat.lt_succ_self n, i + 1, H9, σ8, ι9, e8, h9, J9, t9, n9, en9, a9.rh, pre9, tl9, q9⟩
        | true =>
          rw [if_pos rfl] at q9
          simp only [if_true]
          have he9 : TI G (bW W σ) f σ8 H9 fun y H10 => ∃ ι10 h10 yi acc vs, Aft G ι9 H9 ι10 h10 H10 ∧ RV G.K ι10 H10 yi y ∧ h10[hh2.length]? = some (.lst acc) ∧ H10 D = some (.lst vs) ∧ RVs G.K ι10 H10 acc vs ∧ acc.length < sizeLine ∧ PR G (fun c d H' => W c d σ H') ι10 H10 Q (lcL S g t f hh2.length n (i + 1) e8 (h10.set hh2.length (.lst (acc ++ [yi])))) := by
            refine ⟨ι9, e8, h9, en9, a9.rh, ?_⟩
            cases zf : f e8 h9 with
            | bad => rw [zf] at q9; exact q9
            | exc c h10 => rw [zf] at q9; exact q9
            | ok yi h10 =>
              rw [zf] at q9
              simp only [Res.bind] at q9
              intro ι10 H10 y a10 ry
              cases z0 : h10[hh2.length]? with
              | none => rw [z0] at q9; exact q9.elim
              | some o =>
                rw [z0] at q9
                cases o <;> try exact q9.elim
                rename_i acc
                simp only at q9
                by_cases hl : acc.length < sizeLine
                · rw [if_pos hl] at q9
                  obtain ⟨vs, hv, rs⟩ := a10.rh.at z0 (pre_get (pre9.trans a10.pre) dD)
                  exact ⟨ι10, h10, yi, acc, vs, a10, ry, z0, hv, rs, hl, PR.after a10 q9⟩
                · rw [if_neg hl] at q9; exact q9.elim
          refine thn (pe.run _ s9 σ8 H9 _ I9 he9) fun zv s10 ⟨yv, H10, I10, r10, ι10, h10, yi, acc, vs, a10, ry, z0, hv, rs, hl, q10⟩ => ?_
          refine app_ok (X := blkX X s3 H3 scope ce fp xe) I10 hv (by rw [← rs.len]; exact hl) r10 fun s11 I11 => ?_
          obtain ⟨J11, t11, n11⟩ := fin I11
          have a11 := set_lst a10.rh z0 (pre_get (pre9.trans a10.pre) dD) (RVs.app rs (RVs.one ry))
          exact ⟨n, Nat.lt_succ_self n, i + 1, _, σ8, ι10, e8, _, J11, t11, n11, (en9.mono a10.pre a10.tl).mono a11.pre a11.tl, a11.rh, pre9.trans a10.pre, tl9.trans (a10.tl.trans a11.tl), PR.after a11 q10⟩
  exact codeAny_compStart_list loop (T.self X.A 0 _ _ _ st4 loop)

/-- a block's parts, in any context of such a block -/
def SBk (G : Gx) (X : Cx) (k : Nat) (scope : Scope) (tg : Expr) (ifs : List Expr) (elt : Expr) (g : MG) (t f : ME) : Prop :=
  ∀ (s : Shared) (H : Hp) (cl : List (Str × Addr)) (D : Addr) (fp : List Addr) (xe : Value → Shared → Prop) (W' : WX), Can G (blkX X s H scope (compEnvC scope cl D X.env) fp xe) W' k →
      SG G (blkX X s H scope (compEnvC scope cl D X.env) fp xe) W' tg g ∧ SQ G (blkX X s H scope (compEnvC scope cl D X.env) fp xe) W' ifs t ∧ SE G (blkX X s H scope (compEnvC scope cl D X.env) fp xe) W' elt f
variable {k : Nat} {elt tg iter : Expr} {ifs : List Expr} {scope : Scope} {own : List (Str × Nat)} {pos spos : Pos} {it : MI} {g : MG} {t f : ME}
theorem se_lc (C : Can G X W k) (hi : SI G X W tg iter it) (ok : BlkOk X.N X.env.scope scope own) (hb : SBk G X k scope tg ifs elt g t f) (hs : ∀ x, foldedSetIterable iter X.env x = pure x := by intro _; rfl) :
    SE G X W (.ListComp elt [⟨tg, iter, ifs, 0⟩] scope pos) (mLc it (own.map (·.2)) g t f) := by
  refine ⟨fun pins s σ H Q I h => ?_⟩
  rw [eval_ListComp]
  refine lcI_core C I hi ok hb hs h fun D ce s' m H' I' q hn fC => ⟨m, hn, fun h2 sb => ?_⟩
  obtain ⟨f0, f1, f2, f3, f4, f5⟩ := fC
  exact ⟨.ref D, H', I'.turned (t' := s'.toks) (fun b o hb e => (sb.2 b hb).trans e) f0 f1 f3 f4 f5, rfl, q⟩
/-- name = [..] -/
theorem ss_setLc {i : Nat} {y : Str} {py : Pos} (C : Can G X W k) (hy : X.N[i]? = some y) (hyl : X.env.scope.names.lookup y = some .local)
    (hsw : swapsWith (.ListComp elt [⟨tg, iter, ifs, 0⟩] scope pos) (some (.Name y py)) spos.line X.env = pure true) (hi : SI G X W tg iter it) (ok : BlkOk X.N X.env.scope scope own) (hb : SBk G X k scope tg ifs elt g t f) (hs : ∀ x, foldedSetIterable iter X.env x = pure x := by intro _; rfl) :
    SS G X W (.Assign [.Name y py] (.ListComp elt [⟨tg, iter, ifs, 0⟩] scope pos) spos) (sAsg (mLc it (own.map (·.2)) g t f) (gName' i)) := by
  have hp : PS X (.Assign [.Name y py] (.ListComp elt [⟨tg, iter, ifs, 0⟩] scope pos) spos) (tAsg (TI G W (mLc it (own.map (·.2)) g t f)) (gName i)) := by
    refine ⟨fun pins s σ H D I h => ?_⟩
    rw [exec_Assign_Name_used _ _ _ _ hsw]
    refine wpAny_bind (wpAny_standAt (wpAny_bind ?_))
    show wpAny _ X.A (do let _ ← comprehension (.ListComp elt [⟨tg, iter, ifs, 0⟩] scope pos) scope X.env (firstIterPos [⟨tg, iter, ifs, 0⟩] pos) (newList []) false (eval iter X.env) (some (assign (.Name y py) X.env))) _ _ s
    have h : TI G W (mLc it (own.map (·.2)) g t f) σ H (fun x H1 => gName i x σ H1 D.nx) := h
    refine wpAny_bind (thn (lcI_core (Qf := fun _ s' => SP X pins D .next s') C I hi ok hb hs h fun E ce s' m H' I' q hn fC => ?_) fun _ s' hq => wpAny_pure (wpAny_pure hq))
    show wpAny _ _ (assign (.Name y py) X.env (.ref E)) _ _ _
    refine wpAny_assign_Name (store_ok2 (v := V.ref E) I' C.nd hy (.inl hyl) rfl (fun s2 I2 ⟨a, sb, ha⟩ => ?_) (.inr hyl))
    obtain ⟨f0, f1, f2, f3, f4, f5⟩ := fC
    have hne : ce.locals ≠ a := by
      rcases ha with z | z
      · rw [z]; exact f1
      · exact fun e => f4 _ _ z e.symm
    refine ⟨m, hn.sameBut sb hne, fun h3 sb3 => ⟨_, H', I2.turned (t' := s2.toks) (fun b o hb e => (sb3.2 b hb).trans e) f0 f1 f3 f4 f5, q⟩⟩
  refine ps_weak hp fun D σ H hq => ?_
  obtain ⟨ι, e, h, en, rh, q⟩ := hq
  exact TI.st en rh q fun x v ι1 h1 H1 a1 en1 r1 q1 => q1 ι1 _ H1 (Aft.refl a1.rh) (en1.set i ⟨v, rfl, r1⟩)
end
end Sh

/-! Sh11: generator expressions. -/
namespace Sh
open PySem PySem.Spec PyProof.Rows L2
section
variable {G : Gx} {ι : List Addr} {h : IH} {H H1 : Hp}
theorem Aft.extN (r : RH G ι h H) (e : LamX.ExtN H H1) (t : NdefX.TabsN G.T H1) : Aft G ι H ι h H1 := by
  have tl : TL G.K H H1 := TL.of (fun b xs q => e b _ q fun _ z => by cases z) (fun b o u q => e b _ q fun _ z => by cases z) (fun b φ q => e b _ q fun _ z => by cases z)
  refine ⟨List.prefix_refl _, tl, r.len, r.nd, fun n o q => ?_, t, fun p hp => ⟨(r.zb p hp).1, (r.zb p hp).2.trans tl⟩⟩
  obtain ⟨a, e1, q1⟩ := r.ob n o q
  obtain ⟨u, hu, hm⟩ := q1.mu
  refine ⟨a, e1, q1.mono (List.prefix_refl _) tl ?_⟩
  rw [hu]
  refine e a u hu fun ps z => ?_
  subst z
  rcases hm with hm | ⟨φ, hm⟩ | ⟨o, v, hm⟩
  · exact hm
  · cases hm
  · cases hm
end
/-- a def's code object c with its table P, the names of what it makes: nm -/
structure CT (G : Gx) (X : Cx) (c P : Addr) (nm : Nat → Nat → Str) : Prop where
  tb : LamX.TabB X.base X.mg c P
  code : X.env.code = .ref c
  mem : (P, nm) ∈ G.T
  un : ∀ p ∈ G.T, p.1 = P → p.2 = nm
section
variable {G : Gx} {X : Cx} {pins : List (Addr × Obj)} {σ : L2.St} {H : Hp} {s : Shared} {ι : List Addr} {h : IH} {c P : Addr} {nm : Nat → Nat → Str}
/-- the code object of a generator expression: new, or found -/
theorem gcode {pos : Pos} {scope : Scope} {Q : Value → Shared → Prop} {E : Value → Shared → Prop} (I : Inv X pins σ H s) (rh : RH G ι h H) (ct : CT G X c P nm) (hn : nm pos.line pos.col = X.env.qual ++ "<genexpr>")
    (hq : ∀ code H1 s', Inv X pins σ H1 s' → Aft G ι H ι h H1 → (∀ b o, H b = none → s.heap.get? b = some o → s'.heap.get? b = some o) → (∀ b, b < s.heap.objs.size → H b = none → H1 b = none) → s'.os = s.os → s.heap.objs.size ≤ s'.heap.objs.size → Q code s') :
    wpAny (model X.prog X.w) X.A (genexprCode X.env pos (X.env.qual ++ "<genexpr>") scope) Q E s := by
  obtain ⟨ps, hP, ht, ha⟩ := (show NdefX.TabN H P nm from rh.tb _ ct.mem)
  have hP' : s.heap.get? P = some { cls := .none, data := .fields ps } := I.hok P _ hP
  have cd : PySem.W.CodeHd s.heap c P := ct.tb.code.keeps I.bk
  cases hc : codeAmong pos ps.toList with
  | none =>
    refine wpAny_genexprCodeX ct.code (cd.code hP' ht) (cd.tab hP') hc fun c' h' tk hx hge hlt hco' hrec htab' _ => ?_
    obtain ⟨c2, oc, vs, t, e2, hoc, hd, hv⟩ := hrec
    cases e2
    have nC : H c' = none := I.hok.fresh hge
    have I1 := LamX.inv_table (t' := tk) (more := #[rawInt pos.line, rawInt pos.col, .ref c']) (h' := h') I hP (fun b o hb e => hx b o hb e) htab'.2 hge ⟨oc, vs, t, hoc, hd, hv⟩
    have hE : LamX.ExtN H (upd (upd H P (.tbl (ps ++ #[rawInt pos.line, rawInt pos.col, .ref c']))) c' (LamX.CodeO c' (X.env.qual ++ "<genexpr>"))) := fun b o e n => by
      rw [upd_ne (ne_of_none e nC), upd_ne (fun z => n ps (Option.some.inj (e.symm.trans (by rw [z]; exact hP))))]
      exact e
    have eL : (ps ++ #[rawInt pos.line, rawInt pos.col, .ref c']).toList = ps.toList ++ [rawInt pos.line, rawInt pos.col, .ref c'] := by simp
    have T1 : NdefX.TabsN G.T (upd (upd H P (.tbl (ps ++ #[rawInt pos.line, rawInt pos.col, .ref c']))) c' (LamX.CodeO c' (X.env.qual ++ "<genexpr>"))) := fun p hp => by
      by_cases hb : p.1 = P
      · rw [ct.un p hp hb, hb]
        refine ⟨_, by rw [upd_ne (ne_of_none hP nC), upd_same], by rw [eL]; exact PySem.TriplesOk_snoc _ _ _ _ ht, fun p' cv hcv => ?_⟩
        rw [eL] at hcv
        rcases NdefX.among_app2 _ ht hcv with z | ⟨z, z1, z2⟩
        · obtain ⟨c0, e1, e2⟩ := ha p' cv z
          exact ⟨c0, e1, hE _ _ e2 LamX.codeO_ne⟩
        · refine ⟨c', z, ?_⟩
          rw [← z1, ← z2, hn]
          exact upd_same
      · obtain ⟨ps', a1, a2, a3⟩ := rh.tb p hp
        refine ⟨ps', by rw [upd_ne (ne_of_none a1 nC), upd_ne hb]; exact a1, a2, fun p' cv hcv => ?_⟩
        obtain ⟨c0, e1, e2⟩ := a3 p' cv hcv
        exact ⟨c0, e1, hE _ _ e2 LamX.codeO_ne⟩
    exact hq _ _ _ I1 (Aft.extN rh hE T1) (fun b o hb e => hx b o (fun z => by rw [z, hP] at hb; cases hb) e) (fun b hb e => by rw [upd_ne (Nat.ne_of_lt (Nat.lt_of_lt_of_le hb hge)), upd_ne (fun z => by rw [z, hP] at e; cases e)]; exact e) rfl (Nat.le_trans hge (Nat.le_of_lt hlt))
  | some cv => exact wpAny_genexprCode_hit ct.code (cd.code hP' ht) hc (hq cv H s I (Aft.refl rh) (fun _ _ _ e => e) (fun _ _ e => e) rfl (Nat.le_refl _))
end

/-! ### the generator's own frame -/
/-- the context of a generator expression's body: made at sc in X, its frame at C -/
abbrev gxX (X : Cx) (A : Around) (sc : Shared) (Hc : Hp) (ge : Env) (fp : List Addr) (pn : List (Addr × Obj)) (xe : Value → Shared → Prop) : Cx where
  prog := X.prog
  w := X.w
  K := X.K
  mg := X.mg
  base := X.base
  A := A
  N := X.N
  s_0 := sc
  H_0 := Hc
  env := ge
  outer := X.stack
  stack := ge :: X.stack
  ex := fp
  fn := fun _ => false
  calm := true
  pn := pn
  xe := xe
section
variable {X : Cx} {pins : List (Addr × Obj)} {σ : L2.St} {H : Hp} {sc : Shared}
theorem gx_start {A : Around} {scope : Scope} {own : List (Str × Nat)} {fp : List Addr} {pn : List (Addr × Obj)} {xe : Value → Shared → Prop} {C : Addr} {code : Value} {s1 : Shared} {m : Str → Option Value} (I : Inv X pins σ H sc) (hN : X.N.Nodup) (ok : BlkOk X.N X.env.scope scope own)
    (hcell : ∀ y ∈ scope.names, y.2 ≠ .cell) (hfp : ∀ b ∈ fp, FpOk X pins H b ∧ b < sc.heap.objs.size) (hC : sc.heap.objs.size ≤ C) (hd : A.handled = none) (hfr : A.frames = some (genEnv scope (cloFrom X.env.cells scope.names []) C code builtinsNs X.env :: X.stack))
    (kp : ∀ b o, sc.heap.get? b = some o → s1.heap.get? b = some o) (hos : s1.os = sc.os) (hb : AllBare s1.gens) (hns : s1.heap.Ns C m) (hpn : ∀ p ∈ pn, s1.heap.get? p.1 = some p.2 ∧ sc.heap.objs.size ≤ p.1 ∧ p.1 ≠ C ∧ ∀ v, p.2.data ≠ .cell v) :
    Inv (gxX X A sc H (genEnv scope (cloFrom X.env.cells scope.names []) C code builtinsNs X.env) fp pn xe) [] (L2.wipe σ (own.map (·.2))) H s1 := by
  have hfree : ∀ y ∈ scope.names, y.2 = .free → ∃ c, X.env.cells.lookup y.1 = some c := fun y hy e => by
    rcases ok.free y hy e with k | k
    · exact I.ok.has _ (.inl k)
    · exact I.ok.has _ (.inr k)
  have cm : ∀ {y c}, (cloFrom X.env.cells scope.names []).lookup y = some c → X.env.cells.lookup y = some c := fun {y c} e => by
    rcases cloFrom_mem (PySem.mem_of_lookup e) with hm | ⟨h1, h2⟩
    · cases hm
    · obtain ⟨c1, hc⟩ := hfree _ h1 rfl
      have hc : X.env.cells.lookup y = some c1 := hc
      have e2 : c = c1 := by rw [h2, hc] <;> rfl
      rw [e2]
      exact hc
  have look : ∀ {y}, scope.names.lookup y = some .free → ∃ c, (cloFrom X.env.cells scope.names []).lookup y = some c := fun {y} hl =>
    mem_lookup (cloFrom_has (cells := X.env.cells) (acc := []) (PySem.mem_of_lookup hl : (y, NameKind.free) ∈ scope.names))
  have clt : ∀ {y c}, X.env.cells.lookup y = some c → c < sc.heap.objs.size := fun {y c} e => by
    obtain ⟨v, o, ho, _⟩ := I.cell y c e
    exact Heap.lt_size ho
  have nocell : ∀ y, scope.names.lookup y ≠ some .cell := fun y e => hcell _ (PySem.mem_of_lookup e) rfl
  refine ⟨⟨I.ok.mod, ok.kind, I.ok.glob, rfl, hC, fun y z c e1 e2 => I.ok.inj y z c (cm e1) (cm e2), fun y hy => ?_, fun y c z _ => ?_, fun _ => hd, hfr, .inr ⟨rfl, rfl⟩, fun b hb => ⟨?_, fun y c e z => ?_⟩, I.bs, Nat.le_trans I.ok.bsz I.sz, fun b o e hb => ?_, fun b hb z => ?_, I.stack, I.stkFree⟩,
    hos, hb, Un.kept kp, ⟨m, hns, fun i y av e1 e2 e3 => ?_⟩, fun y c e => ?_, I.hok.fresh hC, fun y c e => ?_, fun p hp => ?_, I.hok.kept kp, by rw [wipe_length]; exact I.len⟩
  · have hy : scope.names.lookup y = some .cell ∨ scope.names.lookup y = some .free := hy
    rcases hy with hy | hy
    · exact absurd hy (nocell y)
    · exact look hy
  · have z : false = true := z
    cases z
  · show b ≠ C
    exact Nat.ne_of_lt (Nat.lt_of_lt_of_le (hfp b hb).2 hC)
  · exact (hfp b hb).1.2.2.2.2.1 y c (cm e) z
  · rcases (hfp b hb).1.2.2.2.1 with z | z
    · exact I.ok.noex b o e z
    · exact absurd (Nat.lt_of_lt_of_le (Heap.lt_size e) (Nat.le_trans I.ok.bsz z)) (Nat.lt_irrefl _)
  · rcases List.mem_cons.mp (I.stkSub b z) with z | z
    · exact (hfp b hb).1.2.1 z
    · exact (hfp b hb).1.2.2.1 z
  · obtain ⟨e2, hne⟩ := wipe_some e2
    have e3 : Vis scope y := e3
    have notOwn : ¬ (scope.names.lookup y = some .local ∨ scope.names.lookup y = some .cell) := fun hh => by
      have key : ∃ k, (y, k) ∈ scope.names ∧ (k = .local ∨ k = .cell) := by
        rcases hh with hh | hh
        · exact ⟨_, PySem.mem_of_lookup hh, .inl rfl⟩
        · exact ⟨_, PySem.mem_of_lookup hh, .inr rfl⟩
      obtain ⟨k, hk, hk2⟩ := key
      rcases ok.own _ hk hk2 with e' | e'
      · obtain ⟨p, hp, hpy⟩ := List.mem_map.mp e'
        have e4 := ok.ix p hp
        have hpy : p.1 = y := hpy
        rw [hpy] at e4
        exact hne (List.mem_map.mpr ⟨p, hp, nodup_ix hN e4 e1⟩)
      · exact e' (List.mem_of_getElem? e1)
    rcases e3 with k | k | k
    · exact absurd (.inl k) notOwn
    · exact absurd (.inr k) notOwn
    · obtain ⟨m0, _, hl⟩ := I.loc
      have hvis : Vis X.env.scope y := (ok.free _ (PySem.mem_of_lookup k) rfl).elim (fun k => .inr (.inl k)) (fun k => .inr (.inr k))
      obtain ⟨w', r, q⟩ := hl i y av e1 e2 hvis
      obtain ⟨c2, h2⟩ := look k
      refine ⟨w', r, .inr ⟨.inr k, c2, h2, ?_⟩⟩
      have c1 := cm h2
      rcases q with ⟨k', _⟩ | ⟨_, c3, e', z⟩
      · have k' : X.env.scope.names.lookup y = some .local := k'
        rcases ok.free _ (PySem.mem_of_lookup k) rfl with k2 | k2 <;> rw [show X.env.scope.names.lookup y = _ from k2] at k' <;> cases k'
      · rw [c1] at e'
        cases e'
        exact z.keeps kp
  · obtain ⟨w', z⟩ := I.cell y c (cm e)
    exact ⟨w', z.keeps kp⟩
  · exact I.freeC y c (cm e)
  · have hp' : p ∈ pn := by
      rcases List.mem_append.mp (show p ∈ pn ++ [] from hp) with z | z
      · exact z
      · cases z
    obtain ⟨q1, q2, q3, q4⟩ := hpn p hp'
    exact ⟨q1, I.hok.fresh q2, q3, fun hm => I.nofs q2 (by
      rcases List.mem_cons.mp (I.stkSub p.1 hm) with z | z
      · exact absurd (Nat.lt_of_lt_of_le I.lt q2) (by rw [z]; exact Nat.lt_irrefl _)
      · exact z), q4⟩

/-- these classes end no generator -/
def NoStp (K : PySem.W.Frag) (cs : List String) : Prop := ∀ c ∈ cs, PySem.W.subIn K (.ref (He.ga K (Str.ofString c))) (.type "StopIteration") = some false
/-- the wish of a generator's body: only such exceptions -/
abbrev gW (K : PySem.W.Frag) (cs : List String) (W : WX) (σ : L2.St) : WX := fun cls d _ H' => (∃ c ∈ cs, cls = .ref (He.ga K (Str.ofString c))) ∧ W cls d σ H'
theorem XF.gens {W : WX} {L : Addr} {u : Value} {s s' : Shared} (x : XF X W L u s) (hh : s'.heap = s.heap) (ho : s'.os = s.os) (hg : AllBare s'.gens) : XF X W L u s' := by
  obtain ⟨a, B, sI, pins, σ, H, cls, d, e, I, nb, up, sky, na, os, ag, w⟩ := x
  exact ⟨a, B, sI, pins, σ, H, cls, d, e, I, nb, by rw [hh]; exact up, by rw [hh]; exact sky, na, ho.trans os, hg, w⟩
/-- the frame is left, the exception goes on to X -/
theorem gx_out {W : WX} {L C : Addr} {A : Around} {ge : Env} {fp : List Addr} {pn : List (Addr × Obj)} {xe : Value → Shared → Prop} {cs : List String} {E₁ : Value → Shared → Prop} (I : Inv X pins σ H sc) (f3 : ∀ b ∈ fp, FpOk X pins H b) (hst : ∃ e0 r, X.stack = e0 :: r) (gL : ge.locals = C) (gF : ge.frame = some C)
    (hC : sc.heap.objs.size ≤ C) (ns : NoStp X.K cs) (u : Value) (s' : Shared) (x : XF (gxX X A sc H ge fp pn xe) (gW X.K cs W σ) C u s') :
    wpAny (model X.prog X.w) A (leaving ge u) (fun _ s'' => XF X W L u s'' ∧ NotStop (model X.prog X.w) u s''.heap ∧ ∀ p ∈ pn, s''.heap.get? p.1 = some p.2) E₁ s' := by
  obtain ⟨a, B, sI, pins', σ', H', cls, d, rfl, J, nb, up, sky, na, os, ag, ⟨c, hc, ec⟩, w⟩ := x
  have hfr : A.frames = some (ge :: X.stack) := J.ok.frames
  have I7 : Inv X pins σ H' sI := I.call' (ch := fp) J.os J.base J.hok J.bare fun b hb => ⟨(f3 b hb).2.2.2.1, (f3 b hb).2.1, (f3 b hb).2.2.2.2.1, (f3 b hb).2.2.2.2.2⟩
  have nC : H' C = none := by
    have z : H' ge.locals = none := J.free
    rw [gL] at z; exact z
  obtain ⟨f0, f1, f2, f3', f4, f5⟩ := I.fpOk hC nC
  have I8 : Inv X pins σ H' { sI with heap := PySem.W.hideAll sI.heap [C] } := I7.turned (t' := sI.toks) (it := C) (fun b o hb e => PySem.W.hideAll_get _ e (by simpa using hb)) f0 f1 f3' f4 f5
  have nstk : ∀ b, b ∈ frs (ge :: X.stack) → b ≠ C → b ∈ frs X.stack := fun b hb hne => by
    unfold frs at hb
    rw [List.filterMap_cons, gF] at hb
    rcases List.mem_cons.mp hb with z | z
    · exact absurd z hne
    · exact z
  have nb' : ∀ b o, (PySem.W.hideAll sI.heap [C]).get? b = some o → b ∉ frs X.stack → B.get? b = some o := fun b o e hb => by
    have hne : b ≠ C := fun z => by rw [z, PySem.W.hideAll_none _ (by simp)] at e; cases e
    exact nb b o (PySem.W.of_hideAll _ e) fun hm => hb (nstk b hm hne)
  have up' : ∀ h', s'.heap.UpToSlots h' → (PySem.W.hideAll sI.heap [C]).UpToSlots h' := fun h' k b o e hnf => (up.trans k) b o (PySem.W.of_hideAll _ e) hnf
  have fin : ∀ h', HandSPX.FlyingZ B X.stack a (Zc cls d) h' → s'.heap.UpToSlots h' → XF X W L (.ref a) { s' with heap := h' } ∧ NotStop (model X.prog X.w) (.ref a) h' ∧ ∀ p ∈ pn, h'.get? p.1 = some p.2 := fun h' fl k => by
    refine ⟨⟨a, B, _, pins, σ, H', cls, d, rfl, I8, nb', up' h' k, .inr (.inl fl), na, os, ag, w⟩, ?_, fun p hp => ?_⟩
    · obtain ⟨oe, vs, he, hz, hd⟩ := fl.there
      have kin : X.K.In h' := J.ok.mod.kin.keeps fun b o e => fl.1 b o (nb b o (J.bk b o e) fun hm => by
        rcases List.mem_cons.mp (J.stkSub b hm) with z | z
        · have h1 := Heap.lt_size e
          have h2 := Nat.le_trans J.ok.bsz J.ok.above
          rw [z] at h1
          exact absurd (Nat.lt_of_lt_of_le h1 h2) (Nat.lt_irrefl _)
        · exact J.ok.nofr e z)
      have Lk := PySem.W.looks_subIn (M := model X.prog X.w) kin (ns c hc)
      intro A Q E' s2 hs hq
      simp only [isInstance]
      refine wpAny_bind (wpAny_typeOf_ref (o := oe) (by rw [hs]; exact he) ?_)
      rw [hz.1, ec]
      exact Lk A Q E' s2 (fun b o z => by rw [hs]; exact z) hq
    · obtain ⟨q1, q2, q3, q4, q5⟩ := J.pin p (List.mem_append_left _ hp)
      refine fl.1 _ _ (nb _ _ q1 fun hm => ?_)
      rcases List.mem_cons.mp (J.stkSub _ hm) with z | z
      · exact q3 z
      · exact q4 z
  rcases sky with ⟨hB, hn, hl, oe, vs, he, hz, hd, h1⟩ | fl | hd
  · exact HandSPX.leaving_firstZ Zc.steady hfr hl gF he hB hn hd h1 hz fin
  · exact HandSPX.leaves_onZ Zc.steady hfr gF fl fin
  · exact HandSPX.leaves_heldZ gF hd fin
end
end Sh

/-! Sh12: a generator expression's run, for any consumer. -/
namespace Sh
open PySem PySem.Spec PyProof.Rows L2
/-- what the consumer makes of an item -/
inductive St3 (α : Type) where
  | more (a : α)
  | out (x : IV)
  | bad
/-- only these exceptions -/
@[simp] def exOnly (cs : List String) {α : Type} (c : String) (h : IH) : Res α := if c ∈ cs then .exc c h else .bad
/-- what the consumer does with its item -/
@[simp] def St3.go {α : Type} (r : St3 α) (f : α → M IV) : M IV := fun h => match r with
  | .more a => f a h
  | .out x => .ok x h
  | .bad => .bad
/-- the consumer walks the generator -/
def genL {α : Type} (cs : List String) (S : Sr) (g : MG) (t f : ME) (st : α → IV → St3 α) (fin : α → M IV) : Nat → Nat → IE → α → M IV
  | 0, _, _, _ => fun _ => .bad
  | m + 1, i, e, acc => fun h => match S.nx i h with
    | .stop => fin acc h
    | .it x => match g x e h with
      | .nx e1 h1 => match t e1 h1 with
        | .ok (.bl true) h2 => match f e1 h2 with
          | .ok y h3 => (st acc y).go (genL cs S g t f st fin m (i + 1) e1) h3
          | .exc c h3 => exOnly cs c h3
          | .bad => .bad
        | .ok (.bl false) h2 => genL cs S g t f st fin m (i + 1) e1 acc h2
        | .exc c h2 => exOnly cs c h2
        | _ => .bad
      | _ => .bad
    | .bad => .bad
theorem seg_out {M : Model} {A : Around} {R : GenEnd} {Y : Protocol} {n : Nat} {s₀ s : Shared} {c : Code} {ge : Env} {e : Value} (h : wpAny M (A.over c []) (leaving ge e) (fun _ s2 => R n s₀ (.error e) s2) (fun x s2 => R n s₀ (.error x) s2) s) :
    Seg M A R Y n s₀ c ((leaving ge e).bind fun _ => (.raise e : Sem PySem.Fin)) [] s := by
  rw [Sem.bind_eq_wrap]
  exact seg_wrap (wpAny_mono h (fun _ s q => seg_end (.error e) q) fun x s q => seg_end (.error x) q)
theorem pinsAt_congr {h h' : Heap} : ∀ {fp : List Addr}, (∀ b ∈ fp, h'.get? b = h.get? b) → pinsAt fp h' = pinsAt fp h
  | [], _ => rfl
  | b :: r, k => by
    have ih := pinsAt_congr (fp := r) fun c hc => k c (List.mem_cons_of_mem _ hc)
    unfold pinsAt at ih ⊢
    rw [List.filterMap_cons, List.filterMap_cons, k b List.mem_cons_self, ih]
section
variable {α : Type} {G : Gx} {X : Cx} {W : WX} {L : Addr} {sc : Shared} {gX : Cx} {fp : List Addr} {tn : Nat → Heap → Prop} {cs : List String} {S : Sr} {g : MG} {t f : ME} {st : α → IV → St3 α} {fin : α → M IV} {lk : α → List (Addr × Obj) → List Addr → Hp → Prop} {Q : VK} {σ : L2.St}
/-- an item is handed out -/
def GYp (G : Gx) (W : WX) (σ : L2.St) (sc : Shared) (gX : Cx) (fp : List Addr) (cs : List String) (S : Sr) (g : MG) (t f : ME) (st : α → IV → St3 α) (fin : α → M IV) (lk : α → List (Addr × Obj) → List Addr → Hp → Prop) (Q : VK) : Protocol := fun n _ v s kap =>
  ∃ acc cp x y i e σg ι h H m, m ≤ n ∧ RelV x v ∧ RV G.K ι H y x ∧ (∀ p ∈ cp, sc.heap.objs.size ≤ p.1) ∧ Inv gX (cp ++ pinsAt fp s.heap) σg H s ∧ RH G ι h H ∧ lk acc cp ι H ∧
    PR G (fun c d H' => W c d σ H') ι H Q ((st acc y).go (genL cs S g t f st fin m i e) h) ∧
    ∀ acc' cp' s2, (∀ p ∈ cp', sc.heap.objs.size ≤ p.1) → Inv gX (cp' ++ pinsAt fp s.heap) σg H s2 → lk acc' cp' ι H → PR G (fun c d H' => W c d σ H') ι H Q (genL cs S g t f st fin m i e acc' h) → kap (.send .none) s2
/-- the end -/
def GRe (G : Gx) (X : Cx) (W : WX) (L : Addr) (σ : L2.St) (gX : Cx) (fin : α → M IV) (lk : α → List (Addr × Obj) → List Addr → Hp → Prop) (Q : VK) (pn : List (Addr × Obj)) : GenEnd := fun _ _ r s =>
  ((r = .ok (.ret .none) ∨ r = .ok .next) ∧ ∃ acc cp σg ι h H, Inv gX cp σg H s ∧ RH G ι h H ∧ lk acc cp ι H ∧ PR G (fun c d H' => W c d σ H') ι H Q (fin acc h)) ∨
  ∃ e, r = .error e ∧ (XF X W L e s ∧ NotStop (model X.prog X.w) e s.heap ∧ ∀ p ∈ pn, s.heap.get? p.1 = some p.2)
theorem seg_gen {A' A : Around} {ge : Env} {Hc : Hp} {pn : List (Addr × Obj)} {xe : Value → Shared → Prop} {elt tg iter : Expr} {ifs : List Expr} {scope : Scope} {pos : Pos} {itA : Addr} {J : It} {k : Nat} {ι0 : List Addr} {H0 : Hp}
    (hgX : gX = gxX X A sc Hc ge fp pn xe) (hxe : xe = fun u s => wpAny (model X.prog X.w) A (leaving ge u) (fun _ s2 => XF X W L u s2 ∧ NotStop (model X.prog X.w) u s2.heap ∧ ∀ p ∈ pn, s2.heap.get? p.1 = some p.2) (fun _ _ => False) s)
    (hov : A'.over (.compLoop (.GeneratorExp elt [⟨tg, iter, ifs, 0⟩] scope pos) 0 (.ref itA) .none ge) [] = A) (hco : ge.scope.isCoroutine = false)
    (C : Can G gX (gW G.K cs W σ) k) (T : Turn X.prog X.w X.K tg J fp itA tn) (hfl : ∀ b ∈ fp, b < sc.heap.objs.size) (hpl : ∀ p ∈ pn, sc.heap.objs.size ≤ p.1)
    (so : SrOk G ι0 H0 S J) (pg : SG G gX (gW G.K cs W σ) tg g) (pt : SQ G gX (gW G.K cs W σ) ifs t) (pe : SE G gX (gW G.K cs W σ) elt f)
    (hlk : ∀ acc cp ι H ι' H', lk acc cp ι H → ι <+: ι' → TL G.K H H' → lk acc cp ι' H') :
    ∀ (m n : Nat) (s₀ s : Shared) (acc : α) (cp : List (Addr × Obj)) (i : Nat) (e : IE) (σg : L2.St) (ι : List Addr) (h : IH) (H : Hp), m ≤ n → (∀ p ∈ cp, sc.heap.objs.size ≤ p.1) → Inv gX cp σg H s → tn i s.heap → (∀ b ∈ fp, H b = none) → REn G.K ι H e σg → RH G ι h H → lk acc cp ι H → ι0 <+: ι → TL G.K H0 H →
      PR G (fun c d H' => W c d σ H') ι H Q (genL cs S g t f st fin m i e acc h) →
      Seg (model X.prog X.w) A' (GRe G X W L σ gX fin lk Q pn) (GYp G W σ sc gX fp cs S g t f st fin lk Q) n s₀ (.compLoop (.GeneratorExp elt [⟨tg, iter, ifs, 0⟩] scope pos) 0 (.ref itA) .none ge)
        ((model X.prog X.w).den (.compLoop (.GeneratorExp elt [⟨tg, iter, ifs, 0⟩] scope pos) 0 (.ref itA) .none ge)) [] s := by
  have gA : gX.A = A := by subst hgX; rfl
  have gp : gX.prog = X.prog := by subst hgX; rfl
  have gw : gX.w = X.w := by subst hgX; rfl
  have gK : gX.K = X.K := by subst hgX; rfl
  have gex : gX.ex = fp := by subst hgX; rfl
  have gpn : gX.pn = pn := by subst hgX; rfl
  have gxe : gX.xe = xe := by subst hgX; rfl
  have genv : gX.env = ge := by subst hgX; rfl
  -- an exception
  have out : ∀ (n : Nat) (s₀ : Shared) (u : Value) (s : Shared), gX.xe u s → Seg (model X.prog X.w) A' (GRe G X W L σ gX fin lk Q pn) (GYp G W σ sc gX fp cs S g t f st fin lk Q) n s₀ (.compLoop (.GeneratorExp elt [⟨tg, iter, ifs, 0⟩] scope pos) 0 (.ref itA) .none ge)
        ((leaving ge u).bind fun _ => (.raise u : Sem PySem.Fin)) [] s := fun n s₀ u s hx => by
    rw [gxe, hxe] at hx
    refine seg_out ?_
    rw [hov]
    exact wpAny_mono hx (fun _ s2 q => .inr ⟨u, rfl, q⟩) fun _ _ z => z.elim
  have stat : ∀ {σ' : L2.St} {H' : Hp} {s' : Shared} {cp : List (Addr × Obj)}, Inv gX cp σ' H' s' → (∀ p ∈ cp, sc.heap.objs.size ≤ p.1) → (∀ b ∈ fp, H' b = none) → ∀ b ∈ fp, FpOk gX cp H' b := fun {σ' H' s' cp} I' hcp hn b hb =>
    ⟨hn b hb, (I'.ok.exf b (by rw [gex]; exact hb)).1, I'.ok.exfs b (by rw [gex]; exact hb), .inl (by rw [gex]; exact hb), fun x c e => (I'.ok.exf b (by rw [gex]; exact hb)).2 x c e, fun p hp z => by
      have h1 := hfl b hb
      rw [gpn] at hp
      rcases List.mem_append.mp hp with q | q
      · have := hpl p q; rw [z] at this; exact absurd (Nat.lt_of_lt_of_le h1 this) (Nat.lt_irrefl _)
      · have := hcp p q; rw [z] at this; exact absurd (Nat.lt_of_lt_of_le h1 this) (Nat.lt_irrefl _)⟩
  intro m
  induction m with
  | zero => intro n s₀ s acc cp i e σg ι h H _ _ _ _ _ _ _ _ _ _ q; exact q.elim
  | succ m ih =>
    intro n s₀ s acc cp i e σg ι h H hmn hcp I tnI nfp en rh hl pre tl q
    show Seg _ A' _ _ _ s₀ _ ((compTurn (.GeneratorExp elt [⟨tg, iter, ifs, 0⟩] scope pos) 0 (.ref itA) .none ge).onRaise (leaving ge)) [] s
    rw [compTurn_gen, Sem.onRaise_eq_wrap]
    refine seg_bind_wrap (wpAny_standAt ?_)
    simp only [genL] at q
    have so1 := so i ι h H rh pre tl
    cases zn : S.nx i h with
    | bad => rw [zn] at q; exact q.elim
    | stop =>
      rw [zn] at q so1
      refine seg_bind_wrap ?_
      rw [hov]
      have td := T.done gX gp gw gK C.calm i cp s σg H gX.xe I (stat I hcp nfp) tnI so1
      rw [gA] at td
      refine wpAny_mono td (fun r s1 ⟨hr, I1⟩ => ?_) fun u s1 hx => out _ _ _ _ hx
      subst hr
      exact seg_end (.ok .next) (.inl ⟨.inr rfl, acc, cp, σg, ι, h, H, I1, rh, hl, q⟩)
    | it x =>
      rw [zn] at q so1
      simp only at q so1
      obtain ⟨go, yl⟩ := so1
      refine seg_bind_wrap ?_
      rw [hov]
      have ti := T.item gX gp gw gK C.calm i cp s σg H gX.xe I (stat I hcp nfp) tnI go
      rw [gA] at ti
      refine wpAny_mono ti (fun r s1 ⟨u, hr, h1⟩ => ?_) fun u s1 hx => out _ _ _ _ hx
      subst hr
      refine seg_bind_wrap ?_
      rw [hov]
      refine wpAny_mono h1 (fun _ s2 ⟨xv, H2, I2, r2, y2, tn2, n2⟩ => ?_) fun u s1 hx => out _ _ _ _ hx
      obtain ⟨ι2, a2, rx⟩ := yl xv H2 y2
      have I2' := I2.pinned (stat I2 hcp n2) (T.obj _ _ tn2)
      have q2 := PR.after a2 q
      refine seg_bind_wrap ?_
      rw [hov]
      have hg2 : TGI G (gW G.K cs W σ) g xv σg H2 fun σ3 H3 => ∃ ι3 e3 h3, REn G.K ι3 H3 e3 σ3 ∧ Aft G ι2 H2 ι3 h3 H3 ∧ PR G (fun c d H' => W c d σ H') ι3 H3 Q (match t e3 h3 with
          | .ok (.bl true) h2 => match f e3 h2 with
            | .ok y h3 => (st acc y).go (genL cs S g t f st fin m (i + 1) e3) h3
            | .exc c h3 => exOnly cs c h3
            | .bad => .bad
          | .ok (.bl false) h2 => genL cs S g t f st fin m (i + 1) e3 acc h2
          | .exc c h2 => exOnly cs c h2
          | _ => .bad) := by
        refine ⟨ι2, e, h, x, en.mono a2.pre a2.tl, a2.rh, rx, ?_⟩
        cases zg : g x e h with
        | nx e3 h3 =>
          rw [zg] at q2
          exact fun ι3 σ3 H3 a3 en3 => ⟨ι3, e3, h3, en3, a3, PR.after a3 q2⟩
        | _ => rw [zg] at q2; exact q2.elim
      have pgr := pg.run _ s2 σg H2 xv u _ I2' r2 hg2
      rw [gp, gw, gA, genv] at pgr
      refine wpAny_mono pgr (fun _ s3 ⟨σ3, H3, I3, ι3, e3, h3, en3, a3, q3⟩ => ?_) fun u s1 hx => out _ _ _ _ hx
      refine seg_bind_wrap ?_
      rw [hov]
      have exo : ∀ {c : String} {hh : IH} {ι' : List Addr} {H' : Hp}, PR G (fun c d H' => W c d σ H') ι' H' Q (exOnly cs c hh) → ∀ ι2 H2, Aft G ι' H' ι2 hh H2 → gW G.K cs W σ (.ref (He.ga G.K (Str.ofString c))) none σ3 H2 := fun {c hh ι' H'} z ι2 H2 a => by
        simp only [exOnly] at z
        by_cases hc : c ∈ cs
        · rw [if_pos hc] at z; exact ⟨⟨c, hc, rfl⟩, z ι2 H2 a⟩
        · rw [if_neg hc] at z; exact z.elim
      have ht3 : TB G (gW G.K cs W σ) t σ3 H3 fun b H4 => ∃ ι4 h4, REn G.K ι4 H4 e3 σ3 ∧ Aft G ι3 H3 ι4 h4 H4 ∧ PR G (fun c d H' => W c d σ H') ι4 H4 Q (if b = true then (match f e3 h4 with
            | .ok y h3 => (st acc y).go (genL cs S g t f st fin m (i + 1) e3) h3
            | .exc c h3 => exOnly cs c h3
            | .bad => .bad) else genL cs S g t f st fin m (i + 1) e3 acc h4) := by
        refine ⟨ι3, e3, h3, en3, a3.rh, ?_⟩
        cases zt : t e3 h3 with
        | bad => rw [zt] at q3; exact q3
        | exc c h4 => rw [zt] at q3; exact exo q3
        | ok b h4 =>
          rw [zt] at q3
          cases b <;> try exact q3
          rename_i b
          cases b with
          | true => exact fun ι4 H4 a4 => ⟨ι4, h4, en3.mono a4.pre a4.tl, a4, by rw [if_pos rfl]; exact PR.after a4 q3⟩
          | false => exact fun ι4 H4 a4 => ⟨ι4, h4, en3.mono a4.pre a4.tl, a4, by rw [if_neg Bool.false_ne_true]; exact PR.after a4 q3⟩
      have ptr := pt.run _ s3 σ3 H3 _ I3 ht3
      rw [gp, gw, gA, genv] at ptr
      refine wpAny_mono ptr (fun b s4 ⟨H4, I4, ι4, h4, en4, a4, q4⟩ => ?_) fun u s1 hx => out _ _ _ _ hx
      have pre4 : ι0 <+: ι4 := pre.trans (a2.pre.trans (a3.pre.trans a4.pre))
      have tl4 : TL G.K H0 H4 := tl.trans (a2.tl.trans (a3.tl.trans a4.tl))
      have pin2 : ∀ {σ' : L2.St} {H' : Hp} {s' : Shared}, Inv gX (cp ++ pinsAt fp s2.heap) σ' H' s' → tn (i + 1) s'.heap ∧ (∀ b ∈ fp, H' b = none) ∧ ∀ b ∈ fp, s'.heap.get? b = s2.heap.get? b := fun {σ' H' s'} I' => by
        have pin' : ∀ b ∈ fp, ∀ o, s2.heap.get? b = some o → s'.heap.get? b = some o ∧ H' b = none := fun b hb o e =>
          let z := I'.pin (b, o) (List.mem_append_right _ (List.mem_append_right _ (mem_pinsAt hb e)))
          ⟨z.1, z.2.1⟩
        refine ⟨T.keep _ _ _ tn2 fun b hb o e => (pin' b hb o e).1, fun b hb => ?_, fun b hb => ?_⟩
        · obtain ⟨o, e, _⟩ := T.obj _ _ tn2 b hb
          exact (pin' b hb o e).2
        · obtain ⟨o, e, _⟩ := T.obj _ _ tn2 b hb
          rw [e]; exact (pin' b hb o e).1
      have lk4 : lk acc cp ι4 H4 := hlk _ _ _ _ _ _ hl (a2.pre.trans (a3.pre.trans a4.pre)) (a2.tl.trans (a3.tl.trans a4.tl))
      cases b with
      | false =>
        rw [if_neg Bool.false_ne_true] at q4
        simp only [Bool.false_eq_true, if_false]
        obtain ⟨t4, n4, _⟩ := pin2 I4
        exact seg_again rfl (ih n s₀ s4 acc cp (i + 1) e3 σ3 ι4 h4 H4 (Nat.le_of_succ_le hmn) hcp I4.unpinned t4 n4 en4 a4.rh lk4 pre4 tl4 q4)
      | true =>
        rw [if_pos rfl] at q4
        simp only [if_true]
        have hy : ∀ v, yieldOut ge v = yieldValue v := fun v => by simp only [yieldOut, hco, Bool.false_eq_true, if_false]
        simp only [hy]
        rw [Sem.bind_eq_wrap', Sem.bind_eq_wrap', Sem.wrap_wrap, Sem.wrap_wrap]
        have he4 : TI G (gW G.K cs W σ) f σ3 H4 fun y H5 => ∃ ι5 h5 yi, REn G.K ι5 H5 e3 σ3 ∧ Aft G ι4 H4 ι5 h5 H5 ∧ RV G.K ι5 H5 yi y ∧ PR G (fun c d H' => W c d σ H') ι5 H5 Q ((st acc yi).go (genL cs S g t f st fin m (i + 1) e3) h5) := by
          refine ⟨ι4, e3, h4, en4, a4.rh, ?_⟩
          cases zf : f e3 h4 with
          | bad => rw [zf] at q4; exact q4
          | exc c h5 => rw [zf] at q4; exact exo q4
          | ok yi h5 =>
            rw [zf] at q4
            exact fun ι5 H5 y a5 ry => ⟨ι5, h5, yi, en4.mono a5.pre a5.tl, a5, ry, PR.after a5 q4⟩
        refine seg_wrap ?_
        rw [hov]
        have per := pe.run _ s4 σ3 H4 _ I4 he4
        rw [gp, gw, gA, genv] at per
        refine wpAny_mono per (fun zv s5 ⟨yv, H5, I5, r5, ι5, h5, yi, en5, a5, ry, q5⟩ => ?_) fun u s1 hx => out _ _ _ _ hx
        obtain ⟨n', rfl⟩ : ∃ n', n = n' + 1 := ⟨n - 1, by omega⟩
        obtain ⟨t5, n5, eq5⟩ := pin2 I5
        have epin : pinsAt fp s5.heap = pinsAt fp s2.heap := by
          exact pinsAt_congr eq5
        refine seg_at (seg_yield rfl rfl rfl ⟨acc, cp, yv, yi, i + 1, e3, σ3, ι5, h5, H5, m, by omega, r5, ry, hcp, by rw [epin]; exact I5, a5.rh, hlk _ _ _ _ _ _ lk4 a5.pre a5.tl, q5, fun acc' cp' s6 hcp' I6 hl' q6 => ?_⟩)
        rw [epin] at I6
        have t6 : tn (i + 1) s6.heap ∧ ∀ b ∈ fp, H5 b = none := by
          have pin' : ∀ b ∈ fp, ∀ o, s2.heap.get? b = some o → s6.heap.get? b = some o ∧ H5 b = none := fun b hb o e =>
            let z := I6.pin (b, o) (List.mem_append_right _ (List.mem_append_right _ (mem_pinsAt hb e)))
            ⟨z.1, z.2.1⟩
          refine ⟨T.keep _ _ _ tn2 fun b hb o e => (pin' b hb o e).1, fun b hb => ?_⟩
          obtain ⟨o, e, _⟩ := T.obj _ _ tn2 b hb
          exact (pin' b hb o e).2
        exact seg_again rfl (ih n' s6 s6 acc' cp' (i + 1) e3 σ3 ι5 h5 H5 (by omega) hcp' I6.unpinned t6.1 t6.2 en5 a5.rh hl' (pre4.trans a5.pre) (tl4.trans a5.tl) q6)
end
end Sh

/-! Sh13: next of a generator, for its consumer. -/
namespace Sh
open PySem PySem.Spec PyProof.Rows L2 GenW
/-- amid two items the consumer's own objects change -/
structure SL (cp cp' : List (Addr × Obj)) (s s' : Shared) : Prop where
  os : s'.os = s.os
  bare : AllBare s'.gens
  keep : ∀ b o, b ∉ cp.map (·.1) → s.heap.get? b = some o → s'.heap.get? b = some o
  at_ : ∀ p ∈ cp', p.1 ∈ cp.map (·.1) ∧ s'.heap.get? p.1 = some p.2 ∧ ∀ v, p.2.data ≠ .cell v
  all : ∀ b ∈ cp.map (·.1), ∃ o, s'.heap.get? b = some o
theorem SL.refl {cp : List (Addr × Obj)} {s s' : Shared} (h : ∀ p ∈ cp, s.heap.get? p.1 = some p.2 ∧ ∀ v, p.2.data ≠ .cell v) (hh : s'.heap = s.heap) (ho : s'.os = s.os) (hb : AllBare s'.gens) : SL cp cp s s' :=
  ⟨ho, hb, fun b o _ e => by rw [hh]; exact e, fun p hp => ⟨List.mem_map.mpr ⟨p, hp, rfl⟩, by rw [hh]; exact (h p hp).1, (h p hp).2⟩, fun b hb => by
    obtain ⟨p, hp, e⟩ := List.mem_map.mp hb
    exact ⟨p.2, by rw [hh, ← e]; exact (h p hp).1⟩⟩
section
variable {gX : Cx} {cp cp' pl : List (Addr × Obj)} {σ : L2.St} {H : Hp} {s s' : Shared}
theorem Inv.slept (I : Inv gX (cp ++ pl) σ H s) (hcp : ∀ p ∈ cp, gX.s_0.heap.objs.size ≤ p.1) (hpl : ∀ p ∈ gX.pn ++ pl, p.1 ∉ cp.map (·.1)) (hce : ∀ x c, gX.env.cells.lookup x = some c → c ∉ cp.map (·.1)) (z : SL cp cp' s s') : Inv gX (cp' ++ pl) σ H s' := by
  have pinC : ∀ b ∈ cp.map (·.1), ∃ o, s.heap.get? b = some o ∧ H b = none ∧ b ≠ gX.env.locals ∧ b ∉ gX.fs := fun b hb => by
    obtain ⟨p, hp, e⟩ := List.mem_map.mp hb
    obtain ⟨q1, q2, q3, q4, _⟩ := I.pin p (List.mem_append_right _ (List.mem_append_left _ hp))
    subst e
    exact ⟨_, q1, q2, q3, q4⟩
  have I0 : Inv gX pl σ H s := I.pins_of fun p hp => I.pin p (List.mem_append_right _ (List.mem_append_right _ hp))
  have nt : ∀ b u, H b = some u → b ∉ cp.map (·.1) := fun b u q hb => by
    obtain ⟨_, _, n, _⟩ := pinC b hb
    rw [n] at q; cases q
  obtain ⟨z1, z2, z3, z4, z5⟩ := z
  obtain ⟨hh, g, d, t, o⟩ := s'
  have ho : o = s.os := z1
  subst ho
  have J : Inv gX pl σ H { s with heap := hh, gens := g, drawn := d, toks := t } := by
    refine I0.step (g' := g) (t' := t) (d' := d) (ch := cp.map (·.1)) (fun b hb => ?_) (fun b ob _ _ hc q _ => z3 b ob hc q) (fun b ob _ _ hc q _ => ⟨ob.slots, z3 b ob hc q⟩) (fun _ _ _ _ n => n) (fun b ob hc q => ⟨ob, z3 b ob hc q⟩)
      (fun _ _ q => q) (fun _ _ _ q => q) (fun b ps q => ⟨#[], by rw [q]; simp⟩) (fun m hm => ?_) (fun b u q => ?_) z2
    · obtain ⟨o1, q1, q2, q3, q4⟩ := pinC b hb
      obtain ⟨p, hp, e⟩ := List.mem_map.mp hb
      refine ⟨.inr (by rw [← e]; exact hcp p hp), q3, fun x c e2 z => hce x c e2 (z ▸ hb), fun p2 hp2 z => hpl p2 hp2 (z ▸ hb)⟩
    · obtain ⟨ob, es, ep, ho, r⟩ := hm
      refine ⟨ob, es, ep, z3 _ ob (fun hb => ?_) ho, r⟩
      obtain ⟨_, _, _, q3, _⟩ := pinC _ hb
      exact q3 rfl
    · refine (I0.hok b u q).stay (fun c v hc y => z3 c v ?_ y) (fun _ y => y) fun _ _ y => y
      rcases hc with y | y
      · rw [y]; exact nt b u q
      · exact nt c _ y
  refine J.pins_of fun p hp => ?_
  rcases List.mem_append.mp hp with hp | hp
  · obtain ⟨h1, h2, h3⟩ := z4 p hp
    obtain ⟨_, _, n1, n2, n3⟩ := pinC p.1 h1
    exact ⟨h2, n1, n2, n3, h3⟩
  · exact J.pin p (List.mem_append_right _ hp)
/-- a generator's state stands as well where the table of generators alone has changed -/
theorem Inv.gens {pins : List (Addr × Obj)} {g' : Array GenState} (I : Inv gX pins σ H s) (hb : AllBare g') : Inv gX pins σ H { s with gens := g' } := by
  have := I.step (g' := g') (h' := s.heap) (H' := H) (t' := s.toks) (d' := s.drawn) (ch := []) (fun b hb => absurd hb (by simp)) (fun b o _ _ _ e _ => e) (fun b o _ _ _ e _ => ⟨o.slots, e⟩) (fun _ _ _ _ n => n) (fun b o _ e => ⟨o, e⟩) (fun _ _ e => e) (fun _ _ _ e => e) (fun b ps e => ⟨#[], by rw [e]; simp⟩) (fun _ h => h) I.hok hb
  exact this
end
section
variable {α : Type} {G : Gx} {X : Cx} {W : WX} {L : Addr} {sc : Shared} {Hc : Hp} {A B : Around} {ge : Env} {fp : List Addr} {pn : List (Addr × Obj)} {xe : Value → Shared → Prop} {cs : List String} {S : Sr} {g : MG} {t f : ME} {st : α → IV → St3 α} {fin : α → M IV} {lk : α → List (Addr × Obj) → List Addr → Hp → Prop} {Q : VK} {σ : L2.St} {pins : List (Addr × Obj)} {a : Addr} {gi : Nat} {go : Obj}
/-- the generator a (number gi) sleeps, no more than n items are left -/
structure Rdy (G : Gx) (X : Cx) (W : WX) (L : Addr) (σ : L2.St) (sc : Shared) (gX : Cx) (fp : List Addr) (cs : List String) (S : Sr) (g : MG) (t f : ME) (st : α → IV → St3 α) (fin : α → M IV) (lk : α → List (Addr × Obj) → List Addr → Hp → Prop) (Q : VK) (pn : List (Addr × Obj)) (B : Around) (a : Addr) (gi : Nat) (n : Nat) (s : Shared) : Prop where
  gen : s.heap.IsGen a gi
  lim : s.heap.NoLimit
  goes : ∃ gs, s.gens[gi]? = some gs ∧ gs.Goes (model X.prog X.w) B (GRe G X W L σ gX fin lk Q pn) (GYp G W σ sc gX fp cs S g t f st fin lk Q) n (.send .none) (s.setGen gi .running)
/-- back in X -/
theorem gx_back {cp : List (Addr × Obj)} {σg : L2.St} {H : Hp} {s : Shared} (I : Inv X pins σ Hc sc) (f3 : ∀ b ∈ fp, FpOk X pins Hc b) (J : Inv (gxX X A sc Hc ge fp pn xe) cp σg H s) : Inv X pins σ H s :=
  I.call' (ch := fp) J.os J.base J.hok J.bare fun b hb => ⟨(f3 b hb).2.2.2.1, (f3 b hb).2.1, (f3 b hb).2.2.2.2.1, (f3 b hb).2.2.2.2.2⟩
/-- the next item -/
theorem gen_next {n : Nat} {s : Shared} {E : Value → Shared → Prop} {Qn : Option Value → Shared → Prop} (hh : B.handled = none) (hroom : B.depth < recursionLimit)
    (hpa : (a, go) ∈ pn) (hgo : ∃ nm qn, go.cls = .type "generator" ∧ go.data = .fields #[.int gi 0, nm, qn] ∧ go.slots = #[])
    (I : Inv X pins σ Hc sc) (f3 : ∀ b ∈ fp, FpOk X pins Hc b) (hfl : ∀ b ∈ fp, b < sc.heap.objs.size) (hpl : ∀ p ∈ pn, sc.heap.objs.size ≤ p.1) (hcl : ∀ x c, ge.cells.lookup x = some c → c < sc.heap.objs.size)
    (r : Rdy G X W L σ sc (gxX X A sc Hc ge fp pn xe) fp cs S g t f st fin lk Q pn B.in1 a gi n s)
    (hE : ∀ u s1, XF X W L u s1 → E u s1)
    (hend : ∀ acc cp ι h H s1, Inv X pins σ H s1 → RH G ι h H → lk acc cp ι H → (∀ p ∈ cp, s1.heap.get? p.1 = some p.2) → PR G (fun c d H' => W c d σ H') ι H Q (fin acc h) → Qn none s1)
    (hitem : ∀ acc cp x y v ι h H s1, RelV x v → RV G.K ι H y x → Inv X pins σ H s1 → RH G ι h H → lk acc cp ι H → (∀ p ∈ cp, s1.heap.get? p.1 = some p.2 ∧ (∀ v, p.2.data ≠ .cell v) ∧ sc.heap.objs.size ≤ p.1) → (∀ p ∈ cp, H p.1 = none) →
      (∃ cont : α → M IV, PR G (fun c d H' => W c d σ H') ι H Q ((st acc y).go cont h) ∧
        ∀ acc' cp' s2, (∀ p ∈ cp, p ∉ pn ∧ ∀ q ∈ pn, q.1 ≠ p.1) → SL cp cp' s1 s2 → s2.gens = s1.gens → lk acc' cp' ι H → PR G (fun c d H' => W c d σ H') ι H Q (cont acc' h) → ∃ n', n = n' + 1 ∧ Rdy G X W L σ sc (gxX X A sc Hc ge fp pn xe) fp cs S g t f st fin lk Q pn B.in1 a gi n' s2) → Qn (some v) s1) :
    wpAny (model X.prog X.w) B (pyNext (.ref a)) Qn E s := by
  obtain ⟨hg, hl, gs, hgs, hgo2⟩ := r
  have hgl : gi < s.gens.size := (Array.getElem?_eq_some_iff.mp hgs).1
  have isG : ∀ {s' : Shared} {σ' : L2.St} {H' : Hp} {cp : List (Addr × Obj)}, Inv (gxX X A sc Hc ge fp pn xe) cp σ' H' s' → s'.heap.IsGen a gi := fun {s' σ' H' cp} J => by
    obtain ⟨nm, qn, e1, e2, e3⟩ := hgo
    exact ⟨go, nm, qn, (J.pin (a, go) (List.mem_append_left _ hpa)).1, e1, e2, e3⟩
  refine wpAny_gsz (n := gi + 1) hgl (next_genG (A := B) (F := fun n s₀ s1 => ∃ acc cp σg ι h H, Inv (gxX X A sc Hc ge fp pn xe) cp σg H s1 ∧ RH G ι h H ∧ lk acc cp ι H ∧ PR G (fun c d H' => W c d σ H') ι H Q (fin acc h))
    (Er := fun e s1 => XF X W L e s1 ∧ NotStop (model X.prog X.w) e s1.heap ∧ ∀ p ∈ pn, s1.heap.get? p.1 = some p.2) hh hl hroom hg hgs hgo2 (fun v s₁ gs' hbare hv => ?_) (fun s₁ hp h' hk => ?_) fun e s₁ he => ?_)
  · intro hsz
    obtain ⟨acc, cp, x, y, i, e, σg, ι, h, H, m, hm, rx, ry, hcp, J, rh, hlk, pr, kap⟩ := hv
    have Jg : Inv (gxX X A sc Hc ge fp pn xe) (cp ++ pinsAt fp s₁.heap) σg H (s₁.setGen gi gs') := Sh.Inv.gens J (allBare_setGen J.bare hbare)
    refine hitem acc cp x y v ι h H _ rx ry (gx_back I f3 Jg) rh hlk (fun p hp => ?_) (fun p hp => ?_) ⟨_, pr, fun acc' cp' s2 hcpn z zg hlk' pr' => ?_⟩
    · obtain ⟨q1, _, _, _, q5⟩ := J.pin p (List.mem_append_right _ (List.mem_append_left _ hp))
      exact ⟨q1, q5, hcp p hp⟩
    · exact (J.pin p (List.mem_append_right _ (List.mem_append_left _ hp))).2.1
    · cases n with
      | zero =>
        have : m = 0 := by omega
        subst this
        exact pr'.elim
      | succ n' =>
        have hm' : m ≤ n' := hm
        have hadr : ∀ b ∈ cp.map (·.1), sc.heap.objs.size ≤ b := fun b hb => by
          obtain ⟨p, hp, e⟩ := List.mem_map.mp hb
          rw [← e]; exact hcp p hp
        have J2 : Inv (gxX X A sc Hc ge fp pn xe) (cp' ++ pinsAt fp s₁.heap) σg H s2 := by
          refine Inv.slept Jg hcp (fun p hp hb => ?_) (fun x c e hb => ?_) z
          · rcases List.mem_append.mp hp with hp | hp
            · obtain ⟨q, hq, e⟩ := List.mem_map.mp hb
              exact (hcpn q hq).2 p hp e.symm
            · have h1 := hfl _ (of_pinsAt hp).1
              exact absurd (Nat.lt_of_lt_of_le h1 (hadr _ hb)) (Nat.lt_irrefl _)
          · exact absurd (Nat.lt_of_lt_of_le (hcl x c e) (hadr _ hb)) (Nat.lt_irrefl _)
        have hsz1 : gi < s₁.gens.size := by
          have q : (s₁.setGen gi gs').gens.size = s₁.gens.size := setGen_size _ _ _
          have hsz' : gi + 1 ≤ (s₁.setGen gi gs').gens.size := hsz
          omega
        refine ⟨n', rfl, isG J2, J2.nolimit, gs', by rw [zg]; exact setGen_at hsz1, ?_⟩
        refine kap acc' cp' _ (fun p hp => hadr _ (z.at_ p hp).1) (Sh.Inv.gens J2 (allBare_setGen J2.bare rfl)) hlk' pr'
  · intro hsz
    obtain ⟨acc, cp, σg, ι, h, H, J, rh, hlk, pr⟩ := hp
    have J2 : Inv (gxX X A sc Hc ge fp pn xe) cp σg H { (s₁.setGen gi .finished) with heap := h' } := L2.Inv.kept (Sh.Inv.gens J (allBare_setGen J.bare rfl)) (t' := s₁.toks) hk
    exact hend acc cp ι h H _ (gx_back I f3 J2) rh hlk (fun p hp => hk _ _ (J.pin p (List.mem_append_right _ hp)).1) pr
  · obtain ⟨hx, hns, hpk⟩ := he
    obtain ⟨nm, qn, e1, e2, e3⟩ := hgo
    refine ⟨⟨go, nm, qn, hpk (a, go) hpa, e1, e2, e3⟩, hns, fun _ => hE e _ (hx.gens rfl rfl (allBare_setGen ?_ rfl))⟩
    obtain ⟨_, _, _, _, _, _, _, _, _, _, _, _, _, _, _, ag, _⟩ := hx
    exact ag
end
end Sh

/-! Sh14: a generator expression is made. -/
namespace Sh
open PySem PySem.Spec PyProof.Rows L2 GenW
@[simp] def mGen {α : Type} (it : MI) (vs : List Nat) (g : MG) (t f : ME) (cs : List String) (st : α → IV → St3 α) (fin : α → M IV) (acc : α) : ME := fun e h => match it e h with
  | .ok S h1 => genL cs S g t f st fin (S.n + 1) 0 (wipeI e vs) acc h1
  | .exc c h1 => .exc c h1
  | .bad => .bad
section
variable {α : Type} {G : Gx} {X : Cx} {W : WX} {cs : List String} {g : MG} {t f : ME} {st : α → IV → St3 α} {fin : α → M IV} {lk : α → List (Addr × Obj) → List Addr → Hp → Prop} {Q : VK} {σ : L2.St} {pins : List (Addr × Obj)} {acc0 : α} {k : Nat}
/-- what a consumer is told of the generator at a, made in X at sc -/
structure GMd (G : Gx) (X : Cx) (W : WX) (k : Nat) (σ : L2.St) (pins : List (Addr × Obj)) (cs : List String) (S : Sr) (g : MG) (t f : ME) (st : α → IV → St3 α) (fin : α → M IV) (Q : VK) (acc0 : α) (sc : Shared) (Hc : Hp) (ge : Env) (fp : List Addr) (L a : Addr) (gi : Nat) (go : Obj) (xe : Around → Value → Shared → Prop) (s : Shared) : Prop where
  inv : Inv X pins σ Hc sc
  fp3 : ∀ b ∈ fp, FpOk X pins Hc b
  fpl : ∀ b ∈ fp, b < sc.heap.objs.size
  cll : ∀ x c, ge.cells.lookup x = some c → c < sc.heap.objs.size
  tf : ∀ u s', XF X W L u s' → X.xe u s'
  alt : sc.heap.objs.size ≤ a ∧ a < s.heap.objs.size
  go_ : ∃ nm qn, go.cls = .type "generator" ∧ go.data = .fields #[.int gi 0, nm, qn] ∧ go.slots = #[]
  isg : s.heap.IsGen a gi
  kept : ∀ b o, sc.heap.get? b = some o → s.heap.get? b = some o
  os : s.os = sc.os
  bare : AllBare s.gens
  wake : ∀ (lk : α → List (Addr × Obj) → List Addr → Hp → Prop), (∀ acc cp ι H ι' H', lk acc cp ι H → ι <+: ι' → TL G.K H H' → lk acc cp ι' H') → ∀ (B : Around) (s2 : Shared) (cp : List (Addr × Obj)) (ι : List Addr), B.handled = none → B.frames = some X.stack → Room k (B.deeper ge) → (∀ b o, s.heap.get? b = some o → s2.heap.get? b = some o) → s2.os = s.os → s2.gens = s.gens → (∀ p ∈ cp, s2.heap.get? p.1 = some p.2 ∧ s.heap.objs.size ≤ p.1 ∧ ∀ v, p.2.data ≠ .cell v) →
    (∀ ι, lk acc0 cp ι Hc) → Rdy G X W L σ sc (gxX X (B.deeper ge) sc Hc ge fp [(a, go)] (xe (B.deeper ge))) fp cs S g t f st fin lk Q [(a, go)] B a gi (S.n + 1) s2
/-- a generator expression's parts, in any context of its frame -/
def SGn (G : Gx) (X : Cx) (k : Nat) (scope : Scope) (tg : Expr) (ifs : List Expr) (elt : Expr) (g : MG) (t f : ME) : Prop :=
  ∀ (A : Around) (sc : Shared) (Hc : Hp) (C : Addr) (code : Value) (fp : List Addr) (pn : List (Addr × Obj)) (xe : Value → Shared → Prop) (W' : WX), Can G (gxX X A sc Hc (genEnv scope (cloFrom X.env.cells scope.names []) C code builtinsNs X.env) fp pn xe) W' k →
    SG G (gxX X A sc Hc (genEnv scope (cloFrom X.env.cells scope.names []) C code builtinsNs X.env) fp pn xe) W' tg g ∧ SQ G (gxX X A sc Hc (genEnv scope (cloFrom X.env.cells scope.names []) C code builtinsNs X.env) fp pn xe) W' ifs t ∧
      SE G (gxX X A sc Hc (genEnv scope (cloFrom X.env.cells scope.names []) C code builtinsNs X.env) fp pn xe) W' elt f
theorem gen_make {elt tg iter : Expr} {ifs : List Expr} {scope : Scope} {own : List (Str × Nat)} {pos : Pos} {it : MI} {c P : Addr} {nm : Nat → Nat → Str} {s : Shared} {H : Hp} {j : Nat} {Qf : Value → Shared → Prop}
    (C : Can G X W j) (ct : CT G X c P nm) (hn : nm pos.line pos.col = X.env.qual ++ "<genexpr>") (ns : NoStp G.K cs) (I : Inv X pins σ H s) (hi : SI G X W tg iter it) (ok : BlkOk X.N X.env.scope scope own)
    (hcell : ∀ y ∈ scope.names, y.2 ≠ .cell) (h0 : scope.names.lookup (".0" : Str) = some NameKind.local) (hco : scope.isCoroutine = false) (hb : SGn G X k scope tg ifs elt g t f) (hs : ∀ x, genFold iter X.env x = pure x)
    (h : TI G W (mGen it (own.map (·.2)) g t f cs st fin acc0) σ H Q)
    (hQ : ∀ S sc Hc ge fp L a gi go xe s', GMd G X W k σ pins cs S g t f st fin Q acc0 sc Hc ge fp L a gi go xe s' → Qf (.ref a) s') :
    wpAny (model X.prog X.w) X.A (eval (.GeneratorExp elt [⟨tg, iter, ifs, 0⟩] scope pos) X.env) Qf X.xe s := by
  obtain ⟨L, tp, tf⟩ := C.tf
  have hfree : ∀ y ∈ scope.names, y.2 = .free → ∃ c, X.env.cells.lookup y.1 = some c := fun y hy e => by
    rcases ok.free y hy e with k | k
    · exact I.ok.has _ (.inl k)
    · exact I.ok.has _ (.inr k)
  obtain ⟨ι, e, h0', en, rh, hq⟩ := h
  have hT : TII G W it σ H fun J H1 => ∃ S ι1 h1, Aft G ι H ι1 h1 H1 ∧ SrOk G ι1 H1 S J ∧ PR G (fun c d H' => W c d σ H') ι1 H1 Q (genL cs S g t f st fin (S.n + 1) 0 (wipeI e (own.map (·.2))) acc0 h1) := by
    refine ⟨ι, e, h0', en, rh, ?_⟩
    simp only [mGen] at hq
    cases z : it e h0' with
    | bad => rw [z] at hq; exact hq
    | exc c h1 => rw [z] at hq; exact hq
    | ok S h1 =>
      rw [z] at hq
      exact fun ι1 H1 J a so => ⟨S, ι1, h1, a, so, PR.after a hq⟩
  refine wpAny_GeneratorExp_make hco (closure_ok hfree) hcell h0 ok.kind C.room.depth (thn (hi.run pins s σ H _ I hT) fun xv s1 hx => thn hx fun itv s2 h2 => ?_) hs
  obtain ⟨itA, fp, tn, J, H2, e2, I2, T, st2, f2, S, ι2, hh2, af2, so, q⟩ := h2
  subst e2
  refine ⟨I2.nolimit, gcode I2 af2.rh ct hn fun code H3 s3 I3 af3 kp3 fr3 os3 sz3 => ?_⟩
  obtain ⟨bm, ob, e1, e2, e3, e4, e5, e6, e7, e8⟩ := ct.tb.bm
  refine wpAny_builtinsFor (m := X.mg) (by rw [I3.ok.glob]; exact I3.mod.glob.keeps I3.bk) e1 e2 (I3.bk _ _ e5) e6 e7 e8 ?_
  intro h4 hn4 hs4
  have sz : ∀ b ∈ fp, b < s2.heap.objs.size := fun b hb => by
    obtain ⟨o, e, _⟩ := T.obj _ _ st2 b hb
    exact Heap.lt_size e
  have f3 : ∀ b ∈ fp, FpOk X pins H3 b := fun b hb => ⟨fr3 b (sz b hb) (f2 b hb).1, (f2 b hb).2⟩
  have st3 : tn 0 s3.heap := T.keep _ _ _ st2 fun b hb o e => kp3 b o (f2 b hb).1 e
  have hsz4 : h4.objs.size = s3.heap.objs.size + 1 := by rw [hs4.1, Heap.size_push]
  have keep4 : ∀ b o, s3.heap.get? b = some o → h4.get? b = some o := fun b o e => hs4.extBut b o (Nat.ne_of_lt (Heap.lt_size e)) (Heap.get?_push_of_some _ e)
  generalize hgo : ({ cls := .type "generator", data := .fields #[.int s3.gens.size 0, .str "<genexpr>" (s3.toks + 1), .str (X.env.qual ++ "<genexpr>") (s3.toks + 1 + 1)] } : Obj) = go
  have keep5 : ∀ b o, s3.heap.get? b = some o → (h4.push go).get? b = some o := fun b o e => Heap.get?_push_of_some _ (keep4 b o e)
  have hgo5 : (h4.push go).get? h4.objs.size = some go := Heap.get?_push_size _ (by rw [← hgo]; rfl)
  have goF : ∃ nm qn, go.cls = .type "generator" ∧ go.data = .fields #[.int s3.gens.size 0, nm, qn] ∧ go.slots = #[] := ⟨_, _, by rw [← hgo], by rw [← hgo], by rw [← hgo]⟩
  have isG : ∀ {hp : Heap}, hp.get? h4.objs.size = some go → hp.IsGen h4.objs.size s3.gens.size := fun {hp} e => by
    obtain ⟨nm, qn, z1, z2, z3⟩ := goF
    exact ⟨go, nm, qn, e, z1, z2, z3⟩
  have goc : ∀ v, go.data ≠ .cell v := fun v z => by rw [← hgo] at z; cases z
  have clt : ∀ x c, (cloFrom X.env.cells scope.names []).lookup x = some c → c < s3.heap.objs.size := fun x c e => by
    rcases cloFrom_mem (PySem.mem_of_lookup e) with hm | ⟨h1, h2⟩
    · cases hm
    · obtain ⟨c1, hc⟩ := hfree _ h1 rfl
      have hc : X.env.cells.lookup x = some c1 := hc
      rw [h2, hc]
      obtain ⟨v, o, ho, _⟩ := I3.cell x c1 hc
      exact Heap.lt_size ho
  obtain ⟨xeF, hxeF⟩ : ∃ F : Around → Value → Shared → Prop, F = (fun A u s => wpAny (model X.prog X.w) A (leaving (genEnv scope (cloFrom X.env.cells scope.names []) s3.heap.objs.size code builtinsNs X.env) u) (fun _ s2 => XF X W L u s2 ∧ NotStop (model X.prog X.w) u s2.heap ∧ ∀ p ∈ [(h4.objs.size, go)], s2.heap.get? p.1 = some p.2) (fun _ _ => False) s) := ⟨_, rfl⟩
  refine hQ S s3 H3 (genEnv scope (cloFrom X.env.cells scope.names []) s3.heap.objs.size code builtinsNs X.env) fp L h4.objs.size s3.gens.size go
    xeF _ ⟨I3, f3, fun b hb => Nat.lt_of_lt_of_le (sz b hb) sz3, clt, tf, ⟨by omega, ?_⟩, goF, isG hgo5, keep5, rfl, AllBare.push I3.bare rfl, fun lk hlk B s6 cp ι' hB hBf hBr k6 os6 g6 hcp hl => ?_⟩
  · show h4.objs.size < (h4.push go).objs.size
    rw [Heap.size_push]; exact Nat.lt_succ_self _
  -- the generator wakes
  have kp6 : ∀ b o, s3.heap.get? b = some o → s6.heap.get? b = some o := fun b o e => k6 b o (keep5 b o e)
  have lim6 : s6.heap.NoLimit := I3.nolimit.keeps kp6
  have hgi : s6.gens[s3.gens.size]? = some (.fresh (.compStart (.GeneratorExp elt [⟨tg, iter, ifs, 0⟩] scope pos) 0 (.ref itA) .none (genEnv scope (cloFrom X.env.cells scope.names []) s3.heap.objs.size code builtinsNs X.env))) := by
    rw [g6]; exact Array.getElem?_push_size ..
  refine ⟨isG (k6 _ _ hgo5), lim6, _, hgi, rfl, ?_⟩
  have b6 : AllBare (s6.setGen s3.gens.size .running).gens := allBare_setGen (by rw [g6]; exact AllBare.push I3.bare rfl) rfl
  have G6 := gx_start (own := own) (fp := fp) (pn := [(h4.objs.size, go)] ++ cp) (xe := fun u s => wpAny (model X.prog X.w) (B.deeper (genEnv scope (cloFrom X.env.cells scope.names []) s3.heap.objs.size code builtinsNs X.env)) (leaving (genEnv scope (cloFrom X.env.cells scope.names []) s3.heap.objs.size code builtinsNs X.env) u) (fun _ s2 => XF X W L u s2 ∧ NotStop (model X.prog X.w) u s2.heap ∧ ∀ p ∈ [(h4.objs.size, go)], s2.heap.get? p.1 = some p.2) (fun _ _ => False) s)
    (A := B.deeper (genEnv scope (cloFrom X.env.cells scope.names []) s3.heap.objs.size code builtinsNs X.env)) (s1 := s6.setGen s3.gens.size .running) (m := fun y => if y = ".0" then some (.ref itA) else none) I3 C.nd ok hcell (fun b hb => ⟨f3 b hb, Nat.lt_of_lt_of_le (sz b hb) sz3⟩) (Nat.le_refl _) hBr.hd (Around.frames_deeper hBf)
    kp6 os6 b6 ((hn4.push _).keeps k6) (fun p hp => by
      rcases List.mem_append.mp hp with z | z
      · rw [List.mem_singleton.mp z]
        exact ⟨k6 _ _ hgo5, by omega, by rw [hsz4]; exact Nat.succ_ne_self _, goc⟩
      · obtain ⟨z1, z2, z3⟩ := hcp p z
        have z2' : (h4.push go).objs.size ≤ p.1 := z2
        rw [Heap.size_push, hsz4] at z2'
        have hlt : s3.heap.objs.size < p.1 := by omega
        exact ⟨z1, Nat.le_of_lt hlt, Nat.ne_of_gt hlt, z3⟩)
  have G7 : Inv (gxX X (B.deeper (genEnv scope (cloFrom X.env.cells scope.names []) s3.heap.objs.size code builtinsNs X.env)) s3 H3 (genEnv scope (cloFrom X.env.cells scope.names []) s3.heap.objs.size code builtinsNs X.env) fp [(h4.objs.size, go)]
      (xeF (B.deeper (genEnv scope (cloFrom X.env.cells scope.names []) s3.heap.objs.size code builtinsNs X.env)))) cp (L2.wipe σ (own.map (·.2))) H3 (s6.setGen s3.gens.size .running) :=
    ⟨⟨G6.ok.mod, G6.ok.kind, G6.ok.glob, G6.ok.blt, G6.ok.above, G6.ok.inj, G6.ok.has, G6.ok.cab, G6.ok.hd, G6.ok.frames, G6.ok.stk, G6.ok.exf, G6.ok.bs, G6.ok.bsz, G6.ok.noex, G6.ok.exfs, G6.ok.funs, G6.ok.frf⟩, G6.os, G6.bare, G6.base, G6.loc, G6.cell, G6.free, G6.freeC,
      fun p hp => G6.pin p (List.mem_append_left _ hp), G6.hok, G6.len⟩
  have en3 : REn G.K ι2 H3 (wipeI e (own.map (·.2))) (L2.wipe σ (own.map (·.2))) := ((en.mono af2.pre af2.tl).mono af3.pre af3.tl).wipe _
  have so3 : SrOk G ι2 H3 S J := fun i ι' h' H' r p tl => so i ι' h' H' r p (af3.tl.trans tl)
  have C2 : Can G (gxX X (B.deeper (genEnv scope (cloFrom X.env.cells scope.names []) s3.heap.objs.size code builtinsNs X.env)) s3 H3 (genEnv scope (cloFrom X.env.cells scope.names []) s3.heap.objs.size code builtinsNs X.env) fp [(h4.objs.size, go)]
      (xeF (B.deeper (genEnv scope (cloFrom X.env.cells scope.names []) s3.heap.objs.size code builtinsNs X.env)))) (gW G.K cs W σ) k := by
    refine ⟨⟨s3.heap.objs.size, ⟨⟨_, _, rfl, rfl⟩, rfl⟩, fun u s' x => ?_⟩, hBr, rfl, C.nd, C.hK⟩
    obtain ⟨⟨e0, r0, hst, _⟩, _⟩ := tp
    show xeF _ u s'
    rw [hxeF]
    refine gx_out (cs := cs) (xe := xeF (B.deeper (genEnv scope (cloFrom X.env.cells scope.names []) s3.heap.objs.size code builtinsNs X.env))) I3 f3 ⟨e0, r0, hst⟩ rfl rfl (Nat.le_refl _) (by rw [C.hK]; exact ns) u s' ?_
    rw [C.hK]
    exact x
  obtain ⟨pg, pt, pe⟩ := hb _ _ _ _ _ _ _ _ _ C2
  have loop := seg_gen (A' := B) (W := W) (σ := σ) (cs := cs) (st := st) (fin := fin) (Q := Q) (elt := elt) (tg := tg) (iter := iter) (ifs := ifs) (scope := scope) (pos := pos) (lk := lk) rfl (congrFun hxeF _) (by rfl) hco C2 T (fun b hb => Nat.lt_of_lt_of_le (sz b hb) sz3) (fun p hp => by rw [List.mem_singleton.mp hp]; show s3.heap.objs.size ≤ h4.objs.size; omega) so3 pg pt pe hlk
    (S.n + 1) (S.n + 1) (s6.setGen s3.gens.size .running) (s6.setGen s3.gens.size .running) acc0 cp 0 _ _ ι2 hh2 H3 (Nat.le_refl _) (fun p hp => by
      obtain ⟨z1, z2, z3⟩ := hcp p hp
      have z2' : (h4.push go).objs.size ≤ p.1 := z2
      rw [Heap.size_push, hsz4] at z2'
      have hlt : s3.heap.objs.size < p.1 := by omega
      exact Nat.le_of_lt hlt) G7 (T.keep _ _ _ st3 fun b _ o e => kp6 b o e) (fun b hb => (f3 b hb).1) en3 af3.rh (hl ι2) (List.prefix_refl _) (TL.refl _ _) (PR.after af3 q)
  show Seg _ B _ _ _ _ _ ((compStart (.GeneratorExp elt [⟨tg, iter, ifs, 0⟩] scope pos) 0 (.ref itA) .none _).onRaise (leaving _)) [] _
  unfold compStart
  rw [Sem.onRaise_eq_wrap]
  show Seg _ B _ _ _ _ _ ((ask >>= _).wrap _ _ _ _) [] _
  refine seg_bind_wrap (wpAny_askSetting ?_)
  split
  · exact seg_again rfl loop
  · first
      | exact seg_bind_wrap (wpAny_rule (seg_bind_wrap (wpAny_standAt (seg_bind_wrap (T.self _ 0 _ _ _ (T.keep _ _ _ st3 fun b _ o e => kp6 b o e) (seg_again rfl loop))))))
      | (refine seg_bind_wrap (wpAny_rule ?_); show Seg _ B _ _ _ _ _ ((standAt iter.pos >>= _).wrap _ _ _ _) [] _; exact seg_bind_wrap (wpAny_standAt (seg_bind_wrap (T.self _ 0 _ _ _ (T.keep _ _ _ st3 fun b _ o e => kp6 b o e) (seg_again rfl loop)))))
end
end Sh

/-! Sh15: any(..), all(..) of a generator expression. -/
namespace Sh
open PySem PySem.Spec PyProof.Rows L2 GenW
/-- any, all: the flag is the answer that ends it -/
@[simp] def stB (b : Bool) : Unit → IV → St3 Unit := fun _ y => match y with
  | .bl c => if c = b then .out (.bl b) else .more ()
  | _ => .bad
@[simp] def finB (b : Bool) : Unit → M IV := fun _ h => .ok (.bl !b) h
abbrev lk0 : Unit → List (Addr × Obj) → List Addr → Hp → Prop := fun _ cp _ _ => cp = []
section
variable {G : Gx} {X : Cx} {W : WX} {cs : List String} {S : Sr} {g : MG} {t f : ME} {Q : VK} {σ : L2.St} {pins : List (Addr × Obj)} {k : Nat} {sc : Shared} {Hc : Hp} {ge : Env} {fp : List Addr} {L a : Addr} {gi : Nat} {go : Obj} {xe : Around → Value → Shared → Prop} {s5 : Shared} {b : Bool}
/-- one turn of the loop -/
theorem turnB (M : GMd G X W k σ pins cs S g t f (stB b) (finB b) Q () sc Hc ge fp L a gi go xe s5) (hh : X.A.handled = none) (hd : X.A.depth < recursionLimit) {n : Nat} {s : Shared} {Ax : Around} {R : Value → Shared → Prop} {E : Value → Shared → Prop}
    (r : Rdy G X W L σ sc (gxX X Ax sc Hc ge fp [(a, go)] (xe Ax)) fp cs S g t f (stB b) (finB b) lk0 Q [(a, go)] X.A.in1.in1 a gi n s)
    (hR : ∀ c s', EP X pins σ Q (.bool c) s' → R (.bool c) s') (hE : ∀ u s1, XF X W L u s1 → E u s1) :
    wpAny (model X.prog X.w) X.A.in1 (pyNext (.ref a)) (fun v s1 => match v with
      | none => R (.bool !b) s1
      | some v => ∃ c, v = .bool c ∧ (c = b → R (.bool b) s1) ∧ (c ≠ b → ∃ n', n = n' + 1 ∧ Rdy G X W L σ sc (gxX X Ax sc Hc ge fp [(a, go)] (xe Ax)) fp cs S g t f (stB b) (finB b) lk0 Q [(a, go)] X.A.in1.in1 a gi n' s1)) E s := by
  refine gen_next (B := X.A.in1) hh hd (List.mem_singleton.mpr rfl) M.go_ M.inv M.fp3 M.fpl (fun p hp => by rw [List.mem_singleton.mp hp]; exact M.alt.1) M.cll r hE (fun acc cp ι h H s1 I1 rh hl _ pr => ?_) fun acc cp x y v ι h H s1 rx ry I1 rh hl hcp hcn ⟨cont, pr, kap⟩ => ?_
  · exact hR _ _ ⟨.bl !b, H, I1, rfl, pr ι H _ (Aft.refl rh) (bl_iff.mpr rfl)⟩
  · cases y with
    | bl d =>
      obtain rfl := bl_iff.mp ry
      obtain rfl : v = Value.bool d := rx
      refine ⟨d, rfl, fun e => ?_, fun e => ?_⟩
      · subst e
        simp only [stB, if_true] at pr
        exact hR _ _ ⟨.bl d, H, I1, rfl, pr ι H _ (Aft.refl rh) (bl_iff.mpr rfl)⟩
      · simp only [stB, if_neg e] at pr
        have hl : cp = [] := hl
        subst hl
        exact kap () [] s1 (fun p hp => absurd hp (by simp)) (SL.refl (fun p hp => absurd hp (by simp)) rfl rfl I1.bare) rfl rfl pr
    | _ => exact pr.elim
theorem any_loop (M : GMd G X W k σ pins cs S g t f (stB true) (finB true) Q () sc Hc ge fp L a gi go xe s5) (hh : X.A.handled = none) (hd : X.A.depth < recursionLimit) {R : Result → Shared → Prop} {Ax : Around}
    (hR : ∀ c s', EP X pins σ Q (.bool c) s' → R (.ok (.ret (.bool c))) s') (hE : ∀ u s1, XF X W L u s1 → R (.error u) s1) : ∀ (n : Nat) (s : Shared), Rdy G X W L σ sc (gxX X Ax sc Hc ge fp [(a, go)] (xe Ax)) fp cs S g t f (stB true) (finB true) lk0 Q [(a, go)] X.A.in1.in1 a gi n s →
      codeAny (model X.prog X.w) X.A (.builtin "any.loop" ⟨[.ref a], []⟩) R s := by
  intro n
  induction n using Nat.strongRecOn with
  | ind n ih =>
    intro s r
    refine codeAny_builtin F.entry_any_loop ?_
    rw [Around.under_plainId F.plain_any_loop _]
    show wpAny _ X.A.in1 (pyNext (.ref a) >>= _) _ _ s
    refine wpAny_bind (wpAny_mono (turnB M hh hd (R := fun v s' => R (.ok (.ret v)) s') (E := fun e s' => R (.error e) s') r hR hE) (fun v s1 q => ?_) fun _ _ e => e)
    cases v with
    | none => exact wpAny_bind (wpAny_rule (wpAny_pure q))
    | some v =>
      obtain ⟨c, rfl, q1, q2⟩ := q
      refine wpAny_bind (wpAny_holding (wpAny_truthy_bool ?_))
      refine wpAny_bind (wpAny_letGo ?_)
      cases c with
      | true =>
        simp only [if_true]
        exact wpAny_bind (wpAny_rule (wpAny_pure (q1 rfl)))
      | false =>
        simp only [Bool.false_eq_true, if_false]
        obtain ⟨n', e, r'⟩ := q2 (by decide)
        exact wpAny_pure ⟨plainId_quiet F.plain_any_loop _, ih n' (by omega) _ r'⟩
theorem all_loop (M : GMd G X W k σ pins cs S g t f (stB false) (finB false) Q () sc Hc ge fp L a gi go xe s5) (hh : X.A.handled = none) (hd : X.A.depth < recursionLimit) {R : Result → Shared → Prop} {Ax : Around}
    (hR : ∀ c s', EP X pins σ Q (.bool c) s' → R (.ok (.ret (.bool c))) s') (hE : ∀ u s1, XF X W L u s1 → R (.error u) s1) : ∀ (n : Nat) (s : Shared), Rdy G X W L σ sc (gxX X Ax sc Hc ge fp [(a, go)] (xe Ax)) fp cs S g t f (stB false) (finB false) lk0 Q [(a, go)] X.A.in1.in1 a gi n s →
      codeAny (model X.prog X.w) X.A (.builtin "all.loop" ⟨[.ref a], []⟩) R s := by
  intro n
  induction n using Nat.strongRecOn with
  | ind n ih =>
    intro s r
    refine codeAny_builtin F.entry_all_loop ?_
    rw [Around.under_plainId F.plain_all_loop _]
    show wpAny _ X.A.in1 (pyNext (.ref a) >>= _) _ _ s
    refine wpAny_bind (wpAny_mono (turnB M hh hd (R := fun v s' => R (.ok (.ret v)) s') (E := fun e s' => R (.error e) s') r hR hE) (fun v s1 q => ?_) fun _ _ e => e)
    cases v with
    | none => exact wpAny_bind (wpAny_rule (wpAny_pure q))
    | some v =>
      obtain ⟨c, rfl, q1, q2⟩ := q
      refine wpAny_bind (wpAny_holding (wpAny_truthy_bool ?_))
      refine wpAny_bind (wpAny_letGo ?_)
      cases c with
      | false =>
        simp only [Bool.false_eq_true, if_false]
        exact wpAny_bind (wpAny_rule (wpAny_pure (q1 rfl)))
      | true =>
        simp only [if_true]
        obtain ⟨n', e, r'⟩ := q2 (by decide)
        exact wpAny_pure ⟨plainId_quiet F.plain_all_loop _, ih n' (by omega) _ r'⟩
variable {elt tg iter : Expr} {ifs : List Expr} {scope : Scope} {own : List (Str × Nat)} {p pos gpos : Pos} {it : MI} {c P : Addr} {nm : Nat → Nat → Str}
theorem room_ge {k : Nat} {A : Around} (r : Room (k + 3) A) (en : Env) : Room k (A.in1.in1.deeper en) := (r.in1.in1).deeper en
/-- what is asked of a generator expression, but for its parts -/
structure GxOk (G : Gx) (X : Cx) (k : Nat) (cs : List String) (scope : Scope) (own : List (Str × Nat)) (gpos : Pos) (elt tg iter : Expr) (ifs : List Expr) (g : MG) (t f : ME) : Prop where
  ct : ∃ c P nm, CT G X c P nm ∧ nm gpos.line gpos.col = X.env.qual ++ "<genexpr>"
  ns : NoStp G.K cs
  ok : BlkOk X.N X.env.scope scope own
  cell : ∀ y ∈ scope.names, y.2 ≠ .cell
  dot : scope.names.lookup (".0" : Str) = some NameKind.local
  co : scope.isCoroutine = false
  body : SGn G X k scope tg ifs elt g t f
  fold : ∀ x, genFold iter X.env x = pure x
theorem se_any (C : Can G X W (k + 3)) (hi : SI G X W tg iter it) (O : GxOk G X k cs scope own gpos elt tg iter ifs g t f) (hg : Gl X "any") (hm : X.mg "any" = none)
    (he : starEach [.GeneratorExp elt [⟨tg, iter, ifs, 0⟩] scope gpos] X.env = (false, eval (.GeneratorExp elt [⟨tg, iter, ifs, 0⟩] scope gpos) X.env) :: starEach [] X.env := by rfl) :
    SE G X W (.Call (.Name "any" p) [.GeneratorExp elt [⟨tg, iter, ifs, 0⟩] scope gpos] [] pos) (mGen it (own.map (·.2)) g t f cs (stB true) (finB true) ()) := by
  refine ⟨fun pins s σ H Q I h => ?_⟩
  refine wpAny_Call_Name_kw (ld_blt I hg hm boot_any ?_)
  refine PyProof.Rows.callWith_builtin1 ?_ he (by rfl)
  rw [he]
  show wpAny _ _ (spliced ((false, eval (.GeneratorExp elt [⟨tg, iter, ifs, 0⟩] scope gpos) X.env) :: backTo pos (starEach [] X.env))) _ _ s
  obtain ⟨c, P, nm, ct, hn⟩ := O.ct
  refine Calls.spliced_cons (gen_make C ct hn O.ns I hi O.ok O.cell O.dot O.co O.body O.fold h fun S sc Hc ge fp L a gi go xe s5 M => ?_)
  refine Calls.spliced_nil ?_
  refine call_function_tree F.kind_any F.plain_any F.entry_any (F.args_any1 _) ?_
  unfold Builtin.«any»
  refine wpAny_bind (m := oneArg "any" _) (wpAny_pure ?_)
  refine wpAny_bind (wpAny_pyIter_gen M.isg ?_)
  refine wpAny_pure ⟨plainId_quiet F.plain_any_loop _, any_loop M C.room.hd C.room.depth (fun _ _ q => q) (fun u s1 x => M.tf u s1 x) (S.n + 1) s5 (M.wake lk0 (fun _ _ _ _ _ _ h _ _ => h) X.A.in1.in1 s5 [] [] C.room.hd I.ok.frames (room_ge C.room ge) (fun _ _ e => e) rfl rfl (fun p hp => absurd hp (by simp)) fun _ => rfl)⟩
theorem se_all (C : Can G X W (k + 3)) (hi : SI G X W tg iter it) (O : GxOk G X k cs scope own gpos elt tg iter ifs g t f) (hg : Gl X "all") (hm : X.mg "all" = none) (hb : bootBuiltins "all" = some (.builtin "all"))
    (he : starEach [.GeneratorExp elt [⟨tg, iter, ifs, 0⟩] scope gpos] X.env = (false, eval (.GeneratorExp elt [⟨tg, iter, ifs, 0⟩] scope gpos) X.env) :: starEach [] X.env := by rfl) :
    SE G X W (.Call (.Name "all" p) [.GeneratorExp elt [⟨tg, iter, ifs, 0⟩] scope gpos] [] pos) (mGen it (own.map (·.2)) g t f cs (stB false) (finB false) ()) := by
  refine ⟨fun pins s σ H Q I h => ?_⟩
  refine wpAny_Call_Name_kw (ld_blt I hg hm hb ?_)
  refine PyProof.Rows.callWith_builtin1 ?_ he (by rfl)
  rw [he]
  show wpAny _ _ (spliced ((false, eval (.GeneratorExp elt [⟨tg, iter, ifs, 0⟩] scope gpos) X.env) :: backTo pos (starEach [] X.env))) _ _ s
  obtain ⟨c, P, nm, ct, hn⟩ := O.ct
  refine Calls.spliced_cons (gen_make C ct hn O.ns I hi O.ok O.cell O.dot O.co O.body O.fold h fun S sc Hc ge fp L a gi go xe s5 M => ?_)
  refine Calls.spliced_nil ?_
  refine call_function_tree F.kind_all F.plain_all F.entry_all (F.args_all1 _) ?_
  unfold Builtin.«all»
  refine wpAny_bind (m := oneArg "all" _) (wpAny_pure ?_)
  refine wpAny_bind (wpAny_pyIter_gen M.isg ?_)
  refine wpAny_pure ⟨plainId_quiet F.plain_all_loop _, all_loop M C.room.hd C.room.depth (fun _ _ q => q) (fun u s1 x => M.tf u s1 x) (S.n + 1) s5 (M.wake lk0 (fun _ _ _ _ _ _ h _ _ => h) X.A.in1.in1 s5 [] [] C.room.hd I.ok.frames (room_ge C.room ge) (fun _ _ e => e) rfl rfl (fun p hp => absurd hp (by simp)) fun _ => rfl)⟩
end
end Sh

/-! Sh16: enumerate, zip. -/
namespace PySem
open Sem (wp)
open AutoSeq1 (wpAny_loadPart')
set_option maxHeartbeats 1000000 in
theorem sh_meets_enum {v : Value} {o : Obj} {H : Heap → Prop} (B : Begins v o H) :
    Meets (Builtin.«enumerate.__new__» ⟨[.type "enumerate", v], []⟩) (fun _ R s => H s.heap ∧
      R (.ok (.ret (.ref (s.heap.push o).objs.size))) { s with heap := (s.heap.push o).push { cls := .type "enumerate", data := .fields #[.none, .bool false, .ref s.heap.objs.size, rawInt 0, .none, .none] } }) :=
  .of_wp fun prog w A R s h => by
    obtain ⟨hp, g, d, tk, os⟩ := s
    obtain ⟨h1, h⟩ := h
    have hsub := sub_enumerate
    have q1 : ∀ {A' : Around} {E : Value → Shared → Prop} {Q : Value → Shared → Prop}, Q (.ref hp.objs.size) ⟨hp.push o, g, d, tk, os⟩ → wpAny (model prog w) A' (pyIter v) Q E ⟨hp, g, d, tk, os⟩ := fun q => B.iter prog w _ _ ⟨hp, g, d, tk, os⟩ _ h1 q
    wp_walk
    refine wpAny_stack_any fun st => wpAny_pure ?_
    split
    · rename_i c _ _ _ _ _
      cases (c == Value.type "enumerate")
      · wp_walk using q1
        exact ⟨_, rfl, h⟩
      · wp_walk using q1
        exact ⟨_, rfl, h⟩
    · wp_walk using q1
      exact ⟨_, rfl, h⟩
theorem sh_call_enum {prog : Program} {w : World} {A : Around} {E : Value → Shared → Prop} {s : Shared} {v : Value} {o : Obj} {H : Heap → Prop} {Q : Value → Shared → Prop} (B : Begins v o H) (h1 : H s.heap)
    (h : ∀ h', IsEnum h' (s.heap.objs.size + 1) s.heap.objs.size 0 .none → h'.get? s.heap.objs.size = some o → h'.objs.size = s.heap.objs.size + 2 →
      (∀ b o, s.heap.get? b = some o → h'.get? b = some o) → Q (.ref (s.heap.objs.size + 1)) { s with heap := h' }) :
    wpAny (model prog w) A (call (.type "enumerate") [v]) Q E s := by
  refine callType_new F.called_enumerate (by decide) (F.typeCall_enumerate_1 _) (F.newCall_enumerate_1 _) (fun obj => F.args_object_init_2 obj _) F.entry_enumerate_new (sh_meets_enum B) ⟨h1, ?_⟩
  have hz : (s.heap.push o).objs.size = s.heap.objs.size + 1 := Heap.size_push ..
  show _ ∧ _
  rw [hz]
  have he : IsEnum ((s.heap.push o).push { cls := .type "enumerate", data := .fields #[.none, .bool false, .ref s.heap.objs.size, rawInt 0, .none, .none] }) (s.heap.objs.size + 1) s.heap.objs.size 0 .none := by
    have := Heap.get?_push_size (s.heap.push o) (o := { cls := .type "enumerate", data := .fields #[.none, .bool false, .ref s.heap.objs.size, rawInt 0, .none, .none] }) rfl
    rw [hz] at this; exact this
  exact ⟨⟨_, he, rfl⟩, h _ he (Heap.get?_push_of_some _ (Heap.get?_push_size _ B.free)) (by rw [Heap.size_push, hz]) fun b o x => Heap.get?_push_of_some _ (Heap.get?_push_of_some _ x)⟩
end PySem
namespace Sh
open PySem PySem.Spec PyProof.Rows L2
/-- what an inner iterator walks -/
inductive Ik where
  | li (q : Addr)
  | tu (q : Addr)
  | te (x : Str) (u : Tok)
def Ik.v : Ik → Value
  | .li q => .ref q
  | .tu q => .ref q
  | .te x u => .str x u
def Ik.o : Ik → Obj
  | .li q => { cls := .type "list_iterator", data := .fields #[.ref q, .int 0 0] }
  | .tu q => { cls := .type "tuple_iterator", data := .fields #[.ref q, .int 0 0] }
  | .te x u => { cls := .type (strIterType x), data := .fields #[.str x u, .int 0 0] }
def Ik.ad : Ik → List Addr
  | .li q => [q]
  | .tu q => [q]
  | .te _ _ => []
/-- the iterator's state -/
def Ik.at (d : Ik) (it : Addr) (i : Nat) (h : Heap) : Prop := match d with
  | .li q => h.IsListIter it q i
  | .tu q => h.IsTupleIter it q i
  | .te x u => h.IsStrIter it (strIterType x) x u i
/-- its items -/
def Ik.xs (K : PySem.W.Frag) (d : Ik) (H : Hp) (xs : List V) : Prop := match d with
  | .li q => SqL K H q xs
  | .tu q => SqT K H q xs
  | .te x _ => xs = x.cps.toList.map fun c => V.str ⟨#[c]⟩
theorem Ik.keep {d : Ik} {it : Addr} {i : Nat} {h h' : Heap} (st : d.at it i h) (k : ∀ o, h.get? it = some o → h'.get? it = some o) : d.at it i h' := by
  cases d with
  | li q => exact (show h.IsListIter it q i from st).at fun o e => k o e
  | tu q => exact (show h.IsTupleIter it q i from st).at fun o e => k o e
  | te x u => obtain ⟨o, e, r⟩ := (show h.IsStrIter it (strIterType x) x u i from st); exact ⟨o, k o e, r⟩
theorem Ik.obj {d : Ik} {it : Addr} {i : Nat} {h : Heap} (st : d.at it i h) : ∃ o, h.get? it = some o ∧ ∃ vs, o.data = .fields vs := by
  cases d with
  | li q => obtain ⟨o, e, c, d⟩ := (show h.IsListIter it q i from st); exact ⟨o, e, _, d⟩
  | tu q => obtain ⟨o, e, c, d⟩ := (show h.IsTupleIter it q i from st); exact ⟨o, e, _, d⟩
  | te x u => obtain ⟨o, e, c, d⟩ := (show h.IsStrIter it (strIterType x) x u i from st); exact ⟨o, e, _, d⟩
theorem vals_get' : ∀ {xs : List V} {us : List Value} {i : Nat} {u : Value}, Vals xs us → us[i]? = some u → ∃ x, xs[i]? = some x ∧ RelV x u
  | _, _, _, _, .nil, e => by simp at e
  | _, _, 0, _, .cons r _, e => by
    simp only [List.getElem?_cons_zero, Option.some.injEq] at e
    subst e
    exact ⟨_, rfl, r⟩
  | _, _, i + 1, _, .cons _ rs, e => by
    simp only [List.getElem?_cons_succ] at e ⊢
    exact vals_get' rs e
section
variable {X : Cx} {pins : List (Addr × Obj)} {σ : L2.St} {H : Hp} {s : Shared}
/-- what iter(v) asks of the heap -/
theorem Ik.begins (I : Inv X pins σ H s) (d : Ik) {xs : List V} (hx : d.xs X.K H xs) : ∃ Hh : Heap → Prop, Begins d.v d.o Hh ∧ Hh s.heap ∧ ∀ b ∈ d.ad, b < s.heap.objs.size := by
  cases d with
  | li q =>
    obtain ⟨its, rv, p, hz⟩ := I.list hx
    exact ⟨_, begins_list q its.toArray, p.isList, fun b hb => by rw [List.mem_singleton.mp hb]; exact p.lt⟩
  | tu q =>
    obtain ⟨its, rv, p, hz⟩ := I.tuple hx
    obtain ⟨o, e, _⟩ := id p
    exact ⟨_, begins_tuple q its.toArray, p, fun b hb => by rw [List.mem_singleton.mp hb]; exact Heap.lt_size e⟩
  | te x u => exact ⟨_, begins_text x u, trivial, fun b hb => nomatch hb⟩
theorem Ik.first {d : Ik} {it : Addr} {h : Heap} (e : h.get? it = some d.o) : d.at it 0 h := by
  cases d with
  | li q => exact ⟨_, e, rfl, rfl⟩
  | tu q => exact ⟨_, e, rfl, rfl⟩
  | te x u => exact ⟨_, e, rfl, rfl⟩
theorem Ik.inj (I : Inv X pins σ H s) (d : Ik) {xs ys : List V} (hx : d.xs X.K H xs) (hy : d.xs X.K H ys) : xs = ys := by
  cases d with
  | li q => exact I.list_inj hx hy
  | tu q => exact I.tuple_inj hx hy
  | te x u => exact (show xs = _ from hx).trans (show ys = _ from hy).symm
/-- it draws -/
theorem Ik.draw (I : Inv X pins σ H s) (hc : X.calm = true) (d : Ik) {it : Addr} {xs : List V} (hx : d.xs X.K H xs) (hne : it ∉ d.ad) : ∃ (P : Nat → Value → Prop) (St : Nat → Heap → Prop), Draws X.prog X.w X.A.in1 it (it :: d.ad) xs.length P St ∧ (∀ i, d.at it i s.heap → St i s.heap) ∧
    (∀ i h', St i h' → d.at it i h') ∧ ∀ i v, P i v → ∃ x, xs[i]? = some x ∧ RelV x v := by
  cases d with
  | li q =>
    obtain ⟨its, rv, p, hz⟩ := I.list hx
    have D := Draws.list (prog := X.prog) (w := X.w) (A := X.A.in1) (I.ok.hd hc) it q (fun z => hne (by rw [z]; exact List.mem_singleton.mpr rfl)) its.toArray
    have hl : its.toArray.size = xs.length := by rw [List.size_toArray]; exact rv.length.symm
    rw [hl] at D
    refine ⟨_, _, D, fun i st => ⟨st, p.isList⟩, fun i h' st => st.1, fun i v hv => ?_⟩
    have hv : its[i]? = some v := by simpa using hv
    exact vals_get' rv hv
  | tu q =>
    obtain ⟨its, rv, p, hz⟩ := I.tuple hx
    have D := Draws.tuple (prog := X.prog) (w := X.w) (A := X.A.in1) (I.ok.hd hc) it q (fun z => hne (by rw [z]; exact List.mem_singleton.mpr rfl)) its.toArray
    have hl : its.toArray.size = xs.length := by rw [List.size_toArray]; exact rv.length.symm
    rw [hl] at D
    refine ⟨_, _, D, fun i st => ⟨st, p⟩, fun i h' st => st.1, fun i v hv => ?_⟩
    have hv : its[i]? = some v := by simpa using hv
    exact vals_get' rv hv
  | te x u =>
    have D := Draws.text (prog := X.prog) (w := X.w) (A := X.A.in1) (I.ok.hd hc) it x u
    have hx : xs = x.cps.toList.map fun c => V.str ⟨#[c]⟩ := hx
    have hl : x.cps.size = xs.length := by rw [hx]; simp
    rw [hl] at D
    refine ⟨_, _, D, fun i st => st, fun i h' st => st, fun i v hv => ?_⟩
    obtain ⟨c, u2, h1, rfl⟩ := hv
    refine ⟨.str ⟨#[c]⟩, ?_, u2, rfl⟩
    rw [hx, List.getElem?_map, Array.getElem?_toList, h1]
    rfl
end
/-- enumerate: each item in a new pair with its number -/
def ItE (K : PySem.W.Frag) (d : Ik) : It :=
  ⟨fun i H => ∃ (xs : List V) (x : V), d.xs K H xs ∧ xs[i]? = some x, fun i H v H' => ∃ T x, v = .ref T ∧ H T = none ∧ H' = upd H T (.tup [.int (i : Nat), x]) ∧ ∀ xs, d.xs K H xs → xs[i]? = some x, fun i H => ∃ xs : List V, d.xs K H xs ∧ xs.length = i⟩
theorem turn_enumK {P : Program} {w : World} {K : PySem.W.Frag} {elts : List Expr} {kk : Nat} {tpos : Pos} (d : Ik) (e it : Addr) (hd1 : it ∉ d.ad) (hd2 : e ∉ d.ad) (hne : e ≠ it) :
    Turn P w K (.Tuple elts kk tpos) (ItE K d) [e, it] e (fun i h => (∃ old, IsEnum h e it ((i : Nat) : Int) old) ∧ d.at it i h) where
  mem := by simp
  obj := fun i h st b hb => by
    obtain ⟨⟨old, he⟩, hi⟩ := st
    have e' : b = e ∨ b = it := by simpa using hb
    rcases e' with z | z
    · rw [z]; exact ⟨_, he, fun v q => nomatch q⟩
    · obtain ⟨o, ho, vs, hv⟩ := Ik.obj hi
      rw [z]; exact ⟨o, ho, fun v q => by rw [hv] at q; cases q⟩
  keep := fun i h h' st k => let ⟨⟨old, he⟩, hi⟩ := st; ⟨⟨old, k e (by simp) _ he⟩, Ik.keep hi fun o q => k it (by simp) o q⟩
  item := by
    intro X hP hw hK hc i pins s σ H E I hf st hg
    subst hP hw hK
    obtain ⟨⟨old, he⟩, hit⟩ := st
    obtain ⟨xs, x, hq, hx⟩ := hg
    have hel : e < s.heap.objs.size := Heap.lt_size he
    have hil : it < s.heap.objs.size := by obtain ⟨_, q, _⟩ := Ik.obj hit; exact Heap.lt_size q
    obtain ⟨P', St, D, hSt, hSt', hP'⟩ := Ik.draw I hc d hq hd1
    have hef : e ∉ it :: d.ad := fun z => (List.mem_cons.mp z).elim hne hd2
    refine wpAny_pyNext_enum_itemD D he (hSt i hit) (List.getElem?_eq_some_iff.mp hx).1 hne hef fun u h' tk hu ho hit' hT hsz hk => ?_
    obtain ⟨x', hx', ru⟩ := hP' i u hu
    rw [hx] at hx'
    cases hx'
    refine ⟨_, rfl, wpAny_letOwnedTupleGo_enum (s := { s with heap := h', toks := tk + 1 }) ho fun h2 he' sb => ?_⟩
    have hT2 : h2.get? s.heap.objs.size = some { cls := .type "tuple", data := .seq #[.int i tk, u] } := (sb.2 _ (Nat.ne_of_gt hel)).trans hT
    have new : ObjOk X.prog X.w (upd H s.heap.objs.size (.tup [.int (i : Nat), x])) h2 s.heap.objs.size (.tup [.int (i : Nat), x]) :=
      ⟨by show 2 ≤ sizeLine; decide, [.int i tk, u], .cons ⟨_, rfl⟩ (.cons ru .nil), ⟨_, hT2, rfl, _, rfl⟩⟩
    have I1 : Inv X pins σ (upd H s.heap.objs.size (.tup [.int (i : Nat), x])) { s with heap := h2, toks := tk + 1 } :=
      I.turnedNew (ch := [e, it]) (fun b ob hb q => (sb.2 b (fun z => hb (by simp [z]))).trans (hk b ob (fun z => hb (by simp [z])) (fun z => hb (by simp [z])) q)) hf (Nat.le_refl _) new
    refine ⟨.ref s.heap.objs.size, _, I1, rfl, ⟨_, x, rfl, I.hok.fresh (Nat.le_refl _), rfl, fun ys hy => by rw [Ik.inj I d hy hq]; exact hx⟩, ⟨⟨u, ?_⟩, Ik.keep (hSt' _ _ hit') fun o q => (sb.2 it (Ne.symm hne)).trans q⟩, fun b hb => ?_⟩
    · have e1 : ((i + 1 : Nat) : Int) = (i : Int) + 1 := by omega
      rw [e1]; exact he'
    · have hb' : b < s.heap.objs.size := by
        have e' : b = e ∨ b = it := by simpa using hb
        rcases e' with z | z
        · rw [z]; exact hel
        · rw [z]; exact hil
      rw [upd_ne (Nat.ne_of_lt hb')]
      exact (hf b hb).1
  done := by
    intro X hP hw hK hc i pins s σ H E I hf st hg
    subst hP hw hK
    obtain ⟨⟨old, he⟩, hit⟩ := st
    obtain ⟨xs, hq, hx⟩ := hg
    subst hx
    obtain ⟨f0, f1, f2, f3, f4, f5⟩ := hf it (by simp)
    obtain ⟨P', St, D, hSt, hSt', hP'⟩ := Ik.draw I hc d hq hd1
    exact wpAny_pyNext_enum_endD D he (hSt _ hit) fun h' eb => ⟨rfl, I.turned (t' := s.toks) (fun b o hb q => eb b o hb q) f0 f1 f3 f4 f5⟩
  self := fun A i s Q E st h => let ⟨⟨_, he⟩, _⟩ := st; wpAny_pyIter_enum he h
/-- zip of two: the items in new pairs -/
def ItZ (K : PySem.W.Frag) (d1 d2 : Ik) : It :=
  ⟨fun i H => ∃ (xs ys : List V) (x y : V), d1.xs K H xs ∧ d2.xs K H ys ∧ xs[i]? = some x ∧ ys[i]? = some y,
    fun i H v H' => ∃ T x y, v = .ref T ∧ H T = none ∧ H' = upd H T (.tup [x, y]) ∧ (∀ xs, d1.xs K H xs → xs[i]? = some x) ∧ ∀ ys, d2.xs K H ys → ys[i]? = some y,
    fun i H => ∃ xs ys : List V, d1.xs K H xs ∧ d2.xs K H ys ∧ i ≤ xs.length ∧ i ≤ ys.length ∧ (i = xs.length ∨ i = ys.length)⟩
theorem turn_zipK {P : Program} {w : World} {K : PySem.W.Frag} {elts : List Expr} {kk : Nat} {tpos : Pos} {d1 d2 : Ik} {z TI TO i1 i2 : Addr} (S : ZipSep2 z TI TO i1 i2 (i1 :: d1.ad) (i2 :: d2.ad)) (h1' : i1 ∉ d1.ad) (h2' : i2 ∉ d2.ad) :
    Turn P w K (.Tuple elts kk tpos) (ItZ K d1 d2) [z, TI, TO, i1, i2] z (fun i h => IsZip h z TI TO .none ∧ IsTupOf2 h TI (.ref i1) (.ref i2) ∧ (∃ x y, IsTupOf2 h TO x y) ∧ d1.at i1 i h ∧ d2.at i2 i h) where
  mem := by simp
  obj := fun i h st c hc => by
    obtain ⟨hz, hTI, ⟨x, y, hTO⟩, h1, h2⟩ := st
    have e' : c = z ∨ c = TI ∨ c = TO ∨ c = i1 ∨ c = i2 := by simpa using hc
    rcases e' with q | q | q | q | q
    · rw [q]; exact ⟨_, hz, fun v q => nomatch q⟩
    · rw [q]; exact ⟨_, hTI, fun v q => nomatch q⟩
    · rw [q]; exact ⟨_, hTO, fun v q => nomatch q⟩
    · obtain ⟨o, ho, vs, hv⟩ := Ik.obj h1
      rw [q]; exact ⟨o, ho, fun v q => by rw [hv] at q; cases q⟩
    · obtain ⟨o, ho, vs, hv⟩ := Ik.obj h2
      rw [q]; exact ⟨o, ho, fun v q => by rw [hv] at q; cases q⟩
  keep := fun i h h' st k => by
    obtain ⟨hz, hTI, ⟨x, y, hTO⟩, h1, h2⟩ := st
    exact ⟨k z (by simp) _ hz, k TI (by simp) _ hTI, ⟨x, y, k TO (by simp) _ hTO⟩, Ik.keep h1 fun o q => k i1 (by simp) o q, Ik.keep h2 fun o q => k i2 (by simp) o q⟩
  item := by
    intro X hP hw hK hc i pins s σ H E I hf st hg
    subst hP hw hK
    obtain ⟨hz, hTI, ⟨x0, y0, hTO⟩, h1, h2⟩ := st
    obtain ⟨xs, ys, x, y, hqx, hqy, hx, hy⟩ := hg
    obtain ⟨P1, St1, D1, s1, s1', p1⟩ := Ik.draw I hc d1 hqx h1'
    obtain ⟨P2, St2, D2, s2, s2', p2⟩ := Ik.draw I hc d2 hqy h2'
    have hzl : z < s.heap.objs.size := Heap.lt_size hz
    refine wpAny_pyNext_zipD2_item S D1 D2 hz hTI hTO (s1 i h1) (s2 i h2) (List.getElem?_eq_some_iff.mp hx).1 (List.getElem?_eq_some_iff.mp hy).1 fun u u2 h' tk hu hu2 z' TO' n1 n2 hT hsz hk => ?_
    obtain ⟨x', hx', ru⟩ := p1 i u hu
    obtain ⟨y', hy', ru2⟩ := p2 i u2 hu2
    rw [hx] at hx'
    rw [hy] at hy'
    cases hx'
    cases hy'
    refine ⟨_, rfl, wpAny_letOwnedTupleGo_zip (s := { s with heap := h', toks := tk }) z' fun h'' z'' sb => ?_⟩
    have hT2 : h''.get? s.heap.objs.size = some { cls := .type "tuple", data := .seq #[u, u2] } := (sb.2 _ (Nat.ne_of_gt hzl)).trans hT
    have new : ObjOk X.prog X.w (upd H s.heap.objs.size (.tup [x, y])) h'' s.heap.objs.size (.tup [x, y]) :=
      ⟨by show 2 ≤ sizeLine; decide, [u, u2], .cons ru (.cons ru2 .nil), ⟨_, hT2, rfl, _, rfl⟩⟩
    have I1 : Inv X pins σ (upd H s.heap.objs.size (.tup [x, y])) { s with heap := h'', toks := tk } :=
      I.turnedNew (t' := tk) (ch := [z, TI, TO, i1, i2]) (fun c o hb q => (sb.2 c (fun q' => hb (by simp [q']))).trans (hk c o (fun q' => hb (by simp [q'])) (fun q' => hb (by simp [q'])) (fun q' => hb (by simp [q'])) (fun q' => hb (by simp [q'])) q)) hf (Nat.le_refl _) new
    refine ⟨.ref s.heap.objs.size, _, I1, rfl, ⟨_, x, y, rfl, I.hok.fresh (Nat.le_refl _), rfl, fun l hl => by rw [Ik.inj I d1 hl hqx]; exact hx, fun l hl => by rw [Ik.inj I d2 hl hqy]; exact hy⟩, ⟨z'', ?_, ⟨u, u2, ?_⟩, ?_, ?_⟩, fun c hcm => ?_⟩
    · exact (sb.2 _ S.TIz).trans (hk _ _ S.TIz S.TITO S.TIi1 S.TIi2 hTI)
    · exact (sb.2 _ S.TOz).trans TO'
    · exact Ik.keep (s1' _ _ n1) fun o q => (sb.2 _ S.zi1.symm).trans q
    · exact Ik.keep (s2' _ _ n2) fun o q => (sb.2 _ S.zi2.symm).trans q
    · have hlt : c < s.heap.objs.size := by
        have e' : c = z ∨ c = TI ∨ c = TO ∨ c = i1 ∨ c = i2 := by simpa using hcm
        rcases e' with q | q | q | q | q
        · rw [q]; exact hzl
        · rw [q]; exact Heap.lt_size hTI
        · rw [q]; exact Heap.lt_size hTO
        · rw [q]; obtain ⟨_, e1, _⟩ := Ik.obj h1; exact Heap.lt_size e1
        · rw [q]; obtain ⟨_, e2, _⟩ := Ik.obj h2; exact Heap.lt_size e2
      rw [upd_ne (Nat.ne_of_lt hlt)]
      exact (hf c hcm).1
  done := by
    intro X hP hw hK hc i pins s σ H E I hf st hg
    subst hP hw hK
    obtain ⟨hz, hTI, ⟨x0, y0, hTO⟩, h1, h2⟩ := st
    obtain ⟨xs, ys, hqx, hqy, le1, le2, hend⟩ := hg
    obtain ⟨P1, St1, D1, s1, s1', p1⟩ := Ik.draw I hc d1 hqx h1'
    obtain ⟨P2, St2, D2, s2, s2', p2⟩ := Ik.draw I hc d2 hqy h2'
    exact wpAny_pyNext_zipD2_end S D1 D2 hz hTI hTO (s1 i h1) (s2 i h2) le1 le2 hend fun h' tk hk => ⟨rfl, I.turnedL (t' := tk) (ch := [z, TI, TO, i1, i2]) (fun c o hb q =>
      hk c o (fun q' => hb (by simp [q'])) (fun q' => hb (by simp [q'])) (fun q' => hb (by simp [q'])) (fun q' => hb (by simp [q'])) q) hf⟩
  self := fun A i s Q E st h => wpAny_pyIter_zip st.1 h

/-! ### as sources -/
def SrI (G : Gx) (ι0 : List Addr) (H0 : Hp) (S : Sr) (d : Ik) : Prop :=
  ∀ i ι h H, RH G ι h H → ι0 <+: ι → TL G.K H0 H → match S.nx i h with
    | .stop => ∃ xs, d.xs G.K H xs ∧ xs.length = i
    | .it x => ∃ xs v, d.xs G.K H xs ∧ xs[i]? = some v ∧ RV G.K ι H x v
    | .bad => True
section
variable {G : Gx} {X : Cx} {W : WX} {a b e : Expr} {p pos tpos : Pos} {elts : List Expr} {kk : Nat} {fs : IE → M (List IV)}
theorem sr_ik {x : IV} {v : V} {u : Value} {ι : List Addr} {h h1 : IH} {H : Hp} {S : Sr} (rh : RH G ι h H) (r : RV G.K ι H x v) (ru : RelV v u) (e : srV x h = .ok S h1) : h1 = h ∧ ∃ d : Ik, d.v = u ∧ (∃ xs, d.xs G.K H xs) ∧ SrI G ι H S d := by
  unfold srV at e
  split at e
  · rename_i n
    obtain ⟨q, iq, rfl⟩ := ref_iff.mp r
    cases ru
    split at e
    · rename_i xs z
      cases e
      obtain ⟨vs, hv, rs⟩ := rh.at z iq
      refine ⟨rfl, .li q, rfl, ⟨vs, SqL.of hv⟩, fun i ι' h' H' rh' hι tl => ?_⟩
      simp only [srL]
      cases z0 : h'[n]? with
      | none => trivial
      | some o =>
        cases o <;> try trivial
        rename_i ys
        obtain ⟨ws, hw, rs'⟩ := rh'.at z0 (pre_get hι iq)
        simp only
        by_cases hi : i < ys.length
        · rw [if_pos hi]
          have z2 : ys[i]? = some ys[i] := List.getElem?_eq_getElem hi
          rw [z2]
          obtain ⟨w, hw2, rw'⟩ := rs'.has z2
          exact ⟨ws, w, SqL.of hw, hw2, rw'⟩
        · rw [if_neg hi]
          by_cases hj : i = ys.length
          · rw [if_pos hj]; exact ⟨ws, SqL.of hw, by rw [← rs'.len]; omega⟩
          · rw [if_neg hj]; trivial
    · cases e
  · rename_i xs
    cases e
    rw [tup_iff] at r
    obtain ⟨q, vs, rfl, hq, rs⟩ := r
    cases ru
    refine ⟨rfl, .tu q, rfl, ⟨vs, (SqT.of hq)⟩, fun i ι' h' H' rh' hι tl => ?_⟩
    have rs' := rs.mono hι tl
    simp only [srT]
    cases z : xs[i]? with
    | none =>
      by_cases hi : i = xs.length
      · rw [if_pos hi]; exact ⟨vs, SqT.of (tl.t _ _ hq), by rw [← rs.len]; omega⟩
      · rw [if_neg hi]; trivial
    | some y =>
      obtain ⟨w, hw2, rw'⟩ := rs'.has z
      exact ⟨vs, w, SqT.of (tl.t _ _ hq), hw2, rw'⟩
  · rename_i xs
    cases e
    rw [fz_iff] at r
    obtain ⟨q, vs, rfl, hq, rs⟩ := r
    cases ru
    refine ⟨rfl, .li q, rfl, ⟨vs, hq.sq⟩, fun i ι' h' H' rh' hι tl => ?_⟩
    have rs' := rs.mono hι tl
    simp only [srT]
    cases z : xs[i]? with
    | none =>
      by_cases hi : i = xs.length
      · rw [if_pos hi]; exact ⟨vs, (tl.f _ _ hq).sq, by rw [← rs.len]; omega⟩
      · rw [if_neg hi]; trivial
    | some y =>
      obtain ⟨w, hw2, rw'⟩ := rs'.has z
      exact ⟨vs, w, (tl.f _ _ hq).sq, hw2, rw'⟩
  · rename_i xs
    cases e
    obtain rfl := str_iff.mp r
    obtain ⟨t, rfl⟩ := ru
    refine ⟨rfl, .te (sS xs) t, rfl, ⟨_, rfl⟩, fun i ι' h' H' rh' hι tl => ?_⟩
    simp only [srS]
    cases z : xs[i]? with
    | none =>
      by_cases hi : i = xs.length
      · rw [if_pos hi]; exact ⟨_, rfl, by rw [List.length_map, sS_cps]; omega⟩
      · rw [if_neg hi]; trivial
    | some y =>
      refine ⟨_, .str ⟨#[y]⟩, rfl, ?_, str_iff.mpr rfl⟩
      rw [List.getElem?_map, sS_cps, z]
      rfl
  · cases e
def srE (S : Sr) : Sr := ⟨S.n, fun i h => match S.nx i h with
  | .it x => .it (.tup [.int (i : Nat), x])
  | r => r⟩
def srZ (S1 S2 : Sr) : Sr := ⟨S1.n, fun i h => match S1.nx i h, S2.nx i h with
  | .it x, .it y => .it (.tup [x, y])
  | .stop, .it _ => .stop
  | .it _, .stop => .stop
  | .stop, .stop => .stop
  | _, _ => .bad⟩
theorem pairI {T : Addr} {x y : IV} {v w : V} {ι : List Addr} {h : IH} {H : Hp} (rh : RH G ι h H) (hT : H T = none) (rx : RV G.K ι H x v) (ry : RV G.K ι H y w) : ∃ ι', Aft G ι H ι' h (upd H T (.tup [v, w])) ∧ RV G.K ι' (upd H T (.tup [v, w])) (.tup [x, y]) (.ref T) := by
  have a := Aft.fresh rh hT (.tup [v, w])
  exact ⟨ι, a, tup_iff.mpr ⟨T, _, rfl, upd_same, RVs.cons (rx.mono a.pre a.tl) (RVs.one (ry.mono a.pre a.tl))⟩⟩
theorem srOk_e {ι0 : List Addr} {H0 : Hp} {S : Sr} {d : Ik} (k : SrI G ι0 H0 S d) : SrOk G ι0 H0 (srE S) (ItE G.K d) := by
  intro i ι h H rh hι tl
  have q := k i ι h H rh hι tl
  simp only [srE]
  cases z : S.nx i h with
  | stop => rw [z] at q; exact q
  | bad => trivial
  | it x =>
    rw [z] at q
    obtain ⟨xs, v, h1, h2, r⟩ := q
    refine ⟨⟨xs, v, h1, h2⟩, fun v' H' ⟨T, y, e1, hT, eH, hy⟩ => ?_⟩
    subst e1 eH
    have := hy xs h1
    rw [h2] at this
    cases this
    exact pairI rh hT (int_iff.mpr rfl) r
theorem srOk_z {ι0 : List Addr} {H0 : Hp} {S1 S2 : Sr} {d1 d2 : Ik} (k1 : SrI G ι0 H0 S1 d1) (k2 : SrI G ι0 H0 S2 d2) : SrOk G ι0 H0 (srZ S1 S2) (ItZ G.K d1 d2) := by
  intro i ι h H rh hι tl
  have q1 := k1 i ι h H rh hι tl
  have q2 := k2 i ι h H rh hι tl
  simp only [srZ]
  cases z1 : S1.nx i h with
  | bad => trivial
  | stop =>
    rw [z1] at q1
    obtain ⟨xs, h1, l1⟩ := q1
    cases z2 : S2.nx i h with
    | bad => trivial
    | stop =>
      rw [z2] at q2
      obtain ⟨ys, h2, l2⟩ := q2
      exact ⟨xs, ys, h1, h2, by omega, by omega, .inl l1.symm⟩
    | it y =>
      rw [z2] at q2
      obtain ⟨ys, w, h2, l2, _⟩ := q2
      exact ⟨xs, ys, h1, h2, by omega, Nat.le_of_lt (List.getElem?_eq_some_iff.mp l2).1, .inl l1.symm⟩
  | it x =>
    rw [z1] at q1
    obtain ⟨xs, v, h1, l1, r1⟩ := q1
    cases z2 : S2.nx i h with
    | bad => trivial
    | stop =>
      rw [z2] at q2
      obtain ⟨ys, h2, l2⟩ := q2
      exact ⟨xs, ys, h1, h2, Nat.le_of_lt (List.getElem?_eq_some_iff.mp l1).1, by omega, .inr l2.symm⟩
    | it y =>
      rw [z2] at q2
      obtain ⟨ys, w, h2, l2, r2⟩ := q2
      refine ⟨⟨xs, ys, v, w, h1, h2, l1, l2⟩, fun v' H' ⟨T, x', y', e1, hT, eH, hx, hy⟩ => ?_⟩
      subst e1 eH
      have e1 := hx xs h1
      have e2 := hy ys h2
      rw [l1] at e1
      rw [l2] at e2
      cases e1
      cases e2
      exact pairI rh hT r1 r2
@[simp] def mEnum (fs : IE → M (List IV)) : MI := fun e h => (fs e h).bind fun xs h1 => match xs with
  | [x] => match srV x h1 with
    | .ok S h2 => .ok (srE S) h2
    | _ => .bad
  | _ => .bad
@[simp] def mZip (fs : IE → M (List IV)) : MI := fun e h => (fs e h).bind fun xs h1 => match xs with
  | [x, y] => match srV x h1, srV y h1 with
    | .ok S1 h2, .ok S2 _ => .ok (srZ S1 S2) h2
    | _, _ => .bad
  | _ => .bad
theorem si_enum (hK : X.K = G.K) (hg : Gl X "enumerate") (hm : X.mg "enumerate" = none) (ha : SA G X W [e] fs) (hs : starEach [e] X.env = [(false, eval e X.env)] := by rfl) : SI G X W (.Tuple elts kk tpos) (.Call (.Name "enumerate" p) [e] [] pos) (mEnum fs) := by
  refine ⟨fun pins s σ H R I h => ?_⟩
  refine Call_ (ld_blt I hg hm boot_enumerate (PyProof.Rows.callWith_type1 (thn (ha.run pos pins s σ H _ I (TIs.src h)) fun us s1 ⟨vs, H1, I1, r1, ι1, h1, xs, rh1, rs1, q⟩ => ?_) hs rfl))
  split at q
  · rename_i x
    unfold RVs at rs1
    obtain ⟨v, w, rfl, rv, rn⟩ := rs1
    unfold RVs at rn
    subst rn
    cases r1 with
    | cons ru rr =>
      rename_i u us'
      cases rr
      split at q
      · rename_i S h2 z
        obtain ⟨rfl, d, hd, ⟨ys, hy⟩, si⟩ := sr_ik rh1 rv ru z
        subst hd
        have hy' : d.xs X.K H1 ys := by rw [hK]; exact hy
        obtain ⟨Hh, B, hH, hlt⟩ := Ik.begins I1 d hy'
        refine sh_call_enum B hH fun h' he hit hsz hk => wpAny_pyIter_enum he ?_
        have I2 : Inv X pins σ H1 { s1 with heap := h' } := I1.kept (t' := s1.toks) hk
        have n1 : s1.heap.objs.size ∉ d.ad := fun z => Nat.lt_irrefl _ (hlt _ z)
        have n2 : s1.heap.objs.size + 1 ∉ d.ad := fun z => Nat.lt_irrefl _ (Nat.lt_trans (Nat.lt_succ_self _) (hlt _ z))
        refine ⟨s1.heap.objs.size + 1, [s1.heap.objs.size + 1, s1.heap.objs.size], _, _, H1, rfl, I2, turn_enumK d (s1.heap.objs.size + 1) s1.heap.objs.size n1 n2 (Nat.succ_ne_self _), ⟨⟨.none, he⟩, Ik.first hit⟩, fun b hb => ?_, ?_⟩
        · have e' : b = s1.heap.objs.size + 1 ∨ b = s1.heap.objs.size := by simpa using hb
          have hle : s1.heap.objs.size ≤ b := by
            rcases e' with z | z
            · rw [z]; exact Nat.le_add_right _ _
            · rw [z]; exact Nat.le_refl _
          exact I1.fpOk hle (I1.hok.fresh hle)
        · rw [hK]
          exact q _ _ _ (Aft.refl rh1) (srOk_e si)
      · exact q.elim
  · exact q.elim
theorem si_zip (hK : X.K = G.K) (hg : Gl X "zip") (hm : X.mg "zip" = none) (ha : SA G X W [a, b] fs) (hs : starEach [a, b] X.env = (false, eval a X.env) :: starEach [b] X.env := by rfl) (hpl : (backTo pos (starEach [b] X.env)).any (·.1) = false := by rfl) : SI G X W (.Tuple elts kk tpos) (.Call (.Name "zip" p) [a, b] [] pos) (mZip fs) := by
  refine ⟨fun pins s σ H R I h => ?_⟩
  refine Call_ (ld_blt I hg hm PyProof.Rows.boot_zip (PyProof.Rows.callWith_type1 (thn (ha.run pos pins s σ H _ I (TIs.src h)) fun us s1 ⟨vs, H1, I1, r1, ι1, h1, xs, rh1, rs1, q⟩ => ?_) hs hpl))
  split at q
  · rename_i x y
    unfold RVs at rs1
    obtain ⟨v, w, rfl, rv, rn⟩ := rs1
    unfold RVs at rn
    obtain ⟨v2, w2, rfl, rv2, rn⟩ := rn
    unfold RVs at rn
    subst rn
    cases r1 with
    | cons ru rr =>
      cases rr with
      | cons ru2 rr =>
        cases rr
        split at q
        · rename_i S1 h2 S2 h3 z1 z2
          obtain ⟨rfl, d1, hd1, ⟨ys1, hy1⟩, si1⟩ := sr_ik rh1 rv ru z1
          obtain ⟨rfl, d2, hd2, ⟨ys2, hy2⟩, si2⟩ := sr_ik rh1 rv2 ru2 z2
          subst hd1 hd2
          obtain ⟨Hh1, B1, hH1, hlt1⟩ := Ik.begins I1 d1 (show d1.xs X.K H1 ys1 by rw [hK]; exact hy1)
          obtain ⟨Hh2, B2, hH2, hlt2⟩ := Ik.begins I1 d2 (show d2.xs X.K H1 ys2 by rw [hK]; exact hy2)
          refine zip_begins2 B1 B2 hH1 hH2 fun h' hz hTI hTO g1 g2 hsz hk => wpAny_pyIter_zip hz ?_
          have I2 : Inv X pins σ H1 { s1 with heap := h' } := I1.kept (t' := s1.toks) hk
          have n1 : s1.heap.objs.size ∉ d1.ad := fun z => Nat.lt_irrefl _ (hlt1 _ z)
          have n2 : s1.heap.objs.size + 1 ∉ d2.ad := fun z => Nat.lt_irrefl _ (Nat.lt_trans (Nat.lt_succ_self _) (hlt2 _ z))
          refine ⟨s1.heap.objs.size + 4, [s1.heap.objs.size + 4, s1.heap.objs.size + 2, s1.heap.objs.size + 3, s1.heap.objs.size, s1.heap.objs.size + 1], _, _, H1, rfl, I2, turn_zipK (zip_sep2 hlt1 hlt2) n1 n2, ⟨hz, hTI, ⟨_, _, hTO⟩, Ik.first g1, Ik.first g2⟩, fun c hcm => ?_, ?_⟩
          · have e' : c = s1.heap.objs.size + 4 ∨ c = s1.heap.objs.size + 2 ∨ c = s1.heap.objs.size + 3 ∨ c = s1.heap.objs.size ∨ c = s1.heap.objs.size + 1 := by simpa using hcm
            have hle : s1.heap.objs.size ≤ c := by
              rcases e' with z | z | z | z | z
              · rw [z]; exact Nat.le_add_right _ _
              · rw [z]; exact Nat.le_add_right _ _
              · rw [z]; exact Nat.le_add_right _ _
              · rw [z]; exact Nat.le_refl _
              · rw [z]; exact Nat.le_add_right _ _
            exact I1.fpOk hle (I1.hok.fresh hle)
          · rw [hK]
            exact q _ _ _ (Aft.refl rh1) (srOk_z si1 si2)
        · exact q.elim
  · exact q.elim
end
end Sh

/-! Sh17: lambdas, and what tells them. -/
namespace Sh
open PySem PySem.Spec PyProof.Rows L2 LamX
/-- a lambda made in X -/
def lamD (X : Cx) (params : Arguments) (body : Expr) (scope : Scope) : LamD :=
  ⟨fun a c h => ∃ pm ctv, h.get? a = some (PySem.W.kla_obj "<lambda>" (X.env.qual ++ "<lambda>") params body scope (cloFrom X.env.cells scope.names []) pm c ctv), X.env.qual ++ "<lambda>"⟩
section
variable {G : Gx} {X : Cx} {pins : List (Addr × Obj)} {σ : L2.St} {H : Hp} {s : Shared} {ι : List Addr} {h : IH} {c P : Addr} {nm : Nat → Nat → Str} {params : Arguments} {body : Expr} {scope : Scope} {pos : Pos}
theorem lam_laid {c' : Addr} {pm ctv : Value} {t' : Nat} {o : Obj} (I : Inv X pins σ H s) (ho : o = PySem.W.kla_obj "<lambda>" (X.env.qual ++ "<lambda>") params body scope (cloFrom X.env.cells scope.names []) pm c' ctv) :
    Inv X pins σ (upd H s.heap.objs.size (.ext ((lamD X params body scope).obj s.heap.objs.size c'))) { s with heap := s.heap.push o, toks := t' } := by
  subst ho
  refine I.laid (a := s.heap.objs.size) (fun b u e => Heap.get?_push_of_some _ e) (Nat.le_refl _) ?_
  have e := Heap.get?_push_size s.heap (o := PySem.W.kla_obj "<lambda>" (X.env.qual ++ "<lambda>") params body scope (cloFrom X.env.cells scope.names []) pm c' ctv) rfl
  exact ⟨⟨pm, ctv, e⟩, ⟨_, e⟩, fun h1 h2 ⟨pm, ctv, z⟩ st => ⟨pm, ctv, st _ z⟩⟩
/-- the lambda is made -/
theorem lam_new {Q : Value → Shared → Prop} {E : Value → Shared → Prop} (I : Inv X pins σ H s) (rh : RH G ι h H) (ct : CT G X c P nm) (hn : nm pos.line pos.col = X.env.qual ++ "<lambda>") (hdef : defaultsOf params X.env = ([], [])) (hfree : ∀ y ∈ scope.names, y.2 = .free → ∃ c, X.env.cells.lookup y.1 = some c)
    (hq : ∀ f c' H1 H2 s', Inv X pins σ H2 s' → Aft G ι H ι h H1 → H1 f = none → H2 = upd H1 f (.ext ((lamD X params body scope).obj f c')) → H1 c' = some (CodeO c' (X.env.qual ++ "<lambda>")) → Q (.ref f) s') :
    wpAny (model X.prog X.w) X.A (eval (.Lambda params body scope pos) X.env) Q E s := by
  obtain ⟨ps, hP, ht, ha⟩ := (show NdefX.TabN H P nm from rh.tb _ ct.mem)
  refine PySem.W.kla_eval hdef ?_
  have bP : s.heap.BuiltinsAt X.mg P := ct.tb.bm.keeps I.bk
  have hP' : s.heap.get? P = some { cls := .none, data := .fields ps } := I.hok P _ hP
  cases hc : codeAmong pos ps.toList with
  | none =>
    refine PySem.W.kla_makeFunction (mg := X.mg) (c := c) (P := P) (ps := ps) (closure_ok hfree) I.ok.glob (I.mod.glob.keeps I.bk) ct.code (ct.tb.code.keeps I.bk) hP' ht hc ct.tb.gP bP fun c' ctv h' tk hx hge hlt hrec htb => ?_
    obtain ⟨c2, oc, vs, t, e2, hoc, hd, hv⟩ := hrec
    cases e2
    have nC : H c' = none := I.hok.fresh hge
    have I1 := inv_table (t' := tk) (more := #[rawInt pos.line, rawInt pos.col, .ref c']) (h' := h') I hP (fun b o hb e => hx b o hb e) htb hge ⟨oc, vs, t, hoc, hd, hv⟩
    have hE : ExtN H (upd (upd H P (.tbl (ps ++ #[rawInt pos.line, rawInt pos.col, .ref c']))) c' (CodeO c' (X.env.qual ++ "<lambda>"))) := fun b o e n => by
      rw [upd_ne (ne_of_none e nC), upd_ne (fun z => n ps (Option.some.inj (e.symm.trans (by rw [z]; exact hP))))]
      exact e
    have eL : (ps ++ #[rawInt pos.line, rawInt pos.col, .ref c']).toList = ps.toList ++ [rawInt pos.line, rawInt pos.col, .ref c'] := by simp
    have T1 : NdefX.TabsN G.T (upd (upd H P (.tbl (ps ++ #[rawInt pos.line, rawInt pos.col, .ref c']))) c' (CodeO c' (X.env.qual ++ "<lambda>"))) := fun p hp => by
      by_cases hb : p.1 = P
      · rw [ct.un p hp hb, hb]
        refine ⟨_, by rw [upd_ne (ne_of_none hP nC), upd_same], by rw [eL]; exact PySem.TriplesOk_snoc _ _ _ _ ht, fun p' cv hcv => ?_⟩
        rw [eL] at hcv
        rcases NdefX.among_app2 _ ht hcv with z | ⟨z, z1, z2⟩
        · obtain ⟨c0, e1, e2⟩ := ha p' cv z
          exact ⟨c0, e1, hE _ _ e2 codeO_ne⟩
        · refine ⟨c', z, ?_⟩
          rw [← z1, ← z2, hn]
          exact upd_same
      · obtain ⟨ps', a1, a2, a3⟩ := rh.tb p hp
        refine ⟨ps', by rw [upd_ne (ne_of_none a1 nC), upd_ne hb]; exact a1, a2, fun p' cv hcv => ?_⟩
        obtain ⟨c0, e1, e2⟩ := a3 p' cv hcv
        exact ⟨c0, e1, hE _ _ e2 codeO_ne⟩
    have I2 := lam_laid (params := params) (body := body) (scope := scope) (c' := c') (pm := (X.mg "__name__").getD .none) (ctv := ctv) (t' := tk) I1 rfl
    exact hq h'.objs.size c' _ _ _ I2 (Aft.extN rh hE T1) (I1.hok.fresh (Nat.le_refl _)) rfl upd_same
  | some cv =>
    obtain ⟨c', e, hco⟩ := ha pos cv hc
    subst e
    rw [hn] at hco
    refine PySem.W.kla_makeFunctionHit (mg := X.mg) (c := c) (P := P) (ps := ps) (closure_ok hfree) I.ok.glob (I.mod.glob.keeps I.bk) ct.code (ct.tb.code.keeps I.bk) hP' ht hc bP fun ctv h' tk hx hsz => ?_
    have I1 : Inv X pins σ H { s with heap := h', toks := tk } := I.kept hx
    have I2 := lam_laid (params := params) (body := body) (scope := scope) (c' := c') (pm := (X.mg "__name__").getD .none) (ctv := ctv) (t' := tk) I1 rfl
    exact hq h'.objs.size c' _ _ _ I2 (Aft.refl rh) (I1.hok.fresh (Nat.le_refl _)) rfl hco
/-- lambda: body, the j-th of its maker -/
@[simp] def mLam (j : Nat) : ME := fun _ h => .ok (.ref h.length) (h ++ [.lam j])
variable {W : WX}
theorem se_lam {j : Nat} (ct : CT G X c P nm) (hn : nm pos.line pos.col = X.env.qual ++ "<lambda>") (hL : G.L j = lamD X params body scope) (L : LamS X.env.scope scope) (hdef : defaultsOf params X.env = ([], [])) : SE G X W (.Lambda params body scope pos) (mLam j) := by
  refine ⟨fun pins s σ H Q I hq => ?_⟩
  obtain ⟨ι, e, h, en, rh, q⟩ := hq
  refine lam_new I rh ct hn hdef (L.has I.ok) fun f c' H1 H2 s' I2 a1 hf e2 hc => ⟨.ref f, H2, I2, rfl, ?_⟩
  subst e2
  have a2 := Aft.place a1.rh hf (.ext ((lamD X params body scope).obj f c')) (.lam j) ⟨c', by rw [upd_same, hL], by rw [hL]; exact (upd_ne (ne_of_none hc hf)).trans hc⟩
  exact q _ _ _ (a1.trans a2) (ref_iff.mpr ⟨f, by rw [← a1.rh.len]; simp, rfl⟩)
end

/-- the context of a lambda's body -/
theorem canL {G : Gx} {X : Cx} {A : Around} {outer : List Env} {s : Shared} {H : Hp} {E : XK} {scope : Scope} {f c' : Addr} {k : Nat} (hK : X.K = G.K) (nd : X.N.Nodup) (hr : Room k (A.deeper (lamEnv X scope s.heap.objs.size f c'))) : Can G (lamCx X A outer s H E scope f c') (dW E) k := by
  have tk : Takes (lamCx X A outer s H E scope f c') (dW E) := by
    intro u s' x
    exact XE.leave (X := lamCx X A outer s H E scope f c') (W := dW E) (E := E) rfl rfl rfl (fun _ _ _ _ h => h) x
  exact ⟨⟨_, ⟨⟨_, _, rfl, rfl⟩, rfl⟩, fun u s' x => tk u s' x⟩, hr, rfl, nd, hK⟩
/-- a lambda of X, its meaning -/
structure LamK (G : Gx) (X : Cx) (k : Nat) (params : Arguments) (body : Expr) (scope : Scope) (B : ME) : Prop where
  ls : LamS X.env.scope scope
  bind : ∀ (q : Str) (cl : List (Str × Addr)) (pm cv ctv : Value), bindArgs (PySem.W.kla_fn "<lambda>" q params body scope cl pm cv ctv) ⟨[], []⟩ = pure []
  body : ∀ (A : Around) (outer : List Env) (s : Shared) (H : Hp) (E : XK) (f c' : Addr), Can G (lamCx X A outer s H E scope f c') (dW E) k → SE G (lamCx X A outer s H E scope f c') (dW E) body B
section
variable {G : Gx} {X : Cx} {pins : List (Addr × Obj)} {σ : L2.St} {H : Hp} {s : Shared} {ι : List Addr} {h : IH} {k : Nat} {params : Arguments} {body : Expr} {scope : Scope} {B : ME} {e : IE}
/-- a(), in the def that got the lambda; Z is that def's context, entered at s from X -/
theorem pe_act {qg : Str} {sg : Scope} {g f c' : Addr} {cdg : Value} {Ng : List Str} {Eg : XK} {a : Str} {pn : List (Addr × Obj)} {xe : Value → Shared → Prop} {W : WX} {p1 p2 : Pos} {i : Nat}
    (I : Inv X pins σ H s) (en : REn G.K ι H e σ) (hK : X.K = G.K) (nd : X.N.Nodup) (lk : LamK G X k params body scope B)
    (tk : Takes ((dX X.prog X.w X.K X.mg X.base Ng qg sg g cdg X.A X.stack s H Eg).tr pn xe) W) (hr : Room (k + 1) (X.A.deeper (envOfC qg sg s.heap.objs.size g cdg)))
    (hN : Ng[i]? = some a) (hv : Vis sg a) (hd : (a == ("__debug__" : Str)) = false := by decide) (hcd : (a == ("__classdict__" : Str)) = false := by decide) :
    PE ((dX X.prog X.w X.K X.mg X.base Ng qg sg g cdg X.A X.stack s H Eg).tr pn xe) (.Call (.Name a p1) [] [] p2)
      (fun σZ HZ Q => σZ[i]? = some (some (.ref f)) ∧ HZ f = some (.ext ((lamD X params body scope).obj f c')) ∧ HZ c' = some (CodeO c' (X.env.qual ++ "<lambda>")) ∧ ∃ ι' h', ι <+: ι' ∧ TL G.K H HZ ∧ RH G ι' h' HZ ∧ PR G (fun c d H' => W c d σZ H') ι' HZ Q (B e h')) := by
  refine ⟨fun pinsZ sZ σZ HZ Q IZ hq => ?_⟩
  obtain ⟨hs, hf, hc, ι', h', pre, tl, rh, pr⟩ := hq
  refine wpAny_Call_Name_kw (thn ((L2.pe_var (pos := p1) (i := i) hN hv hd hcd).run pinsZ sZ σZ HZ (fun v H1 => v = .ref f ∧ H1 = HZ) IZ ⟨.ref f, hs, rfl, rfl⟩) fun u s1 ⟨v, H1, I1, r1, ev, eH⟩ => ?_)
  subst ev
  rw [eH] at I1
  obtain rfl : u = Value.ref f := r1
  obtain ⟨⟨pm, ctv, of1⟩, _, _⟩ := I1.hok f _ hf
  refine PySem.W.callWith_F0 ⟨_, _, _, _, of1⟩ ?_
  have un : Un (frs X.stack) [] H HZ s.heap s1.heap := I1.base
  obtain ⟨⟨oc, vs, t, hoc, hdc, hvc⟩, _, _⟩ := I1.hok c' _ hc
  have rc : codeAny (model X.prog X.w) (X.A.deeper (envOfC qg sg s.heap.objs.size g cdg)) (.call (.ref f) ⟨[], []⟩) (CR (L2.CX X.prog X.w) (envOfC qg sg s.heap.objs.size g cdg :: X.stack) X.prog X.w HZ s1 Q (WE W σZ)) s1 := by
    refine PySem.W.kla_callFunE hr.depth of1 rfl lk.ls.co lk.ls.gen rfl ⟨c', oc, vs, t, rfl, hoc, hdc, hvc⟩ ?_
    rw [lk.bind]
    refine wpAny_pure (wpAny_newFunctionEnv (fun y hy => (lk.ls.own y hy).2) (fun y hy => absurd hy (by simp)) (fun h₁ hns hsb => ⟨I1.nolimit.fresh _ hsb, ?_⟩) lk.ls.kind)
    show codeAny _ _ (.expr body (lamEnv X scope s1.heap.objs.size f c')) _ _
    have kp : ∀ b o, s1.heap.get? b = some o → h₁.get? b = some o := fun b o e => hsb.extBut b o (Nat.ne_of_lt (Heap.lt_size e)) (Heap.get?_push_of_some _ e)
    have J : Inv (lamCx X (X.A.deeper (envOfC qg sg s.heap.objs.size g cdg)) (envOfC qg sg s.heap.objs.size g cdg :: X.stack) s1 HZ (WE W σZ) scope f c') [] σ HZ { s1 with heap := h₁, toks := s1.toks + ([] : List (Str × Value)).length } :=
      lam_start2 I lk.ls I1.env0 hr.hd un hns kp
    have hbody := lk.body (X.A.deeper (envOfC qg sg s.heap.objs.size g cdg)) (envOfC qg sg s.heap.objs.size g cdg :: X.stack) s1 HZ (WE W σZ) f c' (canL hK nd (hr.deeper _))
    refine PySem.W.kla_codeExpr (wpAny_mono (hbody.run [] _ _ HZ Q J ⟨ι', e, h', en.mono pre tl, rh, pr⟩) (fun v s' hq => ?_) fun e s' hq => hq)
    obtain ⟨w', H', J', rv, q⟩ := hq
    exact ⟨w', H', J'.os, J'.bare, J'.base, J'.hok, rv, q⟩
  refine wpAny_call (codeAny_mono rc fun r s' hq => ?_)
  cases r with
  | error e => exact passAt tk σZ pinsZ HZ s1 e s' I1 hq
  | ok fl =>
    cases fl with
    | ret u => exact I1.after hq
    | next => exact False.elim hq
    | brk => exact False.elim hq
    | cont => exact False.elim hq
/-- the answers to «is c a kind of d» -/
def IsaOk (G : Gx) (isa : String → String → Option Bool) : Prop := ∀ c d b, isa c d = some b → PySem.W.exmOne G.K (.ref (He.ga G.K (Str.ofString c))) (.ref (He.ga G.K (Str.ofString d))) = some b
/-- an exception caught: its answer -/
def tell1 (isa : String → String → Option Bool) (d : String) (ret : List Nat) (r : Res IV) : Res IV := match r with
  | .ok x h => .ok x h
  | .exc c h => match isa c d with
    | some true => .ok (.str ret) h
    | some false => .exc c h
    | none => .bad
  | .bad => .bad
/-- the def that tells: try: return a() / except d: return ret -/
structure Told (G : Gx) (mg : Str → Option Value) (x a : Str) (d : String) (ret : List Nat) (Ng : List Str) (sg : Scope) (g : Addr) : Prop where
  ex : ∃ (fd : FuncData) (params : Arguments) (e rs : Str) (j : Nat) (p1 p2 p3 p4 p5 p6 p7 p8 : Pos), FunD G.K x x params [.Try [.Return (some (.Call (.Name a p1) [] [] p2)) p3] [.ExceptHandler (some (.Name e p4)) none [.Return (some (.Constant (.str rs) j p5)) p6] p7] [] [] p8] sg [] [] g fd ∧
    rs = sS ret ∧ sg.names.lookup e = some .globalImplicit ∧ mg e = some (.ref (He.ga G.K (Str.ofString d))) ∧ (e == ("__debug__" : Str)) = false ∧
    (∀ (kV doc pm : Value) (an : Option Addr) (cdv ct : Value) (us : List Value), us.length = [a].length → bindArgs (PySem.W.fnOf x x params [.Try [.Return (some (.Call (.Name a p1) [] [] p2)) p3] [.ExceptHandler (some (.Name e p4)) none [.Return (some (.Constant (.str rs) j p5)) p6] p7] [] [] p8] sg .none kV doc pm an cdv ct) ⟨us, []⟩ = pure ([a].zip us))
  sc : FnScope Ng [a] sg
  vis : Vis sg a
  da : (a == ("__debug__" : Str)) = false
  dc : (a == ("__classdict__" : Str)) = false
theorem told_run {W : WX} {x a : Str} {d : String} {ret : List Nat} {Ng : List Str} {sg : Scope} {g f c' : Addr} {isa : String → String → Option Bool} {Q : VK} (I : Inv X pins σ H s) (en : REn G.K ι H e σ) (hK : X.K = G.K) (nd : X.N.Nodup) (hr : Room (k + 2) X.A) (lk : LamK G X k params body scope B) (T : Told G X.mg x a d ret Ng sg g) (io : IsaOk G isa)
    (rh : RH G ι h H) (hf : H f = some (.ext ((lamD X params body scope).obj f c'))) (hc : H c' = some (CodeO c' (X.env.qual ++ "<lambda>"))) (q : PR G (fun c d H' => W c d σ H') ι H Q (tell1 isa d ret (B e h))) :
    codeAny (model X.prog X.w) X.A (.call (.ref g) ⟨[.ref f], []⟩) (CR (L2.CX X.prog X.w) X.stack X.prog X.w H s Q (WE W σ)) s := by
  obtain ⟨fd, pg, ex, rs, j, p1, p2, p3, p4, p5, p6, p7, p8, F, hrs, he, hm, hde, hbn⟩ := T.ex
  have hb := FunD.bindsN F hbn
  obtain ⟨oc, od, dV, kV, doc, pm, an, cdv, ct, osl, rfl, lkk, hcd, _, _⟩ := F.ex
  have hNg : Ng[0]? = some a := by
    have := T.sc.pre
    cases Ng with
    | nil => simp at this
    | cons y r => simp at this; rw [this]; rfl
  rw [← hK] at lkk hcd hb
  refine run_ofS (N := Ng) (ps := [a]) (us := [.ref f]) (vs := [.ref f]) lkk hcd T.sc hr I.env0 (hb s [.ref f] I.kIn rfl) (.cons rfl .nil) rfl fun hr' => ?_
  have tkZ : Takes (dX X.prog X.w X.K X.mg X.base Ng x sg g cdv X.A X.stack s H (WE W σ)) (dW (WE W σ)) := takes_of rfl rfl rfl rfl
  have hst : (L2.start Ng [V.ref f])[0]? = some (some (V.ref f)) := by unfold L2.start; simp
  refine ⟨_, pss_one (ps_try_only (X := dX X.prog X.w X.K X.mg X.base Ng x sg g cdv X.A X.stack s H (WE W σ)) (c := .ref (He.ga G.K (Str.ofString d))) (Wout := dW (WE W σ))
    (tb := fun W' D σZ HZ => σZ[0]? = some (some (.ref f)) ∧ HZ f = some (.ext ((lamD X params body scope).obj f c')) ∧ HZ c' = some (CodeO c' (X.env.qual ++ "<lambda>")) ∧ ∃ ι' h', ι <+: ι' ∧ TL G.K H HZ ∧ RH G ι' h' HZ ∧ PR G (fun c d H' => W' c d σZ H') ι' HZ D.rt (B e h'))
    rfl rfl ⟨he, hde, .inl hm⟩ tkZ (fun W' pn xe tk _ => ?_) (fun a oe cls d pn _ _ => pss_one (ps_ret pe_str))), ?_⟩
  · have pa := pe_act (p1 := p1) (p2 := p2) (i := 0) (f := f) (c' := c') I en hK nd lk tk hr' hNg T.vis T.da T.dc
    exact pss_one (ps_ret pa)
  · refine ⟨hst, hf, hc, ι, h, List.prefix_refl _, TL.refl _ _, rh, ?_⟩
    cases z : B e h with
    | ok v h1 => rw [z] at q; exact q
    | bad => rw [z] at q; exact q
    | exc cc h1 =>
      rw [z] at q
      simp only [tell1] at q
      cases zi : isa cc d with
      | none => rw [zi] at q; exact q.elim
      | some b =>
        rw [zi] at q
        have e1 := io cc d b zi
        rw [← hK] at e1
        intro ι1 H1 a1
        cases b with
        | true =>
          refine ⟨true, by rw [hK] at e1; rw [hK]; exact e1, fun _ a2 _ => ?_, (fun z => by cases z)⟩
          exact q ι1 H1 _ a1 (str_iff.mpr (by rw [hrs]))
        | false => exact ⟨false, by rw [hK] at e1; rw [hK]; exact e1, (fun z => by cases z), fun _ => q ι1 H1 a1⟩
end
end Sh

/-! Sh18: a comprehension in whose block lambdas of the def around are told. -/
namespace Sh
open PySem PySem.Spec PyProof.Rows L2 LamX
/-- from (ι0, H0) on -/
def Gx.at (G : Gx) (ι0 : List Addr) (H0 : Hp) : Gx := { G with Z := some (ι0, H0) }
section
variable {G : Gx} {ι ι0 : List Addr} {h : IH} {H H0 : Hp}
theorem RH.to (r : RH G ι h H) (p : ι0 <+: ι) (t : TL G.K H0 H) : RH (G.at ι0 H0) ι h H := ⟨r.len, r.nd, r.ob, r.tb, fun z hz => by cases hz; exact ⟨p, t⟩⟩
theorem RH.frm (r : RH (G.at ι0 H0) ι h H) (zb : ∀ p, G.Z = some p → p.1 <+: ι0 ∧ TL G.K p.2 H0) : RH G ι h H := ⟨r.len, r.nd, r.ob, r.tb, fun p hp => ⟨(zb p hp).1.trans (r.zb _ rfl).1, (zb p hp).2.trans (r.zb _ rfl).2⟩⟩
theorem PR.via {G' : Gx} {W : Value → Option Addr → Hp → Prop} {Q : VK} {r : Res IV} (p : PR G W ι H Q r) (k : ∀ {ι1 ι' : List Addr} {h' : IH} {H1 H' : Hp}, Aft G' ι1 H1 ι' h' H' → Aft G ι1 H1 ι' h' H') (hK : G'.K = G.K := by rfl) : PR G' W ι H Q r := by
  cases r with
  | ok x h' => exact fun ι' H' v a rv => p ι' H' v (k a) (hK ▸ rv)
  | exc c h' => exact fun ι' H' a => by rw [hK]; exact p ι' H' (k a)
  | bad => exact p
theorem SrOk.via {S : Sr} {J : It} (so : SrOk G ι0 H0 S J) {ι1 : List Addr} {H1 : Hp} (k : ∀ {ι' : List Addr} {h' : IH} {H' : Hp}, RH (G.at ι1 H1) ι' h' H' → RH G ι' h' H') : SrOk (G.at ι1 H1) ι0 H0 S J := by
  intro i ι h H rh hι tl
  have q := so i ι h H (k rh) hι tl
  cases z : S.nx i h with
  | stop => rw [z] at q; exact q
  | bad => trivial
  | it x =>
    rw [z] at q
    refine ⟨q.1, fun v H' hy => ?_⟩
    obtain ⟨ι', a, r⟩ := q.2 v H' hy
    exact ⟨ι', ⟨a.pre, a.tl, a.rh.to ((rh.zb _ rfl).1.trans a.pre) ((rh.zb _ rfl).2.trans a.tl)⟩, r⟩
end
@[simp] def mLcZ (it : MI) (vs : List Nat) (g : MG) (t f : IE → ME) : ME := fun e h => match it e h with
  | .ok S h1 => lcL S g (t e) (f e) h1.length (S.n + 1) 0 (wipeI e vs) (h1 ++ [.lst []])
  | .exc c h1 => .exc c h1
  | .bad => .bad
/-- a block's parts; told of the def around: its state where the block began -/
def SBz (G : Gx) (X : Cx) (k : Nat) (scope : Scope) (tg : Expr) (ifs : List Expr) (elt : Expr) (g : MG) (t f : IE → ME) : Prop :=
  ∀ (e0 : IE) (ι0 : List Addr) (pins : List (Addr × Obj)) (σ : L2.St) (s : Shared) (H : Hp) (cl : List (Str × Addr)) (D : Addr) (fp : List Addr), Inv X pins σ H s → REn G.K ι0 H e0 σ → (∀ b ∈ fp, FpOk X pins H b) → ∀ (xe : Value → Shared → Prop) (W' : WX),
    Can (G.at ι0 H) (blkX X s H scope (compEnvC scope cl D X.env) fp xe) W' k →
      SG (G.at ι0 H) (blkX X s H scope (compEnvC scope cl D X.env) fp xe) W' tg g ∧ SQ (G.at ι0 H) (blkX X s H scope (compEnvC scope cl D X.env) fp xe) W' ifs (t e0) ∧ SE (G.at ι0 H) (blkX X s H scope (compEnvC scope cl D X.env) fp xe) W' elt (f e0)
section
variable {G : Gx} {X : Cx} {W : WX} {pins : List (Addr × Obj)} {σ : L2.St} {H : Hp} {s : Shared}
theorem lcZ_core {k : Nat} {elt tg iter : Expr} {ifs : List Expr} {scope : Scope} {own : List (Str × Nat)} {pos pos' : Pos} {it : MI} {g : MG} {t f : IE → ME} {use : Option (Value → Sem Unit)} {Q : VK} {Qf : Value → Shared → Prop}
    (C : Can G X W k) (I : Inv X pins σ H s) (hi : SI G X W tg iter it) (ok : BlkOk X.N X.env.scope scope own)
    (hb : SBz G X k scope tg ifs elt g t f)
    (hs : ∀ x, foldedSetIterable iter X.env x = pure x)
    (h : TI G W (mLcZ it (own.map (·.2)) g t f) σ H Q)
    (hRR : ∀ D ce s' m H', Inv X pins σ H' s' → Q (.ref D) H' → s'.heap.Ns ce.locals m → FpOk X pins H' ce.locals → compEnds (model X.prog X.w) X.A X.xe use Qf (.ref D) ce (.ok .next) s') :
    wpAny (model X.prog X.w) X.A (comprehension (.ListComp elt [⟨tg, iter, ifs, 0⟩] scope pos) scope X.env pos' (newList []) false (eval iter X.env) use) Qf X.xe s := by
  obtain ⟨L, tp, tf⟩ := C.tf
  have hfree : ∀ y ∈ scope.names, y.2 = .free → ∃ c, X.env.cells.lookup y.1 = some c := fun y hy e => by
    rcases ok.free y hy e with k | k
    · exact I.ok.has _ (.inl k)
    · exact I.ok.has _ (.inr k)
  obtain ⟨ι, e, h0, en, rh, hq⟩ := h
  have hT : TII G W it σ H fun J H1 => ∃ S ι1 h1, Aft G ι H ι1 h1 H1 ∧ SrOk G ι1 H1 S J ∧ PR G (fun c d H' => W c d σ H') ι1 H1 Q (lcL S g (t e) (f e) h1.length (S.n + 1) 0 (wipeI e (own.map (·.2))) (h1 ++ [.lst []])) := by
    refine ⟨ι, e, h0, en, rh, ?_⟩
    simp only [mLcZ] at hq
    cases z : it e h0 with
    | bad => rw [z] at hq; exact hq
    | exc c h1 => rw [z] at hq; exact hq
    | ok S h1 =>
      rw [z] at hq
      exact fun ι1 H1 J a so => ⟨S, ι1, h1, a, so, PR.after a hq⟩
  refine comprehension_at (use := use) rfl hs (closure_ok hfree) ok.kind (fun y hy e => by rw [ok.uniq y hy, e])
    (thn (hi.run pins s σ H _ I hT) fun xv s1 hx => thn hx fun itv s2 h2 => ?_)
  obtain ⟨itA, fp, tn, J, H2, e2, I2, T, st2, f2, S, ι2, hh2, af2, so, q⟩ := h2
  subst e2
  refine wpAny_newObj_type (newEnv_comp ?_) (by show 0 ≤ sizeLine; decide)
  generalize hD : s2.heap.objs.size = D
  have hDn : H2 D = none := I2.hok.fresh (Nat.le_of_eq hD)
  generalize hs3 : ({ s2 with heap := s2.heap.push { cls := .type "list", data := .seq ([] : List Value).toArray } } : Shared) = s3
  have I3 : Inv X pins σ (upd H2 D (.lst [])) s3 := by
    rw [← hs3]
    refine I2.laid (t' := s2.toks) (fun b o e => Heap.get?_push_of_some _ e) (Nat.le_of_eq hD) ⟨Nat.zero_le _, [], 0, .nil, ?_⟩
    rw [← hD]
    exact Heap.get?_push_size _ rfl
  have h3 : s3.heap = s2.heap.push { cls := .type "list", data := .seq ([] : List Value).toArray } := by rw [← hs3]
  have af3 : Aft G ι2 H2 (ι2 ++ [D]) (hh2 ++ [.lst []]) (upd H2 D (.lst [])) := new_lst af2.rh hDn RVs.nil
  have so3 : SrOk G (ι2 ++ [D]) (upd H2 D (.lst [])) S J := fun i ι' h' H' r p tl => so i ι' h' H' r (af3.pre.trans p) (af3.tl.trans tl)
  have q3 := PR.after af3 q
  have lenD : ι2.length = hh2.length := af2.rh.len
  have dD : (ι2 ++ [D])[hh2.length]? = some D := by rw [← lenD]; simp
  have sz : ∀ b ∈ fp, b < s2.heap.objs.size := fun b hb => by
    obtain ⟨o, e, _⟩ := T.obj _ _ st2 b hb
    exact Heap.lt_size e
  have f3 : ∀ b ∈ fp, FpOk X pins (upd H2 D (.lst [])) b ∧ b < s3.heap.objs.size := fun b hb => by
    have hlt := sz b hb
    refine ⟨⟨?_, (f2 b hb).2⟩, by rw [h3, Heap.size_push]; exact Nat.lt_succ_of_lt hlt⟩
    rw [upd_ne (by rw [← hD]; exact Nat.ne_of_lt hlt)]
    exact (f2 b hb).1
  have st3 : tn 0 s3.heap := T.keep _ _ _ st2 fun b _ o e => by rw [h3]; exact Heap.get?_push_of_some _ e
  have I4 := block_start I3 ok C.nd f3
  have zb3 := fun z hz => (af3.rh).zb z hz
  have gfrom : ∀ {ι' : List Addr} {h' : IH} {H' : Hp}, RH (G.at (ι2 ++ [D]) (upd H2 D (.lst []))) ι' h' H' → RH G ι' h' H' := fun r => r.frm zb3
  have afF : ∀ {ι1 ι' : List Addr} {h' : IH} {H1 H' : Hp}, Aft (G.at (ι2 ++ [D]) (upd H2 D (.lst []))) ι1 H1 ι' h' H' → Aft G ι1 H1 ι' h' H' := fun r => ⟨r.pre, r.tl, gfrom r.rh⟩
  have q3 : PR (G.at (ι2 ++ [D]) (upd H2 D (.lst []))) (fun c d H' => W c d σ H') (ι2 ++ [D]) (upd H2 D (.lst [])) Q _ := q3.via afF
  have rh3 : RH (G.at (ι2 ++ [D]) (upd H2 D (.lst []))) (ι2 ++ [D]) (hh2 ++ [.lst []]) (upd H2 D (.lst [])) := af3.rh.to (List.prefix_refl _) (TL.refl _ _)
  have so3 : SrOk (G.at (ι2 ++ [D]) (upd H2 D (.lst []))) (ι2 ++ [D]) (upd H2 D (.lst [])) S J := so3.via fun r => gfrom r
  have enX : REn G.K (ι2 ++ [D]) (upd H2 D (.lst [])) e σ := (en.mono af2.pre af2.tl).mono af3.pre af3.tl
  have body := hb e (ι2 ++ [D]) pins σ s3 (upd H2 D (.lst [])) (cellsFrom (s3.heap.objs.size + 1) scope.names (cloFrom X.env.cells scope.names [])) s3.heap.objs.size fp I3 enX (fun b hb => (f3 b hb).1)
  show codeAny _ _ (.compStart (.ListComp elt [⟨tg, iter, ifs, 0⟩] scope pos) 0 (.ref itA) (.ref D) (compEnvC scope (cellsFrom (s3.heap.objs.size + 1) scope.names (cloFrom X.env.cells scope.names [])) s3.heap.objs.size X.env)) (compEnds (model X.prog X.w) X.A X.xe use Qf (.ref D) (compEnvC scope (cellsFrom (s3.heap.objs.size + 1) scope.names (cloFrom X.env.cells scope.names [])) s3.heap.objs.size X.env)) { s3 with heap := pushCells (s3.heap.push { cls := .type "dict", data := .dict #[] }) scope.names }
  have nfp : ∀ b ∈ fp, (upd H2 D (.lst [])) b = none := fun b hb => (f3 b hb).1.1
  have cL : (compEnvC scope (cellsFrom (s3.heap.objs.size + 1) scope.names (cloFrom X.env.cells scope.names [])) s3.heap.objs.size X.env).locals = s3.heap.objs.size := rfl
  have cF : (compEnvC scope (cellsFrom (s3.heap.objs.size + 1) scope.names (cloFrom X.env.cells scope.names [])) s3.heap.objs.size X.env).frame = X.env.frame := rfl
  generalize compEnvC scope (cellsFrom (s3.heap.objs.size + 1) scope.names (cloFrom X.env.cells scope.names [])) s3.heap.objs.size X.env = ce at I4 body cL cF ⊢
  generalize hH3 : upd H2 D (.lst []) = H3 at I3 I4 af3 so3 q3 body nfp f3 enX rh3
  -- the block's exceptions
  generalize hxe : notedBy (model X.prog X.w) X.A ce (CompFails (model X.prog X.w) X.A X.xe ce) = xe
  have C2 : Can (G.at (ι2 ++ [D]) H3) (blkX X s3 H3 scope ce fp xe) (bW W σ) k := by
    refine ⟨⟨L, ⟨tp.1, cF.trans tp.2⟩, fun u s' x => ?_⟩, C.room, C.calm, C.nd, C.hK⟩
    rw [← hxe] at x
    have := blk_out tp tf I3 (fun b hb => (f3 b hb).1) cL cF u s' x
    rw [hxe] at this
    exact this
  obtain ⟨pg, pt, pe⟩ := body xe (bW W σ) C2
  have I4 : Inv (blkX X s3 H3 scope ce fp xe) [] (L2.wipe σ (own.map (·.2))) H3 _ := I4.wish xe
  generalize hs4 : ({ s3 with heap := pushCells (s3.heap.push { cls := .type "dict", data := .dict #[] }) scope.names } : Shared) = s4 at I4 ⊢
  have st4 : tn 0 s4.heap := T.keep _ _ _ st3 fun b _ o e => by rw [← hs4]; exact pushCells_keeps _ _ _ _ (Heap.get?_push_of_some _ e)
  have stat : ∀ {σ' : L2.St} {H' : Hp} {s' : Shared}, Inv (blkX X s3 H3 scope ce fp xe) [] σ' H' s' → (∀ b ∈ fp, H' b = none) → ∀ b ∈ fp, FpOk (blkX X s3 H3 scope ce fp xe) [] H' b := fun {σ' H' s'} I' hn b hb =>
    ⟨hn b hb, (I'.ok.exf b hb).1, I'.ok.exfs b hb, .inl hb, fun x c e => (I'.ok.exf b hb).2 x c e, fun p hp => absurd (show p ∈ ([] : List (Addr × Obj)) ++ [] from hp) (by simp)⟩
  have en3 : REn G.K (ι2 ++ [D]) H3 (wipeI e (own.map (·.2))) (L2.wipe σ (own.map (·.2))) := by
    exact enX.wipe _
  have loop : codeAny (model X.prog X.w) X.A (.compLoop (.ListComp elt [⟨tg, iter, ifs, 0⟩] scope pos) 0 (.ref itA) (.ref D) ce) (compEnds (model X.prog X.w) X.A X.xe use Qf (.ref D) ce) s4 := by
    refine compLoop_any (fun n s' => ∃ i H' σ' ι' e' h', Inv (blkX X s3 H3 scope ce fp xe) [] σ' H' s' ∧ tn i s'.heap ∧ (∀ b ∈ fp, H' b = none) ∧ REn G.K ι' H' e' σ' ∧ RH (G.at (ι2 ++ [D]) H3) ι' h' H' ∧ (ι2 ++ [D]) <+: ι' ∧ TL G.K H3 H' ∧ PR (G.at (ι2 ++ [D]) H3) (fun c d H' => W c d σ H') ι' H' Q (lcL S g (t e) (f e) hh2.length n i e' h'))
      ?_ (S.n + 1) ⟨0, H3, _, ι2 ++ [D], _, _, I4, st4, nfp, en3, rh3, List.prefix_refl _, TL.refl _ _, q3⟩
    rintro n s5 ⟨i, H5, σ5, ι5, e5, h5, I5, st5, n5, en5, rh5, pre5, tl5, q5⟩
    rw [show notedBy (model X.prog X.w) X.A ce (fun e s' => compEnds (model X.prog X.w) X.A X.xe use Qf (.ref D) ce (.error e) s') = xe from hxe]
    cases n with
    | zero => exact q5.elim
    | succ n =>
      simp only [lcL] at q5
      have so5 := so3 i ι5 h5 H5 rh5 pre5 tl5
      cases zn : S.nx i h5 with
      | bad => rw [zn] at q5; exact q5.elim
      | stop =>
        rw [zn] at q5 so5
        have td := T.done (blkX X s3 H3 scope ce fp xe) rfl rfl rfl C.calm i [] s5 σ5 H5 xe I5 (stat I5 n5) st5 so5
        refine thn td fun r s6 ⟨hr, I6⟩ => ?_
        subst hr
        have I7 : Inv X pins σ H5 s6 := I3.call' (ch := fp) I6.os I6.base I6.hok I6.bare fun b hb => ⟨(f3 b hb).1.2.2.2.1, (f3 b hb).1.2.1, (f3 b hb).1.2.2.2.2.1, (f3 b hb).1.2.2.2.2.2⟩
        have nC : H5 s3.heap.objs.size = none := by
          have z : H5 ce.locals = none := I6.free
          rw [cL] at z
          exact z
        obtain ⟨m, hn, _⟩ := I6.loc
        have hn : s6.heap.Ns ce.locals m := hn
        refine hRR D ce s6 m H5 I7 (q5 ι5 H5 _ (Aft.refl rh5) (ref_iff.mpr ⟨D, pre_get pre5 dD, rfl⟩)) hn ?_
        rw [cL]
        exact I3.fpOk (Nat.le_refl _) nC
      | it x =>
        rw [zn] at q5 so5
        simp only at q5 so5
        obtain ⟨go, yl⟩ := so5
        have ti := T.item (blkX X s3 H3 scope ce fp xe) rfl rfl rfl C.calm i [] s5 σ5 H5 xe I5 (stat I5 n5) st5 go
        refine thn ti fun r s6 ⟨u, hr, h6⟩ => ?_
        subst hr
        refine thn h6 fun _ s7 ⟨xv, H7, I7, r7, y7, st7, n7⟩ => ?_
        obtain ⟨ι7, a7, rx⟩ := yl xv H7 y7
        have I7' := I7.pinned (stat I7 n7) (T.obj _ _ st7)
        -- a turn's end
        have fin : ∀ {s' : Shared} {H' : Hp} {σ' : L2.St}, Inv (blkX X s3 H3 scope ce fp xe) ([] ++ pinsAt fp s7.heap) σ' H' s' → Inv (blkX X s3 H3 scope ce fp xe) [] σ' H' s' ∧ tn (i + 1) s'.heap ∧ ∀ b ∈ fp, H' b = none := fun {s' H' σ'} I' => by
          have pin' : ∀ b ∈ fp, ∀ o, s7.heap.get? b = some o → s'.heap.get? b = some o ∧ H' b = none := fun b hb o e =>
            let z := I'.pin (b, o) (List.mem_append_right _ (List.mem_append_right _ (mem_pinsAt hb e)))
            ⟨z.1, z.2.1⟩
          refine ⟨I'.unpinned (pins := []), T.keep _ _ _ st7 fun b hb o e => (pin' b hb o e).1, fun b hb => ?_⟩
          obtain ⟨o, e, _⟩ := T.obj _ _ st7 b hb
          exact (pin' b hb o e).2
        have q7 := PR.after a7 q5
        have hg7 : TGI (G.at (ι2 ++ [D]) H3) (bW W σ) g xv σ5 H7 fun σ8 H8 => ∃ ι8 e8 h8, REn G.K ι8 H8 e8 σ8 ∧ Aft (G.at (ι2 ++ [D]) H3) ι7 H7 ι8 h8 H8 ∧ PR (G.at (ι2 ++ [D]) H3) (fun c d H' => W c d σ H') ι8 H8 Q (match t e e8 h8 with
          | .ok (.bl true) h2 => (f e e8 h2).bind fun y h3 => match h3[hh2.length]? with
            | some (.lst acc) => if acc.length < sizeLine then lcL S g (t e) (f e) hh2.length n (i + 1) e8 (h3.set hh2.length (.lst (acc ++ [y]))) else .bad
            | _ => .bad
          | .ok (.bl false) h2 => lcL S g (t e) (f e) hh2.length n (i + 1) e8 h2
          | .exc c h2 => .exc c h2
          | _ => .bad) := by
          refine ⟨ι7, e5, h5, x, en5.mono a7.pre a7.tl, a7.rh, rx, ?_⟩
          cases zg : g x e5 h5 with
          | nx e8 h8 =>
            rw [zg] at q7
            exact fun ι8 σ8 H8 a8 en8 => ⟨ι8, e8, h8, en8, a8, PR.after a8 q7⟩
          | _ => rw [zg] at q7; exact q7.elim
        refine thn (pg.run _ s7 σ5 H7 xv u _ I7' r7 hg7) fun _ s8 ⟨σ8, H8, I8, ι8, e8, h8, en8, a8, q8⟩ => ?_
        have ht8 : TB (G.at (ι2 ++ [D]) H3) (bW W σ) (t e) σ8 H8 fun b H9 => ∃ ι9 h9, REn G.K ι9 H9 e8 σ8 ∧ Aft (G.at (ι2 ++ [D]) H3) ι8 H8 ι9 h9 H9 ∧ PR (G.at (ι2 ++ [D]) H3) (fun c d H' => W c d σ H') ι9 H9 Q (if b = true then (f e e8 h9).bind fun y h3 => match h3[hh2.length]? with
            | some (.lst acc) => if acc.length < sizeLine then lcL S g (t e) (f e) hh2.length n (i + 1) e8 (h3.set hh2.length (.lst (acc ++ [y]))) else .bad
            | _ => .bad else lcL S g (t e) (f e) hh2.length n (i + 1) e8 h9) := by
          refine ⟨ι8, e8, h8, en8, a8.rh, ?_⟩
          cases zt : t e e8 h8 with
          | bad => rw [zt] at q8; exact q8
          | exc c h9 => rw [zt] at q8; exact q8
          | ok b h9 =>
            rw [zt] at q8
            cases b <;> try exact q8
            rename_i b
            cases b with
            | true => exact fun ι9 H9 a9 => ⟨ι9, h9, en8.mono a9.pre a9.tl, a9, by rw [if_pos rfl]; exact PR.after a9 q8⟩
            | false => exact fun ι9 H9 a9 => ⟨ι9, h9, en8.mono a9.pre a9.tl, a9, by rw [if_neg Bool.false_ne_true]; exact PR.after a9 q8⟩
        refine thn (pt.run _ s8 σ8 H8 _ I8 ht8) fun b s9 ⟨H9, I9, ι9, h9, en9, a9, q9⟩ => ?_
        have pre9 : (ι2 ++ [D]) <+: ι9 := pre5.trans (a7.pre.trans (a8.pre.trans a9.pre))
        have tl9 : TL G.K H3 H9 := tl5.trans (a7.tl.trans (a8.tl.trans a9.tl))
        cases b with
        | false =>
          rw [if_neg Bool.false_ne_true] at q9
          simp only [Bool.false_eq_true, if_false]
          obtain ⟨J9, t9, n9⟩ := fin I9
          exact ⟨n, Nat.lt_succ_self n, i + 1, H9, σ8, ι9, e8, h9, J9, t9, n9, en9, a9.rh, pre9, tl9, q9⟩
        | true =>
          rw [if_pos rfl] at q9
          simp only [if_true]
          have he9 : TI (G.at (ι2 ++ [D]) H3) (bW W σ) (f e) σ8 H9 fun y H10 => ∃ ι10 h10 yi acc vs, Aft (G.at (ι2 ++ [D]) H3) ι9 H9 ι10 h10 H10 ∧ RV G.K ι10 H10 yi y ∧ h10[hh2.length]? = some (.lst acc) ∧ H10 D = some (.lst vs) ∧ RVs G.K ι10 H10 acc vs ∧ acc.length < sizeLine ∧ PR (G.at (ι2 ++ [D]) H3) (fun c d H' => W c d σ H') ι10 H10 Q (lcL S g (t e) (f e) hh2.length n (i + 1) e8 (h10.set hh2.length (.lst (acc ++ [yi])))) := by
            refine ⟨ι9, e8, h9, en9, a9.rh, ?_⟩
            cases zf : f e e8 h9 with
            | bad => rw [zf] at q9; exact q9
            | exc c h10 => rw [zf] at q9; exact q9
            | ok yi h10 =>
              rw [zf] at q9
              simp only [Res.bind] at q9
              intro ι10 H10 y a10 ry
              cases z0 : h10[hh2.length]? with
              | none => rw [z0] at q9; exact q9.elim
              | some o =>
                rw [z0] at q9
                cases o <;> try exact q9.elim
                rename_i acc
                simp only at q9
                by_cases hl : acc.length < sizeLine
                · rw [if_pos hl] at q9
                  obtain ⟨vs, hv, rs⟩ := a10.rh.at z0 (pre_get (pre9.trans a10.pre) dD)
                  exact ⟨ι10, h10, yi, acc, vs, a10, ry, z0, hv, rs, hl, PR.after a10 q9⟩
                · rw [if_neg hl] at q9; exact q9.elim
          refine thn (pe.run _ s9 σ8 H9 _ I9 he9) fun zv s10 ⟨yv, H10, I10, r10, ι10, h10, yi, acc, vs, a10, ry, z0, hv, rs, hl, q10⟩ => ?_
          refine app_ok (X := blkX X s3 H3 scope ce fp xe) I10 hv (by rw [← rs.len]; exact hl) r10 fun s11 I11 => ?_
          obtain ⟨J11, t11, n11⟩ := fin I11
          have a11 := set_lst a10.rh z0 (pre_get (pre9.trans a10.pre) dD) (RVs.app rs (RVs.one ry))
          exact ⟨n, Nat.lt_succ_self n, i + 1, _, σ8, ι10, e8, _, J11, t11, n11, (en9.mono a10.pre a10.tl).mono a11.pre a11.tl, a11.rh, pre9.trans a10.pre, tl9.trans (a10.tl.trans a11.tl), PR.after a11 q10⟩
  exact codeAny_compStart_list loop (T.self X.A 0 _ _ _ st4 loop)
end
end Sh

/-! Sh19: the calls that tell lambdas. -/
namespace Sh
open PySem PySem.Spec PyProof.Rows L2 LamX
section
variable {G : Gx} {X : Cx} {W : WX} {k : Nat} {elt tg iter : Expr} {ifs : List Expr} {scope : Scope} {own : List (Str × Nat)} {pos spos p lpos pf : Pos} {it : MI} {g : MG} {t f : IE → ME} {x a y : Str} {d : String} {ret : List Nat} {Ng : List Str} {sg : Scope} {gt c P : Addr} {nm : Nat → Nat → Str} {isa : String → String → Option Bool} {params : Arguments} {body : Expr} {B : ME} {j : Nat}
theorem se_lcZ (C : Can G X W k) (hi : SI G X W tg iter it) (ok : BlkOk X.N X.env.scope scope own) (hb : SBz G X k scope tg ifs elt g t f) (hs : ∀ x, foldedSetIterable iter X.env x = pure x := by intro _; rfl) :
    SE G X W (.ListComp elt [⟨tg, iter, ifs, 0⟩] scope pos) (mLcZ it (own.map (·.2)) g t f) := by
  refine ⟨fun pins s σ H Q I h => ?_⟩
  rw [eval_ListComp]
  refine lcZ_core C I hi ok hb hs h fun D ce s' m H' I' q hn fC => ⟨m, hn, fun h2 sb => ?_⟩
  obtain ⟨f0, f1, f2, f3, f4, f5⟩ := fC
  exact ⟨.ref D, H', I'.turned (t' := s'.toks) (fun b o hb e => (sb.2 b hb).trans e) f0 f1 f3 f4 f5, rfl, q⟩
/-- x(lambda: ..) -/
@[simp] def mTell (isa : String → String → Option Bool) (d : String) (ret : List Nat) (B : ME) : ME := fun e h => tell1 isa d ret (B e h)
theorem se_tell (C : Can G X W (k + 2)) (ct : CT G X c P nm) (hn : nm lpos.line lpos.col = X.env.qual ++ "<lambda>") (lk : LamK G X k params body scope B) (T : Told G X.mg x a d ret Ng sg gt) (io : IsaOk G isa) (hg : Gl X x) (hm : X.mg x = some (.ref gt)) (hdef : defaultsOf params X.env = ([], [])) (hdb : (x == ("__debug__" : Str)) = false := by decide) :
    SE G X W (.Call (.Name x p) [.Lambda params body scope lpos] [] pos) (mTell isa d ret B) := by
  refine ⟨fun pins s σ H Q I hq => ?_⟩
  obtain ⟨ι, e, h, en, rh, q⟩ := hq
  have hk : PySem.W.keepIn X.K (.ref gt) = true := by
    obtain ⟨fd, pg, ex, rs, j, p1, p2, p3, p4, p5, p6, p7, p8, F, _⟩ := T.ex
    rw [C.hK]; exact F.kp
  refine wpAny_Call_Name_kw (ld_glob I hg hm ?_ hdb)
  refine PySem.W.callWith_K (h₀ := X.base) I.ok.mod.kin hk ?_ (by rfl) (by rfl)
  show wpAny _ _ (spliced ((false, eval (.Lambda params body scope lpos) X.env) :: backTo pos (starEach [] X.env))) _ _ s
  refine Calls.spliced_cons (lam_new I rh ct hn hdef (lk.ls.has I.ok) fun f c' H1 H2 s' I2 a1 hf e2 hc => ?_)
  subst e2
  refine Calls.spliced_nil ⟨I2.kIn, ?_⟩
  have a2 := Aft.fresh a1.rh hf (.ext ((lamD X params body scope).obj f c'))
  have a12 := a1.trans a2
  refine wpAny_call (codeAny_mono (told_run (W := W) I2 (en.mono a12.pre a12.tl) C.hK C.nd C.room lk T io a2.rh upd_same ((upd_ne (ne_of_none hc hf)).trans hc) (PR.after a12 q)) fun r s2 hq2 => ?_)
  cases r with
  | error e => exact C.pass σ pins _ _ e s2 I2 hq2
  | ok fl =>
    cases fl with
    | ret u => exact I2.after hq2
    | next => exact False.elim hq2
    | brk => exact False.elim hq2
    | cont => exact False.elim hq2
/-- x(f), f one of the lambdas of the def around, in its comprehension -/
@[simp] def mTellV (isa : String → String → Option Bool) (d : String) (ret : List Nat) (Bs : List ME) (e0 : IE) (fa : ME) : ME := fun e h => (fa e h).bind fun x h1 => match x with
  | .ref n => match h1[n]? with
    | some (.lam j) => match Bs[j]? with
      | some B => tell1 isa d ret (B e0 h1)
      | none => .bad
    | _ => .bad
  | _ => .bad
theorem se_tellV {cl : List (Str × Addr)} {D : Addr} {fp : List Addr} {xe : Value → Shared → Prop} {pins0 : List (Addr × Obj)} {σ0 : L2.St} {e0 : IE} {ι0 : List Addr} {H0 : Hp} {s0 : Shared} {Bs : List ME} {fa : ME} {ea : Expr} {j : Nat} (I0 : Inv X pins0 σ0 H0 s0) (en0 : REn G.K ι0 H0 e0 σ0) (hfp : ∀ b ∈ fp, FpOk X pins0 H0 b)
    (C : Can (G.at ι0 H0) (blkX X s0 H0 scope (compEnvC scope cl D X.env) fp xe) W (k + 2)) (hN : X.N.Nodup)
    (hB : ∀ j B, Bs[j]? = some B → ∃ params body scope, G.L j = lamD X params body scope ∧ ∀ ι H, LamK (G.at ι H) X k params body scope B) (T : Told G X.mg x a d ret Ng sg gt) (io : IsaOk G isa)
    (ha : SE (G.at ι0 H0) (blkX X s0 H0 scope (compEnvC scope cl D X.env) fp xe) W ea fa)
    (hg : Gl (blkX X s0 H0 scope (compEnvC scope cl D X.env) fp xe) x) (hm : X.mg x = some (.ref gt)) (hdb : (x == ("__debug__" : Str)) = false := by decide)
    (he : starEach [ea] (compEnvC scope cl D X.env) = (false, eval ea (compEnvC scope cl D X.env)) :: starEach [] (compEnvC scope cl D X.env) := by rfl) (hpl : (backTo pos (starEach [] (compEnvC scope cl D X.env))).any (·.1) = false := by rfl) :
    SE (G.at ι0 H0) (blkX X s0 H0 scope (compEnvC scope cl D X.env) fp xe) W (.Call (.Name x p) [ea] [] pos) (mTellV isa d ret Bs e0 fa) := by
  refine ⟨fun pins s σ H Q I hq => ?_⟩
  have hK : X.K = G.K := C.hK
  have hk : PySem.W.keepIn X.K (.ref gt) = true := by
    obtain ⟨fd, pg, ex, rs, j, p1, p2, p3, p4, p5, p6, p7, p8, F, _⟩ := T.ex
    rw [hK]; exact F.kp
  refine wpAny_Call_Name_kw (ld_glob I hg hm ?_ hdb)
  obtain ⟨ι, e, h, en, rh, q⟩ := hq
  have hT := TI.bind (Wh := fun c d H' => W c d σ H') (R := fun v H1 => ∃ f c' ι1 h1 params body scope B, v = .ref f ∧ RH (G.at ι0 H0) ι1 h1 H1 ∧ H1 f = some (.ext ((lamD X params body scope).obj f c')) ∧ H1 c' = some (CodeO c' (X.env.qual ++ "<lambda>")) ∧ (∀ ι H, LamK (G.at ι H) X k params body scope B) ∧
      PR (G.at ι0 H0) (fun c d H' => W c d σ H') ι1 H1 Q (tell1 isa d ret (B e0 h1))) en rh q (fun xv v ι1 h1 H1 a1 en1 r1 q1 => ?_)
  · refine PySem.W.callWith_K (h₀ := X.base) I.ok.mod.kin hk ?_ he hpl
    rw [he]
    show wpAny _ _ (spliced ((false, eval ea (compEnvC scope cl D X.env)) :: backTo pos (starEach [] (compEnvC scope cl D X.env)))) _ _ s
    refine Calls.spliced_cons (thn (ha.run pins s σ H _ I hT) fun u s1 ⟨v, H1, I1, ru, f, c', ι1, h1, params, body, scope', B, ev, rh1, hf, hc, lk, pr⟩ => ?_)
    subst ev
    obtain rfl : u = Value.ref f := ru
    refine Calls.spliced_nil ⟨I1.kIn, ?_⟩
    -- the def around, as it stands now
    have IM : Inv X pins0 σ0 H1 s1 := I0.call' (ch := fp) I1.os I1.base I1.hok I1.bare fun b hb => ⟨(hfp b hb).2.2.2.1, (hfp b hb).2.1, (hfp b hb).2.2.2.2.1, (hfp b hb).2.2.2.2.2⟩
    have zb := rh1.zb _ rfl
    refine wpAny_call (codeAny_mono (told_run (X := X) (G := G.at ι0 H0) (W := fun c d _ H' => W c d σ H') (σ := σ0) (e := e0) IM (en0.mono zb.1 zb.2) hK hN C.room (lk _ _) (show Told (G.at ι0 H0) X.mg x a d ret Ng sg gt from ⟨T.ex, T.sc, T.vis, T.da, T.dc⟩) io rh1 hf hc pr) fun r s2 hq2 => ?_)
    cases r with
    | error e => exact C.pass σ pins _ _ e s2 I1 hq2
    | ok fl =>
      cases fl with
      | ret u => exact I1.after hq2
      | next => exact False.elim hq2
      | brk => exact False.elim hq2
      | cont => exact False.elim hq2
  · cases xv <;> try exact q1.elim
    rename_i n
    obtain ⟨f, iq, rfl⟩ := ref_iff.mp r1
    simp only at q1
    cases z0 : h1[n]? with
    | none => rw [z0] at q1; exact q1.elim
    | some o =>
      rw [z0] at q1
      cases o <;> try exact q1.elim
      rename_i j
      simp only at q1
      cases zB : Bs[j]? with
      | none => rw [zB] at q1; exact q1.elim
      | some B =>
        rw [zB] at q1
        obtain ⟨params, body, scope', hL, lk⟩ := hB j B zB
        obtain ⟨c', e1, e2⟩ := a1.rh.at z0 iq
        have hL' : (G.at ι0 H0).L j = lamD X params body scope' := hL
        rw [hL'] at e1 e2
        exact ⟨f, c', ι1, h1, params, body, scope', B, rfl, a1.rh, e1, e2, lk, q1⟩
end
end Sh

/-! Sh20: defs that keep lambdas; a law. -/
namespace Sh
open PySem PySem.Spec PyProof.Rows L2 LamX
def IO.isLam : IO → Bool
  | .lam _ => true
  | _ => false
def IO.un : IO → IO
  | .lam _ => .gone
  | o => o
def noLam (h : IH) : Bool := h.all fun o => !o.isLam
def unLam (h : IH) : IH := h.map IO.un
def Gx.lam (G : Gx) (L : Nat → LamD) : Gx := { G with L := L }
/-- a def that keeps lambdas -/
def fnK (N : List Str) (b : MS) : Fn := fun xs h => if noLam h = true then (match b (xs.map some ++ List.replicate (N.length - xs.length) none) h with
  | .rt v h => .ok v (unLam h)
  | .nx _ h => .ok .non (unLam h)
  | .ex c _ h => .exc c (unLam h)
  | _ => .bad) else .bad
section
variable {G : Gx} {L : Nat → LamD} {ι ι1 : List Addr} {h : IH} {H H1 : Hp}
theorem RO.unL {L L' : Nat → LamD} {lay : String → List Str} {a : Addr} {K : PySem.W.Frag} : ∀ {o : IO}, o.isLam = false → RO K L lay ι H a o → RO K L' lay ι H a o
  | .lst _, _, r => r
  | .dic false _, _, r => r
  | .dic true _, _, r => r
  | .dicL false _, _, r => r
  | .dicL true _, _, r => r
  | .ins _ _, _, r => r
  | .lam _, e, _ => by cases e
  | .gone, _, r => r
theorem RO.un {L L' : Nat → LamD} {lay : String → List Str} {a : Addr} {K : PySem.W.Frag} : ∀ {o : IO}, RO K L lay ι H a o → RO K L' lay ι H a o.un
  | .lst _, r => r
  | .dic false _, r => r
  | .dic true _, r => r
  | .dicL false _, r => r
  | .dicL true _, r => r
  | .ins _ _, r => r
  | .lam _, ⟨c, e, _⟩ => ⟨_, e⟩
  | .gone, r => r
theorem RH.lamTo (r : RH G ι h H) (n : noLam h = true) : RH (G.lam L) ι h H := by
  refine ⟨r.len, r.nd, fun m o e => ?_, r.tb, r.zb⟩
  obtain ⟨a, e1, q⟩ := r.ob m o e
  have z := List.all_eq_true.mp n o (List.mem_of_getElem? e)
  exact ⟨a, e1, RO.unL (by simpa using z) q⟩
theorem RH.lamFrom (r : RH (G.lam L) ι h H) : RH G ι (unLam h) H := by
  refine ⟨by unfold unLam; rw [List.length_map]; exact r.len, r.nd, fun m o e => ?_, r.tb, r.zb⟩
  unfold unLam at e
  rw [List.getElem?_map] at e
  cases z : h[m]? with
  | none => rw [z] at e; cases e
  | some o' =>
    rw [z] at e
    cases e
    obtain ⟨a, e1, q⟩ := r.ob m o' z
    exact ⟨a, e1, RO.un q⟩
theorem Aft.lamFrom (a : Aft (G.lam L) ι H ι1 h H1) : Aft G ι H ι1 (unLam h) H1 := ⟨a.pre, a.tl, a.rh.lamFrom⟩
end
section
variable {G : Gx} {P : Program} {w : World} {mg : Str → Option Value} {base : Heap} {x qual : Str} {params : Arguments} {body : List Stmt} {scope : Scope} {f : Addr} {fd : FuncData} {N ps : List Str} {k : Nat} {b : MS}
theorem kn_maker (LL : Cx → Nat → LamD) (F : FunD G.K x qual params body scope [] [] f fd) (S : FnScope N ps scope)
    (hbn : ∀ (kV doc pm : Value) (an : Option Addr) (cdv ct : Value) (us : List Value), us.length = ps.length → bindArgs (PySem.W.fnOf x qual params body scope .none kV doc pm an cdv ct) ⟨us, []⟩ = pure (ps.zip us)) {p : He.Defn} (hp : f = He.fAd G.K p)
    (hb : ∀ (cdv : Value) (A : Around) (outer : List Env) (s : Shared) (H : Hp) (E : XK) (G' : Gx), G' = G.lam (LL (dX P w G.K mg base N qual scope f cdv A outer s H E)) → cdv = .ref (He.codeOf G.K p) → CanS G' (dX P w G.K mg base N qual scope f cdv A outer s H E) (dW E) k → SB G' (dX P w G.K mg base N qual scope f cdv A outer s H E) (dW E) body b) :
    Kn G P w mg base (k + 1) f ps.length (fnK N b) := by
  refine ⟨⟨fd, ps, rfl, ?_, FunD.bindsN F hbn⟩, F.kp⟩
  obtain ⟨oc, od, dV, kV, doc, pm, an, cdv, ct, osl, rfl, lk, hcd, _, _⟩ := F.ex
  obtain ⟨c, ec⟩ := He.codeIn_ref hcd
  have lk' := lk
  rw [hp] at lk'
  have ecd : cdv = .ref (He.codeOf G.K p) := by
    rw [He.codeOf_eq lk' (c := c) (by subst ec; rfl)]
    exact ec
  refine fn_of lk hcd S (fun vs H Q E h => h.1) fun A outer s H vs Q E hr hsp => ⟨_, hb cdv A outer s H E _ rfl ecd (canS_cx (G := G.lam _) hr S.nd), ?_⟩
  obtain ⟨hl, ι, h, xs, rs, rh, q⟩ := hsp
  unfold fnK at q
  by_cases hn : noLam h = true
  · rw [if_pos hn] at q
    refine ⟨ι, _, h, REn.start N rs, rh.lamTo hn, ?_⟩
    cases z : b (xs.map some ++ List.replicate (N.length - xs.length) none) h with
    | nx e h' => rw [z] at q; exact fun ι' σ' H' a en => q ι' H' .non a.lamFrom (non_iff.mpr rfl)
    | rt v h' => rw [z] at q; exact fun ι' v' H' a r => q ι' H' v' a.lamFrom r
    | bk e h' => rw [z] at q; exact q.elim
    | ct e h' => rw [z] at q; exact q.elim
    | ex c e h' => rw [z] at q; exact fun ι' σ' H' a en => q ι' H' a.lamFrom
    | bad => rw [z] at q; exact q
  · rw [if_neg hn] at q; exact q.elim
/-- a law's promise -/
def spLaw (G : Gx) (n : Nat) : Sp := fun vs H Q _ => ∃ (a : Addr) (ns : List Int), vs = [.ref a] ∧ ns.length ≤ n ∧ (∀ z ∈ ns, Builtin.Int.intBits z ≤ 1048576) ∧ SqL G.K H a (ns.map V.int) ∧ NdefX.TabsN G.T H ∧ ∀ H', Q (.bl true) H'
theorem rvs_ints {K : PySem.W.Frag} {ι : List Addr} {H : Hp} : ∀ ns : List Int, RVs K ι H (ns.map IV.int) (ns.map V.int)
  | [] => RVs.nil
  | n :: ns => RVs.cons (int_iff.mpr rfl) (rvs_ints ns)
theorem REn.blank {K : PySem.W.Frag} {ι : List Addr} {H : Hp} : ∀ (σ : L2.St), REn K ι H (List.replicate σ.length Option.none) σ
  | [] => by unfold REn; rfl
  | v :: r => ⟨v, r, rfl, trivial, REn.blank r⟩
theorem law_fn {st1 st2 : Stmt} {b1 b2 : MS} {n : Nat} (F : FunD G.K x qual params [st1, st2] scope [] [] f fd) (S : FnScope N ["script"] scope) {p : He.Defn} (hp : f = He.fAd G.K p) (hZ : G.Z = none)
    (hb : ∀ (cdv : Value) (A : Around) (outer : List Env) (s : Shared) (H : Hp) (E : XK), cdv = .ref (He.codeOf G.K p) → CanS G (dX P w G.K mg base N qual scope f cdv A outer s H E) (dW E) k → SS G (dX P w G.K mg base N qual scope f cdv A outer s H E) (dW E) st1 b1 ∧ SS G (dX P w G.K mg base N qual scope f cdv A outer s H E) (dW E) st2 b2)
    (h1 : ∀ (ns : List Int) (x : IV) (h : IH), ns.length ≤ n → (∀ z ∈ ns, Builtin.Int.intBits z ≤ 1048576) → (x = .fz (ns.map .int) ∧ h = [] ∨ x = .ref 0 ∧ h = [.lst (ns.map .int)]) → ∃ e' h', b1 (some x :: List.replicate (N.length - 1) none) h = .nx e' h' ∧ e'.length = N.length)
    (h2 : ∃ h', b2 (List.replicate N.length none) [] = .rt (.bl true) h') : FnOk P w G.K mg base (L2.CX P w) (k + 1) f fd ["script"] (spLaw G n) := by
  obtain ⟨oc, od, dV, kV, doc, pm, an, cdv, ct, osl, rfl, lk, hcd, _, _⟩ := F.ex
  obtain ⟨c, ec⟩ := He.codeIn_ref hcd
  have lk' := lk
  rw [hp] at lk'
  have ecd : cdv = .ref (He.codeOf G.K p) := by
    rw [He.codeOf_eq lk' (c := c) (by subst ec; rfl)]
    exact ec
  refine fn_of lk hcd S (fun vs H Q E ⟨a, ns, e, _⟩ => by rw [e]; rfl) fun A outer s H vs Q E hr hsp => ?_
  obtain ⟨q1, q2⟩ := hb cdv A outer s H E ecd (canS_cx hr S.nd)
  refine ⟨_, pss_cons q1 (pss_one q2), ?_⟩
  obtain ⟨a, ns, rfl, hl, hbits, hS, hT, hQ⟩ := hsp
  have start : ∃ ι x h, RV G.K ι H x (.ref a) ∧ RH G ι h H ∧ (x = .fz (ns.map .int) ∧ h = [] ∨ x = .ref 0 ∧ h = [.lst (ns.map .int)]) := by
    have e0 : RH G [] [] H := ⟨rfl, List.nodup_nil, fun n o e => by simp at e, hT, fun p hp => by rw [hZ] at hp; cases hp⟩
    rcases hS with (hS | ⟨o, hS⟩) | hS
    · refine ⟨[a], .ref 0, [.lst (ns.map .int)], ref_iff.mpr ⟨a, rfl, rfl⟩, ⟨rfl, by simp, fun n o e => ?_, hT, fun p hp => by rw [hZ] at hp; cases hp⟩, .inr ⟨rfl, rfl⟩⟩
      cases n with
      | zero => cases e; exact ⟨a, rfl, _, hS, rvs_ints ns⟩
      | succ n => simp at e
    · exact ⟨[], _, [], fz_iff.mpr ⟨a, _, rfl, .inl ⟨o, hS⟩, rvs_ints ns⟩, e0, .inl ⟨rfl, rfl⟩⟩
    · exact ⟨[], _, [], fz_iff.mpr ⟨a, _, rfl, .inr fun H' => .inr hS, rvs_ints ns⟩, e0, .inl ⟨rfl, rfl⟩⟩
  obtain ⟨ι, xv, h, rx, rh, hx⟩ := start
  obtain ⟨e1, hh1, hb1, hle⟩ := h1 ns xv h hl hbits hx
  have en : REn G.K ι H (some xv :: List.replicate (N.length - 1) none) (L2.start N [V.ref a]) := REn.start N (RVs.one rx)
  refine ⟨ι, _, h, en, rh, ?_⟩
  rw [hb1]
  intro ι' σ' H' af en'
  obtain ⟨h', hb2⟩ := h2
  have hlen : σ'.length = N.length := by rw [← en'.len]; exact hle
  refine ⟨[], List.replicate N.length none, [], by rw [← hlen]; exact REn.blank σ', ⟨rfl, List.nodup_nil, fun n o e => by simp at e, af.rh.tb, fun p hp => by rw [hZ] at hp; cases hp⟩, ?_⟩
  rw [hb2]
  exact fun ι2 v H2 _ r => by rw [bl_iff.mp r]; exact hQ H2
end
end Sh

/-! Sh21: short names for the derivations. -/
namespace Sh
open PySem PySem.Spec PyProof.Rows L2
section
variable {G : Gx} {X : Cx} {W : WX} {a b c e o tg : Expr} {es rest : List Expr} {fa fb fc : ME} {fs : IE → M (List IV)} {p pos apos cpos : Pos} {x : Str} {k : Nat}
theorem e_add (C : Can G X W k) (ha : SE G X W a fa) (hb : SE G X W b fb) : SE G X W (.BinOp a .Add b pos) (m2 gAdd fa fb) := se_op op_addU (C.hK ▸ mean_add) ha hb
theorem e_sub (ha : SE G X W a fa) (hb : SE G X W b fb) : SE G X W (.BinOp a .Sub b pos) (m2 Sh.gSub fa fb) := se_op op_sub mean_sub ha hb
theorem e_mul (ha : SE G X W a fa) (hb : SE G X W b fb) : SE G X W (.BinOp a .Mult b pos) (m2 gMul fa fb) := se_op op_mulU mean_mul ha hb
theorem e_mod (ha : SE G X W a fa) (hb : SE G X W b fb) : SE G X W (.BinOp a .Mod b pos) (m2 gMod fa fb) := se_op op_mod mean_mod ha hb
theorem e_div (ha : SE G X W a fa) (hb : SE G X W b fb) : SE G X W (.BinOp a .FloorDiv b pos) (m2 gDiv fa fb) := se_op op_fdivW mean_div ha hb
theorem e_pow (ha : SE G X W a fa) (hb : SE G X W b fb) : SE G X W (.BinOp a .Pow b pos) (m2 gPow fa fb) := se_op op_pow mean_pow ha hb
theorem e_neg (ha : SE G X W a fa) : SE G X W (.UnaryOp .USub a pos) (m1 gNeg fa) := se_un un_neg mean_neg ha
theorem e_eq (C : Can G X W k) (ha : SE G X W a fa) (hb : SE G X W b fb) (hk : behindInMarks .Eq b = false := by rfl) : SE G X W (.Compare a [.Eq] [b] pos) (m2 gEq fa fb) := se_cmp (op_eqU C.room.units) (C.hK ▸ mean_eq) ha hb hk
theorem e_ne (C : Can G X W k) (ha : SE G X W a fa) (hb : SE G X W b fb) (hk : behindInMarks .NotEq b = false := by rfl) : SE G X W (.Compare a [.NotEq] [b] pos) (m2 gNe fa fb) := se_cmp (op_neU C.room.units) (C.hK ▸ mean_ne) ha hb hk
theorem e_lt (ha : SE G X W a fa) (hb : SE G X W b fb) (hk : behindInMarks .Lt b = false := by rfl) : SE G X W (.Compare a [.Lt] [b] pos) (m2 gLt fa fb) := se_cmp op_lt mean_B ha hb hk
theorem e_le (ha : SE G X W a fa) (hb : SE G X W b fb) (hk : behindInMarks .LtE b = false := by rfl) : SE G X W (.Compare a [.LtE] [b] pos) (m2 gLe fa fb) := se_cmp op_le mean_B ha hb hk
theorem e_gt (ha : SE G X W a fa) (hb : SE G X W b fb) (hk : behindInMarks .Gt b = false := by rfl) : SE G X W (.Compare a [.Gt] [b] pos) (m2 gGt fa fb) := se_cmp op_gt mean_B ha hb hk
theorem e_ge (ha : SE G X W a fa) (hb : SE G X W b fb) (hk : behindInMarks .GtE b = false := by rfl) : SE G X W (.Compare a [.GtE] [b] pos) (m2 gGe fa fb) := se_cmp op_ge mean_B ha hb hk
theorem e_is (ha : SE G X W a fa) (hb : SE G X W b fb) (hk : behindInMarks .Is b = false := by rfl) : SE G X W (.Compare a [.Is] [b] pos) (m2 gIs fa fb) := se_cmp op_isN mean_is ha hb hk
theorem e_isn (ha : SE G X W a fa) (hb : SE G X W b fb) (hk : behindInMarks .IsNot b = false := by rfl) : SE G X W (.Compare a [.IsNot] [b] pos) (m2 gIsNot fa fb) := se_cmp op_notN mean_isNot ha hb hk
theorem e_in (C : Can G X W k) (ha : SE G X W a fa) (hb : SE G X W b fb) (hk : behindInMarks .In b = false := by rfl) : SE G X W (.Compare a [.In] [b] pos) (m2 (gIn false) fa fb) := se_in C.hK ha hb hk
theorem e_nin (C : Can G X W k) (ha : SE G X W a fa) (hb : SE G X W b fb) (hk : behindInMarks .NotIn b = false := by rfl) : SE G X W (.Compare a [.NotIn] [b] pos) (m2 (gIn true) fa fb) := se_notIn C.hK ha hb hk
theorem c_eq (C : Can G X W k) (ha : SE G X W a fa) (hb : SE G X W b fb) (hk : behindInMarks .Eq b = false := by rfl) : SC G X W (.Compare a [.Eq] [b] pos) (m2 gEq fa fb) := sc_cmp (op_eqU C.room.units) (C.hK ▸ mean_eq) ha hb hk
theorem c_ne (C : Can G X W k) (ha : SE G X W a fa) (hb : SE G X W b fb) (hk : behindInMarks .NotEq b = false := by rfl) : SC G X W (.Compare a [.NotEq] [b] pos) (m2 gNe fa fb) := sc_cmp (op_neU C.room.units) (C.hK ▸ mean_ne) ha hb hk
theorem c_lt (ha : SE G X W a fa) (hb : SE G X W b fb) (hk : behindInMarks .Lt b = false := by rfl) : SC G X W (.Compare a [.Lt] [b] pos) (m2 gLt fa fb) := sc_cmp op_lt mean_B ha hb hk
theorem c_le (ha : SE G X W a fa) (hb : SE G X W b fb) (hk : behindInMarks .LtE b = false := by rfl) : SC G X W (.Compare a [.LtE] [b] pos) (m2 gLe fa fb) := sc_cmp op_le mean_B ha hb hk
theorem c_gt (ha : SE G X W a fa) (hb : SE G X W b fb) (hk : behindInMarks .Gt b = false := by rfl) : SC G X W (.Compare a [.Gt] [b] pos) (m2 gGt fa fb) := sc_cmp op_gt mean_B ha hb hk
theorem c_ge (ha : SE G X W a fa) (hb : SE G X W b fb) (hk : behindInMarks .GtE b = false := by rfl) : SC G X W (.Compare a [.GtE] [b] pos) (m2 gGe fa fb) := sc_cmp op_ge mean_B ha hb hk
theorem c_is (ha : SE G X W a fa) (hb : SE G X W b fb) (hk : behindInMarks .Is b = false := by rfl) : SC G X W (.Compare a [.Is] [b] pos) (m2 gIs fa fb) := sc_cmp op_isN mean_is ha hb hk
theorem c_isn (ha : SE G X W a fa) (hb : SE G X W b fb) (hk : behindInMarks .IsNot b = false := by rfl) : SC G X W (.Compare a [.IsNot] [b] pos) (m2 gIsNot fa fb) := sc_cmp op_notN mean_isNot ha hb hk
theorem c_in (C : Can G X W k) (ha : SE G X W a fa) (hb : SE G X W b fb) (hk : behindInMarks .In b = false := by rfl) : SC G X W (.Compare a [.In] [b] pos) (m2 (gIn false) fa fb) := sc_cmp op_in_seq (C.hK ▸ mean_in) ha hb hk
theorem c_nin (C : Can G X W k) (ha : SE G X W a fa) (hb : SE G X W b fb) (hk : behindInMarks .NotIn b = false := by rfl) : SC G X W (.Compare a [.NotIn] [b] pos) (m2 (gIn true) fa fb) := sc_cmp op_notIn_seq (C.hK ▸ mean_in) ha hb hk
/-! comparisons in a chain -/
/-- a comparison of two values, as a chain has it -/
structure Cp (G : Gx) (X : Cx) (op : CmpOp) (g : IV → IV → M IV) : Prop where
  ex : ∃ r, OpR X (compareOp op) r ∧ Mean2 G r g
  nx : ∀ x y h c h', g x y h ≠ .exc c h'
theorem p_lt : Cp G X .Lt gLt := ⟨⟨_, op_lt, mean_B⟩, gB_ne⟩
theorem p_le : Cp G X .LtE gLe := ⟨⟨_, op_le, mean_B⟩, gB_ne⟩
theorem p_gt : Cp G X .Gt gGt := ⟨⟨_, op_gt, mean_B⟩, gB_ne⟩
theorem p_ge : Cp G X .GtE gGe := ⟨⟨_, op_ge, mean_B⟩, gB_ne⟩
theorem gEq_ne : ∀ x y h c h', gEq x y h ≠ .exc c h' := by
  intro x y h c h' z
  simp only [gEq] at z
  split at z
  · cases z
  · split at z
    · split at z <;> cases z
    · cases z
theorem p_eq (C : Can G X W k) : Cp G X .Eq gEq := ⟨⟨_, op_eqU C.room.units, C.hK ▸ mean_eq⟩, gEq_ne⟩
theorem e_ch {op op' : CmpOp} {g g' : IV → IV → M IV} (h1 : Cp G X op g) (h2 : Cp G X op' g') (ha : SE G X W a fa) (hb : SE G X W b fb) (hc : SE G X W c fc) (hk : lastMarks [op, op'] [b, c] = false := by with_unfolding_all rfl) : SE G X W (.Compare a [op, op'] [b, c] pos) (mChain g g' fa fb fc) := by
  obtain ⟨⟨r, o, m⟩, n⟩ := h1
  obtain ⟨⟨r', o', m'⟩, _⟩ := h2
  exact se_chain o m o' m' n ha hb hc hk
theorem c_ch {op op' : CmpOp} {g g' : IV → IV → M IV} (h1 : Cp G X op g) (h2 : Cp G X op' g') (ha : SE G X W a fa) (hb : SE G X W b fb) (hc : SE G X W c fc) (hk : lastMarks [op, op'] [b, c] = false := by with_unfolding_all rfl) : SC G X W (.Compare a [op, op'] [b, c] pos) (mChain g g' fa fb fc) := by
  obtain ⟨⟨r, o, m⟩, n⟩ := h1
  obtain ⟨⟨r', o', m'⟩, _⟩ := h2
  exact sc_chain o m o' m' n ha hb hc hk
/-! built-in calls -/
theorem e_len (C : Can G X W k) (hm : X.mg "len" = none) (hg : Gl X "len") (ha : SA G X W (e :: es) fs) (he : starEach (e :: es) X.env = (false, eval e X.env) :: starEach es X.env := by rfl) (hpl : (backTo pos (starEach es X.env)).any (·.1) = false := by rfl) : SE G X W (.Call (.Name "len" p) (e :: es) [] pos) (mCall gLen fs) := se_callB call_len (C.hK ▸ mean_len) hg hm boot_len ha (by decide) (by decide) he hpl
theorem e_abs (C : Can G X W k) (hm : X.mg "abs" = none) (hg : Gl X "abs") (ha : SA G X W (e :: es) fs) (he : starEach (e :: es) X.env = (false, eval e X.env) :: starEach es X.env := by rfl) (hpl : (backTo pos (starEach es X.env)).any (·.1) = false := by rfl) : SE G X W (.Call (.Name "abs" p) (e :: es) [] pos) (mCall gAbs fs) := se_callB call_abs mean_abs hg hm boot_abs ha (by decide) (by decide) he hpl
theorem e_int (C : Can G X W k) (hm : X.mg "int" = none) (hg : Gl X "int") (ha : SA G X W (e :: es) fs) (he : starEach (e :: es) X.env = (false, eval e X.env) :: starEach es X.env := by rfl) (hpl : (backTo pos (starEach es X.env)).any (·.1) = false := by rfl) : SE G X W (.Call (.Name "int" p) (e :: es) [] pos) (mCall gInt fs) := se_callTy call_int1 mean_int hg hm boot_int ha (by decide) (by decide) he hpl
theorem e_list (C : Can G X W k) (hm : X.mg "list" = none) (hg : Gl X "list") (ha : SA G X W (e :: es) fs) (he : starEach (e :: es) X.env = (false, eval e X.env) :: starEach es X.env := by rfl) (hpl : (backTo pos (starEach es X.env)).any (·.1) = false := by rfl) : SE G X W (.Call (.Name "list" p) (e :: es) [] pos) (mCall gList fs) := se_callTy call_list_of (C.hK ▸ mean_list) hg hm boot_list ha (by decide) (by decide) he hpl
theorem e_tuple (C : Can G X W k) (hm : X.mg "tuple" = none) (hg : Gl X "tuple") (ha : SA G X W (e :: es) fs) (he : starEach (e :: es) X.env = (false, eval e X.env) :: starEach es X.env := by rfl) (hpl : (backTo pos (starEach es X.env)).any (·.1) = false := by rfl) : SE G X W (.Call (.Name "tuple" p) (e :: es) [] pos) (mCall gTuple fs) := se_callTy call_tuple_of (C.hK ▸ mean_tuple) hg hm boot_tuple ha (by decide) (by decide) he hpl
theorem e_min2 (C : Can G X W k) (hm : X.mg "min" = none) (hg : Gl X "min") (ha : SA G X W (e :: es) fs) (he : starEach (e :: es) X.env = (false, eval e X.env) :: starEach es X.env := by rfl) (hpl : (backTo pos (starEach es X.env)).any (·.1) = false := by rfl) : SE G X W (.Call (.Name "min" p) (e :: es) [] pos) (mCall gMin2 fs) := se_callB (call_min2 C.calm) mean_min2 hg hm boot_min ha (by decide) (by decide) he hpl
theorem e_max2 (C : Can G X W k) (hm : X.mg "max" = none) (hg : Gl X "max") (ha : SA G X W (e :: es) fs) (he : starEach (e :: es) X.env = (false, eval e X.env) :: starEach es X.env := by rfl) (hpl : (backTo pos (starEach es X.env)).any (·.1) = false := by rfl) : SE G X W (.Call (.Name "max" p) (e :: es) [] pos) (mCall gMax2 fs) := se_callB (call_max2 C.calm) mean_max2 hg hm boot_max ha (by decide) (by decide) he hpl
@[simp] def gMin3 : Fn := fun xs h => match xs with
  | [.int i, .int j, .int k] => .ok (.int (if k < (if j < i then j else i) then k else if j < i then j else i)) h
  | _ => .bad
theorem mean_min3 : MeanC G (rNuC3 nuMin3) gMin3 := by
  intro xs vs ι h H Q Wh rx r p
  unfold gMin3 at p
  split at p
  · rename_i i j k
    unfold RVs at rx
    obtain ⟨v, w, rfl, rv, rx⟩ := rx
    obtain ⟨v2, v3, rfl, r2, r3⟩ := rx.un2
    obtain rfl := int_iff.mp rv
    obtain rfl := int_iff.mp r2
    obtain rfl := int_iff.mp r3
    refine ⟨_, _, _, _, rfl, ?_, p ι H _ (Aft.refl r) (int_iff.mpr rfl)⟩
    unfold nuMin3 nuMin2 nuLt nuCB
    by_cases h1 : j < i
    · by_cases h2 : k < j <;> simp [h1, h2]
    · by_cases h2 : k < i <;> simp [h1, h2]
  · exact p.elim
theorem e_min3 (C : Can G X W k) (hm : X.mg "min" = none) (hg : Gl X "min") (ha : SA G X W (e :: es) fs) (he : starEach (e :: es) X.env = (false, eval e X.env) :: starEach es X.env := by rfl) (hpl : (backTo pos (starEach es X.env)).any (·.1) = false := by rfl) : SE G X W (.Call (.Name "min" p) (e :: es) [] pos) (mCall gMin3 fs) := se_callB (call_min3Nu C.calm) mean_min3 hg hm boot_min ha (by decide) (by decide) he hpl

/-! methods -/
theorem e_append (C : Can G X W k) {fo : ME} (ho : SE G X W o fo) (ha : SA G X W (e :: es) fs) (hbase : attributeBase o "append" X.env (eval o X.env) = eval o X.env := by rfl)
    (hfew : ((backTo cpos (starEach (e :: es) X.env)).all (fun x => !x.1) && (backToKw cpos (keywordEach [] X.env)).all (fun x => x.1.isSome)
      && decide ((e :: es).length + ([] : List Keyword).length + (if ([] : List Keyword).isEmpty then 0 else 1) < 30)) = true := by rfl)
    (hline : (apos.endLine == cpos.line) = true := by rfl) (hs : starEach (e :: es) X.env = (false, eval e X.env) :: starEach es X.env := by rfl) (hplain : (backTo cpos (starEach es X.env)).any (·.1) = false := by rfl) :
    SE G X W (.Call (.Attribute o "append" apos) (e :: es) [] cpos) (mBM .list gAppend fo fs) := se_bm (t := .list) C.hK PySem.F.plainAttrs_list PySem.F.slot_list_append PySem.F.type_list_append mt_append mean_append ho ha hbase hfew hline hs hplain
def sameK : IV → IV → Bool
  | .int _, .int _ => true
  | .str _, .str _ => true
  | _, _ => false
def sameV : IV → IV → Bool
  | .int i, .int j => decide (i = j)
  | .str i, .str j => decide (i = j)
  | _, _ => false
def fiI (y : IV) : List IV → Nat → Option Nat
  | [], _ => none
  | x :: xs, n => if sameV x y = true then some n else fiI y xs (n + 1)
@[simp] def gIndex : IV → List IV → M IV := fun x ys h => match ys with
  | [y] => match sqI x h with
    | some xs => if xs.all (fun z => sameK z y) = true then (match fiI y xs 0 with
      | some j => .ok (.int (j : Nat)) h
      | none => .bad) else .bad
    | _ => .bad
  | _ => .bad
theorem sameK_ok {K : PySem.W.Frag} {ι : List Addr} {H : Hp} {x y : IV} {v w : V} (rv : RV K ι H x v) (ry : RV K ι H y w) (h : sameK x y = true) : flatV v = true ∧ flatV w = true ∧ eqV v w = sameV x y := by
  cases x <;> cases y <;> try cases h
  · obtain rfl := int_iff.mp rv
    obtain rfl := int_iff.mp ry
    refine ⟨rfl, rfl, ?_⟩
    simp only [eqV, sameV]
    rfl
  · rename_i a b
    obtain rfl := str_iff.mp rv
    obtain rfl := str_iff.mp ry
    refine ⟨rfl, rfl, ?_⟩
    simp only [eqV, sameV]
    by_cases z : a = b
    · subst z; simp
    · rw [decide_eq_false z]
      have : ¬ sS a = sS b := fun q => z (sS_inj q)
      simpa using this
theorem fiI_all {K : PySem.W.Frag} {ι : List Addr} {H : Hp} {y : IV} {w : V} (ry : RV K ι H y w) : ∀ {xs : List IV} {vs : List V}, RVs K ι H xs vs → xs.all (fun z => sameK z y) = true → vs.all flatV = true
  | [], _, r, _ => by unfold RVs at r; subst r; rfl
  | x :: xs, _, r, ha => by
    unfold RVs at r
    obtain ⟨v, vs, rfl, rv, rs⟩ := r
    rw [List.all_cons, Bool.and_eq_true] at ha
    rw [List.all_cons, (sameK_ok rv ry ha.1).1, fiI_all ry rs ha.2]
    rfl
theorem fiI_ok {K : PySem.W.Frag} {ι : List Addr} {H : Hp} {y : IV} {w : V} (ry : RV K ι H y w) : ∀ {xs : List IV} {vs : List V} {n j : Nat}, RVs K ι H xs vs → xs.all (fun z => sameK z y) = true → fiI y xs n = some j →
    flatV w = true ∧ ∃ i z, j = n + i ∧ vs[i]? = some z ∧ eqV z w = true ∧ ∀ m z', m < i → vs[m]? = some z' → eqV z' w = false
  | [], _, _, _, _, _, e => by simp [fiI] at e
  | x :: xs, _, n, j, r, ha, e => by
    unfold RVs at r
    obtain ⟨v, vs, rfl, rv, rs⟩ := r
    rw [List.all_cons, Bool.and_eq_true] at ha
    obtain ⟨f1, f2, f3⟩ := sameK_ok rv ry ha.1
    unfold fiI at e
    by_cases hs : sameV x y = true
    · rw [if_pos hs] at e
      cases e
      exact ⟨f2, 0, v, rfl, rfl, by rw [f3]; exact hs, fun m z' hm => absurd hm (Nat.not_lt_zero _)⟩
    · rw [if_neg hs] at e
      obtain ⟨a1, i, z, e1, e2, e3, e4⟩ := fiI_ok ry rs ha.2 e
      refine ⟨a1, i + 1, z, by omega, by simpa using e2, e3, fun m z' hm hz => ?_⟩
      cases m with
      | zero =>
        simp only [List.getElem?_cons_zero, Option.some.injEq] at hz
        subst hz
        rw [f3]
        exact Bool.eq_false_iff.mpr hs
      | succ m => simp only [List.getElem?_cons_succ] at hz; exact e4 m z' (by omega) hz
theorem mean_index : MeanM G (rIndex G.K) gIndex := by
  intro x xs v vs ι h H Q rx rs rh p
  unfold gIndex at p
  split at p
  · rename_i y
    obtain ⟨w, rfl, rw'⟩ := rs.un1
    split at p
    · rename_i ys z
      obtain ⟨q, ws, rfl, hv, r⟩ := sq_ok rx rh z
      split at p
      · rename_i hall
        split at p
        · rename_i j hj
          obtain ⟨a1, i, z, e1, e2, e3, e4⟩ := fiI_ok rw' r hall hj
          have ej : j = i := by omega
          subst ej
          exact ⟨q, ws, w, j, z, rfl, rfl, hv, a1, fiI_all rw' r hall, e2, e3, e4, p ι H _ (Aft.refl rh) (int_iff.mpr rfl)⟩
        · exact p.elim
      · exact p.elim
    · exact p.elim
  · exact p.elim
theorem e_index (C : Can G X W k) {fo : ME} (ho : SE G X W o fo) (ha : SA G X W (e :: es) fs) (hbase : attributeBase o "index" X.env (eval o X.env) = eval o X.env := by rfl)
    (hfew : ((backTo cpos (starEach (e :: es) X.env)).all (fun x => !x.1) && (backToKw cpos (keywordEach [] X.env)).all (fun x => x.1.isSome)
      && decide ((e :: es).length + ([] : List Keyword).length + (if ([] : List Keyword).isEmpty then 0 else 1) < 30)) = true := by rfl)
    (hline : (apos.endLine == cpos.line) = true := by rfl) (hs : starEach (e :: es) X.env = (false, eval e X.env) :: starEach es X.env := by rfl) (hplain : (backTo cpos (starEach es X.env)).any (·.1) = false := by rfl) :
    SE G X W (.Call (.Attribute o "index" apos) (e :: es) [] cpos) (mBM .list gIndex fo fs) := se_bm (t := .list) C.hK PySem.F.plainAttrs_list PySem.F.slot_list_index PySem.F.type_list_index (C.hK ▸ mt_index) mean_index ho ha hbase hfew hline hs hplain
end
end Sh

/-! Sh22: targets of either kind; op=; the defs of a class. -/
namespace Sh
open PySem PySem.Spec PyProof.Rows L2
def clsB : Stmt → List Stmt
  | .ClassDef _ _ _ b _ _ _ _ _ _ _ => b
  | _ => []
section
variable {G : Gx} {X : Cx} {W : WX} {a b c e o v tg : Expr} {es rest : List Expr} {fa fb fc fo fv : ME} {fs : IE → M (List IV)} {p pos pos' tpos apos cpos : Pos} {x f : Str} {k : Nat}
/-- a, b, .. = a tuple or a list -/
def gSeq' (n : Nat) (gs : List IV → MS) : MG := fun x e h => match x with
  | .tup xs => if xs.length = n then gs xs e h else .bad
  | .fz xs => if xs.length = n then gs xs e h else .bad
  | .ref k => match h[k]? with
    | some (.lst xs) => if xs.length = n then gs xs e h else .bad
    | _ => .bad
  | _ => .bad
theorem sg_seq {ts : List Expr} {kk : Nat} {n : Nat} {gs : List IV → MS} (C : Can G X W k) (h : SGs G X W ts gs) (hn : (assignEach ts X.env).length = n := by rfl) (hst : (assignEach ts X.env).findIdx? (·.1) = none := by rfl) : SG G X W (.Tuple ts kk pos) (gSeq' n gs) := by
  have p1 : SG G X W (.Tuple ts kk pos) (gTup' n gs) := sg_tup (fun t ht => pg_tup C.calm ht hn hst) C.hK h
  have p3 : SG G X W (.Tuple ts kk pos) (gFz' n gs) := sg_fzl (fun t ht => pg_lst C.calm ht hn hst) C.hK h
  have p2 : SG G X W (.Tuple ts kk pos) (gLst' n gs) := sg_lst (fun t ht => pg_lst C.calm ht hn hst) C.hK h
  refine ⟨fun pins s σ H v u Q I r hq => ?_⟩
  obtain ⟨ι, e, h, x, en, rh, rx, q⟩ := hq
  cases x with
  | tup xs => exact p1.run pins s σ H v u Q I r ⟨ι, e, h, .tup xs, en, rh, rx, q⟩
  | fz xs => exact p3.run pins s σ H v u Q I r ⟨ι, e, h, .fz xs, en, rh, rx, q⟩
  | ref m => exact p2.run pins s σ H v u Q I r ⟨ι, e, h, .ref m, en, rh, rx, q⟩
  | _ => exact q.elim
theorem mean_ip {f : Int → Int → Int} : Mean2 G (ipI f) (gI (fun _ _ => true) f) := fun x y v w ι h H Q Wh rx ry r p => by
  obtain ⟨i, j, a, b, _, q⟩ := mean_I (P := fun _ _ => True) (C := fun _ _ => true) (f := f) (fun _ _ _ => trivial) x y v w ι h H Q Wh rx ry r p
  exact ⟨i, j, a, b, q⟩
@[simp] def gIadd : IV → IV → M IV := gI (fun _ _ => true) fun i j => i + j
@[simp] def gIsub : IV → IV → M IV := gI (fun _ _ => true) fun i j => i - j
theorem s_iaddF {C : String} {j : Nat} (Cn : Can G X W k) (kc : KC G C) (hf : (G.lay C)[j]? = some f) (ho : SE G X W o fo) (hv : SE G X W v fv) : SS G X W (.AugAssign (.Attribute o f tpos) .Add v pos) (sAugF C j gIadd fo fv) := ss_augF Cn.hK kc hf in_add (fun x y v w ι h H Q Wh rx ry r p => mean_ip x y v w ι h H Q Wh rx ry r p) ho hv
theorem s_isubF {C : String} {j : Nat} (Cn : Can G X W k) (kc : KC G C) (hf : (G.lay C)[j]? = some f) (ho : SE G X W o fo) (hv : SE G X W v fv) : SS G X W (.AugAssign (.Attribute o f tpos) .Sub v pos) (sAugF C j gIsub fo fv) := ss_augF Cn.hK kc hf in_sub (fun x y v w ι h H Q Wh rx ry r p => mean_ip x y v w ι h H Q Wh rx ry r p) ho hv
theorem s_iadd {i : Nat} (Cn : Can G X W k) (hN : X.N[i]? = some x) (hx : Loc X.env.scope x) (hf : X.fn x = true ∨ X.env.scope.names.lookup x = some .local) (hv : SE G X W v fv) : SS G X W (.AugAssign (.Name x pos') .Add v pos) (sAug i gIadd fv) := ss_aug (fun te h => ps_aug Cn.nd hN hx h ip_add hf) mean_ip hv
theorem s_isub {i : Nat} (Cn : Can G X W k) (hN : X.N[i]? = some x) (hx : Loc X.env.scope x) (hf : X.fn x = true ∨ X.env.scope.names.lookup x = some .local) (hv : SE G X W v fv) : SS G X W (.AugAssign (.Name x pos') .Sub v pos) (sAug i gIsub fv) := ss_aug (fun te h => ps_aug Cn.nd hN hx h ip_sub hf) mean_ip hv
theorem t_nm (i : Nat) (C : Can G X W k) (hi : X.N[i]? = some x := by rfl) (hx : Loc X.env.scope x := by first | exact Or.inl rfl | exact Or.inr rfl) (hf : X.fn x = true ∨ X.env.scope.names.lookup x = some .local := by first | exact .inl rfl | exact .inr rfl) : SG G X W (.Name x pos) (gName' i) := sg_name i (pg_name C.nd hi hx hf)
theorem t_sub {i : Expr} {fo fi : ME} (ho : SE G X W o fo) (hi : SE G X W i fi)
    (hs : ∀ v, assign (.Subscript o i pos) X.env v = (do
      let ov ← holding [v] (eval o X.env)
      let iv ← holding [v, ov] (eval i X.env)
      standAt pos
      holding [v, ov, iv] (setItem ov iv v)
      release [v, ov, iv] []) := by intro _; rfl) : SG G X W (.Subscript o i pos) (gSubL fo fi) := sg_subL ho hi fun _ _ h1 h2 => pg_sub h1 h2 set_list hs
end
end Sh

/-! Sh23: all that a law's head tells, in one. -/
namespace Sh
open PySem PySem.Spec PyProof.Rows L2
abbrev TnL := List (He.Defn × (Nat → Nat → Str))
/-- the names of what a def makes, by place -/
def nmOf (q : Str) (ls : List (Nat × Nat)) : Nat → Nat → Str := fun l c => q ++ (if ls.contains (l, c) then ("<lambda>" : Str) else ("<genexpr>" : Str))
def exB (tn : TnL) (xs : List String) (K : PySem.W.Frag) : Bool := decide ((tn.map fun p => (He.cT K p.1).2).Nodup) && xs.all fun c => decide (PySem.W.subIn K (.ref (He.ga K (Str.ofString c))) (.type "StopIteration") = some false)
structure Zx (fa : List He.Fa) (fn : List He.DefD) (tn : TnL) (xs : List String) (lay : String → List Str) (G : Gx) (w : World) (mg : Str → Option Value) (h base : Heap) : Prop where
  X : G.K.In h
  N : h.Ns mainGlobals mg
  c : He.SaysX fa fn [] (tn.map (·.1)) (exB tn xs) w h G.K
  T : G.T = tn.map fun p => ((He.cT G.K p.1).2, p.2)
  tb : ∀ p ∈ tn, LamX.TabB base mg (He.cT G.K p.1).1 (He.cT G.K p.1).2
  lay : G.lay = lay
section
variable {fa : List He.Fa} {fn : List He.DefD} {tn : TnL} {xs : List String} {lay : String → List Str} {G : Gx} {w : World} {mg : Str → Option Value} {h base : Heap}
theorem Zx.fact (Z : Zx fa fn tn xs lay G w mg h base) (i : Nat) {f : He.Fa} (e : fa[i]? = some f) : f.ok G.K = true := Z.c.t.d.fact i e
theorem Zx.glo (Z : Zx fa fn tn xs lay G w mg h base) (i : Nat) {x : Str} (e : fa[i]? = some (.glo x)) : mg x = some (.ref (He.ga G.K x)) := He.glo_ok Z.X Z.N (Z.fact i e)
theorem Zx.free (Z : Zx fa fn tn xs lay G w mg h base) (i : Nat) {x : Str} (e : fa[i]? = some (.free x)) : mg x = none := He.free_ok Z.X Z.N (Z.fact i e)
theorem Zx.int (Z : Zx fa fn tn xs lay G w mg h base) (i : Nat) {x : Str} {n : Int} (e : fa[i]? = some (.int x n)) : ∃ t, mg x = some (.int n t) := He.int_ok Z.X Z.N (Z.fact i e)
theorem Zx.str (Z : Zx fa fn tn xs lay G w mg h base) (i : Nat) {x z : Str} (e : fa[i]? = some (.str x z)) : ∃ t, mg x = some (.str z t) := He.str_ok Z.X Z.N (Z.fact i e)
theorem Zx.meth (Z : Zx fa fn tn xs lay G w mg h base) (i : Nat) {x m : Str} (e : fa[i]? = some (.meth x m)) : Meth G.K (He.ga G.K x) m (He.fAd G.K (x, some m)) := He.meth_ok (Z.fact i e)
theorem Zx.mkr (Z : Zx fa fn tn xs lay G w mg h base) (i : Nat) {x : Str} (e : fa[i]? = some (.mkr x)) : Mk G.K (He.ga G.K x) (He.fAd G.K (x, some "__init__")) := He.mkr_ok (Z.fact i e)
theorem Zx.kx (Z : Zx fa fn tn xs lay G w mg h base) (i : Nat) {c : String} (e : fa[i]? = some (.exc (Str.ofString c))) : KX G c := by
  obtain ⟨a1, a2, a3, a4⟩ := He.exc_ok (Z.fact i e)
  exact ⟨⟨_, _, _, _, PySem.F.excBase_ValueError, a1⟩, a2, a3, a4⟩
theorem Zx.def_ (Z : Zx fa fn tn xs lay G w mg h base) (i : Nat) {d : He.DefD} (e : fn[i]? = some d) : ∃ fd, FunD G.K d.name d.qual d.params d.body d.scope (d.dvs G.K) (d.kws G.K) (He.fAd G.K d.at_) fd := Z.c.t.d.def_ i e
theorem Zx.at (Z : Zx fa fn tn xs lay G w mg h base) (ι0 : List Addr) (H0 : Hp) : Zx fa fn tn xs lay (G.at ι0 H0) w mg h base := ⟨Z.X, Z.N, Z.c, Z.T, Z.tb, Z.lay⟩
theorem Zx.lam (Z : Zx fa fn tn xs lay G w mg h base) (L : Nat → LamD) : Zx fa fn tn xs lay (G.lam L) w mg h base := ⟨Z.X, Z.N, Z.c, Z.T, Z.tb, Z.lay⟩
theorem Zx.lamC {X : Cx} {W : WX} {k : Nat} {L : Nat → LamD} (Z : Zx fa fn tn xs lay G w mg h base) (C : CanS (G.lam L) X W k) : Zx fa fn tn xs lay (G.lam L) w mg h base := Z.lam L
theorem Zx.lamE (Z : Zx fa fn tn xs lay G w mg h base) {G' : Gx} {L : Nat → LamD} (e : G' = G.lam L) : Zx fa fn tn xs lay G' w mg h base := e ▸ Z.lam L
theorem nodup_un {α β γ : Type} (f : α → β) (g : α → γ) : ∀ {l : List α} {i : Nat} {p : α}, (l.map f).Nodup → l[i]? = some p → ∀ q ∈ l, f q = f p → q = p
  | [], _, _, _, e, _, _, _ => by simp at e
  | a :: l, 0, p, nd, e, q, hq, z => by
    cases e
    rcases List.mem_cons.mp hq with hq | hq
    · exact hq
    · exact absurd (List.mem_map.mpr ⟨q, hq, z⟩) (List.nodup_cons.mp nd).1
  | a :: l, i + 1, p, nd, e, q, hq, z => by
    rcases List.mem_cons.mp hq with hq | hq
    · subst hq
      exact absurd (List.mem_map.mpr ⟨p, List.mem_of_getElem? (by simpa using e), z.symm⟩) (List.nodup_cons.mp nd).1
    · exact nodup_un f g (List.nodup_cons.mp nd).2 (by simpa using e) q hq z
theorem Zx.ct (Z : Zx fa fn tn xs lay G w mg h base) (i : Nat) {p : He.Defn} {nm : Nat → Nat → Str} {X : Cx} {cdv : Value} (ecd : cdv = .ref (He.codeOf G.K p)) (e : tn[i]? = some (p, nm)) (hc : X.env.code = cdv := by rfl) (hb : X.base = base := by rfl) (hm : X.mg = mg := by rfl) :
    CT G X (He.codeOf G.K p) (He.cT G.K p).2 nm := by
  have hmem := List.mem_of_getElem? e
  have hn : (tn.map fun p => (He.cT G.K p.1).2).Nodup := of_decide_eq_true (Bool.and_eq_true_iff.mp Z.c.more).1
  refine ⟨by rw [hb, hm]; exact Z.tb _ hmem, by rw [hc, ecd], by rw [Z.T]; exact List.mem_map.mpr ⟨_, hmem, rfl⟩, fun q hq e1 => ?_⟩
  rw [Z.T] at hq
  obtain ⟨q', h1, rfl⟩ := List.mem_map.mp hq
  have := nodup_un (fun p : He.Defn × (Nat → Nat → Str) => (He.cT G.K p.1).2) (fun p => p) hn e q' h1 e1
  rw [this]
theorem Zx.ns (Z : Zx fa fn tn xs lay G w mg h base) : NoStp G.K xs := fun c hc => of_decide_eq_true (List.all_eq_true.mp (Bool.and_eq_true_iff.mp Z.c.more).2 c hc)
/-- a class -/
theorem Zx.kc (Z : Zx fa fn tn xs lay G w mg h base) (i : Nat) {C : String} (e : fa[i]? = some (.cls (Str.ofString C))) (nd : (lay C).Nodup) (few : (lay C).length < 1000) {n0 : Nat} {r : List He.Fa} (na : fa.drop n0 = (lay C).map (He.Fa.noat (Str.ofString C)) ++ r) : KC G C :=
  ⟨He.cls_ok (Z.fact i e), by rw [Z.lay]; exact nd, by rw [Z.lay]; exact few, fun f hf => He.noat_ok (Z.c.t.d.facts (List.mem_of_mem_drop (i := n0) (by rw [na]; exact List.mem_append_left _ (List.mem_map.mpr ⟨f, by rw [← Z.lay]; exact hf, rfl⟩))))⟩
theorem Zx.hf (Z : Zx fa fn tn xs lay G w mg h base) {C : String} {j : Nat} {f : Str} (e : (lay C)[j]? = some f) : (G.lay C)[j]? = some f := by rw [Z.lay]; exact e
theorem Zx.hno (Z : Zx fa fn tn xs lay G w mg h base) {C : String} {f : Str} (e : f ∉ lay C) : f ∉ G.lay C := by rw [Z.lay]; exact e
/-- is the one a kind of the other: as told -/
def isaF : List He.Fa → String → String → Option Bool
  | [], _, _ => none
  | .exm x y b :: r, c, d => if x = Str.ofString c ∧ y = Str.ofString d then some b else isaF r c d
  | _ :: r, c, d => isaF r c d
theorem isaF_ok : ∀ {fa : List He.Fa} {c d : String} {b : Bool}, isaF fa c d = some b → He.Fa.exm (Str.ofString c) (Str.ofString d) b ∈ fa
  | [], _, _, _, e => by cases e
  | f :: r, c, d, b, e => by
    cases f with
    | exm x y b' =>
      simp only [isaF] at e
      split at e
      · rename_i z
        obtain ⟨z1, z2⟩ := z
        subst z1 z2
        cases e
        exact List.mem_cons_self
      · exact List.mem_cons_of_mem _ (isaF_ok e)
    | _ => exact List.mem_cons_of_mem _ (isaF_ok (show isaF r c d = some b from e))
theorem Zx.io (Z : Zx fa fn tn xs lay G w mg h base) {isa : String → String → Option Bool} (k : ∀ c d b, isa c d = some b → isaF fa c d = some b) : IsaOk G isa := fun c d b e => He.exm_ok (Z.c.t.d.facts (isaF_ok (k c d b e)))
end
theorem bt_all : bootBuiltins "all" = some (.builtin "all") := by decide +kernel
/-! lambdas kept in lists -/
def lamsE : Expr → List (Arguments × Expr × Scope)
  | .List es _ => es.filterMap fun
    | .Lambda p b s _ => some (p, b, s)
    | _ => none
  | _ => []
def lamsS : Stmt → List (Arguments × Expr × Scope)
  | .Assign _ (.BinOp _ _ v _) _ => lamsE v
  | .Assign _ v _ => lamsE v
  | _ => []
def lamAt (X : Cx) (body : List Stmt) (j : Nat) : LamD := match (body.flatMap lamsS)[j]? with
  | some (p, b, s) => lamD X p b s
  | none => ⟨fun _ _ _ => False, Str.empty⟩
def HB (G : Gx) (X : Cx) (k n : Nat) (Bs : List ME) : Prop := ∀ j B, Bs[j]? = some B → ∃ params body scope, G.L (n + j) = lamD X params body scope ∧ ∀ ι H, LamK (G.at ι H) X k params body scope B
theorem hb_nil {G : Gx} {X : Cx} {k n : Nat} : HB G X k n [] := fun j B e => by simp at e
theorem hb_cons {G : Gx} {X : Cx} {k n : Nat} {B : ME} {Bs : List ME} {params : Arguments} {body : Expr} {scope : Scope} (h : G.L n = lamD X params body scope) (l : ∀ ι H, LamK (G.at ι H) X k params body scope B) (r : HB G X k (n + 1) Bs) : HB G X k n (B :: Bs) := fun j C e => by
  cases j with
  | zero => cases e; exact ⟨_, _, _, h, l⟩
  | succ j =>
    have := r j C (by simpa using e)
    rw [show n + (j + 1) = n + 1 + j by omega]
    exact this
theorem hb0 {G : Gx} {X : Cx} {k : Nat} {Bs : List ME} (r : HB G X k 0 Bs) : ∀ j B, Bs[j]? = some B → ∃ params body scope, G.L j = lamD X params body scope ∧ ∀ ι H, LamK (G.at ι H) X k params body scope B := fun j B e => by
  have := r j B e
  rw [Nat.zero_add] at this
  exact this
/-- a def of which nothing is told -/
theorem kn_bad {G : Gx} {P : Program} {w : World} {mg : Str → Option Value} {base : Heap} {x qual : Str} {params : Arguments} {body : List Stmt} {scope : Scope} {f : Addr} {fd : FuncData} {N ps : List Str} {k : Nat} (F : FunD G.K x qual params body scope [] [] f fd) (S : FnScope N ps scope)
    (hbn : ∀ (kV doc pm : Value) (an : Option Addr) (cdv ct : Value) (us : List Value), us.length = ps.length → bindArgs (PySem.W.fnOf x qual params body scope .none kV doc pm an cdv ct) ⟨us, []⟩ = pure (ps.zip us)) : Kn G P w mg base (k + 1) f ps.length (fun _ _ => .bad) := by
  refine ⟨⟨fd, ps, rfl, ?_, FunD.bindsN F hbn⟩, F.kp⟩
  obtain ⟨oc, od, dV, kV, doc, pm, an, cdv, ct, osl, rfl, lk, hcd, _, _⟩ := F.ex
  exact fn_of lk hcd S (fun vs H Q E h => h.1) fun A outer s H vs Q E hr hsp => by
    obtain ⟨hl, ι, h, xs, rs, rh, q⟩ := hsp
    exact q.elim
end Sh

/-! Sh24: the end of a law. -/
namespace Sh
open PySem PySem.Spec PyProof.Rows L2
theorem lawAt_of {fa : List He.Fa} {fn : List He.DefD} {tn : TnL} {xs : List String} {lay : String → List Str} {l : PySem.W.OpenLaw} {w : World} {h : Heap} {K : PySem.W.Frag} {mg : Str → Option Value} {f : Addr} {k : Nat} {pa : Arguments} {bo : List Stmt} {sc : Scope}
    (c : He.SaysX fa fn [] (tn.map (·.1)) (exB tn xs) w h K) (X : K.In h) (N : h.Ns mainGlobals mg) (j : Nat) (hj : fa[j]? = some (.glo "law")) (hfa : mg ("law" : Str) = some (.ref f)) (i : Nat) (hd : fn[i]? = some ⟨("law", none), "law", "law", pa, bo, sc, [], []⟩)
    (hbn : ∀ (kV doc pm : Value) (an : Option Addr) (cdv ct : Value) (us : List Value), us.length = ["script"].length → bindArgs (PySem.W.fnOf "law" "law" pa bo sc .none kV doc pm an cdv ct) ⟨us, []⟩ = pure ((["script"] : List Str).zip us))
    (ok : ∀ (G : Gx) (base : Heap) (fd : FuncData), Zx fa fn tn xs lay G w mg h base → G.Z = none → FunD G.K "law" "law" pa bo sc [] [] (He.fAd G.K ("law", none)) fd → FnOk l.prog w G.K mg base (L2.CX l.prog w) k (He.fAd G.K ("law", none)) fd ["script"] (spLaw G 63)) :
    LamX.LawAtS l w K (L2.CX l.prog w) k 63 "script" mg f h := by
  obtain ⟨fd, F⟩ := c.t.d.def_ i hd
  have e1 : mg ("law" : Str) = some (.ref (He.ga K "law")) := He.glo_ok X N (c.t.d.fact j hj)
  rw [hfa] at e1
  cases e1
  have b := FunD.bindsA (ps := ["script"]) F hbn
  let G : Gx := ⟨K, fun _ => ⟨fun _ _ _ => False, Str.empty⟩, tn.map fun p => ((He.cT K p.1).2, p.2), lay, none⟩
  refine ⟨fd, tn.map fun p => He.cT K p.1, spLaw G 63, fun p hp => ?_, fun p hp => ?_, fun p hp => ?_, fun s u => b s [u] rfl, fun H a ns hl hb hT hS => ⟨a, ns, rfl, hl, hb, hS, fun p hp => ?_, fun _ => rfl⟩, fun base KB NB hT => ?_⟩
  · obtain ⟨q, hq, rfl⟩ := List.mem_map.mp hp
    exact c.empty _ (List.mem_map.mpr ⟨q, hq, rfl⟩)
  · obtain ⟨q, hq, rfl⟩ := List.mem_map.mp hp
    exact c.out _ (List.mem_map.mpr ⟨q, hq, rfl⟩)
  · obtain ⟨q, hq, rfl⟩ := List.mem_map.mp hp
    exact PySem.W.codeHd_of_K X (c.hd _ (List.mem_map.mpr ⟨q, hq, rfl⟩))
  · obtain ⟨q, hq, rfl⟩ := List.mem_map.mp hp
    exact NdefX.TabN.nil (hT _ (List.mem_map.mpr ⟨q, hq, rfl⟩))
  · exact ok G base fd ⟨X, N, c, rfl, fun p hp => hT _ (List.mem_map.mpr ⟨p, hp, rfl⟩), rfl⟩ rfl F
def okB : Fl → Bool
  | .rt (.bl true) _ => true
  | _ => false
theorem okB_ok : ∀ {r : Fl}, okB r = true → ∃ h', r = .rt (.bl true) h'
  | .rt (.bl true) h, _ => ⟨h, rfl⟩
  | .rt (.bl false) _, e => by cases e
  | .rt .non _, e => by cases e
  | .rt (.int _) _, e => by cases e
  | .rt (.str _) _, e => by cases e
  | .rt (.tup _) _, e => by cases e
  | .rt (.fz _) _, e => by cases e
  | .rt (.ref _) _, e => by cases e
  | .nx _ _, e => by cases e
  | .bk _ _, e => by cases e
  | .ct _ _, e => by cases e
  | .ex _ _ _, e => by cases e
  | .bad, e => by cases e
theorem cx_none {P : Program} {w : World} {H : Hp} {s s' : Shared} {e : Value} (c : L2.CX P w [] H s (fun _ _ _ => False) e s') : False := by
  obtain ⟨_, _, _, _, _, _, _, _, _, _, _, _, q⟩ := c
  exact q
end Sh

/-! Sh25: how meanings are evaluated. -/
namespace Sh
open PySem PySem.Spec PyProof.Rows L2
section
variable {α β : Type} {a : α} {h h1 h2 : IH} {c : String} {f : α → M β} {p : Prop} [Decidable p] {r r' : Res α}
@[simp] theorem bind_ok : Res.bind (.ok a h) f = f a h := rfl
@[simp] theorem bind_exc : Res.bind (.exc c h : Res α) f = .exc c h := rfl
@[simp] theorem bind_bad : Res.bind (.bad : Res α) f = .bad := rfl
@[simp] theorem bind_ite : Res.bind (if p then r else r') f = if p then Res.bind r f else Res.bind r' f := by split <;> rfl
end
section
variable {e e1 : IE} {h h1 h2 : IH} {c : String} {v x y : IV} {g : IV → MS} {m : MS} {p : Prop} [Decidable p] {r r' : Res IV} {s s' : Fl} {fa fb fc ft : ME} {gl : Fn}
@[simp] theorem st_ok : Res.st (.ok v h) e g = g v e h := rfl
@[simp] theorem st_exc : Res.st (.exc c h) e g = .ex c e h := rfl
@[simp] theorem st_bad : Res.st .bad e g = .bad := rfl
@[simp] theorem st_ite : Res.st (if p then r else r') e g = if p then Res.st r e g else Res.st r' e g := by split <;> rfl
@[simp] theorem thn_nx : Fl.thn (.nx e h) m = m e h := rfl
@[simp] theorem thn_rt : Fl.thn (.rt v h) m = .rt v h := rfl
@[simp] theorem thn_ex : Fl.thn (.ex c e h) m = .ex c e h := rfl
@[simp] theorem thn_bk : Fl.thn (.bk e h) m = .bk e h := rfl
@[simp] theorem thn_ct : Fl.thn (.ct e h) m = .ct e h := rfl
@[simp] theorem thn_bad : Fl.thn .bad m = .bad := rfl
@[simp] theorem thn_ite : Fl.thn (if p then s else s') m = if p then Fl.thn s m else Fl.thn s' m := by split <;> rfl
@[simp] theorem turn_nx : Fl.turn (.nx e h) m = m e h := rfl
@[simp] theorem turn_ct : Fl.turn (.ct e h) m = m e h := rfl
@[simp] theorem turn_bk : Fl.turn (.bk e h) m = .nx e h := rfl
@[simp] theorem turn_rt : Fl.turn (.rt v h) m = .rt v h := rfl
@[simp] theorem turn_ex : Fl.turn (.ex c e h) m = .ex c e h := rfl
@[simp] theorem turn_bad : Fl.turn .bad m = .bad := rfl
@[simp] theorem turn_ite : Fl.turn (if p then s else s') m = if p then Fl.turn s m else Fl.turn s' m := by split <;> rfl
@[simp] theorem put_nx : Fl.put (.nx e h) m = m e h := rfl
/-- a def's end -/
def Fl.fin (s : Fl) : Res IV := match s with
  | .rt v h => .ok v h
  | .nx _ h => .ok .non h
  | .ex c _ h => .exc c h
  | _ => .bad
@[simp] theorem fin_rt : Fl.fin (.rt v h) = .ok v h := rfl
@[simp] theorem fin_nx : Fl.fin (.nx e h) = .ok .non h := rfl
@[simp] theorem fin_ex : Fl.fin (.ex c e h) = .exc c h := rfl
@[simp] theorem fin_ite : Fl.fin (if p then s else s') = if p then Fl.fin s else Fl.fin s' := by split <;> rfl
theorem fnM_eq {N : List Str} {b : MS} {xs : List IV} : fnM N b xs h = (b (xs.map some ++ List.replicate (N.length - xs.length) none) h).fin := rfl
/-- by a truth value -/
def brM {γ : Type} (x : IV) (a b c : γ) : γ := match x with
  | .bl true => a
  | .bl false => b
  | _ => c
@[simp] theorem brM_t {γ : Type} {a b c : γ} : brM (.bl true) a b c = a := rfl
@[simp] theorem brM_f {γ : Type} {a b c : γ} : brM (.bl false) a b c = b := rfl
@[simp] theorem brM_d {γ : Type} {a b c : γ} : brM (.bl (decide p)) a b c = if p then a else b := by by_cases h : p <;> simp [h]
@[simp low] theorem brM_b {γ : Type} {a b c : γ} {k : Bool} : brM (.bl k) a b c = if k = true then a else b := by cases k <;> rfl
@[simp] theorem brM_n {γ : Type} {a b c : γ} {k : Bool} : brM (.bl (!k)) a b c = brM (.bl k) b a c := by cases k <;> rfl
@[simp] theorem sIf_eq {f : ME} {g g' : MS} : sIf f g g' e h = (f e h).st e fun x e h => brM x (g e h) (g' e h) .bad := rfl
@[simp] theorem mIf_eq : mIf ft fa fb e h = (ft e h).bind fun x h1 => brM x (fa e h1) (fb e h1) .bad := rfl
@[simp] theorem mAnd_eq : mAnd fa fb e h = (fa e h).bind fun x h1 => brM x (fb e h1) (.ok (.bl false) h1) .bad := rfl
@[simp] theorem mOr_eq : mOr fa fb e h = (fa e h).bind fun x h1 => brM x (.ok (.bl true) h1) (fb e h1) .bad := rfl
@[simp] theorem mChain_eq {g g' : IV → IV → M IV} : mChain g g' fa fb fc e h = (fa e h).bind fun x h1 => (fb e h1).bind fun y h2 => (g x y h2).bind fun k h3 => brM k ((fc e h3).bind fun z h4 => g' y z h4) (.ok (.bl false) h3) .bad := rfl
def notM (x : IV) : M IV := fun h => match x with
  | .bl k => .ok (.bl (!k)) h
  | _ => .bad
@[simp] theorem notM_b {k : Bool} : notM (.bl k) h = .ok (.bl (!k)) h := rfl
@[simp] theorem mNot_eq : mNot fa e h = (fa e h).bind fun x h1 => notM x h1 := rfl
@[simp] theorem mOwn_eq {n : Nat} {fs : IE → M (List IV)} : mOwn n gl fs e h = (fs e h).bind fun xs h1 => if xs.length = n then gl xs h1 else .bad := rfl
/-- a store's end -/
def Fl.asg (s : Fl) : Fl := match s with
  | .nx e h => .nx e h
  | _ => .bad
@[simp] theorem asg_nx : Fl.asg (.nx e h) = .nx e h := rfl
@[simp] theorem sAsg_eq {f : ME} {g : MG} : sAsg f g e h = (f e h).st e fun x e h => (g x e h).asg := rfl
@[simp] theorem gsCons_eq {g : MG} {gs : List IV → MS} {xs : List IV} : gsCons g gs (x :: xs) e h = (g x e h).thn (gs xs) := rfl
@[simp] theorem gSeq_tup {n : Nat} {gs : List IV → MS} {xs : List IV} : gSeq' n gs (.tup xs) e h = if xs.length = n then gs xs e h else .bad := rfl
theorem gSeq_ref {n k : Nat} {gs : List IV → MS} {xs : List IV} (z : h[k]? = some (.lst xs)) : gSeq' n gs (.ref k) e h = if xs.length = n then gs xs e h else .bad := by simp [gSeq', z]
/-! == of scalars -/
@[simp] theorem eqS_ii {i j : Int} : eqS (.int i) (.int j) = some (decide (i = j)) := rfl
@[simp] theorem eqS_bb {i j : Bool} : eqS (.bl i) (.bl j) = some (i == j) := rfl
@[simp] theorem eqS_ss {i j : List Nat} : eqS (.str i) (.str j) = some (decide (i = j)) := rfl
@[simp] theorem eqS_nn : eqS .non .non = some true := rfl
theorem gEq_s {b : Bool} (z : eqS x y = some b) : gEq x y h = .ok (.bl b) h := by simp [gEq, z]
theorem gNe_s {b : Bool} (z : eqS x y = some b) : gNe x y h = .ok (.bl (!b)) h := by simp [gNe, z]
@[simp] theorem gEq_ii {i j : Int} : gEq (.int i) (.int j) h = .ok (.bl (decide (i = j))) h := gEq_s rfl
@[simp] theorem gEq_bb {i j : Bool} : gEq (.bl i) (.bl j) h = .ok (.bl (i == j)) h := gEq_s rfl
@[simp] theorem gEq_ss {i j : List Nat} : gEq (.str i) (.str j) h = .ok (.bl (decide (i = j))) h := gEq_s rfl
@[simp] theorem gEq_nn : gEq .non .non h = .ok (.bl true) h := gEq_s rfl
@[simp] theorem gEq_ni {i : Int} : gEq .non (.int i) h = .ok (.bl false) h := gEq_s rfl
@[simp] theorem gEq_in {i : Int} : gEq (.int i) .non h = .ok (.bl false) h := gEq_s rfl
@[simp] theorem gEq_is {i : Int} {u : List Nat} : gEq (.int i) (.str u) h = .ok (.bl false) h := gEq_s rfl
@[simp] theorem gEq_si {i : Int} {u : List Nat} : gEq (.str u) (.int i) h = .ok (.bl false) h := gEq_s rfl
@[simp] theorem gEq_ns {u : List Nat} : gEq .non (.str u) h = .ok (.bl false) h := gEq_s rfl
@[simp] theorem gEq_sn {u : List Nat} : gEq (.str u) .non h = .ok (.bl false) h := gEq_s rfl
@[simp] theorem gNe_ii {i j : Int} : gNe (.int i) (.int j) h = .ok (.bl (!decide (i = j))) h := gNe_s rfl
@[simp] theorem gNe_bb {i j : Bool} : gNe (.bl i) (.bl j) h = .ok (.bl (!(i == j))) h := gNe_s rfl
@[simp] theorem gNe_ss {i j : List Nat} : gNe (.str i) (.str j) h = .ok (.bl (!decide (i = j))) h := gNe_s rfl
@[simp] theorem gNe_nn : gNe .non .non h = .ok (.bl false) h := gNe_s (b := true) rfl
@[simp] theorem gNe_ni {i : Int} : gNe .non (.int i) h = .ok (.bl true) h := gNe_s (b := false) rfl
@[simp] theorem gNe_in {i : Int} : gNe (.int i) .non h = .ok (.bl true) h := gNe_s (b := false) rfl
@[simp] theorem gNe_is {i : Int} {u : List Nat} : gNe (.int i) (.str u) h = .ok (.bl true) h := gNe_s (b := false) rfl
@[simp] theorem gNe_si {i : Int} {u : List Nat} : gNe (.str u) (.int i) h = .ok (.bl true) h := gNe_s (b := false) rfl
@[simp] theorem gNe_ns {u : List Nat} : gNe .non (.str u) h = .ok (.bl true) h := gNe_s (b := false) rfl
@[simp] theorem gNe_sn {u : List Nat} : gNe (.str u) .non h = .ok (.bl true) h := gNe_s (b := false) rfl
/-! telling -/
@[simp] theorem tell_ok {isa : String → String → Option Bool} {d : String} {ret : List Nat} : tell1 isa d ret (.ok x h) = .ok x h := rfl
theorem tell_exc {isa : String → String → Option Bool} {d : String} {ret : List Nat} (z : isa c d = some true) : tell1 isa d ret (.exc c h) = .ok (.str ret) h := by simp [tell1, z]
@[simp] theorem tell_ite {isa : String → String → Option Bool} {d : String} {ret : List Nat} : tell1 isa d ret (if p then r else r') = if p then tell1 isa d ret r else tell1 isa d ret r' := by split <;> rfl
/-! lists by their place -/
theorem gIx_ref {n : Nat} {k : Int} {xs : List IV} (z : h[n]? = some (.lst xs)) (z2 : atI xs k = some v) : gIx (.ref n) (.int k) h = .ok v h := by simp [gIx, z, z2]
theorem gSubL_eq {n j : Nat} {k : Int} {xs : List IV} {fo fi : ME} (z1 : fo e h = .ok (.ref n) h) (z2 : fi e h = .ok (.int k) h) (z : h[n]? = some (.lst xs)) (zj : ixN xs.length k = some j) : gSubL fo fi x e h = .nx e (h.set n (.lst (xs.set j x))) := by simp [gSubL, z1, z2, z, zj]
end
end Sh

/-! Sh26: loops by an invariant. -/
namespace Sh
open PySem PySem.Spec PyProof.Rows L2
/-- a turn's end, as the loop takes it -/
def Fl.lp (r : Fl) (J : IE → IH → Prop) (Q : Fl → Prop) : Prop := match r with
  | .nx e h => J e h
  | .ct e h => J e h
  | .bk e h => Q (.nx e h)
  | .rt v h => Q (.rt v h)
  | .ex c e h => Q (.ex c e h)
  | .bad => False
theorem forL_run {S : Sr} {g : MG} {b : MS} {Q : Fl → Prop} (xs : List IV) (J : Nat → IE → IH → Prop)
    (hS : ∀ i x e h, xs[i]? = some x → J i e h → S.nx i h = .it x) (hE : ∀ e h, J xs.length e h → S.nx xs.length h = .stop ∧ Q (.nx e h))
    (hb : ∀ i x e h, xs[i]? = some x → J i e h → ∃ e1 h1, g x e h = .nx e1 h1 ∧ (b e1 h1).lp (J (i + 1)) Q) :
    ∀ (k i m : Nat) (e : IE) (h : IH), i + k = xs.length → k < m → J i e h → Q (forL S g b m i e h)
  | 0, i, m + 1, e, h, hi, _, j => by
    have e0 : i = xs.length := by omega
    subst e0
    obtain ⟨h1, h2⟩ := hE e h j
    unfold forL
    rw [h1]
    exact h2
  | k + 1, i, m + 1, e, h, hi, hm, j => by
    have hlt : i < xs.length := by omega
    have hx : xs[i]? = some xs[i] := List.getElem?_eq_getElem hlt
    obtain ⟨e1, h1, hg, hl⟩ := hb i _ e h hx j
    unfold forL
    rw [hS i _ e h hx j]
    simp only [hg, put_nx]
    cases hz : b e1 h1 with
    | nx e2 h2 => rw [hz] at hl; exact forL_run xs J hS hE hb k (i + 1) m e2 h2 (by omega) (by omega) hl
    | ct e2 h2 => rw [hz] at hl; exact forL_run xs J hS hE hb k (i + 1) m e2 h2 (by omega) (by omega) hl
    | bk e2 h2 => rw [hz] at hl; exact hl
    | rt v h2 => rw [hz] at hl; exact hl
    | ex c e2 h2 => rw [hz] at hl; exact hl
    | bad => rw [hz] at hl; exact hl.elim
/-- a comprehension's turn -/
theorem lcL_run {S : Sr} {g : MG} {t f : ME} {d : Nat} {Q : Res IV → Prop} (xs : List IV) (J : Nat → List IV → IE → IH → Prop)
    (hS : ∀ i x a e h, xs[i]? = some x → J i a e h → S.nx i h = .it x) (hE : ∀ a e h, J xs.length a e h → S.nx xs.length h = .stop ∧ Q (.ok (.ref d) h))
    (hb : ∀ i x a e h, xs[i]? = some x → J i a e h → ∃ e1 h1 b h2, g x e h = .nx e1 h1 ∧ t e1 h1 = .ok (.bl b) h2 ∧ (if b = true then ∃ y h3, f e1 h2 = .ok y h3 ∧ h3[d]? = some (.lst a) ∧ a.length < sizeLine ∧ J (i + 1) (a ++ [y]) e1 (h3.set d (.lst (a ++ [y]))) else J (i + 1) a e1 h2)) :
    ∀ (k i m : Nat) (a : List IV) (e : IE) (h : IH), i + k = xs.length → k < m → J i a e h → Q (lcL S g t f d m i e h)
  | 0, i, m + 1, a, e, h, hi, _, j => by
    have e0 : i = xs.length := by omega
    subst e0
    obtain ⟨h1, h2⟩ := hE a e h j
    unfold lcL
    rw [h1]
    exact h2
  | k + 1, i, m + 1, a, e, h, hi, hm, j => by
    have hlt : i < xs.length := by omega
    have hx : xs[i]? = some xs[i] := List.getElem?_eq_getElem hlt
    obtain ⟨e1, h1, b, h2, hg, ht, hl⟩ := hb i _ a e h hx j
    unfold lcL
    rw [hS i _ a e h hx j]
    simp only [hg, ht]
    cases b with
    | true =>
      rw [if_pos rfl] at hl
      obtain ⟨y, h3, hf, hd, hl1, hj⟩ := hl
      simp only [hf, bind_ok, hd]
      rw [if_pos hl1]
      exact lcL_run xs J hS hE hb k (i + 1) m _ e1 _ (by omega) (by omega) hj
    | false =>
      rw [if_neg Bool.false_ne_true] at hl
      exact lcL_run xs J hS hE hb k (i + 1) m a e1 h2 (by omega) (by omega) hl
/-- a generator's turn -/
theorem genL_run {α : Type} {cs : List String} {S : Sr} {g : MG} {t f : ME} {st : α → IV → St3 α} {fin : α → M IV} {Q : Res IV → Prop} (xs : List IV) (J : Nat → α → IE → IH → Prop)
    (hS : ∀ i x a e h, xs[i]? = some x → J i a e h → S.nx i h = .it x) (hE : ∀ a e h, J xs.length a e h → S.nx xs.length h = .stop ∧ Q (fin a h))
    (hb : ∀ i x a e h, xs[i]? = some x → J i a e h → ∃ e1 h1 b h2, g x e h = .nx e1 h1 ∧ t e1 h1 = .ok (.bl b) h2 ∧ (if b = true then ∃ y h3, f e1 h2 = .ok y h3 ∧ ((∃ a', st a y = .more a' ∧ J (i + 1) a' e1 h3) ∨ ∃ z, st a y = .out z ∧ Q (.ok z h3)) else J (i + 1) a e1 h2)) :
    ∀ (k i m : Nat) (a : α) (e : IE) (h : IH), i + k = xs.length → k < m → J i a e h → Q (genL cs S g t f st fin m i e a h)
  | 0, i, m + 1, a, e, h, hi, _, j => by
    have e0 : i = xs.length := by omega
    subst e0
    obtain ⟨h1, h2⟩ := hE a e h j
    unfold genL
    rw [h1]
    exact h2
  | k + 1, i, m + 1, a, e, h, hi, hm, j => by
    have hlt : i < xs.length := by omega
    have hx : xs[i]? = some xs[i] := List.getElem?_eq_getElem hlt
    obtain ⟨e1, h1, b, h2, hg, ht, hl⟩ := hb i _ a e h hx j
    unfold genL
    rw [hS i _ a e h hx j]
    simp only [hg, ht]
    cases b with
    | true =>
      rw [if_pos rfl] at hl
      obtain ⟨y, h3, hf, hj⟩ := hl
      simp only [hf]
      rcases hj with ⟨a', hs, hj⟩ | ⟨z, hs, hq⟩
      · rw [hs]
        simp only [St3.go]
        exact genL_run xs J hS hE hb k (i + 1) m a' e1 _ (by omega) (by omega) hj
      · rw [hs]
        exact hq
    | false =>
      rw [if_neg Bool.false_ne_true] at hl
      exact genL_run xs J hS hE hb k (i + 1) m a e1 h2 (by omega) (by omega) hl
theorem srT_it {xs : List IV} {i : Nat} {x : IV} {h : IH} (e : xs[i]? = some x) : (srT xs).nx i h = .it x := by simp [srT, e]
theorem srT_end {xs : List IV} {h : IH} : (srT xs).nx xs.length h = .stop := by simp [srT]
theorem srL_it {n m i : Nat} {xs : List IV} {x : IV} {h : IH} (z : h[n]? = some (.lst xs)) (e : xs[i]? = some x) : (srL n m).nx i h = .it x := by
  have := (List.getElem?_eq_some_iff.mp e).1
  simp only [srL, z, this, e, if_true]
theorem srL_end {n m : Nat} {xs : List IV} {h : IH} (z : h[n]? = some (.lst xs)) : (srL n m).nx xs.length h = .stop := by simp [srL, z]
theorem srR_it {lo hi : Int} {i : Nat} {h : IH} (e : i < (hi - lo).toNat) : (srR lo hi).nx i h = .it (.int (lo + i)) := by simp only [srR, e, if_true]
theorem srR_end {lo hi : Int} {h : IH} : (srR lo hi).nx (hi - lo).toNat h = .stop := by simp only [srR, Nat.lt_irrefl, if_false]
/-- what range walks -/
def rngL (lo : Int) (n : Nat) : List IV := (List.range n).map fun i => IV.int (lo + (i : Nat))
theorem rngL_len {lo : Int} {n : Nat} : (rngL lo n).length = n := by simp [rngL]
theorem rngL_get {lo : Int} {n i : Nat} {x : IV} (e : (rngL lo n)[i]? = some x) : i < n ∧ x = .int (lo + (i : Nat)) := by
  unfold rngL at e
  rw [List.getElem?_map] at e
  cases z : (List.range n)[i]? with
  | none => rw [z] at e; cases e
  | some j =>
    rw [z] at e
    cases e
    obtain ⟨h1, h2⟩ := List.getElem?_eq_some_iff.mp z
    simp at h1 h2
    exact ⟨h1, by rw [← h2]⟩
end Sh

/-! Sh27: lists compared; growing heaps. -/
namespace Sh
open PySem PySem.Spec PyProof.Rows L2
theorem mapO_map {α β γ : Type} {f : β → Option γ} {g : α → β} {k : α → γ} (e : ∀ x, f (g x) = some (k x)) : ∀ xs : List α, mapO f (xs.map g) = some (xs.map k)
  | [] => rfl
  | x :: xs => by
    rw [List.map_cons]
    unfold mapO
    rw [e x, mapO_map e xs]
    rfl
theorem dat_ints {h : IH} {k n : Nat} {ys : List Int} (e : h[k]? = some (.lst (ys.map .int))) : dat (n + 1) h (.ref k) = some (.list (ys.map .int)) := by
  unfold dat
  rw [e]
  simp only
  rw [mapO_map (k := PyData.int) (fun x => by cases n <;> rfl) ys]
  rfl
theorem lay_ints : ∀ ys : List Int, PyData.canLayAll0 (ys.map .int) = true
  | [] => by simp [PyData.canLayAll0]
  | y :: ys => by
    rw [List.map_cons]
    unfold PyData.canLayAll0
    rw [lay_ints ys]
    simp [PyData.canLay0]
theorem depth_ints : ∀ ys : List Int, PyData.depthAll (ys.map .int) ≤ 1
  | [] => by simp [PyData.depthAll]
  | y :: ys => by
    have := depth_ints ys
    rw [List.map_cons]
    unfold PyData.depthAll
    simp [PyData.depth]
    exact this
theorem shaped_ints {ys : List Int} : SeqAt.shaped (.list (ys.map .int)) = true := by
  have := depth_ints ys
  unfold SeqAt.shaped PyData.canLay0 PyData.depth
  rw [lay_ints]
  simp
  omega
theorem eqv_ints : ∀ ys zs : List Int, PyData.eqvAll (ys.map .int) (zs.map .int) = decide (ys = zs)
  | [], [] => by simp [PyData.eqvAll]
  | [], _ :: _ => by simp [PyData.eqvAll]
  | _ :: _, [] => by simp [PyData.eqvAll]
  | y :: ys, z :: zs => by
    rw [List.map_cons, List.map_cons]
    unfold PyData.eqvAll
    rw [eqv_ints ys zs]
    by_cases a : y = z <;> by_cases b : ys = zs <;> simp [a, b, PyData.eqv]
theorem gEq_ints {h : IH} {k j : Nat} {ys zs : List Int} (e1 : h[k]? = some (.lst (ys.map .int))) (e2 : h[j]? = some (.lst (zs.map .int))) : gEq (.ref k) (.ref j) h = .ok (.bl (decide (ys = zs))) h := by
  simp only [gEq, eqS, dat_ints e1, dat_ints e2, shaped_ints, Bool.and_self, if_true]
  rw [PyData.eqv, eqv_ints]
theorem gNe_ints {h : IH} {k j : Nat} {ys zs : List Int} (e1 : h[k]? = some (.lst (ys.map .int))) (e2 : h[j]? = some (.lst (zs.map .int))) : gNe (.ref k) (.ref j) h = .ok (.bl (!decide (ys = zs))) h := by
  simp only [gNe, eqS, dat_ints e1, dat_ints e2, shaped_ints, Bool.and_self, if_true]
  rw [PyData.eqv, eqv_ints]
theorem pre_app {h h' l : IH} (p : h <+: h') : h <+: h' ++ l := p.trans (List.prefix_append _ _)
theorem pre_set {h h' : IH} {i : Nat} {o : IO} (p : h <+: h') (hi : h.length ≤ i) : h <+: h'.set i o := by
  obtain ⟨r, rfl⟩ := p
  rw [List.set_append_right _ _ hi]
  exact List.prefix_append _ _
theorem pre_len {h h' : IH} (p : h <+: h') : h.length ≤ h'.length := p.length_le
theorem get_lt {h : IH} {i : Nat} {o : IO} (e : h[i]? = some o) : i < h.length := (List.getElem?_eq_some_iff.mp e).1
theorem set_at {h : IH} {i : Nat} {o o' : IO} (e : h[i]? = some o) : (h.set i o')[i]? = some o' := by simp [get_lt e]
theorem set_ne {h : IH} {i j : Nat} {o o' : IO} (e : h[j]? = some o) (n : i ≠ j) : (h.set i o')[j]? = some o := by rw [List.getElem?_set_ne n]; exact e
theorem app_at {h l : IH} {i : Nat} {o : IO} (e : h[i]? = some o) : (h ++ l)[i]? = some o := by rw [List.getElem?_append_left (get_lt e)]; exact e
theorem new_at (h : IH) (o : IO) : (h ++ [o])[h.length]? = some o := by simp
theorem atI_last {α : Type} {xs : List α} {y : α} : atI (xs ++ [y]) (-1) = some y := by
  have e : (-1 + ((xs.length : Int) + 1)).toNat = xs.length := by omega
  have e2 : -((xs.length : Int) + 1) ≤ -1 := by omega
  have e3 : ((xs ++ [y]).length : Int) = (xs.length : Int) + 1 := by simp
  unfold atI ixN
  rw [e3, if_neg (by omega), if_pos e2, e]
  simp
/-- a check that holds -/
theorem chk_eq {e : IE} {h h1 : IH} {c : ME} {s : MS} (z : c e h = .ok (.bl false) h1) : sIf c s sSkip e h = .nx e h1 := by
  rw [sIf_eq, z]; rfl
end Sh

/-! Sh28: dicts by values: what stands at a key, stored, dropped. -/
namespace Sh
open PySem PySem.Spec PyProof.Rows L2
/-- two keys, numbers or texts -/
def keS : IV → IV → Bool
  | .int i, .int j => decide (i = j)
  | .str a, .str b => decide (a = b)
  | _, _ => false
def keL : List IV → List IV → Bool
  | [], [] => true
  | x :: xs, y :: ys => keS x y && keL xs ys
  | _, _ => false
def keI : IV → IV → Bool
  | .tup xs, .tup ys => keL xs ys
  | x, y => keS x y
def isK : IV → Bool
  | .int _ => true
  | .str _ => true
  | _ => false
/-- a key of a dict of that sort -/
def keyOf (t : Bool) (x : IV) : Bool := match t, x with
  | false, x => isK x
  | true, .tup xs => xs.all isK
  | true, _ => false
def valI (kvs : List (IV × IV)) (k : IV) : Option IV := (kvs.find? fun kv => keI kv.1 k).map (·.2)
def putD (kvs : List (IV × IV)) (k v : IV) : List (IV × IV) := if (valI kvs k).isSome = true then kvs.map fun kv => if keI kv.1 k = true then (kv.1, v) else kv else kvs ++ [(k, v)]
def dropD (kvs : List (IV × IV)) (k : IV) : List (IV × IV) := kvs.filter fun kv => !keI kv.1 k
theorem sS_toList (s : Str) : sS s.cps.toList = s := by unfold sS; simp
theorem kI_ke (a b : Key) : keS (kI a) (kI b) = decide (a = b) := by
  cases a with
  | inl i => cases b with
    | inl j =>
      by_cases e : i = j
      · subst e; simp [kI, keS]
      · have : ¬ (Sum.inl i : Key) = Sum.inl j := fun z => e (Sum.inl.inj z)
        simp [kI, keS, e, this]
    | inr t => simp [kI, keS]
  | inr s => cases b with
    | inl j => simp [kI, keS]
    | inr t =>
      by_cases e : s = t
      · subst e; simp [kI, keS]
      · have h1 : ¬ (Sum.inr s : Key) = Sum.inr t := fun z => e (Sum.inr.inj z)
        have h2 : ¬ s.cps.toList = t.cps.toList := fun z => e (by rw [← sS_toList s, z, sS_toList])
        simp [kI, keS, h1, h2]
theorem kI_keL : ∀ (as bs : List Key), keL (as.map kI) (bs.map kI) = decide (as = bs)
  | [], [] => rfl
  | [], _ :: _ => by simp [keL]
  | _ :: _, [] => by simp [keL]
  | a :: as, b :: bs => by
    rw [List.map_cons, List.map_cons]
    unfold keL
    rw [kI_ke, kI_keL as bs]
    by_cases h1 : a = b <;> by_cases h2 : as = bs <;> simp [h1, h2]
theorem keI_k (a b : Key) : keI (kI a) (kI b) = decide (a = b) := by
  have : keI (kI a) (kI b) = keS (kI a) (kI b) := by cases a <;> cases b <;> rfl
  rw [this, kI_ke]
theorem keI_t (as bs : List Key) : keI (.tup (as.map kI)) (.tup (bs.map kI)) = decide (as = bs) := kI_keL as bs
section
variable {K : PySem.W.Frag} {ι : List Addr} {H : Hp}
/-- what stands there -/
def RO2 (K : PySem.W.Frag) (ι : List Addr) (H : Hp) : Option IV → Option V → Prop
  | none, none => True
  | some x, some v => RV K ι H x v
  | _, _ => False
theorem RKs.val (k : Key) : ∀ {kvs : List (IV × IV)} {ws : List (Key × V)}, RKs K ι H kvs ws → RO2 K ι H (valI kvs (kI k)) (valV ws k)
  | [], _, r => by unfold RKs at r; subst r; trivial
  | x :: xs, _, ⟨k', v, r, q, e, a, b⟩ => by
    subst q
    have ih := RKs.val k b
    unfold valI at ih ⊢
    rw [List.find?_cons, e, keI_k]
    by_cases h : k' = k
    · rw [decide_eq_true h, valV_pos h]
      exact a
    · rw [decide_eq_false h, valV_neg h]
      exact ih
theorem RTs.val (k : List Key) : ∀ {kvs : List (IV × IV)} {ws : List (List Key × V)}, RTs K ι H kvs ws → RO2 K ι H (valI kvs (.tup (k.map kI))) (valV ws k)
  | [], _, r => by unfold RTs at r; subst r; trivial
  | x :: xs, _, ⟨k', v, r, q, e, a, b⟩ => by
    subst q
    have ih := RTs.val k b
    unfold valI at ih ⊢
    rw [List.find?_cons, e, keI_t]
    by_cases h : k' = k
    · rw [decide_eq_true h, valV_pos h]
      exact a
    · rw [decide_eq_false h, valV_neg h]
      exact ih
theorem RO2.some_eq {o : Option IV} {u : Option V} (r : RO2 K ι H o u) : o.isSome = u.isSome := by
  cases o <;> cases u <;> first | rfl | exact r.elim
theorem RKs.len : ∀ {kvs : List (IV × IV)} {ws : List (Key × V)}, RKs K ι H kvs ws → kvs.length = ws.length
  | [], _, r => by unfold RKs at r; subst r; rfl
  | x :: xs, _, ⟨k', v, r, q, e, a, b⟩ => by subst q; simp only [List.length_cons, b.len]
theorem RTs.len : ∀ {kvs : List (IV × IV)} {ws : List (List Key × V)}, RTs K ι H kvs ws → kvs.length = ws.length
  | [], _, r => by unfold RTs at r; subst r; rfl
  | x :: xs, _, ⟨k', v, r, q, e, a, b⟩ => by subst q; simp only [List.length_cons, b.len]
theorem RKs.app : ∀ {kvs : List (IV × IV)} {ws : List (Key × V)} {x : IV} {v : V} {k : Key}, RKs K ι H kvs ws → RV K ι H x v → RKs K ι H (kvs ++ [(kI k, x)]) (ws ++ [(k, v)])
  | [], _, x, v, k, r, rv => by unfold RKs at r; subst r; exact ⟨k, v, [], rfl, rfl, rv, rfl⟩
  | y :: ys, _, x, v, k, ⟨k', v', r, q, e, a, b⟩, rv => by subst q; exact ⟨k', v', _, rfl, e, a, b.app rv⟩
theorem RTs.app : ∀ {kvs : List (IV × IV)} {ws : List (List Key × V)} {x : IV} {v : V} {k : List Key}, RTs K ι H kvs ws → RV K ι H x v → RTs K ι H (kvs ++ [(.tup (k.map kI), x)]) (ws ++ [(k, v)])
  | [], _, x, v, k, r, rv => by unfold RTs at r; subst r; exact ⟨k, v, [], rfl, rfl, rv, rfl⟩
  | y :: ys, _, x, v, k, ⟨k', v', r, q, e, a, b⟩, rv => by subst q; exact ⟨k', v', _, rfl, e, a, b.app rv⟩
theorem RKs.repl {x : IV} {v : V} {k : Key} (rv : RV K ι H x v) : ∀ {kvs : List (IV × IV)} {ws : List (Key × V)}, RKs K ι H kvs ws → RKs K ι H (kvs.map fun kv => if keI kv.1 (kI k) = true then (kv.1, x) else kv) (ws.map fun kv => if kv.1 = k then (kv.1, v) else kv)
  | [], _, r => by unfold RKs at r; subst r; rfl
  | y :: ys, _, ⟨k', v', r, q, e, a, b⟩ => by
    subst q
    rw [List.map_cons, List.map_cons, e, keI_k]
    by_cases h : k' = k
    · rw [if_pos (decide_eq_true h), if_pos h]
      exact ⟨k', v, _, rfl, rfl, rv, RKs.repl rv b⟩
    · rw [if_neg (by rw [decide_eq_false h]; decide), if_neg h]
      exact ⟨k', v', _, rfl, e, a, RKs.repl rv b⟩
theorem RTs.repl {x : IV} {v : V} {k : List Key} (rv : RV K ι H x v) : ∀ {kvs : List (IV × IV)} {ws : List (List Key × V)}, RTs K ι H kvs ws → RTs K ι H (kvs.map fun kv => if keI kv.1 (.tup (k.map kI)) = true then (kv.1, x) else kv) (ws.map fun kv => if kv.1 = k then (kv.1, v) else kv)
  | [], _, r => by unfold RTs at r; subst r; rfl
  | y :: ys, _, ⟨k', v', r, q, e, a, b⟩ => by
    subst q
    rw [List.map_cons, List.map_cons, e, keI_t]
    by_cases h : k' = k
    · rw [if_pos (decide_eq_true h), if_pos h]
      exact ⟨k', v, _, rfl, rfl, rv, RTs.repl rv b⟩
    · rw [if_neg (by rw [decide_eq_false h]; decide), if_neg h]
      exact ⟨k', v', _, rfl, e, a, RTs.repl rv b⟩
theorem RKs.put {x : IV} {v : V} {k : Key} {kvs : List (IV × IV)} {ws : List (Key × V)} (r : RKs K ι H kvs ws) (rv : RV K ι H x v) : RKs K ι H (putD kvs (kI k) x) (putK ws k v) := by
  unfold putD putK
  rw [(r.val k).some_eq, ← valV_any]
  split
  · exact r.repl rv
  · exact r.app rv
theorem RTs.put {x : IV} {v : V} {k : List Key} {kvs : List (IV × IV)} {ws : List (List Key × V)} (r : RTs K ι H kvs ws) (rv : RV K ι H x v) : RTs K ι H (putD kvs (.tup (k.map kI)) x) (putK ws k v) := by
  unfold putD putK
  rw [(r.val k).some_eq, ← valV_any]
  split
  · exact r.repl rv
  · exact r.app rv
theorem RKs.drop {k : Key} : ∀ {kvs : List (IV × IV)} {ws : List (Key × V)}, RKs K ι H kvs ws → RKs K ι H (dropD kvs (kI k)) (dropK ws k)
  | [], _, r => by unfold RKs at r; subst r; rfl
  | y :: ys, _, ⟨k', v', r, q, e, a, b⟩ => by
    subst q
    have ih := RKs.drop (k := k) b
    unfold dropD dropK at ih ⊢
    rw [List.filter_cons, List.filter_cons, e, keI_k]
    by_cases h : k' = k
    · simp only [h, decide_true, Bool.not_true, Bool.false_eq_true, if_false, ne_eq, not_true, decide_false]
      exact ih
    · simp only [h, decide_false, Bool.not_false, if_true, ne_eq, not_false_iff, decide_true]
      exact ⟨k', v', _, rfl, e, a, ih⟩
end
end Sh

/-! Sh29: d[k], k in d, by what stands there; the keys. -/
namespace Sh
open PySem PySem.Spec PyProof.Rows L2
theorem pe_two {X : Cx} {e : Expr} {t1 t2 : TE} (p1 : PE X e t1) (p2 : PE X e t2) : PE X e (fun σ H Q => t1 σ H Q ∨ t2 σ H Q) := ⟨fun pins s σ H Q I h => h.elim (fun h => p1.run pins s σ H Q I h) (fun h => p2.run pins s σ H Q I h)⟩
theorem pt_two {X : Cx} {e : Expr} {t1 t2 : TT} (p1 : PT X e t1) (p2 : PT X e t2) : PT X e (fun σ H Q => t1 σ H Q ∨ t2 σ H Q) := ⟨fun pins s σ H Q I h => h.elim (fun h => p1.run pins s σ H Q I h) (fun h => p2.run pins s σ H Q I h)⟩
theorem ps_two {X : Cx} {e : Stmt} {t1 t2 : TS} (p1 : PS X e t1) (p2 : PS X e t2) : PS X e (fun D σ H => t1 D σ H ∨ t2 D σ H) := ⟨fun pins s σ H D I h => h.elim (fun h => p1.run pins s σ H D I h) (fun h => p2.run pins s σ H D I h)⟩
/-- a dict, locked or not -/
def isDc (x : IV) (h : IH) : Option (Bool × List (IV × IV)) := match x with
  | .ref n => match h[n]? with
    | some (.dic t kvs) => some (t, kvs)
    | some (.dicL t kvs) => some (t, kvs)
    | _ => none
  | _ => none
theorem isDc_of {n : Nat} {h : IH} {t : Bool} {kvs : List (IV × IV)} (z : h[n]? = some (.dic t kvs)) : isDc (.ref n) h = some (t, kvs) := by simp [isDc, z]
theorem isDc_ofL {n : Nat} {h : IH} {t : Bool} {kvs : List (IV × IV)} (z : h[n]? = some (.dicL t kvs)) : isDc (.ref n) h = some (t, kvs) := by simp [isDc, z]
theorem isDc_lst {n : Nat} {h : IH} {xs : List IV} (z : h[n]? = some (.lst xs)) : isDc (.ref n) h = none := by simp [isDc, z]
section
variable {G : Gx} {X : Cx} {W : WX} {a b c e o : Expr} {fa fb fc : ME} {p pos pos' apos : Pos} {es rest : List Expr} {fs : IE → M (List IV)} {k : Nat}
theorem m2_two {g g2 : IV → IV → M IV} {R : R2} (hc : ∀ x y h, g x y h = g2 x y h ∨ ∀ v w ι H Q (Wh : Value → Option Addr → Hp → Prop), RV G.K ι H x v → RV G.K ι H y w → RH G ι h H → PR G Wh ι H Q (g x y h) → R v w H Q) :
    ∀ σ H Q, TI G W (m2 g fa fb) σ H Q → tOp R (TI G W fa) (TI G W fb) σ H Q ∨ TI G W (m2 g2 fa fb) σ H Q := by
  intro σ H Q hq
  obtain ⟨ι, e, h, en, rh, q⟩ := hq
  have q0 := q
  simp only [m2] at q
  cases z1 : fa e h with
  | exc c h1 => exact .inr ⟨ι, e, h, en, rh, by simp only [m2, z1] at q ⊢; exact q⟩
  | bad => rw [z1] at q; exact q.elim
  | ok x h1 =>
    rw [z1] at q
    simp only [Res.bind] at q
    cases z2 : fb e h1 with
    | exc c h2 => exact .inr ⟨ι, e, h, en, rh, by simp only [m2, z1, z2, Res.bind] at q ⊢; exact q⟩
    | bad => rw [z2] at q; exact q.elim
    | ok y h2 =>
      rw [z2] at q
      simp only at q
      rcases hc x y h2 with h0 | h0
      · exact .inr ⟨ι, e, h, en, rh, by simp only [m2, z1, z2, Res.bind]; rw [h0] at q; exact q⟩
      · refine .inl ?_
        refine ⟨ι, e, h, en, rh, ?_⟩
        rw [z1]
        intro ι1 H1 v a1 r1
        refine ⟨ι1, e, h1, en.mono a1.pre a1.tl, a1.rh, ?_⟩
        rw [z2]
        intro ι2 H2 w a2 r2
        exact h0 v w ι2 H2 Q _ (r1.mono a2.pre a2.tl) r2 a2.rh (PR.after (a1.trans a2) q)
/-! keys -/
theorem key_of1 {K : PySem.W.Frag} {ι : List Addr} {H : Hp} {y : IV} {w : V} (r : RV K ι H y w) (h : isK y = true) : ∃ k : Key, y = kI k ∧ w = kV k := by
  cases y <;> try cases h
  · rename_i i
    exact ⟨.inl i, rfl, int_iff.mp r⟩
  · rename_i x
    exact ⟨.inr (sS x), by simp only [kI, sS_cps], str_iff.mp r⟩
theorem key_ofs {K : PySem.W.Frag} {ι : List Addr} {H : Hp} : ∀ {ys : List IV} {ws : List V}, RVs K ι H ys ws → ys.all isK = true → ∃ ks : List Key, ys = ks.map kI ∧ ws = ks.map kV
  | [], _, r, _ => by unfold RVs at r; subst r; exact ⟨[], rfl, rfl⟩
  | y :: ys, _, r, h => by
    unfold RVs at r
    obtain ⟨v, w, rfl, rv, rs⟩ := r
    rw [List.all_cons, Bool.and_eq_true] at h
    obtain ⟨k, rfl, rfl⟩ := key_of1 rv h.1
    obtain ⟨ks, rfl, rfl⟩ := key_ofs rs h.2
    exact ⟨k :: ks, rfl, rfl⟩
theorem dget_of {ι : List Addr} {h : IH} {H : Hp} {x y : IV} {v w : V} {t : Bool} {kvs : List (IV × IV)} (rh : RH G ι h H) (rx : RV G.K ι H x v) (ry : RV G.K ι H y w) (z : isDc x h = some (t, kvs)) (hk : keyOf t y = true) :
    ∃ a o, v = .ref a ∧ DGet H a w o ∧ RO2 G.K ι H (valI kvs y) o := by
  unfold isDc at z
  split at z
  · rename_i n
    obtain ⟨a, ia, rfl⟩ := ref_iff.mp rx
    have main : ∀ (t : Bool) (kvs : List (IV × IV)), keyOf t y = true → ((t = false ∧ ∃ ws, Rd H a (.dK ws) ∧ RKs G.K ι H kvs ws) ∨ (t = true ∧ ∃ ws, Rd H a (.dT ws) ∧ RTs G.K ι H kvs ws)) → ∃ a' o, V.ref a = .ref a' ∧ DGet H a' w o ∧ RO2 G.K ι H (valI kvs y) o := by
      intro t kvs hk hh
      rcases hh with ⟨rfl, ws, hr, rs⟩ | ⟨rfl, ws, hr, rs⟩
      · obtain ⟨k, rfl, rfl⟩ := key_of1 ry (show isK y = true from hk)
        exact ⟨a, _, rfl, .inl ⟨ws, k, hr, rfl, rfl⟩, rs.val k⟩
      · cases y with
        | tup ys =>
          obtain ⟨b, vs, rfl, hb, rys⟩ := tup_iff.mp ry
          obtain ⟨ks, rfl, rfl⟩ := key_ofs rys (show ys.all isK = true from hk)
          exact ⟨a, _, rfl, .inr ⟨ws, ks, b, hr, rfl, hb, rfl⟩, rs.val ks⟩
        | _ => cases hk
    cases z0 : h[n]? with
    | none => rw [z0] at z; cases z
    | some ob =>
      rw [z0] at z
      have ro := rh.at z0 ia
      cases ob with
      | dic t' kvs' =>
        simp only [Option.some.injEq, Prod.mk.injEq] at z
        obtain ⟨rfl, rfl⟩ := z
        cases t' with
        | false => obtain ⟨ws, e, r⟩ := ro; exact main false _ hk (.inl ⟨rfl, ws, .inl e, r⟩)
        | true => obtain ⟨ws, e, r⟩ := ro; exact main true _ hk (.inr ⟨rfl, ws, .inl e, r⟩)
      | dicL t' kvs' =>
        simp only [Option.some.injEq, Prod.mk.injEq] at z
        obtain ⟨rfl, rfl⟩ := z
        cases t' with
        | false => obtain ⟨o, ws, e, r⟩ := ro; exact main false _ hk (.inl ⟨rfl, ws, .inr ⟨o, e⟩, r⟩)
        | true => obtain ⟨o, ws, e, r⟩ := ro; exact main true _ hk (.inr ⟨rfl, ws, .inr ⟨o, e⟩, r⟩)
      | _ => cases z
  · cases z
/-! x[k] -/
def gGet (x y : IV) : M IV := fun h => match isDc x h with
  | some (t, kvs) => if keyOf t y = true then (match valI kvs y with
    | some v => .ok v h
    | none => .bad) else .bad
  | none => gIx x y h
theorem gGet_d {x y v : IV} {h : IH} {t : Bool} {kvs : List (IV × IV)} (z : isDc x h = some (t, kvs)) (hk : keyOf t y = true) (hv : valI kvs y = some v) : gGet x y h = .ok v h := by simp [gGet, z, hk, hv]
theorem gGet_n {x y : IV} {h : IH} (z : isDc x h = none) : gGet x y h = gIx x y h := by simp [gGet, z]
@[simp] theorem gGet_tup {xs : List IV} {y : IV} {h : IH} : gGet (.tup xs) y h = gIx (.tup xs) y h := rfl
@[simp] theorem gGet_str {xs : List Nat} {y : IV} {h : IH} : gGet (.str xs) y h = gIx (.str xs) y h := rfl
theorem gGet_ref {n : Nat} {k : Int} {xs : List IV} {v : IV} {h : IH} (z : h[n]? = some (.lst xs)) (z2 : atI xs k = some v) : gGet (.ref n) (.int k) h = .ok v h := by rw [gGet_n (isDc_lst z)]; exact gIx_ref z z2
theorem units1 (C : Can G X W k) : X.A.units + 1 < cLine := by have := C.room.units; omega
theorem units0 (C : Can G X W k) : X.A.units < cLine := by have := C.room.units; omega
theorem se_get (C : Can G X W k) (ha : SE G X W a fa) (hb : SE G X W b fb) (hs : NoSl b := by intro _ _; rfl)
    (hi : SE G X W (.Subscript a b pos) (m2 gIx fa fb)) : SE G X W (.Subscript a b pos) (m2 gGet fa fb) := by
  refine pe_weak (pe_two (pe_dget (units1 C) ha hb hs) hi) ?_
  refine m2_two fun x y h => ?_
  cases z : isDc x h with
  | none => exact .inl (gGet_n z)
  | some p =>
    obtain ⟨t, kvs⟩ := p
    refine .inr fun v w ι H Q Wh rx ry rh pr => ?_
    unfold gGet at pr
    rw [z] at pr
    simp only at pr
    split at pr
    · rename_i hk
      obtain ⟨a, o, rfl, g, ro⟩ := dget_of rh rx ry z hk
      split at pr
      · rename_i u hu
        rw [hu] at ro
        cases o with
        | none => exact ro.elim
        | some u' => exact ⟨a, u', rfl, g, pr ι H u' (Aft.refl rh) ro⟩
      · exact pr.elim
    · exact pr.elim
/-! x in y -/
/-- .. of any data -/
def datsI (y : IV) (h : IH) : Option (List PyData) := match y with
  | .fz xs => mapO (dat 8 h) xs
  | .tup xs => mapO (dat 8 h) xs
  | .ref n => match h[n]? with
    | some (.lst xs) => mapO (dat 8 h) xs
    | _ => none
  | _ => none
def gInD (neg : Bool) (x y : IV) : M IV := fun h => match dat 9 h x, datsI y h with
  | some d, some ds => if SeqAt.shaped d = true ∧ SeqAt.shaped (.list ds) = true then .ok (.bl (if neg then !(ds.any fun z => PyData.eqv z d) else ds.any fun z => PyData.eqv z d)) h else .bad
  | _, _ => .bad
def rInDU (K : PySem.W.Frag) (neg : Bool) : R2 := fun x y H Q => ∃ d ds, Dp K H x d ∧ (Dp K H y (.list ds) ∨ Dp K H y (.tuple ds)) ∧ SeqAt.shaped d = true ∧ SeqAt.shaped (.list ds) = true ∧ Q (.bl (if neg then !(ds.any fun z => PyData.eqv z d) else ds.any fun z => PyData.eqv z d)) H
theorem op_inDU {neg : Bool} (hu : X.A.units + 65 < cLine) : OpR X (compareOp (if neg then .NotIn else .In)) (rInDU X.K neg) := by
  intro pins s σ H x y v u Q I rx ry h
  obtain ⟨d, ds, hd, he, sd, se, q⟩ := h
  obtain ⟨as, r1⟩ := Dp.reads I d x v hd rx
  have hx : PyData.canLayAll0 ds = true := SeqAt.canLay_of_shaped se
  rcases he with he | he
  · obtain ⟨bs, r2⟩ := Dp.reads I (.list ds) y u he ry
    cases neg with
    | false => exact SeqAt.in_list_reads r2 r1 hx (SeqAt.canLay_of_shaped sd) (room_in_shaped sd hu) ⟨.bl _, H, I, rfl, q⟩
    | true => exact SeqAt.notIn_list_reads r2 r1 hx (SeqAt.canLay_of_shaped sd) (room_in_shaped sd hu) ⟨.bl _, H, I, rfl, q⟩
  · obtain ⟨bs, r2⟩ := Dp.reads I (.tuple ds) y u he ry
    cases neg with
    | false => exact SeqAt.in_tuple_reads r2 r1 hx (SeqAt.canLay_of_shaped sd) (room_in_shaped sd hu) ⟨.bl _, H, I, rfl, q⟩
    | true => exact SeqAt.notIn_tuple_reads r2 r1 hx (SeqAt.canLay_of_shaped sd) (room_in_shaped sd hu) ⟨.bl _, H, I, rfl, q⟩
theorem dats_ok {ι : List Addr} {h : IH} {H : Hp} {y : IV} {w : V} {ds : List PyData} (r : RH G ι h H) (ry : RV G.K ι H y w) (e : datsI y h = some ds) : Dp G.K H w (.list ds) ∨ Dp G.K H w (.tuple ds) := by
  have main : ∀ xs, mapO (dat 8 h) xs = some ds → (mapO (dat 8 h) xs).map PyData.list = some (.list ds) ∧ (mapO (dat 8 h) xs).map PyData.tuple = some (.tuple ds) := fun xs z => by rw [z]; exact ⟨rfl, rfl⟩
  cases y with
  | fz xs => exact .inl (dp_of r 9 _ _ _ ry (main xs e).1)
  | tup xs => exact .inr (dp_of r 9 _ _ _ ry (main xs e).2)
  | ref n =>
    simp only [datsI] at e
    split at e
    · rename_i xs z
      exact .inl (dp_of r 9 _ _ _ ry (by simp only [dat, z]; exact (main xs e).1))
    · cases e
  | _ => cases e
theorem mean_inD {neg : Bool} : Mean2 G (rInDU G.K neg) (gInD neg) := by
  intro x y v w ι h H Q Wh rx ry r p
  unfold gInD at p
  split at p
  · rename_i d ds e1 e2
    split at p
    · rename_i hz
      exact ⟨d, ds, dp_of r _ _ _ _ rx e1, dats_ok r ry e2, hz.1, hz.2, p ι H _ (Aft.refl r) (bl_iff.mpr rfl)⟩
    · exact p.elim
  · exact p.elim
/-- the one, else the other -/
def orB (r r' : Res IV) : Res IV := match r with
  | .bad => r'
  | r => r
@[simp] theorem orB_ok {x : IV} {h : IH} {r : Res IV} : orB (.ok x h) r = .ok x h := rfl
@[simp] theorem orB_bad {r : Res IV} : orB .bad r = r := rfl
/-- a sign in a text, a key in a dict, a flat thing in a list, a tuple -/
def gInU (neg : Bool) (x y : IV) : M IV := fun h => match isDc y h with
  | some (t, kvs) => if keyOf t x = true then .ok (.bl (if neg then !(valI kvs x).isSome else (valI kvs x).isSome)) h else .bad
  | none => match x, y with
    | .str [c], .str z => .ok (.bl (if neg then !decide (c ∈ z) else decide (c ∈ z))) h
    | _, _ => orB (gIn neg x y h) (gInD neg x y h)
def rInSU (K : PySem.W.Frag) (neg : Bool) : R2 := fun x y H Q => rIn K neg x y H Q ∨ (∃ (c : Nat) (z : Str), x = .str ⟨#[c]⟩ ∧ y = .str z ∧ Q (.bl (if neg then !decide (c ∈ z.cps.toList) else decide (c ∈ z.cps.toList))) H) ∨ rInDU K neg x y H Q
theorem op_inSU {neg : Bool} (hu : X.A.units + 65 < cLine) : OpR X (compareOp (if neg then .NotIn else .In)) (rInSU X.K neg) := by
  have hd := op_inDU (X := X) (neg := neg) hu
  cases neg with
  | false => exact opr_or op_in_seq (opr_or op_in_sign hd)
  | true => exact opr_or op_notIn_seq (opr_or op_notIn_sign hd)
def gInS (neg : Bool) (x y : IV) : M IV := fun h => match x, y with
  | .str [c], .str z => .ok (.bl (if neg then !decide (c ∈ z) else decide (c ∈ z))) h
  | _, _ => orB (gIn neg x y h) (gInD neg x y h)
theorem mean_inS {neg : Bool} : Mean2 G (rInSU G.K neg) (gInS neg) := by
  intro x y v w ι h H Q Wh rx ry r p
  unfold gInS at p
  split at p
  · rename_i c z
    obtain rfl := str_iff.mp rx
    obtain rfl := str_iff.mp ry
    refine .inr (.inl ⟨c, sS z, rfl, rfl, ?_⟩)
    rw [sS_cps]
    exact p ι H _ (Aft.refl r) (bl_iff.mpr rfl)
  · cases z : gIn neg x y h with
    | bad => rw [z] at p; exact .inr (.inr (mean_inD x y v w ι h H Q Wh rx ry r p))
    | _ => rw [z] at p; exact .inl (mean_in x y v w ι h H Q Wh rx ry r (by rw [z]; exact p))
theorem units65 (C : Can G X W k) : X.A.units + 65 < cLine := by have := C.room.un; omega
theorem gInU_cases {neg : Bool} {R : R2} (hR : ∀ v w H Q a o, w = V.ref a → DGet H a v o → Q (.bl (if neg then !o.isSome else o.isSome)) H → R v w H Q) : ∀ x y h, gInU neg x y h = gInS neg x y h ∨ ∀ v w ι H Q (Wh : Value → Option Addr → Hp → Prop), RV G.K ι H x v → RV G.K ι H y w → RH G ι h H → PR G Wh ι H Q (gInU neg x y h) → R v w H Q := by
  intro x y h
  cases z : isDc y h with
  | none => exact .inl (by simp only [gInU, gInS, z])
  | some p =>
    obtain ⟨t, kvs⟩ := p
    refine .inr fun v w ι H Q Wh rx ry rh pr => ?_
    unfold gInU at pr
    rw [z] at pr
    simp only at pr
    split at pr
    · rename_i hk
      obtain ⟨a, o, rfl, g, ro⟩ := dget_of rh ry rx z hk
      refine hR _ _ H Q a o rfl g ?_
      rw [← ro.some_eq]
      exact pr ι H _ (Aft.refl rh) (bl_iff.mpr rfl)
    · exact pr.elim
theorem e_inU (C : Can G X W k) (ha : SE G X W a fa) (hb : SE G X W b fb) (hk : behindInMarks .In b = false := by rfl) : SE G X W (.Compare a [.In] [b] pos) (m2 (gInU false) fa fb) := by
  refine pe_weak (pe_two (pe_cmp (pc_din (units1 C) ha hb) hk) (se_cmp (op := .In) (op_inSU (neg := false) (units65 C)) (C.hK ▸ mean_inS (neg := false)) ha hb hk)) ?_
  exact m2_two (gInU_cases (neg := false) fun v w H Q a o e g q => ⟨a, o, e, g, q⟩)
theorem e_ninU (C : Can G X W k) (ha : SE G X W a fa) (hb : SE G X W b fb) (hk : behindInMarks .NotIn b = false := by rfl) : SE G X W (.Compare a [.NotIn] [b] pos) (m2 (gInU true) fa fb) := by
  refine pe_weak (pe_two (pe_cmp (pc_dnotin (units1 C) ha hb) hk) (se_cmp (op := .NotIn) (op_inSU (neg := true) (units65 C)) (C.hK ▸ mean_inS (neg := true)) ha hb hk)) ?_
  exact m2_two (gInU_cases (neg := true) fun v w H Q a o e g q => ⟨a, o, e, g, q⟩)
theorem c_inU (C : Can G X W k) (ha : SE G X W a fa) (hb : SE G X W b fb) (hk : behindInMarks .In b = false := by rfl) : SC G X W (.Compare a [.In] [b] pos) (m2 (gInU false) fa fb) := by
  refine pt_weak (pt_two (pt_cmp (pc_din (units1 C) ha hb) hk) (pt_cmpR (op := .In) (op_inSU (neg := false) (units65 C)) ha hb hk)) fun σ H Q h => ?_
  rcases m2_two (gInU_cases (neg := false) (R := fun v w H Q => ∃ a o, w = V.ref a ∧ DGet H a v o ∧ Q (.bl o.isSome) H) fun v w H Q a o e g q => ⟨a, o, e, g, q⟩) σ H _ h.to with h | h
  · exact .inl h
  · exact .inr (tOp_mean (C.hK ▸ mean_inS (neg := false)) σ H _ h)
theorem c_ninU (C : Can G X W k) (ha : SE G X W a fa) (hb : SE G X W b fb) (hk : behindInMarks .NotIn b = false := by rfl) : SC G X W (.Compare a [.NotIn] [b] pos) (m2 (gInU true) fa fb) := by
  refine pt_weak (pt_two (pt_cmp (pc_dnotin (units1 C) ha hb) hk) (pt_cmpR (op := .NotIn) (op_inSU (neg := true) (units65 C)) ha hb hk)) fun σ H Q h => ?_
  rcases m2_two (gInU_cases (neg := true) (R := fun v w H Q => ∃ a o, w = V.ref a ∧ DGet H a v o ∧ Q (.bl (!o.isSome)) H) fun v w H Q a o e g q => ⟨a, o, e, g, q⟩) σ H _ h.to with h | h
  · exact .inl h
  · exact .inr (tOp_mean (C.hK ▸ mean_inS (neg := true)) σ H _ h)
end
end Sh

/-! Sh30: sorted, of things alike. -/
namespace Sh
open PySem PySem.Spec PyProof.Rows L2
open PySem.W (alike alikeAll dataLt dataLe dataKind AllAlike Sortable SortsAt EachIs sortVals keyToks)

/-! ### tuples, some of them empty -/
section
variable {prog : Program} {w : World} {A : Around} {E : Value → Shared → Prop} {s : Shared}
theorem oneLt_tup {xs ys : List PyData} {a b : Value} {as bs : List Addr} {Q : Bool → Shared → Prop} (ra : Reads s.heap a (.tuple xs) as) (rb : Reads s.heap b (.tuple ys) bs) (hal : alikeAll xs ys = true)
    (hu : A.units + min (PyData.tuple xs).depth (PyData.tuple ys).depth < cLine) (hq : Q (dataLt (.tuple xs) (.tuple ys)) s) : wpAny (model prog w) A (oneLt' true a b) Q E s := by
  cases ra with
  | @tuple l o vs n _ as₁ h1 h2 h3 h4 =>
    cases rb with
    | @tuple l' o' vs' n' _ bs₁ k1 k2 k3 k4 =>
      have n1 : vs.size = xs.length := by simpa using SeqAt.ReadsAll.length _ _ _ h4
      have n2 : vs'.size = ys.length := by simpa using SeqAt.ReadsAll.length _ _ _ k4
      rw [PySem.W.dataLt_tuple, ← PySem.W.firstLt_toks xs ys hal, ← n1, ← n2] at hq
      rw [oneLt'_eq]
      simp only [if_true]
      refine wpAny_bind (PySem.wpAny_cRoomFor (SeqAt.room_here hu) ?_)
      obtain ⟨cls, dd, data, sl⟩ := o
      obtain ⟨cls2, dd2, data2, sl2⟩ := o'
      simp only at h2 h3 k2 k3
      subst h2 h3 k2 k3
      refine wpAny_bind (PySem.wpAny_callSpecialIfBound?_slot (T := "tuple") ⟨_, h1, rfl⟩ PySem.F.slot_tuple_lt (call_meets PySem.F.slot_tuple_lt ⟨_, h1, rfl⟩ PySem.F.entry_tuple_lt (PySem.F.args_tuple_lt_2 _ _) (SeqAt.tuple_ltAt l l' vs vs' n n' dd dd2 sl sl2 (SeqAt.pairEq xs ys) (fun j => dataLt (xs.getD j .none) (ys.getD j .none)))
        ⟨h1, k1, fun j j1 j2 => ?_, fun j j1 j2 hj => ?_, ?_⟩))
      · have := PySem.W.eqAt_alikeAll xs ys A.in1 s vs.toList vs'.toList _ _ h4 k4 hal (SeqAt.room_in hu) j (by simpa using j1) (by simpa using j2)
        simpa using this
      · have := PySem.W.rcLt_alikeAll xs ys A.in1 s vs.toList vs'.toList _ _ h4 k4 hal (SeqAt.room_in hu) j (by simpa using j1) (by simpa using j2) hj
        simpa using this
      · exact wpAny_truthy_bool hq
/-- the first items, if any -/
def Fsts (h : Heap) : List Value → List (Option Value) → Prop
  | [], [] => True
  | v :: vs, f :: fs => (∃ a o xs n, v = .ref a ∧ h.get? a = some o ∧ o.cls = .type "tuple" ∧ o.data = .seq xs n ∧ xs[0]? = f) ∧ Fsts h vs fs
  | _, _ => False
theorem fsts_run : ∀ (vs : List Value) (fs : List (Option Value)) {Q : List (Option Value) → Shared → Prop}, Fsts s.heap vs fs → Q fs s → wpAny (model prog w) A (vs.mapM firstOfTuple') Q E s
  | [], [], _, _, h => by rw [List.mapM_nil]; exact wpAny_pure h
  | [], _ :: _, _, t, _ => t.elim
  | _ :: _, [], _, t, _ => t.elim
  | v :: vs, f :: fs, Q, t, h => by
    obtain ⟨⟨a, o, xs, n, rfl, ho, hc, hd, hf⟩, t⟩ := t
    rw [List.mapM_cons]
    refine wpAny_bind ?_
    rw [PySem.W.kas_first_eq]
    refine wpAny_bind (PySem.W.Looks.here (show PySem.W.Looks (model prog w) s.heap (typeOf (.ref a)) o.cls from (PySem.W.Looks.ld ho).andThen .now) ?_)
    rw [hc, if_neg (by first | decide | simp)]
    refine wpAny_bind (listItems_at ho hd (wpAny_pure ?_))
    rw [hf]
    exact wpAny_bind (fsts_run vs fs (Q := fun bs s' => wpAny (model prog w) A (pure (f :: bs)) Q E s') t (wpAny_pure h))
theorem fsts_ty : ∀ {vs : List Value} {fs : List (Option Value)}, Fsts s.heap vs fs → ∀ v ∈ vs, PySem.W.Looks (model prog w) s.heap (typeOf v) (.type "tuple")
  | [], [], _, v, hv => by simp at hv
  | [], _ :: _, t, _, _ => t.elim
  | _ :: _, [], t, _, _ => t.elim
  | u :: vs, f :: fs, t, v, hv => by
    obtain ⟨⟨a, o, xs, n, rfl, ho, hc, hd, hf⟩, t⟩ := t
    rcases List.mem_cons.mp hv with rfl | hv
    · have z : PySem.W.Looks (model prog w) s.heap (typeOf (.ref a)) o.cls := (PySem.W.Looks.ld ho).andThen .now
      rw [hc] at z
      exact z
    · exact fsts_ty t v hv
/-- the sort's kind where a tuple is empty -/
def mixK (fs : List (Option Value)) : SortKind := if (fs.head?.bind id).isSome = true then general' else oneType'
theorem mix_kind {vs : List Value} {fs : List (Option Value)} {Q : SortKind → Shared → Prop} (t : Fsts s.heap vs fs) (h0 : 0 < vs.length) (hn : fs.all (·.isSome) = false) (h : Q (mixK fs) s) : wpAny (model prog w) A (keyKind' vs.toArray) Q E s := by
  rw [keyKind'_eq, List.mapM_toArray, map_eq_pure_bind]
  refine wpAny_bind (wpAny_bind (fsts_run vs fs t (wpAny_pure ?_)))
  have h1 : ¬ (fs.toArray.all fun x => x.isSome) = true := by rw [List.all_toArray, hn]; decide
  rw [if_neg h1]
  have h2 : fs.toArray[0]? = fs.head? := by simp [List.head?_eq_getElem?]
  rw [h2]
  unfold mixK at h
  by_cases h3 : (fs.head?.bind id).isSome = true
  · rw [if_pos h3] at h ⊢
    exact wpAny_pure h
  · rw [if_neg h3] at h ⊢
    rw [oneTypeOnly'_eq, List.mapM_toArray, map_eq_pure_bind]
    refine wpAny_bind (wpAny_bind (wpAny_bind (PySem.W.kas_mapM (r := Value.type "tuple") _ (fun v hv Q' hq => (fsts_ty t v hv).here hq) (wpAny_pure ?_))))
    obtain ⟨v₁, rest, rfl⟩ : ∃ v₁ rest, vs = v₁ :: rest := by
      cases vs with
      | nil => simp at h0
      | cons a b => exact ⟨a, b, rfl⟩
    have hall : ((List.map (fun _ => Value.type "tuple") (v₁ :: rest)).toArray.all fun x => x == Value.type "tuple") = true := by
      simp only [List.all_toArray, List.all_map, List.all_eq_true]
      intro _ _
      rfl
    have h0 : (List.map (fun _ => Value.type "tuple") (v₁ :: rest)).toArray[0]? = some (Value.type "tuple") := by simp
    rw [h0]
    simp only [hall, if_true]
    exact wpAny_pure (wpAny_pure h)
theorem each_fsts {h : Heap} : ∀ {vs : List Value} {ds : List PyData}, EachIs (fun v d => ∃ as, Reads h v d as) vs ds → (∀ d ∈ ds, ∃ xs, d = .tuple xs) → ∃ fs, Fsts h vs fs ∧ (fs.all (·.isSome) = true → ∀ d ∈ ds, ∃ x r, d = .tuple (x :: r))
  | _, _, .nil, _ => ⟨[], trivial, fun _ d hd => by simp at hd⟩
  | _, _, .cons (b := d) ⟨as, r⟩ t, ht => by
    obtain ⟨fs, h1, h2⟩ := each_fsts t fun d hd => ht d (List.mem_cons_of_mem _ hd)
    obtain ⟨xs, rfl⟩ := ht d (List.mem_cons_self ..)
    cases r with
    | @tuple a o ys n _ _ ho hc hd hr =>
      refine ⟨ys[0]? :: fs, ⟨⟨a, o, ys, n, rfl, ho, hc, hd, rfl⟩, h1⟩, fun ha d hd => ?_⟩
      rw [List.all_cons, Bool.and_eq_true] at ha
      rcases List.mem_cons.mp hd with rfl | hd
      · cases q : ys.toList with
        | nil =>
          have : ys[0]? = none := by rw [← Array.getElem?_toList, q]; rfl
          rw [this] at ha
          exact absurd ha.1 (by decide)
        | cons f fr =>
          rw [q] at hr
          cases hr with
          | cons r1 r2 => exact ⟨_, _, rfl⟩
      · exact h2 ha.2 d hd
/-- tuples, some empty perhaps -/
theorem sortsAt_tup {vs : List Value} {ds : List PyData} (e : EachIs (fun v d => ∃ as, Reads s.heap v d as) vs ds) (hal : AllAlike ds) (ht : ∀ d ∈ ds, ∃ xs, d = .tuple xs) (hu : ∀ d, d ∈ ds → A.units + d.depth < cLine) : SortsAt prog w A s (dataKind s.heap ds) vs := by
  obtain ⟨fs, t, h1⟩ := each_fsts e ht
  by_cases ha : fs.all (·.isSome) = true
  · exact SortsAt.data e hal (.inl (h1 ha)) hu
  · have ha : fs.all (·.isSome) = false := Bool.eq_false_iff.mpr ha
    refine ⟨fun v hv => ?_, mixK fs, ?_, fun h2 E Q hq => mix_kind t (by omega) ha hq⟩
    · obtain ⟨d, hd, as, r⟩ := e.left v hv
      exact ⟨_, PySem.W.dataKind_some hal hd r⟩
    · intro E x y a b Q ha hb hq
      obtain ⟨d, as, hd, ra, rfl⟩ := PySem.W.dataKind_inv ha
      obtain ⟨d', as', hd', rb, rfl⟩ := PySem.W.dataKind_inv hb
      have hdd := hal d hd d' hd'
      have hroom : A.units + min d.depth d'.depth < cLine := Nat.lt_of_le_of_lt (Nat.add_le_add_left (Nat.min_le_left _ _) _) (hu d hd)
      obtain ⟨xs, rfl⟩ := ht d hd
      obtain ⟨ys, rfl⟩ := ht d' hd'
      unfold mixK
      split
      · show wpAny (model prog w) A (oneLt' false x y) Q E s
        exact PySem.W.oneLt_alike (fun z => by cases z) ra rb hdd (by simp) hroom hq
      · rw [keyLt'_oneType]
        exact oneLt_tup ra rb (by simpa [alike] using hdd) hroom hq
end

/-! ### the stable sort, as a list -/
def insP {α : Type} (le : α → α → Bool) (x : α) : List α → List α
  | [] => [x]
  | y :: ys => if le x y = true then x :: y :: ys else y :: insP le x ys
def sortP {α : Type} (le : α → α → Bool) : List α → List α
  | [] => []
  | x :: xs => insP le x (sortP le xs)
section
variable {α : Type} {le : α → α → Bool}
theorem insP_mem {x y : α} : ∀ {l : List α}, y ∈ insP le x l ↔ y = x ∨ y ∈ l
  | [] => by simp [insP]
  | z :: l => by
    unfold insP
    split
    · simp
    · rw [List.mem_cons, insP_mem, List.mem_cons]
      constructor
      · rintro (h | h | h) <;> simp [h]
      · rintro (h | h | h) <;> simp [h]
theorem sortP_mem {y : α} : ∀ {l : List α}, y ∈ sortP le l ↔ y ∈ l
  | [] => by simp [sortP]
  | x :: l => by unfold sortP; rw [insP_mem, sortP_mem, List.mem_cons]
theorem insP_len {x : α} : ∀ {l : List α}, (insP le x l).length = l.length + 1
  | [] => rfl
  | z :: l => by
    unfold insP
    split
    · rfl
    · rw [List.length_cons, insP_len, List.length_cons]
theorem sortP_len : ∀ {l : List α}, (sortP le l).length = l.length
  | [] => rfl
  | x :: l => by unfold sortP; rw [insP_len, sortP_len, List.length_cons]
theorem insP_sorted (h : PySem.W.TotalLe le) {x : α} : ∀ {l : List α}, l.Pairwise (fun a b => le a b = true) → (insP le x l).Pairwise (fun a b => le a b = true)
  | [], _ => List.pairwise_singleton _ _
  | y :: ys, p => by
    unfold insP
    obtain ⟨p1, p2⟩ := List.pairwise_cons.mp p
    split
    · rename_i hxy
      refine List.pairwise_cons.mpr ⟨fun z hz => ?_, p⟩
      rcases List.mem_cons.mp hz with rfl | hz
      · exact hxy
      · exact h.trans _ _ _ hxy (p1 z hz)
    · rename_i hxy
      have hyx : le y x = true := (h.total x y).resolve_left hxy
      refine List.pairwise_cons.mpr ⟨fun z hz => ?_, insP_sorted h p2⟩
      rcases insP_mem.mp hz with rfl | hz
      · exact hyx
      · exact p1 z hz
theorem sortP_sorted (h : PySem.W.TotalLe le) : ∀ {l : List α}, (sortP le l).Pairwise (fun a b => le a b = true)
  | [] => List.Pairwise.nil
  | x :: l => insP_sorted h (sortP_sorted h)
theorem insP_filter (h : PySem.W.TotalLe le) {x c : α} : ∀ {l : List α}, (insP le x l).filter (PySem.W.sameRank le c) = (x :: l).filter (PySem.W.sameRank le c)
  | [] => rfl
  | y :: ys => by
    unfold insP
    split
    · rfl
    · rename_i hxy
      have hyx : le y x = true := (h.total x y).resolve_left hxy
      rw [List.filter_cons, insP_filter h, List.filter_cons, List.filter_cons, List.filter_cons]
      by_cases h1 : PySem.W.sameRank le c x = true
      · by_cases h2 : PySem.W.sameRank le c y = true
        · exfalso
          unfold PySem.W.sameRank at h1 h2
          rw [Bool.and_eq_true] at h1 h2
          exact hxy (h.trans _ _ _ h1.2 h2.1)
        · simp only [h1, h2, if_true, if_false]
          rfl
      · simp only [h1, if_false]
        rfl
theorem sortP_filter (h : PySem.W.TotalLe le) {c : α} : ∀ {l : List α}, (sortP le l).filter (PySem.W.sameRank le c) = l.filter (PySem.W.sameRank le c)
  | [] => rfl
  | x :: l => by
    unfold sortP
    rw [insP_filter h, List.filter_cons, sortP_filter h, List.filter_cons]
theorem sortP_merge (h : PySem.W.TotalLe le) (l : List α) : sortP le l = l.mergeSort le := PySem.W.sort_unique h (sortP_sorted h) fun c => sortP_filter h
end
end Sh

/-! Sh31: sorted of a list, of a dict's keys. -/
namespace Sh
open PySem PySem.Spec PyProof.Rows L2
open PySem.W (alike alikeAll dataLt dataLe dataKind AllAlike Sortable SortsAt EachIs sortVals keyToks)
theorem ofL {α : Type} (xs : Array α) : xs.toList.toArray = xs := by simp
section
variable {prog : Program} {w : World} {A : Around} {E : Value → Shared → Prop} {s : Shared}
/-- what collect tells: these values, all else kept -/
def Coll (prog : Program) (w : World) (A : Around) (r : Value) (P : List Value → Prop) (s : Shared) : Prop :=
  ∀ (R : List Value → Shared → Prop) (E' : Value → Shared → Prop), (∀ h' tk vs, P vs → (∀ b o, s.heap.get? b = some o → h'.get? b = some o) → R vs { s with heap := h', toks := tk }) → wpAny (model prog w) A (collect r) R E' s
theorem sorted_al {β : Type} {r : Addr} {P : List Value → Prop} {bs : List β} {enc : β → PyData} {Q : Value → Shared → Prop} (hc : Coll prog w A.in1 (.ref r) P s) (hL : ∀ vs, P vs → vs.length ≤ sizeLine) (er0 : ∀ vs, P vs → EachIs (fun v b => ∃ as, Reads s.heap v (enc b) as) vs bs)
    (hal : AllAlike (bs.map enc)) (hk : (∀ d ∈ bs.map enc, ∃ xs, d = .tuple xs) ∨ ∀ d ∈ bs.map enc, d ≠ .none ∧ ∀ xs, d ≠ .tuple xs) (hu : ∀ d, d ∈ bs.map enc → A.in1.in1.units + d.depth < cLine)
    (h : ∀ (h1 h' : Heap) tk d out n vs, P vs → (∀ b o, s.heap.get? b = some o → h1.get? b = some o) → (∀ b o, h1.get? b = some o → h'.get? b = some o) → h1.objs.size ≤ d → h'.get? d = some (seqObj "list" (List.toArray out) n) → (∀ R : Value → β → Prop, EachIs R vs bs → EachIs R out (bs.mergeSort (dataLe false enc))) → Q (.ref d) { s with heap := h', toks := tk }) :
    wpAny (model prog w) A (call (.builtin "sorted") [.ref r]) Q E s := by
  refine Calls.call_function_entry kind_sorted plain_sorted entry_sorted (args_sorted1 _) ?_
  unfold Builtin.«sorted»
  refine wpAny_bind (m := checkCount "sorted" 1 1 _) (wpAny_pure ?_)
  refine wpAny_bind (hc _ _ fun h' tk vs hP hkp => ?_)
  have er := er0 vs hP
  have hL := hL vs hP
  refine wpAny_bind (wpAny_newList ?_ hL)
  have hoL : (h'.push (seqObj "list" vs.toArray 0)).get? h'.objs.size = some (seqObj "list" vs.toArray 0) := Heap.get?_push_size _ rfl
  show wpAny _ _ _ _ _ { s with heap := h'.push (seqObj "list" vs.toArray 0), toks := tk }
  have keep : ∀ b o, s.heap.get? b = some o → (PySem.W.sortingHeap (h'.push (seqObj "list" vs.toArray 0)) h'.objs.size vs).get? b = some o := fun b o e => by
    have e' := hkp b o e
    exact PySem.W.sortingHeap_old (Nat.ne_of_lt (Heap.lt_size e')) (Heap.get?_push_of_some _ e')
  have er' : EachIs (fun v b => ∃ as, Reads (PySem.W.sortingHeap (h'.push (seqObj "list" vs.toArray 0)) h'.objs.size vs) v (enc b) as) vs bs := er.mono fun v b ⟨as, q⟩ => ⟨as, PyProof.Rows.Reads.keeps keep q⟩
  have S : SortsAt prog w A.in1.in1 { s with heap := PySem.W.sortingHeap (h'.push (seqObj "list" vs.toArray 0)) h'.objs.size vs, toks := tk } (dataKind (PySem.W.sortingHeap (h'.push (seqObj "list" vs.toArray 0)) h'.objs.size vs) (bs.map enc)) vs := by
    have em := PySem.W.each_map (R := fun v d => ∃ as, Reads (PySem.W.sortingHeap (h'.push (seqObj "list" vs.toArray 0)) h'.objs.size vs) v d as) enc er'
    rcases hk with hk | hk
    · exact sortsAt_tup (s := { s with heap := PySem.W.sortingHeap (h'.push (seqObj "list" vs.toArray 0)) h'.objs.size vs, toks := tk }) em hal hk hu
    · exact SortsAt.data (s := { s with heap := PySem.W.sortingHeap (h'.push (seqObj "list" vs.toArray 0)) h'.objs.size vs, toks := tk }) em hal (.inr hk) hu
  refine wpAny_bind (wpAny_holding (wpAny_call_entry slot_list_sort ⟨_, hoL, rfl⟩ entry_list_sort
    (PySem.W.list_sort_vals (s := { s with heap := h'.push (seqObj "list" vs.toArray 0), toks := tk }) hoL S hL ⟨_, rfl, ?_⟩) (args_list_sort _)))
  obtain ⟨e', he'⟩ := sortedHeap_at (vs := vs) (out := (sortVals (dataKind (PySem.W.sortingHeap (h'.push (seqObj "list" vs.toArray 0)) h'.objs.size vs) (bs.map enc)) false vs vs).toArray) hoL
  refine wpAny_pure ⟨_, rfl, h h' _ tk h'.objs.size _ e' vs hP hkp (fun b o e1 => ?_) (Nat.le_refl _) he' fun R hR => PySem.W.sortVals_data false hR er' hal⟩
  have hb := Heap.lt_size e1
  rw [sortedHeap_old (Nat.ne_of_lt hb) (by rw [size_push']; exact Nat.lt_succ_of_lt hb)]
  exact Heap.get?_push_of_some _ e1
end
/-! ### by values -/
def leD {α : Type} (p q : α × PyData) : Bool := !dataLt q.2 p.2
theorem leD_eq {α : Type} : (leD : α × PyData → α × PyData → Bool) = dataLe false Prod.snd := rfl
/-- xs by what they read as -/
def sortD {α : Type} (xs : List α) (ds : List PyData) : List α := (sortP leD (xs.zip ds)).map Prod.fst
def isTupD : PyData → Bool
  | .tuple _ => true
  | _ => false
def isNonD : PyData → Bool
  | .none => true
  | _ => false
/-- they can be sorted -/
def okSort (ds : List PyData) : Bool := (ds.all fun d => ds.all fun d' => alike d d') && (ds.all isTupD || ds.all fun d => !isTupD d && !isNonD d) && ds.all fun d => decide (d.depth ≤ 20)
theorem okSort_ok {ds : List PyData} (h : okSort ds = true) : AllAlike ds ∧ ((∀ d ∈ ds, ∃ xs, d = .tuple xs) ∨ ∀ d ∈ ds, d ≠ .none ∧ ∀ xs, d ≠ .tuple xs) ∧ ∀ d ∈ ds, d.depth ≤ 20 := by
  unfold okSort at h
  rw [Bool.and_eq_true, Bool.and_eq_true, Bool.or_eq_true] at h
  obtain ⟨⟨h1, h2⟩, h3⟩ := h
  refine ⟨fun d hd d' hd' => List.all_eq_true.mp (List.all_eq_true.mp h1 d hd) d' hd', ?_, fun d hd => of_decide_eq_true (List.all_eq_true.mp h3 d hd)⟩
  rcases h2 with h2 | h2
  · refine .inl fun d hd => ?_
    have z := List.all_eq_true.mp h2 d hd
    cases d <;> first | exact ⟨_, rfl⟩ | cases z
  · refine .inr fun d hd => ?_
    have z := List.all_eq_true.mp h2 d hd
    constructor
    · rintro rfl; exact absurd z (by decide)
    · rintro xs rfl; exact absurd z (by simp [isTupD])
theorem dpAll_len {K : PySem.W.Frag} {H : Hp} : ∀ {ys : List V} {ds : List PyData}, DpAll K H ys ds → ys.length = ds.length
  | _, _, .nil => rfl
  | _, _, .cons _ r => by rw [List.length_cons, List.length_cons, dpAll_len r]
theorem readsAll_zip {h : Heap} : ∀ {us : List Value} {ys : List V} {ds : List PyData} {as : List Addr}, ReadsAll h us ds as → Vals ys us → EachIs (fun u (b : V × PyData) => ∃ as, Reads h u b.2 as) us (ys.zip ds) ∧ EachIs (fun u (b : V × PyData) => RelV b.1 u) us (ys.zip ds)
  | _, _, _, _, .nil, r => by cases r; exact ⟨.nil, .nil⟩
  | _, _, _, _, .cons q qs, r => by
    cases r with
    | cons r rs =>
      obtain ⟨a, b⟩ := readsAll_zip qs rs
      exact ⟨.cons ⟨_, q⟩ a, .cons r b⟩
theorem each_vals : ∀ {us : List Value} {bs : List (V × PyData)}, EachIs (fun u b => RelV b.1 u) us bs → Vals (bs.map Prod.fst) us
  | _, _, .nil => .nil
  | _, _, .cons h t => .cons h (each_vals t)
theorem leD_total {α : Type} : PySem.W.TotalLe (leD : α × PyData → α × PyData → Bool) := PySem.W.sortLe_total (listOrd itemOrd) false (fun b : α × PyData => keyToks b.2)
theorem zip_snd {α β : Type} : ∀ {xs : List α} {ys : List β}, xs.length = ys.length → (xs.zip ys).map Prod.snd = ys
  | [], [], _ => rfl
  | [], _ :: _, h => by simp at h
  | _ :: _, [], h => by simp at h
  | x :: xs, y :: ys, h => by
    rw [List.zip_cons_cons, List.map_cons, zip_snd (by simpa using h)]
/-- sorted(l), sorted(d), by values -/
def rSortA (K : PySem.W.Frag) : List V → Hp → VK → Prop := fun vs H Q => ∃ (a : Addr) (ys : List V) (ds : List PyData), vs = [V.ref a] ∧
  (SqL K H a ys ∨ (∃ kvs : List (Key × V), Rd H a (.dK kvs) ∧ ys = kvs.map fun kv => kV kv.1)) ∧ DpAll K H ys ds ∧ okSort ds = true ∧ ys.length ≤ big ∧ ∀ p, H p = none → Q (.ref p) (upd H p (.lst (sortD ys ds)))
section
variable {X : Cx}
theorem coll_run {pins : List (Addr × Obj)} {s : Shared} {σ : L2.St} {H : Hp} {a : Addr} {ys : List V} {ds : List PyData} {Q : VK} (I : Inv X pins σ H s) (hu : X.A.units + 64 < cLine) (hc : Coll X.prog X.w X.A.in1 (.ref a) (Vals ys) s) (hd : DpAll X.K H ys ds) (ho : okSort ds = true) (hz : ys.length ≤ big)
    (q : ∀ p, H p = none → Q (.ref p) (upd H p (.lst (sortD ys ds)))) : wpAny (model X.prog X.w) X.A (call (.builtin "sorted") [.ref a]) (EP X pins σ Q) X.xe s := by
  have er : ∀ us, Vals ys us → EachIs (fun u (b : V × PyData) => ∃ as, Reads s.heap u b.2 as) us (ys.zip ds) ∧ EachIs (fun u (b : V × PyData) => RelV b.1 u) us (ys.zip ds) := fun us rv => by
    obtain ⟨as, ra⟩ := Dp.readsAll I ds ys us hd rv
    exact readsAll_zip ra rv
  obtain ⟨h1, h2, h3⟩ := okSort_ok ho
  have hm : (ys.zip ds).map Prod.snd = ds := zip_snd (dpAll_len hd)
  refine sorted_al (bs := ys.zip ds) (enc := Prod.snd) hc (fun us rv => by rw [← rv.length]; exact big_le hz) (fun us rv => (er us rv).1) (by rw [hm]; exact h1) (by rw [hm]; exact h2) (by rw [hm]; intro d hd; have := h3 d hd; show X.A.units + 1 + 1 + d.depth < cLine; omega) fun h1 h' tk d out n us rv k1 k2 hd' hn hR => ?_
  have I1 : Inv X pins σ H { s with heap := h1, toks := tk } := I.kept k1
  have ev := each_vals (hR _ (er us rv).2)
  rw [← leD_eq, ← sortP_merge leD_total] at ev
  have hl : (sortD ys ds).length = ys.length := by
    unfold sortD
    rw [List.length_map, sortP_len, List.length_zip, ← dpAll_len hd, Nat.min_self]
  refine ⟨.ref d, upd H d (.lst (sortD ys ds)), I1.laid (t' := tk) k2 hd' ⟨by rw [hl]; exact big_le hz, out, n, ev, hn⟩, rfl, q _ (I1.hok.fresh hd')⟩
theorem cr_sortA (hcalm : X.calm = true) (hu : X.A.units + 64 < cLine) : CallR X (.builtin "sorted") (rSortA X.K) := by
  intro pins s σ H vs us Q I r h
  obtain ⟨a, ys, ds, rfl, hs, hd, ho, hz, q⟩ := h
  obtain ⟨u, rfl, ru⟩ := vals1 r
  obtain rfl : u = Value.ref a := ru
  rcases hs with hs | ⟨kvs, hk, rfl⟩
  · obtain ⟨its, rv, hl, hz'⟩ := I.list hs
    refine coll_run I hu (fun R E' hR => collect_list hl.isList ?_ (by rw [← rv.length]; exact big_le hz)) hd ho hz q
    refine hR _ s.toks _ rv fun b o e => ?_
    have hb := Heap.lt_size e
    rw [Heap.get?_update_ne _ _ _ _ (Nat.ne_of_lt hb)]
    exact Heap.get?_push_of_some _ e
  · obtain ⟨z, lo, ws, rel, dd⟩ := dk_rd I.hok hk
    obtain ⟨ep, hat⟩ := dd.dictAt
    have hl : kvs.length = ws.length := KV.length rel
    refine coll_run I hu (fun R E' hR => PySem.W.kdu_collect (A := X.A.in1) (PySem.W.kdl_dict (knd := mixKind X.prog X.w) (kvs := ws) (ep := ep) lo) (I.ok.hd hcalm) hat (by rw [← hl]; exact z) fun h' tk acc hk hacc => ?_) hd ho hz q
    refine hR h' tk _ (vals_of_at (by have z1 := hacc.1; simp only [List.length_map, Array.length_toList]; omega) fun j x u h1 h2 => ?_) hk
    obtain ⟨k, y, hky, hi⟩ := hacc.2 j u (by rw [← Array.getElem?_toList]; exact h2)
    have e1 : (kvs.map (·.1))[j]? = some k := by rw [KV.keys rel, List.getElem?_map, hky]; rfl
    have e2 : (kvs.map fun kv => kV kv.1)[j]? = some (kV k) := by
      have e3 : (kvs.map fun kv => kV kv.1) = (kvs.map (·.1)).map kV := by rw [List.map_map]; rfl
      rw [e3, List.getElem?_map, e1]; rfl
    rw [e2] at h1
    cases h1
    exact keyIs_rel hi
/-- sorted(d), d of tuple keys -/
def rSortT (K : PySem.W.Frag) : List V → Hp → VK → Prop := fun vs H Q => ∃ (a : Addr) (kvs : List (List Key × V)) (ds : List PyData), vs = [V.ref a] ∧ Rd H a (.dT kvs) ∧ okSort ds = true ∧ kvs.length ≤ big ∧
  ∀ bs, IsKeys H kvs bs → DpAll K H (bs.map V.ref) ds ∧ ∀ p, H p = none → Q (.ref p) (upd H p (.lst (sortD (bs.map V.ref) ds)))
theorem cr_sortT (hcalm : X.calm = true) (hu : X.A.units + 64 < cLine) : CallR X (.builtin "sorted") (rSortT X.K) := by
  intro pins s σ H vs us Q I r h
  obtain ⟨d, kvs, ds, rfl, hd, ho, hz, q⟩ := h
  obtain ⟨u, rfl, ru⟩ := vals1 r
  obtain rfl : u = Value.ref d := ru
  obtain ⟨z, hs, ks, pr, o, es, ep, ho', hx, hdt, he, hn⟩ := (show ObjOk X.prog X.w H s.heap d (.dT kvs) from hd.ok I.hok)
  have l1 : es.size = ks.length := size_of_entries he
  have l2 : kvs.length = ks.length := Paired.length pr
  obtain ⟨q1, q2⟩ := q _ (isKeys_of pr)
  refine coll_run I hu (fun R E' hR => PySem.W.kdu_collect (A := X.A.in1) (kdl_raw hs hx hdt) (I.ok.hd hcalm) ho' (by omega) fun h' tk acc' hk it => ?_) q1 ho (by simp only [List.length_map]; omega) q2
  have ea : acc'.toList = ks.map fun x => Value.ref x.2.1 := by
    have hl : acc'.toList.length = ks.length := by rw [Array.length_toList, it.1]; exact l1
    apply List.ext_getElem?
    intro j
    rw [List.getElem?_map]
    cases hj : acc'.toList[j]? with
    | none =>
      have h1 := List.getElem?_eq_none_iff.mp hj
      rw [List.getElem?_eq_none (by omega)]
      all_goals rfl
    | some v =>
      obtain ⟨en, hen, hv⟩ := it.2 j v (by rw [← Array.getElem?_toList]; exact hj)
      have qe := entry_at he j
      rw [hen] at qe
      cases hb : ks[j]? with
      | none =>
        rw [hb] at qe
        exact nomatch (show some en = none from qe)
      | some b =>
        rw [hb] at qe
        have e2 : en = entryOfKey (tupleKind (mixKind X.prog X.w)) b := Option.some.inj qe
        rw [hv, e2]
        all_goals rfl
  have eb : acc'.toList = (ks.map fun x => x.2.1).map Value.ref := by rw [ea, List.map_map]; all_goals rfl
  exact hR h' tk _ (by rw [eb]; exact vals_refs _) hk
end
/-! ### sorted as a meaning -/
def keysI (x : IV) (h : IH) : Option (List IV) := match x with
  | .fz ys => some ys
  | .ref n => match h[n]? with
    | some (.lst ys) => some ys
    | some (.dic _ kvs) => some (kvs.map (·.1))
    | some (.dicL _ kvs) => some (kvs.map (·.1))
    | _ => none
  | _ => none
def gSorted : Fn := fun xs h => match xs with
  | [x] => match keysI x h with
    | some ys => match mapO (dat 9 h) ys with
      | some ds => if okSort ds = true ∧ ys.length ≤ big then .ok (.fz (sortD ys ds)) h else .bad
      | none => .bad
    | none => .bad
  | _ => .bad
section
variable {K : PySem.W.Frag} {ι : List Addr} {H : Hp}
/-- two lists go together, item by item, with the same data -/
inductive RVz (K : PySem.W.Frag) (ι : List Addr) (H : Hp) : List (IV × PyData) → List (V × PyData) → Prop
  | nil : RVz K ι H [] []
  | cons {x v d xs vs} : RV K ι H x v → RVz K ι H xs vs → RVz K ι H ((x, d) :: xs) ((v, d) :: vs)
theorem RVz.of : ∀ {xs : List IV} {vs : List V} {ds : List PyData}, RVs K ι H xs vs → RVz K ι H (xs.zip ds) (vs.zip ds)
  | [], _, _, r => by unfold RVs at r; subst r; exact .nil
  | x :: xs, _, [], r => by
    unfold RVs at r
    obtain ⟨v, w, rfl, rv, rs⟩ := r
    exact .nil
  | x :: xs, _, d :: ds, r => by
    unfold RVs at r
    obtain ⟨v, w, rfl, rv, rs⟩ := r
    exact .cons rv (RVz.of rs)
theorem RVz.ins {x : IV} {v : V} {d : PyData} (rx : RV K ι H x v) : ∀ {xs : List (IV × PyData)} {vs : List (V × PyData)}, RVz K ι H xs vs → RVz K ι H (insP leD (x, d) xs) (insP leD (v, d) vs)
  | _, _, .nil => .cons rx .nil
  | _, _, .cons (x := x') (v := v') (d := e) r rs => by
    unfold insP
    by_cases h : leD (x, d) (x', e) = true
    · rw [if_pos h, if_pos (show leD (v, d) (v', e) = true from h)]
      exact .cons rx (.cons r rs)
    · rw [if_neg h, if_neg (show ¬ leD (v, d) (v', e) = true from h)]
      exact .cons r (RVz.ins rx rs)
theorem RVz.sort : ∀ {xs : List (IV × PyData)} {vs : List (V × PyData)}, RVz K ι H xs vs → RVz K ι H (sortP leD xs) (sortP leD vs)
  | _, _, .nil => .nil
  | _, _, .cons r rs => RVz.ins r (RVz.sort rs)
theorem RVz.fst : ∀ {xs : List (IV × PyData)} {vs : List (V × PyData)}, RVz K ι H xs vs → RVs K ι H (xs.map Prod.fst) (vs.map Prod.fst)
  | _, _, .nil => RVs.nil
  | _, _, .cons r rs => RVs.cons r (RVz.fst rs)
theorem RVs.sort {xs : List IV} {vs : List V} {ds : List PyData} (r : RVs K ι H xs vs) : RVs K ι H (sortD xs ds) (sortD vs ds) := (RVz.of r).sort.fst
theorem kV_iff {k : Key} : RV K ι H (kI k) (kV k) := by
  cases k with
  | inl i => exact int_iff.mpr rfl
  | inr s => exact str_iff.mpr (by show V.str s = V.str (sS s.cps.toList); rw [sS_toList])
theorem RKs.keysV : ∀ {kvs : List (IV × IV)} {ws : List (Key × V)}, RKs K ι H kvs ws → RVs K ι H (kvs.map (·.1)) (ws.map fun kv => kV kv.1)
  | [], _, r => by unfold RKs at r; subst r; exact RVs.nil
  | x :: xs, _, ⟨k, v, r, q, e, a, b⟩ => by
    subst q
    rw [List.map_cons, List.map_cons, e]
    exact RVs.cons kV_iff (RKs.keysV b)
theorem kVs_iff : ∀ {ks : List Key}, RVs K ι H (ks.map kI) (ks.map kV)
  | [] => RVs.nil
  | k :: ks => RVs.cons kV_iff kVs_iff
theorem RTs.keysV : ∀ {kvs : List (IV × IV)} {ws : List (List Key × V)} {bs : List Addr}, RTs K ι H kvs ws → IsKeys H ws bs → RVs K ι H (kvs.map (·.1)) (bs.map V.ref)
  | [], _, _, r, k => by unfold RTs at r; subst r; cases k; exact RVs.nil
  | x :: xs, _, _, ⟨k, v, r, q, e, a, b⟩, ik => by
    subst q
    cases ik with
    | cons h t =>
      rw [List.map_cons, List.map_cons, e]
      exact RVs.cons (tup_iff.mpr ⟨_, _, rfl, h, kVs_iff⟩) (RTs.keysV b t)
end
section
variable {G : Gx} {X : Cx} {W : WX} {e : Expr} {es : List Expr} {fs : IE → M (List IV)} {p pos : Pos} {k : Nat}
theorem callR_or {f : Value} {r r' : List V → Hp → VK → Prop} (a : CallR X f r) (b : CallR X f r') : CallR X f (fun xs H Q => r xs H Q ∨ r' xs H Q) := by
  intro pins s σ H xs us Q I rv h
  rcases h with h | h
  · exact a pins s σ H xs us Q I rv h
  · exact b pins s σ H xs us Q I rv h
theorem mean_sorted : MeanCF G (fun xs H Q => rSortA G.K xs H Q ∨ rSortT G.K xs H Q) gSorted := by
  intro xs vs ι h H Q Wh rx rh pr
  unfold gSorted at pr
  split at pr
  · rename_i x
    obtain ⟨v, rfl, rv⟩ := rx.un1
    split at pr
    · rename_i ys hk
      split at pr
      · rename_i ds hd
        split at pr
        · rename_i hz
          obtain ⟨ho, hl⟩ := hz
          have fin : ∀ vs, RVs G.K ι H ys vs → ∀ p, H p = none → QF Q (.ref p) (upd H p (.lst (sortD vs ds))) := fun vs rs p hp => qf_new pr rh hp (RVs.sort rs)
          have dp : ∀ vs, RVs G.K ι H ys vs → DpAll G.K H vs ds := fun vs rs => dp_all (fun x v d a b => dp_of rh 9 x v d a b) ys vs ds rs hd
          unfold keysI at hk
          split at hk
          · rename_i zs
            cases hk
            obtain ⟨a, vs, rfl, hv, rs⟩ := fz_iff.mp rv
            exact .inl ⟨a, vs, ds, rfl, .inl hv.sq, dp vs rs, ho, by rw [← rs.len]; exact hl, fin vs rs⟩
          · rename_i n
            obtain ⟨a, ia, rfl⟩ := ref_iff.mp rv
            cases z0 : h[n]? with
            | none => rw [z0] at hk; cases hk
            | some ob =>
              rw [z0] at hk
              have ro := rh.at z0 ia
              have mainK : ∀ (kvs : List (IV × IV)) (ws : List (Key × V)), ys = kvs.map (·.1) → Rd H a (.dK ws) → RKs G.K ι H kvs ws → rSortA G.K [V.ref a] H (QF Q) := by
                rintro kvs ws rfl hr rs
                exact ⟨a, _, ds, rfl, .inr ⟨ws, hr, rfl⟩, dp _ rs.keysV, ho, by rw [← rs.keysV.len]; exact hl, fin _ rs.keysV⟩
              have mainT : ∀ (kvs : List (IV × IV)) (ws : List (List Key × V)), ys = kvs.map (·.1) → Rd H a (.dT ws) → RTs G.K ι H kvs ws → rSortT G.K [V.ref a] H (QF Q) := by
                rintro kvs ws rfl hr rs
                refine ⟨a, ws, ds, rfl, hr, ho, ?_, fun bs ik => ⟨dp _ (rs.keysV ik), fin _ (rs.keysV ik)⟩⟩
                have := rs.len
                rw [List.length_map] at hl
                omega
              cases ob with
              | lst zs =>
                simp only [Option.some.injEq] at hk
                subst hk
                obtain ⟨vs, hv, rs⟩ := ro
                exact .inl ⟨a, vs, ds, rfl, .inl (SqL.of hv), dp vs rs, ho, by rw [← rs.len]; exact hl, fin vs rs⟩
              | dic t kvs =>
                simp only [Option.some.injEq] at hk
                cases t with
                | false => obtain ⟨ws, hw, rs⟩ := ro; exact .inl (mainK kvs ws hk.symm (.inl hw) rs)
                | true => obtain ⟨ws, hw, rs⟩ := ro; exact .inr (mainT kvs ws hk.symm (.inl hw) rs)
              | dicL t kvs =>
                simp only [Option.some.injEq] at hk
                cases t with
                | false => obtain ⟨o, ws, hw, rs⟩ := ro; exact .inl (mainK kvs ws hk.symm (.inr ⟨o, hw⟩) rs)
                | true => obtain ⟨o, ws, hw, rs⟩ := ro; exact .inr (mainT kvs ws hk.symm (.inr ⟨o, hw⟩) rs)
              | _ => cases hk
          · cases hk
        · exact pr.elim
      · exact pr.elim
    · exact pr.elim
  · exact pr.elim
theorem bt_sorted : bootBuiltins "sorted" = some (.builtin "sorted") := by decide +kernel
theorem e_sorted (C : Can G X W k) (hm : X.mg "sorted" = none) (hg : Gl X "sorted") (ha : SA G X W (e :: es) fs) (he : starEach (e :: es) X.env = (false, eval e X.env) :: starEach es X.env := by rfl) (hpl : (backTo pos (starEach es X.env)).any (·.1) = false := by rfl) : SE G X W (.Call (.Name "sorted" p) (e :: es) [] pos) (mCall gSorted fs) :=
  se_callBF (callR_or (cr_sortA C.calm C.room.units) (cr_sortT C.calm C.room.units)) (C.hK ▸ mean_sorted) hg hm bt_sorted ha (by decide) (by decide) he hpl
end
end Sh

/-! Sh32: texts. -/
namespace Sh
open PySem PySem.Spec PyProof.Rows L2
def strs? : List IV → Option (List (List Nat))
  | [] => some []
  | .str x :: r => (strs? r).map (x :: ·)
  | _ :: _ => none
section
variable {K : PySem.W.Frag} {ι : List Addr} {H : Hp}
theorem strs_ok : ∀ {xs : List IV} {vs : List V} {ys : List (List Nat)}, RVs K ι H xs vs → strs? xs = some ys → vs = (ys.map sS).map V.str
  | [], _, _, r, e => by unfold RVs at r; subst r; cases e; rfl
  | x :: xs, _, ys, r, e => by
    unfold RVs at r
    obtain ⟨v, w, rfl, rv, rs⟩ := r
    cases x <;> try cases e
    rename_i z
    unfold strs? at e
    obtain ⟨zs, h1, rfl⟩ := Option.map_eq_some_iff.mp e
    obtain rfl := str_iff.mp rv
    rw [strs_ok rs h1]
    rfl
theorem strs_rv : ∀ {ys : List (List Nat)}, RVs K ι H (ys.map IV.str) ((ys.map sS).map V.str)
  | [] => RVs.nil
  | y :: ys => RVs.cons (str_iff.mpr rfl) strs_rv
end
theorem strs_map : ∀ ys : List (List Nat), strs? (ys.map IV.str) = some ys
  | [] => rfl
  | y :: ys => by
    show (strs? (ys.map IV.str)).map (y :: ·) = some (y :: ys)
    rw [strs_map ys]
    rfl
/-! lower, split, join, partition, rpartition, index -/
def gLower : IV → List IV → M IV := fun x xs h => match x, xs with
  | .str a, [] => if a.all (· < 128) = true ∧ a.length ≤ 5000000 then .ok (.str (a.map lo1)) h else .bad
  | _, _ => .bad
def gSplit : IV → List IV → M IV := fun x xs h => match x, xs with
  | .str a, [.str (c :: b)] => if (c :: b).all (· < 256) = true ∧ a.length ≤ big then .ok (.fz ((TL.spl (c :: b) 0 [] a).map .str)) h else .bad
  | _, _ => .bad
def seqI (x : IV) (h : IH) : Option (List IV) := match x with
  | .tup xs => some xs
  | .fz xs => some xs
  | .ref n => match h[n]? with
    | some (.lst xs) => some xs
    | _ => none
  | _ => none
def gJoin : IV → List IV → M IV := fun x xs h => match x, xs with
  | .str a, [y] => match seqI y h with
    | some zs => match strs? zs with
      | some ys => if (ys.map (·.length)).sum + ys.length * a.length ≤ 10000000 then .ok (.str (TL.joinL a ys)) h else .bad
      | none => .bad
    | none => .bad
  | _, _ => .bad
def gPart : IV → List IV → M IV := fun x xs h => match x, xs with
  | .str a, [.str (c :: b)] => if a.length ≤ big then (match TL.par (c :: b) [] a with
    | some (p, q) => .ok (.tup [.str p, .str (c :: b), .str q]) h
    | none => .ok (.tup [.str a, .str [], .str []]) h) else .bad
  | _, _ => .bad
def rpar (a b : List Nat) : List Nat × List Nat × List Nat := match Builtin.Str.lastOccurrence (sS a) (sS b) 0 a.length with
  | some i => (a.take i, b, a.drop (i + b.length))
  | none => ([], [], a)
def gRPart : IV → List IV → M IV := fun x xs h => match x, xs with
  | .str a, [.str (c :: b)] => if a.length ≤ big then .ok (.tup [.str (rpar a (c :: b)).1, .str (rpar a (c :: b)).2.1, .str (rpar a (c :: b)).2.2]) h else .bad
  | _, _ => .bad
def gIndexS : IV → List IV → M IV := fun x xs h => match x, xs with
  | .str a, [.str b] => match Txt.index0 (sS a) (sS b) with
    | some k => .ok (.int (k : Nat)) h
    | none => .bad
  | _, _ => .bad
def gFind : IV → List IV → M IV := fun x xs h => match x, xs with
  | .str a, [.str b] => .ok (.int (Txt.find (sS a) (sS b))) h
  | _, _ => .bad
theorem sS_nil : sS [] = Str.empty := rfl
theorem S_sS (x : List Nat) : SX.S x = sS x := rfl
section
variable {G : Gx} {X : Cx} {W : WX} {a b c e o : Expr} {fa fb fc fo : ME} {p pos pos' apos cpos : Pos} {es rest : List Expr} {fs : IE → M (List IV)} {k : Nat}
theorem mean_lower : MeanM G (fun x xs H Q => ∃ a, x = .str a ∧ xs = [] ∧ a.length ≤ 5592405 ∧ Q (.str (Txt.lower a)) H) gLower := by
  intro x xs v vs ι h H Q rx rs rh p
  unfold gLower at p
  split at p
  · rename_i a
    obtain rfl := str_iff.mp rx
    unfold RVs at rs
    subst rs
    split at p
    · rename_i hz
      refine ⟨sS a, rfl, rfl, by rw [sS_len]; omega, ?_⟩
      rw [← S_sS, SX.lower_S hz.1, S_sS]
      exact p ι H _ (Aft.refl rh) (str_iff.mpr rfl)
    · exact p.elim
  · exact p.elim
theorem mean_split : MeanMF G (fun x xs H Q => ∃ a b, x = .str a ∧ xs = [.str b] ∧ (b.length == 0) = false ∧ a.length + 2 ≤ sizeLine ∧ rNewStrs (Txt.split a b) H Q) gSplit := by
  intro x xs v vs ι h H Q rx rs rh p
  unfold gSplit at p
  split at p
  · rename_i a c b
    obtain rfl := str_iff.mp rx
    obtain ⟨w, rfl, rw'⟩ := rs.un1
    obtain rfl := str_iff.mp rw'
    split at p
    · rename_i hz
      refine ⟨sS a, sS (c :: b), rfl, rfl, by rw [sS_len]; rfl, by rw [sS_len]; exact Nat.le_trans (Nat.add_le_add_right hz.2 2) (by decide), ?_⟩
      intro q hq
      rw [← S_sS, ← S_sS, SX.split_S (by simp) hz.1]
      exact qf_new p rh hq strs_rv
    · exact p.elim
  · exact p.elim
theorem mean_join : MeanM G (fun x xs H Q => ∃ a p, ∃ ys : List Str, x = .str a ∧ xs = [.ref p] ∧ (SqL G.K H p (ys.map V.str) ∨ SqT G.K H p (ys.map V.str)) ∧
    (ys.map (·.length)).sum + ys.length * a.length ≤ 16777216 ∧ Q (.str (Txt.join a ys)) H) gJoin := by
  intro x xs v vs ι h H Q rx rs rh p
  unfold gJoin at p
  split at p
  · rename_i a y
    obtain rfl := str_iff.mp rx
    obtain ⟨w, rfl, rw'⟩ := rs.un1
    split at p
    · rename_i zs hzs
      split at p
      · rename_i ys hys
        split at p
        · rename_i hz
          have sq : ∃ q, w = .ref q ∧ (SqL G.K H q ((ys.map sS).map V.str) ∨ SqT G.K H q ((ys.map sS).map V.str)) := by
            unfold seqI at hzs
            split at hzs
            · cases hzs
              obtain ⟨q, vs, rfl, hq, rvs⟩ := tup_iff.mp rw'
              rw [strs_ok rvs hys] at hq
              exact ⟨q, rfl, .inr (SqT.of hq)⟩
            · cases hzs
              obtain ⟨q, vs, rfl, hq, rvs⟩ := fz_iff.mp rw'
              have hq := hq.sq
              rw [strs_ok rvs hys] at hq
              exact ⟨q, rfl, .inl hq⟩
            · rename_i n
              obtain ⟨q, iq, rfl⟩ := ref_iff.mp rw'
              split at hzs
              · rename_i zs' z
                cases hzs
                obtain ⟨vs, hv, rvs⟩ := rh.at z iq
                rw [strs_ok rvs hys] at hv
                exact ⟨q, rfl, .inl (SqL.of hv)⟩
              · cases hzs
            · cases hzs
          obtain ⟨q, rfl, sq⟩ := sq
          refine ⟨sS a, q, ys.map sS, rfl, rfl, sq, ?_, ?_⟩
          · have e1 : (ys.map sS).map (·.length) = ys.map (·.length) := SX.lens ys
            rw [e1, List.length_map, sS_len]
            omega
          · have e1 : Txt.join (sS a) (ys.map sS) = sS (TL.joinL a ys) := SX.join_S a ys
            rw [e1]
            exact p ι H _ (Aft.refl rh) (str_iff.mpr rfl)
        · exact p.elim
      · exact p.elim
    · exact p.elim
  · exact p.elim
theorem tup3 {ι : List Addr} {h : IH} {H : Hp} {Q : VK} {Wh : Value → Option Addr → Hp → Prop} {x y z : List Nat} (rh : RH G ι h H) (p : PR G Wh ι H Q (.ok (.tup [.str x, .str y, .str z]) h)) : ∀ q, H q = none → Q (.ref q) (upd H q (.tup [.str (sS x), .str (sS y), .str (sS z)])) := fun q hq => by
  have af := Aft.fresh rh hq (.tup [.str (sS x), .str (sS y), .str (sS z)])
  exact p ι _ _ af (tup_iff.mpr ⟨q, _, rfl, upd_same, RVs.cons (str_iff.mpr rfl) (RVs.cons (str_iff.mpr rfl) (RVs.one (str_iff.mpr rfl)))⟩)
theorem mean_part : MeanM G (fun x xs H Q => ∃ a b, x = .str a ∧ xs = [.str b] ∧ (b.length == 0) = false ∧ a.length ≤ sizeLine ∧
    ∀ p, H p = none → Q (.ref p) (upd H p (.tup [.str (Txt.partition a b).1, .str (Txt.partition a b).2.1, .str (Txt.partition a b).2.2]))) gPart := by
  intro x xs v vs ι h H Q rx rs rh p
  unfold gPart at p
  split at p
  · rename_i a c b
    obtain rfl := str_iff.mp rx
    obtain ⟨w, rfl, rw'⟩ := rs.un1
    obtain rfl := str_iff.mp rw'
    split at p
    · rename_i hz
      refine ⟨sS a, sS (c :: b), rfl, rfl, by rw [sS_len]; rfl, by rw [sS_len]; exact big_le hz, ?_⟩
      split at p
      · rename_i u w hp
        have e : Txt.partition (sS a) (sS (c :: b)) = (sS u, sS (c :: b), sS w) := SX.partition_some (by simp) hp
        rw [e]
        exact tup3 rh p
      · rename_i hp
        have e : Txt.partition (sS a) (sS (c :: b)) = (sS a, sS [], sS []) := SX.partition_none (by simp) hp
        rw [e]
        exact tup3 rh p
    · exact p.elim
  · exact p.elim
theorem sub_take (a : List Nat) (i : Nat) : Builtin.Str.strSub (sS a) 0 i = sS (a.take i) := by
  refine TL.ext_tl ?_
  show TL.tl (Builtin.Str.strSub (sS a) 0 i) = _
  rw [TL.tl_strSub]
  show ((sS a).cps.toList.drop 0).take (i - 0) = (sS (a.take i)).cps.toList
  rw [sS_cps, sS_cps, List.drop_zero, Nat.sub_zero]
theorem sub_drop (a : List Nat) (i : Nat) : Builtin.Str.strSub (sS a) i (sS a).length = sS (a.drop i) := by
  refine TL.ext_tl ?_
  show TL.tl (Builtin.Str.strSub (sS a) i (sS a).length) = _
  rw [TL.tl_strSub_end]
  show (sS a).cps.toList.drop i = (sS (a.drop i)).cps.toList
  rw [sS_cps, sS_cps]
/-- x.rpartition(sep) -/
theorem mt_rpart : MtR X "str.rpartition" (fun x xs H Q => ∃ a b : List Nat, x = .str (sS a) ∧ xs = [.str (sS b)] ∧ b ≠ [] ∧ a.length ≤ sizeLine ∧
    ∀ p, H p = none → Q (.ref p) (upd H p (.tup [.str (sS (rpar a b).1), .str (sS (rpar a b).2.1), .str (sS (rpar a b).2.2)]))) := by
  intro pins s σ H x xs v us Q I rx rs h
  obtain ⟨a, b, rfl, rfl, hb, hz, h⟩ := h
  obtain ⟨t, rfl⟩ := rx
  cases rs with
  | cons r1 rs =>
    cases rs
    obtain ⟨u, rfl⟩ := r1
    have hb' : ((sS b).length == 0) = false := by
      rw [sS_len]
      cases b with
      | nil => exact absurd rfl hb
      | cons _ _ => rfl
    refine call_meets PySem.F.slot_str_rpartition (typeIs_str _ _ _) PySem.F.entry_str_rpartition (PySem.F.args_str_rpartition_2 _ _) (meets_str_rpartition (sS a) (sS b) t u hb' (by rw [sS_len]; exact hz)) ?_
    unfold rpar at h
    have hl : (sS a).length = a.length := sS_len a
    rw [hl]
    revert h
    cases Builtin.Str.lastOccurrence (sS a) (sS b) 0 a.length with
    | none => intro h; exact laid_parts I h
    | some i =>
      intro h
      have e1 := sub_take a i
      have e2 : Builtin.Str.strSub (sS a) (i + (sS b).length) a.length = sS (a.drop (i + b.length)) := by
        rw [← hl, sS_len b]
        exact sub_drop a _
      dsimp only
      rw [e1, e2]
      exact laid_parts I h
theorem mean_rpart : MeanM G (fun x xs H Q => ∃ a b : List Nat, x = .str (sS a) ∧ xs = [.str (sS b)] ∧ b ≠ [] ∧ a.length ≤ sizeLine ∧
    ∀ p, H p = none → Q (.ref p) (upd H p (.tup [.str (sS (rpar a b).1), .str (sS (rpar a b).2.1), .str (sS (rpar a b).2.2)]))) gRPart := by
  intro x xs v vs ι h H Q rx rs rh p
  unfold gRPart at p
  split at p
  · rename_i a c b
    obtain rfl := str_iff.mp rx
    obtain ⟨w, rfl, rw'⟩ := rs.un1
    obtain rfl := str_iff.mp rw'
    split at p
    · rename_i hz
      exact ⟨a, c :: b, rfl, rfl, by simp, big_le hz, tup3 rh p⟩
    · exact p.elim
  · exact p.elim
theorem mt_index0 : MtR X "str.index" (fun x xs H Q => ∃ (a b : Str) (k : Nat), x = .str a ∧ xs = [.str b] ∧ Txt.index0 a b = some k ∧ Q (.int (k : Nat)) H) := by
  intro pins s σ H x xs v us Q I rx rs h
  obtain ⟨a, b, k, rfl, rfl, hk, h⟩ := h
  obtain ⟨t, rfl⟩ := rx
  cases rs with
  | cons r1 rs =>
    cases rs
    obtain ⟨u, rfl⟩ := r1
    unfold Txt.index0 at hk
    cases q : Builtin.Str.occurrences a b 0 a.length 1 with
    | nil => rw [q] at hk; cases hk
    | cons j rest =>
      rw [q] at hk
      cases hk
      exact PySem.SC.index q ⟨.int (k : Nat), H, I.tok _, ⟨_, rfl⟩, h⟩
theorem mean_indexS : MeanM G (fun x xs H Q => ∃ (a b : Str) (k : Nat), x = .str a ∧ xs = [.str b] ∧ Txt.index0 a b = some k ∧ Q (.int (k : Nat)) H) gIndexS := by
  intro x xs v vs ι h H Q rx rs rh p
  unfold gIndexS at p
  split at p
  · rename_i a b
    obtain rfl := str_iff.mp rx
    obtain ⟨w, rfl, rw'⟩ := rs.un1
    obtain rfl := str_iff.mp rw'
    split at p
    · rename_i k hk
      exact ⟨_, _, k, rfl, rfl, hk, p ι H _ (Aft.refl rh) (int_iff.mpr rfl)⟩
    · exact p.elim
  · exact p.elim
theorem mean_find : MeanM G (fun x xs H Q => ∃ a b, x = .str a ∧ xs = [.str b] ∧ Q (.int (Txt.find a b)) H) gFind := by
  intro x xs v vs ι h H Q rx rs rh p
  unfold gFind at p
  split at p
  · rename_i a b
    obtain rfl := str_iff.mp rx
    obtain ⟨w, rfl, rw'⟩ := rs.un1
    obtain rfl := str_iff.mp rw'
    exact ⟨_, _, rfl, rfl, p ι H _ (Aft.refl rh) (int_iff.mpr rfl)⟩
  · exact p.elim
end
end Sh

/-! Sh33: texts repeated; str, int, list, len; f-strings; turned about; compared by data. -/
namespace Sh
open PySem PySem.Spec PyProof.Rows L2
open PySem.W (alike alikeAll dataLt)
theorem rep_flat (x : List Nat) : ∀ m : Nat, (List.replicate m x.toArray).foldl (fun a b => a ++ b) #[] = ((List.replicate m x).flatten).toArray := fun m => by
  have key : ∀ (m : Nat) (acc : Array Nat), (List.replicate m x.toArray).foldl (fun a b => a ++ b) acc = acc ++ ((List.replicate m x).flatten).toArray := by
    intro m
    induction m with
    | zero => intro acc; simp
    | succ m ih =>
      intro acc
      rw [List.replicate_succ, List.foldl_cons, ih, List.replicate_succ, List.flatten_cons]
      simp [Array.append_assoc]
  rw [key]
  simp
section
variable {G : Gx} {X : Cx} {W : WX} {a b c e o : Expr} {fa fb fc fo : ME} {p pos pos' apos cpos : Pos} {es rest : List Expr} {fs : IE → M (List IV)} {k : Nat}
theorem op_strMul : OpR X (binaryOp .Mult) (fun x y H Q => ∃ (a : List Nat) (n : Int), x = .str (sS a) ∧ y = .int n ∧ -(2 ^ 63) ≤ n ∧ n < 2 ^ 63 ∧ a.length * n.toNat ≤ 10000000 ∧ Q (.str (sS (List.replicate n.toNat a).flatten)) H) := by
  intro pins s σ H x y v u Q I rx ry h
  obtain ⟨a, n, rfl, rfl, h1, h2, h3, q⟩ := h
  obtain ⟨t, rfl⟩ := rx
  obtain ⟨t', rfl⟩ := ry
  refine PySem.P.mul_str ?_ (fun c1 c2 => ?_) (fun c1 c2 => ?_) ?_
  · rw [decide_eq_false (by omega), decide_eq_false (by omega)]; rfl
  · have hl : (sS a).length = a.length := sS_len a
    rw [hl]
    have hn : 0 < n := by omega
    have e : ((a.length * n.toNat : Nat) : Int) = (a.length : Int) * n := by
      rw [Int.natCast_mul, Int.toNat_of_nonneg (by omega)]
    have : (a.length : Int) ≤ (2 ^ 63 - 1) / n := by
      refine Int.le_ediv_of_mul_le hn ?_
      rw [← e]
      omega
    omega
  · have hl : (sS a).length = a.length := sS_len a
    rw [hl]
    exact PyProof.Rows.short24 (by omega)
  · have fin : ∀ z : List Nat, z = (List.replicate n.toNat a).flatten → ∀ t k, EP X pins σ Q (.str (sS z) t) { s with toks := k } := fun z e t k => ⟨.str (sS z), H, I.tok _, ⟨_, rfl⟩, by rw [e]; exact q⟩
    split
    · rename_i c1
      exact ⟨by decide, fin [] (by rw [show n.toNat = 0 by omega]; rfl) _ _⟩
    · rename_i c1
      split
      · rename_i c2
        show EP X pins σ Q (.str (sS a) t) s
        have := fin a (by
          rcases Bool.or_eq_true_iff.mp c2 with c | c
          · have : n = 1 := by simpa using c
            subst this
            simp
          · have hl : (sS a).length = a.length := sS_len a
            rw [hl] at c
            have : a = [] := by simpa using c
            subst this
            simp) t s.toks
        exact this
      · have e : (List.replicate n.toNat (sS a).cps).foldl (fun a b => a ++ b) #[] = ((List.replicate n.toNat a).flatten).toArray := rep_flat a n.toNat
        refine ⟨?_, ?_⟩
        · rw [e]
          show ((List.replicate n.toNat a).flatten).toArray.size ≤ sizeLine
          simp only [List.size_toArray, List.length_flatten, List.map_replicate, List.sum_replicate_nat]
          have := Nat.mul_comm a.length n.toNat
          have z : 10000000 ≤ sizeLine := by decide
          omega
        · show EP X pins σ Q (.str ⟨(List.replicate n.toNat (sS a).cps).foldl (fun a b => a ++ b) #[]⟩ _) _
          rw [e]
          exact fin _ rfl _ _
/-- x * n, a text too -/
def gMulU (x y : IV) : M IV := fun h => match x, y with
  | .str a, .int n => if -(2 ^ 63) ≤ n ∧ n < 2 ^ 63 ∧ a.length * n.toNat ≤ 10000000 then .ok (.str (List.replicate n.toNat a).flatten) h else .bad
  | .tup a, .int n => if a ≠ [] ∧ 2 ≤ n ∧ n ≤ 1000 ∧ a.length ≤ 1000 then .ok (.tup (List.replicate n.toNat a).flatten) h else .bad
  | _, _ => gMul x y h
def rMulS : R2 := fun x y H Q => ∃ (a : List Nat) (n : Int), x = .str (sS a) ∧ y = .int n ∧ -(2 ^ 63) ≤ n ∧ n < 2 ^ 63 ∧ a.length * n.toNat ≤ 10000000 ∧ Q (.str (sS (List.replicate n.toNat a).flatten)) H
theorem mean_mulU : Mean2 G (fun x y H Q => rMulS x y H Q ∨ rRepT G.K x y H Q ∨ rMulU x y H Q) gMulU := by
  intro x y v w ι h H Q Wh rx ry r p
  unfold gMulU at p
  split at p
  · rename_i a n
    obtain rfl := str_iff.mp rx
    obtain rfl := int_iff.mp ry
    split at p
    · rename_i hz
      exact .inl ⟨a, n, rfl, rfl, hz.1, hz.2.1, hz.2.2, p ι H _ (Aft.refl r) (str_iff.mpr rfl)⟩
    · exact p.elim
  · rename_i a n
    obtain ⟨q, vs, rfl, hq, rs⟩ := tup_iff.mp rx
    obtain rfl := int_iff.mp ry
    split at p
    · rename_i hz
      refine .inr (.inl ⟨q, n, vs, rfl, rfl, SqT.of hq, fun e => ?_, hz.2.1, hz.2.2.1, by rw [← rs.len]; exact hz.2.2.2, fun q' hq' => ?_⟩)
      · subst e
        exact hz.1 (List.length_eq_zero_iff.mp (by rw [rs.len]; rfl))
      · have af := Aft.fresh r hq' (.tup (List.replicate n.toNat vs).flatten)
        exact p ι _ _ af (tup_iff.mpr ⟨q', _, rfl, upd_same, (rs.mono af.pre af.tl).rep _⟩)
    · exact p.elim
  · exact .inr (.inr (mean_mul x y v w ι h H Q Wh rx ry r p))
theorem e_mulU (C : Can G X W k) (ha : SE G X W a fa) (hb : SE G X W b fb) : SE G X W (.BinOp a .Mult b pos) (m2 gMulU fa fb) := se_op (opr_or op_strMul (opr_or op_repT op_mulU)) (C.hK ▸ mean_mulU) ha hb
/-- .. a list frozen -/
def gMulF (x y : IV) : M IV := fun h => match sqI x h, y with
  | some a, .int kk => if -(2 ^ 63) ≤ kk ∧ kk < 2 ^ 63 ∧ a.length * kk.toNat ≤ big then .ok (.fz (List.replicate kk.toNat a).flatten) h else .bad
  | _, _ => gMulU x y h
theorem mean_mulF : MeanF2 G (fun x y H Q => rRepS G.K x y H Q ∨ rMulS x y H Q ∨ rRepT G.K x y H Q ∨ rMulU x y H Q) gMulF := by
  intro x y v w ι h H Q Wh rx ry r p
  unfold gMulF at p
  split at p
  · rename_i a k e
    obtain rfl := int_iff.mp ry
    split at p
    · rename_i hz
      obtain ⟨q, vs, rfl, hq, rs⟩ := sq_ok rx r e
      exact .inl ⟨q, k, vs, rfl, rfl, hq, hz.1, hz.2.1, by rw [← rs.len]; exact big_le hz.2.2, fun q' hq' => qf_new p r hq' (rs.rep _)⟩
    · exact p.elim
  · exact .inr (mean_mulU _ _ v w ι h H _ Wh rx ry r p.qf)
theorem e_mulF (C : Can G X W k) (ha : SE G X W a fa) (hb : SE G X W b fb) : SE G X W (.BinOp a .Mult b pos) (m2 gMulF fa fb) := se_opF (opr_or op_repS (opr_or op_strMul (opr_or op_repT op_mulU))) (C.hK ▸ mean_mulF) ha hb
/-! ### numbers as texts -/
def strI (i : Int) : List Nat := TL.numL i.toNat
theorem strI_ok {i : Int} (h : 0 ≤ i) : (Str.ofString (toString i)) = sS (strI i) := by
  refine TL.ext_tl ?_
  unfold strI
  show _ = (sS _).cps.toList
  rw [sS_cps]
  have e : i = ((i.toNat : Nat) : Int) := (Int.toNat_of_nonneg h).symm
  rw [e]
  exact TL.tl_num i.toNat
def gStrC : Fn := fun xs h => match xs with
  | [.int i] => if 0 ≤ i ∧ i.natAbs.log2 < 1920 then .ok (.str (strI i)) h else .bad
  | [.str x] => .ok (.str x) h
  | _ => .bad
theorem mean_strC : MeanC G (fun xs H Q => (∃ i, xs = [.int i] ∧ i.natAbs.log2 < 1920 ∧ Q (.str (toString i)) H) ∨ ∃ a, xs = [.str a] ∧ Q (.str a) H) gStrC := by
  intro xs vs ι h H Q Wh rx r p
  unfold gStrC at p
  split at p
  · rename_i i
    obtain ⟨v, rfl, rv⟩ := rx.un1
    obtain rfl := int_iff.mp rv
    split at p
    · rename_i hz
      exact .inl ⟨i, rfl, hz.2, p ι H _ (Aft.refl r) (str_iff.mpr (congrArg V.str (strI_ok hz.1)))⟩
    · exact p.elim
  · rename_i x
    obtain ⟨v, rfl, rv⟩ := rx.un1
    obtain rfl := str_iff.mp rv
    exact .inr ⟨_, rfl, p ι H _ (Aft.refl r) (str_iff.mpr rfl)⟩
  · exact p.elim
theorem e_str (C : Can G X W k) (hm : X.mg "str" = none) (hg : Gl X "str") (ha : SA G X W (e :: es) fs) (he : starEach (e :: es) X.env = (false, eval e X.env) :: starEach es X.env := by rfl) (hpl : (backTo pos (starEach es X.env)).any (·.1) = false := by rfl) : SE G X W (.Call (.Name "str" p) (e :: es) [] pos) (mCall gStrC fs) :=
  se_callTy (callR_or call_str_int SkE.call_str_str) mean_strC hg hm PySem.Pv.boot_str ha (by decide) (by decide) he hpl
/-- int(..), of a text too -/
def gIntU : Fn := fun xs h => match xs with
  | [.str x] => match PySem.intText? (sS x) with
    | some n => if x.length ≤ 640 then .ok (.int n) h else .bad
    | none => .bad
  | _ => gInt xs h
theorem mean_intU : MeanC G (fun xs H Q => ((∃ i, xs = [.int i] ∧ Q (.int i) H) ∨ ∃ k, xs = [.bl k] ∧ Q (.int (if k then 1 else 0)) H) ∨ ∃ a n, xs = [.str a] ∧ PySem.intText? a = some n ∧ a.length ≤ 640 ∧ Q (.int n) H) gIntU := by
  intro xs vs ι h H Q Wh rx r p
  unfold gIntU at p
  split at p
  · rename_i x
    obtain ⟨v, rfl, rv⟩ := rx.un1
    obtain rfl := str_iff.mp rv
    split at p
    · rename_i n hn
      split at p
      · rename_i hz
        exact .inr ⟨_, n, rfl, hn, by rw [sS_len]; exact hz, p ι H _ (Aft.refl r) (int_iff.mpr rfl)⟩
      · exact p.elim
    · exact p.elim
  · exact .inl (mean_int xs vs ι h H Q Wh rx r p)
theorem e_intU (C : Can G X W k) (hm : X.mg "int" = none) (hg : Gl X "int") (ha : SA G X W (e :: es) fs) (he : starEach (e :: es) X.env = (false, eval e X.env) :: starEach es X.env := by rfl) (hpl : (backTo pos (starEach es X.env)).any (·.1) = false := by rfl) : SE G X W (.Call (.Name "int" p) (e :: es) [] pos) (mCall gIntU fs) :=
  se_callTy (callR_or call_int1 call_int_str) mean_intU hg hm boot_int ha (by decide) (by decide) he hpl
/-! ### len, list of a dict; list of a text -/
theorem call_lenT : CallR X (.builtin "len") (fun xs H Q => ∃ a kvs, xs = [V.ref a] ∧ Rd H a (.dT kvs) ∧ Q (.int kvs.length) H) := by
  intro pins s σ H xs us Q I r h
  obtain ⟨a, kvs, rfl, ha, q⟩ := h
  obtain ⟨u, rfl, ru⟩ := vals1 r
  cases ru
  obtain ⟨z, hd, xs, kt, dd⟩ := dt_rd I.hok ha
  have l2 : kvs.length = xs.length := Paired.length kt
  refine call_len_dictH hd dd (by rw [← l2]; rw [sizeLine_eq] at z; omega) ⟨.int kvs.length, H, I.tok _, ⟨_, by rw [l2]⟩, q⟩
theorem call_lenK : CallR X (.builtin "len") (fun xs H Q => ∃ a kvs, xs = [V.ref a] ∧ Rd H a (.dK kvs) ∧ Q (.int kvs.length) H) := by
  intro pins s σ H xs us Q I r h
  obtain ⟨a, kvs, rfl, ha, q⟩ := h
  obtain ⟨u, rfl, ru⟩ := vals1 r
  cases ru
  exact d_len I ha fun t s' I' => ⟨.int kvs.length, H, I', ⟨t, rfl⟩, q⟩
def gLenU : Fn := fun xs h => match xs with
  | [x] => match isDc x h with
    | some (_, kvs) => .ok (.int (kvs.length : Nat)) h
    | none => gLen [x] h
  | _ => .bad
theorem dc_rd {ι : List Addr} {h : IH} {H : Hp} {x : IV} {v : V} {t : Bool} {kvs : List (IV × IV)} (rh : RH G ι h H) (rx : RV G.K ι H x v) (z : isDc x h = some (t, kvs)) :
    ∃ a, v = .ref a ∧ ((t = false ∧ ∃ ws, Rd H a (.dK ws) ∧ RKs G.K ι H kvs ws) ∨ (t = true ∧ ∃ ws, Rd H a (.dT ws) ∧ RTs G.K ι H kvs ws)) := by
  unfold isDc at z
  split at z
  · rename_i n
    obtain ⟨a, ia, rfl⟩ := ref_iff.mp rx
    refine ⟨a, rfl, ?_⟩
    cases z0 : h[n]? with
    | none => rw [z0] at z; cases z
    | some ob =>
      rw [z0] at z
      have ro := rh.at z0 ia
      cases ob with
      | dic t' kvs' =>
        simp only [Option.some.injEq, Prod.mk.injEq] at z
        obtain ⟨rfl, rfl⟩ := z
        cases t' with
        | false => obtain ⟨ws, e, r⟩ := ro; exact .inl ⟨rfl, ws, .inl e, r⟩
        | true => obtain ⟨ws, e, r⟩ := ro; exact .inr ⟨rfl, ws, .inl e, r⟩
      | dicL t' kvs' =>
        simp only [Option.some.injEq, Prod.mk.injEq] at z
        obtain ⟨rfl, rfl⟩ := z
        cases t' with
        | false => obtain ⟨o, ws, e, r⟩ := ro; exact .inl ⟨rfl, ws, .inr ⟨o, e⟩, r⟩
        | true => obtain ⟨o, ws, e, r⟩ := ro; exact .inr ⟨rfl, ws, .inr ⟨o, e⟩, r⟩
      | _ => cases z
  · cases z
theorem mean_lenU : MeanC G (fun xs H Q => (∃ x n, xs = [x] ∧ LenV G.K x H n ∧ Q (.int n) H) ∨ (∃ a kvs, xs = [V.ref a] ∧ Rd H a (.dT kvs) ∧ Q (.int kvs.length) H) ∨ ∃ a kvs, xs = [V.ref a] ∧ Rd H a (.dK kvs) ∧ Q (.int kvs.length) H) gLenU := by
  intro xs vs ι h H Q Wh rx r p
  unfold gLenU at p
  split at p
  · rename_i x
    split at p
    · rename_i t kvs z
      obtain ⟨v, rfl, rv⟩ := rx.un1
      obtain ⟨a, rfl, d⟩ := dc_rd r rv z
      rcases d with ⟨rfl, ws, hr, rs⟩ | ⟨rfl, ws, hr, rs⟩
      · exact .inr (.inr ⟨a, ws, rfl, hr, p ι H _ (Aft.refl r) (int_iff.mpr (by rw [rs.len]))⟩)
      · exact .inr (.inl ⟨a, ws, rfl, hr, p ι H _ (Aft.refl r) (int_iff.mpr (by rw [rs.len]))⟩)
    · exact .inl (mean_len [x] vs ι h H Q Wh rx r p)
  · exact p.elim
theorem e_lenU (C : Can G X W k) (hm : X.mg "len" = none) (hg : Gl X "len") (ha : SA G X W (e :: es) fs) (he : starEach (e :: es) X.env = (false, eval e X.env) :: starEach es X.env := by rfl) (hpl : (backTo pos (starEach es X.env)).any (·.1) = false := by rfl) : SE G X W (.Call (.Name "len" p) (e :: es) [] pos) (mCall gLenU fs) :=
  se_callB (callR_or call_len (callR_or call_lenT call_lenK)) (C.hK ▸ mean_lenU) hg hm boot_len ha (by decide) (by decide) he hpl
/-! list(..) of a text, of a dict -/
theorem call_listStr (hc : X.calm = true) : CallR X (.type "list") (fun xs H Q => ∃ x : List Nat, xs = [V.str (sS x)] ∧ x.length ≤ big ∧ ∀ p, H p = none → Q (.ref p) (upd H p (.lst ((x.map fun c => sS [c]).map V.str)))) := by
  intro pins s σ H xs us Q I r h
  obtain ⟨x, rfl, hz, q⟩ := h
  obtain ⟨u, rfl, ru⟩ := vals1 r
  obtain ⟨t, rfl⟩ := ru
  have hsz : (sS x).cps.size = x.length := by simp [sS]
  refine PySem.call_list_str (I.ok.hd hc) (sS x) t (fun h' tk acc' c' hk hS' hacc => ?_) (by rw [hsz]; exact big_le hz)
  refine ⟨.ref s.heap.objs.size, upd H s.heap.objs.size (.lst ((x.map fun c => sS [c]).map V.str)), I.laid hk (Nat.le_refl _) ⟨by rw [List.length_map, List.length_map]; exact big_le hz, acc'.toList, c', ?_, by rw [Array.toArray_toList]; exact hS'⟩, rfl, q _ (I.hok.fresh (Nat.le_refl _))⟩
  refine vals_of_at (by have := hacc.1; simp only [List.length_map, Array.length_toList]; omega) fun j y w h1 h2 => ?_
  obtain ⟨c, u, hc, rfl⟩ := hacc.2 j w (by rw [← Array.getElem?_toList]; exact h2)
  rw [List.map_map, List.getElem?_map] at h1
  have hx : x[j]? = some c := by
    have : (sS x).cps[j]? = some c := hc
    simpa [sS] using this
  rw [hx] at h1
  cases h1
  exact ⟨u, rfl⟩
def gListU : Fn := fun xs h => match xs with
  | [.str x] => if x.length ≤ big then .ok (.ref h.length) (h ++ [.lst (x.map fun c => .str [c])]) else .bad
  | [x] => match isDc x h with
    | some (_, kvs) => .ok (.ref h.length) (h ++ [.lst (kvs.map (·.1))])
    | none => gList [x] h
  | _ => .bad
theorem mean_listU : MeanC G (fun xs H Q => (∃ p ys, xs = [.ref p] ∧ (SqL G.K H p ys ∨ SqT G.K H p ys) ∧ ∀ l, H l = none → Q (.ref l) (upd H l (.lst ys))) ∨ (∃ x : List Nat, xs = [V.str (sS x)] ∧ x.length ≤ big ∧ ∀ p, H p = none → Q (.ref p) (upd H p (.lst ((x.map fun c => sS [c]).map V.str)))) ∨
    (∃ (a : Addr) (kvs : List (Key × V)), xs = [.ref a] ∧ Rd H a (.dK kvs) ∧ ∀ p, H p = none → Q (.ref p) (upd H p (.lst (kvs.map fun kv => kV kv.1)))) ∨ (∃ d kvs, xs = [V.ref d] ∧ Rd H d (.dT kvs) ∧ ∀ p bs, H p = none → IsKeys H kvs bs → Q (.ref p) (upd H p (.lst (bs.map V.ref))))) gListU := by
  intro xs vs ι h H Q Wh rx r p
  unfold gListU at p
  split at p
  · rename_i x
    obtain ⟨v, rfl, rv⟩ := rx.un1
    obtain rfl := str_iff.mp rv
    split at p
    · rename_i hz
      refine .inr (.inl ⟨x, rfl, hz, fun l hl => ?_⟩)
      have rs : RVs G.K ι H (x.map fun c => IV.str [c]) ((x.map fun c => sS [c]).map V.str) := by
        have := strs_rv (K := G.K) (ι := ι) (H := H) (ys := x.map fun c => [c])
        rw [List.map_map, List.map_map, List.map_map] at this
        rw [List.map_map]
        exact this
      exact p _ _ _ (new_lst r hl rs) (ref_iff.mpr ⟨l, ref_len r, rfl⟩)
    · exact p.elim
  · rename_i x hx
    split at p
    · rename_i t kvs z
      obtain ⟨v, rfl, rv⟩ := rx.un1
      obtain ⟨a, rfl, d⟩ := dc_rd r rv z
      rcases d with ⟨rfl, ws, hr, rs⟩ | ⟨rfl, ws, hr, rs⟩
      · exact .inr (.inr (.inl ⟨a, ws, rfl, hr, fun l hl => p _ _ _ (new_lst r hl rs.keysV) (ref_iff.mpr ⟨l, ref_len r, rfl⟩)⟩))
      · exact .inr (.inr (.inr ⟨a, ws, rfl, hr, fun l bs hl ik => p _ _ _ (new_lst r hl (rs.keysV ik)) (ref_iff.mpr ⟨l, ref_len r, rfl⟩)⟩))
    · exact .inl (mean_list [x] vs ι h H Q Wh rx r p)
  · exact p.elim
theorem e_listU (C : Can G X W k) (hm : X.mg "list" = none) (hg : Gl X "list") (ha : SA G X W (e :: es) fs) (he : starEach (e :: es) X.env = (false, eval e X.env) :: starEach es X.env := by rfl) (hpl : (backTo pos (starEach es X.env)).any (·.1) = false := by rfl) : SE G X W (.Call (.Name "list" p) (e :: es) [] pos) (mCall gListU fs) :=
  se_callTy (callR_or call_list_of (callR_or (call_listStr C.calm) (callR_or (call_listD C.calm) (call_list_dT C.calm)))) (C.hK ▸ mean_listU) hg hm boot_list ha (by decide) (by decide) he hpl
/-- list(..), frozen -/
def gListF : Fn := fun xs h => match xs with
  | [.str x] => if x.length ≤ big then .ok (.fz (x.map fun c => .str [c])) h else .bad
  | [x] => match isDc x h with
    | some (_, kvs) => .ok (.fz (kvs.map (·.1))) h
    | none => match sqI x h with
      | some ys => .ok (.fz ys) h
      | none => match x with
        | .tup ys => .ok (.fz ys) h
        | _ => .bad
  | _ => .bad
theorem mean_listF : MeanCF G (fun xs H Q => (∃ p ys, xs = [.ref p] ∧ (SqL G.K H p ys ∨ SqT G.K H p ys) ∧ ∀ l, H l = none → Q (.ref l) (upd H l (.lst ys))) ∨ (∃ x : List Nat, xs = [V.str (sS x)] ∧ x.length ≤ big ∧ ∀ p, H p = none → Q (.ref p) (upd H p (.lst ((x.map fun c => sS [c]).map V.str)))) ∨
    (∃ (a : Addr) (kvs : List (Key × V)), xs = [.ref a] ∧ Rd H a (.dK kvs) ∧ ∀ p, H p = none → Q (.ref p) (upd H p (.lst (kvs.map fun kv => kV kv.1)))) ∨ (∃ d kvs, xs = [V.ref d] ∧ Rd H d (.dT kvs) ∧ ∀ p bs, H p = none → IsKeys H kvs bs → Q (.ref p) (upd H p (.lst (bs.map V.ref))))) gListF := by
  intro xs vs ι h H Q Wh rx r p
  unfold gListF at p
  split at p
  · rename_i x
    obtain ⟨v, rfl, rv⟩ := rx.un1
    obtain rfl := str_iff.mp rv
    split at p
    · rename_i hz
      refine .inr (.inl ⟨x, rfl, hz, fun l hl => ?_⟩)
      have rs : RVs G.K ι H (x.map fun c => IV.str [c]) ((x.map fun c => sS [c]).map V.str) := by
        have := strs_rv (K := G.K) (ι := ι) (H := H) (ys := x.map fun c => [c])
        rw [List.map_map, List.map_map, List.map_map] at this
        rw [List.map_map]
        exact this
      exact qf_new p r hl rs
    · exact p.elim
  · rename_i x hx
    split at p
    · rename_i t kvs z
      obtain ⟨v, rfl, rv⟩ := rx.un1
      obtain ⟨a, rfl, d⟩ := dc_rd r rv z
      rcases d with ⟨rfl, ws, hr, rs⟩ | ⟨rfl, ws, hr, rs⟩
      · exact .inr (.inr (.inl ⟨a, ws, rfl, hr, fun l hl => qf_new p r hl rs.keysV⟩))
      · exact .inr (.inr (.inr ⟨a, ws, rfl, hr, fun l bs hl ik => qf_new p r hl (rs.keysV ik)⟩))
    · split at p
      · rename_i ys z
        obtain ⟨v, rfl, rv⟩ := rx.un1
        obtain ⟨q, ws, rfl, hq, rs⟩ := sq_ok rv r z
        exact .inl ⟨q, ws, rfl, .inl hq, fun l hl => qf_new p r hl rs⟩
      · split at p
        · rename_i ys
          obtain ⟨v, rfl, rv⟩ := rx.un1
          obtain ⟨q, ws, rfl, hq, rs⟩ := tup_iff.mp rv
          exact .inl ⟨q, ws, rfl, .inr (SqT.of hq), fun l hl => qf_new p r hl rs⟩
        · exact p.elim
  · exact p.elim
theorem e_listF (C : Can G X W k) (hm : X.mg "list" = none) (hg : Gl X "list") (ha : SA G X W (e :: es) fs) (he : starEach (e :: es) X.env = (false, eval e X.env) :: starEach es X.env := by rfl) (hpl : (backTo pos (starEach es X.env)).any (·.1) = false := by rfl) : SE G X W (.Call (.Name "list" p) (e :: es) [] pos) (mCall gListF fs) :=
  se_callTyF (callR_or call_list_of (callR_or (call_listStr C.calm) (callR_or (call_listD C.calm) (call_list_dT C.calm)))) (C.hK ▸ mean_listF) hg hm boot_list ha (by decide) (by decide) he hpl
/-! ### f-strings -/
def mFmt (fa : ME) : ME := fun e h => (fa e h).bind fun x h1 => match x with
  | .str z => if z.length ≤ big then .ok (.str z) h1 else .bad
  | .int i => if 0 ≤ i ∧ i.natAbs.log2 < 1920 then .ok (.str (strI i)) h1 else .bad
  | _ => .bad
theorem se_fmt (ha : SE G X W a fa) : SE G X W (.FormattedValue a (-1) none pos) (mFmt fa) := by
  refine pe_weak (pe_fmt ha) fun σ H Q hq => ?_
  obtain ⟨ι, e, h, en, rh, q⟩ := hq
  refine TI.bind (Wh := fun c d H' => W c d σ H') en rh q fun x v ι1 h1 H1 a1 en1 r1 q1 => ?_
  split at q1
  · rename_i z
    obtain rfl := str_iff.mp r1
    split at q1
    · rename_i hz
      exact .inl ⟨_, rfl, by rw [sS_len]; exact big_le hz, q1 ι1 H1 _ (Aft.refl a1.rh) (str_iff.mpr rfl)⟩
    · exact q1.elim
  · rename_i i
    obtain rfl := int_iff.mp r1
    split at q1
    · rename_i hz
      exact .inr ⟨i, rfl, hz.2, q1 ι1 H1 _ (Aft.refl a1.rh) (str_iff.mpr (congrArg V.str (strI_ok hz.1)))⟩
    · exact q1.elim
  · exact q1.elim
/-- the texts one behind the other -/
def mJs : List ME → List Nat → ME
  | [], acc => fun _ h => .ok (.str acc) h
  | f :: fs, acc => fun e h => (f e h).bind fun x h1 => match x with
    | .str z => if (acc ++ z).length ≤ big then mJs fs (acc ++ z) e h1 else .bad
    | _ => .bad
inductive SJ (G : Gx) (X : Cx) (W : WX) : List Expr → List ME → Prop
  | nil : SJ G X W [] []
  | cons {e f es fs} : SE G X W e f → SJ G X W es fs → SJ G X W (e :: es) (f :: fs)
theorem sj_pj : ∀ {es : List Expr} {ms : List ME}, SJ G X W es ms → PJ X es (ms.map (TI G W))
  | _, _, .nil => .nil
  | _, _, .cons h r => .cons h (sj_pj r)
theorem sj_run : ∀ {ms : List ME} {acc : List Nat} {σ : L2.St} {H : Hp} {Q : VK}, TI G W (mJs ms acc) σ H Q → tJs (ms.map (TI G W)) (sS acc) σ H fun out H1 => Q (.str out) H1
  | [], acc, σ, H, Q, hq => by
    obtain ⟨ι, e, h, en, rh, q⟩ := hq
    exact q ι H _ (Aft.refl rh) (str_iff.mpr rfl)
  | f :: ms, acc, σ, H, Q, hq => by
    obtain ⟨ι, e, h, en, rh, q⟩ := hq
    refine TI.bind (Wh := fun c d H' => W c d σ H') en rh q fun x v ι1 h1 H1 a1 en1 r1 q1 => ?_
    split at q1
    · rename_i z
      obtain rfl := str_iff.mp r1
      split at q1
      · rename_i hz
        refine ⟨sS z, rfl, ?_, ?_⟩
        · rw [sS_app, sS_len]; exact big_le hz
        · rw [sS_app]
          exact sj_run ⟨ι1, e, h1, en1, a1.rh, q1⟩
      · exact q1.elim
    · exact q1.elim
theorem se_joined {v1 v2 : Expr} {ms : List ME} (h : SJ G X W (v1 :: v2 :: rest) ms) : SE G X W (.JoinedStr (v1 :: v2 :: rest) pos) (mJs ms []) :=
  pe_weak (pe_joined (sj_pj h)) fun σ H Q hq => sj_run hq
theorem se_joined1 (h : SE G X W e fa) : SE G X W (.JoinedStr [e] pos) fa := pe_joined1 h
end
end Sh

/-! Sh34: turned about; compared by data. -/
namespace Sh
open PySem PySem.Spec PyProof.Rows L2
open PySem.W (alike alikeAll dataLt)
section
variable {prog : Program} {w : World} {A : Around} {E : Value → Shared → Prop} {s : Shared}
theorem sliceApplied_rev {sl : Addr} {vl vu vs : Value} {n : Nat} {Q : Int × Int × Nat → Shared → Prop} (hs : s.heap.IsSliceOf sl vl vu vs) (pl : IsPart vl none) (pu : IsPart vu none) (ps : IsPart vs (some (-1)))
    (h : Q ((n : Int) - 1, -1, n) s) : wpAny (model prog w) A (Builtin.Slice.sliceApplied (.ref sl) (pure (n : Int))) Q E s := by
  obtain ⟨os, hos, hcs, hds⟩ := id hs
  unfold Builtin.Slice.sliceApplied Builtin.Slice.sliceFields
  refine wpAny_bind (wpAny_bind (wpAny_field hos hds (x := vl) rfl (wpAny_bind (wpAny_field hos hds (x := vu) rfl (wpAny_bind (wpAny_field hos hds (x := vs) rfl (wpAny_pure ?_)))))))
  refine wpAny_bind (HT.slicePart_ ps ?_)
  show wpAny _ _ (if ((-1 : Int) == 0) = true then _ else _) _ _ s
  rw [if_neg (by decide)]
  refine wpAny_bind (HT.slicePart_ pl (wpAny_bind (HT.slicePart_ pu (wpAny_bind (wpAny_pure ?_)))))
  have e : Builtin.Slice.sliceAdjust none none (-1) (n : Int) = ((n : Int) - 1, -1) := by
    unfold Builtin.Slice.sliceAdjust
    simp
  have e2 : Builtin.Slice.slicePlaces ((n : Int) - 1) (-1) (-1) = n := by
    unfold Builtin.Slice.slicePlaces
    have h1 : ¬ (-1 : Int) > 0 := by omega
    simp only [h1, if_false]
    split <;> simp <;> omega
  show wpAny _ _ (match Builtin.Slice.sliceAdjust none none (-1) (n : Int) with | (lo, hi) => pure (lo, (-1 : Int), Builtin.Slice.slicePlaces lo hi (-1))) _ _ s
  rw [e]
  show wpAny _ _ (pure ((n : Int) - 1, (-1 : Int), Builtin.Slice.slicePlaces ((n : Int) - 1) (-1) (-1))) _ _ s
  rw [e2]
  exact wpAny_pure h
theorem fm_congr {α β : Type} {f g : α → Option β} : ∀ {l : List α}, (∀ m ∈ l, f m = g m) → l.filterMap f = l.filterMap g
  | [], _ => rfl
  | x :: l, h => by rw [List.filterMap_cons, List.filterMap_cons, h x (List.mem_cons_self ..), fm_congr fun m hm => h m (List.mem_cons_of_mem _ hm)]
theorem pick_rev (xs : Array Value) : ((List.range xs.size).filterMap fun (m : Nat) => xs[(((xs.size : Nat) : Int) - 1 + (m : Int) * (-1)).toNat]?).toArray = xs.toList.reverse.toArray := by
  have e : ((List.range xs.size).filterMap fun (m : Nat) => xs[(((xs.size : Nat) : Int) - 1 + (m : Int) * (-1)).toNat]?) = ((List.range xs.size).map fun k => xs.size - 1 - k).filterMap (xs[·]?) := by
    rw [List.filterMap_map]
    refine fm_congr fun m hm => ?_
    have := List.mem_range.mp hm
    have : (((xs.size : Nat) : Int) - 1 + (m : Int) * (-1)).toNat = xs.size - 1 - m := by omega
    rw [this]
    rfl
  rw [e, PySem.W.krv_range, List.filterMap_reverse, PySem.W.krv_all]
theorem getItem_tuple_rev {t sl : Addr} {items : Array Value} {vl vu vs : Value} {Q : Value → Shared → Prop} (ht : s.heap.IsTuple t items) (hs : s.heap.IsSliceOf sl vl vu vs) (pl : IsPart vl none) (pu : IsPart vu none) (ps : IsPart vs (some (-1)))
    (h : Q (.ref s.heap.objs.size) { s with heap := s.heap.push { cls := .type "tuple", data := .seq items.toList.reverse.toArray } })
    (hsz : items.size ≤ sizeLine) : wpAny (model prog w) A (getItem (.ref t) (.ref sl)) Q E s := by
  have htake : sizeOk (.seq items.toList.reverse.toArray) := by
    show items.toList.reverse.toArray.size ≤ sizeLine
    simpa using hsz
  obtain ⟨os, hos, hcs, hds⟩ := id hs
  have hTs : s.TypeIs (.ref sl) "slice" := ⟨os, hos, hcs⟩
  unfold getItem
  try with_reducible refine wpAny_holding ?_
  first | refine wpAny_bind (wpAny_pure ?_) | skip
  refine wpAny_bind (wpAny_sequenceKey ht.typeIs (by decide) ?_)
  refine wpAny_bind (wpAny_callSpecial?_slot (name := Str.ofString "__getitem__") ht.typeIs PyProof.Rows.slot_tuple_getitem
    (wpAny_call_entry PyProof.Rows.slot_tuple_getitem ht.typeIs entry_tuple_getitem ?_ (args_tuple_getitem _ _)))
  show wpAny _ _ (Builtin.Tuple.tupleItemsOf (.ref t) >>= _) _ _ s
  refine wpAny_bind (tupleItemsOf_ ht ?_)
  refine wpAny_bind (wpAny_typeOf hTs ?_)
  rw [if_pos (by decide)]
  refine wpAny_bind (sliceApplied_rev hs pl pu ps ?_)
  have hno : ¬ ((((items.size : Nat) : Int) - 1 == 0 && (-1 : Int) == 1 && items.size == items.size) = true) := by
    have : ((-1 : Int) == 1) = false := rfl
    rw [this]
    simp
  show wpAny _ _ (if (((items.size : Nat) : Int) - 1 == 0 && (-1 : Int) == 1 && items.size == items.size) = true then _ else _) _ _ s
  rw [if_neg hno, pick_rev]
  first
    | exact wpAny_bind (m := Builtin.Tuple.tupleExact _) (wpAny_newObj_type (wpAny_pure ⟨_, rfl, wpAny_pure h⟩) htake)
    | exact wpAny_bind (m := Builtin.Tuple.tupleExact _) (wpAny_newObj_type (wpAny_bind (wpAny_pure (wpAny_pure ⟨_, rfl, wpAny_pure h⟩))) htake)
    | exact wpAny_bind (wpAny_bind (m := Builtin.Tuple.tupleExact _) (wpAny_newObj_type (wpAny_pure (wpAny_pure ⟨_, rfl, wpAny_pure h⟩)) htake))
    | exact wpAny_bind (wpAny_bind (m := Builtin.Tuple.tupleExact _) (wpAny_newObj_type (wpAny_pure ⟨_, rfl, wpAny_pure h⟩) htake))
end
section
variable {G : Gx} {X : Cx} {W : WX} {a b c e o : Expr} {fa fb fc fo : ME} {p p1 p2 p3 pos pos' apos cpos : Pos} {es rest : List Expr} {fs : IE → M (List IV)} {k : Nat}
def tRevT (K : PySem.W.Frag) (te : TE) : TE := fun σ H Q => te σ H fun x H1 => ∃ a xs, x = .ref a ∧ SqT K H1 a xs ∧ ∀ p, H1 p = none → Q (.ref p) (upd H1 p (.tup xs.reverse))
theorem pe_revT {e : Expr} {te : TE} {k : Nat} {p1 p2 p3 pos : Pos} (he : PE X e te) : PE X (.Subscript e (.Slice none none (some (.UnaryOp .USub (.Constant (.int 1) k p1) p2)) p3) pos) (tRevT X.K te) := by
  refine ⟨fun pins s σ H Q I h => ?_⟩
  refine Subscript_ (thn (he.run pins s σ H _ I h) fun v s1 ⟨x, H1, I1, r1, q1⟩ => ?_)
  obtain ⟨a, xs, ex, hx, q⟩ := q1
  subst ex
  cases r1
  have hst : PO X (some (.UnaryOp .USub (.Constant (.int 1) k p1) p2)) (tPart (tUn (rU fun i => .int (-i)) (tC (.int 1)))) := po_some (pe_un un_neg pe_int)
  refine wpAny_Slice (thn (po_none.run pins s1 σ H1 (fun o H2 => o = none ∧ H2 = H1) I1 ⟨rfl, rfl⟩) fun vl s2 ⟨l, H2, I2, pl, el, e2⟩ => ?_)
  subst el e2
  refine thn (po_none.run pins s2 σ H2 (fun o H3 => o = none ∧ H3 = H2) I2 ⟨rfl, rfl⟩) fun vu s3 ⟨u, H3, I3, pu, eu, e3⟩ => ?_
  subst eu e3
  refine thn (hst.run pins s3 σ H3 (fun o H4 => o = some (-1) ∧ H4 = H3) I3 ⟨1, rfl, -1, rfl, rfl, rfl⟩) fun vs s4 ⟨o, H4, I4, ps, eo, e4⟩ => ?_
  subst eo e4
  have I5 : Inv X pins σ H4 { s4 with heap := s4.heap.push { cls := .type "slice", data := .fields #[vl, vu, vs] } } := I4.kept (t' := s4.toks) fun b ob q => Heap.get?_push_of_some _ q
  obtain ⟨its, r, ht, hz⟩ := I5.tuple hx
  have hlen := r.length
  show wpAny (model X.prog X.w) X.A (subscriptTail e (.Slice none none (some (.UnaryOp .USub (.Constant (.int 1) k p1) p2)) p3) (.ref a) (.ref s4.heap.objs.size)) (EP X pins σ Q) X.xe { s4 with heap := s4.heap.push { cls := .type "slice", data := .fields #[vl, vu, vs] } }
  refine tail_any (ops := [.ref a, .ref s4.heap.objs.size]) (show Shared.TypeIs _ _ "tuple" from ht.typeIs) (PySem.F.slot_tuple_getitem.lookup) ?_ (by with_unfolding_all rfl)
  refine getItem_tuple_rev ht (Heap.IsSliceOf.new _ vl vu vs) pl pu ps ?_ (by rw [List.size_toArray]; omega)
  refine ⟨.ref _, _, I5.laid (t' := s4.toks) (o := .tup xs.reverse) (fun b ob q => Heap.get?_push_of_some _ q) (Nat.le_refl _) ?_, rfl, q _ (I5.hok.fresh (Nat.le_refl _))⟩
  exact ⟨by rw [List.length_reverse]; exact hz, its.reverse, r.reverse, IsTup.new _ _⟩
theorem RVs.rev {K : PySem.W.Frag} {ι : List Addr} {H : Hp} : ∀ {xs : List IV} {vs : List V}, RVs K ι H xs vs → RVs K ι H xs.reverse vs.reverse
  | [], _, r => by unfold RVs at r; subst r; exact RVs.nil
  | x :: xs, _, r => by
    unfold RVs at r
    obtain ⟨v, w, rfl, rv, rs⟩ := r
    rw [List.reverse_cons, List.reverse_cons]
    exact rs.rev.app (RVs.one rv)
/-- x[::-1] -/
def gRev (x : IV) : M IV := fun h => match x with
  | .tup xs => .ok (.tup xs.reverse) h
  | x => match sqI x h with
    | some xs => .ok (.fz xs.reverse) h
    | _ => .bad
theorem se_rev (C : Can G X W k) {kk : Nat} (ha : SE G X W a fa) : SE G X W (.Subscript a (.Slice none none (some (.UnaryOp .USub (.Constant (.int 1) kk p1) p2)) p3) pos) (m1 gRev fa) := by
  refine pe_weak (pe_two (pe_fz (pe_revL ha)) (pe_revT ha)) fun σ H Q hq => ?_
  obtain ⟨ι, e, h, en, rh, q⟩ := hq
  simp only [m1] at q
  cases z : fa e h with
  | exc c h1 =>
    refine .inl ⟨ι, e, h, en, rh, ?_⟩
    rw [z] at q ⊢
    exact q
  | bad => rw [z] at q; exact q.elim
  | ok x h1 =>
    rw [z] at q
    simp only [Res.bind, gRev] at q
    split at q
    · rename_i xs
      refine .inr ⟨ι, e, h, en, rh, ?_⟩
      rw [z]
      intro ι1 H1 v a1 r1
      obtain ⟨q', vs, rfl, hq', rs⟩ := tup_iff.mp r1
      refine ⟨q', vs, rfl, SqT.of hq', fun p hp => ?_⟩
      have af := Aft.fresh a1.rh hp (.tup vs.reverse)
      exact q ι1 _ _ (a1.trans af) (tup_iff.mpr ⟨p, _, rfl, upd_same, (rs.mono af.pre af.tl).rev⟩)
    · split at q
      · rename_i xs z1
        refine .inl ⟨ι, e, h, en, rh, ?_⟩
        rw [z]
        intro ι1 H1 v a1 r1
        obtain ⟨q', vs, rfl, hv, rs⟩ := sq_ok r1 a1.rh z1
        exact ⟨q', vs, rfl, C.hK ▸ hv, fun p hp => qf_new (PR.after a1 q) a1.rh hp rs.rev⟩
      · exact q.elim
/-! ### < <= > >= of things alike -/
structure DCmp (K : PySem.W.Frag) (H : Hp) (x y : V) (d e : PyData) : Prop where
  dx : Dp K H x d
  dy : Dp K H y e
  al : alike d e = true
  nn : d ≠ .none
  dp : d.depth ≤ 20
def rCmpD (K : PySem.W.Frag) (f : PyData → PyData → Bool) : R2 := fun x y H Q => ∃ d e, DCmp K H x y d e ∧ Q (.bl (f d e)) H
section
variable {X : Cx}
theorem op_cmpD {op : CmpOp} {f : PyData → PyData → Bool} (hu : X.A.units + 64 < cLine) (hrc : ∀ (da db : PyData) (A : Around) (s : Shared) (a b : Value) (as bs : List Addr), Reads s.heap a da as → Reads s.heap b db bs → alike da db = true → da ≠ .none → A.units + min da.depth db.depth < cLine →
    ∀ (prog : Program) (w : World) (E : Value → Shared → Prop) (Q : Value → Shared → Prop), Q (.bool (f da db)) s → wpAny (model prog w) A (compareOp op a b) Q E s) : OpR X (compareOp op) (rCmpD X.K f) := by
  intro pins s σ H x y v u Q I rx ry h
  obtain ⟨d, e, c, q⟩ := h
  obtain ⟨as, r1⟩ := Dp.reads I d x v c.dx rx
  obtain ⟨bs, r2⟩ := Dp.reads I e y u c.dy ry
  refine hrc d e X.A s v u as bs r1 r2 c.al c.nn ?_ X.prog X.w X.xe _ ⟨.bl (f d e), H, I, rfl, q⟩
  have := c.dp
  have : min d.depth e.depth ≤ d.depth := Nat.min_le_left _ _
  omega
theorem op_ltD (hu : X.A.units + 64 < cLine) : OpR X (compareOp .Lt) (rCmpD X.K fun d e => dataLt d e) := op_cmpD hu fun da db A s a b as bs r1 r2 h hn hu prog w E Q hq => PySem.W.lt_data r1 r2 h hn hu hq
theorem op_gtD (hu : X.A.units + 64 < cLine) : OpR X (compareOp .Gt) (rCmpD X.K fun d e => dataLt e d) := op_cmpD hu fun da db A s a b as bs r1 r2 h hn hu prog w E Q hq => PySem.W.gt_data r1 r2 h hn hu hq
theorem op_leD (hu : X.A.units + 64 < cLine) : OpR X (compareOp .LtE) (rCmpD X.K fun d e => !dataLt e d) := op_cmpD hu fun da db A s a b as bs r1 r2 h hn hu prog w E Q hq => PySem.W.le_data r1 r2 h hn hu hq
theorem op_geD (hu : X.A.units + 64 < cLine) : OpR X (compareOp .GtE) (rCmpD X.K fun d e => !dataLt d e) := op_cmpD hu fun da db A s a b as bs r1 r2 h hn hu prog w E Q hq => PySem.W.ge_data r1 r2 h hn hu hq
end
/-- compared: numbers, or things alike -/
def gCmp (fi : Int → Int → Bool) (fd : PyData → PyData → Bool) (x y : IV) : M IV := fun h => match x, y with
  | .int i, .int j => .ok (.bl (fi i j)) h
  | x, y => match dat 9 h x, dat 9 h y with
    | some d, some e => if alike d e = true ∧ isNonD d = false ∧ d.depth ≤ 20 then .ok (.bl (fd d e)) h else .bad
    | _, _ => .bad
theorem mean_cmp {fi : Int → Int → Bool} {fd : PyData → PyData → Bool} : Mean2 G (fun x y H Q => rI0 (fun i j => .bl (fi i j)) x y H Q ∨ rCmpD G.K fd x y H Q) (gCmp fi fd) := by
  intro x y v w ι h H Q Wh rx ry r p
  have gen : ∀ {x y : IV} {v w : V}, RV G.K ι H x v → RV G.K ι H y w → PR G Wh ι H Q (match dat 9 h x, dat 9 h y with
    | some d, some e => if alike d e = true ∧ isNonD d = false ∧ d.depth ≤ 20 then .ok (.bl (fd d e)) h else .bad
    | _, _ => .bad) → rCmpD G.K fd v w H Q := by
    intro x y v w rx ry p
    split at p
    · rename_i d e h1 h2
      split at p
      · rename_i hz
        exact ⟨d, e, ⟨dp_of r _ _ _ _ rx h1, dp_of r _ _ _ _ ry h2, hz.1, fun z => by rw [z] at hz; exact absurd hz.2.1 (by decide), hz.2.2⟩, p ι H _ (Aft.refl r) (bl_iff.mpr rfl)⟩
      · exact p.elim
    · exact p.elim
  cases x with
  | int i =>
    cases y with
    | int j =>
      rw [int_iff] at rx ry
      exact .inl ⟨i, j, rx, ry, p ι H _ (Aft.refl r) (bl_iff.mpr rfl)⟩
    | _ => exact .inr (gen rx ry p)
  | _ => exact .inr (gen rx ry p)
@[simp] def gLtU : IV → IV → M IV := gCmp (fun i j => decide (i < j)) fun d e => dataLt d e
@[simp] def gLeU : IV → IV → M IV := gCmp (fun i j => decide (i ≤ j)) fun d e => !dataLt e d
@[simp] def gGtU : IV → IV → M IV := gCmp (fun i j => decide (j < i)) fun d e => dataLt e d
@[simp] def gGeU : IV → IV → M IV := gCmp (fun i j => decide (j ≤ i)) fun d e => !dataLt d e
@[simp] theorem gCmp_ii {fi : Int → Int → Bool} {fd : PyData → PyData → Bool} {i j : Int} {h : IH} : gCmp fi fd (.int i) (.int j) h = .ok (.bl (fi i j)) h := rfl
theorem gCmp_ne {fi : Int → Int → Bool} {fd : PyData → PyData → Bool} : ∀ x y h c h', gCmp fi fd x y h ≠ .exc c h' := by
  intro x y h c h' z
  unfold gCmp at z
  split at z
  · cases z
  · split at z
    · split at z <;> cases z
    · cases z
theorem e_ltU (C : Can G X W k) (ha : SE G X W a fa) (hb : SE G X W b fb) (hk : behindInMarks .Lt b = false := by rfl) : SE G X W (.Compare a [.Lt] [b] pos) (m2 gLtU fa fb) := se_cmp (opr_or op_lt (op_ltD C.room.units)) (C.hK ▸ mean_cmp) ha hb hk
theorem e_leU (C : Can G X W k) (ha : SE G X W a fa) (hb : SE G X W b fb) (hk : behindInMarks .LtE b = false := by rfl) : SE G X W (.Compare a [.LtE] [b] pos) (m2 gLeU fa fb) := se_cmp (opr_or op_le (op_leD C.room.units)) (C.hK ▸ mean_cmp) ha hb hk
theorem e_gtU (C : Can G X W k) (ha : SE G X W a fa) (hb : SE G X W b fb) (hk : behindInMarks .Gt b = false := by rfl) : SE G X W (.Compare a [.Gt] [b] pos) (m2 gGtU fa fb) := se_cmp (opr_or op_gt (op_gtD C.room.units)) (C.hK ▸ mean_cmp) ha hb hk
theorem e_geU (C : Can G X W k) (ha : SE G X W a fa) (hb : SE G X W b fb) (hk : behindInMarks .GtE b = false := by rfl) : SE G X W (.Compare a [.GtE] [b] pos) (m2 gGeU fa fb) := se_cmp (opr_or op_ge (op_geD C.room.units)) (C.hK ▸ mean_cmp) ha hb hk
theorem c_ltU (C : Can G X W k) (ha : SE G X W a fa) (hb : SE G X W b fb) (hk : behindInMarks .Lt b = false := by rfl) : SC G X W (.Compare a [.Lt] [b] pos) (m2 gLtU fa fb) := sc_cmp (opr_or op_lt (op_ltD C.room.units)) (C.hK ▸ mean_cmp) ha hb hk
theorem c_leU (C : Can G X W k) (ha : SE G X W a fa) (hb : SE G X W b fb) (hk : behindInMarks .LtE b = false := by rfl) : SC G X W (.Compare a [.LtE] [b] pos) (m2 gLeU fa fb) := sc_cmp (opr_or op_le (op_leD C.room.units)) (C.hK ▸ mean_cmp) ha hb hk
theorem c_gtU (C : Can G X W k) (ha : SE G X W a fa) (hb : SE G X W b fb) (hk : behindInMarks .Gt b = false := by rfl) : SC G X W (.Compare a [.Gt] [b] pos) (m2 gGtU fa fb) := sc_cmp (opr_or op_gt (op_gtD C.room.units)) (C.hK ▸ mean_cmp) ha hb hk
theorem c_geU (C : Can G X W k) (ha : SE G X W a fa) (hb : SE G X W b fb) (hk : behindInMarks .GtE b = false := by rfl) : SC G X W (.Compare a [.GtE] [b] pos) (m2 gGeU fa fb) := sc_cmp (opr_or op_ge (op_geD C.room.units)) (C.hK ▸ mean_cmp) ha hb hk
/-! ### methods of texts, in short -/
theorem e_lower (C : Can G X W k) (ho : SE G X W o fo) (hbase : attributeBase o "lower" X.env (eval o X.env) = eval o X.env := by rfl) (hline : (apos.endLine == cpos.line) = true := by rfl) : SE G X W (.Call (.Attribute o "lower" apos) [] [] cpos) (mBM .str gLower fo mNil) :=
  se_bm0 (t := .str) C.hK PySem.F.plainAttrs_str PySem.F.slot_str_lower PySem.F.type_str_lower mt_lower mean_lower ho hbase hline
theorem e_split (C : Can G X W k) (ho : SE G X W o fo) (ha : SA G X W (e :: es) fs) (hbase : attributeBase o "split" X.env (eval o X.env) = eval o X.env := by rfl)
    (hfew : ((backTo cpos (starEach (e :: es) X.env)).all (fun x => !x.1) && (backToKw cpos (keywordEach [] X.env)).all (fun x => x.1.isSome)
      && decide ((e :: es).length + ([] : List Keyword).length + (if ([] : List Keyword).isEmpty then 0 else 1) < 30)) = true := by rfl)
    (hline : (apos.endLine == cpos.line) = true := by rfl) (hs : starEach (e :: es) X.env = (false, eval e X.env) :: starEach es X.env := by rfl) (hplain : (backTo cpos (starEach es X.env)).any (·.1) = false := by rfl) :
    SE G X W (.Call (.Attribute o "split" apos) (e :: es) [] cpos) (mBM .str gSplit fo fs) := se_bmF (t := .str) C.hK PySem.F.plainAttrs_str PySem.F.slot_str_split PySem.F.type_str_split mt_split mean_split ho ha hbase hfew hline hs hplain
theorem e_join (C : Can G X W k) (ho : SE G X W o fo) (ha : SA G X W (e :: es) fs) (hbase : attributeBase o "join" X.env (eval o X.env) = eval o X.env := by rfl)
    (hfew : ((backTo cpos (starEach (e :: es) X.env)).all (fun x => !x.1) && (backToKw cpos (keywordEach [] X.env)).all (fun x => x.1.isSome)
      && decide ((e :: es).length + ([] : List Keyword).length + (if ([] : List Keyword).isEmpty then 0 else 1) < 30)) = true := by rfl)
    (hline : (apos.endLine == cpos.line) = true := by rfl) (hs : starEach (e :: es) X.env = (false, eval e X.env) :: starEach es X.env := by rfl) (hplain : (backTo cpos (starEach es X.env)).any (·.1) = false := by rfl) :
    SE G X W (.Call (.Attribute o "join" apos) (e :: es) [] cpos) (mBM .str gJoin fo fs) := se_bm (t := .str) C.hK PySem.F.plainAttrs_str PySem.F.slot_str_join PySem.F.type_str_join (C.hK ▸ mt_join) mean_join ho ha hbase hfew hline hs hplain
theorem e_part (C : Can G X W k) (ho : SE G X W o fo) (ha : SA G X W (e :: es) fs) (hbase : attributeBase o "partition" X.env (eval o X.env) = eval o X.env := by rfl)
    (hfew : ((backTo cpos (starEach (e :: es) X.env)).all (fun x => !x.1) && (backToKw cpos (keywordEach [] X.env)).all (fun x => x.1.isSome)
      && decide ((e :: es).length + ([] : List Keyword).length + (if ([] : List Keyword).isEmpty then 0 else 1) < 30)) = true := by rfl)
    (hline : (apos.endLine == cpos.line) = true := by rfl) (hs : starEach (e :: es) X.env = (false, eval e X.env) :: starEach es X.env := by rfl) (hplain : (backTo cpos (starEach es X.env)).any (·.1) = false := by rfl) :
    SE G X W (.Call (.Attribute o "partition" apos) (e :: es) [] cpos) (mBM .str gPart fo fs) := se_bm (t := .str) C.hK PySem.F.plainAttrs_str PySem.F.slot_str_partition PySem.F.type_str_partition mt_partition mean_part ho ha hbase hfew hline hs hplain
theorem e_rpart (C : Can G X W k) (ho : SE G X W o fo) (ha : SA G X W (e :: es) fs) (hbase : attributeBase o "rpartition" X.env (eval o X.env) = eval o X.env := by rfl)
    (hfew : ((backTo cpos (starEach (e :: es) X.env)).all (fun x => !x.1) && (backToKw cpos (keywordEach [] X.env)).all (fun x => x.1.isSome)
      && decide ((e :: es).length + ([] : List Keyword).length + (if ([] : List Keyword).isEmpty then 0 else 1) < 30)) = true := by rfl)
    (hline : (apos.endLine == cpos.line) = true := by rfl) (hs : starEach (e :: es) X.env = (false, eval e X.env) :: starEach es X.env := by rfl) (hplain : (backTo cpos (starEach es X.env)).any (·.1) = false := by rfl) :
    SE G X W (.Call (.Attribute o "rpartition" apos) (e :: es) [] cpos) (mBM .str gRPart fo fs) := se_bm (t := .str) C.hK PySem.F.plainAttrs_str PySem.F.slot_str_rpartition PySem.F.type_str_rpartition mt_rpart mean_rpart ho ha hbase hfew hline hs hplain
theorem e_sindex (C : Can G X W k) (ho : SE G X W o fo) (ha : SA G X W (e :: es) fs) (hbase : attributeBase o "index" X.env (eval o X.env) = eval o X.env := by rfl)
    (hfew : ((backTo cpos (starEach (e :: es) X.env)).all (fun x => !x.1) && (backToKw cpos (keywordEach [] X.env)).all (fun x => x.1.isSome)
      && decide ((e :: es).length + ([] : List Keyword).length + (if ([] : List Keyword).isEmpty then 0 else 1) < 30)) = true := by rfl)
    (hline : (apos.endLine == cpos.line) = true := by rfl) (hs : starEach (e :: es) X.env = (false, eval e X.env) :: starEach es X.env := by rfl) (hplain : (backTo cpos (starEach es X.env)).any (·.1) = false := by rfl) :
    SE G X W (.Call (.Attribute o "index" apos) (e :: es) [] cpos) (mBM .str gIndexS fo fs) := se_bm (t := .str) C.hK PySem.F.plainAttrs_str PySem.F.slot_str_index PySem.F.type_str_index mt_index0 mean_indexS ho ha hbase hfew hline hs hplain
theorem e_find (C : Can G X W k) (ho : SE G X W o fo) (ha : SA G X W (e :: es) fs) (hbase : attributeBase o "find" X.env (eval o X.env) = eval o X.env := by rfl)
    (hfew : ((backTo cpos (starEach (e :: es) X.env)).all (fun x => !x.1) && (backToKw cpos (keywordEach [] X.env)).all (fun x => x.1.isSome)
      && decide ((e :: es).length + ([] : List Keyword).length + (if ([] : List Keyword).isEmpty then 0 else 1) < 30)) = true := by rfl)
    (hline : (apos.endLine == cpos.line) = true := by rfl) (hs : starEach (e :: es) X.env = (false, eval e X.env) :: starEach es X.env := by rfl) (hplain : (backTo cpos (starEach es X.env)).any (·.1) = false := by rfl) :
    SE G X W (.Call (.Attribute o "find" apos) (e :: es) [] cpos) (mBM .str gFind fo fs) := se_bm (t := .str) C.hK PySem.F.plainAttrs_str PySem.F.slot_str_find PySem.F.type_str_find mt_find mean_find ho ha hbase hfew hline hs hplain
end
end Sh

/-! Sh35: the items of a generator expression, collected: tuple(..), sorted(..), .. -/
namespace Sh
open PySem PySem.Spec PyProof.Rows L2 GenW
/-- the items so far -/
@[simp] def stL : List IV → IV → St3 (List IV) := fun acc y => if acc.length < big then .more (acc ++ [y]) else .bad
abbrev lsO (us : List Value) (c : Nat) : Obj := { cls := .type "list", dict := none, data := .seq us.toArray c, slots := #[] }
/-- the list at S holds them -/
def lkL (K : PySem.W.Frag) (S : Addr) : List IV → List (Addr × Obj) → List Addr → Hp → Prop := fun acc cp ι H => ∃ vs us c, RVs K ι H acc vs ∧ Vals vs us ∧ cp = [(S, lsO us c)]
theorem lkL_mono {K : PySem.W.Frag} {S : Addr} : ∀ acc cp ι H ι' H', lkL K S acc cp ι H → ι <+: ι' → TL K H H' → lkL K S acc cp ι' H' := fun acc cp ι H ι' H' ⟨vs, us, c, a, b, e⟩ p t => ⟨vs, us, c, a.mono p t, b, e⟩
section
variable {G : Gx} {X : Cx} {W : WX} {cs : List String} {Sr0 : Sr} {g : MG} {t f : ME} {fin : List IV → M IV} {Q : VK} {σ : L2.St} {pins : List (Addr × Obj)} {k : Nat} {sc : Shared} {Hc : Hp} {ge : Env} {fp : List Addr} {L a : Addr} {gi : Nat} {go : Obj} {xe : Around → Value → Shared → Prop} {s5 : Shared} {acc0 : List IV}
theorem drainX (M : GMd G X W k σ pins cs Sr0 g t f stL fin Q acc0 sc Hc ge fp L a gi go xe s5) {A : Around} (hh : A.handled = none) (hd : A.depth < recursionLimit) {R : Result → Shared → Prop} {Ax : Around} {S : Addr} (hSa : S ≠ a) (res : Value)
    (hR : ∀ s' acc vs us c ι h H, Inv X pins σ H s' → RH G ι h H → RVs G.K ι H acc vs → Vals vs us → s'.heap.get? S = some (lsO us c) → PR G (fun c d H' => W c d σ H') ι H Q (fin acc h) → R (.ok (.ret res)) s') (hE : ∀ u s1, XF X W L u s1 → R (.error u) s1) :
    ∀ (n : Nat) (s : Shared), Rdy G X W L σ sc (gxX X Ax sc Hc ge fp [(a, go)] (xe Ax)) fp cs Sr0 g t f stL fin (lkL G.K S) Q [(a, go)] A.in1.in1 a gi n s →
      codeAny (model X.prog X.w) A (.builtin "list.extend.loop" ⟨[.ref S, .ref a, res], []⟩) R s := by
  intro n
  induction n using Nat.strongRecOn with
  | ind n ih =>
    intro s r
    refine codeAny_builtin PySem.F.entry_extend_loop ?_
    rw [Around.under_plainId PySem.F.plain_extend_loop _]
    show wpAny _ A.in1 (pyNext (.ref a) >>= _) _ _ s
    refine wpAny_bind (wpAny_mono (gen_next (B := A.in1) (E := fun e s' => R (.error e) s')
      (Qn := fun v s1 => match v with
        | none => R (.ok (.ret res)) s1
        | some v => ∃ us c, s1.heap.get? S = some (lsO us c) ∧ us.length < sizeLine ∧ ∀ s2, s2 = { s1 with heap := s1.heap.update S (Obj.mapSeq (·.push v)) } → ∃ n', n = n' + 1 ∧ Rdy G X W L σ sc (gxX X Ax sc Hc ge fp [(a, go)] (xe Ax)) fp cs Sr0 g t f stL fin (lkL G.K S) Q [(a, go)] A.in1.in1 a gi n' s2)
      hh hd (List.mem_singleton.mpr rfl) M.go_ M.inv M.fp3 M.fpl (fun p hp => by rw [List.mem_singleton.mp hp]; exact M.alt.1) M.cll r hE (fun acc cp ι h H s1 I1 rh hl hcp pr => ?_) fun acc cp x y v ι h H s1 rx ry I1 rh hl hcp hcn ⟨cont, pr, kap⟩ => ?_) (fun v s1 q => ?_) fun _ _ e => e)
    · obtain ⟨vs, us, c, e1, e2, rfl⟩ := hl
      exact hR s1 acc vs us c ι h H I1 rh e1 e2 (hcp _ (List.mem_singleton.mpr rfl)) pr
    · obtain ⟨vs, us, c, e1, e2, rfl⟩ := hl
      obtain ⟨hS, hnc, hlo⟩ := hcp _ (List.mem_singleton.mpr rfl)
      simp only [stL] at pr
      split at pr
      · rename_i hlen
        have hus : us.length < sizeLine := by
          have l1 := e1.len
          have l2 := e2.length
          have : big ≤ sizeLine := by decide
          omega
        refine ⟨us, c, hS, hus, fun s2 es2 => ?_⟩
        subst es2
        have hS2 := Heap.get?_update_self (Obj.mapSeq (·.push v)) hS rfl
        obtain ⟨c', hc'⟩ : ∃ c', Obj.mapSeq (·.push v) (lsO us c) = lsO (us ++ [v]) c' := by
          have e3 : us.toArray.push v = (us ++ [v]).toArray := by simp
          simp only [Obj.mapSeq, lsO, e3]
          exact ⟨_, rfl⟩
        rw [hc'] at hS2
        refine kap (acc ++ [y]) [(S, lsO (us ++ [v]) c')] _ (fun p hp => ?_) ⟨rfl, I1.bare, fun b o hb e => ?_, fun p hp => ?_, fun b hb => ?_⟩ rfl ⟨vs ++ [x], us ++ [v], c', e1.app (RVs.one ry), e2.append (.cons rx .nil), rfl⟩ pr
        · rw [List.mem_singleton.mp hp]
          refine ⟨fun z => hSa (congrArg Prod.fst (List.mem_singleton.mp z)), fun q hq z => ?_⟩
          rw [List.mem_singleton.mp hq] at z
          exact hSa z.symm
        · exact (Heap.get?_update_other _ _ (fun z : S = b => hb (by rw [← z]; exact List.mem_singleton.mpr rfl))).trans e
        · rw [List.mem_singleton.mp hp]
          exact ⟨List.mem_singleton.mpr rfl, hS2, fun w z => by cases z⟩
        · have hb' : b = S := List.mem_singleton.mp hb
          subst hb'
          exact ⟨_, hS2⟩
      · exact pr.elim
    · cases v with
      | none => exact wpAny_pure q
      | some v =>
        obtain ⟨us, c, hS, hus, q2⟩ := q
        obtain ⟨n', e, r'⟩ := q2 _ rfl
        show wpAny _ A.in1 (updateSeq S (·.push v) >>= _) _ _ _
        refine wpAny_bind ?_
        refine wpAny_updateSeq hS rfl (wpAny_pure ⟨plainId_quiet PySem.F.plain_extend_loop _, ih n' (by omega) _ r'⟩) (by rw [List.size_toArray]; exact Nat.le_of_lt hus) (by show (us.toArray.push v).size ≤ sizeLine + 1; rw [Array.size_push, List.size_toArray]; omega)
/-- collect of the generator -/
theorem collectX (M : GMd G X W k σ pins cs Sr0 g t f stL fin Q [] sc Hc ge fp L a gi go xe s5) {A : Around} (hh : A.handled = none) (hd : A.depth < recursionLimit) (hfr : A.frames = some X.stack) (hrm : Room k (A.in1.in1.deeper ge)) {R : List Value → Shared → Prop} {E : Value → Shared → Prop}
    (hR : ∀ s' acc vs us ι h H, Inv X pins σ H s' → RH G ι h H → RVs G.K ι H acc vs → Vals vs us → PR G (fun c d H' => W c d σ H') ι H Q (fin acc h) → R us s') (hE : ∀ u s1, XF X W L u s1 → E u s1) :
    wpAny (model X.prog X.w) A (collect (.ref a)) R E s5 := by
  have hSa : s5.heap.objs.size ≠ a := Nat.ne_of_gt M.alt.2
  unfold collect
  refine wpAny_bind (wpAny_runValue (codeAny_builtin F.entry_proto_collect ?_))
  rw [Around.under_plainId F.plain_proto_collect _]
  show wpAny _ A.in1 (newList [] >>= fun l => again (.builtin "list.__iadd__" ⟨[l, .ref a], []⟩)) _ _ s5
  refine wpAny_bind (wpAny_newObj_type ?_)
  refine wpAny_pure ⟨plainId_quiet F.plain_list_iadd _, codeAny_builtin F.entry_list_iadd ?_⟩
  rw [Around.under_plainId F.plain_list_iadd _]
  have k1 : ∀ b o, s5.heap.get? b = some o → (s5.heap.push { cls := .type "list", data := .seq ([] : List Value).toArray }).get? b = some o := fun b o e => Heap.get?_push_of_some _ e
  show wpAny _ A.in1 (Builtin.List.listExtendWith (.ref s5.heap.objs.size) (.ref a) (.ref s5.heap.objs.size)) _ _ _
  unfold Builtin.List.listExtendWith
  have gty : ∀ {h : Heap}, (∀ b o, s5.heap.get? b = some o → h.get? b = some o) → h.IsGen a gi := fun {h} q => M.isg.keeps q
  refine wpAny_bind (wpAny_typeOf (Heap.IsGen.typeIs (s := { s5 with heap := _ }) (gty k1)) ?_)
  have h1 : Builtin.List.listSameRef (.ref s5.heap.objs.size) (.ref a) = false := by simp [Builtin.List.listSameRef, hSa]
  have h2 : (Value.type "generator" == Value.type "list") = false := by decide
  have h3 : (Value.type "generator" == Value.type "tuple") = false := by decide
  simp only [h1, h2, h3, Bool.or_false, Bool.false_eq_true, if_false]
  refine wpAny_bind (wpAny_pyIter_gen (s := { s5 with heap := _ }) (gty k1) ?_)
  refine wpAny_bind (wpAny_holding ?_)
  unfold Builtin.List.listLengthHint
  refine wpAny_bind (wpAny_specialOf (Heap.IsGen.typeIs (s := { s5 with heap := _ }) (gty k1)) F.gen_no_len ?_)
  show wpAny _ A.in1 (specialOf (Value.ref a) (Str.ofString "__length_hint__") >>= _) _ _ _
  refine wpAny_bind (wpAny_specialOf (Heap.IsGen.typeIs (s := { s5 with heap := _ }) (gty k1)) F.gen_no_hint ?_)
  refine wpAny_pure ?_
  show wpAny _ A.in1 (rule "list.extend.makes-room" >>= fun _ => Builtin.List.listTouch (.ref s5.heap.objs.size) >>= fun _ =>
    again (.builtin "list.extend.loop" ⟨[.ref s5.heap.objs.size, .ref a, .ref s5.heap.objs.size], []⟩)) _ _ _
  refine wpAny_bind (wpAny_rule ?_)
  have hS1 : (s5.heap.push { cls := .type "list", data := .seq ([] : List Value).toArray }).get? s5.heap.objs.size = some { cls := .type "list", data := .seq ([] : List Value).toArray } := Heap.get?_push_size _ rfl
  refine wpAny_bind ?_
  show wpAny _ A.in1 (updateSeq s5.heap.objs.size (·.push .none) >>= fun _ => updateSeq s5.heap.objs.size (·.pop)) _ _ _
  refine wpAny_bind (wpAny_updateSeq hS1 rfl ?_)
  have hS2 := Heap.get?_update_self (Obj.mapSeq (·.push Value.none)) hS1 rfl
  refine wpAny_updateSeq hS2 rfl ?_
  have hS3 := Heap.get?_update_self (Obj.mapSeq (·.pop)) hS2 rfl
  obtain ⟨c, hc⟩ : ∃ c, Obj.mapSeq (·.pop) (Obj.mapSeq (·.push Value.none) ({ cls := .type "list", data := .seq ([] : List Value).toArray } : Obj)) = lsO [] c := by
    simp only [Obj.mapSeq, lsO]
    exact ⟨_, rfl⟩
  rw [hc] at hS3
  have up : ∀ (h : Heap) (f : Obj → Obj), (∀ b o, s5.heap.get? b = some o → h.get? b = some o) → ∀ b o, s5.heap.get? b = some o → (h.update s5.heap.objs.size f).get? b = some o := fun h f q b o e =>
    (Heap.get?_update_other _ _ (Ne.symm (Nat.ne_of_lt (Heap.lt_size e)))).trans (q b o e)
  have k4 := up _ (Obj.mapSeq (·.pop)) (up _ (Obj.mapSeq (·.push Value.none)) k1)
  refine wpAny_pure ⟨plainId_quiet F.plain_extend_loop _, ?_⟩
  refine drainX M (A := A) hh hd hSa (.ref s5.heap.objs.size) (fun s' acc vs us c ι h H I1 rh e1 e2 hS pr => ?_) (fun u s1 x => hE u s1 x) (Sr0.n + 1) _
    (M.wake (lkL G.K s5.heap.objs.size) lkL_mono A.in1.in1 _ [(s5.heap.objs.size, lsO [] c)] [] hh hfr hrm k4 rfl rfl (fun p hp => ?_) fun ι => ⟨[], [], c, RVs.nil, .nil, rfl⟩)
  · show wpAny _ A (load s5.heap.objs.size >>= _) _ _ _
    refine wpAny_bind (wpAny_load hS (wpAny_pure ?_))
    exact hR s' acc vs us ι h H I1 rh e1 e2 pr
  · rw [List.mem_singleton.mp hp]
    exact ⟨hS3, Nat.le_refl _, fun v z => by cases z⟩
end
end Sh

/-! Sh36: tuple(..), sorted(..) of a generator expression. -/
namespace Sh
open PySem PySem.Spec PyProof.Rows L2 GenW
section
variable {prog : Program} {w : World} {A : Around} {E : Value → Shared → Prop} {s : Shared} {a : Addr} {gi : Nat}
theorem code_tuple_new_gen {Q₁ : Value → Shared → Prop} {P : List Value → Shared → Prop} (hg : s.heap.IsGen a gi) (hcol : ∀ (R : List Value → Shared → Prop) (E' : Value → Shared → Prop), (∀ us s', P us s' → R us s') → (∀ u s', E u s' → E' u s') → wpAny (model prog w) A.in1 (collect (.ref a)) R E' s)
    (hP : ∀ us s', P us s' → us.length ≤ sizeLine ∧ Q₁ (.ref s'.heap.objs.size) { s' with heap := s'.heap.push { cls := .type "tuple", data := .seq us.toArray } }) :
    codeAny (model prog w) A (.call (.builtin "tuple.__new__") ⟨[.type "tuple", .ref a], []⟩) (wants Q₁ E) s := by
  refine codeAny_of_tree ?_
  show wpAny _ A.in1 (do checkBuiltinCall "tuple.__new__" ⟨[.type "tuple", .ref a], []⟩; again (.builtin "tuple.__new__" ⟨[.type "tuple", .ref a], []⟩)) _ _ s
  refine wpAny_bind (wpAny_of_eq (PySem.F.newCall_tuple_1 _) (wpAny_pure ⟨plainId_quiet PySem.F.plain_tuple_new _, codeAny_builtin PySem.F.entry_tuple_new ?_⟩))
  rw [Around.under_plainId PySem.F.plain_tuple_new _]
  have hsub := sub_tuple_self
  have hinit := init_tuple_lookup
  have hmh := madeHere_tuple
  have hTI : s.TypeIs (.ref a) "generator" := hg.typeIs
  wp_walk using wpAny_typeOf hTI, hcol
  · intro us s' hp
    obtain ⟨hz, hq⟩ := hP us s' hp
    show wpAny _ _ (Builtin.Tuple.tupleExact us.toArray >>= fun v => ret v) _ _ _
    unfold Builtin.Tuple.tupleExact
    refine wpAny_bind (wpAny_newObj_type ?_ (by show us.toArray.size ≤ sizeLine; rw [List.size_toArray]; exact hz))
    exact wpAny_pure hq
  · intro u s' hu
    exact hu
open PySem.W (alike alikeAll dataLt dataLe dataKind AllAlike Sortable SortsAt EachIs sortVals keyToks)
theorem sorted_col {β : Type} {r : Addr} {enc : β → PyData} {Q : Value → Shared → Prop} {P : List Value → Shared → Prop} (hcol : ∀ (R : List Value → Shared → Prop) (E' : Value → Shared → Prop), (∀ us s', P us s' → R us s') → (∀ u s', E u s' → E' u s') → wpAny (model prog w) A.in1 (collect (.ref r)) R E' s)
    (hP : ∀ vs s', P vs s' → ∃ bs : List β, vs.length ≤ sizeLine ∧ EachIs (fun v b => ∃ as, Reads s'.heap v (enc b) as) vs bs ∧ AllAlike (bs.map enc) ∧ ((∀ d ∈ bs.map enc, ∃ xs, d = .tuple xs) ∨ ∀ d ∈ bs.map enc, d ≠ .none ∧ ∀ xs, d ≠ .tuple xs) ∧ (∀ d, d ∈ bs.map enc → A.in1.in1.units + d.depth < cLine) ∧
      ∀ h' d out n, (∀ b o, s'.heap.get? b = some o → h'.get? b = some o) → s'.heap.objs.size ≤ d → h'.get? d = some (seqObj "list" (List.toArray out) n) → (∀ R : Value → β → Prop, EachIs R vs bs → EachIs R out (bs.mergeSort (dataLe false enc))) → Q (.ref d) { s' with heap := h' }) :
    wpAny (model prog w) A (call (.builtin "sorted") [.ref r]) Q E s := by
  refine Calls.call_function_entry kind_sorted plain_sorted entry_sorted (args_sorted1 _) ?_
  unfold Builtin.«sorted»
  refine wpAny_bind (m := checkCount "sorted" 1 1 _) (wpAny_pure ?_)
  refine wpAny_bind (hcol _ _ (fun vs s' hp => ?_) fun _ _ e => e)
  obtain ⟨bs, hL, er, hal, hk, hu, h⟩ := hP vs s' hp
  refine wpAny_bind (wpAny_newList ?_ hL)
  have hoL : (s'.heap.push (seqObj "list" vs.toArray 0)).get? s'.heap.objs.size = some (seqObj "list" vs.toArray 0) := Heap.get?_push_size _ rfl
  show wpAny _ _ _ _ _ { s' with heap := s'.heap.push (seqObj "list" vs.toArray 0) }
  have keep : ∀ b o, s'.heap.get? b = some o → (PySem.W.sortingHeap (s'.heap.push (seqObj "list" vs.toArray 0)) s'.heap.objs.size vs).get? b = some o := fun b o e' =>
    PySem.W.sortingHeap_old (Nat.ne_of_lt (Heap.lt_size e')) (Heap.get?_push_of_some _ e')
  have er' : EachIs (fun v b => ∃ as, Reads (PySem.W.sortingHeap (s'.heap.push (seqObj "list" vs.toArray 0)) s'.heap.objs.size vs) v (enc b) as) vs bs := er.mono fun v b ⟨as, q⟩ => ⟨as, PyProof.Rows.Reads.keeps keep q⟩
  have S : SortsAt prog w A.in1.in1 { s' with heap := PySem.W.sortingHeap (s'.heap.push (seqObj "list" vs.toArray 0)) s'.heap.objs.size vs } (dataKind (PySem.W.sortingHeap (s'.heap.push (seqObj "list" vs.toArray 0)) s'.heap.objs.size vs) (bs.map enc)) vs := by
    have em := PySem.W.each_map (R := fun v d => ∃ as, Reads (PySem.W.sortingHeap (s'.heap.push (seqObj "list" vs.toArray 0)) s'.heap.objs.size vs) v d as) enc er'
    rcases hk with hk | hk
    · exact sortsAt_tup (s := { s' with heap := PySem.W.sortingHeap (s'.heap.push (seqObj "list" vs.toArray 0)) s'.heap.objs.size vs }) em hal hk hu
    · exact SortsAt.data (s := { s' with heap := PySem.W.sortingHeap (s'.heap.push (seqObj "list" vs.toArray 0)) s'.heap.objs.size vs }) em hal (.inr hk) hu
  refine wpAny_bind (wpAny_holding (wpAny_call_entry slot_list_sort ⟨_, hoL, rfl⟩ entry_list_sort
    (PySem.W.list_sort_vals (s := { s' with heap := s'.heap.push (seqObj "list" vs.toArray 0) }) hoL S hL ⟨_, rfl, ?_⟩) (args_list_sort _)))
  obtain ⟨e', he'⟩ := sortedHeap_at (vs := vs) (out := (sortVals (dataKind (PySem.W.sortingHeap (s'.heap.push (seqObj "list" vs.toArray 0)) s'.heap.objs.size vs) (bs.map enc)) false vs vs).toArray) hoL
  refine wpAny_pure ⟨_, rfl, h _ s'.heap.objs.size _ e' (fun b o e1 => ?_) (Nat.le_refl _) he' fun R hR => PySem.W.sortVals_data false hR er' hal⟩
  have hb := Heap.lt_size e1
  rw [sortedHeap_old (Nat.ne_of_lt hb) (by rw [size_push']; exact Nat.lt_succ_of_lt hb)]
  exact Heap.get?_push_of_some _ e1
end
def finT : List IV → M IV := fun acc h => if acc.length ≤ big then .ok (.tup acc) h else .bad
def finS : List IV → M IV := fun acc h => match mapO (dat 9 h) acc with
  | some ds => if okSort ds = true ∧ acc.length ≤ big then .ok (.ref h.length) (h ++ [.lst (sortD acc ds)]) else .bad
  | none => .bad
section
variable {G : Gx} {X : Cx} {W : WX} {cs : List String} {g : MG} {t f : ME} {k : Nat} {elt tg iter : Expr} {ifs : List Expr} {scope : Scope} {own : List (Str × Nat)} {p pos gpos : Pos} {it : MI}
theorem room_g5 {k : Nat} {A : Around} (r : Room (k + 5) A) (en : Env) : Room k (A.in1.in1.in1.in1.deeper en) := (r.in1.in1.in1.in1).deeper en
theorem room_g4 {k : Nat} {A : Around} (r : Room (k + 5) A) (en : Env) : Room k (A.in1.in1.in1.deeper en) := by
  have h := (r.in1.in1.in1).deeper en
  exact ⟨h.hd, by have := h.dp; omega, by have := h.un; omega⟩
theorem se_tupG (C : Can G X W (k + 5)) (hi : SI G X W tg iter it) (O : GxOk G X k cs scope own gpos elt tg iter ifs g t f) (hg : Gl X "tuple") (hm : X.mg "tuple" = none)
    (he : starEach [.GeneratorExp elt [⟨tg, iter, ifs, 0⟩] scope gpos] X.env = (false, eval (.GeneratorExp elt [⟨tg, iter, ifs, 0⟩] scope gpos) X.env) :: starEach [] X.env := by rfl) :
    SE G X W (.Call (.Name "tuple" p) [.GeneratorExp elt [⟨tg, iter, ifs, 0⟩] scope gpos] [] pos) (mGen it (own.map (·.2)) g t f cs stL finT []) := by
  refine ⟨fun pins s σ H Q I h => ?_⟩
  refine wpAny_Call_Name_kw (ld_blt I hg hm boot_tuple ?_)
  refine PyProof.Rows.callWith_type1 ?_ he (by rfl)
  rw [he]
  show wpAny _ _ (spliced ((false, eval (.GeneratorExp elt [⟨tg, iter, ifs, 0⟩] scope gpos) X.env) :: backTo pos (starEach [] X.env))) _ _ s
  obtain ⟨c, P, nm, ct, hn⟩ := O.ct
  refine Calls.spliced_cons (gen_make C ct hn O.ns I hi O.ok O.cell O.dot O.co O.body O.fold h fun S sc Hc ge fp L a gi go xe s5 M => ?_)
  refine Calls.spliced_nil ?_
  refine callType_codes (Q₁ := fun obj s₁ => s₁.TypeIs obj "tuple" ∧ EP X pins σ Q obj s₁) PySem.F.called_tuple (PySem.F.typeCall_tuple_1 _) PySem.F.entry_object_init
    (code_tuple_new_gen (A := X.A.in1) (P := fun us s' => ∃ acc vs ι h H, Inv X pins σ H s' ∧ RH G ι h H ∧ RVs G.K ι H acc vs ∧ Vals vs us ∧ PR G (fun c d H' => W c d σ H') ι H Q (finT acc h)) M.isg
      (fun R E' hR hE => collectX M (A := X.A.in1.in1) C.room.hd C.room.in1.in1.depth I.ok.frames (room_g5 C.room ge) (fun s' acc vs us ι h H a b c d e => hR us s' ⟨acc, vs, ι, h, H, a, b, c, d, e⟩) fun u s1 x => hE u s1 (M.tf u s1 x)) fun us s' ⟨acc, vs, ι, h, H, I1, rh, rs, rv, pr⟩ => ?_) fun obj s₁ h₁ => ?_
  · unfold finT at pr
    split at pr
    · rename_i hz
      have hl : us.length ≤ sizeLine := by
        rw [← rv.length, ← rs.len]
        exact big_le hz
      refine ⟨hl, ⟨_, Heap.get?_push_size _ rfl, rfl⟩, .ref s'.heap.objs.size, upd H s'.heap.objs.size (.tup vs), I1.laid (t' := s'.toks) (fun b u q => Heap.get?_push_of_some _ q) (Nat.le_refl _) ⟨by rw [rv.length]; exact hl, us, rv, IsTup.new _ _⟩, rfl, ?_⟩
      have hp := I1.hok.fresh (Nat.le_refl s'.heap.objs.size)
      have af := Aft.fresh rh hp (.tup vs)
      exact pr ι _ _ af (tup_iff.mpr ⟨_, _, rfl, upd_same, rs.mono af.pre af.tl⟩)
    · exact pr.elim
  · exact ⟨h₁.1, PySem.F.args_object_init_2 obj _, object_init_meets PySem.F.called_tuple.init.lookup PySem.F.called_tuple.made (by decide) X.prog X.w X.A.in1 _ s₁ ⟨h₁.1, rfl, h₁.2⟩⟩
theorem se_sortG (C : Can G X W (k + 5)) (hi : SI G X W tg iter it) (O : GxOk G X k cs scope own gpos elt tg iter ifs g t f) (hg : Gl X "sorted") (hm : X.mg "sorted" = none)
    (he : starEach [.GeneratorExp elt [⟨tg, iter, ifs, 0⟩] scope gpos] X.env = (false, eval (.GeneratorExp elt [⟨tg, iter, ifs, 0⟩] scope gpos) X.env) :: starEach [] X.env := by rfl) :
    SE G X W (.Call (.Name "sorted" p) [.GeneratorExp elt [⟨tg, iter, ifs, 0⟩] scope gpos] [] pos) (mGen it (own.map (·.2)) g t f cs stL finS []) := by
  refine ⟨fun pins s σ H Q I h => ?_⟩
  refine wpAny_Call_Name_kw (ld_blt I hg hm bt_sorted ?_)
  refine PyProof.Rows.callWith_builtin1 ?_ he (by rfl)
  rw [he]
  show wpAny _ _ (spliced ((false, eval (.GeneratorExp elt [⟨tg, iter, ifs, 0⟩] scope gpos) X.env) :: backTo pos (starEach [] X.env))) _ _ s
  obtain ⟨c, P, nm, ct, hn⟩ := O.ct
  refine Calls.spliced_cons (gen_make C ct hn O.ns I hi O.ok O.cell O.dot O.co O.body O.fold h fun S sc Hc ge fp L a gi go xe s5 M => ?_)
  refine Calls.spliced_nil ?_
  refine sorted_col (β := V × PyData) (enc := Prod.snd) (P := fun us s' => ∃ acc vs ι h H, Inv X pins σ H s' ∧ RH G ι h H ∧ RVs G.K ι H acc vs ∧ Vals vs us ∧ PR G (fun c d H' => W c d σ H') ι H Q (finS acc h))
      (fun R E' hR hE => collectX M (A := X.A.in1) C.room.hd C.room.in1.depth I.ok.frames (room_g4 C.room ge) (fun s' acc vs us ι h H a b c d e => hR us s' ⟨acc, vs, ι, h, H, a, b, c, d, e⟩) fun u s1 x => hE u s1 (M.tf u s1 x)) fun us s' ⟨acc, vs, ι, h, H, I1, rh, rs, rv, pr⟩ => ?_
  unfold finS at pr
  split at pr
  · rename_i ds hd
    split at pr
    · rename_i hz
      obtain ⟨ho, hl⟩ := hz
      have hdp : DpAll X.K H vs ds := by rw [C.hK]; exact dp_all (fun x v d a b => dp_of rh 9 x v d a b) acc vs ds rs hd
      obtain ⟨as, ra⟩ := Dp.readsAll I1 ds vs us hdp rv
      obtain ⟨er, e⟩ := readsAll_zip ra rv
      obtain ⟨h1, h2, h3⟩ := okSort_ok ho
      have hm : (vs.zip ds).map Prod.snd = ds := zip_snd (dpAll_len hdp)
      refine ⟨vs.zip ds, by rw [← rv.length, ← rs.len]; exact big_le hl, er, by rw [hm]; exact h1, by rw [hm]; exact h2, by rw [hm]; intro d hd; have := h3 d hd; have := C.room.units; show X.A.units + 1 + 1 + d.depth < cLine; omega, fun h' d out n k2 hd' hn hR => ?_⟩
      have ev := each_vals (hR _ e)
      rw [← leD_eq, ← sortP_merge leD_total] at ev
      have hlen : (sortD vs ds).length = vs.length := by
        unfold sortD
        rw [List.length_map, sortP_len, List.length_zip, ← dpAll_len hdp, Nat.min_self]
      refine ⟨.ref d, upd H d (.lst (sortD vs ds)), I1.laid (t' := s'.toks) k2 hd' ⟨by rw [hlen, ← rs.len]; exact big_le hl, out, n, ev, hn⟩, rfl, ?_⟩
      have hp := I1.hok.fresh hd'
      exact pr _ _ _ (new_lst rh hp rs.sort) (ref_iff.mpr ⟨d, ref_len rh, rfl⟩)
    · exact pr.elim
  · exact pr.elim
end
end Sh

/-! Sh37: dicts stored into; comprehensions of dicts. -/
namespace Sh
open PySem PySem.Spec PyProof.Rows L2
def dicH0 : Bool → HO
  | false => .dK []
  | true => .dT []
section
variable {G : Gx} {ι : List Addr} {h : IH} {H : Hp} {p : Addr}
theorem new_dic {db : Bool} (r : RH G ι h H) (hp : H p = none) : Aft G ι H (ι ++ [p]) (h ++ [.dic db []]) (upd H p (dicH0 db)) := by
  cases db
  · exact Aft.place r hp (.dK []) (.dic false []) ⟨[], upd_same, rfl⟩
  · exact Aft.place r hp (.dT []) (.dic true []) ⟨[], upd_same, rfl⟩
/-- a dict stored into -/
theorem dput_of {n : Nat} {a : Addr} {x y : IV} {v w : V} {t : Bool} {kvs : List (IV × IV)} (rh : RH G ι h H) (ry : RV G.K ι H y w) (rx : RV G.K ι H x v) (z : h[n]? = some (.dic t kvs)) (ia : ι[n]? = some a) (hk : keyOf t y = true) (hl : kvs.length < sizeLine) :
    ∃ H', DPut H a w v H' ∧ Aft G ι H ι (h.set n (.dic t (putD kvs y x))) H' := by
  have hn : n < h.length := (List.getElem?_eq_some_iff.mp z).1
  have ro := rh.at z ia
  cases t with
  | false =>
    obtain ⟨ws, e, rs⟩ := ro
    obtain ⟨k, rfl, rfl⟩ := key_of1 ry (show isK y = true from hk)
    have nt : ∀ b u, H b = some u → (∀ ws, u ≠ .dK ws) → b ≠ a := fun b u q ne zz => by
      subst zz
      rw [e] at q
      cases q
      exact ne _ rfl
    have tl : TL G.K H (upd H a (.dK (putK ws k v))) := TL.of (fun b xs q => by rw [upd_ne (nt b _ q (fun _ z => nomatch z))]; exact q) (fun b o u q => by rw [upd_ne (nt b _ q (fun _ z => nomatch z))]; exact q) (fun b φ q => by rw [upd_ne (nt b _ q (fun _ z => nomatch z))]; exact q)
    exact ⟨_, DPut.k e (by rw [← rs.len]; exact hl), Aft.set rh ia e trivial (.dK (putK ws k v)) (.dic false (putD kvs (kI k) x)) ⟨_, upd_same, (rs.mono (List.prefix_refl _) tl).put (rx.mono (List.prefix_refl _) tl)⟩ hn⟩
  | true =>
    obtain ⟨ws, e, rs⟩ := ro
    cases y with
    | tup ys =>
      obtain ⟨b, vs, rfl, hb, rys⟩ := tup_iff.mp ry
      obtain ⟨ks, rfl, rfl⟩ := key_ofs rys (show ys.all isK = true from hk)
      have nt : ∀ b u, H b = some u → (∀ ws, u ≠ .dT ws) → b ≠ a := fun b u q ne zz => by
        subst zz
        rw [e] at q
        cases q
        exact ne _ rfl
      have tl : TL G.K H (upd H a (.dT (putK ws ks v))) := TL.of (fun b xs q => by rw [upd_ne (nt b _ q (fun _ z => nomatch z))]; exact q) (fun b o u q => by rw [upd_ne (nt b _ q (fun _ z => nomatch z))]; exact q) (fun b φ q => by rw [upd_ne (nt b _ q (fun _ z => nomatch z))]; exact q)
      exact ⟨_, DPut.t e hb (by rw [← rs.len]; exact hl), Aft.set rh ia e trivial (.dT (putK ws ks v)) (.dic true (putD kvs (.tup (ks.map kI)) x)) ⟨_, upd_same, (rs.mono (List.prefix_refl _) tl).put (rx.mono (List.prefix_refl _) tl)⟩ hn⟩
    | _ => cases hk
end
section
variable {X : Cx} {pins : List (Addr × Obj)} {σ : L2.St} {H : Hp} {s : Shared} {a : Addr} {y v : V} {u r : Value} {E : Value → Shared → Prop}
theorem d_dictSetA {H' : Hp} {Q : Unit → Shared → Prop} (hu : X.A.units + 1 < cLine) (I : Inv X pins σ H s) (g : DPut H a y v H') (ry : RelV y u) (rv : RelV v r) (h : ∀ s', Inv X pins σ H' s' → Q () s') :
    wpAny (model X.prog X.w) X.A (dictSet a u r) Q E s := by
  rcases g with ⟨kvs, k, e, ey, l, eH⟩ | ⟨kvs, k, b, e, ey, eb, l, eH⟩
  · subst ey eH
    exact d_dictSet I e l ry rv h
  · subst ey eH
    cases (show u = Value.ref b from ry)
    obtain ⟨z, hd, xs, rel, dd⟩ := dt_of I.hok e
    have hz : xs.length ≤ sizeLine := by rw [← Paired.length rel]; exact z
    have hl : (putK kvs k v).length ≤ sizeLine := by have := length_putK kvs k v; omega
    refine wpAny_dictSet_heap (hsz := hz) (show (tupleKind (mixKind X.prog X.w)).room X.A from by first | exact Nat.lt_of_succ_lt hu | exact hu | (show X.A.units < cLine; omega)) (key_of I.hok eb) dd fun h' dd' hs => h _ ?_
    obtain ⟨q, es, ep, hq, h2, h3, h4, _, h5⟩ := dd'
    refine d_write I (by rw [e]; exact True.intro) hs ⟨q, hq⟩ ⟨hl, hd, _, (rel.put k eb rv).keeps fun c ys ec => ?_, q, es, ep, hq, h2, h3, h4, h5⟩
    rw [upd_ne (ne_of ec e (fun z => nomatch z))]
    exact ec
end
/-- the pair is put into the new dict at d -/
def dcPut (db : Bool) (d : Nat) (y z : IV) (h : IH) (k : IH → Res IV) : Res IV := match h[d]? with
  | some (.dic t kvs) => if t = db ∧ keyOf t y = true ∧ kvs.length < sizeLine then k (h.set d (.dic t (putD kvs y z))) else .bad
  | _ => .bad
theorem dcPut_ok {G : Gx} {Wh : Value → Option Addr → Hp → Prop} {ι : List Addr} {H : Hp} {Q : VK} {db : Bool} {d : Nat} {y z : IV} {h : IH} {k : IH → Res IV} (p : PR G Wh ι H Q (dcPut db d y z h k)) :
    ∃ kvs, h[d]? = some (.dic db kvs) ∧ keyOf db y = true ∧ kvs.length < sizeLine ∧ PR G Wh ι H Q (k (h.set d (.dic db (putD kvs y z)))) := by
  unfold dcPut at p
  split at p
  · rename_i t kvs e
    split at p
    · rename_i hz
      obtain ⟨rfl, h1, h2⟩ := hz
      exact ⟨kvs, e, h1, h2, p⟩
    · exact p.elim
  · exact p.elim
def dcL (db : Bool) (S : Sr) (g : MG) (t fk fv : ME) (d : Nat) : Nat → Nat → IE → M IV
  | 0, _, _ => fun _ => .bad
  | m + 1, i, e => fun h => match S.nx i h with
    | .stop => .ok (.ref d) h
    | .it x => match g x e h with
      | .nx e1 h1 => match t e1 h1 with
        | .ok (.bl true) h2 => (fk e1 h2).bind fun y h3 => (fv e1 h3).bind fun z h4 => dcPut db d y z h4 fun h5 => dcL db S g t fk fv d m (i + 1) e1 h5
        | .ok (.bl false) h2 => dcL db S g t fk fv d m (i + 1) e1 h2
        | .exc c h2 => .exc c h2
        | _ => .bad
      | _ => .bad
    | .bad => .bad
@[simp] def mDc (db : Bool) (it : MI) (vs : List Nat) (g : MG) (t fk fv : ME) : ME := fun e h => match it e h with
  | .ok S h1 => dcL db S g t fk fv h1.length (S.n + 1) 0 (wipeI e vs) (h1 ++ [.dic db []])
  | .exc c h1 => .exc c h1
  | .bad => .bad
section
variable {G : Gx} {X : Cx} {W : WX} {pins : List (Addr × Obj)} {σ : L2.St} {H : Hp} {s : Shared}
theorem dcI_core (db : Bool) {k : Nat} {kx vx tg iter : Expr} {ifs : List Expr} {scope : Scope} {own : List (Str × Nat)} {pos pos' : Pos} {it : MI} {g : MG} {t fk fv : ME} {use : Option (Value → Sem Unit)} {Q : VK} {Qf : Value → Shared → Prop}
    (C : Can G X W k) (I : Inv X pins σ H s) (hi : SI G X W tg iter it) (ok : BlkOk X.N X.env.scope scope own)
    (hb : ∀ (s : Shared) (H : Hp) (cl : List (Str × Addr)) (D : Addr) (fp : List Addr) (xe : Value → Shared → Prop) (W' : WX), Can G (blkX X s H scope (compEnvC scope cl D X.env) fp xe) W' k →
      SG G (blkX X s H scope (compEnvC scope cl D X.env) fp xe) W' tg g ∧ SQ G (blkX X s H scope (compEnvC scope cl D X.env) fp xe) W' ifs t ∧ SE G (blkX X s H scope (compEnvC scope cl D X.env) fp xe) W' kx fk ∧ SE G (blkX X s H scope (compEnvC scope cl D X.env) fp xe) W' vx fv)
    (hs : ∀ x, foldedSetIterable iter X.env x = pure x)
    (h : TI G W (mDc db it (own.map (·.2)) g t fk fv) σ H Q)
    (hRR : ∀ D ce s' m H', Inv X pins σ H' s' → Q (.ref D) H' → s'.heap.Ns ce.locals m → FpOk X pins H' ce.locals → compEnds (model X.prog X.w) X.A X.xe use Qf (.ref D) ce (.ok .next) s') :
    wpAny (model X.prog X.w) X.A (comprehension (.DictComp kx vx [⟨tg, iter, ifs, 0⟩] scope pos) scope X.env pos' newDict false (eval iter X.env) use) Qf X.xe s := by
  obtain ⟨L, tp, tf⟩ := C.tf
  have hfree : ∀ y ∈ scope.names, y.2 = .free → ∃ c, X.env.cells.lookup y.1 = some c := fun y hy e => by
    rcases ok.free y hy e with k | k
    · exact I.ok.has _ (.inl k)
    · exact I.ok.has _ (.inr k)
  obtain ⟨ι, e, h0, en, rh, hq⟩ := h
  have hT : TII G W it σ H fun J H1 => ∃ S ι1 h1, Aft G ι H ι1 h1 H1 ∧ SrOk G ι1 H1 S J ∧ PR G (fun c d H' => W c d σ H') ι1 H1 Q (dcL db S g t fk fv h1.length (S.n + 1) 0 (wipeI e (own.map (·.2))) (h1 ++ [.dic db []])) := by
    refine ⟨ι, e, h0, en, rh, ?_⟩
    simp only [mDc] at hq
    cases z : it e h0 with
    | bad => rw [z] at hq; exact hq
    | exc c h1 => rw [z] at hq; exact hq
    | ok S h1 =>
      rw [z] at hq
      exact fun ι1 H1 J a so => ⟨S, ι1, h1, a, so, PR.after a hq⟩
  refine comprehension_at (use := use) rfl hs (closure_ok hfree) ok.kind (fun y hy e => by rw [ok.uniq y hy, e])
    (thn (hi.run pins s σ H _ I hT) fun xv s1 hx => thn hx fun itv s2 h2 => ?_)
  obtain ⟨itA, fp, tn, J, H2, e2, I2, T, st2, f2, S, ι2, hh2, af2, so, q⟩ := h2
  subst e2
  refine wpAny_newObj_type (newEnv_comp ?_)
  generalize hD : s2.heap.objs.size = D
  have hDn : H2 D = none := I2.hok.fresh (Nat.le_of_eq hD)
  generalize hs3 : ({ s2 with heap := s2.heap.push { cls := .type "dict", data := .dict #[] } } : Shared) = s3
  have I3 : Inv X pins σ (upd H2 D (dicH0 db)) s3 := by
    rw [← hs3]
    refine I2.laid (t' := s2.toks) (fun b o e => Heap.get?_push_of_some _ e) (Nat.le_of_eq hD) ?_
    rw [← hD]
    cases db
    · exact dk_empty s2.heap I2.big
    · exact dt_empty s2.heap I2.big
  have h3 : s3.heap = s2.heap.push { cls := .type "dict", data := .dict #[] } := by rw [← hs3]
  have af3 : Aft G ι2 H2 (ι2 ++ [D]) (hh2 ++ [.dic db []]) (upd H2 D (dicH0 db)) := new_dic af2.rh hDn
  have so3 : SrOk G (ι2 ++ [D]) (upd H2 D (dicH0 db)) S J := fun i ι' h' H' r p tl => so i ι' h' H' r (af3.pre.trans p) (af3.tl.trans tl)
  have q3 := PR.after af3 q
  have lenD : ι2.length = hh2.length := af2.rh.len
  have dD : (ι2 ++ [D])[hh2.length]? = some D := by rw [← lenD]; simp
  have sz : ∀ b ∈ fp, b < s2.heap.objs.size := fun b hb => by
    obtain ⟨o, e, _⟩ := T.obj _ _ st2 b hb
    exact Heap.lt_size e
  have f3 : ∀ b ∈ fp, FpOk X pins (upd H2 D (dicH0 db)) b ∧ b < s3.heap.objs.size := fun b hb => by
    have hlt := sz b hb
    refine ⟨⟨?_, (f2 b hb).2⟩, by rw [h3, Heap.size_push]; exact Nat.lt_succ_of_lt hlt⟩
    rw [upd_ne (by rw [← hD]; exact Nat.ne_of_lt hlt)]
    exact (f2 b hb).1
  have st3 : tn 0 s3.heap := T.keep _ _ _ st2 fun b _ o e => by rw [h3]; exact Heap.get?_push_of_some _ e
  have I4 := block_start I3 ok C.nd f3
  have body := hb s3 (upd H2 D (dicH0 db)) (cellsFrom (s3.heap.objs.size + 1) scope.names (cloFrom X.env.cells scope.names [])) s3.heap.objs.size fp
  show codeAny _ _ (.compStart (.DictComp kx vx [⟨tg, iter, ifs, 0⟩] scope pos) 0 (.ref itA) (.ref D) (compEnvC scope (cellsFrom (s3.heap.objs.size + 1) scope.names (cloFrom X.env.cells scope.names [])) s3.heap.objs.size X.env)) (compEnds (model X.prog X.w) X.A X.xe use Qf (.ref D) (compEnvC scope (cellsFrom (s3.heap.objs.size + 1) scope.names (cloFrom X.env.cells scope.names [])) s3.heap.objs.size X.env)) { s3 with heap := pushCells (s3.heap.push { cls := .type "dict", data := .dict #[] }) scope.names }
  have nfp : ∀ b ∈ fp, (upd H2 D (dicH0 db)) b = none := fun b hb => (f3 b hb).1.1
  have cL : (compEnvC scope (cellsFrom (s3.heap.objs.size + 1) scope.names (cloFrom X.env.cells scope.names [])) s3.heap.objs.size X.env).locals = s3.heap.objs.size := rfl
  have cF : (compEnvC scope (cellsFrom (s3.heap.objs.size + 1) scope.names (cloFrom X.env.cells scope.names [])) s3.heap.objs.size X.env).frame = X.env.frame := rfl
  generalize compEnvC scope (cellsFrom (s3.heap.objs.size + 1) scope.names (cloFrom X.env.cells scope.names [])) s3.heap.objs.size X.env = ce at I4 body cL cF ⊢
  generalize hH3 : upd H2 D (dicH0 db) = H3 at I3 I4 af3 so3 q3 body nfp f3
  -- the block's exceptions
  generalize hxe : notedBy (model X.prog X.w) X.A ce (CompFails (model X.prog X.w) X.A X.xe ce) = xe
  have C2 : Can G (blkX X s3 H3 scope ce fp xe) (bW W σ) k := by
    refine ⟨⟨L, ⟨tp.1, cF.trans tp.2⟩, fun u s' x => ?_⟩, C.room, C.calm, C.nd, C.hK⟩
    rw [← hxe] at x
    have := blk_out tp tf I3 (fun b hb => (f3 b hb).1) cL cF u s' x
    rw [hxe] at this
    exact this
  obtain ⟨pg, pt, pk, pe⟩ := body xe (bW W σ) C2
  have I4 : Inv (blkX X s3 H3 scope ce fp xe) [] (L2.wipe σ (own.map (·.2))) H3 _ := I4.wish xe
  generalize hs4 : ({ s3 with heap := pushCells (s3.heap.push { cls := .type "dict", data := .dict #[] }) scope.names } : Shared) = s4 at I4 ⊢
  have st4 : tn 0 s4.heap := T.keep _ _ _ st3 fun b _ o e => by rw [← hs4]; exact pushCells_keeps _ _ _ _ (Heap.get?_push_of_some _ e)
  have stat : ∀ {σ' : L2.St} {H' : Hp} {s' : Shared}, Inv (blkX X s3 H3 scope ce fp xe) [] σ' H' s' → (∀ b ∈ fp, H' b = none) → ∀ b ∈ fp, FpOk (blkX X s3 H3 scope ce fp xe) [] H' b := fun {σ' H' s'} I' hn b hb =>
    ⟨hn b hb, (I'.ok.exf b hb).1, I'.ok.exfs b hb, .inl hb, fun x c e => (I'.ok.exf b hb).2 x c e, fun p hp => absurd (show p ∈ ([] : List (Addr × Obj)) ++ [] from hp) (by simp)⟩
  have en3 : REn G.K (ι2 ++ [D]) H3 (wipeI e (own.map (·.2))) (L2.wipe σ (own.map (·.2))) := by
    have z := (en.mono af2.pre af2.tl).mono af3.pre af3.tl
    exact z.wipe _
  have loop : codeAny (model X.prog X.w) X.A (.compLoop (.DictComp kx vx [⟨tg, iter, ifs, 0⟩] scope pos) 0 (.ref itA) (.ref D) ce) (compEnds (model X.prog X.w) X.A X.xe use Qf (.ref D) ce) s4 := by
    refine compLoop_anyD (fun n s' => ∃ i H' σ' ι' e' h', Inv (blkX X s3 H3 scope ce fp xe) [] σ' H' s' ∧ tn i s'.heap ∧ (∀ b ∈ fp, H' b = none) ∧ REn G.K ι' H' e' σ' ∧ RH G ι' h' H' ∧ (ι2 ++ [D]) <+: ι' ∧ TL G.K H3 H' ∧ PR G (fun c d H' => W c d σ H') ι' H' Q (dcL db S g t fk fv hh2.length n i e' h'))
      ?_ (S.n + 1) ⟨0, H3, _, ι2 ++ [D], _, _, I4, st4, nfp, en3, af3.rh, List.prefix_refl _, TL.refl _ _, q3⟩
    rintro n s5 ⟨i, H5, σ5, ι5, e5, h5, I5, st5, n5, en5, rh5, pre5, tl5, q5⟩
    rw [show notedBy (model X.prog X.w) X.A ce (fun e s' => compEnds (model X.prog X.w) X.A X.xe use Qf (.ref D) ce (.error e) s') = xe from hxe]
    cases n with
    | zero => exact q5.elim
    | succ n =>
      simp only [dcL] at q5
      have so5 := so3 i ι5 h5 H5 rh5 pre5 tl5
      cases zn : S.nx i h5 with
      | bad => rw [zn] at q5; exact q5.elim
      | stop =>
        rw [zn] at q5 so5
        have td := T.done (blkX X s3 H3 scope ce fp xe) rfl rfl rfl C.calm i [] s5 σ5 H5 xe I5 (stat I5 n5) st5 so5
        refine thn td fun r s6 ⟨hr, I6⟩ => ?_
        subst hr
        have I7 : Inv X pins σ H5 s6 := I3.call' (ch := fp) I6.os I6.base I6.hok I6.bare fun b hb => ⟨(f3 b hb).1.2.2.2.1, (f3 b hb).1.2.1, (f3 b hb).1.2.2.2.2.1, (f3 b hb).1.2.2.2.2.2⟩
        have nC : H5 s3.heap.objs.size = none := by
          have z : H5 ce.locals = none := I6.free
          rw [cL] at z
          exact z
        obtain ⟨m, hn, _⟩ := I6.loc
        have hn : s6.heap.Ns ce.locals m := hn
        refine hRR D ce s6 m H5 I7 (q5 ι5 H5 _ (Aft.refl rh5) (ref_iff.mpr ⟨D, pre_get pre5 dD, rfl⟩)) hn ?_
        rw [cL]
        exact I3.fpOk (Nat.le_refl _) nC
      | it x =>
        rw [zn] at q5 so5
        simp only at q5 so5
        obtain ⟨go, yl⟩ := so5
        have ti := T.item (blkX X s3 H3 scope ce fp xe) rfl rfl rfl C.calm i [] s5 σ5 H5 xe I5 (stat I5 n5) st5 go
        refine thn ti fun r s6 ⟨u, hr, h6⟩ => ?_
        subst hr
        refine thn h6 fun _ s7 ⟨xv, H7, I7, r7, y7, st7, n7⟩ => ?_
        obtain ⟨ι7, a7, rx⟩ := yl xv H7 y7
        have I7' := I7.pinned (stat I7 n7) (T.obj _ _ st7)
        -- a turn's end
        have fin : ∀ {s' : Shared} {H' : Hp} {σ' : L2.St}, Inv (blkX X s3 H3 scope ce fp xe) ([] ++ pinsAt fp s7.heap) σ' H' s' → Inv (blkX X s3 H3 scope ce fp xe) [] σ' H' s' ∧ tn (i + 1) s'.heap ∧ ∀ b ∈ fp, H' b = none := fun {s' H' σ'} I' => by
          have pin' : ∀ b ∈ fp, ∀ o, s7.heap.get? b = some o → s'.heap.get? b = some o ∧ H' b = none := fun b hb o e =>
            let z := I'.pin (b, o) (List.mem_append_right _ (List.mem_append_right _ (mem_pinsAt hb e)))
            ⟨z.1, z.2.1⟩
          refine ⟨I'.unpinned (pins := []), T.keep _ _ _ st7 fun b hb o e => (pin' b hb o e).1, fun b hb => ?_⟩
          obtain ⟨o, e, _⟩ := T.obj _ _ st7 b hb
          exact (pin' b hb o e).2
        have q7 := PR.after a7 q5
        have hg7 : TGI G (bW W σ) g xv σ5 H7 fun σ8 H8 => ∃ ι8 e8 h8, REn G.K ι8 H8 e8 σ8 ∧ Aft G ι7 H7 ι8 h8 H8 ∧ PR G (fun c d H' => W c d σ H') ι8 H8 Q (match t e8 h8 with
          | .ok (.bl true) h2 => (fk e8 h2).bind fun y h3 => (fv e8 h3).bind fun z h4 => dcPut db hh2.length y z h4 fun h5 => dcL db S g t fk fv hh2.length n (i + 1) e8 h5
          | .ok (.bl false) h2 => dcL db S g t fk fv hh2.length n (i + 1) e8 h2
          | .exc c h2 => .exc c h2
          | _ => .bad) := by
          refine ⟨ι7, e5, h5, x, en5.mono a7.pre a7.tl, a7.rh, rx, ?_⟩
          cases zg : g x e5 h5 with
          | nx e8 h8 =>
            rw [zg] at q7
            exact fun ι8 σ8 H8 a8 en8 => ⟨ι8, e8, h8, en8, a8, PR.after a8 q7⟩
          | _ => rw [zg] at q7; exact q7.elim
        refine thn (pg.run _ s7 σ5 H7 xv u _ I7' r7 hg7) fun _ s8 ⟨σ8, H8, I8, ι8, e8, h8, en8, a8, q8⟩ => ?_
        have ht8 : TB G (bW W σ) t σ8 H8 fun b H9 => ∃ ι9 h9, REn G.K ι9 H9 e8 σ8 ∧ Aft G ι8 H8 ι9 h9 H9 ∧ PR G (fun c d H' => W c d σ H') ι9 H9 Q (if b = true then (fk e8 h9).bind fun y h3 => (fv e8 h3).bind fun z h4 => dcPut db hh2.length y z h4 fun h5 => dcL db S g t fk fv hh2.length n (i + 1) e8 h5 else dcL db S g t fk fv hh2.length n (i + 1) e8 h9) := by
          refine ⟨ι8, e8, h8, en8, a8.rh, ?_⟩
          cases zt : t e8 h8 with
          | bad => rw [zt] at q8; exact q8
          | exc c h9 => rw [zt] at q8; exact q8
          | ok b h9 =>
            rw [zt] at q8
            cases b <;> try exact q8
            rename_i b
            cases b with
            | true => exact fun ι9 H9 a9 => ⟨ι9, h9, en8.mono a9.pre a9.tl, a9, by rw [if_pos rfl]; exact PR.after a9 q8⟩
            | false => exact fun ι9 H9 a9 => ⟨ι9, h9, en8.mono a9.pre a9.tl, a9, by rw [if_neg Bool.false_ne_true]; exact PR.after a9 q8⟩
        refine thn (pt.run _ s8 σ8 H8 _ I8 ht8) fun b s9 ⟨H9, I9, ι9, h9, en9, a9, q9⟩ => ?_
        have pre9 : (ι2 ++ [D]) <+: ι9 := pre5.trans (a7.pre.trans (a8.pre.trans a9.pre))
        have tl9 : TL G.K H3 H9 := tl5.trans (a7.tl.trans (a8.tl.trans a9.tl))
        cases b with
        | false =>
          rw [if_neg Bool.false_ne_true] at q9
          simp only [Bool.false_eq_true, if_false]
          obtain ⟨J9, t9, n9⟩ := fin I9
          exact ⟨n, Nat.lt_succ_self n, i + 1, H9, σ8, ι9, e8, h9, J9, t9, n9, en9, a9.rh, pre9, tl9, q9⟩
        | true =>
          rw [if_pos rfl] at q9
          simp only [if_true]
          have he9 : TI G (bW W σ) fk σ8 H9 fun y H10 => ∃ ι10 h10 yi, Aft G ι9 H9 ι10 h10 H10 ∧ RV G.K ι10 H10 yi y ∧ PR G (fun c d H' => W c d σ H') ι10 H10 Q ((fv e8 h10).bind fun z h4 => dcPut db hh2.length yi z h4 fun h5 => dcL db S g t fk fv hh2.length n (i + 1) e8 h5) := by
            refine ⟨ι9, e8, h9, en9, a9.rh, ?_⟩
            cases zf : fk e8 h9 with
            | bad => rw [zf] at q9; exact q9
            | exc c h10 => rw [zf] at q9; exact q9
            | ok yi h10 =>
              rw [zf] at q9
              simp only [Res.bind] at q9
              intro ι10 H10 y a10 ry
              exact ⟨ι10, h10, yi, a10, ry, PR.after a10 q9⟩
          refine thn (pk.run _ s9 σ8 H9 _ I9 he9) fun zk s10 ⟨yv, H10, I10, r10, ι10, h10, yi, a10, ry, q10⟩ => ?_
          have en10 := en9.mono a10.pre a10.tl
          have he10 : TI G (bW W σ) fv σ8 H10 fun z H11 => ∃ ι11 h11 zi, Aft G ι10 H10 ι11 h11 H11 ∧ RV G.K ι11 H11 zi z ∧ PR G (fun c d H' => W c d σ H') ι11 H11 Q (dcPut db hh2.length yi zi h11 fun h5 => dcL db S g t fk fv hh2.length n (i + 1) e8 h5) := by
            refine ⟨ι10, e8, h10, en10, a10.rh, ?_⟩
            cases zf : fv e8 h10 with
            | bad => rw [zf] at q10; exact q10
            | exc c h11 => rw [zf] at q10; exact q10
            | ok zi h11 =>
              rw [zf] at q10
              simp only [Res.bind] at q10
              intro ι11 H11 z a11 rz
              exact ⟨ι11, h11, zi, a11, rz, PR.after a11 q10⟩
          refine thn (pe.run _ s10 σ8 H10 _ I10 he10) fun zv s11 ⟨zz, H11, I11, r11, ι11, h11, zi, a11, rz, q11⟩ => ?_
          have pre11 := pre9.trans (a10.pre.trans a11.pre)
          obtain ⟨kvs, z0, hk, hl, q11⟩ := dcPut_ok q11
          obtain ⟨H12, dp, a12⟩ := dput_of a11.rh (ry.mono a11.pre a11.tl) rz z0 (pre_get pre11 dD) hk hl
          refine d_dictSetA (X := blkX X s3 H3 scope ce fp xe) (units1 (X := blkX X s3 H3 scope ce fp xe) C2) I11 dp r10 r11 fun s12 I12 => ?_
          obtain ⟨J12, t12, n12⟩ := fin I12
          exact ⟨n, Nat.lt_succ_self n, i + 1, _, σ8, ι11, e8, _, J12, t12, n12, (en10.mono a11.pre a11.tl).mono a12.pre a12.tl, a12.rh, pre11, tl9.trans (a10.tl.trans (a11.tl.trans a12.tl)), PR.after a12 q11⟩
  exact codeAny_compStart_dict loop (T.self X.A 0 _ _ _ st4 loop)


/-- a block's parts -/
def SBd (G : Gx) (X : Cx) (k : Nat) (scope : Scope) (tg : Expr) (ifs : List Expr) (kx vx : Expr) (g : MG) (t fk fv : ME) : Prop :=
  ∀ (s : Shared) (H : Hp) (cl : List (Str × Addr)) (D : Addr) (fp : List Addr) (xe : Value → Shared → Prop) (W' : WX), Can G (blkX X s H scope (compEnvC scope cl D X.env) fp xe) W' k →
      SG G (blkX X s H scope (compEnvC scope cl D X.env) fp xe) W' tg g ∧ SQ G (blkX X s H scope (compEnvC scope cl D X.env) fp xe) W' ifs t ∧ SE G (blkX X s H scope (compEnvC scope cl D X.env) fp xe) W' kx fk ∧ SE G (blkX X s H scope (compEnvC scope cl D X.env) fp xe) W' vx fv
variable {k : Nat} {kx vx tg iter : Expr} {ifs : List Expr} {scope : Scope} {own : List (Str × Nat)} {pos spos : Pos} {it : MI} {g : MG} {t fk fv : ME}
theorem se_dc (db : Bool) (C : Can G X W k) (hi : SI G X W tg iter it) (ok : BlkOk X.N X.env.scope scope own) (hb : SBd G X k scope tg ifs kx vx g t fk fv) (hs : ∀ x, foldedSetIterable iter X.env x = pure x := by intro _; rfl) :
    SE G X W (.DictComp kx vx [⟨tg, iter, ifs, 0⟩] scope pos) (mDc db it (own.map (·.2)) g t fk fv) := by
  refine ⟨fun pins s σ H Q I h => ?_⟩
  rw [arm_eval_DictComp]
  refine dcI_core db C I hi ok hb hs h fun D ce s' m H' I' q hn fC => ⟨m, hn, fun h2 sb => ?_⟩
  obtain ⟨f0, f1, f2, f3, f4, f5⟩ := fC
  exact ⟨.ref D, H', I'.turned (t' := s'.toks) (fun b o hb e => (sb.2 b hb).trans e) f0 f1 f3 f4 f5, rfl, q⟩
/-- name = {..: ..} -/
theorem ss_setDc (db : Bool) {i : Nat} {y : Str} {py : Pos} (C : Can G X W k) (hy : X.N[i]? = some y) (hyl : X.env.scope.names.lookup y = some .local)
    (hsw : swapsWith (.DictComp kx vx [⟨tg, iter, ifs, 0⟩] scope pos) (some (.Name y py)) spos.line X.env = pure true) (hi : SI G X W tg iter it) (ok : BlkOk X.N X.env.scope scope own) (hb : SBd G X k scope tg ifs kx vx g t fk fv) (hs : ∀ x, foldedSetIterable iter X.env x = pure x := by intro _; rfl) :
    SS G X W (.Assign [.Name y py] (.DictComp kx vx [⟨tg, iter, ifs, 0⟩] scope pos) spos) (sAsg (mDc db it (own.map (·.2)) g t fk fv) (gName' i)) := by
  have hp : PS X (.Assign [.Name y py] (.DictComp kx vx [⟨tg, iter, ifs, 0⟩] scope pos) spos) (tAsg (TI G W (mDc db it (own.map (·.2)) g t fk fv)) (gName i)) := by
    refine ⟨fun pins s σ H D I h => ?_⟩
    rw [exec_Assign_Name_used _ _ _ _ hsw]
    refine wpAny_bind (wpAny_standAt (wpAny_bind ?_))
    show wpAny _ X.A (do let _ ← comprehension (.DictComp kx vx [⟨tg, iter, ifs, 0⟩] scope pos) scope X.env (firstIterPos [⟨tg, iter, ifs, 0⟩] pos) newDict false (eval iter X.env) (some (assign (.Name y py) X.env))) _ _ s
    have h : TI G W (mDc db it (own.map (·.2)) g t fk fv) σ H (fun x H1 => gName i x σ H1 D.nx) := h
    refine wpAny_bind (thn (dcI_core db (Qf := fun _ s' => SP X pins D .next s') C I hi ok hb hs h fun E ce s' m H' I' q hn fC => ?_) fun _ s' hq => wpAny_pure (wpAny_pure hq))
    show wpAny _ _ (assign (.Name y py) X.env (.ref E)) _ _ _
    refine wpAny_assign_Name (store_ok2 (v := V.ref E) I' C.nd hy (.inl hyl) rfl (fun s2 I2 ⟨a, sb, ha⟩ => ?_) (.inr hyl))
    obtain ⟨f0, f1, f2, f3, f4, f5⟩ := fC
    have hne : ce.locals ≠ a := by
      rcases ha with z | z
      · rw [z]; exact f1
      · exact fun e => f4 _ _ z e.symm
    refine ⟨m, hn.sameBut sb hne, fun h3 sb3 => ⟨_, H', I2.turned (t' := s2.toks) (fun b o hb e => (sb3.2 b hb).trans e) f0 f1 f3 f4 f5, q⟩⟩
  refine ps_weak hp fun D σ H hq => ?_
  obtain ⟨ι, e, h, en, rh, q⟩ := hq
  exact TI.st en rh q fun x v ι1 h1 H1 a1 en1 r1 q1 => q1 ι1 _ H1 (Aft.refl a1.rh) (en1.set i ⟨v, rfl, r1⟩)
end
end Sh

/-! Sh38: dict(a list of pairs). -/
namespace Sh
open PySem PySem.Spec PyProof.Rows L2
section
variable {prog : Program} {w : World} {A : Around} {E : Value → Shared → Prop}
def mergeH {K : Type} [DecidableEq K] (acc more : List (K × Addr × Value)) : List (K × Addr × Value) := more.foldl (fun a q => storedH a q.1 q.2.1 q.2.2) acc
theorem storedH_len {K : Type} [DecidableEq K] (xs : List (K × Addr × Value)) (k : K) (a : Addr) (v : Value) : (storedH xs k a v).length ≤ xs.length + 1 := by
  unfold storedH
  split
  · rw [List.length_map]; omega
  · rw [List.length_append]; exact Nat.le_refl _
theorem upd_loopT {R : Result → Shared → Prop} {S I l : Addr} {items : Array Value} {res : Value} (hh : A.handled = none) (hu : A.units + 2 < cLine) (hlI : l ≠ I) (hSI : S ≠ I) (hSl : S ≠ l) :
    ∀ (rest : List (List Key × Addr × Value)) (i : Nat) (acc : List (List Key × Addr × Value)) (ix : Int) (t : Tok) (s : Shared), items.size = i + rest.length → acc.length + rest.length ≤ sizeLine →
      (∀ (j : Nat) (q : List Key × Addr × Value), rest[j]? = some q → ∃ (b : Addr), items[i + j]? = some (.ref b) ∧ b ≠ S ∧ b ≠ I ∧ IsTup s.heap b #[.ref q.2.1, q.2.2] ∧ q.2.1 ≠ S ∧ q.2.1 ≠ I ∧ IsTupleKey (mixKind prog w) s.heap q.1 q.2.1) →
      s.heap.IsListIter I l i → s.heap.IsList l items → s.heap.DictOfH (tupleKind (mixKind prog w)) S acc → (∀ x ∈ acc, x.2.1 ≠ I) →
      (∀ h' tk, h'.DictOfH (tupleKind (mixKind prog w)) S (mergeH acc rest) → (∀ b o, b ≠ S → b ≠ I → s.heap.get? b = some o → h'.get? b = some o) → R (.ok (.ret res)) { s with heap := h', toks := tk }) →
      codeAny (model prog w) A (.builtin "dict.update.loop" ⟨[.ref S, .ref I, .int ix t, res], []⟩) R s
  | [], i, acc, ix, t, s, hsz, hln, ht, hit, hl, hm, hacc, hR => by
    refine codeAny_builtin ud_entry ?_
    rw [Around.under_plainId ud_plain _]
    show wpAny _ A.in1 (pyNext (.ref I) >>= _) _ _ s
    refine wpAny_bind (wpAny_pyNext_list_end (A := A.in1) hh hit hl (by first | exact Array.getElem?_eq_none (Nat.le_of_eq hsz) | (simp at hsz; simp; omega)) fun h' he => ?_)
    show wpAny _ A.in1 (Builtin.Dict.addKeywords S [] >>= _) _ _ _
    refine wpAny_bind (wpAny_pure (wpAny_pure ?_))
    refine hR h' s.toks ?_ fun b o _ hb e => he b o hb e
    obtain ⟨o, es, ep, h1, h2, h3, h4, h5, h6⟩ := hm
    exact ⟨o, es, ep, he _ _ hSI h1, h2, h3, h4, fun x hx => let ⟨ob, its, n, g1, g2⟩ := h5 x hx; ⟨ob, its, n, he _ _ (hacc x hx) g1, g2⟩, h6⟩
  | q :: rest, i, acc, ix, t, s, hsz, hln, ht, hit, hl, hm, hacc, hR => by
    obtain ⟨b, hb, hbS, hbI, htup, hkS, hkI, hk⟩ := ht 0 q rfl
    rw [List.length_cons] at hsz hln
    refine codeAny_builtin ud_entry ?_
    rw [Around.under_plainId ud_plain _]
    show wpAny _ A.in1 (pyNext (.ref I) >>= _) _ _ s
    refine wpAny_bind (wpAny_pyNext_list_item (x := .ref b) hit hl (by simpa using hb) fun h1 hit1 hs1 => ?_)
    have keyE : ∀ {h h' : Heap} {ks : List Key} {ka c : Addr}, IsTupleKey (mixKind prog w) h ks ka → Heap.ExtBut c h h' → ka ≠ c → IsTupleKey (mixKind prog w) h' ks ka := fun {h h' ks ka c} x e ne => let ⟨ob, its, n, g1, g2⟩ := x; ⟨ob, its, n, e _ _ ne g1, g2⟩
    have ht1 : IsTup h1 b #[.ref q.2.1, q.2.2] := htup.extBut hs1.extBut hbI
    have hl1 : h1.IsList l items := hl.extBut hs1.extBut hlI
    have hm1 : h1.DictOfH (tupleKind (mixKind prog w)) S acc := by
      obtain ⟨o, es, ep, g1, g2, g3, g4, g5, g6⟩ := hm
      exact ⟨o, es, ep, hs1.extBut _ _ hSI g1, g2, g3, g4, fun x hx => keyE (g5 x hx) hs1.extBut (hacc x hx), g6⟩
    obtain ⟨o, ho, hc, n, hd⟩ := id ht1
    show wpAny _ A.in1 (holding [Value.ref b] _ >>= _) _ _ _
    refine wpAny_bind (wpAny_holding ?_)
    refine wpAny_bind (wpAny_tryCatch ?_)
    unfold Builtin.Dict.pairItems
    refine wpAny_bind (wpAny_typeOf (T := "tuple") ⟨o, ho, hc⟩ ?_)
    rw [if_pos (by first | decide | rfl | simp)]
    refine wpAny_bind (wpAny_seqItems ho hd (wpAny_pure ?_))
    show wpAny _ A.in1 (holding [.ref q.2.1, q.2.2] (dictSet S (.ref q.2.1) q.2.2)) _ _ _
    refine wpAny_holding (wpAny_dictSet_heap (knd := tupleKind (mixKind prog w)) (k := q.1) (show A.in1.units < cLine from by show A.units + 1 < cLine; omega) (keyE hk hs1.extBut hkI) hm1 (fun h2 hm2 hs2 => ?_) (by omega))
    refine wpAny_pure ⟨plainId_quiet ud_plain _, upd_loopT (items := items) hh hu hlI hSI hSl rest (i + 1) (storedH acc q.1 q.2.1 q.2.2) (ix + 1) 0 _ (show items.size = i + 1 + rest.length by omega) ?_ (fun j q' e => ?_) ?_ ?_ hm2 (fun x hx => ?_) fun h' tk hd' k => ?_⟩
    · have z := storedH_len acc q.1 q.2.1 q.2.2
      omega
    · obtain ⟨b', hb', hbS', hbI', htup', hkS', hkI', hk'⟩ := ht (j + 1) q' (by simpa using e)
      refine ⟨b', ?_, hbS', hbI', (htup'.extBut hs1.extBut hbI').extBut hs2.extBut hbS', hkS', hkI', keyE (keyE hk' hs1.extBut hkI') hs2.extBut hkS'⟩
      rw [show i + 1 + j = i + (j + 1) by omega]
      exact hb'
    · exact hit1.at fun o' e => hs2.extBut I o' (Ne.symm hSI) e
    · exact hl1.extBut hs2.extBut (Ne.symm hSl)
    · unfold storedH at hx
      split at hx
      · obtain ⟨y, hy, rfl⟩ := List.mem_map.mp hx
        have := hacc y hy
        unfold putAt
        split
        · exact this
        · exact this
      · rcases List.mem_append.mp hx with hx | hx
        · exact hacc x hx
        · rw [List.mem_singleton.mp hx]; exact hkI
    · exact hR h' tk hd' fun c oc h3 h4 e => k c oc h3 h4 (hs2.extBut c oc h3 (hs1.extBut c oc h4 e))
theorem call_dict_pairsT {s : Shared} {l : Addr} {ol : Obj} {items : Array Value} {n : Nat} {prs : List (List Key × Addr × Value)} {Q : Value → Shared → Prop} (hh : A.handled = none) (hu : A.units + 64 < cLine) (hl : s.heap.get? l = some ol) (hc : ol.cls = .type "list") (hd : ol.dict = none)
    (hdat : ol.data = .seq items n) (hsz : items.size = prs.length) (hln : prs.length ≤ sizeLine)
    (ht : ∀ (j : Nat) (q : List Key × Addr × Value), prs[j]? = some q → ∃ (b : Addr), items[j]? = some (.ref b) ∧ IsTup s.heap b #[.ref q.2.1, q.2.2] ∧ IsTupleKey (mixKind prog w) s.heap q.1 q.2.1)
    (h : ∀ h' tk, h'.DictOfH (tupleKind (mixKind prog w)) s.heap.objs.size (mergeH [] prs) → (∀ b o, s.heap.get? b = some o → h'.get? b = some o) → Q (.ref s.heap.objs.size) { s with heap := h', toks := tk }) :
    wpAny (model prog w) A (call (.type "dict") [.ref l]) Q E s := by
  refine callType_codes (Q₁ := fun obj s₁ => obj = .ref s.heap.objs.size ∧ s₁ = { s with heap := s.heap.push { cls := .type "dict", data := .dict #[] } }) PySem.F.kt_called_dict (PySem.F.kt_typeCall_dict_1 _) PySem.F.entry_dict_init (kt_code_dict_new _ ⟨rfl, rfl⟩) ?_
  rintro obj s₁ ⟨rfl, rfl⟩
  have hnew : (s.heap.push { cls := .type "dict", data := .dict #[] }).DictOfH (tupleKind (mixKind prog w)) s.heap.objs.size [] := Heap.DictOfH.new s.heap
  have k0 : ∀ b o, s.heap.get? b = some o → (s.heap.push { cls := .type "dict", data := .dict #[] }).get? b = some o := fun b o e => Heap.get?_push_of_some _ e
  refine ⟨hnew.typeIs, PySem.F.args_dict_init_2 _ _, ?_⟩
  unfold Builtin.«dict.__init__»
  refine wpAny_bind ?_
  unfold Builtin.Dict.selfAndRest
  refine wpAny_bind (wpAny_notOrdered_dict hnew.typeIs ?_)
  show wpAny _ _ (pure (s.heap.objs.size, [Value.ref l])) _ _ _
  refine wpAny_pure ?_
  show wpAny _ _ (Builtin.Dict.updateFrom "dict.__init__" s.heap.objs.size (.ref l) [] .none) _ _ _
  unfold Builtin.Dict.updateFrom
  refine wpAny_bind (wpAny_typeOf (T := "list") ⟨ol, k0 _ _ hl, hc⟩ ?_)
  rw [if_pos (by first | decide | rfl | simp)]
  refine wpAny_bind (miss_list (k0 _ _ hl) hc hdat hd hh fun h1 tk1 hk1 => ?_)
  rw [if_pos (show (none : Option Value).isNone = true from rfl)]
  refine wpAny_bind (wpAny_rule ?_)
  have hl1 : h1.IsList l items := ⟨ol, hk1 _ _ (k0 _ _ hl), hc, n, hdat⟩
  have hS1 : s.heap.objs.size < h1.objs.size := by
    have e : (s.heap.push { cls := .type "dict", data := .dict #[] }).get? s.heap.objs.size = some { cls := .type "dict", data := .dict #[] } := Heap.get?_push_size _ rfl
    exact Heap.lt_size (hk1 _ _ e)
  refine wpAny_bind (wpAny_pyIter_list hl1 ?_)
  have k2 : ∀ b o, h1.get? b = some o → (h1.push { cls := .type "list_iterator", data := .fields #[.ref l, .int 0 0] }).get? b = some o := fun b o e => Heap.get?_push_of_some _ e
  have hlt : l < s.heap.objs.size := Heap.lt_size hl
  have kall : ∀ b o, s.heap.get? b = some o → (h1.push { cls := .type "list_iterator", data := .fields #[.ref l, .int 0 0] }).get? b = some o := fun b o e => k2 _ _ (hk1 _ _ (k0 _ _ e))
  have key := upd_loopT (prog := prog) (w := w) (A := A.in1) (R := wants (fun r s₂ => r = .none ∧ Q (.ref s.heap.objs.size) s₂) E) (S := s.heap.objs.size) (I := h1.objs.size) (l := l) (items := items) (res := Value.none) hh (by show A.units + 1 + 2 < cLine; omega)
    (Nat.ne_of_lt (Nat.lt_trans hlt hS1)) (Nat.ne_of_lt hS1) (Nat.ne_of_gt hlt) prs 0 [] 0 0
    { s with heap := h1.push { cls := .type "list_iterator", data := .fields #[.ref l, .int 0 0] }, toks := tk1 } (by rw [hsz, Nat.zero_add]) (by rw [List.length_nil, Nat.zero_add]; exact hln)
    (fun j q e => by
      obtain ⟨b, e1, e2, e3⟩ := ht j q e
      have hb : b < s.heap.objs.size := e2.lt
      obtain ⟨ob, its, n', g1, g2⟩ := e3
      have hka : q.2.1 < s.heap.objs.size := Heap.lt_size g1
      exact ⟨b, by rw [Nat.zero_add]; exact e1, Nat.ne_of_lt hb, Nat.ne_of_lt (Nat.lt_trans hb hS1), e2.keeps fun c o z => kall _ _ z, Nat.ne_of_lt hka, Nat.ne_of_lt (Nat.lt_trans hka hS1), ⟨ob, its, n', kall _ _ g1, g2⟩⟩)
    ⟨_, Heap.get?_push_size _ rfl, rfl, rfl⟩ (hl1.at fun o e => k2 _ _ e) (by
      obtain ⟨o, es, ep, g1, g2, g3, g4, g5, g6⟩ := hnew
      exact ⟨o, es, ep, k2 _ _ (hk1 _ _ g1), g2, g3, g4, fun x hx => by simp at hx, g6⟩) (fun x hx => by simp at hx)
    (fun h' tk hd' k => ⟨rfl, h h' tk hd' fun b o e => k b o (Nat.ne_of_lt (Heap.lt_size e)) (Nat.ne_of_lt (Nat.lt_trans (Heap.lt_size e) hS1)) (k2 _ _ (hk1 _ _ (k0 _ _ e)))⟩)
  first
    | exact wpAny_pure ⟨plainId_quiet ud_plain _, key⟩
    | exact wpAny_bind (wpAny_pure (wpAny_pure ⟨plainId_quiet ud_plain _, key⟩))
end
end Sh

/-! Sh39: dict(..) by values; new dicts; d[k] = v. -/
namespace Sh
open PySem PySem.Spec PyProof.Rows L2
def pairs? (db : Bool) : List IV → Option (List (IV × IV))
  | [] => some []
  | .tup [k, v] :: r => if keyOf db k = true then (pairs? db r).map ((k, v) :: ·) else none
  | _ :: _ => none
def mergeI (acc more : List (IV × IV)) : List (IV × IV) := more.foldl (fun a kv => putD a kv.1 kv.2) acc
def mergeT (kvs more : List (List Key × V)) : List (List Key × V) := more.foldl (fun acc kv => putK acc kv.1 kv.2) kvs
section
variable {K : PySem.W.Frag} {ι : List Addr} {H : Hp}
theorem RKs.merge : ∀ {more : List (IV × IV)} {ws : List (Key × V)} {acc : List (IV × IV)} {as : List (Key × V)}, RKs K ι H acc as → RKs K ι H more ws → RKs K ι H (mergeI acc more) (mergeK as ws)
  | [], _, acc, as, a, r => by unfold RKs at r; subst r; exact a
  | x :: xs, _, acc, as, a, ⟨k, v, r, q, e, rv, b⟩ => by
    subst q
    show RKs K ι H (mergeI (putD acc x.1 x.2) xs) (mergeK (putK as k v) r)
    rw [e]
    exact RKs.merge (a.put rv) b
theorem RTs.merge : ∀ {more : List (IV × IV)} {ws : List (List Key × V)} {acc : List (IV × IV)} {as : List (List Key × V)}, RTs K ι H acc as → RTs K ι H more ws → RTs K ι H (mergeI acc more) (mergeT as ws)
  | [], _, acc, as, a, r => by unfold RTs at r; subst r; exact a
  | x :: xs, _, acc, as, a, ⟨k, v, r, q, e, rv, b⟩ => by
    subst q
    show RTs K ι H (mergeI (putD acc x.1 x.2) xs) (mergeT (putK as k v) r)
    rw [e]
    exact RTs.merge (a.put rv) b
theorem pairsK : ∀ {ys : List IV} {vs : List V} {ps : List (IV × IV)}, RVs K ι H ys vs → pairs? false ys = some ps → ∃ as kvs, vs = as.map V.ref ∧ Paired (fun p kv => SqT K H p [kV kv.1, kv.2]) as kvs ∧ RKs K ι H ps kvs
  | [], _, ps, r, e => by unfold RVs at r; subst r; cases e; exact ⟨[], [], rfl, .nil, rfl⟩
  | y :: ys, _, ps, r, e => by
    unfold RVs at r
    obtain ⟨v, w, rfl, rv, rs⟩ := r
    unfold pairs? at e
    split at e
    · cases ‹_ :: _ = _›
    · rename_i k x r' he
      cases he
      split at e
      · rename_i hk
        obtain ⟨qs, h1, rfl⟩ := Option.map_eq_some_iff.mp e
        obtain ⟨as, kvs, rfl, hp, hr⟩ := pairsK rs h1
        obtain ⟨a, vs2, rfl, ha, r2⟩ := tup_iff.mp rv
        obtain ⟨vk, vx, rfl, rk, rx⟩ := r2.un2
        obtain ⟨key, rfl, rfl⟩ := key_of1 rk (show isK k = true from hk)
        exact ⟨a :: as, (key, vx) :: kvs, rfl, .cons (SqT.of ha) hp, ⟨key, vx, kvs, rfl, rfl, rx, hr⟩⟩
      · cases e
    · cases e
theorem pairsT : ∀ {ys : List IV} {vs : List V} {ps : List (IV × IV)}, RVs K ι H ys vs → pairs? true ys = some ps → ∃ as kvs, vs = as.map V.ref ∧ Paired (fun p (kv : List Key × V) => ∃ b, H p = some (.tup [.ref b, kv.2]) ∧ H b = some (.tup (kv.1.map kV))) as kvs ∧ RTs K ι H ps kvs
  | [], _, ps, r, e => by unfold RVs at r; subst r; cases e; exact ⟨[], [], rfl, .nil, rfl⟩
  | y :: ys, _, ps, r, e => by
    unfold RVs at r
    obtain ⟨v, w, rfl, rv, rs⟩ := r
    unfold pairs? at e
    split at e
    · cases ‹_ :: _ = _›
    · rename_i k x r' he
      cases he
      split at e
      · rename_i hk
        obtain ⟨qs, h1, rfl⟩ := Option.map_eq_some_iff.mp e
        obtain ⟨as, kvs, rfl, hp, hr⟩ := pairsT rs h1
        obtain ⟨a, vs2, rfl, ha, r2⟩ := tup_iff.mp rv
        obtain ⟨vk, vx, rfl, rk, rx⟩ := r2.un2
        cases k with
        | tup zs =>
          obtain ⟨b, ws, rfl, hb, rzs⟩ := tup_iff.mp rk
          obtain ⟨ks, rfl, rfl⟩ := key_ofs rzs (show zs.all isK = true from hk)
          exact ⟨a :: as, (ks, vx) :: kvs, rfl, .cons ⟨b, ha, hb⟩ hp, ⟨ks, vx, kvs, rfl, rfl, rx, hr⟩⟩
        | _ => cases hk
      · cases e
    · cases e
end
section
variable {X : Cx}
def rDictT (K : PySem.W.Frag) : List V → Hp → VK → Prop := fun xs H Q => ∃ (a : Addr) (ps : List Addr) (kvs : List (List Key × V)), xs = [.ref a] ∧ SqL K H a (ps.map V.ref) ∧ Paired (fun p (kv : List Key × V) => ∃ b, H p = some (.tup [.ref b, kv.2]) ∧ H b = some (.tup (kv.1.map kV))) ps kvs ∧
    ∀ p, H p = none → Q (.ref p) (upd H p (.dT (mergeT [] kvs)))
theorem pairs_ofT {pins : List (Addr × Obj)} {σ : L2.St} {H : Hp} {s : Shared} (I : Inv X pins σ H s) : ∀ {ps : List Addr} {kvs : List (List Key × V)}, Paired (fun p (kv : List Key × V) => ∃ b, H p = some (.tup [.ref b, kv.2]) ∧ H b = some (.tup (kv.1.map kV))) ps kvs →
    ∃ prs : List (List Key × Addr × Value), KT H kvs prs ∧ prs.length = ps.length ∧ ∀ (j : Nat) (q : List Key × Addr × Value), prs[j]? = some q → ∃ (b : Addr), ps[j]? = some b ∧ IsTup s.heap b #[.ref q.2.1, q.2.2] ∧ IsTupleKey (mixKind X.prog X.w) s.heap q.1 q.2.1
  | _, _, .nil => ⟨[], .nil, rfl, fun j q e => by simp at e⟩
  | _, _, .cons (a := p) (b := kv) ⟨b, h1, h2⟩ t => by
    obtain ⟨prs, r, hl, hp⟩ := pairs_ofT I t
    obtain ⟨its, rv, ht, _⟩ := I.tuple (SqT.of h1)
    obtain ⟨u, y, ei, ru, ry⟩ := vals2 rv
    subst ei
    cases (show u = Value.ref b from ru)
    refine ⟨(kv.1, b, y) :: prs, .cons ⟨rfl, h2, ry⟩ r, by rw [List.length_cons, List.length_cons, hl], fun j q e => ?_⟩
    cases j with
    | zero =>
      have e' : (kv.1, b, y) = q := Option.some.inj e
      subst e'
      exact ⟨p, rfl, ht, key_of I.hok h2⟩
    | succ j =>
      obtain ⟨b', e1, e2, e3⟩ := hp j q (by simpa using e)
      exact ⟨b', by simpa using e1, e2, e3⟩
theorem KT.mergeH {H : Hp} : ∀ {more : List (List Key × V)} {rs : List (List Key × Addr × Value)} {kvs : List (List Key × V)} {vs : List (List Key × Addr × Value)}, KT H more rs → KT H kvs vs → KT H (mergeT kvs more) (mergeH vs rs)
  | _, _, kvs, vs, .nil, q => q
  | _, _, kvs, vs, .cons (a := p) (b := r) h t, q => by
    show KT H (mergeT (putK kvs p.1 p.2) _) (Sh.mergeH (storedH vs r.1 r.2.1 r.2.2) _)
    have e : KT H (putK kvs p.1 p.2) (storedH vs r.1 r.2.1 r.2.2) := by
      rw [← h.1]
      exact L2.KT.put q p.1 h.2.1 h.2.2
    exact KT.mergeH t e
theorem mergeT_len : ∀ (more kvs : List (List Key × V)), (mergeT kvs more).length ≤ kvs.length + more.length
  | [], kvs => by show kvs.length ≤ kvs.length + 0; omega
  | p :: r, kvs => by
    have h1 := mergeT_len r (putK kvs p.1 p.2)
    have h2 := length_putK kvs p.1 p.2
    show (mergeT (putK kvs p.1 p.2) r).length ≤ _
    rw [List.length_cons]; omega
theorem call_dictPT (hcalm : X.calm = true) (hu : X.A.units + 64 < cLine) : CallR X (.type "dict") (rDictT X.K) := by
  intro pins s σ H xs us Q I r q
  obtain ⟨a, ps, kvs, ex, hq, hp, q⟩ := q
  subst ex
  obtain ⟨u, eu, rx⟩ := vals1 r
  subst eu
  cases rx
  obtain ⟨its, rv, pl, hz⟩ := I.list hq
  have ei := refs_at rv
  subst ei
  rw [List.length_map] at hz
  obtain ⟨prs, rel, hl, hpr⟩ := pairs_ofT I hp
  obtain ⟨o, n, ho, hc, hd, hdat⟩ := pl
  refine call_dict_pairsT (prs := prs) (I.ok.hd hcalm) hu ho hc hd hdat (by simp [hl]) (by rw [hl]; exact hz) (fun j q' e => ?_) fun h' tk hd' k => ?_
  · obtain ⟨b, e1, e2, e3⟩ := hpr j q' e
    exact ⟨b, by simp [e1], e2, e3⟩
  · have hm : (s.heap.objs.size == sysModules) = false := beq_eq_false_iff_ne.mpr (Nat.ne_of_gt I.big)
    have hlen : (mergeT [] kvs).length ≤ sizeLine := by
      refine Nat.le_trans (mergeT_len kvs []) ?_
      rw [List.length_nil, Nat.zero_add, Paired.length rel, hl]
      exact hz
    have hn := I.hok.fresh (Nat.le_refl s.heap.objs.size)
    obtain ⟨ob, es, ep, g1, g2, g3, g4, _, g6⟩ := hd'
    refine ⟨.ref s.heap.objs.size, upd H s.heap.objs.size (.dT (mergeT [] kvs)), I.laid (t' := tk) k (Nat.le_refl _) (show ObjOk X.prog X.w _ _ _ (.dT (mergeT [] kvs)) from ⟨hlen, hm, Sh.mergeH [] prs, (KT.mergeH rel .nil).keeps fun b ys e => ?_, ob, es, ep, g1, g2, g3, g4, g6⟩), rfl, q _ hn⟩
    rw [upd_ne (ne_of_none e hn)]
    exact e
end
/-- dict(a list of pairs), dict(a dict) -/
def gDict (db : Bool) : Fn := fun xs h => match xs with
  | [x] => match sqI x h with
    | some ys => match pairs? db ys with
      | some ps => .ok (.ref h.length) (h ++ [.dic db (mergeI [] ps)])
      | none => .bad
    | _ => .bad
  | _ => .bad
section
variable {G : Gx} {X : Cx} {W : WX} {a b c e o value : Expr} {fa fb fc fo fi fv : ME} {p pos pos' apos cpos : Pos} {es rest : List Expr} {fs : IE → M (List IV)} {k : Nat}
theorem new_dicK {ι : List Addr} {h : IH} {H : Hp} {p : Addr} {kvs : List (IV × IV)} {ws : List (Key × V)} (r : RH G ι h H) (hp : H p = none) (rs : RKs G.K ι H kvs ws) : Aft G ι H (ι ++ [p]) (h ++ [.dic false kvs]) (upd H p (.dK ws)) :=
  have a0 := Aft.fresh r hp (.dK ws)
  Aft.place r hp (.dK ws) (.dic false kvs) ⟨_, upd_same, (rs.mono a0.pre a0.tl).mono (List.prefix_append _ _) (TL.refl _ _)⟩
theorem new_dicT {ι : List Addr} {h : IH} {H : Hp} {p : Addr} {kvs : List (IV × IV)} {ws : List (List Key × V)} (r : RH G ι h H) (hp : H p = none) (rs : RTs G.K ι H kvs ws) : Aft G ι H (ι ++ [p]) (h ++ [.dic true kvs]) (upd H p (.dT ws)) :=
  have a0 := Aft.fresh r hp (.dT ws)
  Aft.place r hp (.dT ws) (.dic true kvs) ⟨_, upd_same, (rs.mono a0.pre a0.tl).mono (List.prefix_append _ _) (TL.refl _ _)⟩
theorem mean_dictK : MeanC G (fun xs H Q => ∃ (a : Addr) (ps : List Addr) (kvs : List (Key × V)), xs = [.ref a] ∧ SqL G.K H a (ps.map V.ref) ∧ Paired (fun p kv => SqT G.K H p [kV kv.1, kv.2]) ps kvs ∧
    ∀ p, H p = none → Q (.ref p) (upd H p (.dK (mergeK [] kvs)))) (gDict false) := by
  intro xs vs ι h H Q Wh rx rh pr
  unfold gDict at pr
  split at pr
  · rename_i x
    obtain ⟨v, rfl, rv⟩ := rx.un1
    split at pr
    · rename_i ys z
      split at pr
      · rename_i ps hps
        obtain ⟨a, vs, rfl, hv, rs⟩ := sq_ok rv rh z
        obtain ⟨as, kvs, rfl, hp, hr⟩ := pairsK rs hps
        exact ⟨a, as, kvs, rfl, hv, hp, fun p hp => pr _ _ _ (new_dicK rh hp (RKs.merge (acc := []) (as := []) rfl hr)) (ref_iff.mpr ⟨p, ref_len rh, rfl⟩)⟩
      · exact pr.elim
    · exact pr.elim
  · exact pr.elim
theorem mean_dictT : MeanC G (rDictT G.K) (gDict true) := by
  intro xs vs ι h H Q Wh rx rh pr
  unfold gDict at pr
  split at pr
  · rename_i x
    obtain ⟨v, rfl, rv⟩ := rx.un1
    split at pr
    · rename_i ys z
      split at pr
      · rename_i ps hps
        obtain ⟨a, vs, rfl, hv, rs⟩ := sq_ok rv rh z
        obtain ⟨as, kvs, rfl, hp, hr⟩ := pairsT rs hps
        exact ⟨a, as, kvs, rfl, hv, hp, fun p hp => pr _ _ _ (new_dicT rh hp (RTs.merge (acc := []) (as := []) rfl hr)) (ref_iff.mpr ⟨p, ref_len rh, rfl⟩)⟩
      · exact pr.elim
    · exact pr.elim
  · exact pr.elim
theorem bt_dict : bootBuiltins "dict" = some (.type "dict") := by decide +kernel
theorem e_dictK (C : Can G X W k) (hm : X.mg "dict" = none) (hg : Gl X "dict") (ha : SA G X W (e :: es) fs) (he : starEach (e :: es) X.env = (false, eval e X.env) :: starEach es X.env := by rfl) (hpl : (backTo pos (starEach es X.env)).any (·.1) = false := by rfl) : SE G X W (.Call (.Name "dict" p) (e :: es) [] pos) (mCall (gDict false) fs) :=
  se_callTy (call_dictP C.calm) (C.hK ▸ mean_dictK) hg hm bt_dict ha (by decide) (by decide) he hpl
theorem e_dictT (C : Can G X W k) (hm : X.mg "dict" = none) (hg : Gl X "dict") (ha : SA G X W (e :: es) fs) (he : starEach (e :: es) X.env = (false, eval e X.env) :: starEach es X.env := by rfl) (hpl : (backTo pos (starEach es X.env)).any (·.1) = false := by rfl) : SE G X W (.Call (.Name "dict" p) (e :: es) [] pos) (mCall (gDict true) fs) :=
  se_callTy (call_dictPT C.calm C.room.units) (C.hK ▸ mean_dictT) hg hm bt_dict ha (by decide) (by decide) he hpl
/-! {} -/
def mDnew (db : Bool) : ME := fun _ h => .ok (.ref h.length) (h ++ [.dic db []])
theorem se_dnewK : SE G X W (.Dict [] [] pos) (mDnew false) := pe_weak pe_dnewK fun σ H Q hq => by
  obtain ⟨ι, e, h, en, rh, q⟩ := hq
  exact fun p hp => q _ _ _ (new_dic (db := false) rh hp) (ref_iff.mpr ⟨p, ref_len rh, rfl⟩)
theorem se_dnewT : SE G X W (.Dict [] [] pos) (mDnew true) := pe_weak pe_dnewT fun σ H Q hq => by
  obtain ⟨ι, e, h, en, rh, q⟩ := hq
  exact fun p hp => q _ _ _ (new_dic (db := true) rh hp) (ref_iff.mpr ⟨p, ref_len rh, rfl⟩)
end
end Sh
namespace Sh
open PySem PySem.Spec PyProof.Rows L2
section
variable {G : Gx} {X : Cx} {W : WX} {a b c e o value : Expr} {fa fb fc fo fi fv : ME} {p pos pos' apos cpos : Pos} {es rest : List Expr} {fs : IE → M (List IV)} {k : Nat}
theorem e_get (C : Can G X W k) (ha : SE G X W a fa) (hb : SE G X W b fb) (hs : NoSl b := by intro _ _; rfl) (hp : PlainIx b := by exact fun _ _ => rfl) : SE G X W (.Subscript a b pos) (m2 gGet fa fb) := se_get C ha hb hs (se_ix C.hK ha hb hp)
end
end Sh

/-! Sh40: list displays and comprehensions whose lists nothing changes any more. -/
namespace Sh
open PySem PySem.Spec PyProof.Rows L2
theorem ne_of_none2 {H : Hp} {a b : Addr} {u : HO} (e : H a = some u) (n : H b = none) : b ≠ a := fun z => by rw [z, e] at n; cases n
theorem _root_.L2.Inv.lock2 {X : Cx} {pins : List (Addr × Obj)} {σ : L2.St} {H : Hp} {s : Shared} {d : Addr} {vs : List V} (I : Inv X pins σ H s) (h : H d = some (.lst vs)) : ∃ od, Inv X pins σ (upd H d (.frz od (.frz od (.lst vs)))) s := by
  have x := I.hok d _ h
  have ex : ∃ od, s.heap.get? d = some od := by obtain ⟨_, _, _, _, e⟩ := x; exact ⟨_, e⟩
  obtain ⟨od, e⟩ := ex
  have new : ObjOk X.prog X.w (upd H d (.frz od (.frz od (.lst vs)))) s.heap d (.frz od (.frz od (.lst vs))) := by
    refine ⟨e, e, x.stay (fun b v _ q => q) (fun b q => ?_) fun b xs q => ?_⟩
    · rw [upd_ne (fun z => by rw [z, h] at q; cases q)]; exact q
    · rw [upd_ne (fun z => by rw [z, h] at q; cases q)]; exact q
  exact ⟨od, I.write (x := d) (e := d) (t' := s.toks) (h' := s.heap) (by rw [h]; trivial) (.inl rfl) (fun b v _ q => q) ⟨od, e⟩ new⟩
section
variable {G : Gx} {K : PySem.W.Frag} {H H' : Hp} {D : Addr} {od oe : Obj} {u o : HO} {ι ι0 : List Addr} {h h0 : IH}
theorem TLm.swap (e : H D = some (.frz od (.frz oe u))) : TLm K H (upd H D o) := by
  have ne : ∀ b w, H b = some w → (∀ a b c, w ≠ .frz a (.frz b c)) → b ≠ D := fun b w q k z => by rw [z, e] at q; cases q; exact k _ _ _ rfl
  refine ⟨fun b xs q => ?_, fun b xs q => ?_, fun b φ q => ?_⟩
  · rw [upd_ne (ne b _ q fun _ _ _ => nofun)]; exact q
  · rcases q with ⟨o', q⟩ | q
    · exact .inl ⟨o', by rw [upd_ne (ne b _ q fun _ _ _ z => by cases z)]; exact q⟩
    · exact .inr q
  · rw [upd_ne (ne b _ q fun _ _ _ => nofun)]; exact q
theorem TL.swap (t : TL K H H') (n : H D = none) : TL K H (upd H' D o) := TL.of
  (fun b xs q => by rw [upd_ne (fun z => by rw [z, n] at q; cases q)]; exact t.t b xs q)
  (fun b o u q => by rw [upd_ne (fun z => by rw [z, n] at q; cases q)]; exact t.z b o u q)
  (fun b φ q => by rw [upd_ne (fun z => by rw [z, n] at q; cases q)]; exact t.e b φ q)
theorem RH.swap (r : RH G ι h H') (r0 : RH G ι0 h0 H) (n : H D = none) (e : H' D = some (.frz od (.frz oe u))) (t : TL G.K H H') : RH G ι h (upd H' D o) := by
  have ne : ∀ b w, H' b = some w → (∀ a b c, w ≠ .frz a (.frz b c)) → b ≠ D := fun b w q k z => by rw [z, e] at q; cases q; exact k _ _ _ rfl
  refine ⟨r.len, r.nd, fun m ob z => ?_, fun p hp => ?_, fun p hp => ⟨(r.zb p hp).1, (r0.zb p hp).2.trans (t.swap n)⟩⟩
  · obtain ⟨a, e1, q⟩ := r.ob m ob z
    refine ⟨a, e1, q.monoM (List.prefix_refl _) (TLm.swap e) ?_⟩
    have hne : a ≠ D := by
      cases ob with
      | lst xs => obtain ⟨vs, q, _⟩ := q; exact ne a _ q fun _ _ _ => nofun
      | dic t kvs => cases t <;> (obtain ⟨ws, q, _⟩ := q; exact ne a _ q fun _ _ _ => nofun)
      | dicL t kvs => cases t <;> (obtain ⟨o, ws, q, _⟩ := q; exact ne a _ q fun _ _ _ z => by cases z)
      | ins C fs => obtain ⟨dx, ws, q, _⟩ := q; exact ne a _ q fun _ _ _ => nofun
      | lam k => obtain ⟨c, q, _⟩ := q; exact ne a _ q fun _ _ _ => nofun
      | gone => obtain ⟨φ, q⟩ := q; exact ne a _ q fun _ _ _ => nofun
    rw [upd_ne hne]
  · obtain ⟨ps, h1, h2, h3⟩ := r.tb p hp
    refine ⟨ps, by rw [upd_ne (ne _ _ h1 fun _ _ _ => nofun)]; exact h1, h2, fun pos cv hc => ?_⟩
    obtain ⟨c, e1, e2⟩ := h3 pos cv hc
    exact ⟨c, e1, by rw [upd_ne (ne _ _ e2 fun _ _ _ => nofun)]; exact e2⟩
end
/-- the loop: what it has come to is in acc -/
def lcF (S : Sr) (g : MG) (t f : ME) : Nat → Nat → IE → List IV → M IV
  | 0, _, _, _ => fun _ => .bad
  | m + 1, i, e, acc => fun h => match S.nx i h with
    | .stop => .ok (.fz acc) h
    | .it x => match g x e h with
      | .nx e1 h1 => match t e1 h1 with
        | .ok (.bl true) h2 => (f e1 h2).bind fun y h3 => if acc.length < sizeLine then lcF S g t f m (i + 1) e1 (acc ++ [y]) h3 else .bad
        | .ok (.bl false) h2 => lcF S g t f m (i + 1) e1 acc h2
        | .exc c h2 => .exc c h2
        | _ => .bad
      | _ => .bad
    | .bad => .bad
@[simp] def mLcF (it : MI) (vs : List Nat) (g : MG) (t f : ME) : ME := fun e h => match it e h with
  | .ok S h1 => lcF S g t f (S.n + 1) 0 (wipeI e vs) [] h1
  | .exc c h1 => .exc c h1
  | .bad => .bad
section
variable {G : Gx} {X : Cx} {W : WX} {pins : List (Addr × Obj)} {σ : L2.St} {H : Hp} {s : Shared}
theorem lcF_core {k : Nat} {elt tg iter : Expr} {ifs : List Expr} {scope : Scope} {own : List (Str × Nat)} {pos pos' : Pos} {it : MI} {g : MG} {t f : ME} {use : Option (Value → Sem Unit)} {Q : VK} {Qf : Value → Shared → Prop}
    (C : Can G X W k) (I : Inv X pins σ H s) (hi : SI G X W tg iter it) (ok : BlkOk X.N X.env.scope scope own)
    (hb : ∀ (s : Shared) (H : Hp) (cl : List (Str × Addr)) (D : Addr) (fp : List Addr) (xe : Value → Shared → Prop) (W' : WX), Can G (blkX X s H scope (compEnvC scope cl D X.env) fp xe) W' k →
      SG G (blkX X s H scope (compEnvC scope cl D X.env) fp xe) W' tg g ∧ SQ G (blkX X s H scope (compEnvC scope cl D X.env) fp xe) W' ifs t ∧ SE G (blkX X s H scope (compEnvC scope cl D X.env) fp xe) W' elt f)
    (hs : ∀ x, foldedSetIterable iter X.env x = pure x)
    (h : TI G W (mLcF it (own.map (·.2)) g t f) σ H Q)
    (hRR : ∀ D ce s' m H', Inv X pins σ H' s' → Q (.ref D) H' → s'.heap.Ns ce.locals m → FpOk X pins H' ce.locals → compEnds (model X.prog X.w) X.A X.xe use Qf (.ref D) ce (.ok .next) s') :
    wpAny (model X.prog X.w) X.A (comprehension (.ListComp elt [⟨tg, iter, ifs, 0⟩] scope pos) scope X.env pos' (newList []) false (eval iter X.env) use) Qf X.xe s := by
  obtain ⟨L, tp, tf⟩ := C.tf
  have hfree : ∀ y ∈ scope.names, y.2 = .free → ∃ c, X.env.cells.lookup y.1 = some c := fun y hy e => by
    rcases ok.free y hy e with k | k
    · exact I.ok.has _ (.inl k)
    · exact I.ok.has _ (.inr k)
  obtain ⟨ι, e, h0, en, rh, hq⟩ := h
  have hT : TII G W it σ H fun J H1 => ∃ S ι1 h1, Aft G ι H ι1 h1 H1 ∧ SrOk G ι1 H1 S J ∧ PR G (fun c d H' => W c d σ H') ι1 H1 Q (lcF S g t f (S.n + 1) 0 (wipeI e (own.map (·.2))) [] h1) := by
    refine ⟨ι, e, h0, en, rh, ?_⟩
    simp only [mLcF] at hq
    cases z : it e h0 with
    | bad => rw [z] at hq; exact hq
    | exc c h1 => rw [z] at hq; exact hq
    | ok S h1 =>
      rw [z] at hq
      exact fun ι1 H1 J a so => ⟨S, ι1, h1, a, so, PR.after a hq⟩
  refine comprehension_at (use := use) rfl hs (closure_ok hfree) ok.kind (fun y hy e => by rw [ok.uniq y hy, e])
    (thn (hi.run pins s σ H _ I hT) fun xv s1 hx => thn hx fun itv s2 h2 => ?_)
  obtain ⟨itA, fp, tn, J, H2, e2, I2, T, st2, f2, S, ι2, hh2, af2, so, q⟩ := h2
  subst e2
  refine wpAny_newObj_type (newEnv_comp ?_) (by show 0 ≤ sizeLine; decide)
  generalize hD : s2.heap.objs.size = D
  have hDn : H2 D = none := I2.hok.fresh (Nat.le_of_eq hD)
  generalize hs3 : ({ s2 with heap := s2.heap.push { cls := .type "list", data := .seq ([] : List Value).toArray } } : Shared) = s3
  have I3 : Inv X pins σ (upd H2 D (.lst [])) s3 := by
    rw [← hs3]
    refine I2.laid (t' := s2.toks) (fun b o e => Heap.get?_push_of_some _ e) (Nat.le_of_eq hD) ⟨Nat.zero_le _, [], 0, .nil, ?_⟩
    rw [← hD]
    exact Heap.get?_push_size _ rfl
  have h3 : s3.heap = s2.heap.push { cls := .type "list", data := .seq ([] : List Value).toArray } := by rw [← hs3]
  have sz : ∀ b ∈ fp, b < s2.heap.objs.size := fun b hb => by
    obtain ⟨o, e, _⟩ := T.obj _ _ st2 b hb
    exact Heap.lt_size e
  have f3 : ∀ b ∈ fp, FpOk X pins (upd H2 D (.lst [])) b ∧ b < s3.heap.objs.size := fun b hb => by
    have hlt := sz b hb
    refine ⟨⟨?_, (f2 b hb).2⟩, by rw [h3, Heap.size_push]; exact Nat.lt_succ_of_lt hlt⟩
    rw [upd_ne (by rw [← hD]; exact Nat.ne_of_lt hlt)]
    exact (f2 b hb).1
  have st3 : tn 0 s3.heap := T.keep _ _ _ st2 fun b _ o e => by rw [h3]; exact Heap.get?_push_of_some _ e
  have I4 := block_start I3 ok C.nd f3
  have body := hb s3 (upd H2 D (.lst [])) (cellsFrom (s3.heap.objs.size + 1) scope.names (cloFrom X.env.cells scope.names [])) s3.heap.objs.size fp
  show codeAny _ _ (.compStart (.ListComp elt [⟨tg, iter, ifs, 0⟩] scope pos) 0 (.ref itA) (.ref D) (compEnvC scope (cellsFrom (s3.heap.objs.size + 1) scope.names (cloFrom X.env.cells scope.names [])) s3.heap.objs.size X.env)) (compEnds (model X.prog X.w) X.A X.xe use Qf (.ref D) (compEnvC scope (cellsFrom (s3.heap.objs.size + 1) scope.names (cloFrom X.env.cells scope.names [])) s3.heap.objs.size X.env)) { s3 with heap := pushCells (s3.heap.push { cls := .type "dict", data := .dict #[] }) scope.names }
  have nfp : ∀ b ∈ fp, (upd H2 D (.lst [])) b = none := fun b hb => (f3 b hb).1.1
  have cL : (compEnvC scope (cellsFrom (s3.heap.objs.size + 1) scope.names (cloFrom X.env.cells scope.names [])) s3.heap.objs.size X.env).locals = s3.heap.objs.size := rfl
  have cF : (compEnvC scope (cellsFrom (s3.heap.objs.size + 1) scope.names (cloFrom X.env.cells scope.names [])) s3.heap.objs.size X.env).frame = X.env.frame := rfl
  generalize compEnvC scope (cellsFrom (s3.heap.objs.size + 1) scope.names (cloFrom X.env.cells scope.names [])) s3.heap.objs.size X.env = ce at I4 body cL cF ⊢
  have hnD : ∀ o' u', X.H_0 D ≠ some (.frz o' u') := fun o' u' e => by
    have q := I2.base.frzs D o' u' e
    rw [hDn] at q
    cases q
  generalize hH3 : upd H2 D (.lst []) = H3 at I3 I4 body nfp f3
  -- the block's exceptions
  generalize hxe : notedBy (model X.prog X.w) X.A ce (CompFails (model X.prog X.w) X.A X.xe ce) = xe
  have C2 : Can G (blkX X s3 H3 scope ce fp xe) (bW W σ) k := by
    refine ⟨⟨L, ⟨tp.1, cF.trans tp.2⟩, fun u s' x => ?_⟩, C.room, C.calm, C.nd, C.hK⟩
    rw [← hxe] at x
    have := blk_out tp tf I3 (fun b hb => (f3 b hb).1) cL cF u s' x
    rw [hxe] at this
    exact this
  obtain ⟨pg, pt, pe⟩ := body xe (bW W σ) C2
  have I4 : Inv (blkX X s3 H3 scope ce fp xe) [] (L2.wipe σ (own.map (·.2))) H3 _ := I4.wish xe
  generalize hs4 : ({ s3 with heap := pushCells (s3.heap.push { cls := .type "dict", data := .dict #[] }) scope.names } : Shared) = s4 at I4 ⊢
  have st4 : tn 0 s4.heap := T.keep _ _ _ st3 fun b _ o e => by rw [← hs4]; exact pushCells_keeps _ _ _ _ (Heap.get?_push_of_some _ e)
  have stat : ∀ {σ' : L2.St} {H' : Hp} {s' : Shared}, Inv (blkX X s3 H3 scope ce fp xe) [] σ' H' s' → (∀ b ∈ fp, H' b = none) → ∀ b ∈ fp, FpOk (blkX X s3 H3 scope ce fp xe) [] H' b := fun {σ' H' s'} I' hn b hb =>
    ⟨hn b hb, (I'.ok.exf b hb).1, I'.ok.exfs b hb, .inl hb, fun x c e => (I'.ok.exf b hb).2 x c e, fun p hp => absurd (show p ∈ ([] : List (Addr × Obj)) ++ [] from hp) (by simp)⟩
  have hD3 : H3 D = some (.lst []) := by rw [← hH3]; exact upd_same
  have hnX : ∀ o' u', (blkX X s3 H3 scope ce fp xe).H_0 D ≠ some (.frz o' u') := fun o' u' e => by
    have e : H3 D = some (.frz o' u') := e
    rw [hD3] at e
    cases e
  have fpD : ∀ b ∈ fp, b ≠ D := fun b hb z => by
    have := nfp b hb
    rw [z, hD3] at this
    cases this
  obtain ⟨od0, I4L⟩ := I4.lock2 hD3
  have eH4 : upd H3 D (.frz od0 (.frz od0 (.lst []))) = upd H2 D (.frz od0 (.frz od0 (.lst []))) := by rw [← hH3, upd_upd]
  have af4 : Aft G ι2 H2 ι2 hh2 (upd H3 D (.frz od0 (.frz od0 (.lst [])))) := by rw [eH4]; exact Aft.fresh af2.rh hDn _
  have en4 : REn G.K ι2 (upd H3 D (.frz od0 (.frz od0 (.lst [])))) (wipeI e (own.map (·.2))) (L2.wipe σ (own.map (·.2))) := ((en.mono af2.pre af2.tl).mono af4.pre af4.tl).wipe _
  have nf4 : ∀ b ∈ fp, (upd H3 D (.frz od0 (.frz od0 (.lst [])))) b = none := fun b hb => by rw [upd_ne (fpD b hb)]; exact nfp b hb
  have loop : codeAny (model X.prog X.w) X.A (.compLoop (.ListComp elt [⟨tg, iter, ifs, 0⟩] scope pos) 0 (.ref itA) (.ref D) ce) (compEnds (model X.prog X.w) X.A X.xe use Qf (.ref D) ce) s4 := by
    refine compLoop_any (fun n s' => ∃ i H' σ' ι' e' h' acc vs od, Inv (blkX X s3 H3 scope ce fp xe) [] σ' H' s' ∧ tn i s'.heap ∧ (∀ b ∈ fp, H' b = none) ∧ REn G.K ι' H' e' σ' ∧ Aft G ι2 H2 ι' h' H' ∧ H' D = some (.frz od (.frz od (.lst vs))) ∧ RVs G.K ι' H' acc vs ∧ PR G (fun c d H' => W c d σ H') ι2 H2 Q (lcF S g t f n i e' acc h'))
      ?_ (S.n + 1) ⟨0, _, _, ι2, _, _, [], [], od0, I4L, st4, nf4, en4, af4, upd_same, RVs.nil, q⟩
    rintro n s5 ⟨i, H5, σ5, ι5, e5, h5, acc, vs, od, I5, st5, n5, en5, af5, hD5, rs5, q5⟩
    rw [show notedBy (model X.prog X.w) X.A ce (fun e s' => compEnds (model X.prog X.w) X.A X.xe use Qf (.ref D) ce (.error e) s') = xe from hxe]
    cases n with
    | zero => exact q5.elim
    | succ n =>
      simp only [lcF] at q5
      have so5 := so i ι5 h5 H5 af5.rh af5.pre af5.tl
      cases zn : S.nx i h5 with
      | bad => rw [zn] at q5; exact q5.elim
      | stop =>
        rw [zn] at q5 so5
        have td := T.done (blkX X s3 H3 scope ce fp xe) rfl rfl rfl C.calm i [] s5 σ5 H5 xe I5 (stat I5 n5) st5 so5
        refine thn td fun r s6 ⟨hr, I6⟩ => ?_
        subst hr
        have I7 : Inv X pins σ H5 s6 := I3.call' (ch := fp) I6.os I6.base I6.hok I6.bare fun b hb => ⟨(f3 b hb).1.2.2.2.1, (f3 b hb).1.2.1, (f3 b hb).1.2.2.2.2.1, (f3 b hb).1.2.2.2.2.2⟩
        have nC : H5 s3.heap.objs.size = none := by
          have z : H5 ce.locals = none := I6.free
          rw [cL] at z
          exact z
        obtain ⟨m, hn, _⟩ := I6.loc
        have hn : s6.heap.Ns ce.locals m := hn
        have I8 : Inv X pins σ (upd H5 D (.frz od (.lst vs))) s6 := I7.unlock hD5 hnD
        have rh8 : RH G ι5 h5 (upd H5 D (.frz od (.lst vs))) := af5.rh.swap af2.rh hDn hD5 af5.tl
        have af8 : Aft G ι2 H2 ι5 h5 (upd H5 D (.frz od (.lst vs))) := ⟨af5.pre, af5.tl.swap hDn, rh8⟩
        have n8 : (upd H5 D (.frz od (.lst vs))) s3.heap.objs.size = none := by rw [upd_ne (ne_of_none2 hD5 nC)]; exact nC
        refine hRR D ce s6 m _ I8 (q5 ι5 _ _ af8 (fz_iff.mpr ⟨D, vs, rfl, .inl ⟨od, upd_same⟩, rs5.monoM (List.prefix_refl _) (TLm.swap hD5)⟩)) hn ?_
        rw [cL]
        exact I3.fpOk (Nat.le_refl _) n8
      | it x =>
        rw [zn] at q5 so5
        simp only at q5 so5
        obtain ⟨go, yl⟩ := so5
        have ti := T.item (blkX X s3 H3 scope ce fp xe) rfl rfl rfl C.calm i [] s5 σ5 H5 xe I5 (stat I5 n5) st5 go
        refine thn ti fun r s6 ⟨u, hr, h6⟩ => ?_
        subst hr
        refine thn h6 fun _ s7 ⟨xv, H7, I7, r7, y7, st7, n7⟩ => ?_
        obtain ⟨ι7, a7, rx⟩ := yl xv H7 y7
        have I7' := I7.pinned (stat I7 n7) (T.obj _ _ st7)
        -- a turn's end
        have fin : ∀ {s' : Shared} {H' : Hp} {σ' : L2.St}, Inv (blkX X s3 H3 scope ce fp xe) ([] ++ pinsAt fp s7.heap) σ' H' s' → Inv (blkX X s3 H3 scope ce fp xe) [] σ' H' s' ∧ tn (i + 1) s'.heap ∧ ∀ b ∈ fp, H' b = none := fun {s' H' σ'} I' => by
          have pin' : ∀ b ∈ fp, ∀ o, s7.heap.get? b = some o → s'.heap.get? b = some o ∧ H' b = none := fun b hb o e =>
            let z := I'.pin (b, o) (List.mem_append_right _ (List.mem_append_right _ (mem_pinsAt hb e)))
            ⟨z.1, z.2.1⟩
          refine ⟨I'.unpinned (pins := []), T.keep _ _ _ st7 fun b hb o e => (pin' b hb o e).1, fun b hb => ?_⟩
          obtain ⟨o, e, _⟩ := T.obj _ _ st7 b hb
          exact (pin' b hb o e).2
        have af7 := af5.trans a7
        have q7 := q5
        have hg7 : TGI G (bW W σ) g xv σ5 H7 fun σ8 H8 => ∃ ι8 e8 h8, REn G.K ι8 H8 e8 σ8 ∧ Aft G ι7 H7 ι8 h8 H8 ∧ PR G (fun c d H' => W c d σ H') ι2 H2 Q (match t e8 h8 with
          | .ok (.bl true) h2 => (f e8 h2).bind fun y h3 => if acc.length < sizeLine then lcF S g t f n (i + 1) e8 (acc ++ [y]) h3 else .bad
          | .ok (.bl false) h2 => lcF S g t f n (i + 1) e8 acc h2
          | .exc c h2 => .exc c h2
          | _ => .bad) := by
          refine ⟨ι7, e5, h5, x, en5.mono a7.pre a7.tl, a7.rh, rx, ?_⟩
          cases zg : g x e5 h5 with
          | nx e8 h8 =>
            rw [zg] at q7
            exact fun ι8 σ8 H8 a8 en8 => ⟨ι8, e8, h8, en8, a8, q7⟩
          | _ => rw [zg] at q7; exact q7.elim
        refine thn (pg.run _ s7 σ5 H7 xv u _ I7' r7 hg7) fun _ s8 ⟨σ8, H8, I8, ι8, e8, h8, en8, a8, q8⟩ => ?_
        have af8 := af7.trans a8
        have ht8 : TB G (bW W σ) t σ8 H8 fun b H9 => ∃ ι9 h9, REn G.K ι9 H9 e8 σ8 ∧ Aft G ι8 H8 ι9 h9 H9 ∧ PR G (fun c d H' => W c d σ H') ι2 H2 Q (if b = true then (f e8 h9).bind fun y h3 => if acc.length < sizeLine then lcF S g t f n (i + 1) e8 (acc ++ [y]) h3 else .bad else lcF S g t f n (i + 1) e8 acc h9) := by
          refine ⟨ι8, e8, h8, en8, a8.rh, ?_⟩
          cases zt : t e8 h8 with
          | bad => rw [zt] at q8; exact q8
          | exc c h9 => rw [zt] at q8; exact fun ι' H' a => q8 ι' H' (af8.trans a)
          | ok b h9 =>
            rw [zt] at q8
            cases b <;> try exact q8
            rename_i b
            cases b with
            | true => exact fun ι9 H9 a9 => ⟨ι9, h9, en8.mono a9.pre a9.tl, a9, by rw [if_pos rfl]; exact q8⟩
            | false => exact fun ι9 H9 a9 => ⟨ι9, h9, en8.mono a9.pre a9.tl, a9, by rw [if_neg Bool.false_ne_true]; exact q8⟩
        refine thn (pt.run _ s8 σ8 H8 _ I8 ht8) fun b s9 ⟨H9, I9, ι9, h9, en9, a9, q9⟩ => ?_
        have af9 := af8.trans a9
        have a59 := (a7.trans a8).trans a9
        have hD9 := a59.tl.z _ _ _ hD5
        cases b with
        | false =>
          rw [if_neg Bool.false_ne_true] at q9
          simp only [Bool.false_eq_true, if_false]
          obtain ⟨J9, t9, n9⟩ := fin I9
          exact ⟨n, Nat.lt_succ_self n, i + 1, H9, σ8, ι9, e8, h9, acc, vs, od, J9, t9, n9, en9, af9, hD9, rs5.mono a59.pre a59.tl, q9⟩
        | true =>
          rw [if_pos rfl] at q9
          simp only [if_true]
          have he9 : TI G (bW W σ) f σ8 H9 fun y H10 => ∃ ι10 h10 yi, Aft G ι9 H9 ι10 h10 H10 ∧ RV G.K ι10 H10 yi y ∧ acc.length < sizeLine ∧ PR G (fun c d H' => W c d σ H') ι2 H2 Q (lcF S g t f n (i + 1) e8 (acc ++ [yi]) h10) := by
            refine ⟨ι9, e8, h9, en9, a9.rh, ?_⟩
            cases zf : f e8 h9 with
            | bad => rw [zf] at q9; exact q9
            | exc c h10 => rw [zf] at q9; exact fun ι' H' a => q9 ι' H' (af9.trans a)
            | ok yi h10 =>
              rw [zf] at q9
              simp only [Res.bind] at q9
              intro ι10 H10 y a10 ry
              by_cases hl : acc.length < sizeLine
              · rw [if_pos hl] at q9
                exact ⟨ι10, h10, yi, a10, ry, hl, q9⟩
              · rw [if_neg hl] at q9; exact q9.elim
          refine thn (pe.run _ s9 σ8 H9 _ I9 he9) fun zv s10 ⟨yv, H10, I10, r10, ι10, h10, yi, a10, ry, hl, q10⟩ => ?_
          have af10 := af9.trans a10
          have a510 := a59.trans a10
          have hD10 := a510.tl.z _ _ _ hD5
          have rs10 := rs5.mono a510.pre a510.tl
          have I10u := (I10.unlock hD10 hnX).unlock upd_same hnX
          rw [upd_upd] at I10u
          refine app_ok (X := blkX X s3 H3 scope ce fp xe) I10u upd_same (by rw [← rs10.len]; exact hl) r10 fun s11 I11 => ?_
          rw [upd_upd] at I11
          obtain ⟨od', I12⟩ := I11.lock2 upd_same
          rw [upd_upd] at I12
          obtain ⟨J12, t12, n12⟩ := fin I12
          have rh12 := af10.rh.swap (o := HO.frz od' (.frz od' (.lst (vs ++ [yv])))) af2.rh hDn hD10 af10.tl
          have m12 : TLm G.K H10 (upd H10 D (.frz od' (.frz od' (.lst (vs ++ [yv]))))) := TLm.swap hD10
          exact ⟨n, Nat.lt_succ_self n, i + 1, _, σ8, ι10, e8, h10, acc ++ [yi], vs ++ [yv], od', J12, t12, n12, (en9.mono a10.pre a10.tl).monoM (List.prefix_refl _) m12, ⟨af10.pre, af10.tl.swap hDn, rh12⟩, upd_same, (RVs.app rs10 (RVs.one ry)).monoM (List.prefix_refl _) m12, q10⟩
  exact codeAny_compStart_list loop (T.self X.A 0 _ _ _ st4 loop)

variable {k : Nat} {elt tg iter : Expr} {ifs : List Expr} {scope : Scope} {own : List (Str × Nat)} {pos spos : Pos} {it : MI} {g : MG} {t f : ME}
theorem se_lcF (C : Can G X W k) (hi : SI G X W tg iter it) (ok : BlkOk X.N X.env.scope scope own) (hb : SBk G X k scope tg ifs elt g t f) (hs : ∀ x, foldedSetIterable iter X.env x = pure x := by intro _; rfl) :
    SE G X W (.ListComp elt [⟨tg, iter, ifs, 0⟩] scope pos) (mLcF it (own.map (·.2)) g t f) := by
  refine ⟨fun pins s σ H Q I h => ?_⟩
  rw [eval_ListComp]
  refine lcF_core C I hi ok hb hs h fun D ce s' m H' I' q hn fC => ⟨m, hn, fun h2 sb => ?_⟩
  obtain ⟨f0, f1, f2, f3, f4, f5⟩ := fC
  exact ⟨.ref D, H', I'.turned (t' := s'.toks) (fun b o hb e => (sb.2 b hb).trans e) f0 f1 f3 f4 f5, rfl, q⟩
/-- name = [..] -/
theorem ss_setLcF {i : Nat} {y : Str} {py : Pos} (C : Can G X W k) (hy : X.N[i]? = some y) (hyl : X.env.scope.names.lookup y = some .local)
    (hsw : swapsWith (.ListComp elt [⟨tg, iter, ifs, 0⟩] scope pos) (some (.Name y py)) spos.line X.env = pure true) (hi : SI G X W tg iter it) (ok : BlkOk X.N X.env.scope scope own) (hb : SBk G X k scope tg ifs elt g t f) (hs : ∀ x, foldedSetIterable iter X.env x = pure x := by intro _; rfl) :
    SS G X W (.Assign [.Name y py] (.ListComp elt [⟨tg, iter, ifs, 0⟩] scope pos) spos) (sAsg (mLcF it (own.map (·.2)) g t f) (gName' i)) := by
  have hp : PS X (.Assign [.Name y py] (.ListComp elt [⟨tg, iter, ifs, 0⟩] scope pos) spos) (tAsg (TI G W (mLcF it (own.map (·.2)) g t f)) (gName i)) := by
    refine ⟨fun pins s σ H D I h => ?_⟩
    rw [exec_Assign_Name_used _ _ _ _ hsw]
    refine wpAny_bind (wpAny_standAt (wpAny_bind ?_))
    show wpAny _ X.A (do let _ ← comprehension (.ListComp elt [⟨tg, iter, ifs, 0⟩] scope pos) scope X.env (firstIterPos [⟨tg, iter, ifs, 0⟩] pos) (newList []) false (eval iter X.env) (some (assign (.Name y py) X.env))) _ _ s
    have h : TI G W (mLcF it (own.map (·.2)) g t f) σ H (fun x H1 => gName i x σ H1 D.nx) := h
    refine wpAny_bind (thn (lcF_core (Qf := fun _ s' => SP X pins D .next s') C I hi ok hb hs h fun E ce s' m H' I' q hn fC => ?_) fun _ s' hq => wpAny_pure (wpAny_pure hq))
    show wpAny _ _ (assign (.Name y py) X.env (.ref E)) _ _ _
    refine wpAny_assign_Name (store_ok2 (v := V.ref E) I' C.nd hy (.inl hyl) rfl (fun s2 I2 ⟨a, sb, ha⟩ => ?_) (.inr hyl))
    obtain ⟨f0, f1, f2, f3, f4, f5⟩ := fC
    have hne : ce.locals ≠ a := by
      rcases ha with z | z
      · rw [z]; exact f1
      · exact fun e => f4 _ _ z e.symm
    refine ⟨m, hn.sameBut sb hne, fun h3 sb3 => ⟨_, H', I2.turned (t' := s2.toks) (fun b o hb e => (sb3.2 b hb).trans e) f0 f1 f3 f4 f5, q⟩⟩
  refine ps_weak hp fun D σ H hq => ?_
  obtain ⟨ι, e, h, en, rh, q⟩ := hq
  exact TI.st en rh q fun x v ι1 h1 H1 a1 en1 r1 q1 => q1 ι1 _ H1 (Aft.refl a1.rh) (en1.set i ⟨v, rfl, r1⟩)
variable {es : List Expr} {fs : IE → M (List IV)}
@[simp] def mLstF (fs : IE → M (List IV)) : ME := fun e h => (fs e h).bind fun xs h1 => if xs.length ≤ big then .ok (.fz xs) h1 else .bad
theorem se_lstF (p : SA G X W es fs) : SE G X W (.List es pos) (mLstF fs) := by
  refine pe_weak (pe_fz (pe_lst p)) fun σ H Q hq => ?_
  obtain ⟨ι, e, h, en, rh, q⟩ := hq
  refine TIs.bind en rh q fun xs vs ι1 h1 H1 a1 en1 r1 q1 => ?_
  split at q1
  · rename_i hz
    exact ⟨by rw [← r1.len]; exact big_le hz, fun p hp => qf_new q1 a1.rh hp r1⟩
  · exact q1.elim
theorem e_addF {a b : Expr} {fa fb : ME} (C : Can G X W k) (ha : SE G X W a fa) (hb : SE G X W b fb) : SE G X W (.BinOp a .Add b pos) (m2 gAddF fa fb) := se_opF op_addS (C.hK ▸ mean_addF) ha hb
end
end Sh

/-! Sh41: the plain side: sources as lists, loops over lists, values by shape. -/
namespace Sh
open PySem PySem.Spec PyProof.Rows L2
/-! ### simp rules of what works on frozen lists -/
section
variable {e : IE} {h : IH} {xs ys : List IV} {s t : List Nat} {i : Int} {n : Nat} {gs : List IV → MS} {x y : IV} {neg : Bool}
@[simp] theorem gSeq_fz : gSeq' n gs (.fz xs) e h = if xs.length = n then gs xs e h else .bad := rfl
@[simp] theorem gRev_tup : gRev (.tup xs) h = .ok (.tup xs.reverse) h := rfl
@[simp] theorem gRev_fz : gRev (.fz xs) h = .ok (.fz xs.reverse) h := rfl
@[simp] theorem gListF_tup : gListF [.tup xs] h = .ok (.fz xs) h := rfl
@[simp] theorem gListF_fz : gListF [.fz xs] h = .ok (.fz xs) h := rfl
@[simp] theorem gListF_str : gListF [.str s] h = if s.length ≤ big then .ok (.fz (s.map fun c => .str [c])) h else .bad := rfl
@[simp] theorem gListF_d {n : Nat} {t : Bool} {kvs : List (IV × IV)} (z : isDc (.ref n) h = some (t, kvs)) : gListF [.ref n] h = .ok (.fz (kvs.map (·.1))) h := by simp [gListF, z]
@[simp] theorem gLenU_tup : gLenU [.tup xs] h = .ok (.int xs.length) h := rfl
@[simp] theorem gLenU_fz : gLenU [.fz xs] h = .ok (.int xs.length) h := rfl
@[simp] theorem gLenU_str : gLenU [.str s] h = if s.length ≤ big then .ok (.int s.length) h else .bad := rfl
@[simp] theorem gGet_fz : gGet (.fz xs) y h = gIx (.fz xs) y h := rfl
@[simp] theorem gMulF_ii {j : Int} : gMulF (.int i) (.int j) h = gMul (.int i) (.int j) h := rfl
@[simp] theorem gMulF_fz : gMulF (.fz xs) (.int i) h = if -(2 ^ 63) ≤ i ∧ i < 2 ^ 63 ∧ xs.length * i.toNat ≤ big then .ok (.fz (List.replicate i.toNat xs).flatten) h else .bad := rfl
@[simp] theorem gMulF_str : gMulF (.str s) (.int i) h = if -(2 ^ 63) ≤ i ∧ i < 2 ^ 63 ∧ s.length * i.toNat ≤ 10000000 then .ok (.str (List.replicate i.toNat s).flatten) h else .bad := rfl
@[simp] theorem gIntU_int : gIntU [.int i] h = .ok (.int i) h := rfl
@[simp] theorem gIntU_bl {b : Bool} : gIntU [.bl b] h = .ok (.int (if b then 1 else 0)) h := rfl
@[simp] theorem gStrC_int : gStrC [.int i] h = if 0 ≤ i ∧ i.natAbs.log2 < 1920 then .ok (.str (strI i)) h else .bad := rfl
@[simp] theorem gLower_str : gLower (.str s) [] h = if s.all (· < 128) = true ∧ s.length ≤ 5000000 then .ok (.str (s.map lo1)) h else .bad := rfl
@[simp] theorem gSplit_str {c : Nat} {b : List Nat} : gSplit (.str s) [.str (c :: b)] h = if (c :: b).all (· < 256) = true ∧ s.length ≤ big then .ok (.fz ((TL.spl (c :: b) 0 [] s).map .str)) h else .bad := rfl
@[simp] theorem gInU_sign {c : Nat} : gInU neg (.str [c]) (.str t) h = .ok (.bl (if neg then !decide (c ∈ t) else decide (c ∈ t))) h := rfl
theorem gInU_tup : gInU neg x (.tup xs) h = orB (gIn neg x (.tup xs) h) (gInD neg x (.tup xs) h) := by
  unfold gInU
  simp only [isDc]
  try (split <;> first | rfl | (rename_i q; cases q))
theorem gInU_fz : gInU neg x (.fz xs) h = orB (gIn neg x (.fz xs) h) (gInD neg x (.fz xs) h) := by
  unfold gInU
  simp only [isDc]
  try (split <;> first | rfl | (rename_i q; cases q))
@[simp] theorem seqI_tup : seqI (.tup xs) h = some xs := rfl
@[simp] theorem seqI_fz : seqI (.fz xs) h = some xs := rfl
theorem gJoin_strs {z : List (List Nat)} (q : seqI x h = some (z.map .str)) : gJoin (.str s) [x] h = if (z.map (·.length)).sum + z.length * s.length ≤ 10000000 then .ok (.str (TL.joinL s z)) h else .bad := by
  simp [gJoin, q, strs_map]
@[simp] theorem gJoin_fz {z : List (List Nat)} : gJoin (.str s) [.fz (z.map .str)] h = if (z.map (·.length)).sum + z.length * s.length ≤ 10000000 then .ok (.str (TL.joinL s z)) h else .bad := gJoin_strs rfl
@[simp] theorem gJoin_tup {z : List (List Nat)} : gJoin (.str s) [.tup (z.map .str)] h = if (z.map (·.length)).sum + z.length * s.length ≤ 10000000 then .ok (.str (TL.joinL s z)) h else .bad := gJoin_strs rfl
@[simp] theorem noX_ok {v : IV} : noX (.ok v h) = .ok v h := rfl
@[simp] theorem noX_ite {p : Prop} [Decidable p] {r r' : Res IV} : noX (if p then r else r') = if p then noX r else noX r' := by split <;> rfl
/-- cuts of mapped lists -/
@[simp] theorem cutI_map {α β : Type} {f : α → β} {l : List α} {lo hi : Option Int} : cutI (l.map f) lo hi = (cutI l lo hi).map f := by simp [cutI, List.map_drop, List.map_take]
end
/-! ### sources as lists -/
structure Src (S : Sr) (xs : List IV) : Prop where
  n : S.n = xs.length
  it : ∀ i x h, xs[i]? = some x → S.nx i h = .it x
  stop : ∀ h, S.nx xs.length h = .stop
theorem src_T {xs : List IV} : Src (srT xs) xs := ⟨rfl, fun i x h e => srT_it e, fun h => srT_end⟩
theorem src_S {s : List Nat} : Src (srS s) (s.map fun c => .str [c]) := ⟨by simp [srS], fun i x h e => by
  rw [List.getElem?_map] at e
  cases z : s[i]? with
  | none => rw [z] at e; cases e
  | some c => rw [z] at e; cases e; simp [srS, z], fun h => by simp [srS]⟩
theorem src_R {lo hi : Int} : Src (srR lo hi) (rngL lo (hi - lo).toNat) := ⟨by simp [srR, rngL], fun i x h e => by
  obtain ⟨q1, rfl⟩ := rngL_get e
  exact srR_it q1, fun h => by rw [rngL_len]; exact srR_end⟩
/-- what enumerate walks -/
def enumI (n : Nat) : List IV → List IV
  | [] => []
  | x :: xs => .tup [.int (n : Nat), x] :: enumI (n + 1) xs
theorem enumI_len : ∀ (xs : List IV) (n : Nat), (enumI n xs).length = xs.length
  | [], _ => rfl
  | x :: xs, n => by simp only [enumI, List.length_cons, enumI_len xs]
theorem enumI_get : ∀ (xs : List IV) (n i : Nat), (enumI n xs)[i]? = (xs[i]?).map fun x => .tup [.int ((n + i : Nat) : Int), x]
  | [], _, _ => by simp [enumI]
  | x :: xs, n, 0 => by simp [enumI]
  | x :: xs, n, i + 1 => by
    simp only [enumI, List.getElem?_cons_succ, enumI_get xs]
    congr 1
    funext y
    congr 4
    omega
theorem src_E {S : Sr} {xs : List IV} (k : Src S xs) : Src (srE S) (enumI 0 xs) := ⟨by rw [enumI_len]; exact k.n, fun i x h e => by
  rw [enumI_get] at e
  cases z : xs[i]? with
  | none => rw [z] at e; cases e
  | some y =>
    rw [z] at e
    cases e
    simp [srE, k.it i y h z], fun h => by rw [enumI_len]; simp [srE, k.stop h]⟩
/-! ### loops over lists -/
def lcX (g : MG) (t f : ME) : List IV → IE → List IV → M IV
  | [], _, acc => fun h => .ok (.fz acc) h
  | x :: xs, e, acc => fun h => match g x e h with
    | .nx e1 h1 => match t e1 h1 with
      | .ok (.bl true) h2 => (f e1 h2).bind fun y h3 => if acc.length < sizeLine then lcX g t f xs e1 (acc ++ [y]) h3 else .bad
      | .ok (.bl false) h2 => lcX g t f xs e1 acc h2
      | .exc c h2 => .exc c h2
      | _ => .bad
    | _ => .bad
def forX (g : MG) (b : MS) : List IV → MS
  | [] => fun e h => .nx e h
  | x :: xs => fun e h => (g x e h).put fun e h => (b e h).turn (forX g b xs)
def genX {α : Type} (cs : List String) (g : MG) (t f : ME) (st : α → IV → St3 α) (fin : α → M IV) : List IV → IE → α → M IV
  | [], _, acc => fin acc
  | x :: xs, e, acc => fun h => match g x e h with
    | .nx e1 h1 => match t e1 h1 with
      | .ok (.bl true) h2 => match f e1 h2 with
        | .ok y h3 => (st acc y).go (genX cs g t f st fin xs e1) h3
        | .exc c h3 => exOnly cs c h3
        | .bad => .bad
      | .ok (.bl false) h2 => genX cs g t f st fin xs e1 acc h2
      | .exc c h2 => exOnly cs c h2
      | _ => .bad
    | _ => .bad
section
variable {S : Sr} {xs : List IV} {g : MG} {t f : ME} {b : MS}
theorem lcF_go (k : Src S xs) : ∀ (n m i : Nat) (e : IE) (acc : List IV) (h : IH), i + n = xs.length → n < m → lcF S g t f m i e acc h = lcX g t f (xs.drop i) e acc h
  | 0, m + 1, i, e, acc, h, hi, _ => by
    have e0 : i = xs.length := by omega
    subst e0
    unfold lcF
    rw [k.stop h, List.drop_length]
    rfl
  | n + 1, m + 1, i, e, acc, h, hi, hm => by
    have hlt : i < xs.length := by omega
    unfold lcF
    rw [k.it i _ h (List.getElem?_eq_getElem hlt), List.drop_eq_getElem_cons hlt]
    simp only [lcX]
    cases g xs[i] e h <;> try rfl
    rename_i e1 h1
    simp only
    cases t e1 h1 <;> try rfl
    rename_i y h2
    cases y <;> try rfl
    rename_i c
    cases c with
    | true =>
      simp only
      cases f e1 h2 <;> try rfl
      simp only [Res.bind]
      split
      · exact lcF_go k n m (i + 1) _ _ _ (by omega) (by omega)
      · rfl
    | false => exact lcF_go k n m (i + 1) _ _ _ (by omega) (by omega)
theorem lcF_x (k : Src S xs) {m : Nat} (hm : xs.length < m) {e : IE} {acc : List IV} {h : IH} : lcF S g t f m 0 e acc h = lcX g t f xs e acc h := by
  have := lcF_go (g := g) (t := t) (f := f) k xs.length m 0 e acc h (by omega) hm
  rwa [List.drop_zero] at this
theorem forL_go (k : Src S xs) : ∀ (n m i : Nat) (e : IE) (h : IH), i + n = xs.length → n < m → forL S g b m i e h = forX g b (xs.drop i) e h
  | 0, m + 1, i, e, h, hi, _ => by
    have e0 : i = xs.length := by omega
    subst e0
    unfold forL
    rw [k.stop h, List.drop_length]
    rfl
  | n + 1, m + 1, i, e, h, hi, hm => by
    have hlt : i < xs.length := by omega
    unfold forL
    rw [k.it i _ h (List.getElem?_eq_getElem hlt), List.drop_eq_getElem_cons hlt]
    simp only [forX]
    cases g xs[i] e h <;> try rfl
    rename_i e1 h1
    simp only [Fl.put]
    cases b e1 h1 <;> try rfl
    · exact forL_go k n m (i + 1) _ _ (by omega) (by omega)
    · exact forL_go k n m (i + 1) _ _ (by omega) (by omega)
theorem forL_x (k : Src S xs) {m : Nat} (hm : xs.length < m) {e : IE} {h : IH} : forL S g b m 0 e h = forX g b xs e h := by
  have := forL_go (g := g) (b := b) k xs.length m 0 e h (by omega) hm
  rwa [List.drop_zero] at this
theorem genL_go {α : Type} {cs : List String} {st : α → IV → St3 α} {fin : α → M IV} (k : Src S xs) : ∀ (n m i : Nat) (e : IE) (acc : α) (h : IH), i + n = xs.length → n < m → genL cs S g t f st fin m i e acc h = genX cs g t f st fin (xs.drop i) e acc h
  | 0, m + 1, i, e, acc, h, hi, _ => by
    have e0 : i = xs.length := by omega
    subst e0
    unfold genL
    rw [k.stop h, List.drop_length]
    rfl
  | n + 1, m + 1, i, e, acc, h, hi, hm => by
    have hlt : i < xs.length := by omega
    unfold genL
    rw [k.it i _ h (List.getElem?_eq_getElem hlt), List.drop_eq_getElem_cons hlt]
    simp only [genX]
    cases g xs[i] e h <;> try rfl
    rename_i e1 h1
    simp only
    cases t e1 h1 <;> try rfl
    rename_i y h2
    cases y <;> try rfl
    rename_i c
    cases c with
    | true =>
      simp only
      cases f e1 h2 <;> try rfl
      simp only [St3.go]
      rename_i v h3
      cases st acc v <;> try rfl
      exact genL_go k n m (i + 1) _ _ _ (by omega) (by omega)
    | false => exact genL_go k n m (i + 1) _ _ _ (by omega) (by omega)
theorem genL_x {α : Type} {cs : List String} {st : α → IV → St3 α} {fin : α → M IV} (k : Src S xs) {m : Nat} (hm : xs.length < m) {e : IE} {acc : α} {h : IH} : genL cs S g t f st fin m 0 e acc h = genX cs g t f st fin xs e acc h := by
  have := genL_go (g := g) (t := t) (f := f) (cs := cs) (st := st) (fin := fin) k xs.length m 0 e acc h (by omega) hm
  rwa [List.drop_zero] at this
end
/-! ### loops that change nothing -/
section
variable {α : Type} {emb : α → IV} {p : α → Bool} {q : α → IV} {t f : ME} {h : IH}
theorem lcX_name {k : Nat} : ∀ (ys : List α) (e : IE) (acc : List IV), acc.length + ys.length ≤ big →
    (∀ y ∈ ys, t (e.set k (some (emb y))) h = .ok (.bl (p y)) h) → (∀ y ∈ ys, p y = true → f (e.set k (some (emb y))) h = .ok (q y) h) →
    lcX (gName' k) t f (ys.map emb) e acc h = .ok (.fz (acc ++ (ys.filter p).map q)) h
  | [], e, acc, _, _, _ => by simp [lcX]
  | y :: ys, e, acc, hl, ht, hf => by
    rw [List.map_cons]
    simp only [lcX, gName']
    rw [ht y (by simp)]
    have ht' : ∀ z ∈ ys, t ((e.set k (some (emb y))).set k (some (emb z))) h = .ok (.bl (p z)) h := fun z hz => by rw [List.set_set]; exact ht z (by simp [hz])
    have hf' : ∀ z ∈ ys, p z = true → f ((e.set k (some (emb y))).set k (some (emb z))) h = .ok (q z) h := fun z hz hp => by rw [List.set_set]; exact hf z (by simp [hz]) hp
    rw [List.length_cons] at hl
    cases hp : p y with
    | true =>
      simp only
      rw [hf y (by simp) hp, bind_ok, if_pos (Nat.lt_of_lt_of_le (by omega : acc.length < big) (by decide))]
      rw [lcX_name ys _ _ (by simp; omega) ht' hf', List.filter_cons_of_pos hp]
      simp
    | false =>
      simp only
      rw [lcX_name ys _ _ (by omega) ht' hf', List.filter_cons_of_neg (by rw [hp]; simp)]
/-- .. two names -/
theorem lcX_two {i j : Nat} {ea eb : α → IV} : ∀ (ys : List α) (e : IE) (acc : List IV), acc.length + ys.length ≤ big →
    (∀ y ∈ ys, t ((e.set i (some (ea y))).set j (some (eb y))) h = .ok (.bl (p y)) h) → (∀ y ∈ ys, p y = true → f ((e.set i (some (ea y))).set j (some (eb y))) h = .ok (q y) h) →
    lcX (gSeq' 2 (gsCons (gName' i) (gsCons (gName' j) gsNil))) t f (ys.map fun y => .tup [ea y, eb y]) e acc h = .ok (.fz (acc ++ (ys.filter p).map q)) h
  | [], e, acc, _, _, _ => by simp [lcX]
  | y :: ys, e, acc, hl, ht, hf => by
    have es : ∀ z, ((((e.set i (some (ea y))).set j (some (eb y))).set i (some (ea z))).set j (some (eb z))) = (e.set i (some (ea z))).set j (some (eb z)) := fun z => by
      refine List.ext_getElem? fun n => ?_
      simp only [List.getElem?_set, List.length_set]
      by_cases h1 : j = n <;> by_cases h2 : i = n <;> simp [h1, h2]
    rw [List.map_cons]
    simp only [lcX, gSeq_tup, List.length_cons, List.length_nil, if_true, gsCons_eq, gName', thn_nx, gsNil]
    rw [ht y (by simp)]
    have ht' : ∀ z ∈ ys, t ((((e.set i (some (ea y))).set j (some (eb y))).set i (some (ea z))).set j (some (eb z))) h = .ok (.bl (p z)) h := fun z hz => by rw [es]; exact ht z (by simp [hz])
    have hf' : ∀ z ∈ ys, p z = true → f ((((e.set i (some (ea y))).set j (some (eb y))).set i (some (ea z))).set j (some (eb z))) h = .ok (q z) h := fun z hz hp => by rw [es]; exact hf z (by simp [hz]) hp
    rw [List.length_cons] at hl
    cases hp : p y with
    | true =>
      simp only
      rw [hf y (by simp) hp, bind_ok, if_pos (Nat.lt_of_lt_of_le (by omega : acc.length < big) (by decide))]
      rw [lcX_two ys _ _ (by simp; omega) ht' hf', List.filter_cons_of_pos hp]
      simp
    | false =>
      simp only
      rw [lcX_two ys _ _ (by omega) ht' hf', List.filter_cons_of_neg (by rw [hp]; simp)]
/-- all(..), any(..) -/
theorem genX_b {k : Nat} {cs : List String} {b : Bool} {r : α → Bool} : ∀ (ys : List α) (e : IE),
    (∀ y ∈ ys, t (e.set k (some (emb y))) h = .ok (.bl (p y)) h) → (∀ y ∈ ys, p y = true → f (e.set k (some (emb y))) h = .ok (.bl (r y)) h) →
    genX cs (gName' k) t f (stB b) (finB b) (ys.map emb) e () h = .ok (.bl (if b then ys.any fun y => p y && r y else ys.all fun y => !p y || r y)) h
  | [], e, _, _ => by cases b <;> simp [genX]
  | y :: ys, e, ht, hf => by
    rw [List.map_cons]
    simp only [genX, gName']
    rw [ht y (by simp)]
    have ht' : ∀ z ∈ ys, t ((e.set k (some (emb y))).set k (some (emb z))) h = .ok (.bl (p z)) h := fun z hz => by rw [List.set_set]; exact ht z (by simp [hz])
    have hf' : ∀ z ∈ ys, p z = true → f ((e.set k (some (emb y))).set k (some (emb z))) h = .ok (.bl (r z)) h := fun z hz hp => by rw [List.set_set]; exact hf z (by simp [hz]) hp
    have ih := genX_b (b := b) (cs := cs) ys _ ht' hf'
    cases hp : p y with
    | true =>
      simp only
      rw [hf y (by simp) hp]
      simp only [stB, St3.go]
      cases hr : r y <;> cases b <;> simp [hp, hr] <;> (rw [ih]; simp)
    | false =>
      simp only
      rw [ih]
      cases b <;> simp [hp]
/-- tuple(..) of a generator expression -/
theorem genX_l {k : Nat} {cs : List String} {fin : List IV → M IV} : ∀ (ys : List α) (e : IE) (acc : List IV), acc.length + ys.length ≤ big →
    (∀ y ∈ ys, t (e.set k (some (emb y))) h = .ok (.bl (p y)) h) → (∀ y ∈ ys, p y = true → f (e.set k (some (emb y))) h = .ok (q y) h) →
    genX cs (gName' k) t f stL fin (ys.map emb) e acc h = fin (acc ++ (ys.filter p).map q) h
  | [], e, acc, _, _, _ => by simp [genX]
  | y :: ys, e, acc, hl, ht, hf => by
    rw [List.map_cons]
    simp only [genX, gName']
    rw [ht y (by simp)]
    have ht' : ∀ z ∈ ys, t ((e.set k (some (emb y))).set k (some (emb z))) h = .ok (.bl (p z)) h := fun z hz => by rw [List.set_set]; exact ht z (by simp [hz])
    have hf' : ∀ z ∈ ys, p z = true → f ((e.set k (some (emb y))).set k (some (emb z))) h = .ok (q z) h := fun z hz hp => by rw [List.set_set]; exact hf z (by simp [hz]) hp
    rw [List.length_cons] at hl
    cases hp : p y with
    | true =>
      simp only
      rw [hf y (by simp) hp]
      simp only [stL, St3.go]
      rw [if_pos (by omega : acc.length < big)]
      simp only
      rw [genX_l ys _ _ (by simp; omega) ht' hf', List.filter_cons_of_pos hp]
      simp
    | false =>
      simp only
      rw [genX_l ys _ _ (by omega) ht' hf', List.filter_cons_of_neg (by rw [hp]; simp)]
/-- a loop by what holds: J, of the values still to come -/
theorem forX_inv {g : MG} {b : MS} {Q : Fl → Prop} (J : List α → IE → IH → Prop) (hE : ∀ e h, J [] e h → Q (.nx e h))
    (hb : ∀ y ys e h, J (y :: ys) e h → ∃ e1 h1, g (emb y) e h = .nx e1 h1 ∧ (b e1 h1).lp (J ys) Q) : ∀ (ys : List α) (e : IE) (h : IH), J ys e h → Q (forX g b (ys.map emb) e h)
  | [], e, h, j => hE e h j
  | y :: ys, e, h, j => by
    obtain ⟨e1, h1, q1, q2⟩ := hb y ys e h j
    rw [List.map_cons]
    simp only [forX, q1, put_nx]
    cases z : b e1 h1 with
    | nx e2 h2 => rw [z] at q2; exact forX_inv J hE hb ys e2 h2 q2
    | ct e2 h2 => rw [z] at q2; exact forX_inv J hE hb ys e2 h2 q2
    | bk e2 h2 => rw [z] at q2; exact q2
    | rt v h2 => rw [z] at q2; exact q2
    | ex c e2 h2 => rw [z] at q2; exact q2
    | bad => rw [z] at q2; exact q2.elim
end
@[simp] theorem filterT {α : Type} {xs : List α} : (xs.filter fun _ => true) = xs := List.filter_eq_self.mpr fun _ _ => rfl
theorem mRng1_ok {fs : IE → M (List IV)} {e : IE} {h h1 : IH} {j : Int} (hf : fs e h = .ok [.int j] h1) (h2 : -1000000000 ≤ j ∧ j ≤ 1000000000) : mRng1 fs e h = .ok (srR 0 j) h1 := by
  simp only [mRng1, hf, bind_ok]
  rw [if_pos ⟨by omega, by omega⟩]
theorem mRng2_okF {fs : IE → M (List IV)} {e : IE} {h h1 : IH} {i j : Int} (hf : fs e h = .ok [.int i, .int j] h1) (h2 : -1000000000 ≤ i ∧ i ≤ 1000000000) (h3 : -1000000000 ≤ j ∧ j ≤ 1000000000) : mRng2 fs e h = .ok (srR i j) h1 := by
  simp only [mRng2, hf, bind_ok]
  rw [if_pos ⟨by omega, by omega, by omega, by omega⟩]
/-! a loop, its source once known -/
theorem mGen_of {α : Type} {it : MI} {vs : List Nat} {g : MG} {t f : ME} {cs : List String} {st : α → IV → St3 α} {fin : α → M IV} {acc : α} {e : IE} {h h1 : IH} {S : Sr} (hit : it e h = .ok S h1) : mGen it vs g t f cs st fin acc e h = genL cs S g t f st fin (S.n + 1) 0 (wipeI e vs) acc h1 := by simp only [mGen, hit]
theorem mLcF_of {it : MI} {vs : List Nat} {g : MG} {t f : ME} {e : IE} {h h1 : IH} {S : Sr} (hit : it e h = .ok S h1) : mLcF it vs g t f e h = lcF S g t f (S.n + 1) 0 (wipeI e vs) [] h1 := by simp only [mLcF, hit]
theorem sFor_of {it : MI} {g : MG} {b : MS} {e : IE} {h h1 : IH} {S : Sr} (hit : it e h = .ok S h1) : sFor it g b e h = forL S g b (S.n + 1) 0 e h1 := by simp only [sFor, hit]
/-- .. as lists -/
theorem mGen_l {α : Type} {it : MI} {vs : List Nat} {g : MG} {t f : ME} {cs : List String} {st : α → IV → St3 α} {fin : α → M IV} {acc : α} {e : IE} {h h1 : IH} {S : Sr} {xs : List IV} (hit : it e h = .ok S h1) (k : Src S xs) : mGen it vs g t f cs st fin acc e h = genX cs g t f st fin xs (wipeI e vs) acc h1 := by
  rw [mGen_of hit, genL_x k (by rw [k.n]; omega)]
theorem mLcF_l {it : MI} {vs : List Nat} {g : MG} {t f : ME} {e : IE} {h h1 : IH} {S : Sr} {xs : List IV} (hit : it e h = .ok S h1) (k : Src S xs) : mLcF it vs g t f e h = lcX g t f xs (wipeI e vs) [] h1 := by
  rw [mLcF_of hit, lcF_x k (by rw [k.n]; omega)]
theorem sFor_l {it : MI} {g : MG} {b : MS} {e : IE} {h h1 : IH} {S : Sr} {xs : List IV} (hit : it e h = .ok S h1) (k : Src S xs) : sFor it g b e h = forX g b xs e h1 := by
  rw [sFor_of hit, forL_x k (by rw [k.n]; omega)]
/-! one statement behind the other -/
section
variable {a b : MS} {e e1 : IE} {h h1 : IH} {f : ME} {v : IV} {c : String}
theorem run_seq (ha : a e h = .nx e1 h1) : sSeq a b e h = b e1 h1 := by
  show (a e h).thn b = _
  rw [ha]
  rfl
theorem run_seqR (ha : a e h = .rt v h1) : sSeq a b e h = .rt v h1 := by
  show (a e h).thn b = _
  rw [ha]
  rfl
theorem run_seqX (ha : a e h = .ex c e1 h1) : sSeq a b e h = .ex c e1 h1 := by
  show (a e h).thn b = _
  rw [ha]
  rfl
theorem run_ret (hf : f e h = .ok v h1) : sRet f e h = .rt v h1 := by
  show (f e h).st e (fun x _ h => .rt x h) = _
  rw [hf]
  rfl
theorem run_asg {i : Nat} (hf : f e h = .ok v h1) : sAsg f (gName' i) e h = .nx (e.set i (some v)) h1 := by
  rw [sAsg_eq, hf]
  rfl
theorem run_chk {s : MS} (hf : f e h = .ok (.bl false) h1) : sIf f s sSkip e h = .nx e h1 := by
  rw [sIf_eq, hf]
  rfl
end
end Sh

/-! Sh42: values that are data, by shape: compared, looked for. -/
namespace Sh
open PySem PySem.Spec PyProof.Rows L2
/-- a shape of data -/
structure Em (α : Type) where
  iv : α → IV
  pd : α → PyData
  dep : Nat
  ok : α → Prop
  dat_ok : ∀ n h a, dep ≤ n → dat n h (iv a) = some (pd a)
  lay : ∀ a, ok a → (pd a).canLay0 = true
  depth : ∀ a, (pd a).depth ≤ dep
  eqv : ∀ a b, PyData.eqv (pd a) (pd b) = true ↔ a = b
namespace Em
variable {α β : Type}
def int : Em Int := ⟨.int, .int, 0, fun _ => True, fun n h a _ => by cases n <;> rfl, fun _ _ => by simp [PyData.canLay0], fun a => by simp [PyData.depth], fun a b => by simp [PyData.eqv]⟩
def bl : Em Bool := ⟨.bl, .bool, 0, fun _ => True, fun n h a _ => by cases n <;> rfl, fun _ _ => by simp [PyData.canLay0], fun a => by simp [PyData.depth], fun a b => by simp [PyData.eqv]⟩
/-- texts of signs below 0x110000 -/
def OkS (s : List Nat) : Prop := ∀ c ∈ s, c < 0x110000
def str : Em (List Nat) := ⟨.str, fun s => .str (sS s), 0, OkS, fun n h a _ => by cases n <;> rfl, fun a h => by
  simp only [PyData.canLay0, PyData.strOk, sS, List.all_toArray, List.all_eq_true, decide_eq_true_eq]
  exact h, fun a => by simp [PyData.depth], fun a b => by
  simp only [PyData.eqv, beq_iff_eq]
  exact ⟨fun z => sS_inj z, fun z => by rw [z]⟩⟩
theorem map_dat {E : Em α} {n : Nat} {h : IH} (hn : E.dep ≤ n) : ∀ xs : List α, mapO (Sh.dat n h) (xs.map E.iv) = some (xs.map E.pd)
  | [] => rfl
  | x :: xs => by
    rw [List.map_cons]
    unfold mapO
    rw [E.dat_ok n h x hn, map_dat hn xs]
    rfl
theorem map_lay {E : Em α} : ∀ xs : List α, (∀ x ∈ xs, E.ok x) → PyData.canLayAll0 (xs.map E.pd) = true
  | [], _ => by simp [PyData.canLayAll0]
  | x :: xs, h => by
    rw [List.map_cons]
    unfold PyData.canLayAll0
    rw [map_lay xs fun y hy => h y (by simp [hy]), E.lay x (h x (by simp))]
    rfl
theorem map_depth {E : Em α} : ∀ xs : List α, PyData.depthAll (xs.map E.pd) ≤ E.dep
  | [] => by simp [PyData.depthAll]
  | x :: xs => by
    have := map_depth (E := E) xs
    have := E.depth x
    rw [List.map_cons]
    unfold PyData.depthAll
    omega
theorem map_eqv {E : Em α} : ∀ xs ys : List α, PyData.eqvAll (xs.map E.pd) (ys.map E.pd) = true ↔ xs = ys
  | [], [] => by simp [PyData.eqvAll]
  | [], _ :: _ => by simp [PyData.eqvAll]
  | _ :: _, [] => by simp [PyData.eqvAll]
  | x :: xs, y :: ys => by
    rw [List.map_cons, List.map_cons]
    unfold PyData.eqvAll
    rw [Bool.and_eq_true, E.eqv, map_eqv xs ys, List.cons.injEq]
def tup (E : Em α) : Em (List α) := ⟨fun xs => .tup (xs.map E.iv), fun xs => .tuple (xs.map E.pd), E.dep + 1, fun xs => ∀ x ∈ xs, E.ok x,
  fun n h a hn => by
    cases n with
    | zero => omega
    | succ n => simp only [Sh.dat, map_dat (show E.dep ≤ n by omega), Option.map_some],
  fun a h => by simp only [PyData.canLay0]; exact map_lay a h, fun a => by simp only [PyData.depth]; have := map_depth (E := E) a; omega, fun a b => by simp only [PyData.eqv]; exact map_eqv a b⟩
def lst (E : Em α) : Em (List α) := ⟨fun xs => .fz (xs.map E.iv), fun xs => .list (xs.map E.pd), E.dep + 1, fun xs => ∀ x ∈ xs, E.ok x,
  fun n h a hn => by
    cases n with
    | zero => omega
    | succ n => simp only [Sh.dat, map_dat (show E.dep ≤ n by omega), Option.map_some],
  fun a h => by simp only [PyData.canLay0]; exact map_lay a h, fun a => by simp only [PyData.depth]; have := map_depth (E := E) a; omega, fun a b => by simp only [PyData.eqv]; exact map_eqv a b⟩
def two (E : Em α) (F : Em β) : Em (α × β) := ⟨fun p => .tup [E.iv p.1, F.iv p.2], fun p => .tuple [E.pd p.1, F.pd p.2], max E.dep F.dep + 1, fun p => E.ok p.1 ∧ F.ok p.2,
  fun n h a hn => by
    cases n with
    | zero => exact absurd hn (by omega)
    | succ n =>
      have h1 := E.dat_ok n h a.1 (by omega)
      have h2 := F.dat_ok n h a.2 (by omega)
      simp only [Sh.dat, mapO, h1, h2, Option.map_some],
  fun a h => by simp [PyData.canLay0, PyData.canLayAll0, E.lay a.1 h.1, F.lay a.2 h.2], fun a => by
    have := E.depth a.1
    have := F.depth a.2
    simp [PyData.depth, PyData.depthAll]
    omega, fun a b => by
    simp only [PyData.eqv, PyData.eqvAll, Bool.and_eq_true, E.eqv, F.eqv, and_true]
    exact ⟨fun z => Prod.ext z.1 z.2, fun z => by rw [z]; exact ⟨rfl, rfl⟩⟩⟩
/-- or None -/
def opt (E : Em α) (hE : ∀ a, PyData.eqv (E.pd a) .none = false ∧ PyData.eqv .none (E.pd a) = false) : Em (Option α) := ⟨fun x => match x with
    | some a => E.iv a
    | none => .non, fun x => match x with
    | some a => E.pd a
    | none => .none, E.dep, fun x => ∀ a, x = some a → E.ok a,
  fun n h x hn => by
    cases x with
    | some a => exact E.dat_ok n h a hn
    | none => cases n <;> rfl,
  fun x h => by
    cases x with
    | some a => exact E.lay a (h a rfl)
    | none => simp [PyData.canLay0],
  fun x => by
    cases x with
    | some a => exact E.depth a
    | none => simp [PyData.depth],
  fun x y => by
    cases x with
    | none => cases y with
      | none => exact ⟨fun _ => rfl, fun _ => by simp [PyData.eqv]⟩
      | some b => exact ⟨fun z => absurd ((hE b).2.symm.trans z) Bool.false_ne_true, fun z => nomatch z⟩
    | some a => cases y with
      | none => exact ⟨fun z => absurd ((hE a).1.symm.trans z) Bool.false_ne_true, fun z => nomatch z⟩
      | some b => exact (E.eqv a b).trans ⟨fun z => by rw [z], fun z => Option.some.inj z⟩⟩
theorem shaped {E : Em α} (hE : E.dep ≤ 9) {a : α} (h : E.ok a) : SeqAt.shaped (E.pd a) = true := by
  have := E.depth a
  unfold SeqAt.shaped
  rw [E.lay a h, Bool.true_and]
  exact decide_eq_true (by omega)
theorem eq_ {E : Em α} [DecidableEq α] (hE : E.dep ≤ 9) {a b : α} {h : IH} (ha : E.ok a) (hb : E.ok b) (hs : eqS (E.iv a) (E.iv b) = none) : gEq (E.iv a) (E.iv b) h = .ok (.bl (decide (a = b))) h := by
  simp only [gEq, hs, E.dat_ok 9 h _ hE, shaped hE ha, shaped hE hb, Bool.and_self, if_true]
  have := E.eqv a b
  by_cases z : a = b
  · rw [this.mpr z, decide_eq_true z]
  · rw [decide_eq_false z, Bool.eq_false_iff.mpr fun q => z (this.mp q)]
theorem ne_ {E : Em α} [DecidableEq α] (hE : E.dep ≤ 9) {a b : α} {h : IH} (ha : E.ok a) (hb : E.ok b) (hs : eqS (E.iv a) (E.iv b) = none) : gNe (E.iv a) (E.iv b) h = .ok (.bl (!decide (a = b))) h := by
  simp only [gNe, hs, E.dat_ok 9 h _ hE, shaped hE ha, shaped hE hb, Bool.and_self, if_true]
  have := E.eqv a b
  by_cases z : a = b
  · rw [this.mpr z, decide_eq_true z]
  · rw [decide_eq_false z, Bool.eq_false_iff.mpr fun q => z (this.mp q)]
theorem any_eqv {E : Em α} [DecidableEq α] {a : α} : ∀ xs : List α, ((xs.map E.pd).any fun z => PyData.eqv z (E.pd a)) = decide (a ∈ xs)
  | [] => by simp
  | x :: xs => by
    rw [List.map_cons, List.any_cons, any_eqv xs]
    have := E.eqv x a
    by_cases z : x = a
    · rw [this.mpr z]; simp [z]
    · rw [Bool.eq_false_iff.mpr fun q => z (this.mp q)]
      simp [Ne.symm z, fun q : a = x => z q.symm]
/-- x in a list, a tuple of such that are no texts, no numbers -/
theorem in_ {E : Em α} [DecidableEq α] {neg : Bool} (hE : E.dep ≤ 8) {a : α} {bs : List α} {h : IH} (ha : E.ok a) (hb : ∀ b ∈ bs, E.ok b) (hf : flatI (E.iv a) = false) : gInU neg (E.iv a) (.fz (bs.map E.iv)) h = .ok (.bl (if neg then !decide (a ∈ bs) else decide (a ∈ bs))) h := by
  have hl : SeqAt.shaped (.list (bs.map E.pd)) = true := shaped (E := lst E) (by show E.dep + 1 ≤ 9; omega) (a := bs) hb
  rw [gInU_fz]
  simp only [gIn, hf, Bool.false_and, Bool.false_eq_true, if_false, orB_bad, gInD, E.dat_ok 9 h a (by omega), datsI, map_dat (show E.dep ≤ 8 from hE), shaped (show E.dep ≤ 9 by omega) ha, hl, and_self, if_true, any_eqv]
theorem inT_ {E : Em α} [DecidableEq α] {neg : Bool} (hE : E.dep ≤ 8) {a : α} {bs : List α} {h : IH} (ha : E.ok a) (hb : ∀ b ∈ bs, E.ok b) (hf : flatI (E.iv a) = false) : gInU neg (E.iv a) (.tup (bs.map E.iv)) h = .ok (.bl (if neg then !decide (a ∈ bs) else decide (a ∈ bs))) h := by
  have hl : SeqAt.shaped (.list (bs.map E.pd)) = true := shaped (E := lst E) (by show E.dep + 1 ≤ 9; omega) (a := bs) hb
  rw [gInU_tup]
  simp only [gIn, hf, Bool.false_and, Bool.false_eq_true, if_false, orB_bad, gInD, E.dat_ok 9 h a (by omega), datsI, map_dat (show E.dep ≤ 8 from hE), shaped (show E.dep ≤ 9 by omega) ha, hl, and_self, if_true, any_eqv]
end Em
section
variable {h : IH} {neg : Bool}
theorem inI_str {s : List Nat} : ∀ ts : List (List Nat), inI (.str s) (ts.map .str) = decide (s ∈ ts)
  | [] => rfl
  | t :: ts => by
    have ih := inI_str (s := s) ts
    unfold inI at ih ⊢
    rw [List.map_cons, List.any_cons, ih]
    simp only [eqI]
    by_cases z : t = s
    · subst z; simp
    · have z2 : ¬ s = t := fun q => z q.symm
      rw [beq_eq_false_iff_ne.mpr z, Bool.false_or]
      simp [z2]
theorem all_flat_str : ∀ ts : List (List Nat), (ts.map IV.str).all flatI = true
  | [] => rfl
  | t :: ts => by rw [List.map_cons, List.all_cons, all_flat_str ts]; rfl
theorem gInU_strs {s : List Nat} {ts : List (List Nat)} : gInU neg (.str s) (.fz (ts.map .str)) h = .ok (.bl (if neg then !decide (s ∈ ts) else decide (s ∈ ts))) h := by
  rw [gInU_fz]
  simp only [gIn, flatI, all_flat_str, Bool.and_self, if_true, inI_str, orB_ok]
theorem gInU_strsT {s : List Nat} {ts : List (List Nat)} : gInU neg (.str s) (.tup (ts.map .str)) h = .ok (.bl (if neg then !decide (s ∈ ts) else decide (s ∈ ts))) h := by
  rw [gInU_tup]
  simp only [gIn, flatI, all_flat_str, Bool.and_self, if_true, inI_str, orB_ok]
/-- lists, tuples of texts -/
theorem gEq_ls {a b : List (List Nat)} (ha : ∀ x ∈ a, Em.OkS x) (hb : ∀ x ∈ b, Em.OkS x) : gEq (.fz (a.map .str)) (.fz (b.map .str)) h = .ok (.bl (decide (a = b))) h := Em.eq_ (E := .lst .str) (by decide) ha hb rfl
theorem gNe_ls {a b : List (List Nat)} (ha : ∀ x ∈ a, Em.OkS x) (hb : ∀ x ∈ b, Em.OkS x) : gNe (.fz (a.map .str)) (.fz (b.map .str)) h = .ok (.bl (!decide (a = b))) h := Em.ne_ (E := .lst .str) (by decide) ha hb rfl
theorem gEq_ts {a b : List (List Nat)} (ha : ∀ x ∈ a, Em.OkS x) (hb : ∀ x ∈ b, Em.OkS x) : gEq (.tup (a.map .str)) (.tup (b.map .str)) h = .ok (.bl (decide (a = b))) h := Em.eq_ (E := .tup .str) (by decide) ha hb rfl
theorem gNe_ts {a b : List (List Nat)} (ha : ∀ x ∈ a, Em.OkS x) (hb : ∀ x ∈ b, Em.OkS x) : gNe (.tup (a.map .str)) (.tup (b.map .str)) h = .ok (.bl (!decide (a = b))) h := Em.ne_ (E := .tup .str) (by decide) ha hb rfl
end
end Sh

/-! Sh43: the drawn numbers, as every law draws them. -/
namespace Sh
open PySem PySem.Spec PyProof.Rows L2
def mm_dice : MS :=
  sSeq (sIf (mChain gLt gLt (m2 Sh.gSub (mC (.int 0)) (mC (.int 10))) (mVar 0) (mC (.int 10))) (sRet (mLst (mCons (mCall gAbs (mCons (mVar 0) (mNil))) (mCons (mC (.int 0)) (mCons (mC (.int 2)) (mNil)))))) (sSkip))
          (sRet (mLst (mCons (mVar 0) (mCons (m2 gAdd (mC (.int 1)) (m2 gMod (mCall gIntU (mCons (mVar 0) (mNil))) (mC (.int 1009)))) (mCons (mCall gIntU (mCons (m2 gGeU (mVar 0) (m2 gPow (mC (.int 10)) (mC (.int 18)))) (mNil))) (mNil))))))
def ff_dice : Fn := fnM ["cell"] mm_dice
def mm_rounds : MS :=
  sSeq (sAsg (mSlF (mVar 0) (mNoPart) (mPart (mVar 1))) (gName' 2))
          (sSeq (sIf (m2 gEq (mVar 2) (mLstF (mNil))) (sAsg (mLstF (mCons (mC (.int 0)) (mNil))) (gName' 2)) (sSkip))
          (sRet (mLcF (mItV (mVar 2)) [3] (gName' 3) (mC (.bl true)) (mOwn 1 ff_dice (mCons (mVar 3) (mNil))))))
def ff_rounds : Fn := fnM ["script", "most", "cells", "cell"] mm_rounds
def mm_roll (r : Fn) : MS :=
  sSeq (sIf (mOr (m2 gEq (m2 gGet (mVar 0) (mC (.int 2))) (mC (.int 2))) (mAnd (m2 gEq (m2 gGet (mVar 0) (mC (.int 2))) (mC (.int 1))) (m2 gGtU (m2 gGet (mVar 0) (mC (.int 0))) (mC (.int 0))))) (sSeq (sAsg (m2 gMod (mCall gIntU (mCons (m2 gGet (mVar 0) (mC (.int 0))) (mNil))) (mVar 1)) (gName' 2))
          (sSeq (sAsg (m2 gDiv (m2 gGet (mVar 0) (mC (.int 0))) (mVar 1)) (gSubL (mVar 0) (mC (.int 0))))
          (sRet (mVar 2)))) (sSkip))
          (sSeq (sAsg (mC (.int 0)) (gSubL (mVar 0) (mC (.int 2))))
          (sSeq (sIf (m2 gGtU (mVar 1) (mC (.int 100000000))) (sRet (m2 gMod (mCall gIntU (mCons (m2 gAddF (m2 gMulF (mOwn 2 r (mCons (mVar 0) (mCons (m2 gAddF (m2 gDiv (mVar 1) (mC (.int 100000000))) (mC (.int 1))) (mNil)))) (mC (.int 100000000))) (mOwn 2 r (mCons (mVar 0) (mCons (mC (.int 100000000)) (mNil))))) (mNil))) (mVar 1))) (sSkip))
          (sSeq (sAsg (m2 gMod (mCall gIntU (mCons (m2 gAddF (m2 gAddF (m2 gMulF (m2 gGet (mVar 0) (mC (.int 0))) (mC (.int 48271))) (m2 gMulF (m2 gGet (mVar 0) (mC (.int 1))) (mC (.int 69621)))) (mC (.int 11))) (mNil))) (mC (.int 2147483647))) (gSubL (mVar 0) (mC (.int 0))))
          (sSeq (sAsg (m2 gAddF (m2 gGet (mVar 0) (mC (.int 1))) (mC (.int 1))) (gSubL (mVar 0) (mC (.int 1))))
          (sRet (m2 gMod (mCall gIntU (mCons (m2 gDiv (m2 gGet (mVar 0) (mC (.int 0))) (mC (.int 7))) (mNil))) (mVar 1)))))))
def ff_roll : Nat → Fn
  | 0 => fun _ _ => .bad
  | n + 1 => fnM ["dice", "many", "found"] (mm_roll (ff_roll n))
def Dc (o : IO) : Prop := ∃ a b c, o = .lst [.int a, .int b, .int c]
def Dice (h : IH) (d : Nat) : Prop := ∃ o, h[d]? = some o ∧ Dc o
theorem Dice.lt {h : IH} {d : Nat} (k : Dice h d) : d < h.length := by
  obtain ⟨o, e, _⟩ := k
  exact (List.getElem?_eq_some_iff.mp e).1
theorem Dice.set {h : IH} {d : Nat} {o : IO} (k : Dice h d) (q : Dc o) : Dice (h.set d o) d := by
  have := k.lt
  exact ⟨o, by simp [this], q⟩
theorem Dice.app {h l : IH} {d : Nat} (k : Dice h d) : Dice (h ++ l) d := by
  obtain ⟨o, e, q⟩ := k
  exact ⟨o, by rw [List.getElem?_append_left (List.getElem?_eq_some_iff.mp e).1]; exact e, q⟩
/-- the heap but for the dice at d -/
def Dr (d : Nat) (h h' : IH) : Prop := ∃ o, Dc o ∧ h' = h.set d o
theorem Dr.refl {d : Nat} {h : IH} (k : Dice h d) : Dr d h h := by
  obtain ⟨o, e, q⟩ := k
  refine ⟨o, q, ?_⟩
  obtain ⟨h1, h2⟩ := List.getElem?_eq_some_iff.mp e
  rw [← h2, List.set_getElem_self]
theorem Dr.trans {d : Nat} {h h1 h2 : IH} (a : Dr d h h1) (b : Dr d h1 h2) : Dr d h h2 := by
  obtain ⟨o, q, rfl⟩ := a
  obtain ⟨o', q', rfl⟩ := b
  exact ⟨o', q', by rw [List.set_set]⟩
theorem Dr.dice {d : Nat} {h h1 : IH} (a : Dr d h h1) (k : Dice h d) : Dice h1 d := by
  obtain ⟨o, q, rfl⟩ := a
  exact k.set q
theorem Dr.get {d : Nat} {h h1 : IH} (a : Dr d h h1) {i : Nat} (n : i ≠ d) : h1[i]? = h[i]? := by
  obtain ⟨o, q, rfl⟩ := a
  rw [List.getElem?_set_ne (Ne.symm n)]
theorem Dr.len {d : Nat} {h h1 : IH} (a : Dr d h h1) : h1.length = h.length := by
  obtain ⟨o, q, rfl⟩ := a
  simp
theorem s_roll1 (n : Nat) (h : IH) (d : Nat) (m : Int) (k : Dice h d) (hm : 0 < m ∧ m ≤ 100000000) : ∃ r o, ff_roll (n + 1) [.ref d, .int m] h = .ok (.int r) (h.set d o) ∧ Dc o ∧ 0 ≤ r ∧ r < m := by
  obtain ⟨o, e, a, b, c, rfl⟩ := k
  have hl := (List.getElem?_eq_some_iff.mp e).1
  have hs : ∀ x, (h.set d x)[d]? = some x := fun x => by simp [hl]
  clear hl
  have hm1 := hm.1
  have hm2 : m < 1606938044258990275541962092341162602522202993782792835301376 := by omega
  have hm3 : ¬ 100000000 < m := by omega
  have hb : ∀ x : Int, 0 ≤ x % m ∧ x % m < m := fun x => ⟨Int.emod_nonneg _ (by omega), Int.emod_lt_of_pos _ (by omega)⟩
  by_cases hc : c = 2 ∨ c = 1 ∧ 0 < a
  · refine ⟨a % m, .lst [.int (a / m), .int b, .int c], ?_, ⟨_, _, _, rfl⟩, hb _⟩
    rcases hc with hc | ⟨hc, ha⟩
    · simp [ff_roll, fnM_eq, mm_roll, gGet, isDc, gGtU, gCmp, e, hc, hm1, hm2, atI, ixN, pow200, gSubL]
    · simp [ff_roll, fnM_eq, mm_roll, gGet, isDc, gGtU, gCmp, e, hc, ha, hm1, hm2, atI, ixN, pow200, gSubL]
  · have h1 : ¬ c = 2 := fun z => hc (.inl z)
    refine ⟨(((a * 48271 + b * 69621 + 11) % 2147483647) / 7) % m, .lst [.int ((a * 48271 + b * 69621 + 11) % 2147483647), .int (b + 1), .int 0], ?_, ⟨_, _, _, rfl⟩, hb _⟩
    by_cases h2 : c = 1
    · have ha : ¬ 0 < a := fun z => hc (.inr ⟨h2, z⟩)
      simp [ff_roll, fnM_eq, mm_roll, gGet, isDc, gGtU, gCmp, e, h2, ha, hm1, hm2, hm3, atI, ixN, pow200, gSubL, hs]
    · simp [ff_roll, fnM_eq, mm_roll, gGet, isDc, gGtU, gCmp, e, h1, h2, hm1, hm2, hm3, atI, ixN, pow200, gSubL, hs]
theorem s_roll0 (h : IH) (d : Nat) (m : Int) (k : Dice h d) (hm : 0 < m ∧ m ≤ 9000000000000) : ∃ r o, ff_roll 2 [.ref d, .int m] h = .ok (.int r) (h.set d o) ∧ Dc o ∧ 0 ≤ r ∧ r < m := by
  by_cases hs : m ≤ 100000000
  · exact s_roll1 1 h d m k ⟨hm.1, hs⟩
  · obtain ⟨o, e, a, b, c, rfl⟩ := k
    have hl := (List.getElem?_eq_some_iff.mp e).1
    have hs' : ∀ x, (h.set d x)[d]? = some x := fun x => by simp [hl]
    clear hl
    have hm1 := hm.1
    have hm2 : m < 1606938044258990275541962092341162602522202993782792835301376 := by omega
    have hm3 : 100000000 < m := by omega
    have hb : ∀ x : Int, 0 ≤ x % m ∧ x % m < m := fun x => ⟨Int.emod_nonneg _ (by omega), Int.emod_lt_of_pos _ (by omega)⟩
    by_cases hc : c = 2 ∨ c = 1 ∧ 0 < a
    · refine ⟨a % m, .lst [.int (a / m), .int b, .int c], ?_, ⟨_, _, _, rfl⟩, hb _⟩
      rcases hc with hc | ⟨hc, ha⟩
      · simp [ff_roll, fnM_eq, mm_roll, gGet, isDc, gGtU, gCmp, e, hc, hm1, hm2, atI, ixN, pow200, gSubL]
      · simp [ff_roll, fnM_eq, mm_roll, gGet, isDc, gGtU, gCmp, e, hc, ha, hm1, hm2, atI, ixN, pow200, gSubL]
    · obtain ⟨r1, o1, e1, q1, b1, b2⟩ := s_roll1 0 (h.set d (.lst [.int a, .int b, .int 0])) d (m / 100000000 + 1) ⟨_, hs' _, _, _, _, rfl⟩ (by omega)
      obtain ⟨r2, o2, e2, q2, b3, b4⟩ := s_roll1 0 (h.set d o1) d 100000000 ⟨_, hs' _, q1⟩ (by omega)
      have z1 : -18446744073709551616 < r1 ∧ r1 < 18446744073709551616 := by omega
      refine ⟨(r1 * 100000000 + r2) % m, o2, ?_, q2, hb _⟩
      have h1 : ¬ c = 2 := fun z => hc (.inl z)
      rw [List.set_set] at e1 e2
      generalize hf : ff_roll 1 = f1 at *
      have hf2 : ff_roll 2 = fnM ["dice", "many", "found"] (mm_roll f1) := by rw [← hf]; rfl
      rw [hf2]
      by_cases h2 : c = 1
      · have ha : ¬ 0 < a := fun z => hc (.inr ⟨h2, z⟩)
        simp [fnM_eq, mm_roll, gGet, isDc, gGtU, gCmp, e, h2, ha, hm1, hm2, hm3, atI, ixN, pow200, gSubL, e1, e2, z1]
      · simp [fnM_eq, mm_roll, gGet, isDc, gGtU, gCmp, e, h1, h2, hm1, hm2, hm3, atI, ixN, pow200, gSubL, e1, e2, z1]
theorem s_roll (h : IH) (d : Nat) (m : Int) (k : Dice h d) (hm : 0 < m ∧ m ≤ 9000000000000) : ∃ r h', ff_roll 2 [.ref d, .int m] h = .ok (.int r) h' ∧ (0 ≤ r ∧ r < m) ∧ Dr d h h' := by
  obtain ⟨r, o, e, q, b⟩ := s_roll0 h d m k hm
  exact ⟨r, _, e, b, o, q, rfl⟩
theorem s_dice (c : Int) (h : IH) : ∃ o, ff_dice [.int c] h = .ok (.ref h.length) (h ++ [o]) ∧ Dc o := by
  by_cases h1 : -10 < c ∧ c < 10
  · refine ⟨.lst [.int (if c < 0 then -c else c), .int 0, .int 2], ?_, _, _, _, rfl⟩
    simp [ff_dice, fnM_eq, mm_dice, h1.1, h1.2, big]
  · refine ⟨.lst [.int c, .int (1 + c % 1009), .int (if decide (1000000000000000000 ≤ c) = true then 1 else 0)], ?_, _, _, _, rfl⟩
    have h2 : ¬ -10 < c ∨ ¬ c < 10 := by omega
    rcases h2 with h2 | h2
    · simp [ff_dice, fnM_eq, mm_dice, h2, big, gGeU, gCmp]
    · by_cases h3 : -10 < c <;> simp [ff_dice, fnM_eq, mm_dice, h2, h3, big, gGeU, gCmp]
section
variable {α : Type} {xs : List α}
theorem cut_to {k : Int} (hk : 0 ≤ k) : cutI xs none (some k) = xs.take k.toNat := by
  simp only [cutI, HT.sIx, if_neg (Int.not_lt.mpr hk), List.drop_zero, Nat.sub_zero]
  rcases Nat.le_total k.toNat xs.length with z | z
  · rw [Nat.min_eq_left z]
  · rw [Nat.min_eq_right z, List.take_of_length_le (Nat.le_refl _), List.take_of_length_le z]
theorem cut_from {k : Int} (hk : 0 ≤ k) : cutI xs (some k) none = xs.drop k.toNat := by
  simp only [cutI, HT.sIx, if_neg (Int.not_lt.mpr hk)]
  rcases Nat.le_total k.toNat xs.length with z | z
  · rw [Nat.min_eq_left z, List.take_of_length_le (by simp)]
  · rw [Nat.min_eq_right z, List.drop_of_length_le (Nat.le_refl _), List.drop_of_length_le z]
    simp
theorem cut_toN {k : Int} (hk : k < 0) : cutI xs none (some k) = xs.take (k + xs.length).toNat := by
  simp only [cutI, HT.sIx, if_pos hk, List.drop_zero, Nat.sub_zero]
theorem cut_fromN {k : Int} (hk : k < 0) : cutI xs (some k) none = xs.drop (k + xs.length).toNat := by
  simp only [cutI, HT.sIx, if_pos hk]
  rw [List.take_of_length_le (by simp)]
theorem cut_all : cutI xs none none = xs := by simp [cutI, HT.sIx]
end
theorem dat_int (n : Nat) (h : IH) (i : Int) : dat n h (.int i) = some (.int i) := by cases n <;> rfl
theorem s_rounds (ns : List Int) (x : IV) (h : IH) (hx : x = .fz (ns.map .int) ∧ h = [] ∨ x = .ref 0 ∧ h = [.lst (ns.map .int)]) : ∃ o, ff_rounds [x, .int 1] h = .ok (.fz [.ref h.length]) (h ++ [o]) ∧ Dc o := by
  have hsl : mSlF (mVar 0) (mNoPart) (mPart (mVar 1)) [some x, some (.int 1), none, none] h = .ok (.fz ((ns.take 1).map .int)) h := by
    rcases hx with ⟨rfl, rfl⟩ | ⟨rfl, rfl⟩ <;> simp [cut_to, List.map_take]
  have key : ∀ ms : List Int, ms.length ≤ 1 → gEq (.fz (ms.map .int)) (.fz []) h = .ok (.bl (decide (ms = []))) h := fun ms hm =>
    Em.eq_ (E := .lst .int) (by decide) (a := ms) (b := []) (fun _ _ => trivial) (fun _ _ => trivial) rfl
  have fin : ∀ c : Int, ∃ o, mLcF (mItV (mVar 2)) [3] (gName' 3) (mC (.bl true)) (mOwn 1 ff_dice (mCons (mVar 3) (mNil))) [some x, some (.int 1), some (.fz [.int c]), none] h = .ok (.fz [.ref h.length]) (h ++ [o]) ∧ Dc o := fun c => by
    obtain ⟨o, e, q⟩ := s_dice c h
    refine ⟨o, ?_, q⟩
    simp [wipeI]
    rw [lcF_x src_T (by simp [srT])]
    have : (0 : Nat) < sizeLine := by decide
    simp [lcX, e, this]
  cases ns with
  | nil =>
    obtain ⟨o, e, q⟩ := fin 0
    refine ⟨o, ?_, q⟩
    have k0 := key [] (by simp)
    simp [ff_rounds, fnM_eq, mm_rounds, hsl, -mLcF, -mSlF]
    simp at k0
    simp [k0, e, big, -mLcF]
  | cons c ns =>
    obtain ⟨o, e, q⟩ := fin c
    refine ⟨o, ?_, q⟩
    have k0 := key [c] (by simp)
    simp [ff_rounds, fnM_eq, mm_rounds, hsl, -mLcF, -mSlF]
    simp at k0
    simp [k0, e, big, -mLcF]
/-- what is left of a law that draws from one cell: its body, from a blank state on -/
theorem law_one {n : Nat} {body : MS} (hb : ∀ (x : IV) (d : Nat) (h : IH), Dice h d → ∃ e' h', (body (some x :: some (.ref d) :: List.replicate n none) h = .nx e' h' ∨ body (some x :: some (.ref d) :: List.replicate n none) h = .ct e' h') ∧ e'.length = n + 2)
    (ns : List Int) (x : IV) (h : IH) (hx : x = .fz (ns.map .int) ∧ h = [] ∨ x = .ref 0 ∧ h = [.lst (ns.map .int)]) :
    ∃ e' h', sFor (mItV (mOwn 2 ff_rounds (mCons (mVar 0) (mCons (mC (.int 1)) (mNil))))) (gName' 1) body (some x :: List.replicate (n + 1) none) h = .nx e' h' ∧ e'.length = n + 2 := by
  obtain ⟨o, e, q⟩ := s_rounds ns x h hx
  have D : Dice (h ++ [o]) h.length := ⟨o, by simp, q⟩
  obtain ⟨e', h', e1, l1⟩ := hb x h.length _ D
  refine ⟨e', h', ?_, l1⟩
  have hit : mItV (mOwn 2 ff_rounds (mCons (mVar 0) (mCons (mC (.int 1)) (mNil)))) (some x :: List.replicate (n + 1) none) h = .ok (srT [.ref h.length]) (h ++ [o]) := by simp [e]
  simp only [sFor, hit]
  rw [forL_x src_T (by simp [srT])]
  have hs : (some x :: List.replicate (n + 1) none).set 1 (some (IV.ref h.length)) = some x :: some (.ref h.length) :: List.replicate n none := by rw [List.replicate_succ]; rfl
  simp only [forX, gName', put_nx, hs]
  rcases e1 with e1 | e1 <;> (rw [e1]; rfl)
end Sh

/-! Sh44: the program's labels, as every law walks them; cs, the exceptions that a generator expression may pass on. -/
namespace Sh
namespace Lb
open PySem PySem.Spec PyProof.Rows L2
abbrev Tx := List Nat
def SIGNS : Tx := [97, 98, 99, 100, 101, 102, 103, 104, 105, 106, 107, 108, 109, 110, 111, 112, 113, 114, 115, 116, 117, 118, 119, 120, 121, 122, 48, 49, 50, 51, 52, 53, 54, 55, 56, 57, 45, 95]
def MORE : Tx := [33, 36, 38, 43, 44, 59, 61, 126, 32]
def DIG : Tx := [48, 49, 50, 51, 52, 53, 54, 55, 56, 57]
def m_told_wide (cs : List String) : MS :=
  sSeq (sIf (mOr (m2 gEq (mVar 0) (mC (.str []))) (mGen (mItV (mVar 0)) [3] (gName' 3) (mC (.bl true)) (mAnd (m2 (gInU true) (mVar 3) (mC (.str SIGNS))) (m2 (gInU true) (mVar 3) (mC (.str MORE)))) cs (stB true) (finB true) ())) (sRaise "LabelError") (sSkip))
          (sSeq (sAsg (mLcF (mEnum (mCons (mVar 0) (mNil))) [4, 3] (gSeq' 2 (gsCons (gName' 4) (gsCons (gName' 3) (gsNil)))) (m2 (gInU false) (mVar 3) (mC (.str MORE))) (mTup (mCons (m2 gAddF (mVar 4) (mC (.int 1))) (mCons (mBM .str gIndexS (mC (.str MORE)) (mCons (mVar 3) (mNil))) (mNil))))) (gName' 1))
          (sSeq (sIf (m2 gEq (mVar 1) (mLstF (mNil))) (sRet (mVar 0)) (sSkip))
          (sSeq (sAsg (mBM .str gJoin (mC (.str [])) (mCons (mLcF (mItV (mVar 0)) [3] (gName' 3) (m2 (gInU false) (mVar 3) (mC (.str SIGNS))) (mVar 3)) (mNil))) (gName' 2))
          (sRet (m2 gAddF (m2 gAddF (m2 gAddF (mC (.str [120, 110, 45])) (mVar 2)) (mC (.str [45]))) (mBM .str gJoin (mC (.str [95])) (mCons (mLcF (mItV (mVar 1)) [4, 5] (gSeq' 2 (gsCons (gName' 4) (gsCons (gName' 5) (gsNil)))) (mC (.bl true)) (mJs [mFmt (mVar 4), mC (.str [120]), mFmt (mVar 5)] [])) (mNil))))))))
def f_told_wide (cs : List String) : Fn := fnM ["text", "odd", "plain", "sign", "place", "number"] (m_told_wide cs)
def m_is_count (cs : List String) : MS :=
  sRet (mAnd (mChain gLe gLe (mC (.int 1)) (mCall gLenU (mCons (mVar 0) (mNil))) (mC (.int 4))) (mGen (mItV (mVar 0)) [1] (gName' 1) (mC (.bl true)) (m2 (gInU false) (mVar 1) (mC (.str DIG))) cs (stB false) (finB false) ()))
def f_is_count (cs : List String) : Fn := fnM ["word", "sign"] (m_is_count cs)
def m_read_wide (cs : List String) : MS :=
  sSeq (sIf (m2 gNe (mSlF (mVar 0) (mNoPart) (mPart (mC (.int 3)))) (mC (.str [120, 110, 45]))) (sRet (mVar 0)) (sSkip))
          (sSeq (sAsg (mBM .str gRPart (mSlF (mVar 0) (mPart (mC (.int 3))) (mNoPart)) (mCons (mC (.str [45])) (mNil))) (gSeq' 3 (gsCons (gName' 1) (gsCons (gName' 2) (gsCons (gName' 3) (gsNil))))))
          (sSeq (sAsg (mCall gListF (mCons (mVar 1) (mNil))) (gName' 4))
          (sSeq (sFor (mItV (mBM .str gSplit (mVar 3) (mCons (mC (.str [95])) (mNil)))) (gName' 5) (sSeq (sAsg (mBM .str gPart (mVar 5) (mCons (mC (.str [120])) (mNil))) (gSeq' 3 (gsCons (gName' 6) (gsCons (gName' 7) (gsCons (gName' 8) (gsNil))))))
          (sSeq (sIf (mOr (m2 gEq (mVar 2) (mC (.str []))) (mOr (mNot (mOwn 1 (f_is_count cs) (mCons (mVar 6) (mNil)))) (mOr (mNot (mOwn 1 (f_is_count cs) (mCons (mVar 8) (mNil)))) (m2 gGeU (mCall gIntU (mCons (mVar 8) (mNil))) (mCall gLenU (mCons (mC (.str MORE)) (mNil))))))) (sRaise "LabelError") (sSkip))
          (sAsg (m2 gAddF (m2 gAddF (mSlF (mVar 4) (mNoPart) (mPart (m2 Sh.gSub (mCall gIntU (mCons (mVar 6) (mNil))) (mC (.int 1))))) (mLstF (mCons (m2 gGet (mC (.str MORE)) (mCall gIntU (mCons (mVar 8) (mNil)))) (mNil)))) (mSlF (mVar 4) (mPart (m2 Sh.gSub (mCall gIntU (mCons (mVar 6) (mNil))) (mC (.int 1)))) (mNoPart))) (gName' 4)))))
          (sSeq (sAsg (mBM .str gJoin (mC (.str [])) (mCons (mVar 4) (mNil))) (gName' 9))
          (sSeq (sIf (m2 gNe (mOwn 1 (f_told_wide cs) (mCons (mVar 9) (mNil))) (mVar 0)) (sRaise "LabelError") (sSkip))
          (sRet (mVar 9)))))))
def f_read_wide (cs : List String) : Fn := fnM ["part", "plain", "mark", "tail", "found", "one", "place", "cross", "number", "text"] (m_read_wide cs)
def m_check_part (cs : List String) : MS :=
  sSeq (sIf (m2 gEq (mVar 0) (mC (.str [42]))) (sRetN) (sSkip))
          (sSeq (sIf (mOr (mNot (mChain gLe gLe (mC (.int 1)) (mCall gLenU (mCons (mVar 0) (mNil))) (mC (.int 63)))) (mGen (mItV (mVar 0)) [1] (gName' 1) (mC (.bl true)) (m2 (gInU true) (mVar 1) (mC (.str SIGNS))) cs (stB true) (finB true) ())) (sRaise "LabelError") (sSkip))
          (sIf (mOr (m2 gEq (m2 gGet (mVar 0) (mC (.int 0))) (mC (.str [45]))) (m2 gEq (m2 gGet (mVar 0) (m1 gNeg (mC (.int 1)))) (mC (.str [45])))) (sRaise "LabelError") (sSkip)))
def f_check_part (cs : List String) : Fn := fnM ["part", "sign"] (m_check_part cs)
def m_parts_of (cs : List String) : MS :=
  sSeq (sIf (m2 gEq (mVar 0) (mC (.str [46]))) (sRet (mTup (mNil))) (sSkip))
          (sSeq (sAsg (mIf (m2 gEq (mSlF (mVar 0) (mPart (m1 gNeg (mC (.int 1)))) (mNoPart)) (mC (.str [46]))) (mSlF (mVar 0) (mNoPart) (mPart (m1 gNeg (mC (.int 1))))) (mVar 0)) (gName' 1))
          (sSeq (sIf (mOr (m2 gEq (mVar 1) (mC (.str []))) (m2 gGtU (mCall gLenU (mCons (mVar 1) (mNil))) (mC (.int 253)))) (sRaise "LabelError") (sSkip))
          (sSeq (sAsg (mCall gTuple (mCons (mBM .str gSplit (mBM .str gLower (mVar 1) mNil) (mCons (mC (.str [46])) (mNil))) (mNil))) (gName' 2))
          (sSeq (sFor (mEnum (mCons (mVar 2) (mNil))) (gSeq' 2 (gsCons (gName' 3) (gsCons (gName' 4) (gsNil)))) (sSeq (sExpr (mOwn 1 (f_check_part cs) (mCons (mVar 4) (mNil))))
          (sIf (mAnd (m2 gEq (mVar 4) (mC (.str [42]))) (m2 gGtU (mVar 3) (mC (.int 0)))) (sRaise "LabelError") (sSkip))))
          (sRet (mVar 2))))))
def f_parts_of (cs : List String) : Fn := fnM ["name", "text", "found", "place", "part"] (m_parts_of cs)
def m_key_of (cs : List String) : MS :=
  sRet (m1 gRev (mOwn 1 (f_parts_of cs) (mCons (mVar 0) (mNil))))
def f_key_of (cs : List String) : Fn := fnM ["name"] (m_key_of cs)
def m_in_order (cs : List String) : MS :=
  sSeq (sAsg (mDc true (mItV (mVar 0)) [2] (gName' 2) (mC (.bl true)) (mOwn 1 (f_key_of cs) (mCons (mVar 2) (mNil))) (mC (.bl true))) (gName' 1))
          (sRet (mGen (mItV (mCall gSorted (mCons (mVar 1) (mNil)))) [3] (gName' 3) (mC (.bl true)) (m2 gAddF (mBM .str gJoin (mC (.str [46])) (mCons (m1 gRev (mVar 3)) (mNil))) (mC (.str [46]))) cs stL finT []))
def f_in_order (cs : List String) : Fn := fnM ["names", "rows", "name", "row"] (m_in_order cs)
def m_next_name (cs : List String) : MS :=
  sSeq (sAsg (mOwn 1 (f_in_order cs) (mCons (mVar 0) (mNil))) (gName' 2))
          (sSeq (sIf (m2 gEq (mVar 2) (mTup (mNil))) (sRaise "LabelError") (sSkip))
          (sSeq (sAsg (mLcF (mItV (mVar 2)) [4] (gName' 4) (m2 gGtU (mOwn 1 (f_key_of cs) (mCons (mVar 4) (mNil))) (mOwn 1 (f_key_of cs) (mCons (mVar 1) (mNil)))) (mVar 4)) (gName' 3))
          (sRet (m2 gGet (m2 gAddF (mVar 3) (mCall gListF (mCons (mVar 2) (mNil)))) (mC (.int 0))))))
def f_next_name (cs : List String) : Fn := fnM ["names", "name", "order", "later", "one"] (m_next_name cs)
def m_shared_top (cs : List String) : MS :=
  sSeq (sAsg (mLcF (mItV (mVar 0)) [3] (gName' 3) (mC (.bl true)) (mOwn 1 (f_key_of cs) (mCons (mVar 3) (mNil)))) (gName' 1))
          (sSeq (sIf (m2 gEq (mVar 1) (mLstF (mNil))) (sRet (mC (.str [46]))) (sSkip))
          (sSeq (sAsg (mC (.int 0)) (gName' 2))
          (sSeq (sWhile (fun _ _ => 300) (mGen (mItV (mVar 1)) [4] (gName' 4) (mC (.bl true)) (mAnd (m2 gGtU (mCall gLenU (mCons (mVar 4) (mNil))) (mVar 2)) (m2 gEq (m2 gGet (mVar 4) (mVar 2)) (m2 gGet (m2 gGet (mVar 1) (mC (.int 0))) (mVar 2)))) cs (stB false) (finB false) ()) (sAug 2 gIadd (mC (.int 1))))
          (sRet (m2 gAddF (mBM .str gJoin (mC (.str [46])) (mCons (m1 gRev (mSlF (m2 gGet (mVar 1) (mC (.int 0))) (mNoPart) (mPart (mVar 2)))) (mNil))) (mC (.str [46])))))))
def f_shared_top (cs : List String) : Fn := fnM ["names", "rows", "same", "name", "row"] (m_shared_top cs)
def m_plain_name (cs : List String) : MS :=
  sRet (m2 gAddF (mBM .str gJoin (mC (.str [46])) (mCons (mOwn 1 (f_parts_of cs) (mCons (mVar 0) (mNil))) (mNil))) (mC (.str [46])))
def f_plain_name (cs : List String) : Fn := fnM ["name"] (m_plain_name cs)
def m_full_name (cs : List String) : MS :=
  sSeq (sAsg (mOwn 1 (f_plain_name cs) (mCons (mVar 1) (mNil))) (gName' 2))
          (sSeq (sIf (m2 gEq (mVar 0) (mC (.str []))) (sRaise "LabelError") (sSkip))
          (sSeq (sIf (m2 gEq (mVar 0) (mC (.str [64]))) (sRet (mVar 2)) (sSkip))
          (sSeq (sIf (m2 gEq (mSlF (mVar 0) (mPart (m1 gNeg (mC (.int 1)))) (mNoPart)) (mC (.str [46]))) (sRet (mOwn 1 (f_plain_name cs) (mCons (mVar 0) (mNil)))) (sSkip))
          (sRet (mOwn 1 (f_plain_name cs) (mCons (m2 gAddF (mVar 0) (mIf (m2 gNe (mVar 2) (mC (.str [46]))) (m2 gAddF (mC (.str [46])) (mVar 2)) (mC (.str [46])))) (mNil)))))))
def f_full_name (cs : List String) : Fn := fnM ["text", "base", "top"] (m_full_name cs)
def m_deep_of (cs : List String) : MS :=
  sRet (mCall gLenU (mCons (mOwn 1 (f_parts_of cs) (mCons (mVar 0) (mNil))) (mNil)))
def f_deep_of (cs : List String) : Fn := fnM ["name"] (m_deep_of cs)
def m_is_in (cs : List String) : MS :=
  sSeq (sPar2 2 3 (mCons (mOwn 1 (f_parts_of cs) (mCons (mVar 0) (mNil))) (mCons (mOwn 1 (f_parts_of cs) (mCons (mVar 1) (mNil))) (mNil))))
          (sRet (mAnd (m2 gGeU (mCall gLenU (mCons (mVar 2) (mNil))) (mCall gLenU (mCons (mVar 3) (mNil)))) (m2 gEq (mSlF (mVar 2) (mPart (m2 Sh.gSub (mCall gLenU (mCons (mVar 2) (mNil))) (mCall gLenU (mCons (mVar 3) (mNil))))) (mNoPart)) (mVar 3))))
def f_is_in (cs : List String) : Fn := fnM ["name", "base", "one", "two"] (m_is_in cs)
def m_told_from (cs : List String) : MS :=
  sSeq (sIf (mNot (mOwn 2 (f_is_in cs) (mCons (mVar 0) (mCons (mVar 1) (mNil))))) (sRet (mOwn 1 (f_plain_name cs) (mCons (mVar 0) (mNil)))) (sSkip))
          (sSeq (sAsg (mOwn 1 (f_parts_of cs) (mCons (mVar 0) (mNil))) (gName' 2))
          (sSeq (sAsg (mSlF (mVar 2) (mNoPart) (mPart (m2 Sh.gSub (mCall gLenU (mCons (mVar 2) (mNil))) (mOwn 1 (f_deep_of cs) (mCons (mVar 1) (mNil)))))) (gName' 3))
          (sSeq (sIf (m2 gEq (mOwn 1 (f_deep_of cs) (mCons (mVar 1) (mNil))) (mC (.int 0))) (sRet (mOwn 1 (f_plain_name cs) (mCons (mVar 0) (mNil)))) (sSkip))
          (sRet (mIf (m2 gNe (mVar 3) (mTup (mNil))) (mBM .str gJoin (mC (.str [46])) (mCons (mVar 3) (mNil))) (mC (.str [64])))))))
def f_told_from (cs : List String) : Fn := fnM ["name", "base", "parts", "rest"] (m_told_from cs)
def m_all_above (cs : List String) : MS :=
  sSeq (sAsg (mOwn 1 (f_parts_of cs) (mCons (mVar 0) (mNil))) (gName' 1))
          (sRet (mGen (mRng1 (mCons (m2 gAddF (mCall gLenU (mCons (mVar 1) (mNil))) (mC (.int 1))) (mNil))) [2] (gName' 2) (mC (.bl true)) (m2 gAddF (mBM .str gJoin (mC (.str [46])) (mCons (mSlF (mVar 1) (mPart (mVar 2)) (mNoPart)) (mNil))) (mC (.str [46]))) cs stL finT []))
def f_all_above (cs : List String) : Fn := fnM ["name", "parts", "place"] (m_all_above cs)
def m_name_above (cs : List String) : MS :=
  sRet (m2 gAddF (mBM .str gJoin (mC (.str [46])) (mCons (mSlF (mOwn 1 (f_parts_of cs) (mCons (mVar 0) (mNil))) (mPart (mC (.int 1))) (mNoPart)) (mNil))) (mC (.str [46])))
def f_name_above (cs : List String) : Fn := fnM ["name"] (m_name_above cs)
def m_is_same_name (cs : List String) : MS :=
  sRet (m2 gEq (mOwn 1 (f_parts_of cs) (mCons (mVar 0) (mNil))) (mOwn 1 (f_parts_of cs) (mCons (mVar 1) (mNil))))
def f_is_same_name (cs : List String) : Fn := fnM ["one", "other"] (m_is_same_name cs)
end Lb
end Sh

/-! Sh45: parts of names, in plain words. -/
namespace Sh
namespace Lb
open PySem PySem.Spec PyProof.Rows L2
variable {cs : List String}
def goodP (p : Tx) : Bool := decide (p = [42]) || (decide (1 ≤ p.length ∧ p.length ≤ 63) && p.all (fun c => decide (c ∈ SIGNS)) && decide (p.head? ≠ some 45) && decide (p.getLast? ≠ some 45))
theorem atI_0 {α : Type} {x : α} {xs : List α} : atI (x :: xs) 0 = some x := by simp [atI, ixN]
theorem atI_l {α : Type} {xs : List α} (h : xs ≠ []) : atI xs (-1) = xs.getLast? := by
  obtain ⟨l, y, rfl⟩ := List.eq_nil_or_concat xs |>.resolve_left h
  rw [List.concat_eq_append, atI_last]
  simp
theorem atI_h {α : Type} {xs : List α} : atI xs 0 = xs.head? := by cases xs <;> simp [atI, ixN]
theorem s_check_part (p : Tx) (h : IH) (hp : p.length ≤ big) : f_check_part cs [.str p] h = if goodP p = true then .ok .non h else .exc "LabelError" h := by
  by_cases h1 : p = [42]
  · subst h1
    simp [f_check_part, fnM_eq, m_check_part, goodP]
  · have d1 : decide (p = [42]) = false := decide_eq_false h1
    by_cases h0 : p = []
    · subst h0
      simp [f_check_part, fnM_eq, m_check_part, goodP]
    · have hg : mGen (mItV (mVar 0)) [1] (gName' 1) (mC (.bl true)) (m2 (gInU true) (mVar 1) (mC (.str SIGNS))) cs (stB true) (finB true) () [some (.str p), none] h = .ok (.bl (p.any fun c => !decide (c ∈ SIGNS))) h := by
        simp only [mGen, mItV, mVar, List.getElem?_cons_zero, bind_ok, srV, wipeI]
        rw [genL_x src_S (by simp [srS])]
        rw [genX_b (emb := fun c => .str [c]) (p := fun _ => true) (r := fun c => !decide (c ∈ SIGNS))]
        · simp
        · intro y _; simp
        · intro y _ _; simp
      obtain ⟨y, hy⟩ : ∃ y, p.head? = some y := ⟨_, List.head?_eq_some_head h0⟩
      obtain ⟨z, hz⟩ : ∃ z, p.getLast? = some z := ⟨_, List.getLast?_eq_getLast h0⟩
      have hl : atI p (-1) = some z := (atI_l h0).trans hz
      have hf : atI p 0 = some y := atI_h.trans hy
      have hlen : 1 ≤ p.length := List.length_pos_iff.mpr h0
      have hl1 : (1 : Int) ≤ ((p.length : Nat) : Int) := by exact_mod_cast hlen
      simp only [f_check_part, fnM_eq, m_check_part]
      have hq : ((p.any fun c => !decide (c ∈ SIGNS)) = true ∧ (p.all fun c => decide (c ∈ SIGNS)) = false) ∨ ((p.any fun c => !decide (c ∈ SIGNS)) = false ∧ (p.all fun c => decide (c ∈ SIGNS)) = true) := by
        cases q : p.all fun c => decide (c ∈ SIGNS) with
        | true =>
          refine .inr ⟨?_, rfl⟩
          simp only [List.any_eq_false, List.all_eq_true] at q ⊢
          intro x hx
          simp [q x hx]
        | false =>
          refine .inl ⟨?_, rfl⟩
          simp only [List.any_eq_true, List.all_eq_false] at q ⊢
          obtain ⟨x, hx, q⟩ := q
          exact ⟨x, hx, by simpa using q⟩
      generalize mGen (mItV (mVar 0)) [1] (gName' 1) (mC (.bl true)) (m2 (gInU true) (mVar 1) (mC (.str SIGNS))) cs (stB true) (finB true) () = G at hg ⊢
      by_cases h2 : p.length ≤ 63
      · have hl2 : ((p.length : Nat) : Int) ≤ 63 := by exact_mod_cast h2
        have d2 : decide (1 ≤ p.length ∧ p.length ≤ 63) = true := decide_eq_true ⟨hlen, h2⟩
        rcases hq with ⟨q1, q2⟩ | ⟨q1, q2⟩
        · rw [q1] at hg
          have ng : goodP p = false := by
            unfold goodP
            rw [d1, q2]
            simp
          simp [h1, hg, ng, hp, hl1, hl2]
        · rw [q1] at hg
          have gg : goodP p = (decide (y ≠ 45) && decide (z ≠ 45)) := by
            unfold goodP
            rw [d1, d2, q2, hy, hz]
            simp
          rw [gg]
          by_cases c1 : y = 45 <;> by_cases c2 : z = 45 <;> simp [h1, hg, hp, hl1, hl2, hl, hf, c1, c2]
      · have hl2 : ¬ ((p.length : Nat) : Int) ≤ 63 := by exact_mod_cast h2
        have d2 : decide (1 ≤ p.length ∧ p.length ≤ 63) = false := decide_eq_false fun z => h2 z.2
        have ng : goodP p = false := by
          unfold goodP
          rw [d1, d2]
          simp
        simp [h1, ng, hp, hl1, hl2]
/-! ### split by one sign -/
theorem spl1_cons {c x : Nat} {acc r : Tx} : TL.spl [c] 0 acc (x :: r) = if x = c then acc :: TL.spl [c] 0 [] r else TL.spl [c] 0 (acc ++ [x]) r := by
  by_cases h : x = c
  · subst h
    rw [if_pos rfl, TL.spl_hit (by simp [TL.pre])]
    rfl
  · rw [if_neg h, TL.spl_miss (by simp [TL.pre]; exact fun z => h z)]
theorem spl1_len {c : Nat} : ∀ (t acc : Tx), ∀ p ∈ TL.spl [c] 0 acc t, p.length ≤ acc.length + t.length
  | [], acc, p, hp => by
    rw [TL.spl_nil] at hp
    simp at hp
    subst hp
    simp
  | x :: r, acc, p, hp => by
    rw [spl1_cons] at hp
    split at hp
    · rcases List.mem_cons.mp hp with rfl | hp
      · simp
      · have := spl1_len r [] p hp
        simp at this ⊢
        omega
    · have := spl1_len r _ p hp
      simp at this ⊢
      omega
/-! ### parts of a name -/
def okFrom : Nat → List Tx → Bool
  | _, [] => true
  | n, p :: ps => goodP p && !(decide (p = [42]) && decide (0 < n)) && okFrom (n + 1) ps
def bareT (nm : Tx) : Tx := if nm.getLast? = some 46 then nm.dropLast else nm
def partsF (nm : Tx) : Option (List Tx) := if nm = [46] then some [] else if bareT nm = [] ∨ 253 < (bareT nm).length then none else
  if okFrom 0 (TL.spl [46] 0 [] ((bareT nm).map lo1)) = true then some (TL.spl [46] 0 [] ((bareT nm).map lo1)) else none
theorem cutl (nm : Tx) : (cutI nm (some (-1)) none = [46]) ↔ nm.getLast? = some 46 := by
  rw [cut_fromN (by decide)]
  rcases List.eq_nil_or_concat nm with rfl | ⟨l, y, rfl⟩
  · simp
  · have : (-1 + ((l.concat y).length : Int)).toNat = l.length := by rw [List.length_concat]; omega
    rw [this, List.concat_eq_append]
    simp
theorem cutd (nm : Tx) : cutI nm none (some (-1)) = nm.dropLast := by
  rw [cut_toN (by decide)]
  rcases List.eq_nil_or_concat nm with rfl | ⟨l, y, rfl⟩
  · simp
  · have : (-1 + ((l.concat y).length : Int)).toNat = l.length := by rw [List.length_concat]; omega
    rw [this, List.concat_eq_append]
    simp
abbrev b_parts (cs : List String) : MS := sSeq (sExpr (mOwn 1 (f_check_part cs) (mCons (mVar 4) (mNil))))
          (sIf (mAnd (m2 gEq (mVar 4) (mC (.str [42]))) (m2 gGtU (mVar 3) (mC (.int 0)))) (sRaise "LabelError") (sSkip))
theorem parts_loop (a b c : Option IV) (h : IH) : ∀ (ps : List Tx) (n : Nat) (d e : Option IV), (∀ p ∈ ps, p.length ≤ big) →
    (okFrom n ps = true → ∃ d' e', forX (gSeq' 2 (gsCons (gName' 3) (gsCons (gName' 4) (gsNil)))) (b_parts cs) (enumI n (ps.map .str)) [a, b, c, d, e] h = .nx [a, b, c, d', e'] h) ∧
    (okFrom n ps = false → ∃ e', forX (gSeq' 2 (gsCons (gName' 3) (gsCons (gName' 4) (gsNil)))) (b_parts cs) (enumI n (ps.map .str)) [a, b, c, d, e] h = .ex "LabelError" e' h)
  | [], n, d, e, _ => ⟨fun _ => ⟨d, e, rfl⟩, fun z => by cases z⟩
  | p :: ps, n, d, e, hl => by
    have ih := parts_loop a b c h ps (n + 1) (some (.int (n : Nat))) (some (.str p)) fun q hq => hl q (by simp [hq])
    have hc := s_check_part (cs := cs) p h (hl p (by simp))
    rw [List.map_cons]
    simp only [enumI, forX, gSeq_tup, List.length_cons, List.length_nil, if_true, gsCons_eq, gName', thn_nx, gsNil, List.set_cons_succ, List.set_cons_zero, put_nx]
    by_cases g : goodP p = true
    · rw [if_pos g] at hc
      by_cases g2 : p = [42] ∧ 0 < n
      · have g3 : (0 : Int) < (n : Nat) := by exact_mod_cast g2.2
        have hb : b_parts cs [a, b, c, some (.int (n : Nat)), some (.str p)] h = .ex "LabelError" [a, b, c, some (.int (n : Nat)), some (.str p)] h := by
          rw [g2.1] at hc
          simp [b_parts, hc, g2.1, g3]
          omega
        rw [hb]
        simp only [okFrom, g, g2.1, g2.2]
        exact ⟨fun z => by simp at z, fun _ => ⟨_, rfl⟩⟩
      · have hb : b_parts cs [a, b, c, some (.int (n : Nat)), some (.str p)] h = .nx [a, b, c, some (.int (n : Nat)), some (.str p)] h := by
          by_cases z : p = [42]
          · have g3 : ¬ (0 : Int) < (n : Nat) := fun q => g2 ⟨z, by exact_mod_cast q⟩
            rw [z] at hc
            simp [b_parts, hc, z, g3]
            omega
          · simp [b_parts, hc, z]
        have ho : okFrom n (p :: ps) = okFrom (n + 1) ps := by
          have : (decide (p = [42]) && decide (0 < n)) = false := by
            rw [← Bool.decide_and]
            exact decide_eq_false g2
          simp only [okFrom, g, this]
          simp
        rw [hb, ho]
        exact ih
    · rw [if_neg g] at hc
      have g := Bool.eq_false_iff.mpr g
      have hb : b_parts cs [a, b, c, some (.int (n : Nat)), some (.str p)] h = .ex "LabelError" [a, b, c, some (.int (n : Nat)), some (.str p)] h := by simp [b_parts, hc]
      rw [hb]
      simp only [okFrom, g]
      exact ⟨fun z => by simp at z, fun _ => ⟨_, rfl⟩⟩
def AscT (t : Tx) : Prop := t.length ≤ 1000000 ∧ ∀ c ∈ t, c < 128
theorem AscT.bare {t : Tx} (a : AscT t) : AscT (bareT t) := by
  unfold bareT
  split
  · refine ⟨?_, fun c hc => a.2 c ((List.dropLast_sublist _).subset hc)⟩
    have := a.1
    simp
    omega
  · exact a
theorem s_parts_of (nm : Tx) (h : IH) (ha : AscT nm) : f_parts_of cs [.str nm] h = match partsF nm with
    | some ps => .ok (.tup (ps.map .str)) h
    | none => .exc "LabelError" h := by
  by_cases h1 : nm = [46]
  · subst h1
    simp [f_parts_of, fnM_eq, m_parts_of, partsF]
  · have hl := ha.1
    have hb := ha.bare
    have e1 : (mIf (m2 gEq (mSlF (mVar 0) (mPart (m1 gNeg (mC (.int 1)))) (mNoPart)) (mC (.str [46]))) (mSlF (mVar 0) (mNoPart) (mPart (m1 gNeg (mC (.int 1))))) (mVar 0)) [some (.str nm), none, none, none, none] h = .ok (.str (bareT nm)) h := by
      have hz : nm.length ≤ 10000000 := by omega
      unfold bareT
      by_cases g : nm.getLast? = some 46
      · simp [hz, (cutl nm).mpr g, cutd, g]
      · have g' : ¬ cutI nm (some (-1)) none = [46] := fun z => g ((cutl nm).mp z)
        simp [hz, g', g]
    unfold partsF
    rw [if_neg h1]
    generalize bareT nm = t at e1 hb ⊢
    have hz : t.length ≤ 10000000 := by have := hb.1; omega
    have hz2 : t.length ≤ 5000000 := by have := hb.1; omega
    have hlt : t.all (fun c => decide (c < 128)) = true := List.all_eq_true.mpr fun c hc => decide_eq_true (hb.2 c hc)
    by_cases h2 : t = [] ∨ 253 < t.length
    · rw [if_pos h2]
      rcases h2 with h2 | h2
      · subst h2
        simp [f_parts_of, fnM_eq, m_parts_of, h1, e1, -mIf_eq]
      · have h3 : (253 : Int) < (t.length : Nat) := by exact_mod_cast h2
        by_cases h4 : t = []
        · subst h4
          simp [f_parts_of, fnM_eq, m_parts_of, h1, e1, -mIf_eq]
        · simp [f_parts_of, fnM_eq, m_parts_of, h1, e1, -mIf_eq, h4, h3, hz]
    · rw [if_neg h2]
      have h4 : ¬ t = [] := fun z => h2 (.inl z)
      have h3 : ¬ (253 : Int) < (t.length : Nat) := fun z => h2 (.inr (by exact_mod_cast z))
      have hs : ((t.map lo1).length) ≤ 10000000 := by rw [List.length_map]; exact hz
      generalize hps : TL.spl [46] 0 [] (t.map lo1) = ps
      have hpl : ∀ p ∈ ps, p.length ≤ big := fun p hp => by
        have := spl1_len (c := 46) (t.map lo1) [] p (by rw [hps]; exact hp)
        rw [List.length_map] at this
        simp at this
        show p.length ≤ 10000000
        omega
      have lp := parts_loop (cs := cs) (some (.str nm)) (some (.str t)) (some (.tup (ps.map .str))) h ps 0 none none hpl
      have run : ∀ q : Fl, forX (gSeq' 2 (gsCons (gName' 3) (gsCons (gName' 4) (gsNil)))) (b_parts cs) (enumI 0 (ps.map .str)) [some (.str nm), some (.str t), some (.tup (ps.map .str)), none, none] h = q → f_parts_of cs [.str nm] h = (q.thn (sRet (mVar 2))).fin := by
        rintro q rfl
        have hit : mEnum (mCons (mVar 2) (mNil)) [some (.str nm), some (.str t), some (.tup (ps.map .str)), none, none] h = .ok (srE (srT (ps.map .str))) h := by simp
        have hfor : sFor (mEnum (mCons (mVar 2) (mNil))) (gSeq' 2 (gsCons (gName' 3) (gsCons (gName' 4) (gsNil)))) (b_parts cs) [some (.str nm), some (.str t), some (.tup (ps.map .str)), none, none] h = forX (gSeq' 2 (gsCons (gName' 3) (gsCons (gName' 4) (gsNil)))) (b_parts cs) (enumI 0 (ps.map .str)) [some (.str nm), some (.str t), some (.tup (ps.map .str)), none, none] h := by
          simp only [sFor, hit]
          exact forL_x (src_E src_T) (by simp [enumI_len, srE, srT])
        rw [← hfor]
        simp only [f_parts_of, fnM_eq, m_parts_of]
        generalize sFor (mEnum (mCons (mVar 2) (mNil))) _ _ = F
        simp [h1, e1, -mIf_eq, h4, h3, hz, hz2, hlt, hs, hps, okT]
      cases ho : okFrom 0 ps with
      | true =>
        obtain ⟨d', e', q⟩ := lp.1 ho
        rw [run _ q, if_pos rfl]
        simp
      | false =>
        obtain ⟨e', q⟩ := lp.2 ho
        rw [run _ q, if_neg Bool.false_ne_true]
        simp
end Lb
end Sh

/-! Sh46: what names' parts are good for. -/
namespace Sh
namespace Lb
open PySem PySem.Spec PyProof.Rows L2
variable {cs : List String}
def plainT (ps : List Tx) : Tx := TL.joinL [46] ps ++ [46]
def lenP (ps : List Tx) : Nat := (ps.map (·.length)).sum
/-- parts that a name may have -/
structure GoodPs (ps : List Tx) : Prop where
  ok : okFrom 0 ps = true
  len : lenP ps + ps.length ≤ 254
theorem okFrom_good : ∀ {ps : List Tx} {n : Nat}, okFrom n ps = true → ∀ p ∈ ps, goodP p = true
  | [], _, _, p, hp => by cases hp
  | q :: ps, n, h, p, hp => by
    simp only [okFrom, Bool.and_eq_true] at h
    rcases List.mem_cons.mp hp with rfl | hp
    · exact h.1.1
    · exact okFrom_good h.2 p hp
theorem signs_lt : ∀ c ∈ SIGNS, 42 < c ∧ c < 128 ∧ c ≠ 46 ∧ ¬ (65 ≤ c ∧ c ≤ 90) := by decide
theorem goodP_c {p : Tx} (h : goodP p = true) : ∀ c ∈ p, 42 ≤ c ∧ c < 128 ∧ c ≠ 46 ∧ ¬ (65 ≤ c ∧ c ≤ 90) := by
  unfold goodP at h
  simp only [Bool.or_eq_true, Bool.and_eq_true, decide_eq_true_eq, List.all_eq_true] at h
  rcases h with h | h
  · subst h; decide
  · intro c hc
    have := signs_lt c (h.1.1.2 c hc)
    exact ⟨by omega, this.2.1, this.2.2⟩
theorem goodP_len {p : Tx} (h : goodP p = true) : 1 ≤ p.length ∧ p.length ≤ 63 := by
  unfold goodP at h
  simp only [Bool.or_eq_true, Bool.and_eq_true, decide_eq_true_eq, List.all_eq_true] at h
  rcases h with h | h
  · subst h; decide
  · exact h.1.1.1
theorem goodP_oks {p : Tx} (h : goodP p = true) : Em.OkS p := fun c hc => by have := goodP_c h c hc; omega
theorem spl1_sum {c : Nat} : ∀ (t acc : Tx), lenP (TL.spl [c] 0 acc t) + (TL.spl [c] 0 acc t).length = acc.length + t.length + 1
  | [], acc => by rw [TL.spl_nil]; simp [lenP]
  | x :: r, acc => by
    rw [spl1_cons]
    split
    · have := spl1_sum (c := c) r []
      simp only [lenP, List.map_cons, List.sum_cons, List.length_cons, List.length_nil] at this ⊢
      omega
    · have := spl1_sum (c := c) r (acc ++ [x])
      simp only [lenP, List.length_append, List.length_cons, List.length_nil] at this ⊢
      omega
theorem partsF_good {nm : Tx} {ps : List Tx} (h : partsF nm = some ps) : GoodPs ps := by
  unfold partsF at h
  split at h
  · cases h; exact ⟨rfl, by decide⟩
  · split at h
    · cases h
    · rename_i h2
      split at h
      · rename_i h3
        cases h
        refine ⟨h3, ?_⟩
        have := spl1_sum (c := 46) ((bareT nm).map lo1) []
        rw [List.length_map] at this
        simp at this
        omega
      · cases h
section
variable {ps qs : List Tx} {h : IH}
theorem GoodPs.mem (g : GoodPs ps) : ∀ p ∈ ps, goodP p = true := okFrom_good g.ok
theorem GoodPs.oks (g : GoodPs ps) : ∀ p ∈ ps, Em.OkS p := fun p hp => goodP_oks (g.mem p hp)
theorem joinL_len {s : Tx} : ∀ ps : List Tx, (TL.joinL s ps).length + (if ps = [] then 0 else s.length) = lenP ps + ps.length * s.length
  | [] => by simp [TL.joinL, lenP]
  | [p] => by simp [TL.joinL, lenP]
  | p :: q :: r => by
    have := joinL_len (s := s) (q :: r)
    simp only [TL.joinL, List.length_append, lenP, List.map_cons, List.sum_cons, List.length_cons] at this ⊢
    simp only [reduceCtorEq, if_false] at this ⊢
    rw [Nat.succ_mul]
    omega
theorem lenP_drop {k : Nat} : lenP (ps.drop k) ≤ lenP ps := by
  induction ps generalizing k with
  | nil => simp
  | cons p ps ih =>
    cases k with
    | zero => simp
    | succ k =>
      have := ih (k := k)
      simp only [lenP, List.drop_succ_cons, List.map_cons, List.sum_cons] at this ⊢
      omega
theorem lenP_take {k : Nat} : lenP (ps.take k) ≤ lenP ps := by
  induction ps generalizing k with
  | nil => simp
  | cons p ps ih =>
    cases k with
    | zero => simp [lenP]
    | succ k =>
      have := ih (k := k)
      simp only [lenP, List.take_succ_cons, List.map_cons, List.sum_cons] at this ⊢
      omega
/-- joined by dots: short -/
structure Short (ps : List Tx) : Prop where
  len : lenP ps + ps.length ≤ 100000
theorem GoodPs.short (g : GoodPs ps) : Short ps := ⟨by have := g.len; omega⟩
theorem Short.drop (s : Short ps) {k : Nat} : Short (ps.drop k) := ⟨by have := @lenP_drop ps k; have := s.len; have : (ps.drop k).length ≤ ps.length := by simp
                                                                       omega⟩
theorem Short.take (s : Short ps) {k : Nat} : Short (ps.take k) := ⟨by have := @lenP_take ps k; have := s.len; have : (ps.take k).length ≤ ps.length := by simp; omega
                                                                       omega⟩
theorem lenP_rev : lenP ps.reverse = lenP ps := by simp [lenP, List.map_reverse, List.sum_reverse]
theorem Short.rev (s : Short ps) : Short ps.reverse := ⟨by rw [lenP_rev, List.length_reverse]; exact s.len⟩
theorem Short.join (s : Short ps) : (TL.joinL [46] ps).length ≤ 100000 := by
  have := joinL_len (s := [46]) ps
  have h2 := s.len
  simp only [List.length_singleton, Nat.mul_one] at this
  omega
theorem e_join46 (s : Short ps) : gJoin (.str [46]) [.tup (ps.map .str)] h = .ok (.str (TL.joinL [46] ps)) h := by
  have := s.len
  rw [gJoin_tup, if_pos (by show lenP ps + ps.length * 1 ≤ 10000000; omega)]
theorem e_join46F (s : Short ps) : gJoin (.str [46]) [.fz (ps.map .str)] h = .ok (.str (TL.joinL [46] ps)) h := by
  have := s.len
  rw [gJoin_fz, if_pos (by show lenP ps + ps.length * 1 ≤ 10000000; omega)]
/-- what is joined, a dot behind -/
theorem e_dot (s : Short ps) : gAddF (.str (TL.joinL [46] ps)) (.str [46]) h = .ok (.str (plainT ps)) h := by
  have := s.join
  have h2 : (TL.joinL [46] ps).length + 1 ≤ big := by show _ ≤ 10000000; omega
  simp [plainT, h2]
theorem s_parts {nm : Tx} (ha : AscT nm) (hp : partsF nm = some ps) : f_parts_of cs [.str nm] h = .ok (.tup (ps.map .str)) h := by rw [s_parts_of nm h ha, hp]
theorem s_key {nm : Tx} (ha : AscT nm) (hp : partsF nm = some ps) : f_key_of cs [.str nm] h = .ok (.tup (ps.reverse.map .str)) h := by
  simp [f_key_of, fnM_eq, m_key_of, s_parts ha hp]
theorem s_plain {nm : Tx} (ha : AscT nm) (hp : partsF nm = some ps) : f_plain_name cs [.str nm] h = .ok (.str (plainT ps)) h := by
  have s := (partsF_good hp).short
  simp [f_plain_name, fnM_eq, m_plain_name, s_parts ha hp, okT, e_join46 s, e_dot s, -gAddF]
theorem s_deep {nm : Tx} (ha : AscT nm) (hp : partsF nm = some ps) : f_deep_of cs [.str nm] h = .ok (.int ps.length) h := by
  simp [f_deep_of, fnM_eq, m_deep_of, s_parts ha hp]
theorem s_same {a b : Tx} (ha : AscT a) (hp : partsF a = some ps) (hb : AscT b) (hq : partsF b = some qs) : f_is_same_name cs [.str a, .str b] h = .ok (.bl (decide (ps = qs))) h := by
  have := gEq_ts (h := h) (partsF_good hp).oks (partsF_good hq).oks
  simp [f_is_same_name, fnM_eq, m_is_same_name, s_parts ha hp, s_parts hb hq, this]
theorem s_above {nm : Tx} (ha : AscT nm) (hp : partsF nm = some ps) : f_name_above cs [.str nm] h = .ok (.str (plainT (ps.drop 1))) h := by
  have s := ((partsF_good hp).short).drop (k := 1)
  have e1 := e_join46 (h := h) s
  have e2 := e_dot (h := h) s
  rw [List.map_drop] at e1
  simp only [f_name_above, fnM_eq, m_name_above]
  simp [s_parts ha hp, okT, cut_from, List.map_drop, e1, e2, -gAddF, -List.drop_one]
def inP (ps qs : List Tx) : Bool := decide (qs.length ≤ ps.length) && decide (ps.drop (ps.length - qs.length) = qs)
theorem s_in {a b : Tx} (ha : AscT a) (hp : partsF a = some ps) (hb : AscT b) (hq : partsF b = some qs) : f_is_in cs [.str a, .str b] h = .ok (.bl (inP ps qs)) h := by
  have g1 := (partsF_good hp).oks
  have g2 := (partsF_good hq).oks
  unfold inP
  by_cases c : qs.length ≤ ps.length
  · have c1 : ((qs.length : Nat) : Int) ≤ (ps.length : Nat) := by exact_mod_cast c
    have c2 : (0 : Int) ≤ (ps.length : Int) - qs.length := by omega
    have c3 : ((ps.length : Int) - qs.length).toNat = ps.length - qs.length := by omega
    have := gEq_ts (h := h) (a := ps.drop (ps.length - qs.length)) (b := qs) (fun x hx => g1 x (List.mem_of_mem_drop hx)) g2
    rw [List.map_drop] at this
    simp [f_is_in, fnM_eq, m_is_in, sPar2, s_parts ha hp, s_parts hb hq, c1, c, cut_from c2, c3, List.map_drop, this]
  · have c1 : ¬ ((qs.length : Nat) : Int) ≤ (ps.length : Nat) := by exact_mod_cast c
    simp [f_is_in, fnM_eq, m_is_in, sPar2, s_parts ha hp, s_parts hb hq, c1, c]
end
end Lb
end Sh

/-! Sh47: names that are made of parts. -/
namespace Sh
namespace Lb
open PySem PySem.Spec PyProof.Rows L2
variable {cs : List String}
theorem lo1_46 {c : Nat} : lo1 c = 46 ↔ c = 46 := by
  unfold lo1
  split <;> omega
theorem lo1_lt {c : Nat} (h : lo1 c < 128) : c < 128 := by
  unfold lo1 at h
  split at h <;> omega
theorem lo1_id {c : Nat} (h : ¬ (65 ≤ c ∧ c ≤ 90)) : lo1 c = c := by
  unfold lo1
  rw [if_neg h]
theorem joinL_map {f : Nat → Nat} {s : Tx} : ∀ rs : List Tx, (TL.joinL s rs).map f = TL.joinL (s.map f) (rs.map (·.map f))
  | [] => rfl
  | [p] => rfl
  | p :: q :: r => by
    have := joinL_map (f := f) (s := s) (q :: r)
    simp only [TL.joinL, List.map_append, List.map_cons] at this ⊢
    rw [this]
theorem joinL_cons {s p : Tx} {ps : List Tx} (h : ps ≠ []) : TL.joinL s (p :: ps) = p ++ (s ++ TL.joinL s ps) := by
  cases ps with
  | nil => exact absurd rfl h
  | cons q r => rfl
theorem joinL_app {s : Tx} {qs : List Tx} (hq : qs ≠ []) : ∀ {ps : List Tx}, ps ≠ [] → TL.joinL s (ps ++ qs) = TL.joinL s ps ++ (s ++ TL.joinL s qs)
  | [], h => absurd rfl h
  | [p], _ => by rw [List.singleton_append, joinL_cons hq]; rfl
  | p :: q :: r, _ => by
    have ih := joinL_app (s := s) hq (ps := q :: r) (by simp)
    rw [List.cons_append, joinL_cons (p := p) (ps := q :: r ++ qs) (by simp), ih, joinL_cons (p := p) (ps := q :: r) (by simp)]
    simp only [List.append_assoc]
theorem joinL_last {c : Nat} : ∀ {rs : List Tx}, rs ≠ [] → (∀ r ∈ rs, r ≠ [] ∧ c ∉ r) → (TL.joinL [c] rs).getLast? ≠ some c ∧ TL.joinL [c] rs ≠ []
  | [], h, _ => absurd rfl h
  | [p], _, h => by
    obtain ⟨h1, h2⟩ := h p (by simp)
    refine ⟨fun z => h2 (List.mem_of_getLast? z), h1⟩
  | p :: q :: r, _, h => by
    have ih := joinL_last (rs := q :: r) (by simp) fun x hx => h x (by simp [hx])
    rw [joinL_cons (by simp)]
    refine ⟨?_, by simp⟩
    obtain ⟨z, hz⟩ : ∃ z, (TL.joinL [c] (q :: r)).getLast? = some z := ⟨_, List.getLast?_eq_getLast ih.2⟩
    rw [List.getLast?_append, List.getLast?_append, hz]
    have h1 := ih.1
    rw [hz] at h1
    simpa using h1
/-- raw parts of a name: its parts in any case -/
structure Raw (rs : List Tx) (ps : List Tx) : Prop where
  lo : rs.map (·.map lo1) = ps
  good : GoodPs ps
section
variable {rs ps qs : List Tx}
theorem Raw.mem (w : Raw rs ps) : ∀ r ∈ rs, r ≠ [] ∧ 46 ∉ r ∧ ∀ c ∈ r, c < 128 := fun r hr => by
  have hm : r.map lo1 ∈ ps := by rw [← w.lo]; exact List.mem_map_of_mem hr
  have g := w.good.mem _ hm
  have gl := goodP_len g
  have gc := goodP_c g
  refine ⟨fun z => by subst z; simp at gl, fun z => ?_, fun c hc => ?_⟩
  · have := gc (lo1 46) (List.mem_map_of_mem z)
    exact this.2.2.1 (lo1_46.mpr rfl)
  · exact lo1_lt (gc (lo1 c) (List.mem_map_of_mem hc)).2.1
theorem lenP_map {f : Nat → Nat} : lenP (rs.map (·.map f)) = lenP rs := by simp [lenP, Function.comp_def]
theorem Raw.len (w : Raw rs ps) : lenP rs + rs.length ≤ 254 := by
  have := w.good.len
  rw [← w.lo, lenP_map, List.length_map] at this
  exact this
theorem joinL_mem {s : Tx} {c : Nat} : ∀ {rs : List Tx}, c ∈ TL.joinL s rs → c ∈ s ∨ ∃ r ∈ rs, c ∈ r
  | [], h => by cases h
  | [p], h => .inr ⟨p, by simp, h⟩
  | p :: q :: r, h => by
    rw [joinL_cons (by simp)] at h
    rcases List.mem_append.mp h with h | h
    · exact .inr ⟨p, by simp, h⟩
    · rcases List.mem_append.mp h with h | h
      · exact .inl h
      · rcases joinL_mem h with h | ⟨x, hx, h⟩
        · exact .inl h
        · exact .inr ⟨x, by simp [hx], h⟩
theorem Raw.jlen (w : Raw rs ps) : (TL.joinL [46] rs).length ≤ 253 ∨ rs = [] := by
  by_cases h : rs = []
  · exact .inr h
  · have := joinL_len (s := [46]) rs
    rw [if_neg h] at this
    have h2 := w.len
    simp only [List.length_singleton, Nat.mul_one] at this
    exact .inl (by omega)
theorem Raw.asc (w : Raw rs ps) : AscT (TL.joinL [46] rs) := by
  refine ⟨?_, fun c hc => ?_⟩
  · rcases w.jlen with h | h
    · omega
    · subst h; simp [TL.joinL]
  · rcases joinL_mem hc with h | ⟨r, hr, h⟩
    · simp at h; omega
    · exact (w.mem r hr).2.2 c h
theorem AscT.dot {t : Tx} (a : AscT t) (h : t.length ≤ 500000) : AscT (t ++ [46]) := by
  refine ⟨by simp; omega, fun c hc => ?_⟩
  rcases List.mem_append.mp hc with h | h
  · exact a.2 c h
  · simp at h; omega
theorem partsF_core {t : Tx} {nm : Tx} (hb : bareT nm = t) (hn : nm ≠ [46]) (w : Raw rs ps) (hr : rs ≠ []) (ht : t = TL.joinL [46] rs) : partsF nm = some ps := by
  have hl : t.length ≤ 253 := by
    rcases w.jlen with h | h
    · rw [ht]; exact h
    · exact absurd h hr
  have hne : t ≠ [] := by rw [ht]; exact (joinL_last (c := 46) hr fun r h => ⟨(w.mem r h).1, (w.mem r h).2.1⟩).2
  have hp : ps ≠ [] := by rw [← w.lo]; simpa using hr
  have hs : TL.spl [46] 0 [] (t.map lo1) = ps := by
    rw [ht, joinL_map, w.lo]
    have : ([46] : Tx).map lo1 = [46] := by decide
    rw [this]
    exact TL.spl_join hp fun p h z => (goodP_c (w.good.mem p h) 46 z).2.2.1 rfl
  unfold partsF
  rw [if_neg hn, hb, hs, if_neg (by rintro (z | z); exact hne z; omega), if_pos w.good.ok]
theorem Raw.last (w : Raw rs ps) (hr : rs ≠ []) : (TL.joinL [46] rs).getLast? ≠ some 46 ∧ TL.joinL [46] rs ≠ [] := joinL_last hr fun r h => ⟨(w.mem r h).1, (w.mem r h).2.1⟩
theorem Raw.parts (w : Raw rs ps) (hr : rs ≠ []) : partsF (TL.joinL [46] rs) = some ps := by
  have l := w.last hr
  refine partsF_core (t := TL.joinL [46] rs) ?_ ?_ w hr rfl
  · unfold bareT; rw [if_neg l.1]
  · intro z; rw [z] at l; exact l.1 rfl
theorem Raw.parts_dot (w : Raw rs ps) : partsF (TL.joinL [46] rs ++ [46]) = some ps := by
  by_cases hr : rs = []
  · subst hr
    have := w.lo
    subst this
    rfl
  · have l := w.last hr
    refine partsF_core (t := TL.joinL [46] rs) ?_ ?_ w hr rfl
    · unfold bareT; rw [if_pos (by simp)]; simp
    · intro z
      have := congrArg List.length z
      simp at this
      exact l.2 this
theorem GoodPs.raw (g : GoodPs ps) : Raw ps ps := by
  refine ⟨?_, g⟩
  have : ∀ p ∈ ps, p.map lo1 = p := fun p hp => by
    have := goodP_c (g.mem p hp)
    conv => rhs; rw [← List.map_id p]
    exact List.map_congr_left fun c hc => lo1_id (this c hc).2.2.2
  conv => rhs; rw [← List.map_id ps]
  exact List.map_congr_left this
theorem GoodPs.plain (g : GoodPs ps) : partsF (plainT ps) = some ps := g.raw.parts_dot
theorem GoodPs.asc (g : GoodPs ps) : AscT (plainT ps) := by
  refine g.raw.asc.dot ?_
  rcases g.raw.jlen with h | h
  · omega
  · subst h; simp [TL.joinL]
theorem okFrom_app : ∀ {ps : List Tx} {n : Nat}, okFrom n (ps ++ qs) = (okFrom n ps && okFrom (n + ps.length) qs)
  | [], n => by simp [okFrom]
  | p :: ps, n => by
    rw [List.cons_append]
    simp only [okFrom, okFrom_app (ps := ps), List.length_cons, Bool.and_assoc]
    rw [show n + 1 + ps.length = n + (ps.length + 1) by omega]
/-- parts without a wild one -/
def tame (ps : List Tx) : Bool := ps.all fun p => goodP p && decide (p ≠ [42])
theorem okFrom_tame : ∀ {ps : List Tx} {n : Nat}, tame ps = true → okFrom n ps = true
  | [], n, _ => rfl
  | p :: ps, n, h => by
    simp only [tame, List.all_cons, Bool.and_eq_true, decide_eq_true_eq] at h
    have := okFrom_tame (ps := ps) (n := n + 1) h.2
    simp [okFrom, h.1.1, h.1.2, this]
theorem lenP_app : lenP (ps ++ qs) = lenP ps + lenP qs := by simp [lenP]
theorem plainT_app (hp : ps ≠ []) (hq : qs ≠ []) : TL.joinL [46] ps ++ ([46] ++ plainT qs) = plainT (ps ++ qs) := by
  unfold plainT
  rw [joinL_app hq hp]
  simp
end
end Lb
end Sh

/-! Sh48: full names, names told from a base, all above. -/
namespace Sh
namespace Lb
open PySem PySem.Spec PyProof.Rows L2
variable {cs : List String} {rs ps qs : List Tx} {h : IH}
theorem GoodPs.top (g : GoodPs qs) : plainT qs = [46] ↔ qs = [] := by
  constructor
  · intro z
    by_cases hq : qs = []
    · exact hq
    · have := (g.raw.last hq).2
      unfold plainT at z
      have z2 := congrArg List.length z
      simp at z2
      exact absurd z2 this
  · rintro rfl; rfl
theorem s_full_at {b : Tx} (hb : AscT b) (hq : partsF b = some qs) : f_full_name cs [.str [64], .str b] h = .ok (.str (plainT qs)) h := by
  simp [f_full_name, fnM_eq, m_full_name, s_plain hb hq]
theorem s_full_dot {a b : Tx} (ha : AscT a) (hp : partsF a = some ps) (hb : AscT b) (hq : partsF b = some qs) (hl : a.getLast? = some 46) : f_full_name cs [.str a, .str b] h = .ok (.str (plainT ps)) h := by
  have h1 : ¬ a = [] := fun z => by subst z; simp at hl
  have h2 : ¬ a = [64] := fun z => by subst z; simp at hl
  have h3 := (cutl a).mpr hl
  have h4 : a.length ≤ 10000000 := by have := ha.1; omega
  simp [f_full_name, fnM_eq, m_full_name, s_plain hb hq, s_plain ha hp, h1, h2, h3, h4]
theorem Raw.not_at (w : Raw rs ps) : TL.joinL [46] rs ≠ [64] := fun z => by
  have hm : 64 ∈ TL.joinL [46] rs := by rw [z]; simp
  rcases joinL_mem hm with h | ⟨r, hr, h⟩
  · simp at h
  · have hm2 : r.map lo1 ∈ ps := by rw [← w.lo]; exact List.mem_map_of_mem hr
    have g := w.good.mem _ hm2
    have := goodP_c g (lo1 64) (List.mem_map_of_mem h)
    have e : lo1 64 = 64 := by decide
    rw [e] at this
    unfold goodP at g
    simp only [Bool.or_eq_true, Bool.and_eq_true, decide_eq_true_eq, List.all_eq_true] at g
    rcases g with g | g
    · have hx : 64 ∈ r.map lo1 := by rw [← e]; exact List.mem_map_of_mem h
      rw [g] at hx
      simp at hx
    · have := g.1.1.2 64 (by rw [← e]; exact List.mem_map_of_mem h)
      revert this
      decide
theorem Raw.app (w : Raw rs ps) (g : GoodPs qs) (gg : GoodPs (ps ++ qs)) : Raw (rs ++ qs) (ps ++ qs) := ⟨by rw [List.map_append, w.lo, g.raw.lo], gg⟩
theorem s_full_rel {b : Tx} (w : Raw rs ps) (hr : rs ≠ []) (hb : AscT b) (hq : partsF b = some qs) (gg : GoodPs (ps ++ qs)) : f_full_name cs [.str (TL.joinL [46] rs), .str b] h = .ok (.str (plainT (ps ++ qs))) h := by
  have l := w.last hr
  have h2 := w.not_at
  have h3 : ¬ cutI (TL.joinL [46] rs) (some (-1)) none = [46] := fun z => l.1 ((cutl _).mp z)
  have ha := w.asc
  have h4 : (TL.joinL [46] rs).length ≤ 10000000 := by have := ha.1; omega
  have gq := partsF_good hq
  have hlen : (TL.joinL [46] rs).length ≤ 253 := by
    rcases w.jlen with z | z
    · exact z
    · exact absurd z hr
  by_cases hqe : qs = []
  · subst hqe
    have e1 : plainT [] = [46] := rfl
    rw [List.append_nil] at gg ⊢
    have := s_plain (cs := cs) (h := h) (nm := TL.joinL [46] rs ++ [46]) (ha.dot (by omega)) w.parts_dot
    have h5 : (TL.joinL [46] rs).length + 1 ≤ 10000000 := by omega
    simp [f_full_name, fnM_eq, m_full_name, s_plain hb hq, l.2, h2, h3, h4, e1, this, h5]
  · have e1 : ¬ plainT qs = [46] := fun z => hqe (gq.top.mp z)
    have wa := w.app gq gg
    have hra : rs ++ qs ≠ [] := by simp [hr]
    have e2 : TL.joinL [46] rs ++ 46 :: plainT qs = TL.joinL [46] (rs ++ qs) ++ [46] := by
      rw [joinL_app hqe hr]
      simp [plainT]
    have := s_plain (cs := cs) (h := h) (nm := TL.joinL [46] (rs ++ qs) ++ [46]) (wa.asc.dot (by
      rcases wa.jlen with z | z
      · omega
      · exact absurd z hra)) wa.parts_dot
    have hpl : (plainT qs).length ≤ 1000000 := gq.asc.1
    have h5 : (plainT qs).length + 1 ≤ 10000000 := by omega
    have h6 : (TL.joinL [46] rs).length + ((plainT qs).length + 1) ≤ 10000000 := by omega
    have h7 : (plainT qs).length ≤ 9999999 := by omega
    have h8 : 1 + (plainT qs).length ≤ big := by show _ ≤ 10000000; omega
    simp [f_full_name, fnM_eq, m_full_name, s_plain hb hq, l.2, h2, h3, h4, e1, h5, h6, h7, h8, e2, this]
def toldP (ps qs : List Tx) : Tx := if inP ps qs = false ∨ qs = [] then plainT ps else if ps.length = qs.length then [64] else TL.joinL [46] (ps.take (ps.length - qs.length))
theorem s_told {a b : Tx} (ha : AscT a) (hp : partsF a = some ps) (hb : AscT b) (hq : partsF b = some qs) : f_told_from cs [.str a, .str b] h = .ok (.str (toldP ps qs)) h := by
  unfold toldP
  have e1 := s_in (cs := cs) (h := h) ha hp hb hq
  cases hi : inP ps qs with
  | false =>
    rw [hi] at e1
    rw [if_pos (.inl rfl)]
    simp [f_told_from, fnM_eq, m_told_from, e1, s_plain ha hp]
  | true =>
    rw [hi] at e1
    by_cases hqe : qs = []
    · subst hqe
      rw [if_pos (.inr rfl)]
      simp [f_told_from, fnM_eq, m_told_from, e1, s_parts ha hp, s_plain ha hp, s_deep hb hq]
    · rw [if_neg (by rintro (z | z); cases z; exact hqe z)]
      have hle : qs.length ≤ ps.length := by
        unfold inP at hi
        rw [Bool.and_eq_true, decide_eq_true_eq] at hi
        exact hi.1
      have hq0 : ¬ (qs.length = 0) := fun z => hqe (List.length_eq_zero_iff.mp z)
      have c2 : (0 : Int) ≤ (ps.length : Int) - qs.length := by omega
      have c3 : ((ps.length : Int) - qs.length).toNat = ps.length - qs.length := by omega
      have g := gNe_ts (h := h) (a := ps.take (ps.length - qs.length)) (b := []) (fun x hx => (partsF_good hp).oks x (List.mem_of_mem_take hx)) (by simp)
      have gj := e_join46 (h := h) ((partsF_good hp).short.take (k := ps.length - qs.length))
      have iff1 : ps.take (ps.length - qs.length) = [] ↔ ps.length = qs.length := by
        rw [← List.length_eq_zero_iff, List.length_take]
        omega
      rw [List.map_nil] at g
      by_cases hz : ps.length = qs.length
      · rw [iff1.mpr hz] at g
        simp only [List.map_nil] at g
        simp [f_told_from, fnM_eq, m_told_from, e1, s_parts ha hp, s_plain ha hp, s_deep hb hq, hqe, cut_to, hz, g, big]
      · have hn : ¬ ps.take (ps.length - qs.length) = [] := fun z => hz (iff1.mp z)
        rw [decide_eq_false hn, List.map_take] at g
        rw [List.map_take] at gj
        simp [f_told_from, fnM_eq, m_told_from, e1, s_parts ha hp, s_plain ha hp, s_deep hb hq, hqe, cut_to c2, c3, hz, g, big, okT, gj, List.map_take]
theorem s_all_above {a : Tx} (ha : AscT a) (hp : partsF a = some ps) : f_all_above cs [.str a] h = .ok (.tup (((List.range (ps.length + 1)).map fun k => plainT (ps.drop k)).map .str)) h := by
  have s := (partsF_good hp).short
  have hl := (partsF_good hp).len
  have g : mGen (mRng1 (mCons (m2 gAddF (mCall gLenU (mCons (mVar 1) (mNil))) (mC (.int 1))) (mNil))) [2] (gName' 2) (mC (.bl true)) (m2 gAddF (mBM .str gJoin (mC (.str [46])) (mCons (mSlF (mVar 1) (mPart (mVar 2)) (mNoPart)) (mNil))) (mC (.str [46]))) cs stL finT [] [some (.str a), some (.tup (ps.map .str)), none] h = .ok (.tup (((List.range (ps.length + 1)).map fun k => plainT (ps.drop k)).map .str)) h := by
    have hit : mRng1 (mCons (m2 gAddF (mCall gLenU (mCons (mVar 1) (mNil))) (mC (.int 1))) (mNil)) [some (.str a), some (.tup (ps.map .str)), none] h = .ok (srR 0 ((ps.length : Int) + 1)) h := by
      exact mRng1_ok (by simp) (by omega)
    have ew : wipeI [some (.str a), some (.tup (ps.map .str)), none] [2] = [some (.str a), some (.tup (ps.map .str)), none] := rfl
    rw [mGen_l hit src_R, ew]
    have hn : ((ps.length : Int) + 1 - 0).toNat = ps.length + 1 := by omega
    rw [hn]
    unfold rngL
    rw [genX_l (emb := fun (i : Nat) => IV.int (0 + (i : Nat))) (p := fun _ => true) (q := fun k => .str (plainT (ps.drop k)))]
    · have h3 : ps.length + 1 ≤ 10000000 := by omega
      simp [finT, h3, Function.comp_def]
    · show _ ≤ 10000000
      simp
      omega
    · intro y _; simp
    · intro y _ _
      have c0 : (0 : Int) ≤ 0 + (y : Nat) := by omega
      have c1 : ((0 : Int) + (y : Nat)).toNat = y := by omega
      have e1 := e_join46 (h := h) (s.drop (k := y))
      have e2 := e_dot (h := h) (s.drop (k := y))
      rw [List.map_drop] at e1
      simp [cut_from, List.map_drop, okT, e1, e2, -gAddF]
  show (m_all_above cs [some (.str a), none, none] h).fin = _
  unfold m_all_above
  rw [run_seq (e1 := [some (.str a), some (.tup (ps.map .str)), none]) (h1 := h) (by simp [s_parts ha hp]), run_ret g]
  rfl
end Lb
end Sh

/-! Sh49: keys that are rows of texts: their order, dicts of them. -/
namespace Sh
open PySem PySem.Spec PyProof.Rows L2
open PySem.W (alike alikeAll dataLt keyToks keyToksAll sameRank TotalLe)
/-! ### each once -/
def addK {α : Type} [DecidableEq α] (a : List α) (k : α) : List α := if k ∈ a then a else a ++ [k]
def ddF {α : Type} [DecidableEq α] (acc ks : List α) : List α := ks.foldl addK acc
section
variable {α : Type} [DecidableEq α]
theorem ddF_mem {x : α} : ∀ {ks acc : List α}, x ∈ ddF acc ks ↔ x ∈ acc ∨ x ∈ ks
  | [], acc => by simp [ddF]
  | k :: ks, acc => by
    show x ∈ ddF (addK acc k) ks ↔ _
    rw [ddF_mem]
    unfold addK
    by_cases h : k ∈ acc
    · rw [if_pos h, List.mem_cons]
      constructor
      · rintro (z | z)
        · exact .inl z
        · exact .inr (.inr z)
      · rintro (z | z | z)
        · exact .inl z
        · subst z; exact .inl h
        · exact .inr z
    · rw [if_neg h, List.mem_append, List.mem_singleton, List.mem_cons, or_assoc]
theorem ddF_nodup : ∀ {ks acc : List α}, acc.Nodup → (ddF acc ks).Nodup
  | [], acc, h => h
  | k :: ks, acc, h => by
    show (ddF (addK acc k) ks).Nodup
    refine ddF_nodup ?_
    unfold addK
    by_cases hk : k ∈ acc
    · rw [if_pos hk]; exact h
    · rw [if_neg hk, List.nodup_append]
      refine ⟨h, by simp, fun x hx y hy e => ?_⟩
      rw [List.mem_singleton] at hy
      subst hy e
      exact hk hx
theorem ddF_len : ∀ {ks acc : List α}, (ddF acc ks).length ≤ acc.length + ks.length
  | [], acc => by simp [ddF]
  | k :: ks, acc => by
    show (ddF (addK acc k) ks).length ≤ _
    refine Nat.le_trans ddF_len ?_
    unfold addK
    split <;> simp <;> omega
theorem nodup_filter {p : α → Bool} {c : α} (hp : ∀ x, p x = true ↔ x = c) : ∀ {l : List α}, l.Nodup → l.filter p = if c ∈ l then [c] else []
  | [], _ => rfl
  | x :: l, h => by
    obtain ⟨h1, h2⟩ := List.nodup_cons.mp h
    rw [List.filter_cons, nodup_filter hp h2]
    by_cases e : x = c
    · subst e
      rw [if_pos ((hp x).mpr rfl), if_neg h1]
      simp
    · rw [if_neg (fun z => e ((hp x).mp z))]
      simp [Ne.symm e]
end
namespace Lb
def ivT (k : List Tx) : IV := .tup (k.map .str)
def kp (k : List Tx) : PyData := (Em.tup Em.str).pd k
def ltK (a b : List Tx) : Bool := dataLt (kp a) (kp b)
def leK (a b : List Tx) : Bool := !ltK b a
def sortK (K : List (List Tx)) : List (List Tx) := sortP leK K
theorem leK_total : TotalLe leK := PySem.W.sortLe_total (listOrd itemOrd) false (fun k : List Tx => keyToks (kp k))
theorem toks_inj : ∀ {a b : List Tx}, keyToksAll (a.map Em.str.pd) = keyToksAll (b.map Em.str.pd) → a = b
  | [], [], _ => rfl
  | [], _ :: _, h => by simp [keyToksAll] at h
  | _ :: _, [], h => by simp [keyToksAll] at h
  | x :: a, y :: b, h => by
    have key : ∀ (x : Tx) (l : List (Int ⊕ List Nat)), keyToks (Em.str.pd x) ++ l = .inr x :: l := fun x l => by
      show keyToks (.str (sS x)) ++ l = _
      simp [keyToks, sS_cps]
    simp only [List.map_cons, keyToksAll, key, List.cons.injEq, Sum.inr.injEq, true_and] at h
    rw [h.1, toks_inj h.2]
theorem leK_anti {a b : List Tx} (h1 : leK a b = true) (h2 : leK b a = true) : a = b := by
  unfold leK ltK dataLt at h1 h2
  rw [Bool.not_eq_true'] at h1 h2
  have := lex_total _ _ h2 h1
  exact toks_inj this
theorem rank_eq {c x : List Tx} : sameRank leK c x = true ↔ x = c := by
  unfold sameRank
  rw [Bool.and_eq_true]
  exact ⟨fun h => leK_anti h.2 h.1, fun h => by subst h; exact ⟨leK_total.refl _, leK_total.refl _⟩⟩
theorem sortK_mem {K : List (List Tx)} {x : List Tx} : x ∈ sortK K ↔ x ∈ K := sortP_mem
theorem sortK_len {K : List (List Tx)} : (sortK K).length = K.length := sortP_len
theorem sortK_sorted {K : List (List Tx)} : (sortK K).Pairwise fun a b => leK a b = true := sortP_sorted leK_total
theorem sortK_nodup {K : List (List Tx)} (h : K.Nodup) : (sortK K).Nodup := by
  have hf : ∀ c, (sortK K).filter (sameRank leK c) = K.filter (sameRank leK c) := fun c => sortP_filter leK_total
  refine List.nodup_iff_count.mpr fun c => ?_
  have h1 := List.nodup_iff_count.mp h c
  have e : ∀ l : List (List Tx), l.count c = (l.filter (sameRank leK c)).length := fun l => by
    rw [List.count_eq_length_filter]
    congr 1
    refine List.filter_congr fun x _ => ?_
    by_cases z : x = c
    · rw [rank_eq.mpr z]; simp [z]
    · rw [Bool.eq_false_iff.mpr fun q => z (rank_eq.mp q)]; simp [z]
  rw [e] at h1 ⊢
  rw [hf]
  exact h1
/-- the same things in order are the same list -/
theorem sorted_same {A B : List (List Tx)} (ha : A.Pairwise fun a b => leK a b = true) (hb : B.Pairwise fun a b => leK a b = true) (na : A.Nodup) (nb : B.Nodup) (hm : ∀ x, x ∈ A ↔ x ∈ B) : A = B :=
  PySem.W.sort_one leK_total A B ha hb fun c => by
    rw [nodup_filter (fun x => rank_eq) na, nodup_filter (fun x => rank_eq) nb]
    by_cases z : c ∈ A
    · rw [if_pos z, if_pos ((hm c).mp z)]
    · rw [if_neg z, if_neg fun q => z ((hm c).mpr q)]
theorem sortP_map {α β : Type} {le : β → β → Bool} {φ : α → β} : ∀ K : List α, sortP le (K.map φ) = (sortP (fun a b => le (φ a) (φ b)) K).map φ := by
  have ins : ∀ (x : α) (l : List α), insP le (φ x) (l.map φ) = (insP (fun a b => le (φ a) (φ b)) x l).map φ := by
    intro x l
    induction l with
    | nil => rfl
    | cons y ys ih =>
      rw [List.map_cons]
      unfold insP
      split
      · simp
      · rw [ih, List.map_cons]
  intro K
  induction K with
  | nil => rfl
  | cons x K ih =>
    rw [List.map_cons]
    unfold sortP
    rw [ih, ins]
theorem sortD_K (K : List (List Tx)) : sortD (K.map ivT) (K.map kp) = (sortK K).map ivT := by
  unfold sortD
  have e : (K.map ivT).zip (K.map kp) = K.map fun k => (ivT k, kp k) := by
    induction K with
    | nil => rfl
    | cons x K ih => simp [ih]
  rw [e, sortP_map]
  unfold sortK
  rw [List.map_map]
  rfl
theorem alike_ts : ∀ a b : List Tx, alikeAll (a.map Em.str.pd) (b.map Em.str.pd) = true
  | [], b => by cases b <;> simp [alikeAll]
  | _ :: _, [] => by simp [alikeAll]
  | x :: a, y :: b => by
    simp only [List.map_cons, alikeAll, alike_ts a b, Bool.and_true]
    show alike (.str (sS x)) (.str (sS y)) = true
    simp [alike]
theorem alike_kp (a b : List Tx) : alike (kp a) (kp b) = true := by
  show alike (.tuple _) (.tuple _) = true
  simp only [alike]
  exact alike_ts a b
theorem kp_depth (a : List Tx) : (kp a).depth ≤ 20 := by
  have := (Em.tup Em.str).depth a
  exact Nat.le_trans this (by decide)
theorem okSort_K (K : List (List Tx)) : okSort (K.map kp) = true := by
  unfold okSort
  simp only [Bool.and_eq_true, List.all_eq_true, Bool.or_eq_true, List.mem_map, decide_eq_true_eq]
  refine ⟨⟨?_, .inl ?_⟩, ?_⟩
  · rintro _ ⟨a, _, rfl⟩ _ ⟨b, _, rfl⟩
    exact alike_kp a b
  · rintro _ ⟨a, _, rfl⟩
    rfl
  · rintro _ ⟨a, _, rfl⟩
    exact kp_depth a
section
variable {h : IH}
theorem dats_K (K : List (List Tx)) : mapO (dat 9 h) (K.map ivT) = some (K.map kp) := Em.map_dat (E := .tup .str) (by decide) K
theorem s_sorted {x : IV} {K : List (List Tx)} (hk : keysI x h = some (K.map ivT)) (hl : K.length ≤ big) : gSorted [x] h = .ok (.fz ((sortK K).map ivT)) h := by
  simp only [gSorted, hk, dats_K]
  rw [if_pos ⟨okSort_K K, by simpa using hl⟩, sortD_K]
theorem s_gt (a b : List Tx) : gGtU (ivT a) (ivT b) h = .ok (.bl (ltK b a)) h := by
  have d : ∀ k, dat 9 h (ivT k) = some (kp k) := fun k => (Em.tup Em.str).dat_ok 9 h k (by decide)
  have n : isNonD (kp a) = false := rfl
  show gCmp _ _ (.tup _) (.tup _) h = _
  unfold gCmp
  have da := d a
  have db := d b
  unfold ivT at da db
  simp only [da, db, alike_kp, n, kp_depth, and_self, if_true]
  rfl
theorem keL_strs : ∀ a b : List Tx, keL (a.map .str) (b.map .str) = decide (a = b)
  | [], [] => rfl
  | [], _ :: _ => by simp [keL]
  | _ :: _, [] => by simp [keL]
  | x :: a, y :: b => by
    simp only [List.map_cons, keL, keL_strs a b, keS]
    by_cases h1 : x = y <;> by_cases h2 : a = b <;> simp [h1, h2]
theorem keI_T (a b : List Tx) : keI (ivT a) (ivT b) = decide (a = b) := keL_strs a b
theorem valI_T {kvs : List (IV × IV)} {k : List Tx} : ∀ {K : List (List Tx)} {kvs : List (IV × IV)}, kvs.map (·.1) = K.map ivT → (valI kvs (ivT k)).isSome = decide (k ∈ K)
  | [], kvs, e => by
    have : kvs = [] := by simpa using e
    subst this
    simp [valI]
  | x :: K, [], e => by simp at e
  | x :: K, kv :: kvs, e => by
    rw [List.map_cons, List.map_cons, List.cons.injEq] at e
    have ih := valI_T (kvs := kvs) (k := k) e.2
    unfold valI at ih ⊢
    rw [List.find?_cons, e.1, keI_T]
    by_cases z : x = k
    · subst z
      simp
    · rw [decide_eq_false z]
      simp only
      rw [ih]
      simp [Ne.symm z]
theorem putD_T {k : List Tx} {v : IV} {K : List (List Tx)} {kvs : List (IV × IV)} (e : kvs.map (·.1) = K.map ivT) : (putD kvs (ivT k) v).map (·.1) = (addK K k).map ivT := by
  unfold putD addK
  rw [valI_T (kvs := kvs) (k := k) e]
  by_cases z : k ∈ K
  · rw [decide_eq_true z, if_pos rfl, if_pos z, List.map_map, ← e]
    refine List.map_congr_left fun kv _ => ?_
    show (if keI kv.1 (ivT k) = true then (kv.1, v) else kv).1 = kv.1
    split <;> rfl
  · rw [decide_eq_false z, if_neg (by simp), if_neg z, List.map_append, List.map_append, e]
    rfl
theorem keyOf_T (k : List Tx) : keyOf true (ivT k) = true := by
  show (k.map IV.str).all isK = true
  induction k with
  | nil => rfl
  | cons x k ih => rw [List.map_cons, List.all_cons, ih]; rfl
theorem pairs_T {v : List Tx → IV} : ∀ ks : List (List Tx), pairs? true (ks.map fun k => .tup [ivT k, v k]) = some (ks.map fun k => (ivT k, v k))
  | [] => rfl
  | k :: ks => by
    simp only [List.map_cons, pairs?, keyOf_T, if_true, pairs_T ks, Option.map_some]
theorem merge_T {v : List Tx → IV} : ∀ {ks K : List (List Tx)} {kvs : List (IV × IV)}, kvs.map (·.1) = K.map ivT → (mergeI kvs (ks.map fun k => (ivT k, v k))).map (·.1) = (ddF K ks).map ivT
  | [], K, kvs, e => e
  | k :: ks, K, kvs, e => by
    show (mergeI (putD kvs (ivT k) (v k)) (ks.map fun k => (ivT k, v k))).map (·.1) = (ddF (addK K k) ks).map ivT
    exact merge_T (putD_T e)
/-- dict(..) of pairs -/
theorem s_dictT {v : List Tx → IV} {ks : List (List Tx)} : ∃ kvs, gDict true [.fz (ks.map fun k => .tup [ivT k, v k])] h = .ok (.ref h.length) (h ++ [.dic true kvs]) ∧ kvs.map (·.1) = (ddF [] ks).map ivT :=
  ⟨mergeI [] (ks.map fun k => (ivT k, v k)), by simp only [gDict, sqI, pairs_T], merge_T (K := []) (kvs := []) rfl⟩
/-- {..: .. for ..} -/
theorem s_dcT {α : Type} {emb : α → IV} {S : Sr} {ys : List α} (k : Src S (ys.map emb)) {key : α → List Tx} {v : α → IV} {i : Nat} {fk fv : ME} (hl : ys.length ≤ 10000)
    {e : IE} (hk : ∀ y ∈ ys, ∀ h', fk (e.set i (some (emb y))) h' = .ok (ivT (key y)) h') (hv : ∀ y ∈ ys, ∀ h', fv (e.set i (some (emb y))) h' = .ok (v y) h') :
    ∃ kvs, dcL true S (gName' i) (mC (.bl true)) fk fv h.length (S.n + 1) 0 e (h ++ [.dic true []]) = .ok (.ref h.length) (h ++ [.dic true kvs]) ∧ kvs.map (·.1) = (ddF [] (ys.map key)).map ivT := by
  have go : ∀ (n m j : Nat) (K : List (List Tx)) (kvs : List (IV × IV)) (e' : IE), j + n = ys.length → n < m → kvs.map (·.1) = K.map ivT → K.length ≤ j → (∀ z, e'.set i z = e.set i z) →
      ∃ kvs', dcL true S (gName' i) (mC (.bl true)) fk fv h.length m j e' (h ++ [.dic true kvs]) = .ok (.ref h.length) (h ++ [.dic true kvs']) ∧ kvs'.map (·.1) = (ddF K ((ys.drop j).map key)).map ivT := by
    intro n
    induction n with
    | zero =>
      intro m j K kvs e' hj hm ek hK he
      have ej : j = (ys.map emb).length := by rw [List.length_map]; omega
      obtain ⟨m', rfl⟩ : ∃ m', m = m' + 1 := ⟨m - 1, by omega⟩
      refine ⟨kvs, ?_, ?_⟩
      · unfold dcL
        rw [ej, k.stop]
      · rw [ej, List.length_map, List.drop_length]
        exact ek
    | succ n ih =>
      intro m j K kvs e' hj hm ek hK he
      obtain ⟨m', rfl⟩ : ∃ m', m = m' + 1 := ⟨m - 1, by omega⟩
      have hlt : j < ys.length := by omega
      have hx : (ys.map emb)[j]? = some (emb ys[j]) := by rw [List.getElem?_map, List.getElem?_eq_getElem hlt]; rfl
      have hm2 : ys[j] ∈ ys := List.getElem_mem hlt
      have hlen : kvs.length = K.length := by have := congrArg List.length ek; simpa using this
      have hsz : kvs.length < sizeLine := Nat.lt_of_le_of_lt (by rw [hlen]; omega : kvs.length ≤ 10000) (by decide)
      obtain ⟨kvs', e1, e2⟩ := ih m' (j + 1) (addK K (key ys[j])) (putD kvs (ivT (key ys[j])) (v ys[j])) (e.set i (some (emb ys[j]))) (by omega) (by omega) (putD_T ek) (by unfold addK; split <;> (try rw [List.length_append, List.length_singleton]) <;> omega) (fun z => by rw [List.set_set])
      refine ⟨kvs', ?_, ?_⟩
      · unfold dcL
        rw [k.it j _ _ hx]
        have hd : (h ++ [IO.dic true kvs])[h.length]? = some (.dic true kvs) := new_at _ _
        simp only [gName', mC, he, hk _ hm2, hv _ hm2, bind_ok, dcPut, hd]
        rw [if_pos ⟨trivial, keyOf_T _, hsz⟩]
        have hset : (h ++ [IO.dic true kvs]).set h.length (.dic true (putD kvs (ivT (key ys[j])) (v ys[j]))) = h ++ [.dic true (putD kvs (ivT (key ys[j])) (v ys[j]))] := by simp
        rw [hset]
        exact e1
      · rw [e2, List.drop_eq_getElem_cons hlt, List.map_cons]
        rfl
  obtain ⟨kvs', e1, e2⟩ := go ys.length (S.n + 1) 0 [] [] e (by omega) (by rw [k.n, List.length_map]; omega) rfl (Nat.le_refl _) (fun _ => rfl)
  exact ⟨kvs', e1, by rw [e2, List.drop_zero]⟩
end
end Lb
end Sh

/-! Sh50: names in order, the next name. -/
namespace Sh
namespace Lb
open PySem PySem.Spec PyProof.Rows L2
variable {cs : List String} {h : IH}
/-- names with their parts -/
abbrev Rw := Tx × List Tx
structure RowsOk (rows : List Rw) : Prop where
  asc : ∀ y ∈ rows, AscT y.1
  pts : ∀ y ∈ rows, partsF y.1 = some y.2
  len : rows.length ≤ 1000
def ordK (rows : List Rw) : List (List Tx) := sortK (ddF [] (rows.map fun y => y.2.reverse))
variable {rows : List Rw}
theorem RowsOk.good (r : RowsOk rows) : ∀ y ∈ rows, GoodPs y.2 := fun y hy => partsF_good (r.pts y hy)
theorem ordK_mem {k : List Tx} : k ∈ ordK rows ↔ ∃ y ∈ rows, y.2.reverse = k := by
  unfold ordK
  rw [sortK_mem, ddF_mem]
  simp
theorem ordK_len : (ordK rows).length ≤ rows.length := by
  unfold ordK
  rw [sortK_len]
  have := ddF_len (ks := rows.map fun y => y.2.reverse) (acc := [])
  simpa using this
theorem ordK_good (r : RowsOk rows) {k : List Tx} (hk : k ∈ ordK rows) : GoodPs k.reverse := by
  obtain ⟨y, hy, rfl⟩ := ordK_mem.mp hk
  rw [List.reverse_reverse]
  exact r.good y hy
theorem join_rev {k : List Tx} (g : GoodPs k.reverse) (e : IE) (i : Nat) (hi : e[i]? = some (some (ivT k))) : m2 gAddF (mBM .str gJoin (mC (.str [46])) (mCons (m1 gRev (mVar i)) (mNil))) (mC (.str [46])) e h = .ok (.str (plainT k.reverse)) h := by
  have e1 := e_join46 (h := h) g.short
  have e2 := e_dot (h := h) g.short
  rw [List.map_reverse] at e1
  unfold ivT at hi
  simp [hi, okT, e1, e2, -gAddF]
theorem s_in_order (r : RowsOk rows) : ∃ o, f_in_order cs [.fz (rows.map fun y => .str y.1)] h = .ok (.tup ((ordK rows).map fun k => .str (plainT k.reverse))) (h ++ [o]) := by
  have hit : mItV (mVar 0) [some (.fz (rows.map fun y => .str y.1)), none, none, none] h = .ok (srT (rows.map fun y => .str y.1)) h := by simp
  obtain ⟨kvs, e1, e2⟩ := s_dcT (h := h) (emb := fun y : Rw => IV.str y.1) (S := srT (rows.map fun y => .str y.1)) (ys := rows) src_T (key := fun y => y.2.reverse) (v := fun _ => .bl true) (i := 2)
    (fk := mOwn 1 (f_key_of cs) (mCons (mVar 2) (mNil))) (fv := mC (.bl true)) (e := [some (.fz (rows.map fun y => .str y.1)), none, none, none]) (by have := r.len; omega)
    (fun y hy h' => by simp [s_key (r.asc y hy) (r.pts y hy), ivT]) (fun y hy h' => by simp)
  refine ⟨.dic true kvs, ?_⟩
  have l1 : (ddF [] (rows.map fun y => y.2.reverse)).length ≤ 1000 := by
    have := ddF_len (ks := rows.map fun y => y.2.reverse) (acc := [])
    have := r.len
    simp at *
    omega
  have hs : mItV (mCall gSorted (mCons (mVar 1) (mNil))) [some (.fz (rows.map fun y => .str y.1)), some (.ref h.length), none, none] (h ++ [.dic true kvs]) = .ok (srT ((ordK rows).map ivT)) (h ++ [.dic true kvs]) := by
    have hk : keysI (.ref h.length) (h ++ [.dic true kvs]) = some ((ddF [] (rows.map fun y => y.2.reverse)).map ivT) := by simp [keysI, e2]
    have := s_sorted hk (Nat.le_trans l1 (by decide))
    simp [this, ordK]
  have hg : mGen (mItV (mCall gSorted (mCons (mVar 1) (mNil)))) [3] (gName' 3) (mC (.bl true)) (m2 gAddF (mBM .str gJoin (mC (.str [46])) (mCons (m1 gRev (mVar 3)) (mNil))) (mC (.str [46]))) cs stL finT [] [some (.fz (rows.map fun y => .str y.1)), some (.ref h.length), none, none] (h ++ [.dic true kvs]) = .ok (.tup ((ordK rows).map fun k => .str (plainT k.reverse))) (h ++ [.dic true kvs]) := by
    have ew : wipeI [some (.fz (rows.map fun y => .str y.1)), some (.ref h.length), none, none] [3] = [some (.fz (rows.map fun y => .str y.1)), some (.ref h.length), none, none] := rfl
    have l2 := @ordK_len rows
    have l3 := r.len
    rw [mGen_l hs src_T, ew, genX_l (emb := ivT) (p := fun _ => true) (q := fun k => .str (plainT k.reverse))]
    · have : (ordK rows).length ≤ big := by show _ ≤ 10000000; omega
      simp [finT, this]
    · show _ ≤ 10000000
      simp
      omega
    · intro y _; simp
    · intro y hy _
      exact join_rev (ordK_good r hy) _ 3 (by simp)
  show (m_in_order cs [some (.fz (rows.map fun y => .str y.1)), none, none, none] h).fin = _
  unfold m_in_order
  have hd : mDc true (mItV (mVar 0)) [2] (gName' 2) (mC (.bl true)) (mOwn 1 (f_key_of cs) (mCons (mVar 2) (mNil))) (mC (.bl true)) [some (.fz (rows.map fun y => .str y.1)), none, none, none] h = .ok (.ref h.length) (h ++ [.dic true kvs]) := by
    have ew : wipeI [some (.fz (rows.map fun y => .str y.1)), none, none, none] [2] = [some (.fz (rows.map fun y => .str y.1)), none, none, none] := rfl
    simp only [mDc, hit, ew]
    exact e1
  rw [run_seq (run_asg hd), List.set_cons_succ, List.set_cons_zero, run_ret hg]
  rfl
/-- the order's keys, the later first -/
def nextK (rows : List Rw) (me : List Tx) : List (List Tx) := (ordK rows).filter (fun k => ltK me.reverse k) ++ ordK rows
theorem s_next {nm : Tx} {me k0 : List Tx} {rest : List (List Tx)} (r : RowsOk rows) (ha : AscT nm) (hp : partsF nm = some me) (hne : nextK rows me = k0 :: rest) : ∃ o, f_next_name cs [.fz (rows.map fun y => .str y.1), .str nm] h = .ok (.str (plainT k0.reverse)) (h ++ [o]) := by
  obtain ⟨o, e1⟩ := s_in_order (cs := cs) (h := h) r
  refine ⟨o, ?_⟩
  have l2 := @ordK_len rows
  have l3 := r.len
  have hon : ordK rows ≠ [] := fun z => by unfold nextK at hne; rw [z] at hne; simp at hne
  have oks : ∀ x ∈ (ordK rows).map fun k => plainT k.reverse, Em.OkS x := fun x hx => by
    obtain ⟨k, hk, rfl⟩ := List.mem_map.mp hx
    exact fun c hc => by have := (ordK_good r hk).asc.2 c hc; omega
  have g1 := gEq_ts (h := h ++ [o]) (a := (ordK rows).map fun k => plainT k.reverse) (b := []) oks (by simp)
  have gn : ¬ (((ordK rows).map fun k => plainT k.reverse) = []) := by simpa using hon
  rw [decide_eq_false gn, List.map_map] at g1
  have gf : (fun k : List Tx => IV.str (plainT k.reverse)) = IV.str ∘ fun k => plainT k.reverse := rfl
  let L : IE := [some (.fz (rows.map fun y => .str y.1)), some (.str nm), some (.tup ((ordK rows).map fun k => .str (plainT k.reverse))), none, none]
  have hl : mLcF (mItV (mVar 2)) [4] (gName' 4) (m2 gGtU (mOwn 1 (f_key_of cs) (mCons (mVar 4) (mNil))) (mOwn 1 (f_key_of cs) (mCons (mVar 1) (mNil)))) (mVar 4) L (h ++ [o]) = .ok (.fz (((ordK rows).filter fun k => ltK me.reverse k).map fun k => .str (plainT k.reverse))) (h ++ [o]) := by
    have hs : mItV (mVar 2) L (h ++ [o]) = .ok (srT ((ordK rows).map fun k => .str (plainT k.reverse))) (h ++ [o]) := by simp [L]
    have ew : wipeI L [4] = L := rfl
    rw [mLcF_l hs src_T, ew, lcX_name (emb := fun k : List Tx => IV.str (plainT k.reverse)) (p := fun k => ltK me.reverse k) (q := fun k => .str (plainT k.reverse))]
    · simp
    · show _ ≤ 10000000
      simp
      omega
    · intro k hk
      have gk := ordK_good r hk
      have ek := s_key (cs := cs) (h := h ++ [o]) gk.asc gk.plain
      have em := s_key (cs := cs) (h := h ++ [o]) ha hp
      rw [List.reverse_reverse] at ek
      have := s_gt (h := h ++ [o]) k me.reverse
      unfold ivT at this
      simp [L, ek, em, -gGtU]
      rw [← List.map_reverse]
      exact this
    · intro k hk _
      simp [L]
  have hlen : (((ordK rows).filter fun k => ltK me.reverse k).map fun k => IV.str (plainT k.reverse)).length + ((ordK rows).map fun k => IV.str (plainT k.reverse)).length ≤ big := by
    show _ ≤ 10000000
    have := List.length_filter_le (fun k => ltK me.reverse k) (ordK rows)
    simp
    omega
  have happ : (((ordK rows).filter fun k => ltK me.reverse k).map fun k => IV.str (plainT k.reverse)) ++ ((ordK rows).map fun k => IV.str (plainT k.reverse)) = .str (plainT k0.reverse) :: rest.map fun k => IV.str (plainT k.reverse) := by
    rw [← List.map_append]
    show (nextK rows me).map _ = _
    rw [hne]
    rfl
  show (m_next_name cs [some (.fz (rows.map fun y => .str y.1)), some (.str nm), none, none, none] h).fin = _
  unfold m_next_name
  have a1 : sAsg (mOwn 1 (f_in_order cs) (mCons (mVar 0) (mNil))) (gName' 2) [some (.fz (rows.map fun y => .str y.1)), some (.str nm), none, none, none] h = .nx L (h ++ [o]) := by simp [e1, L]
  rw [run_seq a1]
  have a2 : (m2 gEq (mVar 2) (mTup (mNil))) L (h ++ [o]) = .ok (.bl false) (h ++ [o]) := by
    rw [gf] at *
    simp [L, big]
    exact g1
  rw [run_seq (run_chk a2), run_seq (run_asg hl)]
  have a3 : m2 gGet (m2 gAddF (mVar 3) (mCall gListF (mCons (mVar 2) (mNil)))) (mC (.int 0)) (L.set 3 (some (.fz (((ordK rows).filter fun k => ltK me.reverse k).map fun k => .str (plainT k.reverse))))) (h ++ [o]) = .ok (.str (plainT k0.reverse)) (h ++ [o]) := by
    simp only [L, List.set_cons_succ, List.set_cons_zero, m2, mVar, mCall, mCons, mNil, mC, List.getElem?_cons_succ, List.getElem?_cons_zero, bind_ok, gListF_tup, gAddF, sqI, if_pos hlen, happ, gGet_fz, gIx, atI_0]
  rw [run_ret a3]
  rfl
end Lb
end Sh

/-! Sh51: what follows of the order; the shared top. -/
namespace Sh
namespace Lb
open PySem PySem.Spec PyProof.Rows L2
variable {cs : List String} {h : IH} {rows : List Rw}
theorem plainT_inj {ps qs : List Tx} (a : GoodPs ps) (b : GoodPs qs) (e : plainT ps = plainT qs) : ps = qs := by
  have h1 := a.plain
  rw [e, b.plain] at h1
  exact (Option.some.inj h1).symm
theorem ordK_nodup : (ordK rows).Nodup := sortK_nodup (ddF_nodup (by simp))
/-- the order of the others is the order of all, less one that is not there -/
theorem ordK_rest {y0 : Rw} : ordK rows = (ordK (y0 :: rows)).filter fun k => decide (k ≠ y0.2.reverse) || decide (y0.2 ∈ rows.map (·.2)) := by
  refine sorted_same sortK_sorted (sortK_sorted.filter _) ordK_nodup (ordK_nodup.filter _) fun k => ?_
  rw [List.mem_filter, ordK_mem, ordK_mem]
  simp only [Bool.or_eq_true, decide_eq_true_eq, List.mem_map, List.mem_cons]
  constructor
  · rintro ⟨y, hy, rfl⟩
    refine ⟨⟨y, .inr hy, rfl⟩, ?_⟩
    by_cases z : y.2.reverse = y0.2.reverse
    · exact .inr ⟨y, hy, List.reverse_inj.mp z⟩
    · exact .inl z
  · rintro ⟨⟨y, hy | hy, rfl⟩, z⟩
    · subst hy
      rcases z with z | ⟨x, hx, z⟩
      · exact absurd rfl z
      · exact ⟨x, hx, by rw [z]⟩
    · exact ⟨y, hy, rfl⟩
theorem nextK_rest {y0 : Rw} : nextK rows y0.2 = (((ordK (y0 :: rows)).filter fun k => ltK y0.2.reverse k) ++ ordK (y0 :: rows)).filter fun k => decide (k ≠ y0.2.reverse) || decide (y0.2 ∈ rows.map (·.2)) := by
  unfold nextK
  rw [List.filter_append, ordK_rest (y0 := y0), List.filter_filter, List.filter_filter]
  congr 1
  refine List.filter_congr fun k _ => ?_
  rw [Bool.and_comm]
theorem nextK_ne {me : List Tx} (hr : rows ≠ []) : ∃ k r, nextK rows me = k :: r := by
  have : nextK rows me ≠ [] := by
    unfold nextK
    intro z
    have z2 := (List.append_eq_nil_iff.mp z).2
    cases rows with
    | nil => exact hr rfl
    | cons y r =>
      have := (ordK_mem (rows := y :: r) (k := y.2.reverse)).mpr ⟨y, by simp, rfl⟩
      rw [z2] at this
      cases this
  exact List.exists_cons_of_ne_nil this
/-! the shared top -/
def agr (rows : List Rw) (me : List Tx) (s : Nat) : Bool := rows.all fun y => decide (s < y.2.length) && decide (y.2.reverse[s]? = me.reverse[s]?)
theorem first_no {a : Nat → Bool} : ∀ N, a N = false → ∃ S, S ≤ N ∧ (∀ j, j < S → a j = true) ∧ a S = false
  | 0, h => ⟨0, Nat.le_refl _, fun j hj => absurd hj (Nat.not_lt_zero _), h⟩
  | N + 1, h => by
    by_cases z : ∃ j, j ≤ N ∧ a j = false
    · obtain ⟨j, hj, z⟩ := z
      obtain ⟨S, h1, h2, h3⟩ := first_no j z
      exact ⟨S, by omega, h2, h3⟩
    · refine ⟨N + 1, Nat.le_refl _, fun j hj => ?_, h⟩
      by_cases q : a j = true
      · exact q
      · exact absurd ⟨j, by omega, Bool.eq_false_iff.mpr q⟩ z
theorem take_agr {a b : List Tx} : ∀ {S : Nat}, S ≤ a.length → S ≤ b.length → ((∀ j, j < S → a[j]? = b[j]?) ↔ a.take S = b.take S)
  | 0, _, _ => by simp
  | S + 1, ha, hb => by
    have ih := take_agr (a := a) (b := b) (S := S) (by omega) (by omega)
    rw [List.take_add_one, List.take_add_one]
    have e1 : a[S]? = some a[S] := List.getElem?_eq_getElem (by omega)
    have e2 : b[S]? = some b[S] := List.getElem?_eq_getElem (by omega)
    constructor
    · intro z
      rw [ih.mp fun j hj => z j (by omega), z S (by omega)]
    · intro z j hj
      have hl : (a.take S).length = (b.take S).length := by simp; omega
      obtain ⟨z1, z2⟩ := List.append_inj z hl
      by_cases q : j = S
      · subst q
        rw [e1, e2] at z2
        rw [e1, e2]
        simpa using z2
      · exact ih.mpr z1 j (by omega)
abbrev c_same (cs : List String) : ME := mGen (mItV (mVar 1)) [4] (gName' 4) (mC (.bl true)) (mAnd (m2 gGtU (mCall gLenU (mCons (mVar 4) (mNil))) (mVar 2)) (m2 gEq (m2 gGet (mVar 4) (mVar 2)) (m2 gGet (m2 gGet (mVar 1) (mC (.int 0))) (mVar 2)))) cs (stB false) (finB false) ()
theorem atI_nat {α : Type} {xs : List α} {k : Nat} : atI xs ((k : Nat) : Int) = xs[k]? := by
  unfold atI ixN
  rw [if_pos (by omega)]
  by_cases h : k < xs.length
  · rw [if_pos (by exact_mod_cast h)]
    simp
  · rw [if_neg (by exact_mod_cast h), List.getElem?_eq_none (by omega)]
    rfl
theorem same_cond (y0 : Rw) (a c : Option IV) (s : Nat) : c_same cs [a, some (.fz ((y0 :: rows).map fun y => ivT y.2.reverse)), some (.int (s : Nat)), c, none] h = .ok (.bl (agr (y0 :: rows) y0.2 s)) h := by
  have hs : mItV (mVar 1) [a, some (.fz ((y0 :: rows).map fun y => ivT y.2.reverse)), some (.int (s : Nat)), c, none] h = .ok (srT ((y0 :: rows).map fun y => ivT y.2.reverse)) h := by simp
  have ew : wipeI [a, some (.fz ((y0 :: rows).map fun y => ivT y.2.reverse)), some (.int (s : Nat)), c, none] [4] = [a, some (.fz ((y0 :: rows).map fun y => ivT y.2.reverse)), some (.int (s : Nat)), c, none] := rfl
  unfold c_same
  rw [mGen_l hs src_T, ew]
  have ev : ∀ y : Rw, (s < y.2.length → s < y0.2.length) → mAnd (m2 gGtU (mCall gLenU (mCons (mVar 4) (mNil))) (mVar 2)) (m2 gEq (m2 gGet (mVar 4) (mVar 2)) (m2 gGet (m2 gGet (mVar 1) (mC (.int 0))) (mVar 2))) ([a, some (.fz ((y0 :: rows).map fun y => ivT y.2.reverse)), some (.int (s : Nat)), c, none].set 4 (some (ivT y.2.reverse))) h = .ok (.bl (decide (s < y.2.length) && decide (y.2.reverse[s]? = y0.2.reverse[s]?))) h := by
    intro y hy
    by_cases z : s < y.2.length
    · have z0 := hy z
      have c1 : ((s : Nat) : Int) < (y.2.length : Nat) := by exact_mod_cast z
      have e1 : y.2.reverse[s]? = some (y.2.reverse[s]'(by simpa using z)) := List.getElem?_eq_getElem _
      have e0 : y0.2.reverse[s]? = some (y0.2.reverse[s]'(by simpa using z0)) := List.getElem?_eq_getElem _
      have m1 : ((y.2.map IV.str).reverse)[s]? = (y.2.reverse[s]?).map .str := by rw [← List.map_reverse, List.getElem?_map]
      have m0 : ((y0.2.map IV.str).reverse)[s]? = (y0.2.reverse[s]?).map .str := by rw [← List.map_reverse, List.getElem?_map]
      rw [e1] at m1
      rw [e0] at m0
      rw [e1, e0]
      simp [ivT, c1, z, atI_h, atI_nat, m1, m0]
    · have c1 : ¬ ((s : Nat) : Int) < (y.2.length : Nat) := by exact_mod_cast z
      simp [ivT, c1, z]
  by_cases z : s < y0.2.length
  · rw [genX_b (emb := fun y : Rw => ivT y.2.reverse) (p := fun _ => true) (r := fun y => decide (s < y.2.length) && decide (y.2.reverse[s]? = y0.2.reverse[s]?))]
    · simp [agr]
    · intro y _; simp
    · intro y _ _; exact ev y fun _ => z
  · have e0 := ev y0 id
    rw [List.map_cons]
    simp only [genX, gName', mC]
    rw [List.map_cons] at e0
    rw [e0]
    have d : decide (s < y0.2.length) = false := decide_eq_false z
    simp [d, agr]
theorem same_loop (y0 : Rw) (a c : Option IV) (S : Nat) (hS : ∀ j, j < S → agr (y0 :: rows) y0.2 j = true) (hN : agr (y0 :: rows) y0.2 S = false) : ∀ k s n, s + k = S → k < n →
    whileL (c_same cs) (sAug 2 gIadd (mC (.int 1))) n [a, some (.fz ((y0 :: rows).map fun y => ivT y.2.reverse)), some (.int (s : Nat)), c, none] h = .nx [a, some (.fz ((y0 :: rows).map fun y => ivT y.2.reverse)), some (.int (S : Nat)), c, none] h
  | 0, s, n + 1, hs, _ => by
    have : s = S := by omega
    subst this
    unfold whileL
    rw [same_cond, hN]
    rfl
  | k + 1, s, n + 1, hs, hn => by
    unfold whileL
    rw [same_cond, hS s (by omega)]
    have ih := same_loop y0 a c S hS hN k (s + 1) n (by omega) (by omega)
    have hb : sAug 2 gIadd (mC (.int 1)) [a, some (.fz ((y0 :: rows).map fun y => ivT y.2.reverse)), some (.int (s : Nat)), c, none] h = .nx [a, some (.fz ((y0 :: rows).map fun y => ivT y.2.reverse)), some (.int ((s + 1 : Nat) : Int)), c, none] h := by
      simp [sAug]
    simp only [st_ok, hb, turn_nx]
    exact ih
theorem s_shared {y0 : Rw} (r : RowsOk (y0 :: rows)) : ∃ S, S ≤ y0.2.length ∧ (∀ j, j < S → agr (y0 :: rows) y0.2 j = true) ∧ agr (y0 :: rows) y0.2 S = false ∧
    f_shared_top cs [.fz ((y0 :: rows).map fun y => .str y.1)] h = .ok (.str (plainT (y0.2.drop (y0.2.length - S)))) h := by
  have hN : agr (y0 :: rows) y0.2 y0.2.length = false := by simp [agr]
  obtain ⟨S, h1, h2, h3⟩ := first_no y0.2.length hN
  refine ⟨S, h1, h2, h3, ?_⟩
  have g0 := r.good y0 (by simp)
  have hl0 : S < 300 := by have := g0.len; omega
  let A : IV := .fz ((y0 :: rows).map fun y => .str y.1)
  let R : IV := .fz ((y0 :: rows).map fun y => ivT y.2.reverse)
  have l1 : mLcF (mItV (mVar 0)) [3] (gName' 3) (mC (.bl true)) (mOwn 1 (f_key_of cs) (mCons (mVar 3) (mNil))) [some A, none, none, none, none] h = .ok R h := by
    have hs : mItV (mVar 0) [some A, none, none, none, none] h = .ok (srT ((y0 :: rows).map fun y => .str y.1)) h := by simp [A]
    have ew : wipeI [some A, none, none, none, none] [3] = [some A, none, none, none, none] := rfl
    rw [mLcF_l hs src_T, ew, lcX_name (emb := fun y : Rw => IV.str y.1) (p := fun _ => true) (q := fun y => ivT y.2.reverse)]
    · rw [filterT]; rfl
    · have := r.len
      show _ ≤ 10000000
      simp at *
      omega
    · intro y _; simp
    · intro y hy _
      simp [s_key (r.asc y hy) (r.pts y hy), ivT]
  have neq : gEq R (.fz []) h = .ok (.bl false) h := by
    have := Em.eq_ (E := .lst (.tup .str)) (a := (y0 :: rows).map fun y => y.2.reverse) (b := []) (h := h) (by decide) (fun x hx => by
      obtain ⟨y, hy, rfl⟩ := List.mem_map.mp hx
      exact fun p hp => (r.good y hy).oks p (by simpa using hp)) (by simp [Em.lst]) rfl
    have e : (Em.lst (.tup .str)).iv ((y0 :: rows).map fun y => y.2.reverse) = R := by
      show IV.fz _ = IV.fz _
      rw [List.map_map]
      rfl
    rw [e] at this
    exact this
  have drp : (y0.2.reverse.take S).reverse = y0.2.drop (y0.2.length - S) := by rw [List.take_reverse, List.reverse_reverse]
  have gs := g0.short.drop (k := y0.2.length - S)
  have e1 := e_join46 (h := h) gs
  have e2 := e_dot (h := h) gs
  show (m_shared_top cs [some A, none, none, none, none] h).fin = _
  unfold m_shared_top
  rw [run_seq (run_asg l1), List.set_cons_succ, List.set_cons_zero]
  have k2 : (m2 gEq (mVar 1) (mLstF (mNil))) [some A, some R, none, none, none] h = .ok (.bl false) h := by
    simp [big]
    exact neq
  rw [run_seq (run_chk k2)]
  have k3 : sAsg (mC (.int 0)) (gName' 2) [some A, some R, none, none, none] h = .nx [some A, some R, some (.int ((0 : Nat) : Int)), none, none] h := by simp
  rw [run_seq k3]
  have lp := same_loop (cs := cs) (h := h) y0 (some A) none S h2 h3 S 0 300 (by omega) hl0
  have k4 : sWhile (fun _ _ => 300) (c_same cs) (sAug 2 gIadd (mC (.int 1))) [some A, some R, some (.int ((0 : Nat) : Int)), none, none] h = .nx [some A, some R, some (.int (S : Nat)), none, none] h := lp
  rw [run_seq k4]
  have k5 : m2 gAddF (mBM .str gJoin (mC (.str [46])) (mCons (m1 gRev (mSlF (m2 gGet (mVar 1) (mC (.int 0))) (mNoPart) (mPart (mVar 2)))) (mNil))) (mC (.str [46])) [some A, some R, some (.int (S : Nat)), none, none] h = .ok (.str (plainT (y0.2.drop (y0.2.length - S)))) h := by
    have c0 : (0 : Int) ≤ (S : Nat) := by omega
    rw [← drp] at e1 e2 ⊢
    simp only [List.map_reverse, List.map_take] at e1
    simp [R, atI_0, ivT, cut_to c0, okT, e1, e2, -gAddF]
  rw [run_ret k5]
  rfl
end Lb
end Sh

/-! Sh52: the last sign of a kind; counts; texts told wide. -/
namespace Sh
open PySem PySem.Spec PyProof.Rows L2
theorem rpar_hit {c : Nat} {p t : List Nat} (h : c ∉ t) : rpar (p ++ c :: t) [c] = (p, [c], t) := by
  have key := StrLaws.last_spec (sS (p ++ c :: t)) (sS [c])
  have one : ∀ i, StrLaws.At (sS (p ++ c :: t)) (sS [c]) (sS (p ++ c :: t)).length i ↔ (p ++ c :: t)[i]? = some c := fun i => by
    have := StrLaws.subAt_one (sS (p ++ c :: t)) c i
    rw [sS_cps] at this
    exact this
  have hp : (p ++ c :: t)[p.length]? = some c := by simp
  have hno : ∀ k, p.length < k → (p ++ c :: t)[k]? ≠ some c := fun k hk e => by
    rw [List.getElem?_append_right (by omega)] at e
    obtain ⟨m, hm⟩ : ∃ m, k - p.length = m + 1 := ⟨k - p.length - 1, by omega⟩
    rw [hm, List.getElem?_cons_succ] at e
    exact h (List.mem_of_getElem? e)
  unfold rpar
  have hl : (sS (p ++ c :: t)).length = (p ++ c :: t).length := sS_len _
  rw [hl] at key
  rcases key with ⟨e, no⟩ | ⟨i, e, at_, no⟩
  · exact absurd ((one p.length).mpr hp) (by rw [hl]; exact no p.length)
  · rw [e]
    have hi : (p ++ c :: t)[i]? = some c := (one i).mp (by rw [hl]; exact at_)
    have : i = p.length := by
      rcases Nat.lt_trichotomy i p.length with q | q | q
      · exact absurd ((one p.length).mpr hp) (by rw [hl]; exact no _ q)
      · exact q
      · exact absurd hi (hno i q)
    subst this
    simp
theorem rpar_miss {c : Nat} {a : List Nat} (h : c ∉ a) : rpar a [c] = ([], [], a) := by
  have key := StrLaws.last_spec (sS a) (sS [c])
  have one : ∀ i, StrLaws.At (sS a) (sS [c]) (sS a).length i ↔ a[i]? = some c := fun i => by
    have := StrLaws.subAt_one (sS a) c i
    rw [sS_cps] at this
    exact this
  unfold rpar
  have hl : (sS a).length = a.length := sS_len _
  rw [hl] at key one
  rcases key with ⟨e, no⟩ | ⟨i, e, at_, no⟩
  · rw [e]
  · exact absurd (List.mem_of_getElem? ((one i).mp at_)) h
theorem rpar_sub {c : Nat} {a : List Nat} : (∀ x ∈ (rpar a [c]).1, x ∈ a) ∧ (∀ x ∈ (rpar a [c]).2.2, x ∈ a) ∧ (rpar a [c]).2.2.length ≤ a.length := by
  by_cases h : c ∈ a
  · obtain ⟨u, v, rfl⟩ := List.append_of_mem h
    -- the last one
    have : ∃ p t, u ++ c :: v = p ++ c :: t ∧ c ∉ t := by
      clear h
      induction v generalizing u with
      | nil => exact ⟨u, [], rfl, by simp⟩
      | cons y v ih =>
        by_cases hy : c ∈ y :: v
        · obtain ⟨u', v', e⟩ := List.append_of_mem hy
          by_cases hc : y = c
          · subst hc
            obtain ⟨p, t, e1, e2⟩ := ih (u ++ [y])
            exact ⟨p, t, by rw [← e1]; simp, e2⟩
          · have hv : c ∈ v := by
              rcases List.mem_cons.mp hy with z | z
              · exact absurd z.symm hc
              · exact z
            -- the tail holds it: go on from there
            have : ∀ (w : List Nat), c ∈ w → ∃ p t, w = p ++ c :: t ∧ c ∉ t := by
              intro w
              induction w with
              | nil => intro z; cases z
              | cons x w ihw =>
                intro z
                by_cases hx : c ∈ w
                · obtain ⟨p, t, e1, e2⟩ := ihw hx
                  exact ⟨x :: p, t, by rw [e1]; rfl, e2⟩
                · rcases List.mem_cons.mp z with z | z
                  · subst z; exact ⟨[], w, rfl, hx⟩
                  · exact absurd z hx
            obtain ⟨p, t, e1, e2⟩ := this v hv
            exact ⟨u ++ c :: y :: p, t, by rw [e1]; simp, e2⟩
        · exact ⟨u, y :: v, rfl, hy⟩
    obtain ⟨p, t, e, ht⟩ := this
    rw [e, rpar_hit ht]
    refine ⟨fun x hx => by simp [hx], fun x hx => by simp [hx], by simp; omega⟩
  · rw [rpar_miss h]
    exact ⟨fun x hx => by simp at hx, fun x hx => hx, Nat.le_refl _⟩
theorem log2_small {n : Nat} (h : n ≤ 1000000000) : n.log2 < 1920 := by
  by_cases z : n = 0
  · subst z; decide
  · have : n.log2 < 30 := (Nat.log2_lt z).mpr (Nat.lt_of_le_of_lt h (by decide))
    omega
theorem strI_nat (n : Nat) : strI (n : Int) = TL.numL n := by simp [strI]
theorem gStrC_nat {n : Nat} {h : IH} (hn : n ≤ 1000000000) : gStrC [.int (n : Int)] h = .ok (.str (TL.numL n)) h := by
  rw [gStrC_int, if_pos ⟨by omega, by simpa using log2_small hn⟩, strI_nat]
theorem mFmt_nat {n : Nat} {f : ME} {e : IE} {h h1 : IH} (hf : f e h = .ok (.int (n : Int)) h1) (hn : n ≤ 1000000000) : mFmt f e h = .ok (.str (TL.numL n)) h1 := by
  simp only [mFmt, hf, bind_ok]
  rw [if_pos ⟨by omega, by simpa using log2_small hn⟩, strI_nat]
namespace Lb
variable {cs : List String} {h : IH}
def cnt (w : Tx) : Bool := decide (1 ≤ w.length ∧ w.length ≤ 4) && w.all fun c => decide (c ∈ DIG)
theorem dig_iff {c : Nat} : c ∈ DIG ↔ 48 ≤ c ∧ c ≤ 57 := by
  constructor
  · revert c; decide
  · intro z
    have : c = 48 ∨ c = 49 ∨ c = 50 ∨ c = 51 ∨ c = 52 ∨ c = 53 ∨ c = 54 ∨ c = 55 ∨ c = 56 ∨ c = 57 := by omega
    rcases this with rfl | rfl | rfl | rfl | rfl | rfl | rfl | rfl | rfl | rfl <;> decide
theorem s_count (w : Tx) (hw : w.length ≤ big) : f_is_count cs [.str w] h = .ok (.bl (cnt w)) h := by
  have hg : mGen (mItV (mVar 0)) [1] (gName' 1) (mC (.bl true)) (m2 (gInU false) (mVar 1) (mC (.str DIG))) cs (stB false) (finB false) () [some (.str w), none] h = .ok (.bl (w.all fun c => decide (c ∈ DIG))) h := by
    have hs : mItV (mVar 0) [some (.str w), none] h = .ok (srS w) h := by simp
    have ew : wipeI [some (.str w), none] [1] = [some (.str w), none] := rfl
    rw [mGen_l hs src_S, ew, genX_b (emb := fun c => .str [c]) (p := fun _ => true) (r := fun c => decide (c ∈ DIG))]
    · simp
    · intro y _; simp
    · intro y _ _; simp
  simp only [f_is_count, fnM_eq, m_is_count]
  generalize mGen (mItV (mVar 0)) [1] (gName' 1) _ _ cs _ _ _ = F at hg
  unfold cnt
  by_cases c1 : 1 ≤ w.length
  · have d1 : (1 : Int) ≤ (w.length : Nat) := by exact_mod_cast c1
    by_cases c2 : w.length ≤ 4
    · have d2 : ((w.length : Nat) : Int) ≤ 4 := by exact_mod_cast c2
      rw [decide_eq_true (show 1 ≤ w.length ∧ w.length ≤ 4 from ⟨c1, c2⟩)]
      simp [hw, d1, d2, hg]
    · have d2 : ¬ ((w.length : Nat) : Int) ≤ 4 := by exact_mod_cast c2
      rw [decide_eq_false (show ¬ (1 ≤ w.length ∧ w.length ≤ 4) from fun z => c2 z.2)]
      simp [hw, d1, d2]
  · have d1 : ¬ (1 : Int) ≤ (w.length : Nat) := by exact_mod_cast c1
    rw [decide_eq_false (show ¬ (1 ≤ w.length ∧ w.length ≤ 4) from fun z => c1 z.1)]
    simp [hw, d1]
/-- what the digits come to -/
def val (w : Tx) : Nat := NumText.digitsVal w
theorem s_intw {w : Tx} (hc : cnt w = true) : gIntU [.str w] h = .ok (.int (val w : Nat)) h := by
  unfold cnt at hc
  rw [Bool.and_eq_true, decide_eq_true_eq] at hc
  have hd : w.all (fun c => decide (48 ≤ c) && decide (c ≤ 57)) = true := List.all_eq_true.mpr fun c hcm => by
    have := List.all_eq_true.mp hc.2 c hcm
    rw [decide_eq_true_eq] at this
    have := dig_iff.mp this
    simp [this]
  have hne : w ≠ [] := fun z => by subst z; simp at hc
  have hi := SX.int_S hd hne (by omega)
  rw [S_sS] at hi
  simp only [gIntU, hi]
  rw [if_pos (by omega)]
  rfl
theorem cnt_num {n : Nat} (hn : n < 10000) : cnt (TL.numL n) = true := by
  unfold cnt
  rw [Bool.and_eq_true, decide_eq_true_eq]
  have h1 := TL.numL_len (n := n) (k := 4) (by decide) (by omega)
  have h2 := List.length_pos_iff.mpr (TL.numL_ne n)
  refine ⟨⟨by omega, h1⟩, List.all_eq_true.mpr fun c hc => decide_eq_true (dig_iff.mpr (TL.numL_digits n c hc))⟩
theorem val_num (n : Nat) : val (TL.numL n) = n := TL.numL_val n
/-! told wide -/
def okW (t : Tx) : Bool := decide (t ≠ []) && t.all fun c => decide (c ∈ SIGNS) || decide (c ∈ MORE)
def oddW (n : Nat) : Tx → List (Nat × Nat)
  | [] => []
  | c :: t => if c ∈ MORE then (n, MORE.idxOf c) :: oddW (n + 1) t else oddW (n + 1) t
def pxk (q : Nat × Nat) : Tx := TL.numL q.1 ++ (120 :: TL.numL q.2)
def plainW (t : Tx) : Tx := t.filter fun c => decide (c ∈ SIGNS)
def wideT (t : Tx) : Tx := if oddW 1 t = [] then t else [120, 110, 45] ++ plainW t ++ [45] ++ TL.joinL [95] ((oddW 1 t).map pxk)
theorem idx_more : ∀ c ∈ MORE, Txt.index0 (sS MORE) (sS [c]) = some (MORE.idxOf c) ∧ MORE.idxOf c < 9 := by decide +kernel
theorem more_signs : ∀ c ∈ MORE, c ∉ SIGNS := by decide
theorem oddW_lt : ∀ {t : Tx} {n : Nat}, ∀ q ∈ oddW n t, q.1 < n + t.length ∧ q.2 < 9
  | [], n, q, hq => by cases hq
  | c :: t, n, q, hq => by
    unfold oddW at hq
    split at hq
    · rename_i hc
      rcases List.mem_cons.mp hq with rfl | hq
      · exact ⟨by simp, (idx_more c hc).2⟩
      · have := oddW_lt q hq
        simp only [List.length_cons]
        omega
    · have := oddW_lt q hq
      simp only [List.length_cons]
      omega
theorem oddW_len : ∀ {t : Tx} {n : Nat}, (oddW n t).length ≤ t.length
  | [], n => by simp [oddW]
  | c :: t, n => by
    unfold oddW
    split
    · have := @oddW_len t (n + 1); simp; omega
    · have := @oddW_len t (n + 1); simp; omega
/-- what enumerate walks of a text -/
theorem odd_loop {f : ME} {i j : Nat} : ∀ (t : Tx) (n : Nat) (e : IE) (acc : List IV), acc.length + t.length ≤ big →
    (∀ c ∈ MORE, ∀ m : Nat, f ((e.set i (some (.int (m : Nat)))).set j (some (.str [c]))) h = .ok (.tup [.int ((m : Nat) + 1), .int (MORE.idxOf c : Nat)]) h) →
    (hj : j < e.length) →
    lcX (gSeq' 2 (gsCons (gName' i) (gsCons (gName' j) gsNil))) (m2 (gInU false) (mVar j) (mC (.str MORE))) f (enumI n (t.map fun c => .str [c])) e acc h = .ok (.fz (acc ++ (oddW (n + 1) t).map fun q => .tup [.int (q.1 : Nat), .int (q.2 : Nat)])) h
  | [], n, e, acc, _, _, _ => by simp [lcX, enumI, oddW]
  | c :: t, n, e, acc, hl, hf, hj => by
    have es : ∀ a b : IV, ((((e.set i (some (.int (n : Nat)))).set j (some (.str [c]))).set i (some a)).set j (some b)) = (e.set i (some a)).set j (some b) := fun a b => by
      refine List.ext_getElem? fun n => ?_
      simp only [List.getElem?_set, List.length_set]
      by_cases h1 : j = n <;> by_cases h2 : i = n <;> simp [h1, h2]
    have ih := fun acc hl => odd_loop (f := f) (i := i) (j := j) t (n + 1) ((e.set i (some (.int (n : Nat)))).set j (some (.str [c]))) acc hl (fun c' hc' m => by rw [es]; exact hf c' hc' m) (by simpa using hj)
    have hv : ((e.set i (some (.int (n : Nat)))).set j (some (.str [c])))[j]? = some (some (.str [c])) := by simp [hj]
    rw [List.map_cons]
    simp only [enumI, lcX, gSeq_tup, List.length_cons, List.length_nil, if_true, gsCons_eq, gName', thn_nx, gsNil]
    have ht : m2 (gInU false) (mVar j) (mC (.str MORE)) ((e.set i (some (.int (n : Nat)))).set j (some (.str [c]))) h = .ok (.bl (decide (c ∈ MORE))) h := by simp [hv]
    rw [ht]
    rw [List.length_cons] at hl
    by_cases hc : c ∈ MORE
    · rw [decide_eq_true hc]
      simp only
      rw [hf c hc n, bind_ok, if_pos (Nat.lt_of_lt_of_le (by omega : acc.length < big) (by decide)), ih _ (by simp; omega)]
      have : oddW (n + 1) (c :: t) = (n + 1, MORE.idxOf c) :: oddW (n + 1 + 1) t := by rw [oddW, if_pos hc]
      rw [this]
      simp
    · rw [decide_eq_false hc]
      simp only
      rw [ih _ (by omega)]
      have : oddW (n + 1) (c :: t) = oddW (n + 1 + 1) t := by rw [oddW, if_neg hc]
      rw [this]
end Lb
end Sh

/-! Sh53: texts told wide. -/
namespace Sh
namespace Lb
open PySem PySem.Spec PyProof.Rows L2
variable {cs : List String} {h : IH}
theorem add_ss {a b : Tx} (hl : a.length + b.length ≤ 10000000) : gAddF (.str a) (.str b) h = .ok (.str (a ++ b)) h := by
  show (if a.length + b.length ≤ big then Res.ok (IV.str (a ++ b)) h else .bad) = _
  rw [if_pos hl]
theorem joinL_nil_singles : ∀ l : Tx, TL.joinL [] (l.map fun c => [c]) = l
  | [] => rfl
  | [c] => rfl
  | c :: d :: l => by
    have := joinL_nil_singles (d :: l)
    simp only [List.map_cons, TL.joinL] at this ⊢
    rw [this]
    rfl
theorem singles_len (l : Tx) : ((l.map fun c => [c]).map (·.length)).sum = l.length := by
  induction l with
  | nil => rfl
  | cons c l ih => simp at ih ⊢; omega
/-- the signs of a list of them, joined -/
theorem e_join0 {l : Tx} (hl : l.length ≤ 1000000) : gJoin (.str []) [.fz (l.map fun c => IV.str [c])] h = .ok (.str l) h := by
  have e : (l.map fun c => IV.str [c]) = (l.map fun c => [c]).map IV.str := by rw [List.map_map]; rfl
  rw [e, gJoin_fz, if_pos, joinL_nil_singles]
  have := singles_len l
  show _ + _ * 0 ≤ 10000000
  have e2 : (List.map (fun x : List Nat => x.length) (l.map fun c => [c])).sum = l.length := this
  rw [e2]
  omega
theorem pxk_len {q : Nat × Nat} (h1 : q.1 < 10000) (h2 : q.2 < 9) : (pxk q).length ≤ 6 := by
  have a := TL.numL_len (n := q.1) (k := 4) (by decide) (by omega)
  have b := TL.numL_len (n := q.2) (k := 1) (by decide) (by omega)
  unfold pxk
  simp
  omega
theorem pxks_len : ∀ {l : List (Nat × Nat)}, (∀ q ∈ l, q.1 < 10000 ∧ q.2 < 9) → lenP (l.map pxk) ≤ 6 * l.length
  | [], _ => by simp [lenP]
  | q :: l, hl => by
    have := pxks_len (l := l) fun x hx => hl x (by simp [hx])
    have h1 := pxk_len (hl q (by simp)).1 (hl q (by simp)).2
    simp only [lenP, List.map_cons, List.sum_cons, List.length_cons] at this ⊢
    omega
abbrev L_odd (t : Tx) : IV := .fz ((oddW 1 t).map fun q => .tup [.int (q.1 : Nat), .int (q.2 : Nat)])
theorem odd_nil (t : Tx) : gEq (L_odd t) (.fz []) h = .ok (.bl (decide (oddW 1 t = []))) h := by
  have := Em.eq_ (E := .lst (.two .int .int)) (a := (oddW 1 t).map fun q => ((q.1 : Int), (q.2 : Int))) (b := []) (h := h) (by decide) (fun _ _ => ⟨trivial, trivial⟩) (fun _ _ => ⟨trivial, trivial⟩) rfl
  have e : (Em.lst (.two .int .int)).iv ((oddW 1 t).map fun q => ((q.1 : Int), (q.2 : Int))) = L_odd t := by
    show IV.fz _ = IV.fz _
    rw [List.map_map]
    rfl
  rw [e] at this
  have d : decide ((oddW 1 t).map (fun q => ((q.1 : Int), (q.2 : Int))) = []) = decide (oddW 1 t = []) := by
    by_cases z : oddW 1 t = []
    · rw [z]; rfl
    · rw [decide_eq_false z, decide_eq_false (by simpa using z)]
  rw [d] at this
  exact this
/-- the places told -/
theorem told_pxk {t : Tx} (hl : t.length ≤ 1000) {f : ME} {i j : Nat} {e : IE} {src : ME} (hsrc : src e h = .ok (L_odd t) h) (hw : wipeI e [i, j] = e)
    (hf : ∀ p k : Nat, p ≤ 1000000 → k ≤ 1000000 → f ((e.set i (some (.int (p : Nat)))).set j (some (.int (k : Nat)))) h = .ok (.str (pxk (p, k))) h) :
    mBM .str gJoin (mC (.str [95])) (mCons (mLcF (mItV src) [i, j] (gSeq' 2 (gsCons (gName' i) (gsCons (gName' j) (gsNil)))) (mC (.bl true)) f) (mNil)) e h = .ok (.str (TL.joinL [95] ((oddW 1 t).map pxk))) h := by
  have hs : mItV src e h = .ok (srT ((oddW 1 t).map fun q => .tup [.int (q.1 : Nat), .int (q.2 : Nat)])) h := by simp [hsrc]
  have ol := @oddW_len t 1
  have ob : ∀ q ∈ oddW 1 t, q.1 < 10000 ∧ q.2 < 9 := fun q hq => by have := oddW_lt q hq; omega
  have el : mLcF (mItV src) [i, j] (gSeq' 2 (gsCons (gName' i) (gsCons (gName' j) (gsNil)))) (mC (.bl true)) f e h = .ok (.fz (((oddW 1 t).map pxk).map .str)) h := by
    rw [mLcF_l hs src_T, hw, lcX_two (ea := fun q : Nat × Nat => IV.int (q.1 : Nat)) (eb := fun q : Nat × Nat => IV.int (q.2 : Nat)) (p := fun _ => true) (q := fun q => .str (pxk q))]
    · simp [Function.comp_def]
    · show _ ≤ 10000000
      simp
      omega
    · intro q _; simp
    · intro q hq _
      exact hf q.1 q.2 (by have := ob q hq; omega) (by have := ob q hq; omega)
  have pl := pxks_len ob
  have : gJoin (.str [95]) [.fz (((oddW 1 t).map pxk).map .str)] h = .ok (.str (TL.joinL [95] ((oddW 1 t).map pxk))) h := by
    rw [gJoin_fz, if_pos (by show lenP ((oddW 1 t).map pxk) + _ * 1 ≤ 10000000; rw [List.length_map]; omega)]
  simp only [mBM, mC, bind_ok, okT, if_true, mCons, mNil, el, this, noX_ok]
theorem wide_len {t : Tx} (hl : t.length ≤ 1000) : (plainW t).length ≤ 1000 ∧ (TL.joinL [95] ((oddW 1 t).map pxk)).length ≤ 7000 := by
  have ol := @oddW_len t 1
  have ob : ∀ q ∈ oddW 1 t, q.1 < 10000 ∧ q.2 < 9 := fun q hq => by have := oddW_lt q hq; omega
  have pl := pxks_len ob
  have := joinL_len (s := [95]) ((oddW 1 t).map pxk)
  simp only [List.length_map, List.length_singleton, Nat.mul_one] at this
  have h2 : (plainW t).length ≤ t.length := List.length_filter_le _ _
  omega
theorem s_told_wide {t : Tx} (hl : t.length ≤ 1000) : f_told_wide cs [.str t] h = if okW t = true then .ok (.str (wideT t)) h else .exc "LabelError" h := by
  have hb : t.length ≤ 10000000 := by omega
  let e0 : IE := [some (.str t), none, none, none, none, none]
  have hg : mGen (mItV (mVar 0)) [3] (gName' 3) (mC (.bl true)) (mAnd (m2 (gInU true) (mVar 3) (mC (.str SIGNS))) (m2 (gInU true) (mVar 3) (mC (.str MORE)))) cs (stB true) (finB true) () e0 h = .ok (.bl (t.any fun c => !decide (c ∈ SIGNS) && !decide (c ∈ MORE))) h := by
    have hs : mItV (mVar 0) e0 h = .ok (srS t) h := by simp [e0]
    have ew : wipeI e0 [3] = e0 := rfl
    rw [mGen_l hs src_S, ew, genX_b (emb := fun c => .str [c]) (p := fun _ => true) (r := fun c => !decide (c ∈ SIGNS) && !decide (c ∈ MORE))]
    · simp
    · intro y _; simp
    · intro y _ _
      by_cases z : y ∈ SIGNS <;> simp [e0, z]
  have hq : (t.any fun c => !decide (c ∈ SIGNS) && !decide (c ∈ MORE)) = !(t.all fun c => decide (c ∈ SIGNS) || decide (c ∈ MORE)) := by
    rw [List.not_all_eq_any_not]
    congr 1
    funext c
    simp
  rw [hq] at hg
  have c1 : (mOr (m2 gEq (mVar 0) (mC (.str []))) (mGen (mItV (mVar 0)) [3] (gName' 3) (mC (.bl true)) (mAnd (m2 (gInU true) (mVar 3) (mC (.str SIGNS))) (m2 (gInU true) (mVar 3) (mC (.str MORE)))) cs (stB true) (finB true) ())) e0 h = .ok (.bl (!okW t)) h := by
    generalize mGen (mItV (mVar 0)) [3] (gName' 3) _ _ cs _ _ _ = F at hg ⊢
    unfold okW
    by_cases z : t = []
    · subst z; simp [e0]
    · simp [e0, z] at hg ⊢
      simp [hg]
  show (m_told_wide cs e0 h).fin = _
  unfold m_told_wide
  cases ho : okW t with
  | false =>
    rw [ho] at c1
    rw [run_seqX (c := "LabelError") (e1 := e0) (h1 := h) (by rw [sIf_eq, c1]; rfl)]
    rfl
  | true =>
    rw [ho] at c1
    rw [run_seq (run_chk c1), if_pos rfl]
    have c2 : mLcF (mEnum (mCons (mVar 0) (mNil))) [4, 3] (gSeq' 2 (gsCons (gName' 4) (gsCons (gName' 3) (gsNil)))) (m2 (gInU false) (mVar 3) (mC (.str MORE))) (mTup (mCons (m2 gAddF (mVar 4) (mC (.int 1))) (mCons (mBM .str gIndexS (mC (.str MORE)) (mCons (mVar 3) (mNil))) (mNil)))) e0 h = .ok (L_odd t) h := by
      have hs : mEnum (mCons (mVar 0) (mNil)) e0 h = .ok (srE (srS t)) h := by simp [e0]
      have ew : wipeI e0 [4, 3] = e0 := rfl
      rw [mLcF_l hs (src_E src_S), ew, odd_loop t 0 e0 [] (by show _ ≤ 10000000; simp; omega) _ (by simp [e0])]
      · simp [L_odd]
      · intro c hc m
        have := (idx_more c hc).1
        simp [e0, okT, gIndexS, this, big]
    rw [run_seq (run_asg c2)]
    have c3 : (m2 gEq (mVar 1) (mLstF (mNil))) (e0.set 1 (some (L_odd t))) h = .ok (.bl (decide (oddW 1 t = []))) h := by
      have := odd_nil (h := h) t
      simp [e0, big]
      exact this
    by_cases hz : oddW 1 t = []
    · rw [decide_eq_true hz] at c3
      have hw : wideT t = t := by unfold wideT; rw [if_pos hz]
      rw [run_seqR (v := .str t) (h1 := h) (by rw [sIf_eq, c3]; simp [e0]), hw]
      rfl
    · rw [decide_eq_false hz] at c3
      rw [run_seq (run_chk c3)]
      have c4 : mBM .str gJoin (mC (.str [])) (mCons (mLcF (mItV (mVar 0)) [3] (gName' 3) (m2 (gInU false) (mVar 3) (mC (.str SIGNS))) (mVar 3)) (mNil)) (e0.set 1 (some (L_odd t))) h = .ok (.str (plainW t)) h := by
        have hs : mItV (mVar 0) (e0.set 1 (some (L_odd t))) h = .ok (srS t) h := by simp [e0]
        have ew : wipeI (e0.set 1 (some (L_odd t))) [3] = e0.set 1 (some (L_odd t)) := rfl
        have el : mLcF (mItV (mVar 0)) [3] (gName' 3) (m2 (gInU false) (mVar 3) (mC (.str SIGNS))) (mVar 3) (e0.set 1 (some (L_odd t))) h = .ok (.fz ((plainW t).map fun c => .str [c])) h := by
          rw [mLcF_l hs src_S, ew, lcX_name (emb := fun c => .str [c]) (p := fun c => decide (c ∈ SIGNS)) (q := fun c => .str [c])]
          · rfl
          · show _ ≤ 10000000; simp; omega
          · intro y _; simp [e0]
          · intro y _ _; simp [e0]
        have := e_join0 (h := h) (l := plainW t) (by have := (wide_len hl).1; omega)
        simp only [mBM, mC, bind_ok, okT, if_true, mCons, mNil, el, this, noX_ok]
      rw [run_seq (run_asg c4)]
      have c5 := told_pxk (h := h) hl (f := mJs [mFmt (mVar 4), mC (.str [120]), mFmt (mVar 5)] []) (i := 4) (j := 5) (src := mVar 1) (e := (e0.set 1 (some (L_odd t))).set 2 (some (.str (plainW t)))) (by simp [e0]) rfl (fun p k hp hk => by
        have f1 := mFmt_nat (f := mVar 4) (e := ((((e0.set 1 (some (L_odd t))).set 2 (some (.str (plainW t)))).set 4 (some (.int (p : Nat)))).set 5 (some (.int (k : Nat))))) (h := h) (h1 := h) (n := p) (by simp [e0]) (by omega)
        have f2 := mFmt_nat (f := mVar 5) (e := ((((e0.set 1 (some (L_odd t))).set 2 (some (.str (plainW t)))).set 4 (some (.int (p : Nat)))).set 5 (some (.int (k : Nat))))) (h := h) (h1 := h) (n := k) (by simp [e0]) (by omega)
        have l1 := TL.numL_len (n := p) (k := 7) (by decide) (by omega)
        have l2 := TL.numL_len (n := k) (k := 7) (by decide) (by omega)
        have b1 : (TL.numL p).length ≤ big := by show _ ≤ 10000000; omega
        have b2 : (TL.numL p).length + 1 ≤ big := by show _ ≤ 10000000; omega
        have b3 : (TL.numL p).length + ((TL.numL k).length + 1) ≤ big := by show _ ≤ 10000000; omega
        have b4 : (TL.numL p).length + (1 + (TL.numL k).length) ≤ big := by show _ ≤ 10000000; omega
        simp [mJs, f1, f2, b1, b2, b3, b4, pxk])
      have wl := wide_len hl
      have hw : wideT t = [120, 110, 45] ++ plainW t ++ [45] ++ TL.joinL [95] ((oddW 1 t).map pxk) := by unfold wideT; rw [if_neg hz]
      generalize TL.joinL [95] ((oddW 1 t).map pxk) = J at c5 wl hw
      generalize plainW t = Pl at c5 wl hw
      generalize mBM .str gJoin (mC (.str [95])) _ = F at c5
      have b1 : 3 + Pl.length ≤ big := by show _ ≤ 10000000; omega
      have b2 : 3 + Pl.length + 1 ≤ big := by show _ ≤ 10000000; omega
      have b3 : 3 + Pl.length + 1 + J.length ≤ big := by show _ ≤ 10000000; omega
      have c5' : F [some (.str t), some (L_odd t), some (.str Pl), none, none, none] h = .ok (.str J) h := c5
      have c6 : m2 gAddF (m2 gAddF (m2 gAddF (mC (.str [120, 110, 45])) (mVar 2)) (mC (.str [45]))) F ((e0.set 1 (some (L_odd t))).set 2 (some (.str Pl))) h = .ok (.str (wideT t)) h := by
        rw [hw]
        simp only [m2, mC, mVar, e0, List.set_cons_succ, List.set_cons_zero, List.getElem?_cons_succ, List.getElem?_cons_zero, bind_ok, c5']
        rw [add_ss (by simp; omega), bind_ok, add_ss (by simp; omega), bind_ok, c5', bind_ok, add_ss (by simp; omega)]
      rw [run_ret c6]
      rfl
end Lb
end Sh

/-! Sh54: wide texts read back. -/
namespace Sh
namespace Lb
open PySem PySem.Spec PyProof.Rows L2
variable {cs : List String} {h : IH}
def insW (F : Tx) (v c : Nat) : Tx := cutI F none (some ((v : Int) - 1)) ++ [c] ++ cutI F (some ((v : Int) - 1)) none
def cutX (one : Tx) : Tx × Tx := match TL.par [120] [] one with
  | some (p, q) => (p, q)
  | none => (one, [])
def badX (m one : Tx) : Bool := decide (m = []) || (!cnt (cutX one).1 || (!cnt (cutX one).2 || decide (9 ≤ val (cutX one).2)))
def loopW (m : Tx) : List Tx → Tx → Option Tx
  | [], F => some F
  | o :: r, F => if badX m o = true then none else loopW m r (insW F (val (cutX o).1) (MORE.getD (val (cutX o).2) 0))
theorem add_ff {a b : List IV} (hl : a.length + b.length ≤ 10000000) : gAddF (.fz a) (.fz b) h = .ok (.fz (a ++ b)) h := by
  show (if a.length + b.length ≤ big then Res.ok (IV.fz (a ++ b)) h else .bad) = _
  rw [if_pos hl]
theorem insW_len {F : Tx} {v c : Nat} : (insW F v c).length = F.length + 1 := by
  unfold insW
  by_cases hv : v = 0
  · subst hv
    rw [show ((0 : Nat) : Int) - 1 = -1 by rfl, cut_toN (by decide), cut_fromN (by decide)]
    simp
    omega
  · have h0 : (0 : Int) ≤ (v : Int) - 1 := by omega
    rw [cut_to h0, cut_from h0]
    simp
    omega
theorem insW_mem {F : Tx} {v c x : Nat} (hx : x ∈ insW F v c) : x ∈ F ∨ x = c := by
  unfold insW at hx
  simp only [List.mem_append, List.mem_singleton] at hx
  rcases hx with (hx | hx) | hx
  · unfold cutI at hx
    exact .inl (List.mem_of_mem_drop (List.mem_of_mem_take hx))
  · exact .inr hx
  · unfold cutI at hx
    exact .inl (List.mem_of_mem_drop (List.mem_of_mem_take hx))
theorem loopW_len {m : Tx} : ∀ {l : List Tx} {F G : Tx}, loopW m l F = some G → G.length = F.length + l.length
  | [], F, G, e => by cases e; rfl
  | o :: r, F, G, e => by
    unfold loopW at e
    split at e
    · cases e
    · have := loopW_len e
      rw [insW_len] at this
      simp
      omega
abbrev sg (F : Tx) : IV := .fz (F.map fun c => .str [c])
abbrev b_read (cs : List String) : MS := sSeq (sAsg (mBM .str gPart (mVar 5) (mCons (mC (.str [120])) (mNil))) (gSeq' 3 (gsCons (gName' 6) (gsCons (gName' 7) (gsCons (gName' 8) (gsNil))))))
          (sSeq (sIf (mOr (m2 gEq (mVar 2) (mC (.str []))) (mOr (mNot (mOwn 1 (f_is_count cs) (mCons (mVar 6) (mNil)))) (mOr (mNot (mOwn 1 (f_is_count cs) (mCons (mVar 8) (mNil)))) (m2 gGeU (mCall gIntU (mCons (mVar 8) (mNil))) (mCall gLenU (mCons (mC (.str MORE)) (mNil))))))) (sRaise "LabelError") (sSkip))
          (sAsg (m2 gAddF (m2 gAddF (mSlF (mVar 4) (mNoPart) (mPart (m2 Sh.gSub (mCall gIntU (mCons (mVar 6) (mNil))) (mC (.int 1))))) (mLstF (mCons (m2 gGet (mC (.str MORE)) (mCall gIntU (mCons (mVar 8) (mNil)))) (mNil)))) (mSlF (mVar 4) (mPart (m2 Sh.gSub (mCall gIntU (mCons (mVar 6) (mNil))) (mC (.int 1)))) (mNoPart))) (gName' 4)))
theorem cutX_len {one : Tx} : (cutX one).1.length ≤ one.length ∧ (cutX one).2.length ≤ one.length := by
  have par_len : ∀ (l acc p q : Tx), TL.par [120] acc l = some (p, q) → p.length ≤ acc.length + l.length ∧ q.length ≤ l.length := by
    intro l
    induction l with
    | nil => intro acc p q e; cases e
    | cons c r ih =>
      intro acc p q e
      unfold TL.par at e
      split at e
      · cases e
        simp
        try omega
      · have := ih _ _ _ e
        simp at this ⊢
        omega
  unfold cutX
  split
  · rename_i p q e
    have := par_len one [] p q e
    simp at this ⊢
    exact this
  · simp
theorem more_at {k : Nat} (hk : k < 9) : MORE[k]? = some (MORE.getD k 0) := by
  have : k = 0 ∨ k = 1 ∨ k = 2 ∨ k = 3 ∨ k = 4 ∨ k = 5 ∨ k = 6 ∨ k = 7 ∨ k = 8 := by omega
  rcases this with rfl | rfl | rfl | rfl | rfl | rfl | rfl | rfl | rfl <;> rfl
theorem read_turn (a b d g : Option IV) (m F one : Tx) (y6 y7 y8 : Option IV) (h1 : one.length ≤ 10000) (hF : F.length ≤ 10000) :
    ∃ z6 z7 z8, b_read cs [a, b, some (.str m), d, some (sg F), some (.str one), y6, y7, y8, g] h = if badX m one = true then .ex "LabelError" [a, b, some (.str m), d, some (sg F), some (.str one), z6, z7, z8, g] h else .nx [a, b, some (.str m), d, some (sg (insW F (val (cutX one).1) (MORE.getD (val (cutX one).2) 0))), some (.str one), z6, z7, z8, g] h := by
  have hl := @cutX_len one
  have hb : one.length ≤ 10000000 := by omega
  obtain ⟨sep, e1⟩ : ∃ sep, sAsg (mBM .str gPart (mVar 5) (mCons (mC (.str [120])) (mNil))) (gSeq' 3 (gsCons (gName' 6) (gsCons (gName' 7) (gsCons (gName' 8) (gsNil))))) [a, b, some (.str m), d, some (sg F), some (.str one), y6, y7, y8, g] h = .nx [a, b, some (.str m), d, some (sg F), some (.str one), some (.str (cutX one).1), some (.str sep), some (.str (cutX one).2), g] h := by
    unfold cutX
    cases hp : TL.par [120] [] one with
    | some pq =>
      obtain ⟨p, q⟩ := pq
      exact ⟨[120], by simp [okT, gPart, hb, hp]⟩
    | none => exact ⟨[], by simp [okT, gPart, hb, hp]⟩
  refine ⟨some (.str (cutX one).1), some (.str sep), some (.str (cutX one).2), ?_⟩
  unfold b_read
  rw [run_seq e1]
  have hbad : badX m one = (decide (m = []) || (!cnt (cutX one).1 || (!cnt (cutX one).2 || decide (9 ≤ val (cutX one).2)))) := rfl
  generalize cutX one = pk at hl hbad ⊢
  obtain ⟨p, k⟩ := pk
  simp only at hl hbad ⊢
  have n1 := s_count (cs := cs) (h := h) p (by show _ ≤ 10000000; omega)
  have n2 := s_count (cs := cs) (h := h) k (by show _ ≤ 10000000; omega)
  have hM : MORE.length = 9 := rfl
  have c1 : (mOr (m2 gEq (mVar 2) (mC (.str []))) (mOr (mNot (mOwn 1 (f_is_count cs) (mCons (mVar 6) (mNil)))) (mOr (mNot (mOwn 1 (f_is_count cs) (mCons (mVar 8) (mNil)))) (m2 gGeU (mCall gIntU (mCons (mVar 8) (mNil))) (mCall gLenU (mCons (mC (.str MORE)) (mNil))))))) [a, b, some (.str m), d, some (sg F), some (.str one), some (.str p), some (.str sep), some (.str k), g] h = .ok (.bl (badX m one)) h := by
    rw [hbad]
    by_cases z0 : m = []
    · simp [z0]
    · cases z1 : cnt p with
      | false => simp [z0, n1, z1]
      | true =>
        cases z2 : cnt k with
        | false => simp [z0, n1, z1, n2, z2]
        | true =>
          have iv := s_intw (h := h) z2
          by_cases z3 : 9 ≤ val k
          · have z4 : (9 : Int) ≤ (val k : Nat) := by exact_mod_cast z3
            simp [z0, n1, z1, n2, z2, iv, hM, z3, z4, big]
          · have z4 : ¬ (9 : Int) ≤ (val k : Nat) := by exact_mod_cast z3
            simp [z0, n1, z1, n2, z2, iv, hM, z3, z4, big]
  cases hz : badX m one with
  | true =>
    rw [hz] at c1
    rw [run_seqX (c := "LabelError") (e1 := [a, b, some (.str m), d, some (sg F), some (.str one), some (.str p), some (.str sep), some (.str k), g]) (h1 := h) (by rw [sIf_eq, c1]; rfl), if_pos rfl]
  | false =>
    rw [hz] at c1
    rw [run_seq (run_chk c1), if_neg Bool.false_ne_true]
    rw [hbad] at hz
    simp only [Bool.or_eq_false_iff, Bool.not_eq_false', decide_eq_false_iff_not] at hz
    obtain ⟨z0, z1, z2, z3⟩ := hz
    have i1 := s_intw (h := h) z1
    have i2 := s_intw (h := h) z2
    have mk := more_at (k := val k) (by omega)
    have lt := @insW_len F (val p) (MORE.getD (val k) 0)
    have b1 : (cutI F none (some ((val p : Int) - 1))).length + 1 ≤ 10000000 := by
      unfold insW at lt
      simp at lt
      omega
    have b2 : (cutI F none (some ((val p : Int) - 1))).length + 1 + (cutI F (some ((val p : Int) - 1)) none).length ≤ 10000000 := by
      unfold insW at lt
      simp at lt
      omega
    have c2 : (m2 gAddF (m2 gAddF (mSlF (mVar 4) (mNoPart) (mPart (m2 Sh.gSub (mCall gIntU (mCons (mVar 6) (mNil))) (mC (.int 1))))) (mLstF (mCons (m2 gGet (mC (.str MORE)) (mCall gIntU (mCons (mVar 8) (mNil)))) (mNil)))) (mSlF (mVar 4) (mPart (m2 Sh.gSub (mCall gIntU (mCons (mVar 6) (mNil))) (mC (.int 1)))) (mNoPart))) [a, b, some (.str m), d, some (sg F), some (.str one), some (.str p), some (.str sep), some (.str k), g] h = .ok (sg (insW F (val p) (MORE.getD (val k) 0))) h := by
      have a1 : mSlF (mVar 4) (mNoPart) (mPart (m2 Sh.gSub (mCall gIntU (mCons (mVar 6) (mNil))) (mC (.int 1)))) [a, b, some (.str m), d, some (sg F), some (.str one), some (.str p), some (.str sep), some (.str k), g] h = .ok (sg (cutI F none (some ((val p : Int) - 1)))) h := by
        simp only [mSlF, mVar, mNoPart, mPart, m2, mCall, mCons, mNil, mC, List.getElem?_cons_succ, List.getElem?_cons_zero, bind_ok, i1, Sh.gSub, gI, if_true, gSlF, sqI, cutI_map]
      have a2 : mLstF (mCons (m2 gGet (mC (.str MORE)) (mCall gIntU (mCons (mVar 8) (mNil)))) (mNil)) [a, b, some (.str m), d, some (sg F), some (.str one), some (.str p), some (.str sep), some (.str k), g] h = .ok (.fz [.str [MORE.getD (val k) 0]]) h := by
        have gen : ∀ z, MORE[val k]? = some z → mLstF (mCons (m2 gGet (mC (.str MORE)) (mCall gIntU (mCons (mVar 8) (mNil)))) (mNil)) [a, b, some (.str m), d, some (sg F), some (.str one), some (.str p), some (.str sep), some (.str k), g] h = .ok (.fz [.str [z]]) h := fun z hz => by
          simp [i2, atI_nat, hz, hM, big]
        exact gen _ mk
      have a3 : mSlF (mVar 4) (mPart (m2 Sh.gSub (mCall gIntU (mCons (mVar 6) (mNil))) (mC (.int 1)))) (mNoPart) [a, b, some (.str m), d, some (sg F), some (.str one), some (.str p), some (.str sep), some (.str k), g] h = .ok (sg (cutI F (some ((val p : Int) - 1)) none)) h := by
        simp only [mSlF, mVar, mNoPart, mPart, m2, mCall, mCons, mNil, mC, List.getElem?_cons_succ, List.getElem?_cons_zero, bind_ok, i1, Sh.gSub, gI, if_true, gSlF, sqI, cutI_map]
      simp only [m2, a1, a2, a3, bind_ok]
      rw [add_ff (by simpa using b1), bind_ok, a3, bind_ok, add_ff (by simpa using b2)]
      unfold insW
      simp
    rw [run_asg c2]
    rfl
theorem read_loop (a b d g : Option IV) (m : Tx) : ∀ (l : List Tx) (F : Tx) (x5 y6 y7 y8 : Option IV), (∀ o ∈ l, o.length ≤ 10000) → F.length + l.length ≤ 10000 →
    (∀ G, loopW m l F = some G → ∃ z5 z6 z7 z8, forX (gName' 5) (b_read cs) (l.map .str) [a, b, some (.str m), d, some (sg F), x5, y6, y7, y8, g] h = .nx [a, b, some (.str m), d, some (sg G), z5, z6, z7, z8, g] h) ∧
    (loopW m l F = none → ∃ e', forX (gName' 5) (b_read cs) (l.map .str) [a, b, some (.str m), d, some (sg F), x5, y6, y7, y8, g] h = .ex "LabelError" e' h)
  | [], F, x5, y6, y7, y8, _, _ => ⟨fun G e => by cases e; exact ⟨x5, y6, y7, y8, rfl⟩, fun e => by cases e⟩
  | o :: r, F, x5, y6, y7, y8, ho, hl => by
    rw [List.length_cons] at hl
    obtain ⟨z6, z7, z8, e⟩ := read_turn (cs := cs) (h := h) a b d g m F o y6 y7 y8 (ho o (by simp)) (by omega)
    rw [List.map_cons]
    have hst : ([a, b, some (.str m), d, some (sg F), x5, y6, y7, y8, g] : IE).set 5 (some (.str o)) = [a, b, some (.str m), d, some (sg F), some (.str o), y6, y7, y8, g] := rfl
    simp only [forX, gName', put_nx, hst, e, loopW]
    cases hz : badX m o with
    | true =>
      rw [if_pos rfl, if_pos rfl]
      exact ⟨fun G e => (by cases e), fun _ => ⟨_, rfl⟩⟩
    | false =>
      rw [if_neg Bool.false_ne_true, if_neg Bool.false_ne_true]
      exact read_loop a b d g m r _ _ _ _ _ (fun x hx => ho x (by simp [hx])) (by rw [insW_len]; omega)
def readW (part : Tx) : Option Tx := if part.take 3 ≠ [120, 110, 45] then some part else
  (loopW (rpar (part.drop 3) [45]).2.1 (TL.spl [95] 0 [] (rpar (part.drop 3) [45]).2.2) (rpar (part.drop 3) [45]).1).bind fun F => if okW F = true ∧ wideT F = part then some F else none
theorem rpar_len {c : Nat} {a : Tx} : (rpar a [c]).1.length + (rpar a [c]).2.2.length ≤ a.length := by
  by_cases hc : c ∈ a
  · have last : ∀ (w : List Nat), c ∈ w → ∃ p t, w = p ++ c :: t ∧ c ∉ t := by
      intro w
      induction w with
      | nil => intro z; cases z
      | cons x w ihw =>
        intro z
        by_cases hx : c ∈ w
        · obtain ⟨p, t, e1, e2⟩ := ihw hx
          exact ⟨x :: p, t, by rw [e1]; rfl, e2⟩
        · rcases List.mem_cons.mp z with z | z
          · subst z; exact ⟨[], w, rfl, hx⟩
          · exact absurd z hx
    obtain ⟨p, t, e, ht⟩ := last a hc
    rw [e, rpar_hit ht]
    simp
    try omega
  · rw [rpar_miss hc]
    simp
theorem spl1_count {c : Nat} : ∀ (t acc : Tx), (TL.spl [c] 0 acc t).length ≤ t.length + 1
  | [], acc => by rw [TL.spl_nil]; simp
  | x :: r, acc => by
    rw [spl1_cons]
    split
    · have := spl1_count (c := c) r []; simp; omega
    · have := spl1_count (c := c) r (acc ++ [x]); simp; omega
theorem s_read_wide {part : Tx} (hl : part.length ≤ 400) : f_read_wide cs [.str part] h = match readW part with
    | some t => .ok (.str t) h
    | none => .exc "LabelError" h := by
  have hb : part.length ≤ 10000000 := by omega
  let e0 : IE := [some (.str part), none, none, none, none, none, none, none, none, none]
  have c1 : (m2 gNe (mSlF (mVar 0) (mNoPart) (mPart (mC (.int 3)))) (mC (.str [120, 110, 45]))) e0 h = .ok (.bl (!decide (part.take 3 = [120, 110, 45]))) h := by
    simp [e0, hb, cut_to]
  show (m_read_wide cs e0 h).fin = _
  unfold m_read_wide readW
  by_cases h3 : part.take 3 = [120, 110, 45]
  · rw [decide_eq_true h3] at c1
    rw [run_seq (run_chk c1), if_neg (fun z => z h3)]
    have rl := @rpar_len 45 (part.drop 3)
    have dl : (part.drop 3).length ≤ part.length := by simp
    have hd : (part.drop 3).length ≤ 10000000 := by omega
    have c2 : sAsg (mBM .str gRPart (mSlF (mVar 0) (mPart (mC (.int 3))) (mNoPart)) (mCons (mC (.str [45])) (mNil))) (gSeq' 3 (gsCons (gName' 1) (gsCons (gName' 2) (gsCons (gName' 3) (gsNil))))) e0 h = .nx [some (.str part), some (.str (rpar (part.drop 3) [45]).1), some (.str (rpar (part.drop 3) [45]).2.1), some (.str (rpar (part.drop 3) [45]).2.2), none, none, none, none, none, none] h := by
      have : part.length ≤ 10000003 := by omega
      simp [e0, hb, cut_from, okT, gRPart, this]
    rw [run_seq c2]
    generalize rpar (part.drop 3) [45] = r at rl ⊢
    obtain ⟨P, m, T⟩ := r
    simp only at rl ⊢
    have hP : P.length ≤ 10000000 := by omega
    have c3 : mCall gListF (mCons (mVar 1) (mNil)) [some (.str part), some (.str P), some (.str m), some (.str T), none, none, none, none, none, none] h = .ok (sg P) h := by simp [hP]
    rw [run_seq (run_asg c3)]
    have hT : T.length ≤ 10000000 := by omega
    have cn := spl1_count (c := 95) T []
    have cl : ∀ o ∈ TL.spl [95] 0 [] T, o.length ≤ 10000 := fun o ho => by
      have := spl1_len (c := 95) T [] o ho
      simp at this
      omega
    have hit : mItV (mBM .str gSplit (mVar 3) (mCons (mC (.str [95])) (mNil))) [some (.str part), some (.str P), some (.str m), some (.str T), some (sg P), none, none, none, none, none] h = .ok (srT ((TL.spl [95] 0 [] T).map .str)) h := by
      simp [okT, hT]
    have lp := read_loop (cs := cs) (h := h) (some (.str part)) (some (.str P)) (some (.str T)) none m (TL.spl [95] 0 [] T) P none none none none cl (by omega)
    have hset : ([some (.str part), some (.str P), some (.str m), some (.str T), none, none, none, none, none, none] : IE).set 4 (some (sg P)) = [some (.str part), some (.str P), some (.str m), some (.str T), some (sg P), none, none, none, none, none] := rfl
    rw [hset]
    have hfor := sFor_l (g := gName' 5) (b := b_read cs) hit src_T
    unfold b_read at hfor lp
    cases hL : loopW m (TL.spl [95] 0 [] T) P with
    | none =>
      obtain ⟨e', q⟩ := lp.2 hL
      rw [run_seqX (c := "LabelError") (e1 := e') (h1 := h) (hfor.trans q)]
      rfl
    | some F =>
      obtain ⟨z5, z6, z7, z8, q⟩ := lp.1 F hL
      have hFl := loopW_len hL
      rw [run_seq (hfor.trans q)]
      have j0 := e_join0 (h := h) (l := F) (by omega)
      have c4 : mBM .str gJoin (mC (.str [])) (mCons (mVar 4) (mNil)) [some (.str part), some (.str P), some (.str m), some (.str T), some (sg F), z5, z6, z7, z8, none] h = .ok (.str F) h := by
        simp [okT, j0]
      rw [run_seq (run_asg c4)]
      have tw := s_told_wide (cs := cs) (h := h) (t := F) (by omega)
      have hset2 : ([some (.str part), some (.str P), some (.str m), some (.str T), some (sg F), z5, z6, z7, z8, none] : IE).set 9 (some (.str F)) = [some (.str part), some (.str P), some (.str m), some (.str T), some (sg F), z5, z6, z7, z8, some (.str F)] := rfl
      rw [hset2]
      simp only [Option.bind_some]
      by_cases ho : okW F = true
      · rw [if_pos ho] at tw
        by_cases hw : wideT F = part
        · rw [if_pos ⟨ho, hw⟩]
          simp [tw, hw]
        · rw [if_neg (fun z => hw z.2)]
          simp [tw, hw]
      · rw [if_neg ho] at tw
        rw [if_neg (fun z => ho z.1)]
        simp [tw]
  · rw [decide_eq_false h3] at c1
    rw [if_pos h3]
    rw [run_seqR (v := .str part) (h1 := h) (by rw [sIf_eq, c1]; simp [e0])]
    rfl
/-! there and back -/
theorem more_back : ∀ c ∈ MORE, MORE.getD (MORE.idxOf c) 0 = c := by decide +kernel
theorem pxk_free {q : Nat × Nat} {c : Nat} (h1 : c < 48 ∨ 57 < c) (h2 : c ≠ 120) : c ∉ pxk q := fun z => by
  unfold pxk at z
  rcases List.mem_append.mp z with z | z
  · exact TL.numL_free h1 z
  · rcases List.mem_cons.mp z with z | z
    · exact h2 z
    · exact TL.numL_free h1 z
theorem cutX_pxk {q : Nat × Nat} : cutX (pxk q) = (TL.numL q.1, TL.numL q.2) := by
  unfold cutX pxk
  have := SX.par_head (c := 120) (sep := []) (p := TL.numL q.1) (TL.numL q.2) (TL.numL_free (.inr (by omega)))
  simp only [List.singleton_append] at this
  rw [this]
theorem loop_back : ∀ (rest u : Tx), (∀ c ∈ rest, c ∈ SIGNS ∨ c ∈ MORE) → u.length + rest.length < 9000 → loopW [45] ((oddW (u.length + 1) rest).map pxk) (u ++ plainW rest) = some (u ++ rest)
  | [], u, _, _ => by simp [oddW, plainW, loopW]
  | c :: rest, u, hc, hl => by
    rw [List.length_cons] at hl
    have ih := loop_back rest (u ++ [c]) (fun x hx => hc x (by simp [hx])) (by simp; omega)
    rw [List.length_append, List.length_singleton] at ih
    have e1 : u ++ [c] ++ rest = u ++ c :: rest := by simp
    rw [e1] at ih
    rcases hc c (by simp) with hs | hm
    · have hn : c ∉ MORE := fun z => more_signs c z hs
      have e2 : oddW (u.length + 1) (c :: rest) = oddW (u.length + 1 + 1) rest := by rw [oddW, if_neg hn]
      have e3 : plainW (c :: rest) = c :: plainW rest := by unfold plainW; rw [List.filter_cons_of_pos (by simpa using hs)]
      rw [e2, e3, ← ih]
      simp
    · have hn : c ∉ SIGNS := more_signs c hm
      have e2 : oddW (u.length + 1) (c :: rest) = (u.length + 1, MORE.idxOf c) :: oddW (u.length + 1 + 1) rest := by rw [oddW, if_pos hm]
      have e3 : plainW (c :: rest) = plainW rest := by unfold plainW; rw [List.filter_cons_of_neg (by simpa using hn)]
      have hb : badX [45] (pxk (u.length + 1, MORE.idxOf c)) = false := by
        unfold badX
        rw [cutX_pxk]
        have i9 := (idx_more c hm).2
        simp only [cnt_num (show u.length + 1 < 10000 by omega), cnt_num (show MORE.idxOf c < 10000 by omega), val_num]
        simp
        omega
      rw [e2, e3, List.map_cons, loopW, hb, if_neg Bool.false_ne_true, cutX_pxk]
      simp only [val_num, more_back c hm]
      have e4 : insW (u ++ plainW rest) (u.length + 1) c = u ++ [c] ++ plainW rest := by
        unfold insW
        have : (((u.length + 1 : Nat) : Int) - 1) = (u.length : Nat) := by omega
        rw [this, cut_to (by omega), cut_from (by omega)]
        simp
      rw [e4]
      exact ih
theorem read_back {t : Tx} (ho : okW t = true) (hl : t.length ≤ 300) (hx : oddW 1 t = [] → t.take 3 ≠ [120, 110, 45]) : readW (wideT t) = some t := by
  have hc : ∀ c ∈ t, c ∈ SIGNS ∨ c ∈ MORE := fun c hc => by
    unfold okW at ho
    rw [Bool.and_eq_true] at ho
    have := List.all_eq_true.mp ho.2 c hc
    simpa using this
  by_cases hz : oddW 1 t = []
  · have hw : wideT t = t := by unfold wideT; rw [if_pos hz]
    rw [hw]
    unfold readW
    rw [if_pos (hx hz)]
  · have hw : wideT t = [120, 110, 45] ++ plainW t ++ [45] ++ TL.joinL [95] ((oddW 1 t).map pxk) := by unfold wideT; rw [if_neg hz]
    have h3 : (wideT t).take 3 = [120, 110, 45] := by rw [hw]; rfl
    have hd : (wideT t).drop 3 = plainW t ++ 45 :: TL.joinL [95] ((oddW 1 t).map pxk) := by rw [hw]; simp
    have hf : 45 ∉ TL.joinL [95] ((oddW 1 t).map pxk) := fun z => by
      rcases joinL_mem z with z | ⟨r, hr, z⟩
      · simp at z
      · obtain ⟨q, _, rfl⟩ := List.mem_map.mp hr
        exact pxk_free (.inl (by omega)) (by omega) z
    have hs : TL.spl [95] 0 [] (TL.joinL [95] ((oddW 1 t).map pxk)) = (oddW 1 t).map pxk := TL.spl_join (by simpa using hz) fun p hp z => by
      obtain ⟨q, _, rfl⟩ := List.mem_map.mp hp
      exact pxk_free (.inr (by omega)) (by omega) z
    have lb := loop_back t [] hc (by simp; omega)
    simp only [List.length_nil, List.nil_append] at lb
    unfold readW
    rw [if_neg (fun z => z h3), hd, rpar_hit hf]
    simp only [hs]
    rw [lb]
    simp [ho]
end Lb
end Sh

/-! Sh55: lists that are drawn. -/
namespace Sh
open PySem PySem.Spec PyProof.Rows L2
/-- what may change while lists are drawn: J, from heap to heap -/
theorem lcX_draw {α : Type} {emb : α → IV} {P : α → Prop} {R : IH → IH → Prop} (tr : ∀ a b c, R a b → R b c → R a c) {k : Nat} {f : ME} {e : IE} {h0 : IH} {lo : Int}
    (hf : ∀ (i : Nat) (h : IH), R h0 h → ∃ a h', f (e.set k (some (.int (lo + (i : Nat))))) h = .ok (emb a) h' ∧ P a ∧ R h h') :
    ∀ (n j : Nat) (e' : IE) (acc : List IV) (h : IH), (∀ z, e'.set k z = e.set k z) → acc.length + n ≤ big → R h0 h →
      ∃ (as : List α) (h' : IH), lcX (gName' k) (mC (.bl true)) f ((List.range' j n).map fun i => IV.int (lo + (i : Nat))) e' acc h = .ok (.fz (acc ++ as.map emb)) h' ∧ as.length = n ∧ (∀ a ∈ as, P a) ∧ R h0 h'
  | 0, j, e', acc, h, _, _, r => ⟨[], h, by simp [lcX], rfl, by simp, r⟩
  | n + 1, j, e', acc, h, he, hl, r => by
    obtain ⟨a, h1, e1, pa, r1⟩ := hf j h r
    obtain ⟨as, h2, e2, l2, p2, r2⟩ := lcX_draw (emb := emb) (P := P) (R := R) tr hf n (j + 1) (e.set k (some (.int (lo + (j : Nat))))) (acc ++ [emb a]) h1 (fun z => by rw [List.set_set]) (by simp; omega) (tr _ _ _ r r1)
    refine ⟨a :: as, h2, ?_, by simp [l2], fun x hx => ?_, r2⟩
    · rw [List.range'_succ, List.map_cons]
      simp only [lcX, gName', mC, he, e1, bind_ok]
      rw [if_pos (Nat.lt_of_lt_of_le (by omega : acc.length < big) (by decide)), e2]
      simp
    · rcases List.mem_cons.mp hx with rfl | hx
      · exact pa
      · exact p2 x hx
/-- [.. for k in range(n)] -/
theorem draw_list {α : Type} {emb : α → IV} {P : α → Prop} {R : IH → IH → Prop} (tr : ∀ a b c, R a b → R b c → R a c) {k : Nat} {f : ME} {it : MI} {e : IE} {h h0 : IH} {n : Nat} (hit : it e h = .ok (srR 0 n) h0) (hr : R h0 h0) (hn : n ≤ 1000000) (hw : wipeI e [k] = e)
    (hf : ∀ (i : Nat) (h : IH), R h0 h → ∃ a h', f (e.set k (some (.int (0 + (i : Nat))))) h = .ok (emb a) h' ∧ P a ∧ R h h') :
    ∃ (as : List α) (h' : IH), mLcF it [k] (gName' k) (mC (.bl true)) f e h = .ok (.fz (as.map emb)) h' ∧ as.length = n ∧ (∀ a ∈ as, P a) ∧ R h0 h' := by
  obtain ⟨as, h', e1, l1, p1, r1⟩ := lcX_draw (emb := emb) (P := P) (R := R) tr hf n 0 e [] h0 (fun z => rfl) (by show _ ≤ 10000000; simp; omega) hr
  refine ⟨as, h', ?_, l1, p1, r1⟩
  have hx : rngL 0 ((n : Int) - 0).toNat = (List.range' 0 n).map fun i => IV.int (0 + (i : Nat)) := by
    unfold rngL
    rw [show ((n : Int) - 0).toNat = n by omega, List.range_eq_range']
  rw [mLcF_l hit src_R, hw, hx]
  simpa using e1
end Sh

namespace K01
open PySem PySem.Spec PyProof.Rows L2 Sh
def top (i : Nat) : Stmt := PySem.Challenge.pw_namestack_k01_names_in_parts.main.body.getD i (.Pass ⟨0, 0, 0, 0⟩)
abbrev s_law_told : Stmt := top 29
abbrev s_law : Stmt := top 34
abbrev s_law_rounds : Stmt := top 28
abbrev s_law_dice : Stmt := top 26
abbrev s_told_wide : Stmt := top 22
abbrev s_read_wide : Stmt := top 23
abbrev s_is_count : Stmt := top 24
abbrev s_law_roll : Stmt := top 27
abbrev s_law_wide : Stmt := top 32
abbrev s_next_name : Stmt := top 21
abbrev s_key_of : Stmt := top 18
abbrev s_parts_of : Stmt := top 9
abbrev s_check_part : Stmt := top 8
abbrev s_in_order : Stmt := top 19
abbrev s_law_plain_name : Stmt := top 31
abbrev s_shared_top : Stmt := top 20
abbrev s_full_name : Stmt := top 16
abbrev s_plain_name : Stmt := top 10
abbrev s_told_from : Stmt := top 17
abbrev s_deep_of : Stmt := top 15
abbrev s_is_in : Stmt := top 14
abbrev s_all_above : Stmt := top 13
abbrev s_name_above : Stmt := top 12
abbrev s_is_same_name : Stmt := top 11
abbrev s_law_name : Stmt := top 30
abbrev s_law_plain : Stmt := top 33
/-! ### what each def does -/
def isa : String → String → Option Bool := fun c d => if c = "NameFault" ∧ d = "LabelError" then some false else if c = "LabelError" ∧ d = "LabelError" then some true else none
def m_law_dice : MS :=
  sSeq (sIf (mChain gLt gLt (m2 Sh.gSub (mC (.int 0)) (mC (.int 10))) (mVar 0) (mC (.int 10))) (sRet (mLst (mCons (mCall gAbs (mCons (mVar 0) (mNil))) (mCons (mC (.int 0)) (mCons (mC (.int 2)) (mNil)))))) (sSkip))
          (sRet (mLst (mCons (mVar 0) (mCons (m2 gAdd (mC (.int 1)) (m2 gMod (mCall gIntU (mCons (mVar 0) (mNil))) (mC (.int 1009)))) (mCons (mCall gIntU (mCons (m2 gGeU (mVar 0) (m2 gPow (mC (.int 10)) (mC (.int 18)))) (mNil))) (mNil))))))
def f_law_dice : Fn := fnM ["cell"] m_law_dice
def m_law_rounds : MS :=
  sSeq (sAsg (mSlF (mVar 0) (mNoPart) (mPart (mVar 1))) (gName' 2))
          (sSeq (sIf (m2 gEq (mVar 2) (mLstF (mNil))) (sAsg (mLstF (mCons (mC (.int 0)) (mNil))) (gName' 2)) (sSkip))
          (sRet (mLcF (mItV (mVar 2)) [3] (gName' 3) (mC (.bl true)) (mOwn 1 f_law_dice (mCons (mVar 3) (mNil))))))
def f_law_rounds : Fn := fnM ["script", "most", "cells", "cell"] m_law_rounds
def m_told_wide : MS :=
  sSeq (sIf (mOr (m2 gEq (mVar 0) (mC (.str []))) (mGen (mItV (mVar 0)) [3] (gName' 3) (mC (.bl true)) (mAnd (m2 (gInU true) (mVar 3) (mC (.str [97, 98, 99, 100, 101, 102, 103, 104, 105, 106, 107, 108, 109, 110, 111, 112, 113, 114, 115, 116, 117, 118, 119, 120, 121, 122, 48, 49, 50, 51, 52, 53, 54, 55, 56, 57, 45, 95]))) (m2 (gInU true) (mVar 3) (mC (.str [33, 36, 38, 43, 44, 59, 61, 126, 32])))) ["NameFault", "LabelError"] (stB true) (finB true) ())) (sRaise "LabelError") (sSkip))
          (sSeq (sAsg (mLcF (mEnum (mCons (mVar 0) (mNil))) [4, 3] (gSeq' 2 (gsCons (gName' 4) (gsCons (gName' 3) (gsNil)))) (m2 (gInU false) (mVar 3) (mC (.str [33, 36, 38, 43, 44, 59, 61, 126, 32]))) (mTup (mCons (m2 gAddF (mVar 4) (mC (.int 1))) (mCons (mBM .str gIndexS (mC (.str [33, 36, 38, 43, 44, 59, 61, 126, 32])) (mCons (mVar 3) (mNil))) (mNil))))) (gName' 1))
          (sSeq (sIf (m2 gEq (mVar 1) (mLstF (mNil))) (sRet (mVar 0)) (sSkip))
          (sSeq (sAsg (mBM .str gJoin (mC (.str [])) (mCons (mLcF (mItV (mVar 0)) [3] (gName' 3) (m2 (gInU false) (mVar 3) (mC (.str [97, 98, 99, 100, 101, 102, 103, 104, 105, 106, 107, 108, 109, 110, 111, 112, 113, 114, 115, 116, 117, 118, 119, 120, 121, 122, 48, 49, 50, 51, 52, 53, 54, 55, 56, 57, 45, 95]))) (mVar 3)) (mNil))) (gName' 2))
          (sRet (m2 gAddF (m2 gAddF (m2 gAddF (mC (.str [120, 110, 45])) (mVar 2)) (mC (.str [45]))) (mBM .str gJoin (mC (.str [95])) (mCons (mLcF (mItV (mVar 1)) [4, 5] (gSeq' 2 (gsCons (gName' 4) (gsCons (gName' 5) (gsNil)))) (mC (.bl true)) (mJs [mFmt (mVar 4), mC (.str [120]), mFmt (mVar 5)] [])) (mNil))))))))
def f_told_wide : Fn := fnM ["text", "odd", "plain", "sign", "place", "number"] m_told_wide
def m_is_count : MS :=
  sRet (mAnd (mChain gLe gLe (mC (.int 1)) (mCall gLenU (mCons (mVar 0) (mNil))) (mC (.int 4))) (mGen (mItV (mVar 0)) [1] (gName' 1) (mC (.bl true)) (m2 (gInU false) (mVar 1) (mC (.str [48, 49, 50, 51, 52, 53, 54, 55, 56, 57]))) ["NameFault", "LabelError"] (stB false) (finB false) ()))
def f_is_count : Fn := fnM ["word", "sign"] m_is_count
def m_read_wide : MS :=
  sSeq (sIf (m2 gNe (mSlF (mVar 0) (mNoPart) (mPart (mC (.int 3)))) (mC (.str [120, 110, 45]))) (sRet (mVar 0)) (sSkip))
          (sSeq (sAsg (mBM .str gRPart (mSlF (mVar 0) (mPart (mC (.int 3))) (mNoPart)) (mCons (mC (.str [45])) (mNil))) (gSeq' 3 (gsCons (gName' 1) (gsCons (gName' 2) (gsCons (gName' 3) (gsNil))))))
          (sSeq (sAsg (mCall gListF (mCons (mVar 1) (mNil))) (gName' 4))
          (sSeq (sFor (mItV (mBM .str gSplit (mVar 3) (mCons (mC (.str [95])) (mNil)))) (gName' 5) (sSeq (sAsg (mBM .str gPart (mVar 5) (mCons (mC (.str [120])) (mNil))) (gSeq' 3 (gsCons (gName' 6) (gsCons (gName' 7) (gsCons (gName' 8) (gsNil))))))
          (sSeq (sIf (mOr (m2 gEq (mVar 2) (mC (.str []))) (mOr (mNot (mOwn 1 f_is_count (mCons (mVar 6) (mNil)))) (mOr (mNot (mOwn 1 f_is_count (mCons (mVar 8) (mNil)))) (m2 gGeU (mCall gIntU (mCons (mVar 8) (mNil))) (mCall gLenU (mCons (mC (.str [33, 36, 38, 43, 44, 59, 61, 126, 32])) (mNil))))))) (sRaise "LabelError") (sSkip))
          (sAsg (m2 gAddF (m2 gAddF (mSlF (mVar 4) (mNoPart) (mPart (m2 Sh.gSub (mCall gIntU (mCons (mVar 6) (mNil))) (mC (.int 1))))) (mLstF (mCons (m2 gGet (mC (.str [33, 36, 38, 43, 44, 59, 61, 126, 32])) (mCall gIntU (mCons (mVar 8) (mNil)))) (mNil)))) (mSlF (mVar 4) (mPart (m2 Sh.gSub (mCall gIntU (mCons (mVar 6) (mNil))) (mC (.int 1)))) (mNoPart))) (gName' 4)))))
          (sSeq (sAsg (mBM .str gJoin (mC (.str [])) (mCons (mVar 4) (mNil))) (gName' 9))
          (sSeq (sIf (m2 gNe (mOwn 1 f_told_wide (mCons (mVar 9) (mNil))) (mVar 0)) (sRaise "LabelError") (sSkip))
          (sRet (mVar 9)))))))
def f_read_wide : Fn := fnM ["part", "plain", "mark", "tail", "found", "one", "place", "cross", "number", "text"] m_read_wide
def m_law_roll (r : Fn) : MS :=
  sSeq (sIf (mOr (m2 gEq (m2 gGet (mVar 0) (mC (.int 2))) (mC (.int 2))) (mAnd (m2 gEq (m2 gGet (mVar 0) (mC (.int 2))) (mC (.int 1))) (m2 gGtU (m2 gGet (mVar 0) (mC (.int 0))) (mC (.int 0))))) (sSeq (sAsg (m2 gMod (mCall gIntU (mCons (m2 gGet (mVar 0) (mC (.int 0))) (mNil))) (mVar 1)) (gName' 2))
          (sSeq (sAsg (m2 gDiv (m2 gGet (mVar 0) (mC (.int 0))) (mVar 1)) (gSubL (mVar 0) (mC (.int 0))))
          (sRet (mVar 2)))) (sSkip))
          (sSeq (sAsg (mC (.int 0)) (gSubL (mVar 0) (mC (.int 2))))
          (sSeq (sIf (m2 gGtU (mVar 1) (mC (.int 100000000))) (sRet (m2 gMod (mCall gIntU (mCons (m2 gAddF (m2 gMulF (mOwn 2 r (mCons (mVar 0) (mCons (m2 gAddF (m2 gDiv (mVar 1) (mC (.int 100000000))) (mC (.int 1))) (mNil)))) (mC (.int 100000000))) (mOwn 2 r (mCons (mVar 0) (mCons (mC (.int 100000000)) (mNil))))) (mNil))) (mVar 1))) (sSkip))
          (sSeq (sAsg (m2 gMod (mCall gIntU (mCons (m2 gAddF (m2 gAddF (m2 gMulF (m2 gGet (mVar 0) (mC (.int 0))) (mC (.int 48271))) (m2 gMulF (m2 gGet (mVar 0) (mC (.int 1))) (mC (.int 69621)))) (mC (.int 11))) (mNil))) (mC (.int 2147483647))) (gSubL (mVar 0) (mC (.int 0))))
          (sSeq (sAsg (m2 gAddF (m2 gGet (mVar 0) (mC (.int 1))) (mC (.int 1))) (gSubL (mVar 0) (mC (.int 1))))
          (sRet (m2 gMod (mCall gIntU (mCons (m2 gDiv (m2 gGet (mVar 0) (mC (.int 0))) (mC (.int 7))) (mNil))) (mVar 1)))))))
def f_law_roll : Nat → Fn
  | 0 => fun _ _ => .bad
  | n + 1 => fnM ["dice", "many", "found"] (m_law_roll (f_law_roll n))
def m_law_wide : MS :=
  sSeq (sAsg (mLcF (mItV (mVar 0)) [3] (gName' 3) (m2 (gInU true) (mVar 3) (mC (.str [33, 36, 38, 43, 44, 59, 61, 126, 32]))) (mVar 3)) (gName' 1))
          (sSeq (sAsg (mLcF (mEnum (mCons (mVar 0) (mNil))) [4, 3] (gSeq' 2 (gsCons (gName' 4) (gsCons (gName' 3) (gsNil)))) (m2 (gInU false) (mVar 3) (mC (.str [33, 36, 38, 43, 44, 59, 61, 126, 32]))) (mTup (mCons (m2 gAddF (mVar 4) (mC (.int 1))) (mCons (mBM .str gIndexS (mC (.str [33, 36, 38, 43, 44, 59, 61, 126, 32])) (mCons (mVar 3) (mNil))) (mNil))))) (gName' 2))
          (sSeq (sIf (m2 gEq (mVar 2) (mLstF (mNil))) (sRet (mVar 0)) (sSkip))
          (sRet (m2 gAddF (m2 gAddF (m2 gAddF (mC (.str [120, 110, 45])) (mBM .str gJoin (mC (.str [])) (mCons (mVar 1) (mNil)))) (mC (.str [45]))) (mBM .str gJoin (mC (.str [95])) (mCons (mLcF (mItV (mVar 2)) [5, 6] (gSeq' 2 (gsCons (gName' 5) (gsCons (gName' 6) (gsNil)))) (mC (.bl true)) (m2 gAddF (m2 gAddF (mCall gStrC (mCons (mVar 5) (mNil))) (mC (.str [120]))) (mCall gStrC (mCons (mVar 6) (mNil))))) (mNil)))))))
def f_law_wide : Fn := fnM ["text", "plain", "odd", "sign", "k", "place", "number"] m_law_wide
def m_check_part : MS :=
  sSeq (sIf (m2 gEq (mVar 0) (mC (.str [42]))) (sRetN) (sSkip))
          (sSeq (sIf (mOr (mNot (mChain gLe gLe (mC (.int 1)) (mCall gLenU (mCons (mVar 0) (mNil))) (mC (.int 63)))) (mGen (mItV (mVar 0)) [1] (gName' 1) (mC (.bl true)) (m2 (gInU true) (mVar 1) (mC (.str [97, 98, 99, 100, 101, 102, 103, 104, 105, 106, 107, 108, 109, 110, 111, 112, 113, 114, 115, 116, 117, 118, 119, 120, 121, 122, 48, 49, 50, 51, 52, 53, 54, 55, 56, 57, 45, 95]))) ["NameFault", "LabelError"] (stB true) (finB true) ())) (sRaise "LabelError") (sSkip))
          (sIf (mOr (m2 gEq (m2 gGet (mVar 0) (mC (.int 0))) (mC (.str [45]))) (m2 gEq (m2 gGet (mVar 0) (m1 gNeg (mC (.int 1)))) (mC (.str [45])))) (sRaise "LabelError") (sSkip)))
def f_check_part : Fn := fnM ["part", "sign"] m_check_part
def m_parts_of : MS :=
  sSeq (sIf (m2 gEq (mVar 0) (mC (.str [46]))) (sRet (mTup (mNil))) (sSkip))
          (sSeq (sAsg (mIf (m2 gEq (mSlF (mVar 0) (mPart (m1 gNeg (mC (.int 1)))) (mNoPart)) (mC (.str [46]))) (mSlF (mVar 0) (mNoPart) (mPart (m1 gNeg (mC (.int 1))))) (mVar 0)) (gName' 1))
          (sSeq (sIf (mOr (m2 gEq (mVar 1) (mC (.str []))) (m2 gGtU (mCall gLenU (mCons (mVar 1) (mNil))) (mC (.int 253)))) (sRaise "LabelError") (sSkip))
          (sSeq (sAsg (mCall gTuple (mCons (mBM .str gSplit (mBM .str gLower (mVar 1) mNil) (mCons (mC (.str [46])) (mNil))) (mNil))) (gName' 2))
          (sSeq (sFor (mEnum (mCons (mVar 2) (mNil))) (gSeq' 2 (gsCons (gName' 3) (gsCons (gName' 4) (gsNil)))) (sSeq (sExpr (mOwn 1 f_check_part (mCons (mVar 4) (mNil))))
          (sIf (mAnd (m2 gEq (mVar 4) (mC (.str [42]))) (m2 gGtU (mVar 3) (mC (.int 0)))) (sRaise "LabelError") (sSkip))))
          (sRet (mVar 2))))))
def f_parts_of : Fn := fnM ["name", "text", "found", "place", "part"] m_parts_of
def m_key_of : MS :=
  sRet (m1 gRev (mOwn 1 f_parts_of (mCons (mVar 0) (mNil))))
def f_key_of : Fn := fnM ["name"] m_key_of
def m_in_order : MS :=
  sSeq (sAsg (mDc true (mItV (mVar 0)) [2] (gName' 2) (mC (.bl true)) (mOwn 1 f_key_of (mCons (mVar 2) (mNil))) (mC (.bl true))) (gName' 1))
          (sRet (mGen (mItV (mCall gSorted (mCons (mVar 1) (mNil)))) [3] (gName' 3) (mC (.bl true)) (m2 gAddF (mBM .str gJoin (mC (.str [46])) (mCons (m1 gRev (mVar 3)) (mNil))) (mC (.str [46]))) ["NameFault", "LabelError"] stL finT []))
def f_in_order : Fn := fnM ["names", "rows", "name", "row"] m_in_order
def m_next_name : MS :=
  sSeq (sAsg (mOwn 1 f_in_order (mCons (mVar 0) (mNil))) (gName' 2))
          (sSeq (sIf (m2 gEq (mVar 2) (mTup (mNil))) (sRaise "LabelError") (sSkip))
          (sSeq (sAsg (mLcF (mItV (mVar 2)) [4] (gName' 4) (m2 gGtU (mOwn 1 f_key_of (mCons (mVar 4) (mNil))) (mOwn 1 f_key_of (mCons (mVar 1) (mNil)))) (mVar 4)) (gName' 3))
          (sRet (m2 gGet (m2 gAddF (mVar 3) (mCall gListF (mCons (mVar 2) (mNil)))) (mC (.int 0))))))
def f_next_name : Fn := fnM ["names", "name", "order", "later", "one"] m_next_name
def m_law_plain_name : MS :=
  sRet (m2 gAddF (mBM .str gJoin (mC (.str [46])) (mCons (mVar 0) (mNil))) (mC (.str [46])))
def f_law_plain_name : Fn := fnM ["parts"] m_law_plain_name
def m_shared_top : MS :=
  sSeq (sAsg (mLcF (mItV (mVar 0)) [3] (gName' 3) (mC (.bl true)) (mOwn 1 f_key_of (mCons (mVar 3) (mNil)))) (gName' 1))
          (sSeq (sIf (m2 gEq (mVar 1) (mLstF (mNil))) (sRet (mC (.str [46]))) (sSkip))
          (sSeq (sAsg (mC (.int 0)) (gName' 2))
          (sSeq (sWhile (fun _ _ => 300) (mGen (mItV (mVar 1)) [4] (gName' 4) (mC (.bl true)) (mAnd (m2 gGtU (mCall gLenU (mCons (mVar 4) (mNil))) (mVar 2)) (m2 gEq (m2 gGet (mVar 4) (mVar 2)) (m2 gGet (m2 gGet (mVar 1) (mC (.int 0))) (mVar 2)))) ["NameFault", "LabelError"] (stB false) (finB false) ()) (sAug 2 gIadd (mC (.int 1))))
          (sRet (m2 gAddF (mBM .str gJoin (mC (.str [46])) (mCons (m1 gRev (mSlF (m2 gGet (mVar 1) (mC (.int 0))) (mNoPart) (mPart (mVar 2)))) (mNil))) (mC (.str [46])))))))
def f_shared_top : Fn := fnM ["names", "rows", "same", "name", "row"] m_shared_top
def m_plain_name : MS :=
  sRet (m2 gAddF (mBM .str gJoin (mC (.str [46])) (mCons (mOwn 1 f_parts_of (mCons (mVar 0) (mNil))) (mNil))) (mC (.str [46])))
def f_plain_name : Fn := fnM ["name"] m_plain_name
def m_full_name : MS :=
  sSeq (sAsg (mOwn 1 f_plain_name (mCons (mVar 1) (mNil))) (gName' 2))
          (sSeq (sIf (m2 gEq (mVar 0) (mC (.str []))) (sRaise "LabelError") (sSkip))
          (sSeq (sIf (m2 gEq (mVar 0) (mC (.str [64]))) (sRet (mVar 2)) (sSkip))
          (sSeq (sIf (m2 gEq (mSlF (mVar 0) (mPart (m1 gNeg (mC (.int 1)))) (mNoPart)) (mC (.str [46]))) (sRet (mOwn 1 f_plain_name (mCons (mVar 0) (mNil)))) (sSkip))
          (sRet (mOwn 1 f_plain_name (mCons (m2 gAddF (mVar 0) (mIf (m2 gNe (mVar 2) (mC (.str [46]))) (m2 gAddF (mC (.str [46])) (mVar 2)) (mC (.str [46])))) (mNil)))))))
def f_full_name : Fn := fnM ["text", "base", "top"] m_full_name
def m_deep_of : MS :=
  sRet (mCall gLenU (mCons (mOwn 1 f_parts_of (mCons (mVar 0) (mNil))) (mNil)))
def f_deep_of : Fn := fnM ["name"] m_deep_of
def m_is_in : MS :=
  sSeq (sPar2 2 3 (mCons (mOwn 1 f_parts_of (mCons (mVar 0) (mNil))) (mCons (mOwn 1 f_parts_of (mCons (mVar 1) (mNil))) (mNil))))
          (sRet (mAnd (m2 gGeU (mCall gLenU (mCons (mVar 2) (mNil))) (mCall gLenU (mCons (mVar 3) (mNil)))) (m2 gEq (mSlF (mVar 2) (mPart (m2 Sh.gSub (mCall gLenU (mCons (mVar 2) (mNil))) (mCall gLenU (mCons (mVar 3) (mNil))))) (mNoPart)) (mVar 3))))
def f_is_in : Fn := fnM ["name", "base", "one", "two"] m_is_in
def m_told_from : MS :=
  sSeq (sIf (mNot (mOwn 2 f_is_in (mCons (mVar 0) (mCons (mVar 1) (mNil))))) (sRet (mOwn 1 f_plain_name (mCons (mVar 0) (mNil)))) (sSkip))
          (sSeq (sAsg (mOwn 1 f_parts_of (mCons (mVar 0) (mNil))) (gName' 2))
          (sSeq (sAsg (mSlF (mVar 2) (mNoPart) (mPart (m2 Sh.gSub (mCall gLenU (mCons (mVar 2) (mNil))) (mOwn 1 f_deep_of (mCons (mVar 1) (mNil)))))) (gName' 3))
          (sSeq (sIf (m2 gEq (mOwn 1 f_deep_of (mCons (mVar 1) (mNil))) (mC (.int 0))) (sRet (mOwn 1 f_plain_name (mCons (mVar 0) (mNil)))) (sSkip))
          (sRet (mIf (m2 gNe (mVar 3) (mTup (mNil))) (mBM .str gJoin (mC (.str [46])) (mCons (mVar 3) (mNil))) (mC (.str [64])))))))
def f_told_from : Fn := fnM ["name", "base", "parts", "rest"] m_told_from
def m_all_above : MS :=
  sSeq (sAsg (mOwn 1 f_parts_of (mCons (mVar 0) (mNil))) (gName' 1))
          (sRet (mGen (mRng1 (mCons (m2 gAddF (mCall gLenU (mCons (mVar 1) (mNil))) (mC (.int 1))) (mNil))) [2] (gName' 2) (mC (.bl true)) (m2 gAddF (mBM .str gJoin (mC (.str [46])) (mCons (mSlF (mVar 1) (mPart (mVar 2)) (mNoPart)) (mNil))) (mC (.str [46]))) ["NameFault", "LabelError"] stL finT []))
def f_all_above : Fn := fnM ["name", "parts", "place"] m_all_above
def m_name_above : MS :=
  sRet (m2 gAddF (mBM .str gJoin (mC (.str [46])) (mCons (mSlF (mOwn 1 f_parts_of (mCons (mVar 0) (mNil))) (mPart (mC (.int 1))) (mNoPart)) (mNil))) (mC (.str [46])))
def f_name_above : Fn := fnM ["name"] m_name_above
def m_is_same_name : MS :=
  sRet (m2 gEq (mOwn 1 f_parts_of (mCons (mVar 0) (mNil))) (mOwn 1 f_parts_of (mCons (mVar 1) (mNil))))
def f_is_same_name : Fn := fnM ["one", "other"] m_is_same_name
def m_law_name : MS :=
  sSeq (sAsg (mLcF (mRng1 (mCons (mOwn 2 (f_law_roll 2) (mCons (mVar 0) (mCons (mC (.int 5)) (mNil)))) (mNil))) [3] (gName' 3) (mC (.bl true)) (m2 gGet (mLstF (mCons (mC (.str [97])) (mCons (mC (.str [98])) (mCons (mC (.str [99, 45, 49])) (mCons (mC (.str [69, 120])) (mCons (mC (.str [119, 95])) (mNil))))))) (mOwn 2 (f_law_roll 2) (mCons (mVar 0) (mCons (mC (.int 5)) (mNil)))))) (gName' 1))
          (sSeq (sAsg (m2 gAddF (mBM .str gJoin (mC (.str [46])) (mCons (mVar 1) (mNil))) (m2 gMulF (mC (.str [46])) (mCall gIntU (mCons (mOr (m2 gEq (mOwn 2 (f_law_roll 2) (mCons (mVar 0) (mCons (mC (.int 2)) (mNil)))) (mC (.int 0))) (m2 gEq (mVar 1) (mLstF (mNil)))) (mNil))))) (gName' 2))
          (sRet (mTup (mCons (mVar 2) (mCons (mLcF (mItV (mVar 1)) [4] (gName' 4) (mC (.bl true)) (mBM .str gLower (mVar 4) mNil)) (mNil))))))
def f_law_name : Fn := fnM ["dice", "parts", "text", "k", "part"] m_law_name
def l_law_plain : List ME := [mOwn 1 f_check_part (mCons (mC (.str [])) (mNil)),
  mOwn 1 f_check_part (mCons (m2 gMulF (mC (.str [120])) (mC (.int 64))) (mNil)),
  mOwn 1 f_check_part (mCons (mC (.str [97, 32, 98])) (mNil)),
  mOwn 1 f_check_part (mCons (mC (.str [65])) (mNil)),
  mOwn 1 f_check_part (mCons (mC (.str [45, 97])) (mNil)),
  mOwn 1 f_check_part (mCons (mC (.str [97, 45])) (mNil)),
  mOwn 1 f_parts_of (mCons (mC (.str [])) (mNil)),
  mOwn 1 f_parts_of (mCons (mC (.str [46, 46])) (mNil)),
  mOwn 1 f_parts_of (mCons (mC (.str [97, 46, 46, 98])) (mNil)),
  mOwn 1 f_parts_of (mCons (mBM .str gJoin (mC (.str [46])) (mCons (m2 gMulF (mLstF (mCons (m2 gMulF (mC (.str [120])) (mC (.int 50))) (mNil))) (mC (.int 6))) (mNil))) (mNil)),
  mOwn 1 f_parts_of (mCons (mC (.str [97, 46, 42])) (mNil)),
  mOwn 1 f_plain_name (mCons (mC (.str [97, 32, 98])) (mNil)),
  mOwn 2 f_is_same_name (mCons (mC (.str [97])) (mCons (mC (.str [])) (mNil))),
  mOwn 1 f_name_above (mCons (mC (.str [])) (mNil)),
  mOwn 1 f_all_above (mCons (mC (.str [])) (mNil)),
  mOwn 2 f_is_in (mCons (mC (.str [])) (mCons (mC (.str [97])) (mNil))),
  mOwn 2 f_is_in (mCons (mC (.str [97])) (mCons (mC (.str [])) (mNil))),
  mOwn 1 f_deep_of (mCons (mC (.str [])) (mNil)),
  mOwn 2 f_full_name (mCons (mC (.str [])) (mCons (mC (.str [97])) (mNil))),
  mOwn 2 f_full_name (mCons (mC (.str [97])) (mCons (mC (.str [])) (mNil))),
  mOwn 2 f_told_from (mCons (mC (.str [])) (mCons (mC (.str [97])) (mNil))),
  mOwn 1 f_key_of (mCons (mC (.str [])) (mNil)),
  mOwn 1 f_in_order (mCons (mTup (mCons (mC (.str [])) (mNil))) (mNil)),
  mOwn 1 f_shared_top (mCons (mTup (mCons (mC (.str [])) (mNil))) (mNil)),
  mOwn 2 f_next_name (mCons (mTup (mNil)) (mCons (mC (.str [97])) (mNil))),
  mOwn 2 f_next_name (mCons (mTup (mCons (mC (.str [97])) (mNil))) (mCons (mC (.str [])) (mNil))),
  mOwn 1 f_told_wide (mCons (mC (.str [])) (mNil)),
  mOwn 1 f_told_wide (mCons (mC (.str [65])) (mNil)),
  mOwn 1 f_read_wide (mCons (mC (.str [120, 110, 45, 97])) (mNil)),
  mOwn 1 f_read_wide (mCons (mC (.str [120, 110, 45, 97, 45, 49, 120, 57, 57])) (mNil)),
  mOwn 1 f_read_wide (mCons (mC (.str [120, 110, 45, 97, 45, 49, 120])) (mNil)),
  mOwn 1 f_read_wide (mCons (mC (.str [120, 110, 45, 97, 45])) (mNil))]
def m_law_plain : MS :=
  sSeq (sAsg (mLstF (mCons (mOwn 1 f_parts_of (mCons (mC (.str [87, 87, 87, 46, 69, 120, 46, 111, 114, 103, 46])) (mNil))) (mCons (mOwn 1 f_plain_name (mCons (mC (.str [97, 46, 98])) (mNil))) (mCons (mOwn 2 f_is_same_name (mCons (mC (.str [65, 46, 98])) (mCons (mC (.str [97, 46, 66, 46])) (mNil)))) (mCons (mOwn 1 f_name_above (mCons (mC (.str [97, 46, 98, 46, 99])) (mNil))) (mCons (mOwn 1 f_all_above (mCons (mC (.str [97, 46, 98])) (mNil))) (mCons (mOwn 2 f_is_in (mCons (mC (.str [97, 46, 98, 46, 99])) (mCons (mC (.str [98, 46, 99])) (mNil)))) (mNil)))))))) (gName' 0))
          (sSeq (sAsg (m2 gAddF (mVar 0) (mLstF (mCons (mOwn 1 f_deep_of (mCons (mC (.str [46])) (mNil))) (mCons (mOwn 2 f_full_name (mCons (mC (.str [64])) (mCons (mC (.str [120, 46, 121])) (mNil)))) (mCons (mOwn 2 f_full_name (mCons (mC (.str [97])) (mCons (mC (.str [120, 46, 121])) (mNil)))) (mCons (mOwn 2 f_full_name (mCons (mC (.str [97, 46])) (mCons (mC (.str [120, 46, 121])) (mNil)))) (mCons (mOwn 2 f_told_from (mCons (mC (.str [97, 46, 120, 46, 121])) (mCons (mC (.str [120, 46, 121])) (mNil)))) (mCons (mOwn 2 f_told_from (mCons (mC (.str [120, 46, 121])) (mCons (mC (.str [120, 46, 121])) (mNil)))) (mNil))))))))) (gName' 0))
          (sSeq (sAsg (m2 gAddF (mVar 0) (mLstF (mCons (mOwn 2 f_told_from (mCons (mC (.str [122])) (mCons (mC (.str [120, 46, 121])) (mNil)))) (mCons (mOwn 1 f_in_order (mCons (mTup (mCons (mC (.str [98, 46, 97])) (mCons (mC (.str [97])) (mCons (mC (.str [122, 46, 98, 46, 97])) (mCons (mC (.str [97, 46, 98])) (mNil)))))) (mNil))) (mCons (mOwn 1 f_shared_top (mCons (mTup (mCons (mC (.str [97, 46, 120, 46, 121])) (mCons (mC (.str [98, 46, 120, 46, 121])) (mNil)))) (mNil))) (mCons (mOwn 2 f_next_name (mCons (mTup (mCons (mC (.str [97])) (mCons (mC (.str [98, 46, 97])) (mCons (mC (.str [99])) (mNil))))) (mCons (mC (.str [98, 46, 97])) (mNil)))) (mNil))))))) (gName' 0))
          (sSeq (sAsg (m2 gAddF (mVar 0) (mLstF (mCons (mOwn 1 f_told_wide (mCons (mC (.str [97, 43, 98, 32, 99])) (mNil))) (mCons (mOwn 1 f_read_wide (mCons (mC (.str [120, 110, 45, 97, 98, 99, 45, 50, 120, 51, 95, 52, 120, 56])) (mNil))) (mCons (mOwn 1 f_told_wide (mCons (mC (.str [97, 98])) (mNil))) (mCons (mOwn 1 f_key_of (mCons (mC (.str [97, 46, 98])) (mNil))) (mCons (mOwn 1 f_check_part (mCons (mC (.str [97])) (mNil))) (mCons (mOwn 1 f_check_part (mCons (mC (.str [42])) (mNil))) (mCons (mOwn 1 f_is_count (mCons (mC (.str [49, 50])) (mNil))) (mNil)))))))))) (gName' 0))
          (sSeq (sAsg (m2 gAddF (mVar 0) (mLstF (mCons (mOwn 1 f_is_count (mCons (mC (.str [120])) (mNil))) (mCons (mOwn 1 f_shared_top (mCons (mTup (mNil)) (mNil))) (mCons (mOwn 1 f_in_order (mCons (mTup (mNil)) (mNil))) (mCons (mOwn 1 f_plain_name (mCons (mC (.str [42, 46, 97])) (mNil))) (mNil))))))) (gName' 0))
          (sSeq (sAsg (mLstF (mCons (mLam 0) (mCons (mLam 1) (mCons (mLam 2) (mCons (mLam 3) (mCons (mLam 4) (mNil))))))) (gName' 1))
          (sSeq (sAsg (m2 gAddF (mVar 1) (mLstF (mCons (mLam 5) (mCons (mLam 6) (mCons (mLam 7) (mCons (mLam 8) (mCons (mLam 9) (mNil)))))))) (gName' 1))
          (sSeq (sAsg (m2 gAddF (mVar 1) (mLstF (mCons (mLam 10) (mCons (mLam 11) (mCons (mLam 12) (mCons (mLam 13) (mCons (mLam 14) (mNil)))))))) (gName' 1))
          (sSeq (sAsg (m2 gAddF (mVar 1) (mLstF (mCons (mLam 15) (mCons (mLam 16) (mCons (mLam 17) (mCons (mLam 18) (mCons (mLam 19) (mNil)))))))) (gName' 1))
          (sSeq (sAsg (m2 gAddF (mVar 1) (mLstF (mCons (mLam 20) (mCons (mLam 21) (mCons (mLam 22) (mCons (mLam 23) (mCons (mLam 24) (mNil)))))))) (gName' 1))
          (sSeq (sAsg (m2 gAddF (mVar 1) (mLstF (mCons (mLam 25) (mCons (mLam 26) (mCons (mLam 27) (mCons (mLam 28) (mCons (mLam 29) (mNil)))))))) (gName' 1))
          (sSeq (sAsg (m2 gAddF (mVar 1) (mLstF (mCons (mLam 30) (mCons (mLam 31) (mNil))))) (gName' 1))
          (sSeq (sIf (m2 gNe (mLcZ (mEnum (mCons (mVar 1) (mNil))) [3, 4] (gSeq' 2 (gsCons (gName' 3) (gsCons (gName' 4) (gsNil)))) (fun e67 => m2 gNe (mTellV isa "LabelError" [76, 97, 98, 101, 108, 69, 114, 114, 111, 114] l_law_plain e67 (mVar 4)) (mC (.str [76, 97, 98, 101, 108, 69, 114, 114, 111, 114]))) (fun e67 => mVar 3)) (mLstF (mNil))) (sRet (mC (.bl false))) (sSkip))
          (sSeq (sIf (m2 gNe (mTup (mCons (mC (.int 63)) (mCons (mC (.int 253)) (mCons (mC (.str [33, 36, 38, 43, 44, 59, 61, 126, 32])) (mNil))))) (mTup (mCons (mC (.int 63)) (mCons (mC (.int 253)) (mCons (mC (.str [33, 36, 38, 43, 44, 59, 61, 126, 32])) (mNil)))))) (sRet (mC (.bl false))) (sSkip))
          (sSeq (sAsg (mLstF (mCons (mTup (mCons (mC (.str [119, 119, 119])) (mCons (mC (.str [101, 120])) (mCons (mC (.str [111, 114, 103])) (mNil))))) (mCons (mC (.str [97, 46, 98, 46])) (mCons (mC (.bl true)) (mCons (mC (.str [98, 46, 99, 46])) (mCons (mTup (mCons (mC (.str [97, 46, 98, 46])) (mCons (mC (.str [98, 46])) (mCons (mC (.str [46])) (mNil))))) (mCons (mC (.bl true)) (mCons (mC (.int 0)) (mCons (mC (.str [120, 46, 121, 46])) (mCons (mC (.str [97, 46, 120, 46, 121, 46])) (mCons (mC (.str [97, 46])) (mCons (mC (.str [97])) (mCons (mC (.str [64])) (mCons (mC (.str [122, 46])) (mNil))))))))))))))) (gName' 2))
          (sSeq (sAsg (m2 gAddF (mVar 2) (mLstF (mCons (mTup (mCons (mC (.str [97, 46])) (mCons (mC (.str [98, 46, 97, 46])) (mCons (mC (.str [122, 46, 98, 46, 97, 46])) (mCons (mC (.str [97, 46, 98, 46])) (mNil)))))) (mCons (mC (.str [120, 46, 121, 46])) (mCons (mC (.str [99, 46])) (mCons (mC (.str [120, 110, 45, 97, 98, 99, 45, 50, 120, 51, 95, 52, 120, 56])) (mCons (mC (.str [97, 43, 98, 32, 99])) (mCons (mC (.str [97, 98])) (mCons (mTup (mCons (mC (.str [98])) (mCons (mC (.str [97])) (mNil)))) (mCons (mC .non) (mCons (mC .non) (mCons (mC (.bl true)) (mCons (mC (.bl false)) (mCons (mC (.str [46])) (mCons (mTup (mNil)) (mCons (mC (.str [42, 46, 97, 46])) (mNil))))))))))))))))) (gName' 2))
          (sRet (m2 gEq (mVar 0) (mVar 2))))))))))))))))))
def f_law_plain : Fn := fnK ["told", "bad", "due", "k", "f"] m_law_plain
def m_law1 : MS := sFor (mItV (mOwn 2 f_law_rounds (mCons (mVar 0) (mCons (mC (.int 1)) (mNil))))) (gName' 1) (sSeq (sAsg (mLcF (mRng1 (mCons (mC (.int 6)) (mNil))) [18] (gName' 18) (mC (.bl true)) (mOwn 1 f_law_name (mCons (mVar 1) (mNil)))) (gName' 2))
          (sSeq (sAsg (mTup (mCons (m2 gGet (mVar 2) (mC (.int 0))) (mCons (m2 gGet (mVar 2) (mC (.int 1))) (mNil)))) (gSeq' 2 (gsCons (gSeq' 2 (gsCons (gName' 3) (gsCons (gName' 4) (gsNil)))) (gsCons (gSeq' 2 (gsCons (gName' 5) (gsCons (gName' 6) (gsNil)))) (gsNil)))))
          (sSeq (sAsg (mOr (m2 gEq (mVar 6) (mLstF (mNil))) (m2 gEq (mSlF (mVar 4) (mPart (m1 gNeg (mCall gLenU (mCons (mVar 6) (mNil))))) (mNoPart)) (mVar 6))) (gName' 7))
          (sSeq (sIf (mOr (m2 gNe (mCall gListF (mCons (mOwn 1 f_parts_of (mCons (mVar 3) (mNil))) (mNil))) (mVar 4)) (m2 gNe (mOwn 1 f_plain_name (mCons (mVar 3) (mNil))) (mOwn 1 f_law_plain_name (mCons (mVar 4) (mNil))))) (sRet (mC (.bl false))) (sSkip))
          (sSeq (sIf (mOr (m2 gNe (mOwn 2 f_is_same_name (mCons (mVar 3) (mCons (mVar 5) (mNil)))) (m2 gEq (mVar 4) (mVar 6))) (m2 gNe (mOwn 1 f_deep_of (mCons (mVar 3) (mNil))) (mCall gLenU (mCons (mVar 4) (mNil))))) (sRet (mC (.bl false))) (sSkip))
          (sSeq (sIf (mOr (m2 gNe (mCall gListF (mCons (mOwn 1 f_key_of (mCons (mVar 3) (mNil))) (mNil))) (m1 gRev (mVar 4))) (m2 gNe (mOwn 1 f_name_above (mCons (mVar 3) (mNil))) (mOwn 1 f_law_plain_name (mCons (mSlF (mVar 4) (mPart (mC (.int 1))) (mNoPart)) (mNil))))) (sRet (mC (.bl false))) (sSkip))
          (sSeq (sIf (m2 gNe (mCall gListF (mCons (mOwn 1 f_all_above (mCons (mVar 3) (mNil))) (mNil))) (mLcF (mRng1 (mCons (m2 gAddF (mCall gLenU (mCons (mVar 4) (mNil))) (mC (.int 1))) (mNil))) [18] (gName' 18) (mC (.bl true)) (mOwn 1 f_law_plain_name (mCons (mSlF (mVar 4) (mPart (mVar 18)) (mNoPart)) (mNil))))) (sRet (mC (.bl false))) (sSkip))
          (sSeq (sIf (m2 gNe (mOwn 2 f_is_in (mCons (mVar 3) (mCons (mVar 5) (mNil)))) (mVar 7)) (sRet (mC (.bl false))) (sSkip))
          (sSeq (sAsg (mSlF (mVar 4) (mNoPart) (mPart (m2 Sh.gSub (mCall gLenU (mCons (mVar 4) (mNil))) (mCall gLenU (mCons (mVar 6) (mNil)))))) (gName' 8))
          (sSeq (sAsg (mIf (mOr (mNot (mVar 7)) (m2 gEq (mVar 6) (mLstF (mNil)))) (mOwn 1 f_law_plain_name (mCons (mVar 4) (mNil))) (mIf (m2 gNe (mVar 8) (mLstF (mNil))) (mBM .str gJoin (mC (.str [46])) (mCons (mVar 8) (mNil))) (mC (.str [64])))) (gName' 9))
          (sSeq (sIf (mOr (m2 gNe (mOwn 2 f_told_from (mCons (mVar 3) (mCons (mVar 5) (mNil)))) (mVar 9)) (m2 gNe (mOwn 2 f_full_name (mCons (mVar 9) (mCons (mVar 5) (mNil)))) (mOwn 1 f_law_plain_name (mCons (mVar 4) (mNil))))) (sRet (mC (.bl false))) (sSkip))
          (sSeq (sIf (m2 gNe (mOwn 2 f_full_name (mCons (mC (.str [64])) (mCons (mVar 5) (mNil)))) (mOwn 1 f_law_plain_name (mCons (mVar 6) (mNil)))) (sRet (mC (.bl false))) (sSkip))
          (sSeq (sIf (m2 gNe (mOwn 2 f_full_name (mCons (mVar 3) (mCons (mVar 5) (mNil)))) (mIf (m2 gEq (m2 gGet (mVar 3) (m1 gNeg (mC (.int 1)))) (mC (.str [46]))) (mOwn 1 f_law_plain_name (mCons (mVar 4) (mNil))) (mOwn 1 f_law_plain_name (mCons (m2 gAddF (mVar 4) (mVar 6)) (mNil))))) (sRet (mC (.bl false))) (sSkip))
          (sSeq (sAsg (mCall gSorted (mCons (mCall (gDict true) (mCons (mLcF (mItV (mVar 2)) [10, 19] (gSeq' 2 (gsCons (gName' 10) (gsCons (gName' 19) (gsNil)))) (mC (.bl true)) (mTup (mCons (mCall gTuple (mCons (m1 gRev (mVar 19)) (mNil))) (mCons (mC (.int 1)) (mNil))))) (mNil))) (mNil))) (gName' 11))
          (sSeq (sAsg (mLcF (mItV (mVar 11)) [20] (gName' 20) (mC (.bl true)) (mOwn 1 f_law_plain_name (mCons (mCall gListF (mCons (m1 gRev (mVar 20)) (mNil))) (mNil)))) (gName' 12))
          (sSeq (sAsg (m2 gGet (mLcF (mRng1 (mCons (mC (.int 6)) (mNil))) [18] (gName' 18) (m2 gEq (mLcF (mItV (mVar 2)) [10, 19] (gSeq' 2 (gsCons (gName' 10) (gsCons (gName' 19) (gsNil)))) (mOr (m2 gNe (mSlF (m1 gRev (mVar 19)) (mNoPart) (mPart (mVar 18))) (mSlF (m1 gRev (m2 gGet (m2 gGet (mVar 2) (mC (.int 0))) (mC (.int 1)))) (mNoPart) (mPart (mVar 18)))) (m2 gLtU (mCall gLenU (mCons (mVar 19) (mNil))) (mVar 18))) (mVar 19)) (mLstF (mNil))) (mVar 18)) (m1 gNeg (mC (.int 1)))) (gName' 13))
          (sSeq (sAsg (mLcF (mItV (mVar 11)) [20] (gName' 20) (m2 gGtU (mVar 20) (mCall gTuple (mCons (m1 gRev (mVar 4)) (mNil)))) (mOwn 1 f_law_plain_name (mCons (mCall gListF (mCons (m1 gRev (mVar 20)) (mNil))) (mNil)))) (gName' 14))
          (sSeq (sIf (m2 gNe (mCall gListF (mCons (mOwn 1 f_in_order (mCons (mLcF (mItV (mVar 2)) [10, 19] (gSeq' 2 (gsCons (gName' 10) (gsCons (gName' 19) (gsNil)))) (mC (.bl true)) (mVar 10)) (mNil))) (mNil))) (mVar 12)) (sRet (mC (.bl false))) (sSkip))
          (sSeq (sIf (m2 gNe (mOwn 1 f_shared_top (mCons (mLcF (mItV (mVar 2)) [10, 19] (gSeq' 2 (gsCons (gName' 10) (gsCons (gName' 19) (gsNil)))) (mC (.bl true)) (mVar 10)) (mNil))) (mOwn 1 f_law_plain_name (mCons (mSlF (mVar 4) (mPart (m2 Sh.gSub (mCall gLenU (mCons (mVar 4) (mNil))) (mVar 13))) (mNoPart)) (mNil)))) (sRet (mC (.bl false))) (sSkip))
          (sSeq (sIf (m2 gNe (mOwn 2 f_next_name (mCons (mLcF (mItV (mSlF (mVar 2) (mPart (mC (.int 1))) (mNoPart))) [10, 19] (gSeq' 2 (gsCons (gName' 10) (gsCons (gName' 19) (gsNil)))) (mC (.bl true)) (mVar 10)) (mCons (mVar 3) (mNil)))) (m2 gGet (mLcF (mItV (m2 gAddF (mVar 14) (mVar 12))) [21] (gName' 21) (mOr (m2 gNe (mVar 21) (mOwn 1 f_law_plain_name (mCons (mVar 4) (mNil)))) (m2 (gInU false) (mVar 4) (mLcF (mItV (mSlF (mVar 2) (mPart (mC (.int 1))) (mNoPart))) [10, 19] (gSeq' 2 (gsCons (gName' 10) (gsCons (gName' 19) (gsNil)))) (mC (.bl true)) (mVar 19)))) (mVar 21)) (mC (.int 0)))) (sRet (mC (.bl false))) (sSkip))
          (sSeq (sAsg (mBM .str gJoin (mC (.str [])) (mCons (mLcF (mRng1 (mCons (m2 gAddF (mC (.int 1)) (mOwn 2 (f_law_roll 2) (mCons (mVar 1) (mCons (mC (.int 6)) (mNil))))) (mNil))) [18] (gName' 18) (mC (.bl true)) (m2 gGet (mC (.str [97, 98, 49, 33, 43, 32, 126])) (mOwn 2 (f_law_roll 2) (mCons (mVar 1) (mCons (mC (.int 7)) (mNil)))))) (mNil))) (gName' 10))
          (sSeq (sAsg (mOwn 1 f_told_wide (mCons (mVar 10) (mNil))) (gName' 15))
          (sSeq (sIf (mOr (m2 gNe (mVar 15) (mOwn 1 f_law_wide (mCons (mVar 10) (mNil)))) (m2 gNe (mOwn 1 f_read_wide (mCons (mVar 15) (mNil))) (mVar 10))) (sRet (mC (.bl false))) (sSkip))
          (sSeq (sIf (m2 gNe (mLcF (mItV (mVar 15)) [22] (gName' 22) (m2 (gInU true) (mVar 22) (mC (.str [97, 98, 99, 100, 101, 102, 103, 104, 105, 106, 107, 108, 109, 110, 111, 112, 113, 114, 115, 116, 117, 118, 119, 120, 121, 122, 48, 49, 50, 51, 52, 53, 54, 55, 56, 57, 45, 95]))) (mVar 22)) (mLstF (mNil))) (sRet (mC (.bl false))) (sSkip))
          (sSeq (sAsg (m2 gAddF (mC (.str [120, 110, 45])) (mBM .str gJoin (mC (.str [])) (mCons (mLcF (mRng1 (mCons (mOwn 2 (f_law_roll 2) (mCons (mVar 1) (mCons (mC (.int 7)) (mNil)))) (mNil))) [18] (gName' 18) (mC (.bl true)) (m2 gGet (mC (.str [97, 49, 50, 120, 95, 45])) (mOwn 2 (f_law_roll 2) (mCons (mVar 1) (mCons (mC (.int 6)) (mNil)))))) (mNil)))) (gName' 17))
          (sSeq (sAsg (mTell isa "LabelError" [76, 97, 98, 101, 108, 69, 114, 114, 111, 114] (mOwn 1 f_read_wide (mCons (mVar 17) (mNil)))) (gName' 16))
          (sIf (mAnd (m2 gNe (mVar 16) (mC (.str [76, 97, 98, 101, 108, 69, 114, 114, 111, 114]))) (m2 gNe (mOwn 1 f_told_wide (mCons (mVar 16) (mNil))) (mVar 17))) (sRet (mC (.bl false))) (sSkip))))))))))))))))))))))))))))
def m_law2 : MS := sRet (mOwn 0 f_law_plain mNil)
/-! ### what the head tells -/
def d_law_told : He.DefD := ⟨("_law_told", none), "_law_told", "_law_told", defArgs s_law_told, defBody s_law_told, defScope s_law_told, [], []⟩
def d_law : He.DefD := ⟨("law", none), "law", "law", defArgs s_law, defBody s_law, defScope s_law, [], []⟩
def d_law_rounds : He.DefD := ⟨("_law_rounds", none), "_law_rounds", "_law_rounds", defArgs s_law_rounds, defBody s_law_rounds, defScope s_law_rounds, [], []⟩
def d_law_dice : He.DefD := ⟨("_law_dice", none), "_law_dice", "_law_dice", defArgs s_law_dice, defBody s_law_dice, defScope s_law_dice, [], []⟩
def d_told_wide : He.DefD := ⟨("told_wide", none), "told_wide", "told_wide", defArgs s_told_wide, defBody s_told_wide, defScope s_told_wide, [], []⟩
def d_read_wide : He.DefD := ⟨("read_wide", none), "read_wide", "read_wide", defArgs s_read_wide, defBody s_read_wide, defScope s_read_wide, [], []⟩
def d_is_count : He.DefD := ⟨("is_count", none), "is_count", "is_count", defArgs s_is_count, defBody s_is_count, defScope s_is_count, [], []⟩
def d_law_roll : He.DefD := ⟨("_law_roll", none), "_law_roll", "_law_roll", defArgs s_law_roll, defBody s_law_roll, defScope s_law_roll, [], []⟩
def d_law_wide : He.DefD := ⟨("_law_wide", none), "_law_wide", "_law_wide", defArgs s_law_wide, defBody s_law_wide, defScope s_law_wide, [], []⟩
def d_next_name : He.DefD := ⟨("next_name", none), "next_name", "next_name", defArgs s_next_name, defBody s_next_name, defScope s_next_name, [], []⟩
def d_key_of : He.DefD := ⟨("key_of", none), "key_of", "key_of", defArgs s_key_of, defBody s_key_of, defScope s_key_of, [], []⟩
def d_parts_of : He.DefD := ⟨("parts_of", none), "parts_of", "parts_of", defArgs s_parts_of, defBody s_parts_of, defScope s_parts_of, [], []⟩
def d_check_part : He.DefD := ⟨("check_part", none), "check_part", "check_part", defArgs s_check_part, defBody s_check_part, defScope s_check_part, [], []⟩
def d_in_order : He.DefD := ⟨("in_order", none), "in_order", "in_order", defArgs s_in_order, defBody s_in_order, defScope s_in_order, [], []⟩
def d_law_plain_name : He.DefD := ⟨("_law_plain_name", none), "_law_plain_name", "_law_plain_name", defArgs s_law_plain_name, defBody s_law_plain_name, defScope s_law_plain_name, [], []⟩
def d_shared_top : He.DefD := ⟨("shared_top", none), "shared_top", "shared_top", defArgs s_shared_top, defBody s_shared_top, defScope s_shared_top, [], []⟩
def d_full_name : He.DefD := ⟨("full_name", none), "full_name", "full_name", defArgs s_full_name, defBody s_full_name, defScope s_full_name, [], []⟩
def d_plain_name : He.DefD := ⟨("plain_name", none), "plain_name", "plain_name", defArgs s_plain_name, defBody s_plain_name, defScope s_plain_name, [], []⟩
def d_told_from : He.DefD := ⟨("told_from", none), "told_from", "told_from", defArgs s_told_from, defBody s_told_from, defScope s_told_from, [], []⟩
def d_deep_of : He.DefD := ⟨("deep_of", none), "deep_of", "deep_of", defArgs s_deep_of, defBody s_deep_of, defScope s_deep_of, [], []⟩
def d_is_in : He.DefD := ⟨("is_in", none), "is_in", "is_in", defArgs s_is_in, defBody s_is_in, defScope s_is_in, [], []⟩
def d_all_above : He.DefD := ⟨("all_above", none), "all_above", "all_above", defArgs s_all_above, defBody s_all_above, defScope s_all_above, [], []⟩
def d_name_above : He.DefD := ⟨("name_above", none), "name_above", "name_above", defArgs s_name_above, defBody s_name_above, defScope s_name_above, [], []⟩
def d_is_same_name : He.DefD := ⟨("is_same_name", none), "is_same_name", "is_same_name", defArgs s_is_same_name, defBody s_is_same_name, defScope s_is_same_name, [], []⟩
def d_law_name : He.DefD := ⟨("_law_name", none), "_law_name", "_law_name", defArgs s_law_name, defBody s_law_name, defScope s_law_name, [], []⟩
def d_law_plain : He.DefD := ⟨("_law_plain", none), "_law_plain", "_law_plain", defArgs s_law_plain, defBody s_law_plain, defScope s_law_plain, [], []⟩
def fn : List He.DefD := [d_law_told, d_law, d_law_rounds, d_law_dice, d_told_wide, d_read_wide, d_is_count, d_law_roll, d_law_wide, d_next_name, d_key_of, d_parts_of, d_check_part, d_in_order, d_law_plain_name, d_shared_top, d_full_name, d_plain_name, d_told_from, d_deep_of, d_is_in, d_all_above, d_name_above, d_is_same_name, d_law_name, d_law_plain]
def fa : List He.Fa := [.free "int", .free "abs", .glo "_law_dice", .glo "_law_rounds", .str "SIGNS_OF_PART" "abcdefghijklmnopqrstuvwxyz0123456789-_", .free "enumerate", .str "MORE_SIGNS" "!$&+,;=~ ", .free "any", .exc "LabelError", .glo "LabelError", .glo "told_wide", .exm "NameFault" "LabelError" false, .exm "LabelError" "LabelError" true, .free "len", .free "all", .glo "is_count", .free "list", .glo "read_wide", .glo "_law_told", .free "range", .glo "_law_roll", .free "str", .glo "_law_wide", .int "MOST_PART" 63, .glo "check_part", .free "tuple", .int "MOST_WHOLE" 253, .glo "parts_of", .glo "key_of", .free "sorted", .glo "in_order", .glo "next_name", .glo "_law_plain_name", .glo "shared_top", .free "dict", .glo "plain_name", .glo "full_name", .glo "deep_of", .glo "is_in", .glo "told_from", .glo "all_above", .glo "name_above", .glo "is_same_name", .glo "_law_name", .glo "_law_plain", .glo "law"]
def tn : TnL := [(("told_wide", none), nmOf "told_wide.<locals>." []), (("is_count", none), nmOf "is_count.<locals>." []), (("law", none), nmOf "law.<locals>." [(234, 25)]), (("check_part", none), nmOf "check_part.<locals>." []), (("in_order", none), nmOf "in_order.<locals>." []), (("shared_top", none), nmOf "shared_top.<locals>." []), (("all_above", none), nmOf "all_above.<locals>." []), (("_law_plain", none), nmOf "_law_plain.<locals>." [(149, 0), (150, 0), (151, 0), (152, 0), (153, 0), (155, 0), (156, 0), (157, 0), (158, 0), (159, 0), (161, 0), (162, 0), (163, 0), (164, 0), (165, 0), (167, 0), (168, 0), (169, 0), (170, 0), (171, 0), (173, 0), (174, 0), (175, 0), (176, 0), (177, 0), (179, 0), (180, 0), (181, 0), (182, 0), (183, 0), (185, 0), (186, 0)])]
def xs : List String := ["NameFault", "LabelError"]
def lay : String → List Str := fun C =>  []
abbrev ZZ (G : Gx) (w : World) (mg : Str → Option Value) (h base : Heap) : Prop := Zx fa fn tn xs lay G w mg h base
section
variable {P : Program} {w : World} {G : Gx} {mg : Str → Option Value} {h base : Heap}
theorem ns_ok (Z : ZZ G w mg h base) : NoStp G.K ["NameFault", "LabelError"] := Z.ns
theorem isa_ok (Z : ZZ G w mg h base) : IsaOk G isa := Z.io fun c d b e => by
  unfold isa at e
  repeat
    split at e
    · rename_i z; obtain ⟨rfl, rfl⟩ := z; exact e
  cases e
theorem told (Z : ZZ G w mg h base) : Told G mg "_law_told" "what" "LabelError" [76, 97, 98, 101, 108, 69, 114, 114, 111, 114] ["what"] (defScope s_law_told) (He.fAd G.K ("_law_told", none)) := by
  obtain ⟨fd, F⟩ := Z.def_ 0 (d := d_law_told) rfl
  exact ⟨⟨fd, _, _, _, _, _, _, _, _, _, _, _, _, F, rfl, rfl, Z.glo 9 rfl, rfl, fun _ _ _ _ _ _ us hl => match us, hl with | [_], _ => rfl⟩, ⟨rfl, rfl, rfl, by decide +kernel, rfl, by decide +kernel, by decide +kernel⟩, .inl rfl, rfl, rfl⟩
theorem sc_law_dice : FnScope ["cell"] ["cell"] (defScope s_law_dice) := ⟨rfl, rfl, rfl, by decide +kernel, rfl, by decide +kernel, by decide +kernel⟩
theorem k_law_dice (Z : ZZ G w mg h base) : Kn G P w mg base 1 (He.fAd G.K ("_law_dice", none)) 1 f_law_dice := by
  obtain ⟨fd, F⟩ := Z.def_ 3 (d := d_law_dice) rfl
  exact kn_of (k := 0) (ps := ["cell"]) F sc_law_dice (fun _ _ _ _ _ _ us hl => match us, hl with | [_], _ => rfl) rfl fun cdv A outer s H E ecd Cs =>
          sb_cons (ss_if (c_ch p_lt p_lt (e_sub (se_int) (se_int)) (se_var 0 (pv 0)) (se_int)) (sb_one (ss_ret (se_lst (sa_cons (e_abs Cs.toCan (Z.free 1 rfl) rfl (sa_cons (se_var 0 (pv 0)) (sa_nil))) (sa_cons (se_int) (sa_cons (se_int) (sa_nil))))))) (sb_nil))
          (sb_one (ss_ret (se_lst (sa_cons (se_var 0 (pv 0)) (sa_cons (e_add Cs.toCan (se_int) (e_mod (e_intU Cs.toCan (Z.free 0 rfl) rfl (sa_cons (se_var 0 (pv 0)) (sa_nil))) (se_int))) (sa_cons (e_intU Cs.toCan (Z.free 0 rfl) rfl (sa_cons (e_geU Cs.toCan (se_var 0 (pv 0)) (e_pow (se_int) (se_int))) (sa_nil))) (sa_nil)))))))
theorem sc_law_rounds : FnScope ["script", "most", "cells", "cell"] ["script", "most"] (defScope s_law_rounds) := ⟨rfl, rfl, rfl, by decide +kernel, rfl, by decide +kernel, by decide +kernel⟩
theorem k_law_rounds (Z : ZZ G w mg h base) : Kn G P w mg base 2 (He.fAd G.K ("_law_rounds", none)) 2 f_law_rounds := by
  obtain ⟨fd, F⟩ := Z.def_ 2 (d := d_law_rounds) rfl
  exact kn_of (k := 1) (ps := ["script", "most"]) F sc_law_rounds (fun _ _ _ _ _ _ us hl => match us, hl with | [_, _], _ => rfl) rfl fun cdv A outer s H E ecd Cs =>
          sb_cons (ss_asg (se_sliceF Cs.toCan.hK (se_var 0 (pv 0)) (so_none) (so_some (se_var 1 (pv 1)))) (t_nm 2 Cs.toCan))
          (sb_cons (ss_if (c_eq Cs.toCan (se_var 2 (pv 2)) (se_lstF (sa_nil))) (sb_one (ss_asg (se_lstF (sa_cons (se_int) (sa_nil))) (t_nm 2 Cs.toCan))) (sb_nil))
          (sb_one (ss_ret (se_lcF (own := [("cell", 3)]) Cs.toCan (si_val Cs.toCan.hK (se_var 2 (pv 2))) (blkOk_by rfl) (fun _ _ _ _ _ _ _ C1 => ⟨t_nm 3 C1, sq_nil, se_call C1 ((k_law_dice Z).mono (by omega)) rfl (Z.glo 2 rfl) (sa_cons (se_var 3 (pv 3)) (sa_nil))⟩)))))
theorem sc_told_wide : FnScope ["text", "odd", "plain", "sign", "place", "number"] ["text"] (defScope s_told_wide) := ⟨rfl, rfl, rfl, by decide +kernel, rfl, by decide +kernel, by decide +kernel⟩
theorem k_told_wide (Z : ZZ G w mg h base) : Kn G P w mg base 4 (He.fAd G.K ("told_wide", none)) 1 f_told_wide := by
  obtain ⟨fd, F⟩ := Z.def_ 4 (d := d_told_wide) rfl
  exact kn_of (k := 3) (ps := ["text"]) F sc_told_wide (fun _ _ _ _ _ _ us hl => match us, hl with | [_], _ => rfl) rfl fun cdv A outer s H E ecd Cs =>
          sb_cons (ss_if (sc_w (sw_or (c_eq Cs.toCan (se_var 0 (pv 0)) (se_str)) (sw_or1 (sc_val (se_any (own := [("sign", 3)]) (cs := ["NameFault", "LabelError"]) Cs.toCan (si_val Cs.toCan.hK (se_var 0 (pv 0))) ⟨⟨_, _, _, (Z.ct 0 ecd rfl), rfl⟩, ns_ok Z, blkOk_by rfl, by decide +kernel, rfl, rfl, (fun _ _ _ _ _ _ _ _ _ C5 => ⟨t_nm 3 C5, sq_nil, se_and (e_ninU C5 (se_var 3 (pv 3)) (se_gs (Z.str 4 rfl) rfl)) (se_one (e_ninU C5 (se_var 3 (pv 3)) (se_gs (Z.str 6 rfl) rfl)))⟩), fun _ => rfl⟩ rfl (Z.free 7 rfl)))))) (sb_one (ss_raise Cs (Z.kx 8 rfl) rfl (Z.glo 9 rfl))) (sb_nil))
          (sb_cons (ss_setLcF (i := 1) (own := [("place", 4), ("sign", 3)]) Cs.toCan rfl rfl rfl (si_enum Cs.toCan.hK rfl (Z.free 5 rfl) (sa_cons (se_var 0 (pv 0)) (sa_nil))) (blkOk_by rfl) (fun _ _ _ _ _ _ _ C4 => ⟨sg_seq C4 (sgs_cons (t_nm 4 C4) (sgs_cons (t_nm 3 C4) (sgs_nil))), sq_one (c_inU C4 (se_var 3 (pv 3)) (se_gs (Z.str 6 rfl) rfl)), se_tup (sa_cons (e_addF C4 (se_var 4 (pv 4)) (se_int)) (sa_cons (e_sindex C4 (se_gs (Z.str 6 rfl) rfl) (sa_cons (se_var 3 (pv 3)) (sa_nil))) (sa_nil)))⟩))
          (sb_cons (ss_if (c_eq Cs.toCan (se_var 1 (pv 1)) (se_lstF (sa_nil))) (sb_one (ss_ret (se_var 0 (pv 0)))) (sb_nil))
          (sb_cons (ss_asg (e_join Cs.toCan (se_str) (sa_cons (se_lcF (own := [("sign", 3)]) Cs.toCan (si_val Cs.toCan.hK (se_var 0 (pv 0))) (blkOk_by rfl) (fun _ _ _ _ _ _ _ C3 => ⟨t_nm 3 C3, sq_one (c_inU C3 (se_var 3 (pv 3)) (se_gs (Z.str 4 rfl) rfl)), se_var 3 (pv 3)⟩)) (sa_nil))) (t_nm 2 Cs.toCan))
          (sb_one (ss_ret (e_addF Cs.toCan (e_addF Cs.toCan (e_addF Cs.toCan (se_str) (se_var 2 (pv 2))) (se_str)) (e_join Cs.toCan (se_str) (sa_cons (se_lcF (own := [("place", 4), ("number", 5)]) Cs.toCan (si_val Cs.toCan.hK (se_var 1 (pv 1))) (blkOk_by rfl) (fun _ _ _ _ _ _ _ C2 => ⟨sg_seq C2 (sgs_cons (t_nm 4 C2) (sgs_cons (t_nm 5 C2) (sgs_nil))), sq_nil, se_joined (SJ.cons (se_fmt (se_var 4 (pv 4))) (SJ.cons (se_str) (SJ.cons (se_fmt (se_var 5 (pv 5))) (SJ.nil))))⟩)) (sa_nil)))))))))
theorem sc_is_count : FnScope ["word", "sign"] ["word"] (defScope s_is_count) := ⟨rfl, rfl, rfl, by decide +kernel, rfl, by decide +kernel, by decide +kernel⟩
theorem k_is_count (Z : ZZ G w mg h base) : Kn G P w mg base 4 (He.fAd G.K ("is_count", none)) 1 f_is_count := by
  obtain ⟨fd, F⟩ := Z.def_ 6 (d := d_is_count) rfl
  exact kn_of (k := 3) (ps := ["word"]) F sc_is_count (fun _ _ _ _ _ _ us hl => match us, hl with | [_], _ => rfl) rfl fun cdv A outer s H E ecd Cs =>
          sb_one (ss_ret (se_and (e_ch p_le p_le (se_int) (e_lenU Cs.toCan (Z.free 13 rfl) rfl (sa_cons (se_var 0 (pv 0)) (sa_nil))) (se_int)) (se_one (se_all (own := [("sign", 1)]) (cs := ["NameFault", "LabelError"]) Cs.toCan (si_val Cs.toCan.hK (se_var 0 (pv 0))) ⟨⟨_, _, _, (Z.ct 1 ecd rfl), rfl⟩, ns_ok Z, blkOk_by rfl, by decide +kernel, rfl, rfl, (fun _ _ _ _ _ _ _ _ _ C7 => ⟨t_nm 1 C7, sq_nil, e_inU C7 (se_var 1 (pv 1)) (se_str)⟩), fun _ => rfl⟩ rfl (Z.free 14 rfl) bt_all))))
theorem sc_read_wide : FnScope ["part", "plain", "mark", "tail", "found", "one", "place", "cross", "number", "text"] ["part"] (defScope s_read_wide) := ⟨rfl, rfl, rfl, by decide +kernel, rfl, by decide +kernel, by decide +kernel⟩
theorem k_read_wide (Z : ZZ G w mg h base) : Kn G P w mg base 5 (He.fAd G.K ("read_wide", none)) 1 f_read_wide := by
  obtain ⟨fd, F⟩ := Z.def_ 5 (d := d_read_wide) rfl
  exact kn_of (k := 4) (ps := ["part"]) F sc_read_wide (fun _ _ _ _ _ _ us hl => match us, hl with | [_], _ => rfl) rfl fun cdv A outer s H E ecd Cs =>
          sb_cons (ss_if (c_ne Cs.toCan (se_sliceF Cs.toCan.hK (se_var 0 (pv 0)) (so_none) (so_some (se_int))) (se_str)) (sb_one (ss_ret (se_var 0 (pv 0)))) (sb_nil))
          (sb_cons (ss_asg (e_rpart Cs.toCan (se_sliceF Cs.toCan.hK (se_var 0 (pv 0)) (so_some (se_int)) (so_none)) (sa_cons (se_str) (sa_nil))) (sg_seq Cs.toCan (sgs_cons (t_nm 1 Cs.toCan) (sgs_cons (t_nm 2 Cs.toCan) (sgs_cons (t_nm 3 Cs.toCan) (sgs_nil))))))
          (sb_cons (ss_asg (e_listF Cs.toCan (Z.free 16 rfl) rfl (sa_cons (se_var 1 (pv 1)) (sa_nil))) (t_nm 4 Cs.toCan))
          (sb_cons (ss_for Cs (si_val Cs.toCan.hK (e_split Cs.toCan (se_var 3 (pv 3)) (sa_cons (se_str) (sa_nil)))) (t_nm 5 Cs.toCan) (sb_cons (ss_asg (e_part Cs.toCan (se_var 5 (pv 5)) (sa_cons (se_str) (sa_nil))) (sg_seq Cs.toCan (sgs_cons (t_nm 6 Cs.toCan) (sgs_cons (t_nm 7 Cs.toCan) (sgs_cons (t_nm 8 Cs.toCan) (sgs_nil))))))
          (sb_cons (ss_if (sc_w (sw_or (c_eq Cs.toCan (se_var 2 (pv 2)) (se_str)) (sw_or (sc_not (sc_val (se_call Cs.toCan ((k_is_count Z).mono (by omega)) rfl (Z.glo 15 rfl) (sa_cons (se_var 6 (pv 6)) (sa_nil))))) (sw_or (sc_not (sc_val (se_call Cs.toCan ((k_is_count Z).mono (by omega)) rfl (Z.glo 15 rfl) (sa_cons (se_var 8 (pv 8)) (sa_nil))))) (sw_or1 (c_geU Cs.toCan (e_intU Cs.toCan (Z.free 0 rfl) rfl (sa_cons (se_var 8 (pv 8)) (sa_nil))) (e_lenU Cs.toCan (Z.free 13 rfl) rfl (sa_cons (se_gs (Z.str 6 rfl) rfl) (sa_nil))))))))) (sb_one (ss_raise Cs (Z.kx 8 rfl) rfl (Z.glo 9 rfl))) (sb_nil))
          (sb_one (ss_asg (e_addF Cs.toCan (e_addF Cs.toCan (se_sliceF Cs.toCan.hK (se_var 4 (pv 4)) (so_none) (so_some (e_sub (e_intU Cs.toCan (Z.free 0 rfl) rfl (sa_cons (se_var 6 (pv 6)) (sa_nil))) (se_int)))) (se_lstF (sa_cons (e_get Cs.toCan (se_gs (Z.str 6 rfl) rfl) (e_intU Cs.toCan (Z.free 0 rfl) rfl (sa_cons (se_var 8 (pv 8)) (sa_nil)))) (sa_nil)))) (se_sliceF Cs.toCan.hK (se_var 4 (pv 4)) (so_some (e_sub (e_intU Cs.toCan (Z.free 0 rfl) rfl (sa_cons (se_var 6 (pv 6)) (sa_nil))) (se_int))) (so_none))) (t_nm 4 Cs.toCan))))))
          (sb_cons (ss_asg (e_join Cs.toCan (se_str) (sa_cons (se_var 4 (pv 4)) (sa_nil))) (t_nm 9 Cs.toCan))
          (sb_cons (ss_if (c_ne Cs.toCan (se_call Cs.toCan ((k_told_wide Z).mono (by omega)) rfl (Z.glo 10 rfl) (sa_cons (se_var 9 (pv 9)) (sa_nil))) (se_var 0 (pv 0))) (sb_one (ss_raise Cs (Z.kx 8 rfl) rfl (Z.glo 9 rfl))) (sb_nil))
          (sb_one (ss_ret (se_var 9 (pv 9)))))))))
theorem sc_law_roll : FnScope ["dice", "many", "found"] ["dice", "many"] (defScope s_law_roll) := ⟨rfl, rfl, rfl, by decide +kernel, rfl, by decide +kernel, by decide +kernel⟩
theorem k_law_roll (Z : ZZ G w mg h base) : ∀ n : Nat, Kn G P w mg base (n + 1) (He.fAd G.K ("_law_roll", none)) 2 (f_law_roll n)
  | 0 => by
    obtain ⟨fd, F⟩ := Z.def_ 7 (d := d_law_roll) rfl
    exact kn_bad (k := 0) (ps := ["dice", "many"]) F sc_law_roll (fun _ _ _ _ _ _ us hl => match us, hl with | [_, _], _ => rfl)
  | n + 1 => by
    have ih := k_law_roll Z n
    obtain ⟨fd, F⟩ := Z.def_ 7 (d := d_law_roll) rfl
    exact kn_of (k := n + 1) (ps := ["dice", "many"]) F sc_law_roll (fun _ _ _ _ _ _ us hl => match us, hl with | [_, _], _ => rfl) rfl fun cdv A outer s H E ecd Cs =>
          sb_cons (ss_if (sc_w (sw_or (c_eq Cs.toCan (e_get Cs.toCan (se_var 0 (pv 0)) (se_int)) (se_int)) (sw_or1 (sc_w (sw_and (c_eq Cs.toCan (e_get Cs.toCan (se_var 0 (pv 0)) (se_int)) (se_int)) (sw_and1 (c_gtU Cs.toCan (e_get Cs.toCan (se_var 0 (pv 0)) (se_int)) (se_int)))))))) (sb_cons (ss_asg (e_mod (e_intU Cs.toCan (Z.free 0 rfl) rfl (sa_cons (e_get Cs.toCan (se_var 0 (pv 0)) (se_int)) (sa_nil))) (se_var 1 (pv 1))) (t_nm 2 Cs.toCan))
          (sb_cons (ss_asg (e_div (e_get Cs.toCan (se_var 0 (pv 0)) (se_int)) (se_var 1 (pv 1))) (t_sub (se_var 0 (pv 0)) (se_int)))
          (sb_one (ss_ret (se_var 2 (pv 2)))))) (sb_nil))
          (sb_cons (ss_asg (se_int) (t_sub (se_var 0 (pv 0)) (se_int)))
          (sb_cons (ss_if (c_gtU Cs.toCan (se_var 1 (pv 1)) (se_int)) (sb_one (ss_ret (e_mod (e_intU Cs.toCan (Z.free 0 rfl) rfl (sa_cons (e_addF Cs.toCan (e_mulF Cs.toCan (se_call Cs.toCan (ih) rfl (Z.glo 20 rfl) (sa_cons (se_var 0 (pv 0)) (sa_cons (e_addF Cs.toCan (e_div (se_var 1 (pv 1)) (se_int)) (se_int)) (sa_nil)))) (se_int)) (se_call Cs.toCan (ih) rfl (Z.glo 20 rfl) (sa_cons (se_var 0 (pv 0)) (sa_cons (se_int) (sa_nil))))) (sa_nil))) (se_var 1 (pv 1))))) (sb_nil))
          (sb_cons (ss_asg (e_mod (e_intU Cs.toCan (Z.free 0 rfl) rfl (sa_cons (e_addF Cs.toCan (e_addF Cs.toCan (e_mulF Cs.toCan (e_get Cs.toCan (se_var 0 (pv 0)) (se_int)) (se_int)) (e_mulF Cs.toCan (e_get Cs.toCan (se_var 0 (pv 0)) (se_int)) (se_int))) (se_int)) (sa_nil))) (se_int)) (t_sub (se_var 0 (pv 0)) (se_int)))
          (sb_cons (ss_asg (e_addF Cs.toCan (e_get Cs.toCan (se_var 0 (pv 0)) (se_int)) (se_int)) (t_sub (se_var 0 (pv 0)) (se_int)))
          (sb_one (ss_ret (e_mod (e_intU Cs.toCan (Z.free 0 rfl) rfl (sa_cons (e_div (e_get Cs.toCan (se_var 0 (pv 0)) (se_int)) (se_int)) (sa_nil))) (se_var 1 (pv 1)))))))))
theorem sc_law_wide : FnScope ["text", "plain", "odd", "sign", "k", "place", "number"] ["text"] (defScope s_law_wide) := ⟨rfl, rfl, rfl, by decide +kernel, rfl, by decide +kernel, by decide +kernel⟩
theorem k_law_wide (Z : ZZ G w mg h base) : Kn G P w mg base 1 (He.fAd G.K ("_law_wide", none)) 1 f_law_wide := by
  obtain ⟨fd, F⟩ := Z.def_ 8 (d := d_law_wide) rfl
  exact kn_of (k := 0) (ps := ["text"]) F sc_law_wide (fun _ _ _ _ _ _ us hl => match us, hl with | [_], _ => rfl) rfl fun cdv A outer s H E ecd Cs =>
          sb_cons (ss_setLcF (i := 1) (own := [("sign", 3)]) Cs.toCan rfl rfl rfl (si_val Cs.toCan.hK (se_var 0 (pv 0))) (blkOk_by rfl) (fun _ _ _ _ _ _ _ C12 => ⟨t_nm 3 C12, sq_one (c_ninU C12 (se_var 3 (pv 3)) (se_str)), se_var 3 (pv 3)⟩))
          (sb_cons (ss_setLcF (i := 2) (own := [("k", 4), ("sign", 3)]) Cs.toCan rfl rfl rfl (si_enum Cs.toCan.hK rfl (Z.free 5 rfl) (sa_cons (se_var 0 (pv 0)) (sa_nil))) (blkOk_by rfl) (fun _ _ _ _ _ _ _ C11 => ⟨sg_seq C11 (sgs_cons (t_nm 4 C11) (sgs_cons (t_nm 3 C11) (sgs_nil))), sq_one (c_inU C11 (se_var 3 (pv 3)) (se_str)), se_tup (sa_cons (e_addF C11 (se_var 4 (pv 4)) (se_int)) (sa_cons (e_sindex C11 (se_str) (sa_cons (se_var 3 (pv 3)) (sa_nil))) (sa_nil)))⟩))
          (sb_cons (ss_if (c_eq Cs.toCan (se_var 2 (pv 2)) (se_lstF (sa_nil))) (sb_one (ss_ret (se_var 0 (pv 0)))) (sb_nil))
          (sb_one (ss_ret (e_addF Cs.toCan (e_addF Cs.toCan (e_addF Cs.toCan (se_str) (e_join Cs.toCan (se_str) (sa_cons (se_var 1 (pv 1)) (sa_nil)))) (se_str)) (e_join Cs.toCan (se_str) (sa_cons (se_lcF (own := [("place", 5), ("number", 6)]) Cs.toCan (si_val Cs.toCan.hK (se_var 2 (pv 2))) (blkOk_by rfl) (fun _ _ _ _ _ _ _ C10 => ⟨sg_seq C10 (sgs_cons (t_nm 5 C10) (sgs_cons (t_nm 6 C10) (sgs_nil))), sq_nil, e_addF C10 (e_addF C10 (e_str C10 (Z.free 21 rfl) rfl (sa_cons (se_var 5 (pv 5)) (sa_nil))) (se_str)) (e_str C10 (Z.free 21 rfl) rfl (sa_cons (se_var 6 (pv 6)) (sa_nil)))⟩)) (sa_nil))))))))
theorem sc_check_part : FnScope ["part", "sign"] ["part"] (defScope s_check_part) := ⟨rfl, rfl, rfl, by decide +kernel, rfl, by decide +kernel, by decide +kernel⟩
theorem k_check_part (Z : ZZ G w mg h base) : Kn G P w mg base 4 (He.fAd G.K ("check_part", none)) 1 f_check_part := by
  obtain ⟨fd, F⟩ := Z.def_ 12 (d := d_check_part) rfl
  exact kn_of (k := 3) (ps := ["part"]) F sc_check_part (fun _ _ _ _ _ _ us hl => match us, hl with | [_], _ => rfl) rfl fun cdv A outer s H E ecd Cs =>
          sb_cons (ss_if (c_eq Cs.toCan (se_var 0 (pv 0)) (se_str)) (sb_one (ss_retN)) (sb_nil))
          (sb_cons (ss_if (sc_w (sw_or (sc_not (c_ch p_le p_le (se_int) (e_lenU Cs.toCan (Z.free 13 rfl) rfl (sa_cons (se_var 0 (pv 0)) (sa_nil))) (se_gi (Z.int 23 rfl) rfl))) (sw_or1 (sc_val (se_any (own := [("sign", 1)]) (cs := ["NameFault", "LabelError"]) Cs.toCan (si_val Cs.toCan.hK (se_var 0 (pv 0))) ⟨⟨_, _, _, (Z.ct 3 ecd rfl), rfl⟩, ns_ok Z, blkOk_by rfl, by decide +kernel, rfl, rfl, (fun _ _ _ _ _ _ _ _ _ C15 => ⟨t_nm 1 C15, sq_nil, e_ninU C15 (se_var 1 (pv 1)) (se_gs (Z.str 4 rfl) rfl)⟩), fun _ => rfl⟩ rfl (Z.free 7 rfl)))))) (sb_one (ss_raise Cs (Z.kx 8 rfl) rfl (Z.glo 9 rfl))) (sb_nil))
          (sb_one (ss_if (sc_w (sw_or (c_eq Cs.toCan (e_get Cs.toCan (se_var 0 (pv 0)) (se_int)) (se_str)) (sw_or1 (c_eq Cs.toCan (e_get Cs.toCan (se_var 0 (pv 0)) (e_neg (se_int))) (se_str))))) (sb_one (ss_raise Cs (Z.kx 8 rfl) rfl (Z.glo 9 rfl))) (sb_nil))))
theorem sc_parts_of : FnScope ["name", "text", "found", "place", "part"] ["name"] (defScope s_parts_of) := ⟨rfl, rfl, rfl, by decide +kernel, rfl, by decide +kernel, by decide +kernel⟩
theorem k_parts_of (Z : ZZ G w mg h base) : Kn G P w mg base 5 (He.fAd G.K ("parts_of", none)) 1 f_parts_of := by
  obtain ⟨fd, F⟩ := Z.def_ 11 (d := d_parts_of) rfl
  exact kn_of (k := 4) (ps := ["name"]) F sc_parts_of (fun _ _ _ _ _ _ us hl => match us, hl with | [_], _ => rfl) rfl fun cdv A outer s H E ecd Cs =>
          sb_cons (ss_if (c_eq Cs.toCan (se_var 0 (pv 0)) (se_str)) (sb_one (ss_ret (se_tup (sa_nil)))) (sb_nil))
          (sb_cons (ss_asg (se_if (c_eq Cs.toCan (se_sliceF Cs.toCan.hK (se_var 0 (pv 0)) (so_some (e_neg (se_int))) (so_none)) (se_str)) (se_sliceF Cs.toCan.hK (se_var 0 (pv 0)) (so_none) (so_some (e_neg (se_int)))) (se_var 0 (pv 0))) (t_nm 1 Cs.toCan))
          (sb_cons (ss_if (sc_w (sw_or (c_eq Cs.toCan (se_var 1 (pv 1)) (se_str)) (sw_or1 (c_gtU Cs.toCan (e_lenU Cs.toCan (Z.free 13 rfl) rfl (sa_cons (se_var 1 (pv 1)) (sa_nil))) (se_gi (Z.int 26 rfl) rfl))))) (sb_one (ss_raise Cs (Z.kx 8 rfl) rfl (Z.glo 9 rfl))) (sb_nil))
          (sb_cons (ss_asg (e_tuple Cs.toCan (Z.free 25 rfl) rfl (sa_cons (e_split Cs.toCan (e_lower Cs.toCan (se_var 1 (pv 1))) (sa_cons (se_str) (sa_nil))) (sa_nil))) (t_nm 2 Cs.toCan))
          (sb_cons (ss_for Cs (si_enum Cs.toCan.hK rfl (Z.free 5 rfl) (sa_cons (se_var 2 (pv 2)) (sa_nil))) (sg_seq Cs.toCan (sgs_cons (t_nm 3 Cs.toCan) (sgs_cons (t_nm 4 Cs.toCan) (sgs_nil)))) (sb_cons (ss_expr (se_call Cs.toCan ((k_check_part Z).mono (by omega)) rfl (Z.glo 24 rfl) (sa_cons (se_var 4 (pv 4)) (sa_nil))))
          (sb_one (ss_if (sc_w (sw_and (c_eq Cs.toCan (se_var 4 (pv 4)) (se_str)) (sw_and1 (c_gtU Cs.toCan (se_var 3 (pv 3)) (se_int))))) (sb_one (ss_raise Cs (Z.kx 8 rfl) rfl (Z.glo 9 rfl))) (sb_nil)))))
          (sb_one (ss_ret (se_var 2 (pv 2))))))))
theorem sc_key_of : FnScope ["name"] ["name"] (defScope s_key_of) := ⟨rfl, rfl, rfl, by decide +kernel, rfl, by decide +kernel, by decide +kernel⟩
theorem k_key_of (Z : ZZ G w mg h base) : Kn G P w mg base 6 (He.fAd G.K ("key_of", none)) 1 f_key_of := by
  obtain ⟨fd, F⟩ := Z.def_ 10 (d := d_key_of) rfl
  exact kn_of (k := 5) (ps := ["name"]) F sc_key_of (fun _ _ _ _ _ _ us hl => match us, hl with | [_], _ => rfl) rfl fun cdv A outer s H E ecd Cs =>
          sb_one (ss_ret (se_rev Cs.toCan (se_call Cs.toCan ((k_parts_of Z).mono (by omega)) rfl (Z.glo 27 rfl) (sa_cons (se_var 0 (pv 0)) (sa_nil)))))
theorem sc_in_order : FnScope ["names", "rows", "name", "row"] ["names"] (defScope s_in_order) := ⟨rfl, rfl, rfl, by decide +kernel, rfl, by decide +kernel, by decide +kernel⟩
theorem k_in_order (Z : ZZ G w mg h base) : Kn G P w mg base 7 (He.fAd G.K ("in_order", none)) 1 f_in_order := by
  obtain ⟨fd, F⟩ := Z.def_ 13 (d := d_in_order) rfl
  exact kn_of (k := 6) (ps := ["names"]) F sc_in_order (fun _ _ _ _ _ _ us hl => match us, hl with | [_], _ => rfl) rfl fun cdv A outer s H E ecd Cs =>
          sb_cons (ss_setDc (i := 1) (own := [("name", 2)]) true Cs.toCan rfl rfl rfl (si_val Cs.toCan.hK (se_var 0 (pv 0))) (blkOk_by rfl) (fun _ _ _ _ _ _ _ C17 => ⟨t_nm 2 C17, sq_nil, se_call C17 ((k_key_of Z).mono (by omega)) rfl (Z.glo 28 rfl) (sa_cons (se_var 2 (pv 2)) (sa_nil)), se_bl⟩))
          (sb_one (ss_ret (se_tupG (own := [("row", 3)]) (cs := ["NameFault", "LabelError"]) Cs.toCan (si_val Cs.toCan.hK (e_sorted Cs.toCan (Z.free 29 rfl) rfl (sa_cons (se_var 1 (pv 1)) (sa_nil)))) ⟨⟨_, _, _, (Z.ct 4 ecd rfl), rfl⟩, ns_ok Z, blkOk_by rfl, by decide +kernel, rfl, rfl, (fun _ _ _ _ _ _ _ _ _ C16 => ⟨t_nm 3 C16, sq_nil, e_addF C16 (e_join C16 (se_str) (sa_cons (se_rev C16 (se_var 3 (pv 3))) (sa_nil))) (se_str)⟩), fun _ => rfl⟩ rfl (Z.free 25 rfl))))
theorem sc_next_name : FnScope ["names", "name", "order", "later", "one"] ["names", "name"] (defScope s_next_name) := ⟨rfl, rfl, rfl, by decide +kernel, rfl, by decide +kernel, by decide +kernel⟩
theorem k_next_name (Z : ZZ G w mg h base) : Kn G P w mg base 8 (He.fAd G.K ("next_name", none)) 2 f_next_name := by
  obtain ⟨fd, F⟩ := Z.def_ 9 (d := d_next_name) rfl
  exact kn_of (k := 7) (ps := ["names", "name"]) F sc_next_name (fun _ _ _ _ _ _ us hl => match us, hl with | [_, _], _ => rfl) rfl fun cdv A outer s H E ecd Cs =>
          sb_cons (ss_asg (se_call Cs.toCan ((k_in_order Z).mono (by omega)) rfl (Z.glo 30 rfl) (sa_cons (se_var 0 (pv 0)) (sa_nil))) (t_nm 2 Cs.toCan))
          (sb_cons (ss_if (c_eq Cs.toCan (se_var 2 (pv 2)) (se_tup (sa_nil))) (sb_one (ss_raise Cs (Z.kx 8 rfl) rfl (Z.glo 9 rfl))) (sb_nil))
          (sb_cons (ss_setLcF (i := 3) (own := [("one", 4)]) Cs.toCan rfl rfl rfl (si_val Cs.toCan.hK (se_var 2 (pv 2))) (blkOk_by rfl) (fun _ _ _ _ _ _ _ C14 => ⟨t_nm 4 C14, sq_one (c_gtU C14 (se_call C14 ((k_key_of Z).mono (by omega)) rfl (Z.glo 28 rfl) (sa_cons (se_var 4 (pv 4)) (sa_nil))) (se_call C14 ((k_key_of Z).mono (by omega)) rfl (Z.glo 28 rfl) (sa_cons (se_var 1 (pv 1)) (sa_nil)))), se_var 4 (pv 4)⟩))
          (sb_one (ss_ret (e_get Cs.toCan (e_addF Cs.toCan (se_var 3 (pv 3)) (e_listF Cs.toCan (Z.free 16 rfl) rfl (sa_cons (se_var 2 (pv 2)) (sa_nil)))) (se_int))))))
theorem sc_law_plain_name : FnScope ["parts"] ["parts"] (defScope s_law_plain_name) := ⟨rfl, rfl, rfl, by decide +kernel, rfl, by decide +kernel, by decide +kernel⟩
theorem k_law_plain_name (Z : ZZ G w mg h base) : Kn G P w mg base 1 (He.fAd G.K ("_law_plain_name", none)) 1 f_law_plain_name := by
  obtain ⟨fd, F⟩ := Z.def_ 14 (d := d_law_plain_name) rfl
  exact kn_of (k := 0) (ps := ["parts"]) F sc_law_plain_name (fun _ _ _ _ _ _ us hl => match us, hl with | [_], _ => rfl) rfl fun cdv A outer s H E ecd Cs =>
          sb_one (ss_ret (e_addF Cs.toCan (e_join Cs.toCan (se_str) (sa_cons (se_var 0 (pv 0)) (sa_nil))) (se_str)))
theorem sc_shared_top : FnScope ["names", "rows", "same", "name", "row"] ["names"] (defScope s_shared_top) := ⟨rfl, rfl, rfl, by decide +kernel, rfl, by decide +kernel, by decide +kernel⟩
theorem k_shared_top (Z : ZZ G w mg h base) : Kn G P w mg base 7 (He.fAd G.K ("shared_top", none)) 1 f_shared_top := by
  obtain ⟨fd, F⟩ := Z.def_ 15 (d := d_shared_top) rfl
  exact kn_of (k := 6) (ps := ["names"]) F sc_shared_top (fun _ _ _ _ _ _ us hl => match us, hl with | [_], _ => rfl) rfl fun cdv A outer s H E ecd Cs =>
          sb_cons (ss_asg (se_lcF (own := [("name", 3)]) Cs.toCan (si_val Cs.toCan.hK (se_var 0 (pv 0))) (blkOk_by rfl) (fun _ _ _ _ _ _ _ C22 => ⟨t_nm 3 C22, sq_nil, se_call C22 ((k_key_of Z).mono (by omega)) rfl (Z.glo 28 rfl) (sa_cons (se_var 3 (pv 3)) (sa_nil))⟩)) (t_nm 1 Cs.toCan))
          (sb_cons (ss_if (c_eq Cs.toCan (se_var 1 (pv 1)) (se_lstF (sa_nil))) (sb_one (ss_ret (se_str))) (sb_nil))
          (sb_cons (ss_asg (se_int) (t_nm 2 Cs.toCan))
          (sb_cons (ss_while Cs (sc_val (se_all (own := [("row", 4)]) (cs := ["NameFault", "LabelError"]) Cs.toCan (si_val Cs.toCan.hK (se_var 1 (pv 1))) ⟨⟨_, _, _, (Z.ct 5 ecd rfl), rfl⟩, ns_ok Z, blkOk_by rfl, by decide +kernel, rfl, rfl, (fun _ _ _ _ _ _ _ _ _ C21 => ⟨t_nm 4 C21, sq_nil, se_and (e_gtU C21 (e_lenU C21 (Z.free 13 rfl) rfl (sa_cons (se_var 4 (pv 4)) (sa_nil))) (se_var 2 (pv 2))) (se_one (e_eq C21 (e_get C21 (se_var 4 (pv 4)) (se_var 2 (pv 2))) (e_get C21 (e_get C21 (se_var 1 (pv 1)) (se_int)) (se_var 2 (pv 2)))))⟩), fun _ => rfl⟩ rfl (Z.free 14 rfl) bt_all)) (sb_one (s_iadd (i := 2) Cs.toCan rfl (by first | exact .inl rfl | exact .inr rfl) (by first | exact .inr rfl | exact .inl rfl) (se_int))))
          (sb_one (ss_ret (e_addF Cs.toCan (e_join Cs.toCan (se_str) (sa_cons (se_rev Cs.toCan (se_sliceF Cs.toCan.hK (e_get Cs.toCan (se_var 1 (pv 1)) (se_int)) (so_none) (so_some (se_var 2 (pv 2))))) (sa_nil))) (se_str)))))))
theorem sc_plain_name : FnScope ["name"] ["name"] (defScope s_plain_name) := ⟨rfl, rfl, rfl, by decide +kernel, rfl, by decide +kernel, by decide +kernel⟩
theorem k_plain_name (Z : ZZ G w mg h base) : Kn G P w mg base 6 (He.fAd G.K ("plain_name", none)) 1 f_plain_name := by
  obtain ⟨fd, F⟩ := Z.def_ 17 (d := d_plain_name) rfl
  exact kn_of (k := 5) (ps := ["name"]) F sc_plain_name (fun _ _ _ _ _ _ us hl => match us, hl with | [_], _ => rfl) rfl fun cdv A outer s H E ecd Cs =>
          sb_one (ss_ret (e_addF Cs.toCan (e_join Cs.toCan (se_str) (sa_cons (se_call Cs.toCan ((k_parts_of Z).mono (by omega)) rfl (Z.glo 27 rfl) (sa_cons (se_var 0 (pv 0)) (sa_nil))) (sa_nil))) (se_str)))
theorem sc_full_name : FnScope ["text", "base", "top"] ["text", "base"] (defScope s_full_name) := ⟨rfl, rfl, rfl, by decide +kernel, rfl, by decide +kernel, by decide +kernel⟩
theorem k_full_name (Z : ZZ G w mg h base) : Kn G P w mg base 7 (He.fAd G.K ("full_name", none)) 2 f_full_name := by
  obtain ⟨fd, F⟩ := Z.def_ 16 (d := d_full_name) rfl
  exact kn_of (k := 6) (ps := ["text", "base"]) F sc_full_name (fun _ _ _ _ _ _ us hl => match us, hl with | [_, _], _ => rfl) rfl fun cdv A outer s H E ecd Cs =>
          sb_cons (ss_asg (se_call Cs.toCan ((k_plain_name Z).mono (by omega)) rfl (Z.glo 35 rfl) (sa_cons (se_var 1 (pv 1)) (sa_nil))) (t_nm 2 Cs.toCan))
          (sb_cons (ss_if (c_eq Cs.toCan (se_var 0 (pv 0)) (se_str)) (sb_one (ss_raise Cs (Z.kx 8 rfl) rfl (Z.glo 9 rfl))) (sb_nil))
          (sb_cons (ss_if (c_eq Cs.toCan (se_var 0 (pv 0)) (se_str)) (sb_one (ss_ret (se_var 2 (pv 2)))) (sb_nil))
          (sb_cons (ss_if (c_eq Cs.toCan (se_sliceF Cs.toCan.hK (se_var 0 (pv 0)) (so_some (e_neg (se_int))) (so_none)) (se_str)) (sb_one (ss_ret (se_call Cs.toCan ((k_plain_name Z).mono (by omega)) rfl (Z.glo 35 rfl) (sa_cons (se_var 0 (pv 0)) (sa_nil))))) (sb_nil))
          (sb_one (ss_ret (se_call Cs.toCan ((k_plain_name Z).mono (by omega)) rfl (Z.glo 35 rfl) (sa_cons (e_addF Cs.toCan (se_var 0 (pv 0)) (se_if (c_ne Cs.toCan (se_var 2 (pv 2)) (se_str)) (e_addF Cs.toCan (se_str) (se_var 2 (pv 2))) (se_str))) (sa_nil))))))))
theorem sc_deep_of : FnScope ["name"] ["name"] (defScope s_deep_of) := ⟨rfl, rfl, rfl, by decide +kernel, rfl, by decide +kernel, by decide +kernel⟩
theorem k_deep_of (Z : ZZ G w mg h base) : Kn G P w mg base 6 (He.fAd G.K ("deep_of", none)) 1 f_deep_of := by
  obtain ⟨fd, F⟩ := Z.def_ 19 (d := d_deep_of) rfl
  exact kn_of (k := 5) (ps := ["name"]) F sc_deep_of (fun _ _ _ _ _ _ us hl => match us, hl with | [_], _ => rfl) rfl fun cdv A outer s H E ecd Cs =>
          sb_one (ss_ret (e_lenU Cs.toCan (Z.free 13 rfl) rfl (sa_cons (se_call Cs.toCan ((k_parts_of Z).mono (by omega)) rfl (Z.glo 27 rfl) (sa_cons (se_var 0 (pv 0)) (sa_nil))) (sa_nil))))
theorem sc_is_in : FnScope ["name", "base", "one", "two"] ["name", "base"] (defScope s_is_in) := ⟨rfl, rfl, rfl, by decide +kernel, rfl, by decide +kernel, by decide +kernel⟩
theorem k_is_in (Z : ZZ G w mg h base) : Kn G P w mg base 6 (He.fAd G.K ("is_in", none)) 2 f_is_in := by
  obtain ⟨fd, F⟩ := Z.def_ 20 (d := d_is_in) rfl
  exact kn_of (k := 5) (ps := ["name", "base"]) F sc_is_in (fun _ _ _ _ _ _ us hl => match us, hl with | [_, _], _ => rfl) rfl fun cdv A outer s H E ecd Cs =>
          sb_cons (ss_par2 (i := 2) (j := 3) Cs.toCan rfl rfl (by decide) rfl rfl (sa_cons (se_call Cs.toCan ((k_parts_of Z).mono (by omega)) rfl (Z.glo 27 rfl) (sa_cons (se_var 0 (pv 0)) (sa_nil))) (sa_cons (se_call Cs.toCan ((k_parts_of Z).mono (by omega)) rfl (Z.glo 27 rfl) (sa_cons (se_var 1 (pv 1)) (sa_nil))) (sa_nil))) rfl)
          (sb_one (ss_ret (se_and (e_geU Cs.toCan (e_lenU Cs.toCan (Z.free 13 rfl) rfl (sa_cons (se_var 2 (pv 2)) (sa_nil))) (e_lenU Cs.toCan (Z.free 13 rfl) rfl (sa_cons (se_var 3 (pv 3)) (sa_nil)))) (se_one (e_eq Cs.toCan (se_sliceF Cs.toCan.hK (se_var 2 (pv 2)) (so_some (e_sub (e_lenU Cs.toCan (Z.free 13 rfl) rfl (sa_cons (se_var 2 (pv 2)) (sa_nil))) (e_lenU Cs.toCan (Z.free 13 rfl) rfl (sa_cons (se_var 3 (pv 3)) (sa_nil))))) (so_none)) (se_var 3 (pv 3)))))))
theorem sc_told_from : FnScope ["name", "base", "parts", "rest"] ["name", "base"] (defScope s_told_from) := ⟨rfl, rfl, rfl, by decide +kernel, rfl, by decide +kernel, by decide +kernel⟩
theorem k_told_from (Z : ZZ G w mg h base) : Kn G P w mg base 7 (He.fAd G.K ("told_from", none)) 2 f_told_from := by
  obtain ⟨fd, F⟩ := Z.def_ 18 (d := d_told_from) rfl
  exact kn_of (k := 6) (ps := ["name", "base"]) F sc_told_from (fun _ _ _ _ _ _ us hl => match us, hl with | [_, _], _ => rfl) rfl fun cdv A outer s H E ecd Cs =>
          sb_cons (ss_if (sc_not (sc_val (se_call Cs.toCan ((k_is_in Z).mono (by omega)) rfl (Z.glo 38 rfl) (sa_cons (se_var 0 (pv 0)) (sa_cons (se_var 1 (pv 1)) (sa_nil)))))) (sb_one (ss_ret (se_call Cs.toCan ((k_plain_name Z).mono (by omega)) rfl (Z.glo 35 rfl) (sa_cons (se_var 0 (pv 0)) (sa_nil))))) (sb_nil))
          (sb_cons (ss_asg (se_call Cs.toCan ((k_parts_of Z).mono (by omega)) rfl (Z.glo 27 rfl) (sa_cons (se_var 0 (pv 0)) (sa_nil))) (t_nm 2 Cs.toCan))
          (sb_cons (ss_asg (se_sliceF Cs.toCan.hK (se_var 2 (pv 2)) (so_none) (so_some (e_sub (e_lenU Cs.toCan (Z.free 13 rfl) rfl (sa_cons (se_var 2 (pv 2)) (sa_nil))) (se_call Cs.toCan ((k_deep_of Z).mono (by omega)) rfl (Z.glo 37 rfl) (sa_cons (se_var 1 (pv 1)) (sa_nil)))))) (t_nm 3 Cs.toCan))
          (sb_cons (ss_if (c_eq Cs.toCan (se_call Cs.toCan ((k_deep_of Z).mono (by omega)) rfl (Z.glo 37 rfl) (sa_cons (se_var 1 (pv 1)) (sa_nil))) (se_int)) (sb_one (ss_ret (se_call Cs.toCan ((k_plain_name Z).mono (by omega)) rfl (Z.glo 35 rfl) (sa_cons (se_var 0 (pv 0)) (sa_nil))))) (sb_nil))
          (sb_one (ss_ret (se_if (c_ne Cs.toCan (se_var 3 (pv 3)) (se_tup (sa_nil))) (e_join Cs.toCan (se_str) (sa_cons (se_var 3 (pv 3)) (sa_nil))) (se_str)))))))
theorem sc_all_above : FnScope ["name", "parts", "place"] ["name"] (defScope s_all_above) := ⟨rfl, rfl, rfl, by decide +kernel, rfl, by decide +kernel, by decide +kernel⟩
theorem k_all_above (Z : ZZ G w mg h base) : Kn G P w mg base 6 (He.fAd G.K ("all_above", none)) 1 f_all_above := by
  obtain ⟨fd, F⟩ := Z.def_ 21 (d := d_all_above) rfl
  exact kn_of (k := 5) (ps := ["name"]) F sc_all_above (fun _ _ _ _ _ _ us hl => match us, hl with | [_], _ => rfl) rfl fun cdv A outer s H E ecd Cs =>
          sb_cons (ss_asg (se_call Cs.toCan ((k_parts_of Z).mono (by omega)) rfl (Z.glo 27 rfl) (sa_cons (se_var 0 (pv 0)) (sa_nil))) (t_nm 1 Cs.toCan))
          (sb_one (ss_ret (se_tupG (own := [("place", 2)]) (cs := ["NameFault", "LabelError"]) Cs.toCan (si_range1 rfl (Z.free 19 rfl) (sa_cons (e_addF Cs.toCan (e_lenU Cs.toCan (Z.free 13 rfl) rfl (sa_cons (se_var 1 (pv 1)) (sa_nil))) (se_int)) (sa_nil))) ⟨⟨_, _, _, (Z.ct 6 ecd rfl), rfl⟩, ns_ok Z, blkOk_by rfl, by decide +kernel, rfl, rfl, (fun _ _ _ _ _ _ _ _ _ C30 => ⟨t_nm 2 C30, sq_nil, e_addF C30 (e_join C30 (se_str) (sa_cons (se_sliceF C30.hK (se_var 1 (pv 1)) (so_some (se_var 2 (pv 2))) (so_none)) (sa_nil))) (se_str)⟩), fun _ => rfl⟩ rfl (Z.free 25 rfl))))
theorem sc_name_above : FnScope ["name"] ["name"] (defScope s_name_above) := ⟨rfl, rfl, rfl, by decide +kernel, rfl, by decide +kernel, by decide +kernel⟩
theorem k_name_above (Z : ZZ G w mg h base) : Kn G P w mg base 6 (He.fAd G.K ("name_above", none)) 1 f_name_above := by
  obtain ⟨fd, F⟩ := Z.def_ 22 (d := d_name_above) rfl
  exact kn_of (k := 5) (ps := ["name"]) F sc_name_above (fun _ _ _ _ _ _ us hl => match us, hl with | [_], _ => rfl) rfl fun cdv A outer s H E ecd Cs =>
          sb_one (ss_ret (e_addF Cs.toCan (e_join Cs.toCan (se_str) (sa_cons (se_sliceF Cs.toCan.hK (se_call Cs.toCan ((k_parts_of Z).mono (by omega)) rfl (Z.glo 27 rfl) (sa_cons (se_var 0 (pv 0)) (sa_nil))) (so_some (se_int)) (so_none)) (sa_nil))) (se_str)))
theorem sc_is_same_name : FnScope ["one", "other"] ["one", "other"] (defScope s_is_same_name) := ⟨rfl, rfl, rfl, by decide +kernel, rfl, by decide +kernel, by decide +kernel⟩
theorem k_is_same_name (Z : ZZ G w mg h base) : Kn G P w mg base 6 (He.fAd G.K ("is_same_name", none)) 2 f_is_same_name := by
  obtain ⟨fd, F⟩ := Z.def_ 23 (d := d_is_same_name) rfl
  exact kn_of (k := 5) (ps := ["one", "other"]) F sc_is_same_name (fun _ _ _ _ _ _ us hl => match us, hl with | [_, _], _ => rfl) rfl fun cdv A outer s H E ecd Cs =>
          sb_one (ss_ret (e_eq Cs.toCan (se_call Cs.toCan ((k_parts_of Z).mono (by omega)) rfl (Z.glo 27 rfl) (sa_cons (se_var 0 (pv 0)) (sa_nil))) (se_call Cs.toCan ((k_parts_of Z).mono (by omega)) rfl (Z.glo 27 rfl) (sa_cons (se_var 1 (pv 1)) (sa_nil)))))
theorem sc_law_name : FnScope ["dice", "parts", "text", "k", "part"] ["dice"] (defScope s_law_name) := ⟨rfl, rfl, rfl, by decide +kernel, rfl, by decide +kernel, by decide +kernel⟩
theorem k_law_name (Z : ZZ G w mg h base) : Kn G P w mg base 4 (He.fAd G.K ("_law_name", none)) 1 f_law_name := by
  obtain ⟨fd, F⟩ := Z.def_ 24 (d := d_law_name) rfl
  exact kn_of (k := 3) (ps := ["dice"]) F sc_law_name (fun _ _ _ _ _ _ us hl => match us, hl with | [_], _ => rfl) rfl fun cdv A outer s H E ecd Cs =>
          sb_cons (ss_setLcF (i := 1) (own := [("k", 3)]) Cs.toCan rfl rfl rfl (si_range1 rfl (Z.free 19 rfl) (sa_cons (se_call Cs.toCan ((k_law_roll Z 2).mono (by omega)) rfl (Z.glo 20 rfl) (sa_cons (se_var 0 (pv 0)) (sa_cons (se_int) (sa_nil)))) (sa_nil))) (blkOk_by rfl) (fun _ _ _ _ _ _ _ C34 => ⟨t_nm 3 C34, sq_nil, e_get C34 (se_lstF (sa_cons (se_str) (sa_cons (se_str) (sa_cons (se_str) (sa_cons (se_str) (sa_cons (se_str) (sa_nil))))))) (se_call C34 ((k_law_roll Z 2).mono (by omega)) rfl (Z.glo 20 rfl) (sa_cons (se_var 0 (pv 0)) (sa_cons (se_int) (sa_nil))))⟩))
          (sb_cons (ss_asg (e_addF Cs.toCan (e_join Cs.toCan (se_str) (sa_cons (se_var 1 (pv 1)) (sa_nil))) (e_mulF Cs.toCan (se_str) (e_intU Cs.toCan (Z.free 0 rfl) rfl (sa_cons (se_or (e_eq Cs.toCan (se_call Cs.toCan ((k_law_roll Z 2).mono (by omega)) rfl (Z.glo 20 rfl) (sa_cons (se_var 0 (pv 0)) (sa_cons (se_int) (sa_nil)))) (se_int)) (se_one (e_eq Cs.toCan (se_var 1 (pv 1)) (se_lstF (sa_nil))))) (sa_nil))))) (t_nm 2 Cs.toCan))
          (sb_one (ss_ret (se_tup (sa_cons (se_var 2 (pv 2)) (sa_cons (se_lcF (own := [("part", 4)]) Cs.toCan (si_val Cs.toCan.hK (se_var 1 (pv 1))) (blkOk_by rfl) (fun _ _ _ _ _ _ _ C33 => ⟨t_nm 4 C33, sq_nil, e_lower C33 (se_var 4 (pv 4))⟩)) (sa_nil)))))))
theorem sc_law_plain : FnScope ["told", "bad", "due", "k", "f"] [] (defScope s_law_plain) := ⟨rfl, rfl, rfl, by decide +kernel, rfl, by decide +kernel, by decide +kernel⟩
theorem k_law_plain (Z : ZZ G w mg h base) : Kn G P w mg base 11 (He.fAd G.K ("_law_plain", none)) 0 f_law_plain := by
  obtain ⟨fd, F⟩ := Z.def_ 25 (d := d_law_plain) rfl
  exact kn_maker (fun X j => lamAt X (defBody s_law_plain) j) (k := 10) (ps := []) F sc_law_plain (fun _ _ _ _ _ _ us hl => match us, hl with | [], _ => rfl) rfl fun cdv A outer s H E G' eG ecd Cs => by
    subst eG
    have ZL := Z.lamC Cs
    exact sb_cons (ss_asg (se_lstF (sa_cons (se_call Cs.toCan ((k_parts_of ZL).mono (by omega)) rfl (ZL.glo 27 rfl) (sa_cons (se_str) (sa_nil))) (sa_cons (se_call Cs.toCan ((k_plain_name ZL).mono (by omega)) rfl (ZL.glo 35 rfl) (sa_cons (se_str) (sa_nil))) (sa_cons (se_call Cs.toCan ((k_is_same_name ZL).mono (by omega)) rfl (ZL.glo 42 rfl) (sa_cons (se_str) (sa_cons (se_str) (sa_nil)))) (sa_cons (se_call Cs.toCan ((k_name_above ZL).mono (by omega)) rfl (ZL.glo 41 rfl) (sa_cons (se_str) (sa_nil))) (sa_cons (se_call Cs.toCan ((k_all_above ZL).mono (by omega)) rfl (ZL.glo 40 rfl) (sa_cons (se_str) (sa_nil))) (sa_cons (se_call Cs.toCan ((k_is_in ZL).mono (by omega)) rfl (ZL.glo 38 rfl) (sa_cons (se_str) (sa_cons (se_str) (sa_nil)))) (sa_nil)))))))) (t_nm 0 Cs.toCan))
          (sb_cons (ss_asg (e_addF Cs.toCan (se_var 0 (pv 0)) (se_lstF (sa_cons (se_call Cs.toCan ((k_deep_of ZL).mono (by omega)) rfl (ZL.glo 37 rfl) (sa_cons (se_str) (sa_nil))) (sa_cons (se_call Cs.toCan ((k_full_name ZL).mono (by omega)) rfl (ZL.glo 36 rfl) (sa_cons (se_str) (sa_cons (se_str) (sa_nil)))) (sa_cons (se_call Cs.toCan ((k_full_name ZL).mono (by omega)) rfl (ZL.glo 36 rfl) (sa_cons (se_str) (sa_cons (se_str) (sa_nil)))) (sa_cons (se_call Cs.toCan ((k_full_name ZL).mono (by omega)) rfl (ZL.glo 36 rfl) (sa_cons (se_str) (sa_cons (se_str) (sa_nil)))) (sa_cons (se_call Cs.toCan ((k_told_from ZL).mono (by omega)) rfl (ZL.glo 39 rfl) (sa_cons (se_str) (sa_cons (se_str) (sa_nil)))) (sa_cons (se_call Cs.toCan ((k_told_from ZL).mono (by omega)) rfl (ZL.glo 39 rfl) (sa_cons (se_str) (sa_cons (se_str) (sa_nil)))) (sa_nil))))))))) (t_nm 0 Cs.toCan))
          (sb_cons (ss_asg (e_addF Cs.toCan (se_var 0 (pv 0)) (se_lstF (sa_cons (se_call Cs.toCan ((k_told_from ZL).mono (by omega)) rfl (ZL.glo 39 rfl) (sa_cons (se_str) (sa_cons (se_str) (sa_nil)))) (sa_cons (se_call Cs.toCan ((k_in_order ZL).mono (by omega)) rfl (ZL.glo 30 rfl) (sa_cons (se_tup (sa_cons (se_str) (sa_cons (se_str) (sa_cons (se_str) (sa_cons (se_str) (sa_nil)))))) (sa_nil))) (sa_cons (se_call Cs.toCan ((k_shared_top ZL).mono (by omega)) rfl (ZL.glo 33 rfl) (sa_cons (se_tup (sa_cons (se_str) (sa_cons (se_str) (sa_nil)))) (sa_nil))) (sa_cons (se_call Cs.toCan ((k_next_name ZL).mono (by omega)) rfl (ZL.glo 31 rfl) (sa_cons (se_tup (sa_cons (se_str) (sa_cons (se_str) (sa_cons (se_str) (sa_nil))))) (sa_cons (se_str) (sa_nil)))) (sa_nil))))))) (t_nm 0 Cs.toCan))
          (sb_cons (ss_asg (e_addF Cs.toCan (se_var 0 (pv 0)) (se_lstF (sa_cons (se_call Cs.toCan ((k_told_wide ZL).mono (by omega)) rfl (ZL.glo 10 rfl) (sa_cons (se_str) (sa_nil))) (sa_cons (se_call Cs.toCan ((k_read_wide ZL).mono (by omega)) rfl (ZL.glo 17 rfl) (sa_cons (se_str) (sa_nil))) (sa_cons (se_call Cs.toCan ((k_told_wide ZL).mono (by omega)) rfl (ZL.glo 10 rfl) (sa_cons (se_str) (sa_nil))) (sa_cons (se_call Cs.toCan ((k_key_of ZL).mono (by omega)) rfl (ZL.glo 28 rfl) (sa_cons (se_str) (sa_nil))) (sa_cons (se_call Cs.toCan ((k_check_part ZL).mono (by omega)) rfl (ZL.glo 24 rfl) (sa_cons (se_str) (sa_nil))) (sa_cons (se_call Cs.toCan ((k_check_part ZL).mono (by omega)) rfl (ZL.glo 24 rfl) (sa_cons (se_str) (sa_nil))) (sa_cons (se_call Cs.toCan ((k_is_count ZL).mono (by omega)) rfl (ZL.glo 15 rfl) (sa_cons (se_str) (sa_nil))) (sa_nil)))))))))) (t_nm 0 Cs.toCan))
          (sb_cons (ss_asg (e_addF Cs.toCan (se_var 0 (pv 0)) (se_lstF (sa_cons (se_call Cs.toCan ((k_is_count ZL).mono (by omega)) rfl (ZL.glo 15 rfl) (sa_cons (se_str) (sa_nil))) (sa_cons (se_call Cs.toCan ((k_shared_top ZL).mono (by omega)) rfl (ZL.glo 33 rfl) (sa_cons (se_tup (sa_nil)) (sa_nil))) (sa_cons (se_call Cs.toCan ((k_in_order ZL).mono (by omega)) rfl (ZL.glo 30 rfl) (sa_cons (se_tup (sa_nil)) (sa_nil))) (sa_cons (se_call Cs.toCan ((k_plain_name ZL).mono (by omega)) rfl (ZL.glo 35 rfl) (sa_cons (se_str) (sa_nil))) (sa_nil))))))) (t_nm 0 Cs.toCan))
          (sb_cons (ss_asg (se_lstF (sa_cons (se_lam (j := 0) (ZL.ct 7 ecd rfl) rfl (rfl) (LamX.lamS_by (by rfl)) rfl) (sa_cons (se_lam (j := 1) (ZL.ct 7 ecd rfl) rfl (rfl) (LamX.lamS_by (by rfl)) rfl) (sa_cons (se_lam (j := 2) (ZL.ct 7 ecd rfl) rfl (rfl) (LamX.lamS_by (by rfl)) rfl) (sa_cons (se_lam (j := 3) (ZL.ct 7 ecd rfl) rfl (rfl) (LamX.lamS_by (by rfl)) rfl) (sa_cons (se_lam (j := 4) (ZL.ct 7 ecd rfl) rfl (rfl) (LamX.lamS_by (by rfl)) rfl) (sa_nil))))))) (t_nm 1 Cs.toCan))
          (sb_cons (ss_asg (e_addF Cs.toCan (se_var 1 (pv 1)) (se_lstF (sa_cons (se_lam (j := 5) (ZL.ct 7 ecd rfl) rfl (rfl) (LamX.lamS_by (by rfl)) rfl) (sa_cons (se_lam (j := 6) (ZL.ct 7 ecd rfl) rfl (rfl) (LamX.lamS_by (by rfl)) rfl) (sa_cons (se_lam (j := 7) (ZL.ct 7 ecd rfl) rfl (rfl) (LamX.lamS_by (by rfl)) rfl) (sa_cons (se_lam (j := 8) (ZL.ct 7 ecd rfl) rfl (rfl) (LamX.lamS_by (by rfl)) rfl) (sa_cons (se_lam (j := 9) (ZL.ct 7 ecd rfl) rfl (rfl) (LamX.lamS_by (by rfl)) rfl) (sa_nil)))))))) (t_nm 1 Cs.toCan))
          (sb_cons (ss_asg (e_addF Cs.toCan (se_var 1 (pv 1)) (se_lstF (sa_cons (se_lam (j := 10) (ZL.ct 7 ecd rfl) rfl (rfl) (LamX.lamS_by (by rfl)) rfl) (sa_cons (se_lam (j := 11) (ZL.ct 7 ecd rfl) rfl (rfl) (LamX.lamS_by (by rfl)) rfl) (sa_cons (se_lam (j := 12) (ZL.ct 7 ecd rfl) rfl (rfl) (LamX.lamS_by (by rfl)) rfl) (sa_cons (se_lam (j := 13) (ZL.ct 7 ecd rfl) rfl (rfl) (LamX.lamS_by (by rfl)) rfl) (sa_cons (se_lam (j := 14) (ZL.ct 7 ecd rfl) rfl (rfl) (LamX.lamS_by (by rfl)) rfl) (sa_nil)))))))) (t_nm 1 Cs.toCan))
          (sb_cons (ss_asg (e_addF Cs.toCan (se_var 1 (pv 1)) (se_lstF (sa_cons (se_lam (j := 15) (ZL.ct 7 ecd rfl) rfl (rfl) (LamX.lamS_by (by rfl)) rfl) (sa_cons (se_lam (j := 16) (ZL.ct 7 ecd rfl) rfl (rfl) (LamX.lamS_by (by rfl)) rfl) (sa_cons (se_lam (j := 17) (ZL.ct 7 ecd rfl) rfl (rfl) (LamX.lamS_by (by rfl)) rfl) (sa_cons (se_lam (j := 18) (ZL.ct 7 ecd rfl) rfl (rfl) (LamX.lamS_by (by rfl)) rfl) (sa_cons (se_lam (j := 19) (ZL.ct 7 ecd rfl) rfl (rfl) (LamX.lamS_by (by rfl)) rfl) (sa_nil)))))))) (t_nm 1 Cs.toCan))
          (sb_cons (ss_asg (e_addF Cs.toCan (se_var 1 (pv 1)) (se_lstF (sa_cons (se_lam (j := 20) (ZL.ct 7 ecd rfl) rfl (rfl) (LamX.lamS_by (by rfl)) rfl) (sa_cons (se_lam (j := 21) (ZL.ct 7 ecd rfl) rfl (rfl) (LamX.lamS_by (by rfl)) rfl) (sa_cons (se_lam (j := 22) (ZL.ct 7 ecd rfl) rfl (rfl) (LamX.lamS_by (by rfl)) rfl) (sa_cons (se_lam (j := 23) (ZL.ct 7 ecd rfl) rfl (rfl) (LamX.lamS_by (by rfl)) rfl) (sa_cons (se_lam (j := 24) (ZL.ct 7 ecd rfl) rfl (rfl) (LamX.lamS_by (by rfl)) rfl) (sa_nil)))))))) (t_nm 1 Cs.toCan))
          (sb_cons (ss_asg (e_addF Cs.toCan (se_var 1 (pv 1)) (se_lstF (sa_cons (se_lam (j := 25) (ZL.ct 7 ecd rfl) rfl (rfl) (LamX.lamS_by (by rfl)) rfl) (sa_cons (se_lam (j := 26) (ZL.ct 7 ecd rfl) rfl (rfl) (LamX.lamS_by (by rfl)) rfl) (sa_cons (se_lam (j := 27) (ZL.ct 7 ecd rfl) rfl (rfl) (LamX.lamS_by (by rfl)) rfl) (sa_cons (se_lam (j := 28) (ZL.ct 7 ecd rfl) rfl (rfl) (LamX.lamS_by (by rfl)) rfl) (sa_cons (se_lam (j := 29) (ZL.ct 7 ecd rfl) rfl (rfl) (LamX.lamS_by (by rfl)) rfl) (sa_nil)))))))) (t_nm 1 Cs.toCan))
          (sb_cons (ss_asg (e_addF Cs.toCan (se_var 1 (pv 1)) (se_lstF (sa_cons (se_lam (j := 30) (ZL.ct 7 ecd rfl) rfl (rfl) (LamX.lamS_by (by rfl)) rfl) (sa_cons (se_lam (j := 31) (ZL.ct 7 ecd rfl) rfl (rfl) (LamX.lamS_by (by rfl)) rfl) (sa_nil))))) (t_nm 1 Cs.toCan))
          (sb_cons (ss_if (c_ne Cs.toCan (se_lcZ (own := [("k", 3), ("f", 4)]) Cs.toCan (si_enum Cs.toCan.hK rfl (ZL.free 5 rfl) (sa_cons (se_var 1 (pv 1)) (sa_nil))) (blkOk_by rfl) (fun e67 ι67 pins67 σ67 s67 H67 cl67 D67 fp67 I67 en67 hfp67 xe67 W67 C68 => ⟨sg_seq C68 (sgs_cons (t_nm 3 C68) (sgs_cons (t_nm 4 C68) (sgs_nil))), sq_one (c_ne C68 (se_tellV (j := 0) I67 en67 hfp67 C68 Cs.toCan.nd (hb0 (hb_cons rfl (fun _ _ => ⟨LamX.lamS_by (by rfl), fun _ _ _ _ _ => rfl, fun _ _ _ _ _ _ _ C35 => se_call C35 ((k_check_part (ZL.at _ _)).mono (by omega)) rfl ((ZL.at _ _).glo 24 rfl) (sa_cons (se_str) (sa_nil))⟩)
      (hb_cons rfl (fun _ _ => ⟨LamX.lamS_by (by rfl), fun _ _ _ _ _ => rfl, fun _ _ _ _ _ _ _ C36 => se_call C36 ((k_check_part (ZL.at _ _)).mono (by omega)) rfl ((ZL.at _ _).glo 24 rfl) (sa_cons (e_mulF C36 (se_str) (se_int)) (sa_nil))⟩)
      (hb_cons rfl (fun _ _ => ⟨LamX.lamS_by (by rfl), fun _ _ _ _ _ => rfl, fun _ _ _ _ _ _ _ C37 => se_call C37 ((k_check_part (ZL.at _ _)).mono (by omega)) rfl ((ZL.at _ _).glo 24 rfl) (sa_cons (se_str) (sa_nil))⟩)
      (hb_cons rfl (fun _ _ => ⟨LamX.lamS_by (by rfl), fun _ _ _ _ _ => rfl, fun _ _ _ _ _ _ _ C38 => se_call C38 ((k_check_part (ZL.at _ _)).mono (by omega)) rfl ((ZL.at _ _).glo 24 rfl) (sa_cons (se_str) (sa_nil))⟩)
      (hb_cons rfl (fun _ _ => ⟨LamX.lamS_by (by rfl), fun _ _ _ _ _ => rfl, fun _ _ _ _ _ _ _ C39 => se_call C39 ((k_check_part (ZL.at _ _)).mono (by omega)) rfl ((ZL.at _ _).glo 24 rfl) (sa_cons (se_str) (sa_nil))⟩)
      (hb_cons rfl (fun _ _ => ⟨LamX.lamS_by (by rfl), fun _ _ _ _ _ => rfl, fun _ _ _ _ _ _ _ C40 => se_call C40 ((k_check_part (ZL.at _ _)).mono (by omega)) rfl ((ZL.at _ _).glo 24 rfl) (sa_cons (se_str) (sa_nil))⟩)
      (hb_cons rfl (fun _ _ => ⟨LamX.lamS_by (by rfl), fun _ _ _ _ _ => rfl, fun _ _ _ _ _ _ _ C41 => se_call C41 ((k_parts_of (ZL.at _ _)).mono (by omega)) rfl ((ZL.at _ _).glo 27 rfl) (sa_cons (se_str) (sa_nil))⟩)
      (hb_cons rfl (fun _ _ => ⟨LamX.lamS_by (by rfl), fun _ _ _ _ _ => rfl, fun _ _ _ _ _ _ _ C42 => se_call C42 ((k_parts_of (ZL.at _ _)).mono (by omega)) rfl ((ZL.at _ _).glo 27 rfl) (sa_cons (se_str) (sa_nil))⟩)
      (hb_cons rfl (fun _ _ => ⟨LamX.lamS_by (by rfl), fun _ _ _ _ _ => rfl, fun _ _ _ _ _ _ _ C43 => se_call C43 ((k_parts_of (ZL.at _ _)).mono (by omega)) rfl ((ZL.at _ _).glo 27 rfl) (sa_cons (se_str) (sa_nil))⟩)
      (hb_cons rfl (fun _ _ => ⟨LamX.lamS_by (by rfl), fun _ _ _ _ _ => rfl, fun _ _ _ _ _ _ _ C44 => se_call C44 ((k_parts_of (ZL.at _ _)).mono (by omega)) rfl ((ZL.at _ _).glo 27 rfl) (sa_cons (e_join C44 (se_str) (sa_cons (e_mulF C44 (se_lstF (sa_cons (e_mulF C44 (se_str) (se_int)) (sa_nil))) (se_int)) (sa_nil))) (sa_nil))⟩)
      (hb_cons rfl (fun _ _ => ⟨LamX.lamS_by (by rfl), fun _ _ _ _ _ => rfl, fun _ _ _ _ _ _ _ C45 => se_call C45 ((k_parts_of (ZL.at _ _)).mono (by omega)) rfl ((ZL.at _ _).glo 27 rfl) (sa_cons (se_str) (sa_nil))⟩)
      (hb_cons rfl (fun _ _ => ⟨LamX.lamS_by (by rfl), fun _ _ _ _ _ => rfl, fun _ _ _ _ _ _ _ C46 => se_call C46 ((k_plain_name (ZL.at _ _)).mono (by omega)) rfl ((ZL.at _ _).glo 35 rfl) (sa_cons (se_str) (sa_nil))⟩)
      (hb_cons rfl (fun _ _ => ⟨LamX.lamS_by (by rfl), fun _ _ _ _ _ => rfl, fun _ _ _ _ _ _ _ C47 => se_call C47 ((k_is_same_name (ZL.at _ _)).mono (by omega)) rfl ((ZL.at _ _).glo 42 rfl) (sa_cons (se_str) (sa_cons (se_str) (sa_nil)))⟩)
      (hb_cons rfl (fun _ _ => ⟨LamX.lamS_by (by rfl), fun _ _ _ _ _ => rfl, fun _ _ _ _ _ _ _ C48 => se_call C48 ((k_name_above (ZL.at _ _)).mono (by omega)) rfl ((ZL.at _ _).glo 41 rfl) (sa_cons (se_str) (sa_nil))⟩)
      (hb_cons rfl (fun _ _ => ⟨LamX.lamS_by (by rfl), fun _ _ _ _ _ => rfl, fun _ _ _ _ _ _ _ C49 => se_call C49 ((k_all_above (ZL.at _ _)).mono (by omega)) rfl ((ZL.at _ _).glo 40 rfl) (sa_cons (se_str) (sa_nil))⟩)
      (hb_cons rfl (fun _ _ => ⟨LamX.lamS_by (by rfl), fun _ _ _ _ _ => rfl, fun _ _ _ _ _ _ _ C50 => se_call C50 ((k_is_in (ZL.at _ _)).mono (by omega)) rfl ((ZL.at _ _).glo 38 rfl) (sa_cons (se_str) (sa_cons (se_str) (sa_nil)))⟩)
      (hb_cons rfl (fun _ _ => ⟨LamX.lamS_by (by rfl), fun _ _ _ _ _ => rfl, fun _ _ _ _ _ _ _ C51 => se_call C51 ((k_is_in (ZL.at _ _)).mono (by omega)) rfl ((ZL.at _ _).glo 38 rfl) (sa_cons (se_str) (sa_cons (se_str) (sa_nil)))⟩)
      (hb_cons rfl (fun _ _ => ⟨LamX.lamS_by (by rfl), fun _ _ _ _ _ => rfl, fun _ _ _ _ _ _ _ C52 => se_call C52 ((k_deep_of (ZL.at _ _)).mono (by omega)) rfl ((ZL.at _ _).glo 37 rfl) (sa_cons (se_str) (sa_nil))⟩)
      (hb_cons rfl (fun _ _ => ⟨LamX.lamS_by (by rfl), fun _ _ _ _ _ => rfl, fun _ _ _ _ _ _ _ C53 => se_call C53 ((k_full_name (ZL.at _ _)).mono (by omega)) rfl ((ZL.at _ _).glo 36 rfl) (sa_cons (se_str) (sa_cons (se_str) (sa_nil)))⟩)
      (hb_cons rfl (fun _ _ => ⟨LamX.lamS_by (by rfl), fun _ _ _ _ _ => rfl, fun _ _ _ _ _ _ _ C54 => se_call C54 ((k_full_name (ZL.at _ _)).mono (by omega)) rfl ((ZL.at _ _).glo 36 rfl) (sa_cons (se_str) (sa_cons (se_str) (sa_nil)))⟩)
      (hb_cons rfl (fun _ _ => ⟨LamX.lamS_by (by rfl), fun _ _ _ _ _ => rfl, fun _ _ _ _ _ _ _ C55 => se_call C55 ((k_told_from (ZL.at _ _)).mono (by omega)) rfl ((ZL.at _ _).glo 39 rfl) (sa_cons (se_str) (sa_cons (se_str) (sa_nil)))⟩)
      (hb_cons rfl (fun _ _ => ⟨LamX.lamS_by (by rfl), fun _ _ _ _ _ => rfl, fun _ _ _ _ _ _ _ C56 => se_call C56 ((k_key_of (ZL.at _ _)).mono (by omega)) rfl ((ZL.at _ _).glo 28 rfl) (sa_cons (se_str) (sa_nil))⟩)
      (hb_cons rfl (fun _ _ => ⟨LamX.lamS_by (by rfl), fun _ _ _ _ _ => rfl, fun _ _ _ _ _ _ _ C57 => se_call C57 ((k_in_order (ZL.at _ _)).mono (by omega)) rfl ((ZL.at _ _).glo 30 rfl) (sa_cons (se_tup (sa_cons (se_str) (sa_nil))) (sa_nil))⟩)
      (hb_cons rfl (fun _ _ => ⟨LamX.lamS_by (by rfl), fun _ _ _ _ _ => rfl, fun _ _ _ _ _ _ _ C58 => se_call C58 ((k_shared_top (ZL.at _ _)).mono (by omega)) rfl ((ZL.at _ _).glo 33 rfl) (sa_cons (se_tup (sa_cons (se_str) (sa_nil))) (sa_nil))⟩)
      (hb_cons rfl (fun _ _ => ⟨LamX.lamS_by (by rfl), fun _ _ _ _ _ => rfl, fun _ _ _ _ _ _ _ C59 => se_call C59 ((k_next_name (ZL.at _ _)).mono (by omega)) rfl ((ZL.at _ _).glo 31 rfl) (sa_cons (se_tup (sa_nil)) (sa_cons (se_str) (sa_nil)))⟩)
      (hb_cons rfl (fun _ _ => ⟨LamX.lamS_by (by rfl), fun _ _ _ _ _ => rfl, fun _ _ _ _ _ _ _ C60 => se_call C60 ((k_next_name (ZL.at _ _)).mono (by omega)) rfl ((ZL.at _ _).glo 31 rfl) (sa_cons (se_tup (sa_cons (se_str) (sa_nil))) (sa_cons (se_str) (sa_nil)))⟩)
      (hb_cons rfl (fun _ _ => ⟨LamX.lamS_by (by rfl), fun _ _ _ _ _ => rfl, fun _ _ _ _ _ _ _ C61 => se_call C61 ((k_told_wide (ZL.at _ _)).mono (by omega)) rfl ((ZL.at _ _).glo 10 rfl) (sa_cons (se_str) (sa_nil))⟩)
      (hb_cons rfl (fun _ _ => ⟨LamX.lamS_by (by rfl), fun _ _ _ _ _ => rfl, fun _ _ _ _ _ _ _ C62 => se_call C62 ((k_told_wide (ZL.at _ _)).mono (by omega)) rfl ((ZL.at _ _).glo 10 rfl) (sa_cons (se_str) (sa_nil))⟩)
      (hb_cons rfl (fun _ _ => ⟨LamX.lamS_by (by rfl), fun _ _ _ _ _ => rfl, fun _ _ _ _ _ _ _ C63 => se_call C63 ((k_read_wide (ZL.at _ _)).mono (by omega)) rfl ((ZL.at _ _).glo 17 rfl) (sa_cons (se_str) (sa_nil))⟩)
      (hb_cons rfl (fun _ _ => ⟨LamX.lamS_by (by rfl), fun _ _ _ _ _ => rfl, fun _ _ _ _ _ _ _ C64 => se_call C64 ((k_read_wide (ZL.at _ _)).mono (by omega)) rfl ((ZL.at _ _).glo 17 rfl) (sa_cons (se_str) (sa_nil))⟩)
      (hb_cons rfl (fun _ _ => ⟨LamX.lamS_by (by rfl), fun _ _ _ _ _ => rfl, fun _ _ _ _ _ _ _ C65 => se_call C65 ((k_read_wide (ZL.at _ _)).mono (by omega)) rfl ((ZL.at _ _).glo 17 rfl) (sa_cons (se_str) (sa_nil))⟩)
      (hb_cons rfl (fun _ _ => ⟨LamX.lamS_by (by rfl), fun _ _ _ _ _ => rfl, fun _ _ _ _ _ _ _ C66 => se_call C66 ((k_read_wide (ZL.at _ _)).mono (by omega)) rfl ((ZL.at _ _).glo 17 rfl) (sa_cons (se_str) (sa_nil))⟩)
      hb_nil))))))))))))))))))))))))))))))))) (told ZL) (isa_ok ZL) (se_var 4 (pv 4)) rfl (ZL.glo 18 rfl)) (se_str)), se_var 3 (pv 3)⟩)) (se_lstF (sa_nil))) (sb_one (ss_ret (se_bl))) (sb_nil))
          (sb_cons (ss_if (c_ne Cs.toCan (se_tup (sa_cons (se_gi (ZL.int 23 rfl) rfl) (sa_cons (se_gi (ZL.int 26 rfl) rfl) (sa_cons (se_gs (ZL.str 6 rfl) rfl) (sa_nil))))) (se_tup (sa_cons (se_int) (sa_cons (se_int) (sa_cons (se_str) (sa_nil)))))) (sb_one (ss_ret (se_bl))) (sb_nil))
          (sb_cons (ss_asg (se_lstF (sa_cons (se_tup (sa_cons (se_str) (sa_cons (se_str) (sa_cons (se_str) (sa_nil))))) (sa_cons (se_str) (sa_cons (se_bl) (sa_cons (se_str) (sa_cons (se_tup (sa_cons (se_str) (sa_cons (se_str) (sa_cons (se_str) (sa_nil))))) (sa_cons (se_bl) (sa_cons (se_int) (sa_cons (se_str) (sa_cons (se_str) (sa_cons (se_str) (sa_cons (se_str) (sa_cons (se_str) (sa_cons (se_str) (sa_nil))))))))))))))) (t_nm 2 Cs.toCan))
          (sb_cons (ss_asg (e_addF Cs.toCan (se_var 2 (pv 2)) (se_lstF (sa_cons (se_tup (sa_cons (se_str) (sa_cons (se_str) (sa_cons (se_str) (sa_cons (se_str) (sa_nil)))))) (sa_cons (se_str) (sa_cons (se_str) (sa_cons (se_str) (sa_cons (se_str) (sa_cons (se_str) (sa_cons (se_tup (sa_cons (se_str) (sa_cons (se_str) (sa_nil)))) (sa_cons (se_non) (sa_cons (se_non) (sa_cons (se_bl) (sa_cons (se_bl) (sa_cons (se_str) (sa_cons (se_tup (sa_nil)) (sa_cons (se_str) (sa_nil))))))))))))))))) (t_nm 2 Cs.toCan))
          (sb_one (ss_ret (e_eq Cs.toCan (se_var 0 (pv 0)) (se_var 2 (pv 2))))))))))))))))))))
theorem sc_law : FnScope ["script", "dice", "rows", "name", "parts", "base", "top", "inside", "rest", "told", "text", "keys", "order", "same", "later", "wide", "back", "wrong", "k", "mine", "key", "one", "sign"] ["script"] (defScope s_law) := ⟨rfl, rfl, rfl, by decide +kernel, rfl, by decide +kernel, by decide +kernel⟩
end
end K01
namespace K01
open PySem PySem.Spec PyProof.Rows L2 Sh Lb
abbrev cz : List String := ["NameFault", "LabelError"]
theorem r_roll : f_law_roll 2 = ff_roll 2 := rfl
theorem r_read : f_read_wide = Lb.f_read_wide cz := rfl
theorem r_told : f_told_wide = Lb.f_told_wide cz := rfl
theorem r_parts : f_parts_of = Lb.f_parts_of cz := rfl
theorem r_key : f_key_of = Lb.f_key_of cz := rfl
theorem r_order : f_in_order = Lb.f_in_order cz := rfl
theorem r_next : f_next_name = Lb.f_next_name cz := rfl
theorem r_shared : f_shared_top = Lb.f_shared_top cz := rfl
theorem r_plain : f_plain_name = Lb.f_plain_name cz := rfl
theorem r_full : f_full_name = Lb.f_full_name cz := rfl
theorem r_deep : f_deep_of = Lb.f_deep_of cz := rfl
theorem r_in : f_is_in = Lb.f_is_in cz := rfl
theorem r_from : f_told_from = Lb.f_told_from cz := rfl
theorem r_all : f_all_above = Lb.f_all_above cz := rfl
theorem r_above : f_name_above = Lb.f_name_above cz := rfl
theorem r_same : f_is_same_name = Lb.f_is_same_name cz := rfl
theorem s_rollK (h : IH) (d : Nat) (m : Int) (k : Dice h d) (hm : 0 < m ∧ m ≤ 9000000000000) : ∃ (r : Nat) (h' : IH), f_law_roll 2 [.ref d, .int m] h = .ok (.int (r : Nat)) h' ∧ (r : Int) < m ∧ Dr d h h' := by
  obtain ⟨r, h', e, b, q⟩ := s_roll h d m k hm
  refine ⟨r.toNat, h', ?_, by omega, q⟩
  rw [show ((r.toNat : Nat) : Int) = r by omega]
  exact e
/-- words that names are drawn of -/
def W5 : List Tx := [[97], [98], [99, 45, 49], [69, 120], [119, 95]]
def lowW (r : Tx) : Tx := r.map lo1
theorem w5 : ∀ r ∈ W5, (goodP (lowW r) && decide (lowW r ≠ [42])) = true ∧ r.length ≤ 3 ∧ ∀ c ∈ r, c < 128 := by decide
theorem word_ix {r : Nat} (hr : r < 5) : ∃ w ∈ W5, (W5.map IV.str)[r]? = some (.str w) := by
  have : r = 0 ∨ r = 1 ∨ r = 2 ∨ r = 3 ∨ r = 4 := by omega
  rcases this with rfl | rfl | rfl | rfl | rfl <;> exact ⟨_, by decide, rfl⟩
/-- a drawn name: its raw parts, told with a dot behind or not -/
structure Nm (rs : List Tx) (dot : Bool) : Prop where
  w : ∀ r ∈ rs, r ∈ W5
  len : rs.length ≤ 4
  dot0 : rs = [] → dot = true
def nmT (rs : List Tx) (dot : Bool) : Tx := TL.joinL [46] rs ++ (if dot then [46] else [])
def nmP (rs : List Tx) : List Tx := rs.map lowW
theorem sum_le : ∀ {l : List Nat} {b : Nat}, (∀ x ∈ l, x ≤ b) → l.sum ≤ l.length * b
  | [], _, _ => by simp
  | x :: l, b, h => by
    have := sum_le (l := l) (b := b) fun y hy => h y (by simp [hy])
    have := h x (by simp)
    rw [List.sum_cons, List.length_cons, Nat.succ_mul]
    omega
theorem nm_good {rs : List Tx} (w : ∀ r ∈ rs, r ∈ W5) (hl : rs.length ≤ 20) : GoodPs (nmP rs) ∧ tame (nmP rs) = true := by
  have ht : tame (nmP rs) = true := by
    unfold tame nmP
    rw [List.all_map]
    exact List.all_eq_true.mpr fun r hr => (w5 r (w r hr)).1
  refine ⟨⟨okFrom_tame ht, ?_⟩, ht⟩
  have : lenP (nmP rs) ≤ (rs.map List.length).length * 3 := by
    unfold lenP nmP
    rw [List.map_map]
    have : (fun x : Tx => x.length) ∘ lowW = List.length := by funext r; simp [lowW]
    rw [this]
    refine sum_le fun x hx => ?_
    obtain ⟨r, hr, rfl⟩ := List.mem_map.mp hx
    exact (w5 r (w r hr)).2.1
  rw [List.length_map] at this
  have e : (nmP rs).length = rs.length := by simp [nmP]
  omega
theorem Nm.raw {rs : List Tx} {dot : Bool} (n : Nm rs dot) : Raw rs (nmP rs) := ⟨rfl, (nm_good n.w (by have := n.len; omega)).1⟩
theorem Nm.parts {rs : List Tx} {dot : Bool} (n : Nm rs dot) : partsF (nmT rs dot) = some (nmP rs) := by
  unfold nmT
  cases hd : dot with
  | true => exact n.raw.parts_dot
  | false =>
    have hr : rs ≠ [] := fun z => by have := n.dot0 z; rw [hd] at this; cases this
    have := n.raw.parts hr
    simpa using this
theorem Nm.asc {rs : List Tx} {dot : Bool} (n : Nm rs dot) : AscT (nmT rs dot) := by
  unfold nmT
  have a := n.raw.asc
  have l : (TL.joinL [46] rs).length ≤ 500000 := by
    rcases n.raw.jlen with z | z
    · omega
    · subst z; simp [TL.joinL]
  cases dot with
  | true => exact a.dot l
  | false => simpa using a
theorem lower_list {rs : List Tx} (w : ∀ r ∈ rs, r ∈ W5) (hl : rs.length ≤ 4) (e : IE) (h : IH) (he : e[1]? = some (some (.fz (rs.map .str)))) (hw : wipeI e [4] = e) (h4 : 4 < e.length) : mLcF (mItV (mVar 1)) [4] (gName' 4) (mC (.bl true)) (mBM .str gLower (mVar 4) mNil) e h = .ok (.fz ((nmP rs).map .str)) h := by
  have hs : mItV (mVar 1) e h = .ok (srT (rs.map .str)) h := by simp [he]
  rw [mLcF_l hs src_T, hw, lcX_name (emb := IV.str) (p := fun _ => true) (q := fun r => .str (lowW r))]
  · simp [nmP, Function.comp_def]
  · show _ ≤ 10000000; simp; omega
  · intro r _; simp
  · intro r hr _
    have q := w5 r (w r hr)
    have a : r.all (fun c => decide (c < 128)) = true := List.all_eq_true.mpr fun c hc => decide_eq_true (q.2.2 c hc)
    have b : r.length ≤ 5000000 := by have := q.2.1; omega
    simp [h4, okT, a, b, lowW]
theorem s_name (h : IH) (d : Nat) (D : Dice h d) : ∃ rs dot h', f_law_name [.ref d] h = .ok (.tup [.str (nmT rs dot), .fz ((nmP rs).map .str)]) h' ∧ Nm rs dot ∧ Dr d h h' := by
  obtain ⟨n, h1, e1, b1, r1⟩ := s_rollK h d 5 D (by omega)
  have D1 := r1.dice D
  let e0 : IE := [some (.ref d), none, none, none, none]
  have hit : mRng1 (mCons (mOwn 2 (f_law_roll 2) (mCons (mVar 0) (mCons (mC (.int 5)) (mNil)))) (mNil)) e0 h = .ok (srR 0 (n : Nat)) h1 := mRng1_ok (by simp [e0, e1]) (by omega)
  obtain ⟨rs, h2, e2, l2, w2, r2⟩ := draw_list (α := Tx) (emb := IV.str) (P := fun w => w ∈ W5) (R := Dr d) (fun _ _ _ a b => a.trans b) (k := 3) (f := m2 gGet (mLstF (mCons (mC (.str [97])) (mCons (mC (.str [98])) (mCons (mC (.str [99, 45, 49])) (mCons (mC (.str [69, 120])) (mCons (mC (.str [119, 95])) (mNil))))))) (mOwn 2 (f_law_roll 2) (mCons (mVar 0) (mCons (mC (.int 5)) (mNil))))) (e := e0) (h := h) (n := n) hit (Dr.refl D1) (by omega) rfl (fun i h' rr => by
    obtain ⟨m, h'', e3, b3, r3⟩ := s_rollK h' d 5 (rr.dice D1) (by omega)
    obtain ⟨w, hw, ew⟩ := word_ix (r := m) (by omega)
    refine ⟨w, h'', ?_, hw, r3⟩
    have ew' : ([.str [97], .str [98], .str [99, 45, 49], .str [69, 120], .str [119, 95]] : List IV)[m]? = some (.str w) := ew
    simp [e0, e3, big, Sh.Lb.atI_nat, ew'])
  have D2 := r2.dice D1
  obtain ⟨m, h3, e3, b3, r3⟩ := s_rollK h2 d 2 D2 (by omega)
  have hl : rs.length ≤ 4 := by omega
  obtain ⟨dot, hdot⟩ : ∃ dot, dot = (decide (m = 0) || decide (rs = [])) := ⟨_, rfl⟩
  have nm : Nm rs dot := ⟨w2, hl, fun z => by rw [hdot, decide_eq_true z]; simp⟩
  refine ⟨rs, dot, h3, ?_, nm, r1.trans (r2.trans r3)⟩
  show (m_law_name e0 h).fin = _
  unfold m_law_name
  rw [run_seq (run_asg e2)]
  have oks : ∀ x ∈ rs, Em.OkS x := fun x hx c hc => by have := (w5 x (w2 x hx)).2.2 c hc; omega
  have ge := gEq_ls (h := h3) (a := rs) (b := []) oks (by simp)
  have sh : Short rs := ⟨by have := nm.raw.len; omega⟩
  have ej := e_join46F (h := h2) sh
  have jl := sh.join
  have c2 : m2 gAddF (mBM .str gJoin (mC (.str [46])) (mCons (mVar 1) (mNil))) (m2 gMulF (mC (.str [46])) (mCall gIntU (mCons (mOr (m2 gEq (mOwn 2 (f_law_roll 2) (mCons (mVar 0) (mCons (mC (.int 2)) (mNil)))) (mC (.int 0))) (m2 gEq (mVar 1) (mLstF (mNil)))) (mNil)))) (e0.set 1 (some (.fz (rs.map .str)))) h2 = .ok (.str (nmT rs dot)) h3 := by
    have em : mOr (m2 gEq (mOwn 2 (f_law_roll 2) (mCons (mVar 0) (mCons (mC (.int 2)) (mNil)))) (mC (.int 0))) (m2 gEq (mVar 1) (mLstF (mNil))) (e0.set 1 (some (.fz (rs.map .str)))) h2 = .ok (.bl dot) h3 := by
      rw [hdot]
      by_cases z : m = 0
      · subst z
        simp [e0, e3]
      · have z2 : ¬ ((m : Nat) : Int) = 0 := by omega
        simp [e0, e3, z, z2, big]
        simpa using ge
    have e4 : mBM .str gJoin (mC (.str [46])) (mCons (mVar 1) (mNil)) (e0.set 1 (some (.fz (rs.map .str)))) h2 = .ok (.str (TL.joinL [46] rs)) h2 := by
      simp [e0, okT, ej]
    simp only [m2, e4, bind_ok, mCall, mCons, mNil, em, mC]
    unfold nmT
    cases dot with
    | true =>
      simp
      show _ ≤ 10000000
      omega
    | false =>
      simp
      show _ ≤ 10000000
      omega
  rw [run_seq (run_asg c2)]
  have c3 := lower_list w2 hl ((e0.set 1 (some (.fz (rs.map .str)))).set 2 (some (.str (nmT rs dot)))) h3 rfl rfl (by simp [e0])
  have c4 : mTup (mCons (mVar 2) (mCons (mLcF (mItV (mVar 1)) [4] (gName' 4) (mC (.bl true)) (mBM .str gLower (mVar 4) mNil)) (mNil))) ((e0.set 1 (some (.fz (rs.map .str)))).set 2 (some (.str (nmT rs dot)))) h3 = .ok (.tup [.str (nmT rs dot), .fz ((nmP rs).map .str)]) h3 := by
    have c3' : mLcF (mItV (mVar 1)) [4] (gName' 4) (mC (.bl true)) (mBM .str gLower (mVar 4) mNil) [some (.ref d), some (.fz (rs.map .str)), some (.str (nmT rs dot)), none, none] h3 = .ok (.fz ((nmP rs).map .str)) h3 := c3
    simp [e0, big, c3', -mLcF]
  rw [run_ret c4]
  rfl
theorem s_lplain {ps : List Tx} (s : Short ps) (h : IH) : f_law_plain_name [.fz (ps.map .str)] h = .ok (.str (plainT ps)) h := by
  have e1 := e_join46F (h := h) s
  have e2 := e_dot (h := h) s
  simp [f_law_plain_name, fnM_eq, m_law_plain_name, okT, e1, e2, -gAddF]
end K01

namespace K01
open PySem PySem.Spec PyProof.Rows L2 Sh Lb
theorem plain_more {t : Tx} (ho : okW t = true) : (t.filter fun c => !decide (c ∈ MORE)) = plainW t := by
  unfold plainW
  refine List.filter_congr fun c hc => ?_
  unfold okW at ho
  rw [Bool.and_eq_true] at ho
  have := List.all_eq_true.mp ho.2 c hc
  by_cases z : c ∈ MORE
  · have := more_signs c z
    simp [z, this]
  · simp [z] at this ⊢
    exact this
theorem s_lwide {t : Tx} (ho : okW t = true) (hl : t.length ≤ 1000) (h : IH) : f_law_wide [.str t] h = .ok (.str (wideT t)) h := by
  let e0 : IE := [some (.str t), none, none, none, none, none, none]
  let e1 : IE := [some (.str t), some (sg (plainW t)), none, none, none, none, none]
  let e2 : IE := [some (.str t), some (sg (plainW t)), some (L_odd t), none, none, none, none]
  have wl := wide_len hl
  have c1 : mLcF (mItV (mVar 0)) [3] (gName' 3) (m2 (gInU true) (mVar 3) (mC (.str MORE))) (mVar 3) e0 h = .ok (sg (plainW t)) h := by
    have hs : mItV (mVar 0) e0 h = .ok (srS t) h := by simp [e0]
    have ew : wipeI e0 [3] = e0 := rfl
    rw [mLcF_l hs src_S, ew, lcX_name (emb := fun c => .str [c]) (p := fun c => !decide (c ∈ MORE)) (q := fun c => .str [c]), plain_more ho]
    · rfl
    · show _ ≤ 10000000; simp; omega
    · intro y _; simp [e0]
    · intro y _ _; simp [e0]
  have c2 : mLcF (mEnum (mCons (mVar 0) (mNil))) [4, 3] (gSeq' 2 (gsCons (gName' 4) (gsCons (gName' 3) (gsNil)))) (m2 (gInU false) (mVar 3) (mC (.str MORE))) (mTup (mCons (m2 gAddF (mVar 4) (mC (.int 1))) (mCons (mBM .str gIndexS (mC (.str MORE)) (mCons (mVar 3) (mNil))) (mNil)))) e1 h = .ok (L_odd t) h := by
    have hs : mEnum (mCons (mVar 0) (mNil)) e1 h = .ok (srE (srS t)) h := by simp [e1]
    have ew : wipeI e1 [4, 3] = e1 := rfl
    rw [mLcF_l hs (src_E src_S), ew, odd_loop t 0 e1 [] (by show _ ≤ 10000000; simp; omega) _ (by simp [e1])]
    · simp [L_odd]
    · intro c hc m
      have := (idx_more c hc).1
      simp [e1, okT, gIndexS, this, big]
  have c3 : (m2 gEq (mVar 2) (mLstF (mNil))) e2 h = .ok (.bl (decide (oddW 1 t = []))) h := by
    have := odd_nil (h := h) t
    simp [e2, big]
    exact this
  show (m_law_wide e0 h).fin = _
  have hm : m_law_wide = sSeq (sAsg (mLcF (mItV (mVar 0)) [3] (gName' 3) (m2 (gInU true) (mVar 3) (mC (.str MORE))) (mVar 3)) (gName' 1))
          (sSeq (sAsg (mLcF (mEnum (mCons (mVar 0) (mNil))) [4, 3] (gSeq' 2 (gsCons (gName' 4) (gsCons (gName' 3) (gsNil)))) (m2 (gInU false) (mVar 3) (mC (.str MORE))) (mTup (mCons (m2 gAddF (mVar 4) (mC (.int 1))) (mCons (mBM .str gIndexS (mC (.str MORE)) (mCons (mVar 3) (mNil))) (mNil))))) (gName' 2))
          (sSeq (sIf (m2 gEq (mVar 2) (mLstF (mNil))) (sRet (mVar 0)) (sSkip))
          (sRet (m2 gAddF (m2 gAddF (m2 gAddF (mC (.str [120, 110, 45])) (mBM .str gJoin (mC (.str [])) (mCons (mVar 1) (mNil)))) (mC (.str [45]))) (mBM .str gJoin (mC (.str [95])) (mCons (mLcF (mItV (mVar 2)) [5, 6] (gSeq' 2 (gsCons (gName' 5) (gsCons (gName' 6) (gsNil)))) (mC (.bl true)) (m2 gAddF (m2 gAddF (mCall gStrC (mCons (mVar 5) (mNil))) (mC (.str [120]))) (mCall gStrC (mCons (mVar 6) (mNil))))) (mNil))))))) := rfl
  rw [hm, run_seq (run_asg c1)]
  have h1 : e0.set 1 (some (sg (plainW t))) = e1 := rfl
  rw [h1, run_seq (run_asg c2)]
  have h2 : e1.set 2 (some (L_odd t)) = e2 := rfl
  rw [h2]
  by_cases hz : oddW 1 t = []
  · rw [decide_eq_true hz] at c3
    have hw : wideT t = t := by unfold wideT; rw [if_pos hz]
    rw [run_seqR (v := .str t) (h1 := h) (by rw [sIf_eq, c3]; simp [e2]), hw]
    rfl
  · rw [decide_eq_false hz] at c3
    rw [run_seq (run_chk c3)]
    have c5 := told_pxk (h := h) hl (f := m2 gAddF (m2 gAddF (mCall gStrC (mCons (mVar 5) (mNil))) (mC (.str [120]))) (mCall gStrC (mCons (mVar 6) (mNil)))) (i := 5) (j := 6) (src := mVar 2) (e := e2) (by simp [e2]) rfl (fun p k hp hk => by
      have f1 := gStrC_nat (n := p) (h := h) (by omega)
      have f2 := gStrC_nat (n := k) (h := h) (by omega)
      have l1 := TL.numL_len (n := p) (k := 7) (by decide) (by omega)
      have l2 := TL.numL_len (n := k) (k := 7) (by decide) (by omega)
      simp only [m2, mCall, mCons, mNil, mVar, mC, e2, List.set_cons_succ, List.set_cons_zero, List.getElem?_cons_succ, List.getElem?_cons_zero, bind_ok, f1, f2]
      rw [add_ss (by simp; omega), bind_ok, f2, bind_ok, add_ss (by simp; omega)]
      unfold pxk
      simp)
    have hw : wideT t = [120, 110, 45] ++ plainW t ++ [45] ++ TL.joinL [95] ((oddW 1 t).map pxk) := by unfold wideT; rw [if_neg hz]
    have j0 := e_join0 (h := h) (l := plainW t) (by omega)
    generalize mBM .str gJoin (mC (.str [95])) _ = F at c5
    have c5' : F [some (.str t), some (sg (plainW t)), some (L_odd t), none, none, none, none] h = .ok (.str (TL.joinL [95] ((oddW 1 t).map pxk))) h := c5
    have c6 : m2 gAddF (m2 gAddF (m2 gAddF (mC (.str [120, 110, 45])) (mBM .str gJoin (mC (.str [])) (mCons (mVar 1) (mNil)))) (mC (.str [45]))) F e2 h = .ok (.str (wideT t)) h := by
      rw [hw]
      simp only [m2, mC, mBM, mCons, mNil, mVar, e2, List.getElem?_cons_succ, List.getElem?_cons_zero, bind_ok, okT, if_true, j0, noX_ok, c5']
      rw [add_ss (by simp; omega), bind_ok, add_ss (by simp; omega), bind_ok, c5', bind_ok, add_ss (by simp; omega)]
    rw [run_ret c6]
    rfl
/-- signs of a text, drawn one by one -/
theorem draw_text (S : Tx) (n0 : Nat) {it : MI} {e : IE} {h h0 : IH} {d n : Nat} (hS : S.length ≤ 100) (hpos : 0 < S.length) (D : Dice h0 d) (hit : it e h = .ok (srR 0 n) h0) (hn : n ≤ 100) (hw : wipeI e [18] = e) (hd : e[1]? = some (some (.ref d))) :
    ∃ (t : Tx) (h' : IH), mBM .str gJoin (mC (.str [])) (mCons (mLcF it [18] (gName' 18) (mC (.bl true)) (m2 gGet (mC (.str S)) (mOwn 2 (f_law_roll 2) (mCons (mVar 1) (mCons (mC (.int (S.length : Nat))) (mNil)))))) (mNil)) e h = .ok (.str t) h' ∧ t.length = n ∧ (∀ c ∈ t, c ∈ S) ∧ Dr d h0 h' := by
  obtain ⟨t, h', e1, l1, p1, r1⟩ := draw_list (α := Nat) (emb := fun c => IV.str [c]) (P := fun c => c ∈ S) (R := Dr d) (fun _ _ _ a b => a.trans b) (k := 18) (f := m2 gGet (mC (.str S)) (mOwn 2 (f_law_roll 2) (mCons (mVar 1) (mCons (mC (.int (S.length : Nat))) (mNil))))) (e := e) (h := h) (n := n) hit (Dr.refl D) (by omega) hw (fun i h' rr => by
    obtain ⟨m, h'', e3, b3, r3⟩ := s_rollK h' d (S.length : Nat) (rr.dice D) (by omega)
    have hm : m < S.length := by omega
    have hx : S[m]? = some S[m] := List.getElem?_eq_getElem hm
    have hb : S.length ≤ 10000000 := by omega
    have hd' : (e.set 18 (some (.int (0 + (i : Nat)))))[1]? = some (some (.ref d)) := by rw [List.getElem?_set_ne (by omega)]; exact hd
    refine ⟨S[m], h'', ?_, List.getElem_mem hm, r3⟩
    simp [hd, hd', e3, Sh.Lb.atI_nat, hx, hb])
  refine ⟨t, h', ?_, l1, p1, r1⟩
  have j0 := e_join0 (h := h') (l := t) (by omega)
  simp only [mBM, mC, bind_ok, okT, if_true, mCons, mNil, e1, j0, noX_ok]
end K01

namespace K01
open PySem PySem.Spec PyProof.Rows L2 Sh Lb
/-- a drawn row -/
def Row (y : Rw) : Prop := ∃ rs dot, Nm rs dot ∧ y = (nmT rs dot, nmP rs)
theorem Row.asc {y : Rw} (r : Row y) : AscT y.1 := by obtain ⟨rs, dot, n, rfl⟩ := r; exact n.asc
theorem Row.pts {y : Rw} (r : Row y) : partsF y.1 = some y.2 := by obtain ⟨rs, dot, n, rfl⟩ := r; exact n.parts
theorem Row.good {y : Rw} (r : Row y) : GoodPs y.2 := partsF_good r.pts
theorem Row.oks {y : Rw} (r : Row y) : ∀ x ∈ y.2, Em.OkS x := r.good.oks
theorem Row.len {y : Rw} (r : Row y) : y.2.length ≤ 4 := by obtain ⟨rs, dot, n, rfl⟩ := r; simpa [nmP] using n.len
theorem Row.app {y z : Rw} (r : Row y) (s : Row z) : GoodPs (y.2 ++ z.2) := by
  obtain ⟨rs, dot, n, rfl⟩ := r
  obtain ⟨qs, dot', m, rfl⟩ := s
  have := (nm_good (rs := rs ++ qs) (fun r hr => by
    rcases List.mem_append.mp hr with hr | hr
    · exact n.w r hr
    · exact m.w r hr) (by have := n.len; have := m.len; simp; omega)).1
  have e : nmP (rs ++ qs) = nmP rs ++ nmP qs := by simp [nmP]
  rw [e] at this
  exact this
def rowI (y : Rw) : IV := .tup [.str y.1, .fz (y.2.map .str)]
section
variable {e : IE} {h : IH} {nm : Tx} {ps qs : List Tx} {y z : Rw}
theorem g_same {ps : List Tx} (o : ∀ x ∈ ps, Em.OkS x) : gNe (.fz (ps.map .str)) (.fz (ps.map .str)) h = .ok (.bl false) h := by simpa using gNe_ls (h := h) o o
/-- list(parts_of(name)) != parts or plain_name(name) != .. -/
theorem c_3 (r : Row y) (e3 : e[3]? = some (some (.str y.1))) (e4 : e[4]? = some (some (.fz (y.2.map .str)))) : (mOr (m2 gNe (mCall gListF (mCons (mOwn 1 f_parts_of (mCons (mVar 3) (mNil))) (mNil))) (mVar 4)) (m2 gNe (mOwn 1 f_plain_name (mCons (mVar 3) (mNil))) (mOwn 1 f_law_plain_name (mCons (mVar 4) (mNil))))) e h = .ok (.bl false) h := by
  have a1 : f_parts_of [.str y.1] h = _ := s_parts (cs := cz) (h := h) r.asc r.pts
  have a2 : f_plain_name [.str y.1] h = _ := s_plain (cs := cz) (h := h) r.asc r.pts
  have a3 := s_lplain r.good.short h
  have a4 := g_same (h := h) r.oks
  simp [e3, e4, a1, a2, a3, a4]
theorem c_4 (r : Row y) (q : Row z) (e3 : e[3]? = some (some (.str y.1))) (e4 : e[4]? = some (some (.fz (y.2.map .str)))) (e5 : e[5]? = some (some (.str z.1))) (e6 : e[6]? = some (some (.fz (z.2.map .str)))) : (mOr (m2 gNe (mOwn 2 f_is_same_name (mCons (mVar 3) (mCons (mVar 5) (mNil)))) (m2 gEq (mVar 4) (mVar 6))) (m2 gNe (mOwn 1 f_deep_of (mCons (mVar 3) (mNil))) (mCall gLenU (mCons (mVar 4) (mNil))))) e h = .ok (.bl false) h := by
  have a1 : f_is_same_name [.str y.1, .str z.1] h = _ := s_same (cs := cz) (h := h) r.asc r.pts q.asc q.pts
  have a2 : f_deep_of [.str y.1] h = _ := s_deep (cs := cz) (h := h) r.asc r.pts
  have a4 := gEq_ls (h := h) r.oks q.oks
  simp [e3, e4, e5, e6, a1, a2, a4]
theorem c_5 (r : Row y) (e3 : e[3]? = some (some (.str y.1))) (e4 : e[4]? = some (some (.fz (y.2.map .str)))) : (mOr (m2 gNe (mCall gListF (mCons (mOwn 1 f_key_of (mCons (mVar 3) (mNil))) (mNil))) (m1 gRev (mVar 4))) (m2 gNe (mOwn 1 f_name_above (mCons (mVar 3) (mNil))) (mOwn 1 f_law_plain_name (mCons (mSlF (mVar 4) (mPart (mC (.int 1))) (mNoPart)) (mNil))))) e h = .ok (.bl false) h := by
  have a1 : f_key_of [.str y.1] h = _ := s_key (cs := cz) (h := h) r.asc r.pts
  have a2 : f_name_above [.str y.1] h = _ := s_above (cs := cz) (h := h) r.asc r.pts
  have a3 := s_lplain (r.good.short.drop (k := 1)) h
  have a4 := g_same (h := h) (ps := y.2.reverse) (fun x hx => r.oks x (by simpa using hx))
  rw [List.map_reverse] at a4 a1
  rw [List.map_drop] at a3
  simp [e3, e4, a1, a2, a3, a4, cut_from, List.map_drop, -List.drop_one]
theorem above_list (r : Row y) (e4 : e[4]? = some (some (.fz (y.2.map .str)))) (hw : wipeI e [18] = e) (hl : 18 < e.length) : mLcF (mRng1 (mCons (m2 gAddF (mCall gLenU (mCons (mVar 4) (mNil))) (mC (.int 1))) (mNil))) [18] (gName' 18) (mC (.bl true)) (mOwn 1 f_law_plain_name (mCons (mSlF (mVar 4) (mPart (mVar 18)) (mNoPart)) (mNil))) e h = .ok (.fz (((List.range (y.2.length + 1)).map fun k => plainT (y.2.drop k)).map .str)) h := by
  have rl := r.len
  have hit : mRng1 (mCons (m2 gAddF (mCall gLenU (mCons (mVar 4) (mNil))) (mC (.int 1))) (mNil)) e h = .ok (srR 0 ((y.2.length : Int) + 1)) h := mRng1_ok (by simp [e4]) (by omega)
  have hn : ((y.2.length : Int) + 1 - 0).toNat = y.2.length + 1 := by omega
  rw [mLcF_l hit src_R, hw, hn]
  unfold rngL
  rw [lcX_name (emb := fun (i : Nat) => IV.int (0 + (i : Nat))) (p := fun _ => true) (q := fun k => .str (plainT (y.2.drop k)))]
  · simp [Function.comp_def]
  · show _ ≤ 10000000
    simp
    omega
  · intro k _; simp
  · intro k _ _
    have c0 : (0 : Int) ≤ 0 + (k : Nat) := by omega
    have c1 : ((0 : Int) + (k : Nat)).toNat = k := by omega
    have a3 := s_lplain (r.good.short.drop (k := k)) h
    rw [List.map_drop] at a3
    simp [e4, hl, cut_from, List.map_drop, a3]
theorem c_6 (r : Row y) (e3 : e[3]? = some (some (.str y.1))) (e4 : e[4]? = some (some (.fz (y.2.map .str)))) (hw : wipeI e [18] = e) (hl : 18 < e.length) : (m2 gNe (mCall gListF (mCons (mOwn 1 f_all_above (mCons (mVar 3) (mNil))) (mNil))) (mLcF (mRng1 (mCons (m2 gAddF (mCall gLenU (mCons (mVar 4) (mNil))) (mC (.int 1))) (mNil))) [18] (gName' 18) (mC (.bl true)) (mOwn 1 f_law_plain_name (mCons (mSlF (mVar 4) (mPart (mVar 18)) (mNoPart)) (mNil))))) e h = .ok (.bl false) h := by
  have a1 : f_all_above [.str y.1] h = _ := Sh.Lb.s_all_above (cs := cz) (h := h) r.asc r.pts
  have a2 := above_list (h := h) r e4 hw hl
  have a3 := g_same (h := h) (ps := (List.range (y.2.length + 1)).map fun k => plainT (y.2.drop k)) (fun x hx => by
    obtain ⟨k, _, rfl⟩ := List.mem_map.mp hx
    intro c hc
    unfold plainT at hc
    rcases List.mem_append.mp hc with hc | hc
    · rcases joinL_mem hc with hc | ⟨p, hp, hc⟩
      · simp at hc; omega
      · exact r.oks p (List.mem_of_mem_drop hp) c hc
    · simp at hc; omega)
  have b1 : mCall gListF (mCons (mOwn 1 f_all_above (mCons (mVar 3) (mNil))) (mNil)) e h = .ok (.fz (((List.range (y.2.length + 1)).map fun k => plainT (y.2.drop k)).map .str)) h := by simp only [mCall, mCons, mNil, mOwn_eq, mVar, e3, bind_ok, List.length_singleton, if_true, a1, gListF_tup]
  simp only [m2, b1, bind_ok, a2, a3]
theorem in_val : (decide (qs = []) || decide (ps.drop (-(qs.length : Int) + ps.length).toNat = qs)) = inP ps qs := by
  unfold inP
  by_cases hq : qs = []
  · subst hq
    simp
  · have hl : 0 < qs.length := List.length_pos_iff.mpr hq
    rw [decide_eq_false hq, Bool.false_or]
    by_cases hle : qs.length ≤ ps.length
    · rw [decide_eq_true hle, Bool.true_and, show (-(qs.length : Int) + ps.length).toNat = ps.length - qs.length by omega]
    · rw [decide_eq_false hle, Bool.false_and, show (-(qs.length : Int) + ps.length).toNat = 0 by omega, List.drop_zero]
      exact decide_eq_false fun z => hle (by rw [z]; exact Nat.le_refl _)
theorem v_in (r : Row y) (q : Row z) (e4 : e[4]? = some (some (.fz (y.2.map .str)))) (e6 : e[6]? = some (some (.fz (z.2.map .str)))) : (mOr (m2 gEq (mVar 6) (mLstF (mNil))) (m2 gEq (mSlF (mVar 4) (mPart (m1 gNeg (mCall gLenU (mCons (mVar 6) (mNil))))) (mNoPart)) (mVar 6))) e h = .ok (.bl (inP y.2 z.2)) h := by
  rw [← in_val]
  have a1 := gEq_ls (h := h) (a := z.2) (b := []) q.oks (by simp)
  by_cases hq : z.2 = []
  · rw [decide_eq_true hq] at a1 ⊢
    rw [List.map_nil] at a1
    simp [e6, big, a1]
  · rw [decide_eq_false hq] at a1 ⊢
    rw [List.map_nil] at a1
    have hl : 0 < z.2.length := List.length_pos_iff.mpr hq
    have cn : -(z.2.length : Int) < 0 := by omega
    have a2 := gEq_ls (h := h) (a := y.2.drop (-(z.2.length : Int) + y.2.length).toNat) (b := z.2) (fun x hx => r.oks x (List.mem_of_mem_drop hx)) q.oks
    rw [List.map_drop] at a2
    simp only [mOr_eq, m2, mVar, e6, e4, bind_ok, mLstF, mNil, List.length_nil]
    rw [if_pos (by decide), bind_ok, a1, bind_ok]
    simp only [brM_f, mSlF, mVar, e4, bind_ok, mPart, m1, mCall, mCons, mNil, e6, gLenU_fz, List.length_map, gNeg, mNoPart, gSlF, sqI, cut_fromN cn, List.map_drop, a2, Bool.false_or]
theorem c_7 (r : Row y) (q : Row z) (e3 : e[3]? = some (some (.str y.1))) (e5 : e[5]? = some (some (.str z.1))) (e7 : e[7]? = some (some (.bl (inP y.2 z.2)))) : (m2 gNe (mOwn 2 f_is_in (mCons (mVar 3) (mCons (mVar 5) (mNil)))) (mVar 7)) e h = .ok (.bl false) h := by
  have a1 : f_is_in [.str y.1, .str z.1] h = _ := s_in (cs := cz) (h := h) r.asc r.pts q.asc q.pts
  simp [e3, e5, e7, a1]
end
end K01

namespace K01
open PySem PySem.Spec PyProof.Rows L2 Sh Lb
section
variable {e : IE} {h : IH} {nm : Tx} {ps qs : List Tx} {y z : Rw}
theorem v_rest (e4 : e[4]? = some (some (.fz (ps.map .str)))) (e6 : e[6]? = some (some (.fz (qs.map .str)))) : (mSlF (mVar 4) (mNoPart) (mPart (m2 Sh.gSub (mCall gLenU (mCons (mVar 4) (mNil))) (mCall gLenU (mCons (mVar 6) (mNil)))))) e h = .ok (.fz ((cutI ps none (some ((ps.length : Int) - qs.length))).map .str)) h := by
  simp only [mSlF, mVar, e4, e6, bind_ok, mNoPart, mPart, m2, mCall, mCons, mNil, gLenU_fz, List.length_map, Sh.gSub, gI, if_true, gSlF, sqI, cutI_map]
theorem in_le (hi : inP ps qs = true) : qs.length ≤ ps.length ∧ ps.drop (ps.length - qs.length) = qs := by
  unfold inP at hi
  rw [Bool.and_eq_true, decide_eq_true_eq, decide_eq_true_eq] at hi
  exact hi
theorem v_told (r : Row y) (q : Row z) (e4 : e[4]? = some (some (.fz (y.2.map .str)))) (e6 : e[6]? = some (some (.fz (z.2.map .str)))) (e7 : e[7]? = some (some (.bl (inP y.2 z.2)))) (e8 : e[8]? = some (some (.fz ((cutI y.2 none (some ((y.2.length : Int) - z.2.length))).map .str)))) :
    (mIf (mOr (mNot (mVar 7)) (m2 gEq (mVar 6) (mLstF (mNil)))) (mOwn 1 f_law_plain_name (mCons (mVar 4) (mNil))) (mIf (m2 gNe (mVar 8) (mLstF (mNil))) (mBM .str gJoin (mC (.str [46])) (mCons (mVar 8) (mNil))) (mC (.str [64])))) e h = .ok (.str (toldP y.2 z.2)) h := by
  unfold toldP
  have a3 := s_lplain r.good.short h
  have a1 := gEq_ls (h := h) (a := z.2) (b := []) q.oks (by simp)
  rw [List.map_nil] at a1
  cases hi : inP y.2 z.2 with
  | false =>
    rw [hi] at e7
    rw [if_pos (.inl rfl)]
    simp [e7, e4, a3]
  | true =>
    rw [hi] at e7
    by_cases hq : z.2 = []
    · rw [if_pos (.inr hq)]
      rw [decide_eq_true hq] at a1
      simp [e7, e4, e6, a1, a3, big]
    · rw [if_neg (by rintro (w | w); cases w; exact hq w)]
      rw [decide_eq_false hq] at a1
      obtain ⟨hle, _⟩ := in_le hi
      have c2 : (0 : Int) ≤ (y.2.length : Int) - z.2.length := by omega
      rw [cut_to c2, show ((y.2.length : Int) - z.2.length).toNat = y.2.length - z.2.length by omega] at e8
      have g := gNe_ls (h := h) (a := y.2.take (y.2.length - z.2.length)) (b := []) (fun x hx => r.oks x (List.mem_of_mem_take hx)) (by simp)
      have gj := e_join46F (h := h) (r.good.short.take (k := y.2.length - z.2.length))
      have iff1 : y.2.take (y.2.length - z.2.length) = [] ↔ y.2.length = z.2.length := by
        have : 0 < z.2.length := List.length_pos_iff.mpr hq
        rw [← List.length_eq_zero_iff, List.length_take]
        omega
      generalize y.2.take (y.2.length - z.2.length) = T at e8 g gj iff1 ⊢
      rw [List.map_nil] at g
      by_cases hz : y.2.length = z.2.length
      · rw [if_pos hz]
        rw [decide_eq_true (iff1.mpr hz)] at g
        simp [e7, e6, a1, e8, g, big]
      · rw [if_neg hz]
        rw [decide_eq_false (fun w => hz (iff1.mp w))] at g
        simp [e7, e6, a1, e8, g, gj, okT, big, -gJoin_fz]
theorem GoodPs.take {k : Nat} (g : GoodPs ps) : GoodPs (ps.take k) := by
  refine ⟨?_, ?_⟩
  · have := g.ok
    rw [← List.take_append_drop k ps, okFrom_app, Bool.and_eq_true] at this
    exact this.1
  · have h1 := @lenP_take ps k
    have h2 := g.len
    have h3 : (ps.take k).length ≤ ps.length := by simp; omega
    omega
theorem full_told (r : Row y) (q : Row z) : f_full_name [.str (toldP y.2 z.2), .str z.1] h = .ok (.str (plainT y.2)) h := by
  unfold toldP
  by_cases hi : inP y.2 z.2 = false ∨ z.2 = []
  · rw [if_pos hi]
    exact s_full_dot (cs := cz) r.good.asc r.good.plain q.asc q.pts (by unfold plainT; simp)
  · rw [if_neg hi]
    have hi1 : inP y.2 z.2 = true := by
      cases w : inP y.2 z.2 with
      | false => exact absurd (.inl w) hi
      | true => rfl
    have hq : z.2 ≠ [] := fun w => hi (.inr w)
    obtain ⟨hle, hd⟩ := in_le hi1
    by_cases hz : y.2.length = z.2.length
    · rw [if_pos hz]
      have e : y.2 = z.2 := by rw [← hd, hz]; simp
      rw [e]
      exact s_full_at (cs := cz) q.asc q.pts
    · rw [if_neg hz]
      have gt := GoodPs.take (k := y.2.length - z.2.length) r.good
      have hn : y.2.take (y.2.length - z.2.length) ≠ [] := fun w => by
        have := congrArg List.length w
        rw [List.length_take] at this
        simp at this
        have h0 : 0 < z.2.length := List.length_pos_iff.mpr hq
        omega
      have e : y.2.take (y.2.length - z.2.length) ++ z.2 = y.2 := by
        conv => rhs; rw [← List.take_append_drop (y.2.length - z.2.length) y.2]
        rw [hd]
      have := s_full_rel (cs := cz) (h := h) (qs := z.2) gt.raw hn q.asc q.pts (by rw [e]; exact r.good)
      rw [e] at this
      exact this
theorem c_10 (r : Row y) (q : Row z) (e3 : e[3]? = some (some (.str y.1))) (e4 : e[4]? = some (some (.fz (y.2.map .str)))) (e5 : e[5]? = some (some (.str z.1))) (e9 : e[9]? = some (some (.str (toldP y.2 z.2)))) : (mOr (m2 gNe (mOwn 2 f_told_from (mCons (mVar 3) (mCons (mVar 5) (mNil)))) (mVar 9)) (m2 gNe (mOwn 2 f_full_name (mCons (mVar 9) (mCons (mVar 5) (mNil)))) (mOwn 1 f_law_plain_name (mCons (mVar 4) (mNil))))) e h = .ok (.bl false) h := by
  have a1 : f_told_from [.str y.1, .str z.1] h = _ := s_told (cs := cz) (h := h) r.asc r.pts q.asc q.pts
  have a2 := full_told (h := h) r q
  have a3 := s_lplain r.good.short h
  simp [e3, e4, e5, e9, a1, a2, a3]
theorem c_11 (q : Row z) (e5 : e[5]? = some (some (.str z.1))) (e6 : e[6]? = some (some (.fz (z.2.map .str)))) : (m2 gNe (mOwn 2 f_full_name (mCons (mC (.str [64])) (mCons (mVar 5) (mNil)))) (mOwn 1 f_law_plain_name (mCons (mVar 6) (mNil)))) e h = .ok (.bl false) h := by
  have a1 : f_full_name [.str [64], .str z.1] h = _ := s_full_at (cs := cz) (h := h) q.asc q.pts
  have a3 := s_lplain q.good.short h
  simp [e5, e6, a1, a3]
theorem GoodPs.short' {ps : List Tx} (g : GoodPs ps) : Short ps := g.short
theorem c_12 (r : Row y) (q : Row z) (e3 : e[3]? = some (some (.str y.1))) (e4 : e[4]? = some (some (.fz (y.2.map .str)))) (e5 : e[5]? = some (some (.str z.1))) (e6 : e[6]? = some (some (.fz (z.2.map .str)))) : (m2 gNe (mOwn 2 f_full_name (mCons (mVar 3) (mCons (mVar 5) (mNil)))) (mIf (m2 gEq (m2 gGet (mVar 3) (m1 gNeg (mC (.int 1)))) (mC (.str [46]))) (mOwn 1 f_law_plain_name (mCons (mVar 4) (mNil))) (mOwn 1 f_law_plain_name (mCons (m2 gAddF (mVar 4) (mVar 6)) (mNil))))) e h = .ok (.bl false) h := by
  have gg := r.app q
  have a3 := s_lplain r.good.short h
  have a4 := s_lplain gg.short h
  have lr := r.len
  have lq := q.len
  have asc := r.asc
  have hb : y.1.length ≤ 10000000 := by have := asc.1; omega
  have hne : y.1 ≠ [] := fun w => by
    have := r.pts
    rw [w] at this
    cases this
  obtain ⟨c, hc⟩ : ∃ c, y.1.getLast? = some c := ⟨_, List.getLast?_eq_getLast hne⟩
  have ha : atI y.1 (-1) = some c := (atI_l hne).trans hc
  by_cases hl : c = 46
  · subst hl
    have a1 : f_full_name [.str y.1, .str z.1] h = _ := s_full_dot (cs := cz) (h := h) r.asc r.pts q.asc q.pts hc
    simp [e3, e4, e5, e6, a1, a3, ha, hb]
  · have a1 : f_full_name [.str y.1, .str z.1] h = .ok (.str (plainT (y.2 ++ z.2))) h := by
      obtain ⟨rs, dot, n, rfl⟩ := r
      have hd : dot = false := by
        cases dot with
        | false => rfl
        | true =>
          simp [nmT] at hc
          exact absurd hc.symm hl
      subst hd
      have hr : rs ≠ [] := fun w => by have := n.dot0 w; cases this
      have := s_full_rel (cs := cz) (h := h) n.raw hr q.asc q.pts gg
      simp only [nmT, Bool.false_eq_true, if_false, List.append_nil]
      exact this
    have hlen : (y.2.map IV.str).length + (z.2.map IV.str).length ≤ 10000000 := by simp; omega
    have e7 : (y.2.map IV.str) ++ (z.2.map IV.str) = (y.2 ++ z.2).map IV.str := by simp
    have a5 := add_ff (h := h) hlen
    rw [e7] at a5
    rw [List.map_append] at a4
    simp [e3, e4, e5, e6, a1, ha, hb, hl, a5, a4, -gAddF]
end
end K01

namespace K01
open PySem PySem.Spec PyProof.Rows L2 Sh Lb
section
variable {e : IE} {h : IH} {y0 : Rw} {R : List Rw}
theorem get_set {e : IE} {i : Nat} {x : Option IV} (h : i < e.length) : (e.set i x)[i]? = some x := List.getElem?_set_self h
structure Rows (R : List Rw) : Prop where
  row : ∀ y ∈ R, Row y
  len : R.length ≤ 6
theorem Rows.ok (r : Rows R) : RowsOk R := ⟨fun y hy => (r.row y hy).asc, fun y hy => (r.row y hy).pts, by have := r.len; omega⟩
abbrev tgt : MG := gSeq' 2 (gsCons (gName' 10) (gsCons (gName' 19) (gsNil)))
theorem over_rows {t f : ME} {src : ME} {p : Rw → Bool} {q : Rw → IV} {h1 : IH} (hs : src e h = .ok (.fz (R.map rowI)) h1) (hl : R.length ≤ 1000) (hw : wipeI e [10, 19] = e)
    (ht : ∀ y ∈ R, t ((e.set 10 (some (.str y.1))).set 19 (some (.fz (y.2.map .str)))) h1 = .ok (.bl (p y)) h1) (hf : ∀ y ∈ R, p y = true → f ((e.set 10 (some (.str y.1))).set 19 (some (.fz (y.2.map .str)))) h1 = .ok (q y) h1) :
    mLcF (mItV src) [10, 19] tgt t f e h = .ok (.fz ((R.filter p).map q)) h1 := by
  have hit : mItV src e h = .ok (srT (R.map rowI)) h1 := by simp [hs]
  rw [mLcF_l hit src_T, hw]
  have := lcX_two (h := h1) (i := 10) (j := 19) (t := t) (f := f) (ea := fun y : Rw => IV.str y.1) (eb := fun y : Rw => IV.fz (y.2.map .str)) (p := p) (q := q) R e [] (by show _ ≤ 10000000; simp; omega) ht hf
  rw [List.nil_append] at this
  exact this
theorem texts (hl : R.length ≤ 1000) {src : ME} (hs : src e h = .ok (.fz (R.map rowI)) h) (hw : wipeI e [10, 19] = e) (h20 : 19 < e.length) : mLcF (mItV src) [10, 19] tgt (mC (.bl true)) (mVar 10) e h = .ok (.fz (R.map fun y => .str y.1)) h := by
  rw [over_rows (p := fun _ => true) (q := fun y => .str y.1) hs hl hw (fun y _ => by simp) (fun y _ _ => ?_), filterT]
  have : ((e.set 10 (some (.str y.1))).set 19 (some (.fz (y.2.map .str))))[10]? = some (some (.str y.1)) := by
    rw [List.getElem?_set_ne (by omega), get_set (by omega)]
  simp [mVar, this]
theorem mines (hl : R.length ≤ 1000) {src : ME} (hs : src e h = .ok (.fz (R.map rowI)) h) (hw : wipeI e [10, 19] = e) (h20 : 19 < e.length) : mLcF (mItV src) [10, 19] tgt (mC (.bl true)) (mVar 19) e h = .ok (.fz (R.map fun y => .fz (y.2.map .str))) h := by
  rw [over_rows (p := fun _ => true) (q := fun y => .fz (y.2.map .str)) hs hl hw (fun y _ => by simp) (fun y _ _ => ?_), filterT]
  have : ((e.set 10 (some (.str y.1))).set 19 (some (.fz (y.2.map .str))))[19]? = some (some (.fz (y.2.map .str))) := get_set (by rw [List.length_set]; omega)
  simp [mVar, this]
theorem v_keys (r : Rows R) (e2 : e[2]? = some (some (.fz (R.map rowI)))) (hw : wipeI e [10, 19] = e) (h20 : 19 < e.length) : ∃ o, (mCall gSorted (mCons (mCall (gDict true) (mCons (mLcF (mItV (mVar 2)) [10, 19] tgt (mC (.bl true)) (mTup (mCons (mCall gTuple (mCons (m1 gRev (mVar 19)) (mNil))) (mCons (mC (.int 1)) (mNil))))) (mNil))) (mNil))) e h = .ok (.fz ((ordK R).map ivT)) (h ++ [o]) := by
  have rl := r.len
  have c1 : mLcF (mItV (mVar 2)) [10, 19] tgt (mC (.bl true)) (mTup (mCons (mCall gTuple (mCons (m1 gRev (mVar 19)) (mNil))) (mCons (mC (.int 1)) (mNil)))) e h = .ok (.fz ((R.map fun y => y.2.reverse).map fun k => .tup [ivT k, .int 1])) h := by
    rw [over_rows (R := R) (h1 := h) (p := fun _ => true) (q := fun y => .tup [ivT y.2.reverse, .int 1]) (by simp [e2]) (by omega) hw (fun y _ => by simp) (fun y _ _ => ?_), filterT, List.map_map]
    · rfl
    · have : ((e.set 10 (some (.str y.1))).set 19 (some (.fz (y.2.map .str))))[19]? = some (some (.fz (y.2.map .str))) := get_set (by rw [List.length_set]; omega)
      simp [mVar, this, ivT, big]
  obtain ⟨kvs, d1, d2⟩ := s_dictT (h := h) (v := fun _ => .int 1) (ks := R.map fun y => y.2.reverse)
  refine ⟨.dic true kvs, ?_⟩
  have l1 : (ddF [] (R.map fun y => y.2.reverse)).length ≤ big := by
    have := ddF_len (ks := R.map fun y => y.2.reverse) (acc := [])
    show _ ≤ 10000000
    simp at this
    omega
  have hk : keysI (.ref h.length) (h ++ [.dic true kvs]) = some ((ddF [] (R.map fun y => y.2.reverse)).map ivT) := by simp [keysI, d2]
  have s1 := s_sorted hk l1
  simp only [mCall, mCons, mNil, c1, bind_ok, d1, s1]
  rfl
theorem ord_good (r : Rows R) {k : List Tx} (hk : k ∈ ordK R) : GoodPs k.reverse := ordK_good r.ok hk
theorem ord_len (r : Rows R) : (ordK R).length ≤ 6 := Nat.le_trans ordK_len r.len
theorem plain_key {k : List Tx} (g : GoodPs k.reverse) (hk : (e.set 20 (some (ivT k)))[20]? = some (some (ivT k))) : (mOwn 1 f_law_plain_name (mCons (mCall gListF (mCons (m1 gRev (mVar 20)) (mNil))) (mNil))) (e.set 20 (some (ivT k))) h = .ok (.str (plainT k.reverse)) h := by
  have a3 := s_lplain g.short h
  rw [List.map_reverse] at a3
  unfold ivT at hk ⊢
  simp only [mOwn_eq, mCons, mNil, mCall, m1, mVar, hk, bind_ok, gRev_tup, gListF_tup, List.length_singleton, if_true, a3]
theorem v_order (r : Rows R) (e11 : e[11]? = some (some (.fz ((ordK R).map ivT)))) (hw : wipeI e [20] = e) (h20 : 20 < e.length) : mLcF (mItV (mVar 11)) [20] (gName' 20) (mC (.bl true)) (mOwn 1 f_law_plain_name (mCons (mCall gListF (mCons (m1 gRev (mVar 20)) (mNil))) (mNil))) e h = .ok (.fz ((ordK R).map fun k => .str (plainT k.reverse))) h := by
  have hit : mItV (mVar 11) e h = .ok (srT ((ordK R).map ivT)) h := by simp [e11]
  rw [mLcF_l hit src_T, hw, lcX_name (emb := ivT) (p := fun _ => true) (q := fun k => .str (plainT k.reverse)), filterT, List.nil_append]
  · have := ord_len r; show _ ≤ 10000000; simp; omega
  · intro k _; simp
  · intro k hk _
    exact plain_key (ord_good r hk) (by simp [h20])
theorem v_later (r : Rows R) {me : List Tx} (e4 : e[4]? = some (some (.fz (me.map .str)))) (e11 : e[11]? = some (some (.fz ((ordK R).map ivT)))) (hw : wipeI e [20] = e) (h20 : 20 < e.length) : mLcF (mItV (mVar 11)) [20] (gName' 20) (m2 gGtU (mVar 20) (mCall gTuple (mCons (m1 gRev (mVar 4)) (mNil)))) (mOwn 1 f_law_plain_name (mCons (mCall gListF (mCons (m1 gRev (mVar 20)) (mNil))) (mNil))) e h = .ok (.fz (((ordK R).filter fun k => ltK me.reverse k).map fun k => .str (plainT k.reverse))) h := by
  have hit : mItV (mVar 11) e h = .ok (srT ((ordK R).map ivT)) h := by simp [e11]
  rw [mLcF_l hit src_T, hw, lcX_name (emb := ivT) (p := fun k => ltK me.reverse k) (q := fun k => .str (plainT k.reverse)), List.nil_append]
  · have := ord_len r; show _ ≤ 10000000; simp; omega
  · intro k _
    have a1 : (e.set 20 (some (ivT k)))[20]? = some (some (ivT k)) := by simp [h20]
    have a2 : (e.set 20 (some (ivT k)))[4]? = some (some (.fz (me.map .str))) := by rw [List.getElem?_set_ne (by omega)]; exact e4
    have := s_gt (h := h) k me.reverse
    have e9 : ivT me.reverse = .tup (me.map .str).reverse := by simp [ivT]
    rw [e9] at this
    simp only [m2, mVar, a1, a2, bind_ok, mCall, mCons, mNil, m1, gRev_fz, gTuple, this]
  · intro k hk _
    exact plain_key (ord_good r hk) (by simp [h20])
theorem gN_same {l : List Tx} (o : ∀ x ∈ l, Em.OkS x) : gNe (.fz (l.map .str)) (.fz (l.map .str)) h = .ok (.bl false) h := g_same o
theorem ord_oks (r : Rows R) : ∀ x ∈ (ordK R).map fun k => plainT k.reverse, Em.OkS x := fun x hx => by
  obtain ⟨k, hk, rfl⟩ := List.mem_map.mp hx
  exact fun c hc => by have := (ord_good r hk).asc.2 c hc; omega
theorem c_17 (r : Rows R) (e2 : e[2]? = some (some (.fz (R.map rowI)))) (e12 : e[12]? = some (some (.fz ((ordK R).map fun k => .str (plainT k.reverse))))) (hw : wipeI e [10, 19] = e) (h20 : 19 < e.length) : ∃ o, (m2 gNe (mCall gListF (mCons (mOwn 1 f_in_order (mCons (mLcF (mItV (mVar 2)) [10, 19] tgt (mC (.bl true)) (mVar 10)) (mNil))) (mNil))) (mVar 12)) e h = .ok (.bl false) (h ++ [o]) := by
  have rl := r.len
  have c1 := texts (h := h) (e := e) (R := R) (src := mVar 2) (by omega) (by simp [e2]) hw h20
  obtain ⟨o, a1⟩ : ∃ o, f_in_order [.fz (R.map fun y => .str y.1)] h = _ := Sh.Lb.s_in_order (cs := cz) (h := h) r.ok
  refine ⟨o, ?_⟩
  have g := g_same (h := h ++ [o]) (ord_oks r)
  rw [List.map_map] at g
  have b1 : mCall gListF (mCons (mOwn 1 f_in_order (mCons (mLcF (mItV (mVar 2)) [10, 19] tgt (mC (.bl true)) (mVar 10)) (mNil))) (mNil)) e h = .ok (.fz ((ordK R).map fun k => .str (plainT k.reverse))) (h ++ [o]) := by
    simp only [mCall, mCons, mNil, mOwn_eq, c1, bind_ok, List.length_singleton, if_true, a1, gListF_tup]
  simp only [m2, b1, bind_ok, mVar, e12]
  exact g
/-! the shared top, as the law has it -/
def bad (y0 : Rw) (k : Nat) (y : Rw) : Bool := !decide (y.2.reverse.take k = y0.2.reverse.take k) || decide (y.2.length < k)
theorem all_good {S : Nat} {k : Nat} (hS : S ≤ y0.2.length) (h1 : ∀ j, j < S → agr (y0 :: R) y0.2 j = true) (h2 : agr (y0 :: R) y0.2 S = false) : decide ((y0 :: R).filter (bad y0 k) = []) = decide (k ≤ S) := by
  have key : (y0 :: R).filter (bad y0 k) = [] ↔ k ≤ S := by
    rw [List.filter_eq_nil_iff]
    constructor
    · intro z
      refine Nat.le_of_not_lt fun hk => ?_
      have : agr (y0 :: R) y0.2 S = true := by
        unfold agr
        refine List.all_eq_true.mpr fun y hy => ?_
        have hb := z y hy
        unfold bad at hb
        simp only [Bool.or_eq_true, Bool.not_eq_true', decide_eq_false_iff_not, decide_eq_true_eq, not_or, Classical.not_not] at hb
        have hy0 := z y0 (by simp)
        unfold bad at hy0
        simp only [Bool.or_eq_true, Bool.not_eq_true', decide_eq_false_iff_not, decide_eq_true_eq, not_or, Classical.not_not] at hy0
        have := (take_agr (a := y.2.reverse) (b := y0.2.reverse) (S := k) (by simp; omega) (by simp; omega)).mpr hb.1 S hk
        rw [Bool.and_eq_true, decide_eq_true_eq, decide_eq_true_eq]
        exact ⟨by omega, this⟩
      rw [h2] at this
      cases this
    · intro hk y hy
      have ag : ∀ j, j < k → S > j ∧ j < y.2.length ∧ y.2.reverse[j]? = y0.2.reverse[j]? := fun j hj => by
        have := List.all_eq_true.mp (h1 j (by omega)) y hy
        rw [Bool.and_eq_true, decide_eq_true_eq, decide_eq_true_eq] at this
        exact ⟨by omega, this⟩
      have hlen : k ≤ y.2.length := by
        by_cases hk0 : k = 0
        · omega
        · have := (ag (k - 1) (by omega)).2.1
          omega
      have := (take_agr (a := y.2.reverse) (b := y0.2.reverse) (S := k) (by simp; omega) (by simp; omega)).mp fun j hj => (ag j hj).2.2
      unfold bad
      simp [this]
      omega
  by_cases z : k ≤ S
  · rw [decide_eq_true z, decide_eq_true (key.mpr z)]
  · rw [decide_eq_false z, decide_eq_false fun q => z (key.mp q)]
theorem v_same (r : Rows (y0 :: R)) {S : Nat} (hS : S ≤ y0.2.length) (h1 : ∀ j, j < S → agr (y0 :: R) y0.2 j = true) (h2 : agr (y0 :: R) y0.2 S = false) (e2 : e[2]? = some (some (.fz ((y0 :: R).map rowI)))) (hw : wipeI e [18] = e) (hw2 : wipeI e [10, 19] = e) (h20 : 20 < e.length) :
    (m2 gGet (mLcF (mRng1 (mCons (mC (.int 6)) (mNil))) [18] (gName' 18) (m2 gEq (mLcF (mItV (mVar 2)) [10, 19] tgt (mOr (m2 gNe (mSlF (m1 gRev (mVar 19)) (mNoPart) (mPart (mVar 18))) (mSlF (m1 gRev (m2 gGet (m2 gGet (mVar 2) (mC (.int 0))) (mC (.int 1)))) (mNoPart) (mPart (mVar 18)))) (m2 gLtU (mCall gLenU (mCons (mVar 19) (mNil))) (mVar 18))) (mVar 19)) (mLstF (mNil))) (mVar 18)) (m1 gNeg (mC (.int 1)))) e h = .ok (.int (S : Nat)) h := by
  have rl := r.len
  have hit : mRng1 (mCons (mC (.int 6)) (mNil)) e h = .ok (srR 0 6) h := mRng1_ok (by simp) (by omega)
  have hS4 : S ≤ 4 := by have := (r.row y0 (by simp)).len; omega
  have cc : mLcF (mRng1 (mCons (mC (.int 6)) (mNil))) [18] (gName' 18) (m2 gEq (mLcF (mItV (mVar 2)) [10, 19] tgt (mOr (m2 gNe (mSlF (m1 gRev (mVar 19)) (mNoPart) (mPart (mVar 18))) (mSlF (m1 gRev (m2 gGet (m2 gGet (mVar 2) (mC (.int 0))) (mC (.int 1)))) (mNoPart) (mPart (mVar 18)))) (m2 gLtU (mCall gLenU (mCons (mVar 19) (mNil))) (mVar 18))) (mVar 19)) (mLstF (mNil))) (mVar 18) e h = .ok (.fz (((List.range 6).filter fun k => decide (k ≤ S)).map fun k => .int (k : Nat))) h := by
    rw [mLcF_l hit src_R, hw, show ((6 : Int) - 0).toNat = 6 by rfl]
    unfold rngL
    rw [lcX_name (emb := fun (i : Nat) => IV.int (0 + (i : Nat))) (p := fun k => decide (k ≤ S)) (q := fun k => .int (k : Nat)), List.nil_append]
    · decide
    · intro k hk
      let e' : IE := e.set 18 (some (.int (0 + (k : Nat))))
      have k18 : e'[18]? = some (some (.int (0 + (k : Nat)))) := get_set (by omega)
      have k2 : e'[2]? = some (some (.fz ((y0 :: R).map rowI))) := by show (e.set 18 _)[2]? = _; rw [List.getElem?_set_ne (by omega)]; exact e2
      have kw : wipeI e' [10, 19] = e' := by
        show (((e.set 18 _).set 19 none).set 10 none) = e.set 18 _
        have : (e.set 19 none).set 10 none = e := hw2
        conv => rhs; rw [← this]
        refine List.ext_getElem? fun n => ?_
        simp only [List.getElem?_set, List.length_set]
        by_cases a : n = 10 <;> by_cases b : n = 18 <;> by_cases c : n = 19 <;> simp [a, b, c, eq_comm] <;> omega
      have inner := over_rows (e := e') (h := h) (h1 := h) (R := y0 :: R) (src := mVar 2) (t := mOr (m2 gNe (mSlF (m1 gRev (mVar 19)) (mNoPart) (mPart (mVar 18))) (mSlF (m1 gRev (m2 gGet (m2 gGet (mVar 2) (mC (.int 0))) (mC (.int 1)))) (mNoPart) (mPart (mVar 18)))) (m2 gLtU (mCall gLenU (mCons (mVar 19) (mNil))) (mVar 18))) (f := mVar 19) (p := bad y0 k) (q := fun y => .fz (y.2.map .str)) (by simp [k2]) (by omega) kw (fun y hy => by
        have m19 : ((e'.set 10 (some (.str y.1))).set 19 (some (.fz (y.2.map .str))))[19]? = some (some (.fz (y.2.map .str))) := get_set (by simp only [e', List.length_set]; omega)
        have m18 : ((e'.set 10 (some (.str y.1))).set 19 (some (.fz (y.2.map .str))))[18]? = some (some (.int (0 + (k : Nat)))) := by rw [List.getElem?_set_ne (by omega), List.getElem?_set_ne (by omega)]; exact k18
        have m2' : ((e'.set 10 (some (.str y.1))).set 19 (some (.fz (y.2.map .str))))[2]? = some (some (.fz ((y0 :: R).map rowI))) := by rw [List.getElem?_set_ne (by omega), List.getElem?_set_ne (by omega)]; exact k2
        have c0 : (0 : Int) ≤ 0 + (k : Nat) := by omega
        have c1 : ((0 : Int) + (k : Nat)).toNat = k := by omega
        have ry := r.row y hy
        have r0 := r.row y0 (by simp)
        have g := gNe_ls (h := h) (a := y.2.reverse.take k) (b := y0.2.reverse.take k) (fun x hx => ry.oks x (by have := List.mem_of_mem_take hx; simpa using this)) (fun x hx => r0.oks x (by have := List.mem_of_mem_take hx; simpa using this))
        rw [List.map_take, List.map_take, List.map_reverse, List.map_reverse] at g
        have s1 : m2 gGet (m2 gGet (mVar 2) (mC (.int 0))) (mC (.int 1)) ((e'.set 10 (some (.str y.1))).set 19 (some (.fz (y.2.map .str)))) h = .ok (.fz (y0.2.map .str)) h := by
          simp only [m2, mVar, m2', bind_ok, mC, gGet_fz, List.map_cons, gIx, atI_0, rowI, gGet_tup]
          rfl
        have hlt : decide (((y.2.length : Nat) : Int) < 0 + (k : Nat)) = decide (y.2.length < k) := by
          by_cases z : y.2.length < k
          · rw [decide_eq_true z]; exact decide_eq_true (by omega)
          · rw [decide_eq_false z]; exact decide_eq_false (by omega)
        have t1 : m2 gNe (mSlF (m1 gRev (mVar 19)) (mNoPart) (mPart (mVar 18))) (mSlF (m1 gRev (m2 gGet (m2 gGet (mVar 2) (mC (.int 0))) (mC (.int 1)))) (mNoPart) (mPart (mVar 18))) ((e'.set 10 (some (.str y.1))).set 19 (some (.fz (y.2.map .str)))) h = .ok (.bl (!decide (y.2.reverse.take k = y0.2.reverse.take k))) h := by
          have u1 : mSlF (m1 gRev (mVar 19)) (mNoPart) (mPart (mVar 18)) ((e'.set 10 (some (.str y.1))).set 19 (some (.fz (y.2.map .str)))) h = .ok (.fz ((y.2.map IV.str).reverse.take k)) h := by
            simp only [mSlF, m1, mVar, m19, m18, bind_ok, gRev_fz, mNoPart, mPart, gSlF, sqI, cut_to c0, c1]
          have u2 : mSlF (m1 gRev (m2 gGet (m2 gGet (mVar 2) (mC (.int 0))) (mC (.int 1)))) (mNoPart) (mPart (mVar 18)) ((e'.set 10 (some (.str y.1))).set 19 (some (.fz (y.2.map .str)))) h = .ok (.fz ((y0.2.map IV.str).reverse.take k)) h := by
            generalize m2 gGet (m2 gGet (mVar 2) (mC (.int 0))) (mC (.int 1)) = F at s1
            simp only [mSlF, m1, mVar, s1, m18, bind_ok, gRev_fz, mNoPart, mPart, gSlF, sqI, cut_to c0, c1]
          simp only [m2, u1, bind_ok, u2, g]
        generalize m2 gNe (mSlF (m1 gRev (mVar 19)) (mNoPart) (mPart (mVar 18))) (mSlF (m1 gRev (m2 gGet (m2 gGet (mVar 2) (mC (.int 0))) (mC (.int 1)))) (mNoPart) (mPart (mVar 18))) = G at t1
        unfold bad
        cases d1 : decide (y.2.reverse.take k = y0.2.reverse.take k) with
        | false => rw [d1] at t1; simp [t1]
        | true =>
          rw [d1] at t1
          simp only [mOr_eq, t1, bind_ok, Bool.not_true, brM_f, m2, mCall, mCons, mNil, mVar, m19, m18, gLenU_fz, List.length_map, gLtU, gCmp_ii, hlt, Bool.false_or]) (fun y hy _ => by
        have m19 : ((e'.set 10 (some (.str y.1))).set 19 (some (.fz (y.2.map .str))))[19]? = some (some (.fz (y.2.map .str))) := get_set (by simp only [e', List.length_set]; omega)
        simp [m19])
      have ge := Em.eq_ (E := .lst (.lst .str)) (a := ((y0 :: R).filter (bad y0 k)).map (·.2)) (b := []) (h := h) (by decide) (fun x hx => by
        obtain ⟨y, hy, rfl⟩ := List.mem_map.mp hx
        exact (r.row y (List.mem_filter.mp hy).1).oks) (by simp [Em.lst]) rfl
      have ex : (Em.lst (.lst .str)).iv (((y0 :: R).filter (bad y0 k)).map (·.2)) = .fz (((y0 :: R).filter (bad y0 k)).map fun y => .fz (y.2.map .str)) := by
        show IV.fz _ = IV.fz _
        rw [List.map_map]
        rfl
      rw [ex] at ge
      have dx : decide (((y0 :: R).filter (bad y0 k)).map (·.2) = []) = decide (k ≤ S) := by
        rw [← all_good (k := k) hS h1 h2]
        by_cases z : (y0 :: R).filter (bad y0 k) = []
        · rw [z]; rfl
        · rw [decide_eq_false z, decide_eq_false (by simpa using z)]
      rw [dx] at ge
      show m2 gEq _ _ e' h = _
      simp only [m2, inner, bind_ok, mLstF, mNil, List.length_nil]
      rw [if_pos (by decide), bind_ok]
      exact ge
    · intro k hk _
      have : (e.set 18 (some (IV.int (0 + (k : Nat)))))[18]? = some (some (.int (0 + (k : Nat)))) := get_set (by omega)
      rw [show mVar 18 (e.set 18 (some (IV.int (0 + (k : Nat))))) h = .ok (.int (0 + (k : Nat))) h by simp only [mVar, this], Int.zero_add]
  generalize mLcF (mRng1 (mCons (mC (.int 6)) (mNil))) [18] (gName' 18) _ _ = F at cc
  simp only [m2, cc, bind_ok, m1, mC, gNeg, gGet_fz]
  have : S = 0 ∨ S = 1 ∨ S = 2 ∨ S = 3 ∨ S = 4 := by omega
  rcases this with rfl | rfl | rfl | rfl | rfl <;> rfl
end
end K01

namespace K01
open PySem PySem.Spec PyProof.Rows L2 Sh Lb
section
variable {e : IE} {h : IH} {y0 : Rw} {R : List Rw}
theorem agr_uniq {a : Nat → Bool} {S T : Nat} (h1 : ∀ j, j < S → a j = true) (h2 : a S = false) (h3 : ∀ j, j < T → a j = true) (h4 : a T = false) : S = T := by
  rcases Nat.lt_trichotomy S T with q | q | q
  · rw [h3 S q] at h2; cases h2
  · exact q
  · rw [h1 T q] at h4; cases h4
theorem c_18 (r : Rows (y0 :: R)) {S : Nat} (hS : S ≤ y0.2.length) (h1 : ∀ j, j < S → agr (y0 :: R) y0.2 j = true) (h2 : agr (y0 :: R) y0.2 S = false) (e2 : e[2]? = some (some (.fz ((y0 :: R).map rowI)))) (e4 : e[4]? = some (some (.fz (y0.2.map .str)))) (e13 : e[13]? = some (some (.int (S : Nat)))) (hw2 : wipeI e [10, 19] = e) (h20 : 19 < e.length) :
    (m2 gNe (mOwn 1 f_shared_top (mCons (mLcF (mItV (mVar 2)) [10, 19] tgt (mC (.bl true)) (mVar 10)) (mNil))) (mOwn 1 f_law_plain_name (mCons (mSlF (mVar 4) (mPart (m2 Sh.gSub (mCall gLenU (mCons (mVar 4) (mNil))) (mVar 13))) (mNoPart)) (mNil)))) e h = .ok (.bl false) h := by
  have rl := r.len
  have c1 := texts (h := h) (e := e) (R := y0 :: R) (src := mVar 2) (by omega) (by simp [e2]) hw2 h20
  obtain ⟨T, t1, t2, t3, t4⟩ := Sh.Lb.s_shared (cs := cz) (h := h) r.ok
  obtain rfl := agr_uniq h1 h2 t2 t3
  have t4' : f_shared_top [.fz ((y0 :: R).map fun y => .str y.1)] h = .ok (.str (plainT (y0.2.drop (y0.2.length - S)))) h := t4
  have a3 := s_lplain ((r.row y0 (by simp)).good.short.drop (k := y0.2.length - S)) h
  have c0 : (0 : Int) ≤ (y0.2.length : Int) - (S : Nat) := by omega
  have c2 : mSlF (mVar 4) (mPart (m2 Sh.gSub (mCall gLenU (mCons (mVar 4) (mNil))) (mVar 13))) (mNoPart) e h = .ok (.fz ((y0.2.drop (y0.2.length - S)).map .str)) h := by
    simp only [mSlF, mVar, e4, e13, bind_ok, mNoPart, mPart, m2, mCall, mCons, mNil, gLenU_fz, List.length_map, Sh.gSub, gI, if_true, gSlF, sqI, cutI_map, cut_from c0]
    rw [show ((y0.2.length : Int) - (S : Nat)).toNat = y0.2.length - S by omega, List.map_drop]
  simp only [m2, mOwn_eq, mCons, mNil, c1, bind_ok, List.length_singleton, if_true, t4', c2, a3, gNe_ss]
  simp
theorem c_19 (r : Rows (y0 :: R)) (hR : R ≠ []) (e2 : e[2]? = some (some (.fz ((y0 :: R).map rowI)))) (e3 : e[3]? = some (some (.str y0.1))) (e4 : e[4]? = some (some (.fz (y0.2.map .str)))) (e12 : e[12]? = some (some (.fz ((ordK (y0 :: R)).map fun k => .str (plainT k.reverse)))))
    (e14 : e[14]? = some (some (.fz (((ordK (y0 :: R)).filter fun k => ltK y0.2.reverse k).map fun k => .str (plainT k.reverse))))) (hw : wipeI e [21] = e) (hw2 : wipeI e [10, 19] = e) (h20 : 21 < e.length) :
    ∃ o, (m2 gNe (mOwn 2 f_next_name (mCons (mLcF (mItV (mSlF (mVar 2) (mPart (mC (.int 1))) (mNoPart))) [10, 19] tgt (mC (.bl true)) (mVar 10)) (mCons (mVar 3) (mNil)))) (m2 gGet (mLcF (mItV (m2 gAddF (mVar 14) (mVar 12))) [21] (gName' 21) (mOr (m2 gNe (mVar 21) (mOwn 1 f_law_plain_name (mCons (mVar 4) (mNil)))) (m2 (gInU false) (mVar 4) (mLcF (mItV (mSlF (mVar 2) (mPart (mC (.int 1))) (mNoPart))) [10, 19] tgt (mC (.bl true)) (mVar 19)))) (mVar 21)) (mC (.int 0)))) e h = .ok (.bl false) (h ++ [o]) := by
  have rl := r.len
  have r0 := r.row y0 (by simp)
  have rR : Rows R := ⟨fun y hy => r.row y (by simp [hy]), by simp at rl; omega⟩
  have sl : ∀ (e' : IE) (h' : IH), e'[2]? = some (some (.fz ((y0 :: R).map rowI))) → mSlF (mVar 2) (mPart (mC (.int 1))) (mNoPart) e' h' = .ok (.fz (R.map rowI)) h' := fun e' h' he => by
    simp only [mSlF, mVar, he, bind_ok, mPart, mC, mNoPart, gSlF, sqI, cut_from (show (0 : Int) ≤ 1 by omega)]
    rfl
  have c1 := texts (h := h) (e := e) (R := R) (src := mSlF (mVar 2) (mPart (mC (.int 1))) (mNoPart)) (by have := rR.len; omega) (sl e h e2) hw2 (by omega)
  obtain ⟨k0, rest, hk⟩ := nextK_ne (me := y0.2) hR
  obtain ⟨o, a1⟩ := Sh.Lb.s_next (cs := cz) (h := h) rR.ok r0.asc r0.pts hk
  have a1' : f_next_name [.fz (R.map fun y => .str y.1), .str y0.1] h = .ok (.str (plainT k0.reverse)) (h ++ [o]) := a1
  refine ⟨o, ?_⟩
  let p : List Tx → Bool := fun k => decide (k ≠ y0.2.reverse) || decide (y0.2 ∈ R.map (·.2))
  have hall : (((ordK (y0 :: R)).filter fun k => ltK y0.2.reverse k) ++ ordK (y0 :: R)).filter p = k0 :: rest := by rw [← hk]; exact nextK_rest.symm
  have ol := ord_len r
  have fl : ((ordK (y0 :: R)).filter fun k => ltK y0.2.reverse k).length ≤ 6 := Nat.le_trans (List.length_filter_le _ _) ol
  have c2 : mLcF (mItV (m2 gAddF (mVar 14) (mVar 12))) [21] (gName' 21) (mOr (m2 gNe (mVar 21) (mOwn 1 f_law_plain_name (mCons (mVar 4) (mNil)))) (m2 (gInU false) (mVar 4) (mLcF (mItV (mSlF (mVar 2) (mPart (mC (.int 1))) (mNoPart))) [10, 19] tgt (mC (.bl true)) (mVar 19)))) (mVar 21) e (h ++ [o]) = .ok (.fz ((k0 :: rest).map fun k => .str (plainT k.reverse))) (h ++ [o]) := by
    have hit : mItV (m2 gAddF (mVar 14) (mVar 12)) e (h ++ [o]) = .ok (srT ((((ordK (y0 :: R)).filter fun k => ltK y0.2.reverse k) ++ ordK (y0 :: R)).map fun k => .str (plainT k.reverse))) (h ++ [o]) := by
      have := add_ff (h := h ++ [o]) (a := ((ordK (y0 :: R)).filter fun k => ltK y0.2.reverse k).map fun k => IV.str (plainT k.reverse)) (b := (ordK (y0 :: R)).map fun k => IV.str (plainT k.reverse)) (by simp; omega)
      simp only [mItV, m2, mVar, e14, e12, bind_ok, this, srV, List.map_append]
    rw [mLcF_l hit src_T, hw, lcX_name (emb := fun k : List Tx => IV.str (plainT k.reverse)) (p := p) (q := fun k => .str (plainT k.reverse)), hall, List.nil_append]
    · show _ ≤ 10000000; simp; omega
    · intro k hk'
      have hko : k ∈ ordK (y0 :: R) := by
        rcases List.mem_append.mp hk' with q | q
        · exact (List.mem_filter.mp q).1
        · exact q
      have gk := ord_good r hko
      let e' : IE := e.set 21 (some (.str (plainT k.reverse)))
      have k21 : e'[21]? = some (some (.str (plainT k.reverse))) := get_set (by omega)
      have k4 : e'[4]? = some (some (.fz (y0.2.map .str))) := by show (e.set 21 _)[4]? = _; rw [List.getElem?_set_ne (by omega)]; exact e4
      have k2 : e'[2]? = some (some (.fz ((y0 :: R).map rowI))) := by show (e.set 21 _)[2]? = _; rw [List.getElem?_set_ne (by omega)]; exact e2
      have kw : wipeI e' [10, 19] = e' := by
        show (((e.set 21 _).set 19 none).set 10 none) = e.set 21 _
        have : (e.set 19 none).set 10 none = e := hw2
        conv => rhs; rw [← this]
        refine List.ext_getElem? fun n => ?_
        simp only [List.getElem?_set, List.length_set]
        by_cases a : n = 10 <;> by_cases b : n = 21 <;> by_cases c : n = 19 <;> simp [a, b, c, eq_comm] <;> omega
      have a3 := s_lplain r0.good.short (h ++ [o])
      have mi := mines (h := h ++ [o]) (e := e') (R := R) (src := mSlF (mVar 2) (mPart (mC (.int 1))) (mNoPart)) (by have := rR.len; omega) (sl e' _ k2) kw (by simp only [e', List.length_set]; omega)
      have hin := Em.in_ (E := .lst .str) (neg := false) (h := h ++ [o]) (a := y0.2) (bs := R.map (·.2)) (by decide) r0.oks (fun b hb => by
        obtain ⟨y, hy, rfl⟩ := List.mem_map.mp hb
        exact (rR.row y hy).oks) rfl
      have ex : ((R.map (·.2)).map (Em.lst Em.str).iv) = R.map fun y => .fz (y.2.map .str) := by rw [List.map_map]; rfl
      rw [ex] at hin
      have hin' : gInU false (.fz (y0.2.map .str)) (.fz (R.map fun y => .fz (y.2.map .str))) (h ++ [o]) = .ok (.bl (decide (y0.2 ∈ R.map (·.2)))) (h ++ [o]) := by
        rw [if_neg Bool.false_ne_true] at hin
        have dd : ∀ (i1 i2 : Decidable (y0.2 ∈ R.map (·.2))), @decide _ i1 = @decide _ i2 := fun i1 i2 => by cases i1 <;> cases i2 <;> first | rfl | contradiction
        exact Eq.trans hin (congrArg (fun b => Res.ok (IV.bl b) (h ++ [o])) (dd _ _))
      have deq : decide (plainT k.reverse = plainT y0.2) = decide (k = y0.2.reverse) := by
        by_cases z : k = y0.2.reverse
        · rw [decide_eq_true z, z]; simp
        · rw [decide_eq_false z]
          exact decide_eq_false fun q => z (by rw [← plainT_inj gk r0.good q, List.reverse_reverse])
      have t1 : m2 gNe (mVar 21) (mOwn 1 f_law_plain_name (mCons (mVar 4) (mNil))) e' (h ++ [o]) = .ok (.bl (!decide (k = y0.2.reverse))) (h ++ [o]) := by
        simp only [m2, mVar, k21, k4, bind_ok, mOwn_eq, mCons, mNil, List.length_singleton, if_true, a3, gNe_ss, deq]
      show mOr _ _ e' _ = _
      simp only [mOr_eq, t1, bind_ok]
      cases z : decide (k = y0.2.reverse) with
      | false =>
        have : p k = true := by
          show (decide (k ≠ y0.2.reverse) || _) = true
          rw [decide_eq_true (of_decide_eq_false z)]
          rfl
        rw [this]
        simp
      | true =>
        have : p k = decide (y0.2 ∈ R.map (·.2)) := by
          show (decide (k ≠ y0.2.reverse) || _) = _
          rw [decide_eq_false (fun q => q (of_decide_eq_true z))]
          rfl
        rw [this]
        simp only [Bool.not_true, brM_f, m2, mVar, k4, bind_ok, mi, hin']
    · intro k _ _
      have : (e.set 21 (some (IV.str (plainT k.reverse))))[21]? = some (some (.str (plainT k.reverse))) := get_set (by omega)
      simp only [mVar, this]
  generalize mLcF (mItV (m2 gAddF (mVar 14) (mVar 12))) [21] (gName' 21) _ _ = F at c2
  have lhs : mOwn 2 f_next_name (mCons (mLcF (mItV (mSlF (mVar 2) (mPart (mC (.int 1))) (mNoPart))) [10, 19] tgt (mC (.bl true)) (mVar 10)) (mCons (mVar 3) (mNil))) e h = .ok (.str (plainT k0.reverse)) (h ++ [o]) := by
    generalize mLcF (mItV (mSlF (mVar 2) (mPart (mC (.int 1))) (mNoPart))) [10, 19] tgt (mC (.bl true)) (mVar 10) = F2 at c1
    simp only [mOwn_eq, mCons, mNil, c1, bind_ok, mVar, e3, List.length_cons, List.length_nil, if_true, a1']
  simp only [m2, lhs, bind_ok, c2, mC, gGet_fz, List.map_cons, gIx, atI_0, gNe_ss]
  simp
/-! wide texts -/
def S7 : Tx := [97, 98, 49, 33, 43, 32, 126]
def S6 : Tx := [97, 49, 50, 120, 95, 45]
theorem s7_ok {t : Tx} (ht : ∀ c ∈ t, c ∈ S7) (hn : t ≠ []) : okW t = true := by
  unfold okW
  rw [decide_eq_true hn, Bool.true_and]
  refine List.all_eq_true.mpr fun c hc => ?_
  have : ∀ c ∈ S7, (decide (c ∈ SIGNS) || decide (c ∈ MORE)) = true := by decide
  exact this c (ht c hc)
theorem wide_short {t : Tx} (hl : t.length ≤ 6) : (wideT t).length ≤ 100 := by
  unfold wideT
  split
  · omega
  · have ob : ∀ q ∈ oddW 1 t, q.1 < 10000 ∧ q.2 < 9 := fun q hq => by have := oddW_lt q hq; omega
    have ol := @oddW_len t 1
    have pl := pxks_len ob
    have := joinL_len (s := [95]) ((oddW 1 t).map pxk)
    simp only [List.length_map, List.length_singleton, Nat.mul_one] at this
    have h2 : (plainW t).length ≤ t.length := List.length_filter_le _ _
    simp
    omega
theorem oddW_nil : ∀ {t : Tx} {n : Nat}, oddW n t = [] → ∀ c ∈ t, c ∉ MORE
  | [], _, _, c, hc => by cases hc
  | d :: t, n, z, c, hc => by
    unfold oddW at z
    split at z
    · cases z
    · rename_i hd
      rcases List.mem_cons.mp hc with rfl | hc
      · exact hd
      · exact oddW_nil z c hc
theorem wide_signs {t : Tx} (ho : okW t = true) : ∀ c ∈ wideT t, c ∈ SIGNS := by
  intro c hc
  unfold wideT at hc
  split at hc
  · rename_i z
    have hn := oddW_nil z c hc
    unfold okW at ho
    rw [Bool.and_eq_true] at ho
    have := List.all_eq_true.mp ho.2 c hc
    simp [hn] at this
    exact this
  · have dg : ∀ c, 48 ≤ c ∧ c ≤ 57 → c ∈ SIGNS := fun c z => by
      have : c = 48 ∨ c = 49 ∨ c = 50 ∨ c = 51 ∨ c = 52 ∨ c = 53 ∨ c = 54 ∨ c = 55 ∨ c = 56 ∨ c = 57 := by omega
      rcases this with rfl | rfl | rfl | rfl | rfl | rfl | rfl | rfl | rfl | rfl <;> decide
    rcases List.mem_append.mp hc with hc | hc
    · rcases List.mem_append.mp hc with hc | hc
      · rcases List.mem_append.mp hc with hc | hc
        · have q : ∀ c ∈ ([120, 110, 45] : Tx), c ∈ SIGNS := by decide
          exact q c hc
        · unfold plainW at hc
          have := (List.mem_filter.mp hc).2
          simpa using this
      · have q : ∀ c ∈ ([45] : Tx), c ∈ SIGNS := by decide
        exact q c hc
    · rcases joinL_mem hc with hc | ⟨p, hp, hc⟩
      · have q : ∀ c ∈ ([95] : Tx), c ∈ SIGNS := by decide
        exact q c hc
      · obtain ⟨q, _, rfl⟩ := List.mem_map.mp hp
        unfold pxk at hc
        rcases List.mem_append.mp hc with hc | hc
        · exact dg c (TL.numL_digits q.1 c hc)
        · rcases List.mem_cons.mp hc with rfl | hc
          · decide
          · exact dg c (TL.numL_digits q.2 c hc)
theorem c_22 {t : Tx} (ht : ∀ c ∈ t, c ∈ S7) (hn : t ≠ []) (hl : t.length ≤ 6) (e10 : e[10]? = some (some (.str t))) (e15 : e[15]? = some (some (.str (wideT t)))) : (mOr (m2 gNe (mVar 15) (mOwn 1 f_law_wide (mCons (mVar 10) (mNil)))) (m2 gNe (mOwn 1 f_read_wide (mCons (mVar 15) (mNil))) (mVar 10))) e h = .ok (.bl false) h := by
  have ho := s7_ok ht hn
  have a1 := s_lwide ho (by omega) h
  have a2 := Sh.Lb.s_read_wide (cs := cz) (h := h) (part := wideT t) (by have := wide_short hl; omega)
  have hb : readW (wideT t) = some t := read_back ho (by omega) fun _ z => by
    have : (120 : Nat) ∈ t := by
      have : (120 : Nat) ∈ t.take 3 := by rw [z]; simp
      exact List.mem_of_mem_take this
    have := ht 120 this
    revert this
    decide
  rw [hb] at a2
  have a2' : f_read_wide [.str (wideT t)] h = .ok (.str t) h := a2
  simp [e10, e15, a1, a2']
theorem c_23 {t : Tx} (ho : okW t = true) (hl : t.length ≤ 6) (e15 : e[15]? = some (some (.str (wideT t)))) (hw : wipeI e [22] = e) (h22 : 22 < e.length) : (m2 gNe (mLcF (mItV (mVar 15)) [22] (gName' 22) (m2 (gInU true) (mVar 22) (mC (.str SIGNS))) (mVar 22)) (mLstF (mNil))) e h = .ok (.bl false) h := by
  have c1 : mLcF (mItV (mVar 15)) [22] (gName' 22) (m2 (gInU true) (mVar 22) (mC (.str SIGNS))) (mVar 22) e h = .ok (.fz []) h := by
    have hit : mItV (mVar 15) e h = .ok (srS (wideT t)) h := by simp [e15]
    have wl := wide_short hl
    rw [mLcF_l hit src_S, hw, lcX_name (emb := fun c => .str [c]) (p := fun c => !decide (c ∈ SIGNS)) (q := fun c => .str [c])]
    · have : (wideT t).filter (fun c => !decide (c ∈ SIGNS)) = [] := List.filter_eq_nil_iff.mpr fun c hc => by simp [wide_signs ho c hc]
      rw [this]
      rfl
    · show _ ≤ 10000000; simp; omega
    · intro y _
      have : (e.set 22 (some (IV.str [y])))[22]? = some (some (.str [y])) := get_set (by omega)
      simp [this, -List.getElem?_set_self]
    · intro y _ _
      have : (e.set 22 (some (IV.str [y])))[22]? = some (some (.str [y])) := get_set (by omega)
      simp only [mVar, this]
  have g := gNe_ls (h := h) (a := []) (b := []) (by simp) (by simp)
  simp only [m2, c1, bind_ok, mLstF, mNil, List.length_nil]
  rw [if_pos (by decide), bind_ok]
  simpa using g
theorem readW_ok {part t : Tx} (hp : part.take 3 = [120, 110, 45]) (hl : part.length ≤ 400) (hr : readW part = some t) : okW t = true ∧ wideT t = part ∧ t.length ≤ 1000 := by
  unfold readW at hr
  rw [if_neg (fun z => z hp)] at hr
  have rl := @rpar_len 45 (part.drop 3)
  have dl : (part.drop 3).length ≤ part.length := by simp
  generalize rpar (part.drop 3) [45] = r at hr rl
  have cn := spl1_count (c := 95) r.2.2 []
  cases hL : loopW r.2.1 (TL.spl [95] 0 [] r.2.2) r.1 with
  | none => rw [hL] at hr; cases hr
  | some F =>
    rw [hL] at hr
    have hF := loopW_len hL
    simp only [Option.bind_some] at hr
    split at hr
    · rename_i hz
      cases hr
      exact ⟨hz.1, hz.2, by omega⟩
    · cases hr
abbrev LE10 : Tx := [76, 97, 98, 101, 108, 69, 114, 114, 111, 114]
theorem v_back {w : Tx} (hw : w.length ≤ 6) (e17 : e[17]? = some (some (.str ([120, 110, 45] ++ w)))) : ∃ b, mTell isa "LabelError" LE10 (mOwn 1 f_read_wide (mCons (mVar 17) (mNil))) e h = .ok (.str b) h ∧ (b ≠ LE10 → okW b = true ∧ wideT b = [120, 110, 45] ++ w ∧ b.length ≤ 1000) := by
  have a2 := Sh.Lb.s_read_wide (cs := cz) (h := h) (part := [120, 110, 45] ++ w) (by simp; omega)
  cases hr : readW ([120, 110, 45] ++ w) with
  | none =>
    rw [hr] at a2
    have a2' : f_read_wide [.str ([120, 110, 45] ++ w)] h = .exc "LabelError" h := a2
    refine ⟨LE10, ?_, fun z => absurd rfl z⟩
    have hI : isa "LabelError" "LabelError" = some true := by decide
    have ev : mOwn 1 f_read_wide (mCons (mVar 17) (mNil)) e h = .exc "LabelError" h := by
      simp only [mOwn_eq, mCons, mNil, mVar, e17, bind_ok, List.length_singleton, if_true, a2']
    show tell1 isa "LabelError" LE10 (mOwn 1 f_read_wide (mCons (mVar 17) (mNil)) e h) = _
    rw [ev]
    exact tell_exc hI
  | some b =>
    rw [hr] at a2
    have a2' : f_read_wide [.str ([120, 110, 45] ++ w)] h = .ok (.str b) h := a2
    refine ⟨b, ?_, fun _ => readW_ok rfl (by simp; omega) hr⟩
    have ev : mOwn 1 f_read_wide (mCons (mVar 17) (mNil)) e h = .ok (.str b) h := by
      simp only [mOwn_eq, mCons, mNil, mVar, e17, bind_ok, List.length_singleton, if_true, a2']
    show tell1 isa "LabelError" LE10 (mOwn 1 f_read_wide (mCons (mVar 17) (mNil)) e h) = _
    rw [ev]
    rfl
theorem c_26 {b w : Tx} (hb : b ≠ LE10 → okW b = true ∧ wideT b = [120, 110, 45] ++ w ∧ b.length ≤ 1000) (e16 : e[16]? = some (some (.str b))) (e17 : e[17]? = some (some (.str ([120, 110, 45] ++ w)))) : (mAnd (m2 gNe (mVar 16) (mC (.str LE10))) (m2 gNe (mOwn 1 f_told_wide (mCons (mVar 16) (mNil))) (mVar 17))) e h = .ok (.bl false) h := by
  by_cases z : b = LE10
  · subst z
    simp [e16]
  · obtain ⟨h1, h2, h3⟩ := hb z
    have a1 := Sh.Lb.s_told_wide (cs := cz) (h := h) (t := b) h3
    rw [if_pos h1, h2] at a1
    have a1' : f_told_wide [.str b] h = .ok (.str ([120, 110, 45] ++ w)) h := a1
    have dz : decide (b = LE10) = false := decide_eq_false z
    simp only [mAnd_eq, m2, mVar, e16, e17, mC, bind_ok, gNe_ss, dz, Bool.not_false, brM_t, mOwn_eq, mCons, mNil, List.length_singleton, if_true, a1']
    simp
end
end K01

namespace K01
open PySem PySem.Spec PyProof.Rows L2 Sh
theorem pure2 : ∃ h', m_law2 (List.replicate 23 none) [] = .rt (.bl true) h' := okB_ok (by kernel_rfl)
end K01

namespace K01
open PySem PySem.Spec PyProof.Rows L2 Sh Lb
def b_law : MS := (sSeq (sAsg (mLcF (mRng1 (mCons (mC (.int 6)) (mNil))) [18] (gName' 18) (mC (.bl true)) (mOwn 1 f_law_name (mCons (mVar 1) (mNil)))) (gName' 2))
          (sSeq (sAsg (mTup (mCons (m2 gGet (mVar 2) (mC (.int 0))) (mCons (m2 gGet (mVar 2) (mC (.int 1))) (mNil)))) (gSeq' 2 (gsCons (gSeq' 2 (gsCons (gName' 3) (gsCons (gName' 4) (gsNil)))) (gsCons (gSeq' 2 (gsCons (gName' 5) (gsCons (gName' 6) (gsNil)))) (gsNil)))))
          (sSeq (sAsg (mOr (m2 gEq (mVar 6) (mLstF (mNil))) (m2 gEq (mSlF (mVar 4) (mPart (m1 gNeg (mCall gLenU (mCons (mVar 6) (mNil))))) (mNoPart)) (mVar 6))) (gName' 7))
          (sSeq (sIf (mOr (m2 gNe (mCall gListF (mCons (mOwn 1 f_parts_of (mCons (mVar 3) (mNil))) (mNil))) (mVar 4)) (m2 gNe (mOwn 1 f_plain_name (mCons (mVar 3) (mNil))) (mOwn 1 f_law_plain_name (mCons (mVar 4) (mNil))))) (sRet (mC (.bl false))) (sSkip))
          (sSeq (sIf (mOr (m2 gNe (mOwn 2 f_is_same_name (mCons (mVar 3) (mCons (mVar 5) (mNil)))) (m2 gEq (mVar 4) (mVar 6))) (m2 gNe (mOwn 1 f_deep_of (mCons (mVar 3) (mNil))) (mCall gLenU (mCons (mVar 4) (mNil))))) (sRet (mC (.bl false))) (sSkip))
          (sSeq (sIf (mOr (m2 gNe (mCall gListF (mCons (mOwn 1 f_key_of (mCons (mVar 3) (mNil))) (mNil))) (m1 gRev (mVar 4))) (m2 gNe (mOwn 1 f_name_above (mCons (mVar 3) (mNil))) (mOwn 1 f_law_plain_name (mCons (mSlF (mVar 4) (mPart (mC (.int 1))) (mNoPart)) (mNil))))) (sRet (mC (.bl false))) (sSkip))
          (sSeq (sIf (m2 gNe (mCall gListF (mCons (mOwn 1 f_all_above (mCons (mVar 3) (mNil))) (mNil))) (mLcF (mRng1 (mCons (m2 gAddF (mCall gLenU (mCons (mVar 4) (mNil))) (mC (.int 1))) (mNil))) [18] (gName' 18) (mC (.bl true)) (mOwn 1 f_law_plain_name (mCons (mSlF (mVar 4) (mPart (mVar 18)) (mNoPart)) (mNil))))) (sRet (mC (.bl false))) (sSkip))
          (sSeq (sIf (m2 gNe (mOwn 2 f_is_in (mCons (mVar 3) (mCons (mVar 5) (mNil)))) (mVar 7)) (sRet (mC (.bl false))) (sSkip))
          (sSeq (sAsg (mSlF (mVar 4) (mNoPart) (mPart (m2 Sh.gSub (mCall gLenU (mCons (mVar 4) (mNil))) (mCall gLenU (mCons (mVar 6) (mNil)))))) (gName' 8))
          (sSeq (sAsg (mIf (mOr (mNot (mVar 7)) (m2 gEq (mVar 6) (mLstF (mNil)))) (mOwn 1 f_law_plain_name (mCons (mVar 4) (mNil))) (mIf (m2 gNe (mVar 8) (mLstF (mNil))) (mBM .str gJoin (mC (.str [46])) (mCons (mVar 8) (mNil))) (mC (.str [64])))) (gName' 9))
          (sSeq (sIf (mOr (m2 gNe (mOwn 2 f_told_from (mCons (mVar 3) (mCons (mVar 5) (mNil)))) (mVar 9)) (m2 gNe (mOwn 2 f_full_name (mCons (mVar 9) (mCons (mVar 5) (mNil)))) (mOwn 1 f_law_plain_name (mCons (mVar 4) (mNil))))) (sRet (mC (.bl false))) (sSkip))
          (sSeq (sIf (m2 gNe (mOwn 2 f_full_name (mCons (mC (.str [64])) (mCons (mVar 5) (mNil)))) (mOwn 1 f_law_plain_name (mCons (mVar 6) (mNil)))) (sRet (mC (.bl false))) (sSkip))
          (sSeq (sIf (m2 gNe (mOwn 2 f_full_name (mCons (mVar 3) (mCons (mVar 5) (mNil)))) (mIf (m2 gEq (m2 gGet (mVar 3) (m1 gNeg (mC (.int 1)))) (mC (.str [46]))) (mOwn 1 f_law_plain_name (mCons (mVar 4) (mNil))) (mOwn 1 f_law_plain_name (mCons (m2 gAddF (mVar 4) (mVar 6)) (mNil))))) (sRet (mC (.bl false))) (sSkip))
          (sSeq (sAsg (mCall gSorted (mCons (mCall (gDict true) (mCons (mLcF (mItV (mVar 2)) [10, 19] (gSeq' 2 (gsCons (gName' 10) (gsCons (gName' 19) (gsNil)))) (mC (.bl true)) (mTup (mCons (mCall gTuple (mCons (m1 gRev (mVar 19)) (mNil))) (mCons (mC (.int 1)) (mNil))))) (mNil))) (mNil))) (gName' 11))
          (sSeq (sAsg (mLcF (mItV (mVar 11)) [20] (gName' 20) (mC (.bl true)) (mOwn 1 f_law_plain_name (mCons (mCall gListF (mCons (m1 gRev (mVar 20)) (mNil))) (mNil)))) (gName' 12))
          (sSeq (sAsg (m2 gGet (mLcF (mRng1 (mCons (mC (.int 6)) (mNil))) [18] (gName' 18) (m2 gEq (mLcF (mItV (mVar 2)) [10, 19] (gSeq' 2 (gsCons (gName' 10) (gsCons (gName' 19) (gsNil)))) (mOr (m2 gNe (mSlF (m1 gRev (mVar 19)) (mNoPart) (mPart (mVar 18))) (mSlF (m1 gRev (m2 gGet (m2 gGet (mVar 2) (mC (.int 0))) (mC (.int 1)))) (mNoPart) (mPart (mVar 18)))) (m2 gLtU (mCall gLenU (mCons (mVar 19) (mNil))) (mVar 18))) (mVar 19)) (mLstF (mNil))) (mVar 18)) (m1 gNeg (mC (.int 1)))) (gName' 13))
          (sSeq (sAsg (mLcF (mItV (mVar 11)) [20] (gName' 20) (m2 gGtU (mVar 20) (mCall gTuple (mCons (m1 gRev (mVar 4)) (mNil)))) (mOwn 1 f_law_plain_name (mCons (mCall gListF (mCons (m1 gRev (mVar 20)) (mNil))) (mNil)))) (gName' 14))
          (sSeq (sIf (m2 gNe (mCall gListF (mCons (mOwn 1 f_in_order (mCons (mLcF (mItV (mVar 2)) [10, 19] (gSeq' 2 (gsCons (gName' 10) (gsCons (gName' 19) (gsNil)))) (mC (.bl true)) (mVar 10)) (mNil))) (mNil))) (mVar 12)) (sRet (mC (.bl false))) (sSkip))
          (sSeq (sIf (m2 gNe (mOwn 1 f_shared_top (mCons (mLcF (mItV (mVar 2)) [10, 19] (gSeq' 2 (gsCons (gName' 10) (gsCons (gName' 19) (gsNil)))) (mC (.bl true)) (mVar 10)) (mNil))) (mOwn 1 f_law_plain_name (mCons (mSlF (mVar 4) (mPart (m2 Sh.gSub (mCall gLenU (mCons (mVar 4) (mNil))) (mVar 13))) (mNoPart)) (mNil)))) (sRet (mC (.bl false))) (sSkip))
          (sSeq (sIf (m2 gNe (mOwn 2 f_next_name (mCons (mLcF (mItV (mSlF (mVar 2) (mPart (mC (.int 1))) (mNoPart))) [10, 19] (gSeq' 2 (gsCons (gName' 10) (gsCons (gName' 19) (gsNil)))) (mC (.bl true)) (mVar 10)) (mCons (mVar 3) (mNil)))) (m2 gGet (mLcF (mItV (m2 gAddF (mVar 14) (mVar 12))) [21] (gName' 21) (mOr (m2 gNe (mVar 21) (mOwn 1 f_law_plain_name (mCons (mVar 4) (mNil)))) (m2 (gInU false) (mVar 4) (mLcF (mItV (mSlF (mVar 2) (mPart (mC (.int 1))) (mNoPart))) [10, 19] (gSeq' 2 (gsCons (gName' 10) (gsCons (gName' 19) (gsNil)))) (mC (.bl true)) (mVar 19)))) (mVar 21)) (mC (.int 0)))) (sRet (mC (.bl false))) (sSkip))
          (sSeq (sAsg (mBM .str gJoin (mC (.str [])) (mCons (mLcF (mRng1 (mCons (m2 gAddF (mC (.int 1)) (mOwn 2 (f_law_roll 2) (mCons (mVar 1) (mCons (mC (.int 6)) (mNil))))) (mNil))) [18] (gName' 18) (mC (.bl true)) (m2 gGet (mC (.str S7)) (mOwn 2 (f_law_roll 2) (mCons (mVar 1) (mCons (mC (.int 7)) (mNil)))))) (mNil))) (gName' 10))
          (sSeq (sAsg (mOwn 1 f_told_wide (mCons (mVar 10) (mNil))) (gName' 15))
          (sSeq (sIf (mOr (m2 gNe (mVar 15) (mOwn 1 f_law_wide (mCons (mVar 10) (mNil)))) (m2 gNe (mOwn 1 f_read_wide (mCons (mVar 15) (mNil))) (mVar 10))) (sRet (mC (.bl false))) (sSkip))
          (sSeq (sIf (m2 gNe (mLcF (mItV (mVar 15)) [22] (gName' 22) (m2 (gInU true) (mVar 22) (mC (.str SIGNS))) (mVar 22)) (mLstF (mNil))) (sRet (mC (.bl false))) (sSkip))
          (sSeq (sAsg (m2 gAddF (mC (.str [120, 110, 45])) (mBM .str gJoin (mC (.str [])) (mCons (mLcF (mRng1 (mCons (mOwn 2 (f_law_roll 2) (mCons (mVar 1) (mCons (mC (.int 7)) (mNil)))) (mNil))) [18] (gName' 18) (mC (.bl true)) (m2 gGet (mC (.str S6)) (mOwn 2 (f_law_roll 2) (mCons (mVar 1) (mCons (mC (.int 6)) (mNil)))))) (mNil)))) (gName' 17))
          (sSeq (sAsg (mTell isa "LabelError" [76, 97, 98, 101, 108, 69, 114, 114, 111, 114] (mOwn 1 f_read_wide (mCons (mVar 17) (mNil)))) (gName' 16))
          (sIf (mAnd (m2 gNe (mVar 16) (mC (.str [76, 97, 98, 101, 108, 69, 114, 114, 111, 114]))) (m2 gNe (mOwn 1 f_told_wide (mCons (mVar 16) (mNil))) (mVar 17))) (sRet (mC (.bl false))) (sSkip))))))))))))))))))))))))))))
theorem m_law1_eq : m_law1 = sFor (mItV (mOwn 2 ff_rounds (mCons (mVar 0) (mCons (mC (.int 1)) (mNil))))) (gName' 1) b_law := rfl
abbrev LE (x : IV) (d : Nat) (v2 v3 v4 v5 v6 v7 v8 v9 v10 v11 v12 v13 v14 v15 v16 v17 : Option IV) : IE := [some x, some (.ref d), v2, v3, v4, v5, v6, v7, v8, v9, v10, v11, v12, v13, v14, v15, v16, v17, none, none, none, none, none]
theorem body (x : IV) (d : Nat) (h : IH) (D : Dice h d) : ∃ e' h', b_law (some x :: some (.ref d) :: List.replicate 21 none) h = .nx e' h' ∧ e'.length = 23 := by
  show ∃ e' h', b_law (LE x d none none none none none none none none none none none none none none none none) h = .nx e' h' ∧ e'.length = 23
  -- rows
  obtain ⟨rows, h1, c0, l0, p0, r1⟩ := draw_list (α := Rw) (emb := rowI) (P := Row) (R := Dr d) (fun _ _ _ a b => a.trans b) (k := 18) (f := mOwn 1 f_law_name (mCons (mVar 1) (mNil))) (it := mRng1 (mCons (mC (.int 6)) (mNil))) (e := LE x d none none none none none none none none none none none none none none none none) (h := h) (n := 6) (mRng1_ok (by simp) (by omega)) (Dr.refl D) (by omega) rfl (fun i h' rr => by
    obtain ⟨rs, dot, h'', e1, n1, q1⟩ := s_name h' d (rr.dice D)
    refine ⟨(nmT rs dot, nmP rs), h'', ?_, ⟨rs, dot, n1, rfl⟩, q1⟩
    simp [e1, rowI])
  have D1 := r1.dice D
  obtain ⟨y0, y1, R, rfl⟩ : ∃ y0 y1 R, rows = y0 :: y1 :: R := by
    match rows, l0 with
    | y0 :: y1 :: R, _ => exact ⟨y0, y1, R, rfl⟩
  have hRows : Rows (y0 :: y1 :: R) := ⟨p0, by omega⟩
  have w0 := p0 y0 (by simp)
  have w1 := p0 y1 (by simp)
  unfold b_law
  rw [run_seq (e1 := LE x d (some (.fz ((y0 :: y1 :: R).map rowI))) none none none none none none none none none none none none none none none) (h1 := h1) (run_asg c0)]
  rw [run_seq (e1 := LE x d (some (.fz ((y0 :: y1 :: R).map rowI))) (some (.str y0.1)) (some (.fz (y0.2.map .str))) (some (.str y1.1)) (some (.fz (y1.2.map .str))) none none none none none none none none none none none) (h1 := h1) (by
    have a0 : atI (rowI y0 :: rowI y1 :: R.map rowI) 0 = some (rowI y0) := atI_0
    have a1 : atI (rowI y0 :: rowI y1 :: R.map rowI) 1 = some (rowI y1) := by
      have := Sh.Lb.atI_nat (xs := rowI y0 :: rowI y1 :: R.map rowI) (k := 1)
      exact this
    have c1 : mTup (mCons (m2 gGet (mVar 2) (mC (.int 0))) (mCons (m2 gGet (mVar 2) (mC (.int 1))) (mNil))) (LE x d (some (.fz ((y0 :: y1 :: R).map rowI))) none none none none none none none none none none none none none none none) h1 = .ok (.tup [rowI y0, rowI y1]) h1 := by simp [a0, a1, big]
    rw [sAsg_eq, c1]
    rfl)]
  -- inside
  have c2 := v_in (e := LE x d (some (.fz ((y0 :: y1 :: R).map rowI))) (some (.str y0.1)) (some (.fz (y0.2.map .str))) (some (.str y1.1)) (some (.fz (y1.2.map .str))) none none none none none none none none none none none) (h := h1) w0 w1 rfl rfl
  let E7 : IE := LE x d (some (.fz ((y0 :: y1 :: R).map rowI))) (some (.str y0.1)) (some (.fz (y0.2.map .str))) (some (.str y1.1)) (some (.fz (y1.2.map .str))) (some (.bl (inP y0.2 y1.2))) none none none none none none none none none none
  rw [run_seq (e1 := E7) (h1 := h1) (run_asg c2)]
  rw [run_seq (run_chk (c_3 (e := E7) (h := h1) w0 rfl rfl))]
  rw [run_seq (run_chk (c_4 (e := E7) (h := h1) w0 w1 rfl rfl rfl rfl))]
  rw [run_seq (run_chk (c_5 (e := E7) (h := h1) w0 rfl rfl))]
  rw [run_seq (run_chk (c_6 (e := E7) (h := h1) w0 rfl rfl rfl (by simp [E7])))]
  rw [run_seq (run_chk (c_7 (e := E7) (h := h1) w0 w1 rfl rfl rfl))]
  let V8 : IV := .fz ((cutI y0.2 none (some ((y0.2.length : Int) - y1.2.length))).map .str)
  let E8 : IE := LE x d (some (.fz ((y0 :: y1 :: R).map rowI))) (some (.str y0.1)) (some (.fz (y0.2.map .str))) (some (.str y1.1)) (some (.fz (y1.2.map .str))) (some (.bl (inP y0.2 y1.2))) (some V8) none none none none none none none none none
  rw [run_seq (e1 := E8) (h1 := h1) (run_asg (v_rest (e := E7) (h := h1) (ps := y0.2) (qs := y1.2) rfl rfl))]
  let E9 : IE := LE x d (some (.fz ((y0 :: y1 :: R).map rowI))) (some (.str y0.1)) (some (.fz (y0.2.map .str))) (some (.str y1.1)) (some (.fz (y1.2.map .str))) (some (.bl (inP y0.2 y1.2))) (some V8) (some (.str (toldP y0.2 y1.2))) none none none none none none none none
  rw [run_seq (e1 := E9) (h1 := h1) (run_asg (v_told (e := E8) (h := h1) w0 w1 rfl rfl rfl rfl))]
  rw [run_seq (run_chk (c_10 (e := E9) (h := h1) w0 w1 rfl rfl rfl rfl))]
  rw [run_seq (run_chk (c_11 (e := E9) (h := h1) w1 rfl rfl))]
  rw [run_seq (run_chk (c_12 (e := E9) (h := h1) w0 w1 rfl rfl rfl rfl))]
  -- keys
  obtain ⟨o1, k1⟩ := v_keys (e := E9) (h := h1) hRows rfl rfl (by simp [E9])
  have D2 : Dice (h1 ++ [o1]) d := D1.app
  generalize h1 ++ [o1] = h2 at k1 D2
  let K11 : IV := .fz ((ordK (y0 :: y1 :: R)).map ivT)
  let E11 : IE := LE x d (some (.fz ((y0 :: y1 :: R).map rowI))) (some (.str y0.1)) (some (.fz (y0.2.map .str))) (some (.str y1.1)) (some (.fz (y1.2.map .str))) (some (.bl (inP y0.2 y1.2))) (some V8) (some (.str (toldP y0.2 y1.2))) none (some K11) none none none none none none
  rw [run_seq (e1 := E11) (h1 := h2) (run_asg k1)]
  let K12 : IV := .fz ((ordK (y0 :: y1 :: R)).map fun k => .str (plainT k.reverse))
  let E12 : IE := LE x d (some (.fz ((y0 :: y1 :: R).map rowI))) (some (.str y0.1)) (some (.fz (y0.2.map .str))) (some (.str y1.1)) (some (.fz (y1.2.map .str))) (some (.bl (inP y0.2 y1.2))) (some V8) (some (.str (toldP y0.2 y1.2))) none (some K11) (some K12) none none none none none
  rw [run_seq (e1 := E12) (h1 := h2) (run_asg (v_order (e := E11) (h := h2) hRows rfl rfl (by simp [E11])))]
  obtain ⟨S, s1, s2, s3, _⟩ := Sh.Lb.s_shared (cs := cz) (h := h2) hRows.ok
  let E13 : IE := LE x d (some (.fz ((y0 :: y1 :: R).map rowI))) (some (.str y0.1)) (some (.fz (y0.2.map .str))) (some (.str y1.1)) (some (.fz (y1.2.map .str))) (some (.bl (inP y0.2 y1.2))) (some V8) (some (.str (toldP y0.2 y1.2))) none (some K11) (some K12) (some (.int (S : Nat))) none none none none
  rw [run_seq (e1 := E13) (h1 := h2) (run_asg (v_same (e := E12) (h := h2) hRows s1 s2 s3 rfl rfl rfl (by simp [E12])))]
  let K14 : IV := .fz (((ordK (y0 :: y1 :: R)).filter fun k => ltK y0.2.reverse k).map fun k => .str (plainT k.reverse))
  let E14 : IE := LE x d (some (.fz ((y0 :: y1 :: R).map rowI))) (some (.str y0.1)) (some (.fz (y0.2.map .str))) (some (.str y1.1)) (some (.fz (y1.2.map .str))) (some (.bl (inP y0.2 y1.2))) (some V8) (some (.str (toldP y0.2 y1.2))) none (some K11) (some K12) (some (.int (S : Nat))) (some K14) none none none
  rw [run_seq (e1 := E14) (h1 := h2) (run_asg (v_later (e := E13) (h := h2) hRows (me := y0.2) rfl rfl rfl (by simp [E13])))]
  obtain ⟨o2, k17⟩ := c_17 (e := E14) (h := h2) hRows rfl rfl rfl (by simp [E14])
  have D3 : Dice (h2 ++ [o2]) d := D2.app
  generalize h2 ++ [o2] = h3 at k17 D3
  rw [run_seq (run_chk k17)]
  rw [run_seq (run_chk (c_18 (e := E14) (h := h3) hRows s1 s2 s3 rfl rfl rfl rfl (by simp [E14])))]
  obtain ⟨o3, k19⟩ := c_19 (e := E14) (h := h3) (R := y1 :: R) hRows (by simp) rfl rfl rfl rfl rfl rfl rfl (by simp [E14])
  have D4 : Dice (h3 ++ [o3]) d := D3.app
  generalize h3 ++ [o3] = h4 at k19 D4
  rw [run_seq (run_chk k19)]
  -- wide texts
  obtain ⟨m, h5, e5, b5, r5⟩ := s_rollK h4 d 6 D4 (by omega)
  have D5 := r5.dice D4
  obtain ⟨t, h6, t1, t2, t3, r6⟩ := draw_text S7 0 (it := mRng1 (mCons (m2 gAddF (mC (.int 1)) (mOwn 2 (f_law_roll 2) (mCons (mVar 1) (mCons (mC (.int 6)) (mNil))))) (mNil))) (e := E14) (h := h4) (h0 := h5) (d := d) (n := 1 + m) (by decide) (by decide) D5 (mRng1_ok (by simp [E14, e5]) (by omega)) (by omega) rfl rfl
  have D6 := r6.dice D5
  let E15 : IE := LE x d (some (.fz ((y0 :: y1 :: R).map rowI))) (some (.str y0.1)) (some (.fz (y0.2.map .str))) (some (.str y1.1)) (some (.fz (y1.2.map .str))) (some (.bl (inP y0.2 y1.2))) (some V8) (some (.str (toldP y0.2 y1.2))) (some (.str t)) (some K11) (some K12) (some (.int (S : Nat))) (some K14) none none none
  rw [run_seq (e1 := E15) (h1 := h6) (run_asg t1)]
  have tn : t ≠ [] := fun z => by rw [z] at t2; simp at t2; omega
  have tl : t.length ≤ 6 := by omega
  have to := s7_ok t3 tn
  let E16 : IE := LE x d (some (.fz ((y0 :: y1 :: R).map rowI))) (some (.str y0.1)) (some (.fz (y0.2.map .str))) (some (.str y1.1)) (some (.fz (y1.2.map .str))) (some (.bl (inP y0.2 y1.2))) (some V8) (some (.str (toldP y0.2 y1.2))) (some (.str t)) (some K11) (some K12) (some (.int (S : Nat))) (some K14) (some (.str (wideT t))) none none
  have tw : mOwn 1 f_told_wide (mCons (mVar 10) (mNil)) E15 h6 = .ok (.str (wideT t)) h6 := by
    have a1 := Sh.Lb.s_told_wide (cs := cz) (h := h6) (t := t) (by omega)
    rw [if_pos to] at a1
    have a1' : f_told_wide [.str t] h6 = .ok (.str (wideT t)) h6 := a1
    simp [E15, a1']
  rw [run_seq (e1 := E16) (h1 := h6) (run_asg tw)]
  rw [run_seq (run_chk (c_22 (e := E16) (h := h6) t3 tn tl rfl rfl))]
  rw [run_seq (run_chk (c_23 (e := E16) (h := h6) to tl rfl rfl (by simp [E16])))]
  obtain ⟨m2', h7, e7, b7, r7⟩ := s_rollK h6 d 7 D6 (by omega)
  have D7 := r7.dice D6
  obtain ⟨w, h8, u1, u2, u3, r8⟩ := draw_text S6 0 (it := mRng1 (mCons (mOwn 2 (f_law_roll 2) (mCons (mVar 1) (mCons (mC (.int 7)) (mNil)))) (mNil))) (e := E16) (h := h6) (h0 := h7) (d := d) (n := m2') (by decide) (by decide) D7 (mRng1_ok (by simp [E16, e7]) (by omega)) (by omega) rfl rfl
  let E17 : IE := LE x d (some (.fz ((y0 :: y1 :: R).map rowI))) (some (.str y0.1)) (some (.fz (y0.2.map .str))) (some (.str y1.1)) (some (.fz (y1.2.map .str))) (some (.bl (inP y0.2 y1.2))) (some V8) (some (.str (toldP y0.2 y1.2))) (some (.str t)) (some K11) (some K12) (some (.int (S : Nat))) (some K14) (some (.str (wideT t))) none (some (.str ([120, 110, 45] ++ w)))
  have wl : w.length ≤ 6 := by omega
  have uw : m2 gAddF (mC (.str [120, 110, 45])) (mBM .str gJoin (mC (.str [])) (mCons (mLcF (mRng1 (mCons (mOwn 2 (f_law_roll 2) (mCons (mVar 1) (mCons (mC (.int 7)) (mNil)))) (mNil))) [18] (gName' 18) (mC (.bl true)) (m2 gGet (mC (.str S6)) (mOwn 2 (f_law_roll 2) (mCons (mVar 1) (mCons (mC (.int 6)) (mNil)))))) (mNil))) E16 h6 = .ok (.str ([120, 110, 45] ++ w)) h8 := by
    have u1' : mBM .str gJoin (mC (.str [])) (mCons (mLcF (mRng1 (mCons (mOwn 2 (f_law_roll 2) (mCons (mVar 1) (mCons (mC (.int 7)) (mNil)))) (mNil))) [18] (gName' 18) (mC (.bl true)) (m2 gGet (mC (.str S6)) (mOwn 2 (f_law_roll 2) (mCons (mVar 1) (mCons (mC (.int 6)) (mNil)))))) (mNil)) E16 h6 = .ok (.str w) h8 := u1
    generalize mBM .str gJoin (mC (.str [])) _ = F at u1'
    simp only [m2, mC, bind_ok, u1']
    exact add_ss (by simp; omega)
  rw [run_seq (e1 := E17) (h1 := h8) (run_asg uw)]
  obtain ⟨b, v1, v2⟩ := v_back (e := E17) (h := h8) wl rfl
  let E18 : IE := LE x d (some (.fz ((y0 :: y1 :: R).map rowI))) (some (.str y0.1)) (some (.fz (y0.2.map .str))) (some (.str y1.1)) (some (.fz (y1.2.map .str))) (some (.bl (inP y0.2 y1.2))) (some V8) (some (.str (toldP y0.2 y1.2))) (some (.str t)) (some K11) (some K12) (some (.int (S : Nat))) (some K14) (some (.str (wideT t))) (some (.str b)) (some (.str ([120, 110, 45] ++ w)))
  rw [run_seq (e1 := E18) (h1 := h8) (run_asg v1)]
  exact ⟨E18, h8, run_chk (c_26 (e := E18) (h := h8) v2 rfl rfl), rfl⟩
theorem pure1 (ns : List Int) (x : IV) (h : IH) (_ : ns.length ≤ 63) (_ : ∀ z ∈ ns, Builtin.Int.intBits z ≤ 1048576) (hx : x = .fz (ns.map .int) ∧ h = [] ∨ x = .ref 0 ∧ h = [.lst (ns.map .int)]) : ∃ e' h', m_law1 (some x :: List.replicate 22 none) h = .nx e' h' ∧ e'.length = 23 := by
  rw [m_law1_eq]
  exact law_one (n := 21) (fun x d h D => by
    obtain ⟨e', h', e1, l1⟩ := body x d h D
    exact ⟨e', h', .inl e1, l1⟩) ns x h hx
end K01

namespace K01
open PySem PySem.Spec PyProof.Rows L2 Sh
section
variable {P : Program} {w : World} {G : Gx} {mg : Str → Option Value} {h base : Heap}
theorem ok_law {fd : FuncData} (Z : ZZ G w mg h base) (hZ : G.Z = none) (F : FunD G.K "law" "law" (defArgs s_law) (defBody s_law) (defScope s_law) [] [] (He.fAd G.K ("law", none)) fd) : FnOk P w G.K mg base (L2.CX P w) 12 (He.fAd G.K ("law", none)) fd ["script"] (spLaw G 63) :=
  law_fn (k := 11) F sc_law rfl hZ (fun cdv A outer s H E ecd Cs => ⟨ss_for Cs (si_val Cs.toCan.hK (se_call Cs.toCan ((k_law_rounds Z).mono (by omega)) rfl (Z.glo 3 rfl) (sa_cons (se_var 0 (pv 0)) (sa_cons (se_int) (sa_nil))))) (t_nm 1 Cs.toCan) (sb_cons (ss_asg (se_lcF (own := [("k", 18)]) Cs.toCan (si_range1 rfl (Z.free 19 rfl) (sa_cons (se_int) (sa_nil))) (blkOk_by rfl) (fun _ _ _ _ _ _ _ C32 => ⟨t_nm 18 C32, sq_nil, se_call C32 ((k_law_name Z).mono (by omega)) rfl (Z.glo 43 rfl) (sa_cons (se_var 1 (pv 1)) (sa_nil))⟩)) (t_nm 2 Cs.toCan))
          (sb_cons (ss_asg (se_tup (sa_cons (e_get Cs.toCan (se_var 2 (pv 2)) (se_int)) (sa_cons (e_get Cs.toCan (se_var 2 (pv 2)) (se_int)) (sa_nil)))) (sg_seq Cs.toCan (sgs_cons (sg_seq Cs.toCan (sgs_cons (t_nm 3 Cs.toCan) (sgs_cons (t_nm 4 Cs.toCan) (sgs_nil)))) (sgs_cons (sg_seq Cs.toCan (sgs_cons (t_nm 5 Cs.toCan) (sgs_cons (t_nm 6 Cs.toCan) (sgs_nil)))) (sgs_nil)))))
          (sb_cons (ss_asg (se_or (e_eq Cs.toCan (se_var 6 (pv 6)) (se_lstF (sa_nil))) (se_one (e_eq Cs.toCan (se_sliceF Cs.toCan.hK (se_var 4 (pv 4)) (so_some (e_neg (e_lenU Cs.toCan (Z.free 13 rfl) rfl (sa_cons (se_var 6 (pv 6)) (sa_nil))))) (so_none)) (se_var 6 (pv 6))))) (t_nm 7 Cs.toCan))
          (sb_cons (ss_if (sc_w (sw_or (c_ne Cs.toCan (e_listF Cs.toCan (Z.free 16 rfl) rfl (sa_cons (se_call Cs.toCan ((k_parts_of Z).mono (by omega)) rfl (Z.glo 27 rfl) (sa_cons (se_var 3 (pv 3)) (sa_nil))) (sa_nil))) (se_var 4 (pv 4))) (sw_or1 (c_ne Cs.toCan (se_call Cs.toCan ((k_plain_name Z).mono (by omega)) rfl (Z.glo 35 rfl) (sa_cons (se_var 3 (pv 3)) (sa_nil))) (se_call Cs.toCan ((k_law_plain_name Z).mono (by omega)) rfl (Z.glo 32 rfl) (sa_cons (se_var 4 (pv 4)) (sa_nil))))))) (sb_one (ss_ret (se_bl))) (sb_nil))
          (sb_cons (ss_if (sc_w (sw_or (c_ne Cs.toCan (se_call Cs.toCan ((k_is_same_name Z).mono (by omega)) rfl (Z.glo 42 rfl) (sa_cons (se_var 3 (pv 3)) (sa_cons (se_var 5 (pv 5)) (sa_nil)))) (e_eq Cs.toCan (se_var 4 (pv 4)) (se_var 6 (pv 6)))) (sw_or1 (c_ne Cs.toCan (se_call Cs.toCan ((k_deep_of Z).mono (by omega)) rfl (Z.glo 37 rfl) (sa_cons (se_var 3 (pv 3)) (sa_nil))) (e_lenU Cs.toCan (Z.free 13 rfl) rfl (sa_cons (se_var 4 (pv 4)) (sa_nil))))))) (sb_one (ss_ret (se_bl))) (sb_nil))
          (sb_cons (ss_if (sc_w (sw_or (c_ne Cs.toCan (e_listF Cs.toCan (Z.free 16 rfl) rfl (sa_cons (se_call Cs.toCan ((k_key_of Z).mono (by omega)) rfl (Z.glo 28 rfl) (sa_cons (se_var 3 (pv 3)) (sa_nil))) (sa_nil))) (se_rev Cs.toCan (se_var 4 (pv 4)))) (sw_or1 (c_ne Cs.toCan (se_call Cs.toCan ((k_name_above Z).mono (by omega)) rfl (Z.glo 41 rfl) (sa_cons (se_var 3 (pv 3)) (sa_nil))) (se_call Cs.toCan ((k_law_plain_name Z).mono (by omega)) rfl (Z.glo 32 rfl) (sa_cons (se_sliceF Cs.toCan.hK (se_var 4 (pv 4)) (so_some (se_int)) (so_none)) (sa_nil))))))) (sb_one (ss_ret (se_bl))) (sb_nil))
          (sb_cons (ss_if (c_ne Cs.toCan (e_listF Cs.toCan (Z.free 16 rfl) rfl (sa_cons (se_call Cs.toCan ((k_all_above Z).mono (by omega)) rfl (Z.glo 40 rfl) (sa_cons (se_var 3 (pv 3)) (sa_nil))) (sa_nil))) (se_lcF (own := [("k", 18)]) Cs.toCan (si_range1 rfl (Z.free 19 rfl) (sa_cons (e_addF Cs.toCan (e_lenU Cs.toCan (Z.free 13 rfl) rfl (sa_cons (se_var 4 (pv 4)) (sa_nil))) (se_int)) (sa_nil))) (blkOk_by rfl) (fun _ _ _ _ _ _ _ C31 => ⟨t_nm 18 C31, sq_nil, se_call C31 ((k_law_plain_name Z).mono (by omega)) rfl (Z.glo 32 rfl) (sa_cons (se_sliceF C31.hK (se_var 4 (pv 4)) (so_some (se_var 18 (pv 18))) (so_none)) (sa_nil))⟩))) (sb_one (ss_ret (se_bl))) (sb_nil))
          (sb_cons (ss_if (c_ne Cs.toCan (se_call Cs.toCan ((k_is_in Z).mono (by omega)) rfl (Z.glo 38 rfl) (sa_cons (se_var 3 (pv 3)) (sa_cons (se_var 5 (pv 5)) (sa_nil)))) (se_var 7 (pv 7))) (sb_one (ss_ret (se_bl))) (sb_nil))
          (sb_cons (ss_asg (se_sliceF Cs.toCan.hK (se_var 4 (pv 4)) (so_none) (so_some (e_sub (e_lenU Cs.toCan (Z.free 13 rfl) rfl (sa_cons (se_var 4 (pv 4)) (sa_nil))) (e_lenU Cs.toCan (Z.free 13 rfl) rfl (sa_cons (se_var 6 (pv 6)) (sa_nil)))))) (t_nm 8 Cs.toCan))
          (sb_cons (ss_asg (se_if (sc_w (sw_or (sc_not (sc_val (se_var 7 (pv 7)))) (sw_or1 (c_eq Cs.toCan (se_var 6 (pv 6)) (se_lstF (sa_nil)))))) (se_call Cs.toCan ((k_law_plain_name Z).mono (by omega)) rfl (Z.glo 32 rfl) (sa_cons (se_var 4 (pv 4)) (sa_nil))) (se_if (c_ne Cs.toCan (se_var 8 (pv 8)) (se_lstF (sa_nil))) (e_join Cs.toCan (se_str) (sa_cons (se_var 8 (pv 8)) (sa_nil))) (se_str))) (t_nm 9 Cs.toCan))
          (sb_cons (ss_if (sc_w (sw_or (c_ne Cs.toCan (se_call Cs.toCan ((k_told_from Z).mono (by omega)) rfl (Z.glo 39 rfl) (sa_cons (se_var 3 (pv 3)) (sa_cons (se_var 5 (pv 5)) (sa_nil)))) (se_var 9 (pv 9))) (sw_or1 (c_ne Cs.toCan (se_call Cs.toCan ((k_full_name Z).mono (by omega)) rfl (Z.glo 36 rfl) (sa_cons (se_var 9 (pv 9)) (sa_cons (se_var 5 (pv 5)) (sa_nil)))) (se_call Cs.toCan ((k_law_plain_name Z).mono (by omega)) rfl (Z.glo 32 rfl) (sa_cons (se_var 4 (pv 4)) (sa_nil))))))) (sb_one (ss_ret (se_bl))) (sb_nil))
          (sb_cons (ss_if (c_ne Cs.toCan (se_call Cs.toCan ((k_full_name Z).mono (by omega)) rfl (Z.glo 36 rfl) (sa_cons (se_str) (sa_cons (se_var 5 (pv 5)) (sa_nil)))) (se_call Cs.toCan ((k_law_plain_name Z).mono (by omega)) rfl (Z.glo 32 rfl) (sa_cons (se_var 6 (pv 6)) (sa_nil)))) (sb_one (ss_ret (se_bl))) (sb_nil))
          (sb_cons (ss_if (c_ne Cs.toCan (se_call Cs.toCan ((k_full_name Z).mono (by omega)) rfl (Z.glo 36 rfl) (sa_cons (se_var 3 (pv 3)) (sa_cons (se_var 5 (pv 5)) (sa_nil)))) (se_if (c_eq Cs.toCan (e_get Cs.toCan (se_var 3 (pv 3)) (e_neg (se_int))) (se_str)) (se_call Cs.toCan ((k_law_plain_name Z).mono (by omega)) rfl (Z.glo 32 rfl) (sa_cons (se_var 4 (pv 4)) (sa_nil))) (se_call Cs.toCan ((k_law_plain_name Z).mono (by omega)) rfl (Z.glo 32 rfl) (sa_cons (e_addF Cs.toCan (se_var 4 (pv 4)) (se_var 6 (pv 6))) (sa_nil))))) (sb_one (ss_ret (se_bl))) (sb_nil))
          (sb_cons (ss_asg (e_sorted Cs.toCan (Z.free 29 rfl) rfl (sa_cons (e_dictT Cs.toCan (Z.free 34 rfl) rfl (sa_cons (se_lcF (own := [("text", 10), ("mine", 19)]) Cs.toCan (si_val Cs.toCan.hK (se_var 2 (pv 2))) (blkOk_by rfl) (fun _ _ _ _ _ _ _ C29 => ⟨sg_seq C29 (sgs_cons (t_nm 10 C29) (sgs_cons (t_nm 19 C29) (sgs_nil))), sq_nil, se_tup (sa_cons (e_tuple C29 (Z.free 25 rfl) rfl (sa_cons (se_rev C29 (se_var 19 (pv 19))) (sa_nil))) (sa_cons (se_int) (sa_nil)))⟩)) (sa_nil))) (sa_nil))) (t_nm 11 Cs.toCan))
          (sb_cons (ss_setLcF (i := 12) (own := [("key", 20)]) Cs.toCan rfl rfl rfl (si_val Cs.toCan.hK (se_var 11 (pv 11))) (blkOk_by rfl) (fun _ _ _ _ _ _ _ C28 => ⟨t_nm 20 C28, sq_nil, se_call C28 ((k_law_plain_name Z).mono (by omega)) rfl (Z.glo 32 rfl) (sa_cons (e_listF C28 (Z.free 16 rfl) rfl (sa_cons (se_rev C28 (se_var 20 (pv 20))) (sa_nil))) (sa_nil))⟩))
          (sb_cons (ss_asg (e_get Cs.toCan (se_lcF (own := [("k", 18)]) Cs.toCan (si_range1 rfl (Z.free 19 rfl) (sa_cons (se_int) (sa_nil))) (blkOk_by rfl) (fun _ _ _ _ _ _ _ C26 => ⟨t_nm 18 C26, sq_one (c_eq C26 (se_lcF (own := [("text", 10), ("mine", 19)]) C26 (si_val C26.hK (se_var 2 (pv 2))) (blkOk_by rfl) (fun _ _ _ _ _ _ _ C27 => ⟨sg_seq C27 (sgs_cons (t_nm 10 C27) (sgs_cons (t_nm 19 C27) (sgs_nil))), sq_one (sc_w (sw_or (c_ne C27 (se_sliceF C27.hK (se_rev C27 (se_var 19 (pv 19))) (so_none) (so_some (se_var 18 (pv 18)))) (se_sliceF C27.hK (se_rev C27 (e_get C27 (e_get C27 (se_var 2 (pv 2)) (se_int)) (se_int))) (so_none) (so_some (se_var 18 (pv 18))))) (sw_or1 (c_ltU C27 (e_lenU C27 (Z.free 13 rfl) rfl (sa_cons (se_var 19 (pv 19)) (sa_nil))) (se_var 18 (pv 18)))))), se_var 19 (pv 19)⟩)) (se_lstF (sa_nil))), se_var 18 (pv 18)⟩)) (e_neg (se_int))) (t_nm 13 Cs.toCan))
          (sb_cons (ss_setLcF (i := 14) (own := [("key", 20)]) Cs.toCan rfl rfl rfl (si_val Cs.toCan.hK (se_var 11 (pv 11))) (blkOk_by rfl) (fun _ _ _ _ _ _ _ C25 => ⟨t_nm 20 C25, sq_one (c_gtU C25 (se_var 20 (pv 20)) (e_tuple C25 (Z.free 25 rfl) rfl (sa_cons (se_rev C25 (se_var 4 (pv 4))) (sa_nil)))), se_call C25 ((k_law_plain_name Z).mono (by omega)) rfl (Z.glo 32 rfl) (sa_cons (e_listF C25 (Z.free 16 rfl) rfl (sa_cons (se_rev C25 (se_var 20 (pv 20))) (sa_nil))) (sa_nil))⟩))
          (sb_cons (ss_if (c_ne Cs.toCan (e_listF Cs.toCan (Z.free 16 rfl) rfl (sa_cons (se_call Cs.toCan ((k_in_order Z).mono (by omega)) rfl (Z.glo 30 rfl) (sa_cons (se_lcF (own := [("text", 10), ("mine", 19)]) Cs.toCan (si_val Cs.toCan.hK (se_var 2 (pv 2))) (blkOk_by rfl) (fun _ _ _ _ _ _ _ C24 => ⟨sg_seq C24 (sgs_cons (t_nm 10 C24) (sgs_cons (t_nm 19 C24) (sgs_nil))), sq_nil, se_var 10 (pv 10)⟩)) (sa_nil))) (sa_nil))) (se_var 12 (pv 12))) (sb_one (ss_ret (se_bl))) (sb_nil))
          (sb_cons (ss_if (c_ne Cs.toCan (se_call Cs.toCan ((k_shared_top Z).mono (by omega)) rfl (Z.glo 33 rfl) (sa_cons (se_lcF (own := [("text", 10), ("mine", 19)]) Cs.toCan (si_val Cs.toCan.hK (se_var 2 (pv 2))) (blkOk_by rfl) (fun _ _ _ _ _ _ _ C23 => ⟨sg_seq C23 (sgs_cons (t_nm 10 C23) (sgs_cons (t_nm 19 C23) (sgs_nil))), sq_nil, se_var 10 (pv 10)⟩)) (sa_nil))) (se_call Cs.toCan ((k_law_plain_name Z).mono (by omega)) rfl (Z.glo 32 rfl) (sa_cons (se_sliceF Cs.toCan.hK (se_var 4 (pv 4)) (so_some (e_sub (e_lenU Cs.toCan (Z.free 13 rfl) rfl (sa_cons (se_var 4 (pv 4)) (sa_nil))) (se_var 13 (pv 13)))) (so_none)) (sa_nil)))) (sb_one (ss_ret (se_bl))) (sb_nil))
          (sb_cons (ss_if (c_ne Cs.toCan (se_call Cs.toCan ((k_next_name Z).mono (by omega)) rfl (Z.glo 31 rfl) (sa_cons (se_lcF (own := [("text", 10), ("mine", 19)]) Cs.toCan (si_val Cs.toCan.hK (se_sliceF Cs.toCan.hK (se_var 2 (pv 2)) (so_some (se_int)) (so_none))) (blkOk_by rfl) (fun _ _ _ _ _ _ _ C18 => ⟨sg_seq C18 (sgs_cons (t_nm 10 C18) (sgs_cons (t_nm 19 C18) (sgs_nil))), sq_nil, se_var 10 (pv 10)⟩)) (sa_cons (se_var 3 (pv 3)) (sa_nil)))) (e_get Cs.toCan (se_lcF (own := [("one", 21)]) Cs.toCan (si_val Cs.toCan.hK (e_addF Cs.toCan (se_var 14 (pv 14)) (se_var 12 (pv 12)))) (blkOk_by rfl) (fun _ _ _ _ _ _ _ C19 => ⟨t_nm 21 C19, sq_one (sc_w (sw_or (c_ne C19 (se_var 21 (pv 21)) (se_call C19 ((k_law_plain_name Z).mono (by omega)) rfl (Z.glo 32 rfl) (sa_cons (se_var 4 (pv 4)) (sa_nil)))) (sw_or1 (c_inU C19 (se_var 4 (pv 4)) (se_lcF (own := [("text", 10), ("mine", 19)]) C19 (si_val C19.hK (se_sliceF C19.hK (se_var 2 (pv 2)) (so_some (se_int)) (so_none))) (blkOk_by rfl) (fun _ _ _ _ _ _ _ C20 => ⟨sg_seq C20 (sgs_cons (t_nm 10 C20) (sgs_cons (t_nm 19 C20) (sgs_nil))), sq_nil, se_var 19 (pv 19)⟩)))))), se_var 21 (pv 21)⟩)) (se_int))) (sb_one (ss_ret (se_bl))) (sb_nil))
          (sb_cons (ss_asg (e_join Cs.toCan (se_str) (sa_cons (se_lcF (own := [("k", 18)]) Cs.toCan (si_range1 rfl (Z.free 19 rfl) (sa_cons (e_addF Cs.toCan (se_int) (se_call Cs.toCan ((k_law_roll Z 2).mono (by omega)) rfl (Z.glo 20 rfl) (sa_cons (se_var 1 (pv 1)) (sa_cons (se_int) (sa_nil))))) (sa_nil))) (blkOk_by rfl) (fun _ _ _ _ _ _ _ C13 => ⟨t_nm 18 C13, sq_nil, e_get C13 (se_str) (se_call C13 ((k_law_roll Z 2).mono (by omega)) rfl (Z.glo 20 rfl) (sa_cons (se_var 1 (pv 1)) (sa_cons (se_int) (sa_nil))))⟩)) (sa_nil))) (t_nm 10 Cs.toCan))
          (sb_cons (ss_asg (se_call Cs.toCan ((k_told_wide Z).mono (by omega)) rfl (Z.glo 10 rfl) (sa_cons (se_var 10 (pv 10)) (sa_nil))) (t_nm 15 Cs.toCan))
          (sb_cons (ss_if (sc_w (sw_or (c_ne Cs.toCan (se_var 15 (pv 15)) (se_call Cs.toCan ((k_law_wide Z).mono (by omega)) rfl (Z.glo 22 rfl) (sa_cons (se_var 10 (pv 10)) (sa_nil)))) (sw_or1 (c_ne Cs.toCan (se_call Cs.toCan ((k_read_wide Z).mono (by omega)) rfl (Z.glo 17 rfl) (sa_cons (se_var 15 (pv 15)) (sa_nil))) (se_var 10 (pv 10)))))) (sb_one (ss_ret (se_bl))) (sb_nil))
          (sb_cons (ss_if (c_ne Cs.toCan (se_lcF (own := [("sign", 22)]) Cs.toCan (si_val Cs.toCan.hK (se_var 15 (pv 15))) (blkOk_by rfl) (fun _ _ _ _ _ _ _ C9 => ⟨t_nm 22 C9, sq_one (c_ninU C9 (se_var 22 (pv 22)) (se_gs (Z.str 4 rfl) rfl)), se_var 22 (pv 22)⟩)) (se_lstF (sa_nil))) (sb_one (ss_ret (se_bl))) (sb_nil))
          (sb_cons (ss_asg (e_addF Cs.toCan (se_str) (e_join Cs.toCan (se_str) (sa_cons (se_lcF (own := [("k", 18)]) Cs.toCan (si_range1 rfl (Z.free 19 rfl) (sa_cons (se_call Cs.toCan ((k_law_roll Z 2).mono (by omega)) rfl (Z.glo 20 rfl) (sa_cons (se_var 1 (pv 1)) (sa_cons (se_int) (sa_nil)))) (sa_nil))) (blkOk_by rfl) (fun _ _ _ _ _ _ _ C8 => ⟨t_nm 18 C8, sq_nil, e_get C8 (se_str) (se_call C8 ((k_law_roll Z 2).mono (by omega)) rfl (Z.glo 20 rfl) (sa_cons (se_var 1 (pv 1)) (sa_cons (se_int) (sa_nil))))⟩)) (sa_nil)))) (t_nm 17 Cs.toCan))
          (sb_cons (ss_asg (se_tell Cs.toCan (Z.ct 2 ecd rfl) rfl ⟨LamX.lamS_by (by rfl), fun _ _ _ _ _ => rfl, fun _ _ _ _ _ _ _ C6 => se_call C6 ((k_read_wide Z).mono (by omega)) rfl (Z.glo 17 rfl) (sa_cons (se_var 17 (pv 17)) (sa_nil))⟩ (told Z) (isa_ok Z) rfl (Z.glo 18 rfl) rfl) (t_nm 16 Cs.toCan))
          (sb_one (ss_if (sc_w (sw_and (c_ne Cs.toCan (se_var 16 (pv 16)) (se_str)) (sw_and1 (c_ne Cs.toCan (se_call Cs.toCan ((k_told_wide Z).mono (by omega)) rfl (Z.glo 10 rfl) (sa_cons (se_var 16 (pv 16)) (sa_nil))) (se_var 17 (pv 17)))))) (sb_one (ss_ret (se_bl))) (sb_nil))))))))))))))))))))))))))))),
    ss_ret (se_call0 Cs.toCan ((k_law_plain Z).mono (by omega)) rfl (Z.glo 44 rfl))⟩) pure1 pure2
end
def loose : List PySem.Str := (["__name__", "NameFault", "ValueError", "LabelError", "MOST_PART", "MOST_WHOLE", "SIGNS_OF_PART", "MORE_SIGNS", "check_part", "parts_of"] : List PySem.Str) ++ (["plain_name", "is_same_name", "name_above", "all_above", "is_in", "deep_of", "full_name", "told_from", "key_of", "in_order"] : List PySem.Str) ++ (["shared_top", "next_name", "told_wide", "read_wide", "is_count", "_law_dice", "_law_roll", "_law_rounds", "_law_told", "_law_name"] : List PySem.Str) ++ (["_law_plain_name", "_law_wide", "_law_plain"] : List PySem.Str)
abbrev R : PySem.W.OpenRow := PySem.W.OpenLaw.row PySem.Challenge.rw_namestack_k01_names_in_parts
abbrev hk : PySem.W.Hook := He.hookX 4 fa fn [] (tn.map (·.1)) (exB tn xs)
def ob (s : PySem.W.SharedT) : He.AlX := He.obsX 4 fa fn [] (tn.map (·.1)) (exB tn xs) (HandSHeadRun.getT s)
theorem ob_eq (s : PySem.W.SharedT) : ob s = hk.obs s.abs := He.obsX_eq (HandSHeadRun.getT_eq s)
theorem run (w : World) : HandSHeadRun.RunEq R (PySem.W.view R.prog [34]) hk ob 4000 loose w := by
  intro os
  kernel_rfl
end K01
open PySem PySem.W PySem.Calls PyProof.Rows
theorem PySem.Challenge.cw_namestack_k01_names_in_parts_holds : PySem.Challenge.rw_namestack_k01_names_in_parts.Holds := by
  w_on; o_law
  refine HandSHeadRun.head_any (r := OpenLaw.row PySem.Challenge.rw_namestack_k01_names_in_parts) (q := view (OpenLaw.row PySem.Challenge.rw_namestack_k01_names_in_parts).prog [34]) (H := K01.hk) (ob := K01.ob) (M := 4000) (loose := K01.loose) (d := HandSHeadRun.topDef (OpenLaw.row PySem.Challenge.rw_namestack_k01_names_in_parts).prog 34) (kwd := []) K01.ob_eq
    (by kernel_rfl) (fun s => by kernel_rfl) K01.run (by kernel_rfl) (by kernel_rfl) (by kernel_rfl) (by rfl) (by first | assumption | decide +kernel) (by decide +kernel) ⟨rfl, rfl, rfl, rfl, rfl, by decide +kernel⟩ ?hw ?hc
  case hw => w_witness2
  case hc =>
    refine LamX.walk_ofTsE (l := PySem.Challenge.rw_namestack_k01_names_in_parts) (n := 63) (k := 12) (x := "script") (CX := fun w => L2.CX (PySem.Challenge.rw_namestack_k01_names_in_parts).prog w) rfl (by decide) (by kernel_rfl) ⟨rfl, by decide, by decide⟩ ?F (fun w H s e s' c => Sh.cx_none c)
    intro w mg fa h Y G hmg0
    obtain ⟨K, KX, c⟩ := Y
    have hmg : mg ("law" : PySem.Str) = some (.ref fa) := by
      have e : (HandSHeadRun.topDef (OpenLaw.row PySem.Challenge.rw_namestack_k01_names_in_parts).prog 34).name = ("law" : PySem.Str) := by kernel_rfl
      rw [← e]
      exact hmg0
    exact ⟨K, KX, Sh.lawAt_of c KX G 45 rfl hmg 1 rfl (fun _ _ _ _ _ _ us hl => match us, hl with | [_], _ => rfl) fun G base fd Z hZ F => K01.ok_law Z hZ F⟩