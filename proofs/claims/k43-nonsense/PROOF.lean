import PyProof.Rows.All
import Wide.All
import OpenK.AllK
import Wide.FinOn
import HandS.ForMost
import HandS.ForExc
import HandS.Conv
import HandS.Zip
import HandS.TupAny
import HandS.TupMul
import HandS.IsInst
import HandS.Deep
import HandS.Flow
import HandS.Style
import HandS.SortInts
import HandS.NoneIn
import HandS.Small
import HandS.DictComp
import HandS.SortKw
import HandS.TupSets
import HandS.TryMany
import HandS.ExcInit
import HandS.ExcSuper
import HandS.FStr
import HandS.More
import HandS.HeadHook3
import PySem.Challenge.RW_trialcopies_k43_nonsense_is_not_taken
set_option Elab.async false
set_option linter.all false
set_option maxRecDepth 100000
set_option maxHeartbeats 4000000
set_option autoImplicit false
namespace Zz
open PySem PySem.Spec PyProof.Rows L2

abbrev St := L2.St
/-! ### values as data -/
inductive D where
  | non | bl (b : Bool) | int (i : Int) | str (x : Str) | tup (xs : List D) | lst (xs : List D) | frl (ns : List Int)
  | dic (ks : List Key) (xs : List D) | obj (C : Str) (ns : List Str) (xs : List D)
  deriving Inhabited
inductive W where
  | v (d : D) | ref (i : Nat)
  deriving Inhabited
inductive Ob where
  | lst (xs : List D) | lsr (xs : List W)
  | dct (ks : List Key) (ws : List W) | dtt (ks : List (List Key)) (ws : List W) | ins (C : Str) (ns : List Str) (ws : List W)
  deriving Inhabited
structure Exc where
  cls : Str
  args : List (Str × D)
abbrev Store := List (Option Ob)
abbrev Slots := List (Option W)
inductive R (α : Type) where
  | ok (a : α) (S : Store) | ex (x : Exc) (S : Store) | bad
def R.bind {α β : Type} : R α → (α → Store → R β) → R β
  | .ok a S, f => f a S
  | .ex x S, _ => .ex x S
  | .bad, _ => .bad
@[simp] theorem R.bind_ok {α β : Type} (a : α) (S : Store) (f : α → Store → R β) : (R.ok a S).bind f = f a S := rfl
@[simp] theorem R.bind_ex {α β : Type} (x : Exc) (S : Store) (f : α → Store → R β) : (R.ex x S : R α).bind f = .ex x S := rfl
@[simp] theorem R.bind_bad {α β : Type} (f : α → Store → R β) : (R.bad : R α).bind f = .bad := rfl
abbrev FnSem := List W → Store → R W

/-! ### how data lie in the abstract heap -/
mutual
def RepD (K : PySem.W.Frag) (Hf : Hp) : D → V → Prop
  | .non, v => v = .non
  | .bl b, v => v = .bl b
  | .int i, v => v = .int i
  | .str x, v => v = .str x
  | .tup xs, v => ∃ a vs, v = .ref a ∧ Hf a = some (.tup vs) ∧ RepDs K Hf xs vs
  | .lst xs, v => ∃ a vs, v = .ref a ∧ Hf a = some (.lst vs) ∧ RepDs K Hf xs vs
  | .frl ns, v => ∃ a, v = .ref a ∧ SqL K Hf a (ns.map V.int)
  | .dic ks xs, v => ∃ a, v = .ref a ∧ ∃ vs, Hf a = some (.dK (ks.zip vs)) ∧ ks.length = xs.length ∧ RepDs K Hf xs vs
  | .obj C ns xs, v => ∃ a, v = .ref a ∧ ∃ Ca dx vs, PySem.W.nsIn K mainGlobals C = some (some (.ref Ca)) ∧ Hf a = some (.ins Ca dx (ns.zip vs)) ∧ xs.length ≤ ns.length ∧ RepDs K Hf xs vs
def RepDs (K : PySem.W.Frag) (Hf : Hp) : List D → List V → Prop
  | [], vs => vs = []
  | x :: xs, vs => ∃ v r, vs = v :: r ∧ RepD K Hf x v ∧ RepDs K Hf xs r
end
def RepW (K : PySem.W.Frag) (Hf : Hp) (ρ : List Addr) : W → V → Prop
  | .v d, v => RepD K Hf d v
  | .ref i, v => ∃ a, ρ[i]? = some a ∧ v = .ref a
def RepWs (K : PySem.W.Frag) (Hf : Hp) (ρ : List Addr) : List W → List V → Prop
  | [], vs => vs = []
  | x :: xs, vs => ∃ v r, vs = v :: r ∧ RepW K Hf ρ x v ∧ RepWs K Hf ρ xs r
def ObR (K : PySem.W.Frag) (Hf : Hp) (ρ : List Addr) (H : Hp) (a : Addr) : Ob → Prop
  | .lst xs => ∃ vs, H a = some (.lst vs) ∧ RepDs K Hf xs vs
  | .lsr xs => ∃ vs, H a = some (.lst vs) ∧ RepWs K Hf ρ xs vs
  | .dct ks ws => ∃ vs, H a = some (.dK (ks.zip vs)) ∧ ks.length = ws.length ∧ RepWs K Hf ρ ws vs
  | .dtt ks ws => ∃ vs, H a = some (.dT (ks.zip vs)) ∧ ks.length = ws.length ∧ RepWs K Hf ρ ws vs
  | .ins C ns ws => ∃ Ca dx vs, PySem.W.nsIn K mainGlobals C = some (some (.ref Ca)) ∧ H a = some (.ins Ca dx (ns.zip vs)) ∧ ws.length ≤ ns.length ∧ RepWs K Hf ρ ws vs

section
variable {K : PySem.W.Frag} {Hf Hf' H H' : Hp} {ρ ρ' : List Addr}
theorem Same.seqT (e : Same H H') {a : Addr} {xs : List V} (h : SqT K H a xs) : SqT K H' a xs := by
  rcases h with (h | ⟨o, h⟩) | h
  · exact .inl (.inl (e _ _ h))
  · exact .inl (.inr ⟨o, e _ _ h⟩)
  · exact .inr h
mutual
theorem RepD.mono (e : Same Hf Hf') : ∀ (d : D) (v : V), RepD K Hf d v → RepD K Hf' d v
  | .non, _, h => by simpa only [RepD] using h
  | .bl _, _, h => by simpa only [RepD] using h
  | .int _, _, h => by simpa only [RepD] using h
  | .str _, _, h => by simpa only [RepD] using h
  | .tup xs, v, h => by
    simp only [RepD] at h ⊢
    obtain ⟨a, vs, h1, h2, h3⟩ := h
    exact ⟨a, vs, h1, e _ _ h2, RepDs.mono e xs vs h3⟩
  | .lst xs, v, h => by
    simp only [RepD] at h ⊢
    obtain ⟨a, vs, h1, h2, h3⟩ := h
    exact ⟨a, vs, h1, e _ _ h2, RepDs.mono e xs vs h3⟩
  | .frl ns, v, h => by
    simp only [RepD] at h ⊢
    obtain ⟨a, h1, h2⟩ := h
    exact ⟨a, h1, e.seq h2⟩
  | .dic ks xs, v, h => by
    simp only [RepD] at h ⊢
    obtain ⟨a, h1, vs, h2, h3, h4⟩ := h
    exact ⟨a, h1, vs, e _ _ h2, h3, RepDs.mono e xs vs h4⟩
  | .obj C ns xs, v, h => by
    simp only [RepD] at h ⊢
    obtain ⟨a, h1, Ca, dx, vs, h2, h3, h4, h5⟩ := h
    exact ⟨a, h1, Ca, dx, vs, h2, e _ _ h3, h4, RepDs.mono e xs vs h5⟩
theorem RepDs.mono (e : Same Hf Hf') : ∀ (ds : List D) (vs : List V), RepDs K Hf ds vs → RepDs K Hf' ds vs
  | [], _, h => by simpa only [RepDs] using h
  | x :: xs, vs, h => by
    simp only [RepDs] at h ⊢
    obtain ⟨v, r, h1, h2, h3⟩ := h
    exact ⟨v, r, h1, RepD.mono e x v h2, RepDs.mono e xs r h3⟩
end
theorem RepDs.length : ∀ {ds : List D} {vs : List V}, RepDs K Hf ds vs → ds.length = vs.length
  | [], _, h => by simp only [RepDs] at h; subst h; rfl
  | x :: xs, vs, h => by
    simp only [RepDs] at h
    obtain ⟨v, r, rfl, _, h3⟩ := h
    simp [RepDs.length h3]
theorem RepDs.get : ∀ {ds : List D} {vs : List V} {i : Nat} {d : D}, RepDs K Hf ds vs → ds[i]? = some d → ∃ v, vs[i]? = some v ∧ RepD K Hf d v
  | [], _, _, _, _, e => by simp at e
  | x :: xs, vs, 0, d, h, e => by
    simp only [RepDs] at h
    obtain ⟨v, r, rfl, h2, h3⟩ := h
    simp at e; subst e
    exact ⟨v, rfl, h2⟩
  | x :: xs, vs, i + 1, d, h, e => by
    simp only [RepDs] at h
    obtain ⟨v, r, rfl, h2, h3⟩ := h
    obtain ⟨w, h4, h5⟩ := RepDs.get (i := i) h3 (by simpa using e)
    exact ⟨w, by simpa using h4, h5⟩
theorem RepDs.getV : ∀ {ds : List D} {vs : List V} {i : Nat} {v : V}, RepDs K Hf ds vs → vs[i]? = some v → ∃ d, ds[i]? = some d ∧ RepD K Hf d v
  | [], _, _, _, h, e => by simp only [RepDs] at h; subst h; simp at e
  | x :: xs, vs, 0, d, h, e => by
    simp only [RepDs] at h
    obtain ⟨v, r, rfl, h2, h3⟩ := h
    simp at e; subst e
    exact ⟨x, rfl, h2⟩
  | x :: xs, vs, i + 1, d, h, e => by
    simp only [RepDs] at h
    obtain ⟨v, r, rfl, h2, h3⟩ := h
    obtain ⟨w, h4, h5⟩ := RepDs.getV (i := i) h3 (by simpa using e)
    exact ⟨w, by simpa using h4, h5⟩
theorem RepDs.append : ∀ {ds es : List D} {vs us : List V}, RepDs K Hf ds vs → RepDs K Hf es us → RepDs K Hf (ds ++ es) (vs ++ us)
  | [], _, _, _, h, k => by simp only [RepDs] at h; subst h; exact k
  | x :: xs, es, vs, us, h, k => by
    simp only [RepDs] at h
    obtain ⟨v, r, rfl, h2, h3⟩ := h
    simp only [List.cons_append, RepDs]
    exact ⟨v, r ++ us, rfl, h2, RepDs.append h3 k⟩
theorem RepDs.take : ∀ {ds : List D} {vs : List V} (n : Nat), RepDs K Hf ds vs → RepDs K Hf (ds.take n) (vs.take n)
  | _, _, 0, _ => by simp [RepDs]
  | [], _, n + 1, h => by simp only [RepDs] at h; subst h; simp [RepDs]
  | x :: xs, vs, n + 1, h => by
    simp only [RepDs] at h
    obtain ⟨v, r, rfl, h2, h3⟩ := h
    simp only [List.take_succ_cons, RepDs]
    exact ⟨v, r.take n, rfl, h2, RepDs.take n h3⟩
theorem RepDs.drop : ∀ {ds : List D} {vs : List V} (n : Nat), RepDs K Hf ds vs → RepDs K Hf (ds.drop n) (vs.drop n)
  | _, _, 0, h => h
  | [], _, n + 1, h => by simp only [RepDs] at h; subst h; simp [RepDs]
  | x :: xs, vs, n + 1, h => by
    simp only [RepDs] at h
    obtain ⟨v, r, rfl, h2, h3⟩ := h
    simpa using RepDs.drop n h3
theorem RepDs.reverse : ∀ {ds : List D} {vs : List V}, RepDs K Hf ds vs → RepDs K Hf ds.reverse vs.reverse
  | [], _, h => by simp only [RepDs] at h; subst h; simp [RepDs]
  | x :: xs, vs, h => by
    simp only [RepDs] at h
    obtain ⟨v, r, rfl, h2, h3⟩ := h
    rw [List.reverse_cons, List.reverse_cons]
    exact RepDs.append (RepDs.reverse h3) (by simp only [RepDs]; exact ⟨v, [], rfl, h2, rfl⟩)
theorem RepDs.set {d : D} {v : V} (hd : RepD K Hf d v) : ∀ {ds : List D} {vs : List V} (n : Nat), RepDs K Hf ds vs → RepDs K Hf (ds.set n d) (vs.set n v)
  | [], _, n, h => by simp only [RepDs] at h; subst h; simp [RepDs]
  | x :: xs, vs, 0, h => by
    simp only [RepDs] at h
    obtain ⟨v', r, rfl, h2, h3⟩ := h
    simp only [List.set_cons_zero, RepDs]
    exact ⟨v, r, rfl, hd, h3⟩
  | x :: xs, vs, n + 1, h => by
    simp only [RepDs] at h
    obtain ⟨v', r, rfl, h2, h3⟩ := h
    simp only [List.set_cons_succ, RepDs]
    exact ⟨v', _, rfl, h2, RepDs.set hd n h3⟩
theorem RepDs.ints : ∀ (ns : List Int), RepDs K Hf (ns.map D.int) (ns.map V.int)
  | [] => by simp [RepDs]
  | n :: r => by simp only [List.map_cons, RepDs]; exact ⟨_, _, rfl, by simp only [RepD], RepDs.ints r⟩
theorem RepDs.of_ints : ∀ {ns : List Int} {vs : List V}, RepDs K Hf (ns.map D.int) vs → vs = ns.map V.int
  | [], _, h => by simpa only [List.map_nil, RepDs] using h
  | n :: r, vs, h => by
    simp only [List.map_cons, RepDs] at h
    obtain ⟨v, q, rfl, h2, h3⟩ := h
    simp only [RepD] at h2
    rw [List.map_cons, h2, RepDs.of_ints h3]
theorem RepW.mono (e : Same Hf Hf') (p : ρ <+: ρ') : ∀ {w : W} {v : V}, RepW K Hf ρ w v → RepW K Hf' ρ' w v
  | .v d, v, h => RepD.mono e d v h
  | .ref i, v, h => by
    obtain ⟨a, h1, h2⟩ := h
    obtain ⟨t, rfl⟩ := p
    exact ⟨a, by rw [List.getElem?_append_left (List.getElem?_eq_some_iff.mp h1).1]; exact h1, h2⟩
theorem RepWs.mono (e : Same Hf Hf') (p : ρ <+: ρ') : ∀ {ws : List W} {vs : List V}, RepWs K Hf ρ ws vs → RepWs K Hf' ρ' ws vs
  | [], _, h => h
  | x :: xs, vs, h => by
    obtain ⟨v, r, h1, h2, h3⟩ := h
    exact ⟨v, r, h1, h2.mono e p, RepWs.mono e p h3⟩
theorem RepWs.length : ∀ {ds : List W} {vs : List V}, RepWs K Hf ρ ds vs → ds.length = vs.length
  | [], _, h => by cases h; rfl
  | x :: xs, vs, h => by
    obtain ⟨v, r, rfl, _, h3⟩ := h
    simp [RepWs.length h3]
theorem RepWs.get : ∀ {ds : List W} {vs : List V} {i : Nat} {d : W}, RepWs K Hf ρ ds vs → ds[i]? = some d → ∃ v, vs[i]? = some v ∧ RepW K Hf ρ d v
  | [], _, _, _, _, e => by simp at e
  | x :: xs, vs, 0, d, h, e => by
    obtain ⟨v, r, rfl, h2, h3⟩ := h
    simp at e; subst e
    exact ⟨v, rfl, h2⟩
  | x :: xs, vs, i + 1, d, h, e => by
    obtain ⟨v, r, rfl, h2, h3⟩ := h
    obtain ⟨w, h4, h5⟩ := RepWs.get (i := i) h3 (by simpa using e)
    exact ⟨w, by simpa using h4, h5⟩
theorem ObR.mono (e : Same Hf Hf') (p : ρ <+: ρ') {a : Addr} (k : H' a = H a) : ∀ {o : Ob}, ObR K Hf ρ H a o → ObR K Hf' ρ' H' a o
  | .lst xs, h => by
    obtain ⟨vs, h1, h2⟩ := h
    exact ⟨vs, by rw [k]; exact h1, RepDs.mono e _ _ h2⟩
  | .lsr xs, h => by
    obtain ⟨vs, h1, h2⟩ := h
    exact ⟨vs, by rw [k]; exact h1, h2.mono e p⟩
  | .dct ks xs, h => by
    obtain ⟨vs, h1, h2, h3⟩ := h
    exact ⟨vs, by rw [k]; exact h1, h2, h3.mono e p⟩
  | .dtt ks xs, h => by
    obtain ⟨vs, h1, h2, h3⟩ := h
    exact ⟨vs, by rw [k]; exact h1, h2, h3.mono e p⟩
  | .ins C ns xs, h => by
    obtain ⟨Ca, dx, vs, h0, h1, h2, h3⟩ := h
    exact ⟨Ca, dx, vs, h0, by rw [k]; exact h1, h2, h3.mono e p⟩
theorem ObR.some : ∀ {o : Ob} {a : Addr}, ObR K Hf ρ H a o → ∃ u, H a = some u
  | .lst _, _, ⟨vs, h, _⟩ => ⟨_, h⟩
  | .lsr _, _, ⟨vs, h, _⟩ => ⟨_, h⟩
  | .dct _ _, _, ⟨vs, h, _⟩ => ⟨_, h⟩
  | .dtt _ _, _, ⟨vs, h, _⟩ => ⟨_, h⟩
  | .ins _ _ _, _, ⟨_, _, vs, _, h, _⟩ => ⟨_, h⟩
end

/-! ### the state: slots, store, abstract heap -/
/-- what stood at the entry of the activation -/
structure Bs where
  H : Hp
  Hf : Hp
  ρ : List Addr
structure Rel (K : PySem.W.Frag) (B : Bs) (Hf : Hp) (ρ : List Addr) (σ : Slots) (S : Store) (τ : St) (H : Hp) : Prop where
  sub : Same Hf H
  len : σ.length = τ.length
  slot : ∀ (i : Nat) (w : W), σ[i]? = some (some w) → ∃ v, τ[i]? = some (some v) ∧ RepW K Hf ρ w v
  rl : ρ.length = S.length
  nd : ρ.Nodup
  tr : ∀ a ∈ ρ, ∃ o, H a = some o
  ob : ∀ (i : Nat) (o : Ob), S[i]? = some (some o) → ∃ a, ρ[i]? = some a ∧ Hf a = none ∧ ObR K Hf ρ H a o
  keep : ∀ a o, B.H a = some o → a ∉ B.ρ → H a = some o
  newr : ∀ a ∈ ρ, a ∈ B.ρ ∨ B.H a = none
  newf : ∀ a o, Hf a = some o → (∃ o', B.Hf a = some o') ∨ B.H a = none ∨ a ∈ B.ρ
  subB : Same B.Hf Hf
  preB : B.ρ <+: ρ
structure Ext (Hf : Hp) (ρ : List Addr) (Hf' : Hp) (ρ' : List Addr) : Prop where
  f : Same Hf Hf'
  r : ρ <+: ρ'
theorem Ext.refl (Hf : Hp) (ρ : List Addr) : Ext Hf ρ Hf ρ := ⟨Same.refl _, List.prefix_refl _⟩
theorem Ext.trans {Hf Hf1 Hf2 : Hp} {ρ ρ1 ρ2 : List Addr} (a : Ext Hf ρ Hf1 ρ1) (b : Ext Hf1 ρ1 Hf2 ρ2) : Ext Hf ρ Hf2 ρ2 := ⟨a.f.trans b.f, a.r.trans b.r⟩

section
variable {K : PySem.W.Frag} {B : Bs} {Hf H : Hp} {ρ : List Addr} {σ : Slots} {S : Store} {τ : St}
theorem Rel.blank (h : Rel K B Hf ρ σ S τ H) : Rel K B Hf ρ [] S [] H :=
  ⟨h.sub, rfl, fun i w e => by simp at e, h.rl, h.nd, h.tr, h.ob, h.keep, h.newr, h.newf, h.subB, h.preB⟩
theorem Rel.slots {σ' : Slots} {τ' : St} (h : Rel K B Hf ρ σ S τ H) (hl : σ'.length = τ'.length) (hs : ∀ (i : Nat) (w : W), σ'[i]? = some (some w) → ∃ v, τ'[i]? = some (some v) ∧ RepW K Hf ρ w v) : Rel K B Hf ρ σ' S τ' H :=
  ⟨h.sub, hl, hs, h.rl, h.nd, h.tr, h.ob, h.keep, h.newr, h.newf, h.subB, h.preB⟩
theorem Rel.set (h : Rel K B Hf ρ σ S τ H) {w : W} {v : V} (i : Nat) (r : RepW K Hf ρ w v) : Rel K B Hf ρ (σ.set i (some w)) S (τ.set i (some v)) H := by
  refine h.slots (by simp [h.len]) fun j u e => ?_
  by_cases hj : i = j
  · subst hj
    by_cases hl : i < σ.length
    · rw [List.getElem?_set_self hl] at e
      cases e
      exact ⟨v, by rw [List.getElem?_set_self (by rw [← h.len]; exact hl)], r⟩
    · rw [List.getElem?_eq_none (by simp; omega)] at e; cases e
  · rw [List.getElem?_set_ne hj] at e ⊢
    exact h.slot j u e
theorem Rel.setN (h : Rel K B Hf ρ σ S τ H) (i : Nat) (o : Option V) : Rel K B Hf ρ (σ.set i none) S (τ.set i o) H := by
  refine h.slots (by simp [h.len]) fun j u e => ?_
  by_cases hj : i = j
  · subst hj
    by_cases hl : i < σ.length
    · rw [List.getElem?_set_self hl] at e; cases e
    · rw [List.getElem?_eq_none (by simp; omega)] at e; cases e
  · rw [List.getElem?_set_ne hj] at e ⊢
    exact h.slot j u e
/-- something new lies frozen -/
theorem Rel.newF (h : Rel K B Hf ρ σ S τ H) {p : Addr} (hp : H p = none) (o : HO) : Rel K B (upd Hf p o) ρ σ S τ (upd H p o) ∧ Ext Hf ρ (upd Hf p o) ρ := by
  have hfp : Hf p = none := by
    cases e : Hf p with
    | none => rfl
    | some u => rw [h.sub _ _ e] at hp; cases hp
  have hnρ : p ∉ ρ := fun hm => by
    obtain ⟨u, e⟩ := h.tr p hm
    rw [hp] at e; cases e
  have ext : Same Hf (upd Hf p o) := fun a u e => by rw [upd_ne (ne_of_none e hfp)]; exact e
  have X : Ext Hf ρ (upd Hf p o) ρ := ⟨ext, List.prefix_refl _⟩
  refine ⟨⟨fun a u e => ?_, h.len, fun i w e => ?_, h.rl, h.nd, fun a ha => ?_, fun i u e => ?_, fun a u e hn => ?_, h.newr, fun a u e => ?_, fun a u e => ext _ _ (h.subB _ _ e), h.preB⟩, X⟩
  · by_cases ha : a = p
    · subst ha; rw [upd_same] at e ⊢; exact e
    · rw [upd_ne ha] at e ⊢; exact h.sub _ _ e
  · obtain ⟨v, h1, h2⟩ := h.slot i w e
    exact ⟨v, h1, h2.mono ext (List.prefix_refl _)⟩
  · rw [upd_ne (fun (e : a = p) => hnρ (e ▸ ha))]; exact h.tr a ha
  · obtain ⟨a, h1, h2, h3⟩ := h.ob i u e
    have hap : a ≠ p := fun e => hnρ (e ▸ List.mem_of_getElem? h1)
    exact ⟨a, h1, by rw [upd_ne hap]; exact h2, h3.mono ext (List.prefix_refl _) (upd_ne hap)⟩
  · rw [upd_ne (ne_of_none (h.keep a u e hn) hp)]; exact h.keep a u e hn
  · by_cases ha : a = p
    · subst ha
      refine Decidable.byCases (p := a ∈ B.ρ) (fun m => .inr (.inr m)) fun m => .inr (.inl ?_)
      cases q : B.H a with
      | none => rfl
      | some z => rw [h.keep a z q m] at hp; cases hp
    · rw [upd_ne ha] at e; exact h.newf a u e
/-- a new list of the store -/
theorem Rel.newO (h : Rel K B Hf ρ σ S τ H) {p : Addr} (hp : H p = none) {u : HO} {o : Ob} (ho : ObR K Hf (ρ ++ [p]) (upd H p u) p o) :
    Rel K B Hf (ρ ++ [p]) σ (S ++ [some o]) τ (upd H p u) ∧ Ext Hf ρ Hf (ρ ++ [p]) := by
  have hfp : Hf p = none := by
    cases e : Hf p with
    | none => rfl
    | some u => rw [h.sub _ _ e] at hp; cases hp
  have hnρ : p ∉ ρ := fun hm => by
    obtain ⟨u, e⟩ := h.tr p hm
    rw [hp] at e; cases e
  have pre : ρ <+: ρ ++ [p] := ⟨[p], rfl⟩
  refine ⟨⟨fun a u e => ?_, h.len, fun i w e => ?_, by simp [h.rl], ?_, fun a ha => ?_, fun i u e => ?_, fun a u e hn => ?_, fun a ha => ?_, h.newf, h.subB, h.preB.trans pre⟩, ⟨Same.refl _, pre⟩⟩
  · rw [upd_ne (ne_of_none e hfp)]; exact h.sub _ _ e
  · obtain ⟨v, h1, h2⟩ := h.slot i w e
    exact ⟨v, h1, h2.mono (Same.refl _) pre⟩
  · rw [List.nodup_append]
    exact ⟨h.nd, by simp, fun a ha b hb e => hnρ (by simp at hb; subst hb; exact e ▸ ha)⟩
  · by_cases hap : a = p
    · exact ⟨_, by rw [hap, upd_same]⟩
    · rw [upd_ne hap]
      rcases List.mem_append.mp ha with m | m
      · exact h.tr a m
      · exact absurd (by simpa using m) hap
  · by_cases hi : i < S.length
    · rw [List.getElem?_append_left hi] at e
      obtain ⟨a, h1, h2, h3⟩ := h.ob i u e
      have hap : a ≠ p := fun e => hnρ (e ▸ List.mem_of_getElem? h1)
      exact ⟨a, by rw [List.getElem?_append_left (by rw [h.rl]; exact hi)]; exact h1, h2, h3.mono (Same.refl _) pre (upd_ne hap)⟩
    · rw [List.getElem?_append_right (by omega)] at e
      have hi0 : i - S.length = 0 := by
        cases q : i - S.length with
        | zero => rfl
        | succ n => rw [q] at e; simp at e
      have hi1 : i = S.length := by omega
      rw [hi0] at e
      simp at e
      subst e
      exact ⟨p, by rw [List.getElem?_append_right (by rw [h.rl]; omega)]; simp [h.rl, hi1], hfp, ho⟩
  · rw [upd_ne (ne_of_none (h.keep a u e hn) hp)]; exact h.keep a u e hn
  · rcases List.mem_append.mp ha with m | m
    · exact h.newr a m
    · have e : a = p := by simpa using m
      subst e
      refine Decidable.byCases (p := a ∈ B.ρ) (fun m => .inl m) fun m => .inr ?_
      cases q : B.H a with
      | none => rfl
      | some z => rw [h.keep a z q m] at hp; cases hp
theorem Rel.newS (h : Rel K B Hf ρ σ S τ H) {p : Addr} (hp : H p = none) {vs : List V} {o : Ob} (ho : ObR K Hf (ρ ++ [p]) (upd H p (.lst vs)) p o) :
    Rel K B Hf (ρ ++ [p]) σ (S ++ [some o]) τ (upd H p (.lst vs)) ∧ Ext Hf ρ Hf (ρ ++ [p]) := h.newO hp ho
/-- an object of the store is written -/
theorem Rel.writeO (h : Rel K B Hf ρ σ S τ H) {i : Nat} {o o' : Ob} {a : Addr} {u : HO} (hi : S[i]? = some (some o)) (ha : ρ[i]? = some a) (ho : ObR K Hf ρ (upd H a u) a o') :
    Rel K B Hf ρ σ (S.set i (some o')) τ (upd H a u) := by
  have hlt : i < S.length := (List.getElem?_eq_some_iff.mp hi).1
  obtain ⟨a', h1, h2, h3⟩ := h.ob i o hi
  rw [ha] at h1; cases h1
  obtain ⟨us, hHa⟩ := h3.some
  have naB : ∀ b u, B.H b = some u → b ∉ B.ρ → b ≠ a := fun b u e hn q => by
    subst q
    rcases h.newr b (List.mem_of_getElem? ha) with m | m
    · exact hn m
    · rw [e] at m; cases m
  refine ⟨fun b u e => ?_, h.len, h.slot, by simp [h.rl], h.nd, fun b hb => ?_, fun j u e => ?_, fun b u e hn => ?_, h.newr, h.newf, h.subB, h.preB⟩
  · rw [upd_ne (ne_of_none e h2)]; exact h.sub _ _ e
  · by_cases q : b = a
    · exact ⟨_, by rw [q, upd_same]⟩
    · rw [upd_ne q]; exact h.tr b hb
  · by_cases hj : i = j
    · subst hj
      rw [List.getElem?_set_self hlt] at e
      cases e
      exact ⟨a, ha, h2, ho⟩
    · rw [List.getElem?_set_ne hj] at e
      obtain ⟨b, q1, q2, q3⟩ := h.ob j u e
      have hba : b ≠ a := fun q => by
        subst q
        have z1 := (List.getElem?_eq_some_iff.mp ha)
        have z2 := (List.getElem?_eq_some_iff.mp q1)
        exact hj ((List.getElem_inj h.nd).mp (z1.2.trans z2.2.symm))
      exact ⟨b, q1, q2, q3.mono (Same.refl _) (List.prefix_refl _) (upd_ne hba)⟩
  · rw [upd_ne (naB b u e hn)]; exact h.keep b u e hn
theorem Rel.write (h : Rel K B Hf ρ σ S τ H) {i : Nat} {o o' : Ob} {a : Addr} {vs : List V} (hi : S[i]? = some (some o)) (ha : ρ[i]? = some a) (ho : ObR K Hf ρ (upd H a (.lst vs)) a o') :
    Rel K B Hf ρ σ (S.set i (some o')) τ (upd H a (.lst vs)) := h.writeO hi ha ho
/-- an object of the store is frozen for good -/
theorem Rel.freezeO (h : Rel K B Hf ρ σ S τ H) {i : Nat} {o : Ob} {a : Addr} {u : HO} (hi : S[i]? = some (some o)) (ha : ρ[i]? = some a) (h2 : Hf a = none) (hH : H a = some u) :
    Rel K B (upd Hf a u) ρ σ (S.set i none) τ H ∧ Ext Hf ρ (upd Hf a u) ρ := by
  have hlt : i < S.length := (List.getElem?_eq_some_iff.mp hi).1
  have ext : Same Hf (upd Hf a u) := fun b u e => by rw [upd_ne (ne_of_none e h2)]; exact e
  refine ⟨⟨fun b u e => ?_, h.len, fun j w e => ?_, by simp [h.rl], h.nd, h.tr, fun j u e => ?_, h.keep, h.newr, fun b u e => ?_, fun b u e => ext _ _ (h.subB _ _ e), h.preB⟩, ⟨ext, List.prefix_refl _⟩⟩
  · by_cases q : b = a
    · subst q; rw [upd_same] at e; rw [hH]; exact e
    · rw [upd_ne q] at e; exact h.sub _ _ e
  · obtain ⟨v, h1, h2⟩ := h.slot j w e
    exact ⟨v, h1, h2.mono ext (List.prefix_refl _)⟩
  · by_cases hj : i = j
    · subst hj
      rw [List.getElem?_set_self hlt] at e
      cases e
    · rw [List.getElem?_set_ne hj] at e
      obtain ⟨b, q1, q2, q3⟩ := h.ob j u e
      have hba : b ≠ a := fun q => by
        subst q
        have z1 := (List.getElem?_eq_some_iff.mp ha)
        have z2 := (List.getElem?_eq_some_iff.mp q1)
        exact hj ((List.getElem_inj h.nd).mp (z1.2.trans z2.2.symm))
      exact ⟨b, q1, by rw [upd_ne hba]; exact q2, q3.mono ext (List.prefix_refl _) rfl⟩
  · by_cases q : b = a
    · subst q
      rcases h.newr b (List.mem_of_getElem? ha) with m | m
      · exact .inr (.inr m)
      · exact .inr (.inl m)
    · rw [upd_ne q] at e; exact h.newf b u e
theorem Rel.freeze (h : Rel K B Hf ρ σ S τ H) {i : Nat} {xs : List D} (hi : S[i]? = some (some (.lst xs))) :
    ∃ a vs, ρ[i]? = some a ∧ H a = some (.lst vs) ∧ Rel K B (upd Hf a (.lst vs)) ρ σ (S.set i none) τ H ∧ Ext Hf ρ (upd Hf a (.lst vs)) ρ ∧ RepD K (upd Hf a (.lst vs)) (.lst xs) (.ref a) := by
  obtain ⟨a, ha, h2, vs, hH, hr⟩ := h.ob i _ hi
  obtain ⟨k1, k2⟩ := h.freezeO hi ha h2 hH
  refine ⟨a, vs, ha, hH, k1, k2, ?_⟩
  simp only [RepD]
  exact ⟨a, vs, rfl, upd_same, RepDs.mono k2.f _ _ hr⟩
/-- references that are data -/
def toDs : List W → Option (List D)
  | [] => some []
  | .v d :: ws => (toDs ws).map (d :: ·)
  | .ref _ :: _ => none
theorem toDs_rep : ∀ {ws : List W} {ds : List D} {vs : List V}, toDs ws = some ds → RepWs K Hf ρ ws vs → RepDs K Hf ds vs
  | [], ds, vs, e, h => by cases e; exact h
  | .v d :: ws, ds, vs, e, h => by
    obtain ⟨v, r, rfl, h2, h3⟩ := h
    unfold toDs at e
    cases q : toDs ws with
    | none => rw [q] at e; cases e
    | some es =>
      rw [q] at e; cases e
      simp only [RepDs]
      exact ⟨v, r, rfl, h2, toDs_rep q h3⟩
  | .ref _ :: _, _, _, e, _ => by cases e
theorem Rel.freezeI (h : Rel K B Hf ρ σ S τ H) {i : Nat} {C : Str} {ns : List Str} {ws : List W} {ds : List D} (hi : S[i]? = some (some (.ins C ns ws))) (hd : toDs ws = some ds) :
    ∃ a u, ρ[i]? = some a ∧ H a = some u ∧ Rel K B (upd Hf a u) ρ σ (S.set i none) τ H ∧ Ext Hf ρ (upd Hf a u) ρ ∧ RepD K (upd Hf a u) (.obj C ns ds) (.ref a) := by
  obtain ⟨a, ha, h2, Ca, dx, vs, hc, hH, hn, hr⟩ := h.ob i _ hi
  obtain ⟨k1, k2⟩ := h.freezeO hi ha h2 hH
  refine ⟨a, _, ha, hH, k1, k2, ?_⟩
  simp only [RepD]
  have r := toDs_rep hd hr
  exact ⟨a, rfl, Ca, dx, vs, hc, upd_same, by rw [r.length, ← hr.length]; exact hn, RepDs.mono k2.f _ _ r⟩
theorem Rel.freezeD (h : Rel K B Hf ρ σ S τ H) {i : Nat} {ks : List Key} {ws : List W} {ds : List D} (hi : S[i]? = some (some (.dct ks ws))) (hd : toDs ws = some ds) :
    ∃ a u, ρ[i]? = some a ∧ H a = some u ∧ Rel K B (upd Hf a u) ρ σ (S.set i none) τ H ∧ Ext Hf ρ (upd Hf a u) ρ ∧ RepD K (upd Hf a u) (.dic ks ds) (.ref a) := by
  obtain ⟨a, ha, h2, vs, hH, hn, hr⟩ := h.ob i _ hi
  obtain ⟨k1, k2⟩ := h.freezeO hi ha h2 hH
  refine ⟨a, _, ha, hH, k1, k2, ?_⟩
  simp only [RepD]
  have r := toDs_rep hd hr
  exact ⟨a, rfl, vs, upd_same, by rw [r.length, ← hr.length]; exact hn, RepDs.mono k2.f _ _ r⟩
end

/-! ### what follows a step -/
/-- the ground of an activation: what is written, its entry, what is wanted of exceptions -/
structure Gd where
  K : PySem.W.Frag
  mg : Str → Option Value
  B : Bs
  E : XK
/-- an exception as data -/
def ExR (K : PySem.W.Frag) (mg : Str → Option Value) (Hf : Hp) (H : Hp) (x : Exc) (cls : Value) (d : Option Addr) : Prop :=
  ∃ C, mg x.cls = some (.ref C) ∧ cls = .ref C ∧
    ((x.args = [] ∧ d = none) ∨ ∃ dd vs, d = some dd ∧ H dd = some (.xd vs) ∧ vs.map (·.1) = x.args.map (·.1) ∧ RepDs K Hf (x.args.map (·.2)) (vs.map (·.2)))
def Post {α β : Type} (P : Hp → List Addr → α → β → Prop) (g : Gd) (Hf : Hp) (ρ : List Addr) (σ : Slots) (τ : St) (Q : β → Hp → Prop) : R α → Prop
  | .ok a S => ∀ Hf' ρ' H' b, Ext Hf ρ Hf' ρ' → Rel g.K g.B Hf' ρ' σ S τ H' → P Hf' ρ' a b → Q b H'
  | .ex x S => ∀ Hf' ρ' H' cls d, Ext Hf ρ Hf' ρ' → Rel g.K g.B Hf' ρ' [] S [] H' → ExR g.K g.mg Hf' H' x cls d → g.E cls d H'
  | .bad => False
section
variable {α β γ δ : Type} {P : Hp → List Addr → α → β → Prop} {P' : Hp → List Addr → γ → δ → Prop} {g : Gd} {Hf Hf1 : Hp} {ρ ρ1 : List Addr} {σ : Slots} {τ : St} {Q Q' : β → Hp → Prop}
theorem Post.ext (e : Ext Hf ρ Hf1 ρ1) : ∀ {r : R α}, Post P g Hf ρ σ τ Q r → Post P g Hf1 ρ1 σ τ Q r
  | .ok a S, h => fun Hf' ρ' H' b e' => h Hf' ρ' H' b (e.trans e')
  | .ex x S, h => fun Hf' ρ' H' c d e' => h Hf' ρ' H' c d (e.trans e')
  | .bad, h => h
theorem Post.imp (k : ∀ b H, Q b H → Q' b H) : ∀ {r : R α}, Post P g Hf ρ σ τ Q r → Post P g Hf ρ σ τ Q' r
  | .ok a S, h => fun Hf' ρ' H' b e' r p => k _ _ (h Hf' ρ' H' b e' r p)
  | .ex x S, h => h
  | .bad, h => h
theorem Post.bind {QQ : δ → Hp → Prop} {f : α → Store → R γ} : ∀ {r : R α}, Post P' g Hf ρ σ τ QQ (r.bind f) →
    Post P g Hf ρ σ τ (fun b H' => ∃ Hf' ρ' S' a, Ext Hf ρ Hf' ρ' ∧ Rel g.K g.B Hf' ρ' σ S' τ H' ∧ P Hf' ρ' a b ∧ Post P' g Hf' ρ' σ τ QQ (f a S')) r
  | .ok a S, h => fun Hf' ρ' H' b e' r p => ⟨Hf', ρ', S, a, e', r, p, Post.ext e' h⟩
  | .ex x S, h => h
  | .bad, h => h
end
abbrev PW' (g : Gd) : Hp → List Addr → W → V → Prop := RepW g.K
abbrev PWs' (g : Gd) : Hp → List Addr → List W → List V → Prop := RepWs g.K
abbrev PB' : Hp → List Addr → Bool → Bool → Prop := fun _ _ a b => a = b
/-- the reading of an expression by its semantics -/
def rdE (g : Gd) (t : Slots → Store → R W) : TE := fun τ H Q => ∃ Hf ρ σ S, Rel g.K g.B Hf ρ σ S τ H ∧ Post (RepW g.K) g Hf ρ σ τ Q (t σ S)
def rdT (g : Gd) (t : Slots → Store → R Bool) : TT := fun τ H Q => ∃ Hf ρ σ S, Rel g.K g.B Hf ρ σ S τ H ∧ Post PB' g Hf ρ σ τ Q (t σ S)
def rdA (g : Gd) (t : Slots → Store → R (List W)) : TA := fun τ H Q => ∃ Hf ρ σ S, Rel g.K g.B Hf ρ σ S τ H ∧ Post (RepWs g.K) g Hf ρ σ τ Q (t σ S)
theorem PE.weak {X : Cx} {e : PySem.Expr} {t t' : TE} (h : PE X e t) (k : ∀ σ H Q, t' σ H Q → t σ H Q) : PE X e t' := ⟨fun pins s σ H Q I q => h.run pins s σ H Q I (k _ _ _ q)⟩
theorem PT.weak {X : Cx} {e : PySem.Expr} {t t' : TT} (h : PT X e t) (k : ∀ σ H Q, t' σ H Q → t σ H Q) : PT X e t' := ⟨fun pins s σ H Q I q => h.run pins s σ H Q I (k _ _ _ q)⟩
theorem PA.weak {X : Cx} {e : List PySem.Expr} {t t' : TA} (h : PA X e t) (k : ∀ σ H Q, t' σ H Q → t σ H Q) : PA X e t' := ⟨fun pos pins s σ H Q I q => h.run pos pins s σ H Q I (k _ _ _ q)⟩
theorem PW.weak {X : Cx} {e : PySem.Expr} {t t' : TT} (h : PW X e t) (k : ∀ σ H Q, t' σ H Q → t σ H Q) : PW X e t' := ⟨fun wh pins s σ H Q I q => h.run wh pins s σ H Q I (k _ _ _ q)⟩
/-- a step that makes a new frozen object -/
theorem Post.newF {g : Gd} {Hf H : Hp} {ρ : List Addr} {σ : Slots} {S : Store} {τ : St} {Q : V → Hp → Prop} {d : D} {o : HO} {p : Addr} (h : Rel g.K g.B Hf ρ σ S τ H) (q : Post (RepW g.K) g Hf ρ σ τ Q (.ok (.v d) S)) (hp : H p = none)
    (r : ∀ Hf', Same Hf Hf' → Hf' p = some o → RepD g.K Hf' d (.ref p)) : Q (.ref p) (upd H p o) := by
  obtain ⟨h1, e1⟩ := h.newF hp o
  exact q _ _ _ _ e1 h1 (r _ e1.f upd_same)
/-- a new list, frozen or of the store -/
def newL (r : Bool) (ds : List D) (S : Store) : R W := if r then .ok (.ref S.length) (S ++ [some (.lst ds)]) else .ok (.v (.lst ds)) S
theorem Post.newL {g : Gd} {Hf H : Hp} {ρ : List Addr} {σ : Slots} {S : Store} {τ : St} {Q : V → Hp → Prop} {r : Bool} {ds : List D} {vs : List V} {p : Addr} (h : Rel g.K g.B Hf ρ σ S τ H) (q : Post (RepW g.K) g Hf ρ σ τ Q (newL r ds S)) (hp : H p = none)
    (hr : RepDs g.K Hf ds vs) : Q (.ref p) (upd H p (.lst vs)) := by
  cases r with
  | false => exact Post.newF (d := .lst ds) h q hp fun Hf' e e2 => by simp only [RepD]; exact ⟨p, vs, rfl, e2, RepDs.mono e _ _ hr⟩
  | true =>
    obtain ⟨h1, e1⟩ := h.newS (o := .lst ds) (vs := vs) hp ⟨vs, upd_same, hr⟩
    exact q _ _ _ _ e1 h1 ⟨p, by rw [List.getElem?_append_right (by rw [h.rl]; exact Nat.le_refl _)]; simp [h.rl], rfl⟩
end Zz

set_option Elab.async false
set_option linter.all false
set_option maxRecDepth 100000
set_option maxHeartbeats 4000000
set_option autoImplicit false
namespace Zz
open PySem PySem.Spec PyProof.Rows L2

/-! ### data as PyData -/
mutual
def pd : D → PyData
  | .non => .none | .bl b => .bool b | .int i => .int i | .str x => .str x
  | .tup xs => .tuple (pds xs) | .lst xs => .list (pds xs) | .frl ns => .list (ns.map .int) | .dic _ _ => .none | .obj _ _ _ => .none
def pds : List D → List PyData
  | [] => []
  | x :: xs => pd x :: pds xs
end
/-- == of data -/
def eqD (a b : D) : Bool := PyData.eqv (pd a) (pd b)
def eqDs (a b : List D) : Bool := PyData.eqvAll (pds a) (pds b)
mutual
/-- not too deep, texts of real signs -/
def okN : Nat → D → Bool
  | _, .non => true | _, .bl _ => true | _, .int _ => true | _, .str x => PyData.strOk x
  | 0, .tup _ => false | 0, .lst _ => false | 0, .frl _ => false
  | _, .dic _ _ => false | _, .obj _ _ _ => false
  | n + 1, .tup xs => okNs n xs | n + 1, .lst xs => okNs n xs | _ + 1, .frl _ => true
def okNs : Nat → List D → Bool
  | _, [] => true
  | n, x :: xs => okN n x && okNs n xs
end
mutual
theorem okN_shape : ∀ (d : D) (n : Nat), okN n d = true → (pd d).canLay0 = true ∧ (pd d).depth ≤ n
  | .non, n, _ => by simp [pd, PyData.canLay0, PyData.depth]
  | .bl b, n, _ => by simp [pd, PyData.canLay0, PyData.depth]
  | .int i, n, _ => by simp [pd, PyData.canLay0, PyData.depth]
  | .str x, n, h => by
    have h : PyData.strOk x = true := by cases n <;> simpa only [okN] using h
    simp [pd, PyData.canLay0, PyData.depth, h]
  | .tup xs, 0, h => by simp [okN] at h
  | .tup xs, n + 1, h => by
    have q := okNs_shape xs n (by simpa only [okN] using h)
    simp only [pd, PyData.canLay0, PyData.depth]
    exact ⟨q.1, by omega⟩
  | .lst xs, 0, h => by simp [okN] at h
  | .lst xs, n + 1, h => by
    have q := okNs_shape xs n (by simpa only [okN] using h)
    simp only [pd, PyData.canLay0, PyData.depth]
    exact ⟨q.1, by omega⟩
  | .frl ns, 0, h => by simp [okN] at h
  | .frl ns, n + 1, _ => by
    simp only [pd, PyData.canLay0, PyData.depth]
    have q : ∀ ns : List Int, PyData.canLayAll0 (ns.map .int) = true ∧ PyData.depthAll (ns.map .int) = 0 := by
      intro ns
      induction ns with
      | nil => simp [PyData.canLayAll0, PyData.depthAll]
      | cons a r ih => simp [PyData.canLayAll0, PyData.canLay0, PyData.depthAll, PyData.depth, ih]
    exact ⟨(q ns).1, by rw [(q ns).2]; omega⟩
  | .dic _ _, n, h => by cases n <;> simp [okN] at h
  | .obj _ _ _, n, h => by cases n <;> simp [okN] at h
theorem okNs_shape : ∀ (ds : List D) (n : Nat), okNs n ds = true → PyData.canLayAll0 (pds ds) = true ∧ PyData.depthAll (pds ds) ≤ n
  | [], n, _ => by simp [pds, PyData.canLayAll0, PyData.depthAll]
  | x :: xs, n, h => by
    simp only [okNs, Bool.and_eq_true] at h
    have q1 := okN_shape x n h.1
    have q2 := okNs_shape xs n h.2
    simp only [pds, PyData.canLayAll0, PyData.depthAll, q1.1, q2.1, Bool.and_self, true_and]
    omega
end
section
variable {K : PySem.W.Frag} {Hf H : Hp}
theorem dpAll_ints : ∀ ns : List Int, DpAll K H (ns.map V.int) (ns.map PyData.int)
  | [] => .nil
  | n :: r => .cons (.int n) (dpAll_ints r)
mutual
theorem RepD.dp (e : Same Hf H) : ∀ (d : D) (n : Nat) (v : V), okN n d = true → RepD K Hf d v → Dp K H v (pd d)
  | .non, _, v, _, h => by simp only [RepD] at h; subst h; exact .non
  | .bl b, _, v, _, h => by simp only [RepD] at h; subst h; exact .bl b
  | .int i, _, v, _, h => by simp only [RepD] at h; subst h; exact .int i
  | .str x, _, v, _, h => by simp only [RepD] at h; subst h; exact .str x
  | .tup xs, n, v, k, h => by
    simp only [RepD] at h
    obtain ⟨a, vs, rfl, h2, h3⟩ := h
    obtain ⟨m, hm⟩ : ∃ m, okNs m xs = true := by
      cases n with
      | zero => simp [okN] at k
      | succ n => exact ⟨n, by simpa only [okN] using k⟩
    exact .tup (SqT.of (e _ _ h2)) (RepDs.dp e xs m vs hm h3)
  | .lst xs, n, v, k, h => by
    simp only [RepD] at h
    obtain ⟨a, vs, rfl, h2, h3⟩ := h
    obtain ⟨m, hm⟩ : ∃ m, okNs m xs = true := by
      cases n with
      | zero => simp [okN] at k
      | succ n => exact ⟨n, by simpa only [okN] using k⟩
    exact .lst (SqL.of (e _ _ h2)) (RepDs.dp e xs m vs hm h3)
  | .frl ns, _, v, _, h => by
    simp only [RepD] at h
    obtain ⟨a, rfl, h2⟩ := h
    exact .lst (e.seq h2) (dpAll_ints ns)
  | .dic _ _, n, _, k, _ => by cases n <;> simp [okN] at k
  | .obj _ _ _, n, _, k, _ => by cases n <;> simp [okN] at k
theorem RepDs.dp (e : Same Hf H) : ∀ (ds : List D) (n : Nat) (vs : List V), okNs n ds = true → RepDs K Hf ds vs → DpAll K H vs (pds ds)
  | [], _, vs, _, h => by simp only [RepDs] at h; subst h; exact .nil
  | x :: xs, n, vs, k, h => by
    simp only [RepDs] at h
    obtain ⟨v, r, rfl, h2, h3⟩ := h
    rw [okNs, Bool.and_eq_true] at k
    exact .cons (RepD.dp e x n v k.1 h2) (RepDs.dp e xs n r k.2 h3)
end
end
abbrev okD (d : D) : Bool := okN 64 d
theorem okD_shaped {d : D} (h : okD d = true) : SeqAt.shaped (pd d) = true := by
  have q := okN_shape d 64 h
  unfold SeqAt.shaped
  rw [q.1, decide_eq_true q.2]; rfl

/-! ### reading a value -/
def lstW (S : Store) : W → Option (List D)
  | .v (.lst xs) => some xs
  | .ref i => match S[i]? with | some (some (.lst xs)) => some xs | _ => none
  | _ => none
def seqW (S : Store) : W → Option (List D)
  | .v (.tup xs) => some xs
  | .v (.lst xs) => some xs
  | .v (.frl ns) => some (ns.map .int)
  | .ref i => match S[i]? with | some (some (.lst xs)) => some xs | _ => none
  | _ => none
def datW (S : Store) : W → Option D
  | .v d => some d
  | .ref i => match S[i]? with | some (some (.lst xs)) => some (.lst xs) | _ => none
def truW (S : Store) : W → Option Bool
  | .v .non => some false
  | .v (.bl b) => some b
  | .v (.int i) => some (i != 0)
  | .v (.str x) => if x.length ≤ sizeLine then some ((x.length : Int) != 0) else none
  | .v (.tup xs) => some (!xs.isEmpty)
  | .v (.lst xs) => some (!xs.isEmpty)
  | .v (.frl xs) => some (!xs.isEmpty)
  | .v (.dic _ _) => none
  | .v (.obj _ _ _) => none
  | .ref i => match S[i]? with | some (some (.lst xs)) => some (!xs.isEmpty) | _ => none
/-! ### keys -/
def keyD : D → Option Key
  | .int i => some (.inl i)
  | .str x => some (.inr x)
  | _ => none
def keysD : List D → Option (List Key)
  | [] => some []
  | d :: ds => match keyD d, keysD ds with | some k, some ks => some (k :: ks) | _, _ => none
def valW {κ α : Type} [DecidableEq κ] (ks : List κ) (ws : List α) (k : κ) : Option α := ((ks.zip ws).find? fun kv => decide (kv.1 = k)).map (·.2)
def keyT : D → Option (List Key)
  | .tup ds => keysD ds
  | _ => none
/-- y[d], d in y: a dict's value -/
def dgetW (S : Store) (y : W) (d : D) : Option (Option W) :=
  match y with
  | .ref j => match S[j]? with
    | some (some (.dct ks ws)) => (keyD d).map fun k => valW ks ws k
    | some (some (.dtt ks ws)) => (keyT d).map fun k => valW ks ws k
    | _ => none
  | .v (.dic ks xs) => (keyD d).map fun k => (valW ks xs k).map .v
  | _ => none
section
variable {K : PySem.W.Frag} {Hf : Hp} {ρ : List Addr}
theorem keyD_rep {d : D} {v : V} {k : Key} (r : RepD K Hf d v) (e : keyD d = some k) : v = kV k := by
  cases d <;> simp only [keyD] at e <;> cases e
  · simp only [RepD] at r; exact r
  · simp only [RepD] at r; exact r
theorem keysD_rep : ∀ {ds : List D} {vs : List V} {ks : List Key}, RepDs K Hf ds vs → keysD ds = some ks → vs = ks.map kV
  | [], vs, ks, r, e => by
    cases e
    simp only [RepDs] at r
    exact r
  | d :: ds, vs, ks, r, e => by
    simp only [RepDs] at r
    obtain ⟨v, q, rfl, r1, r2⟩ := r
    unfold keysD at e
    split at e
    · rename_i k ks' h1 h2
      cases e
      rw [List.map_cons, keyD_rep r1 h1, keysD_rep r2 h2]
    · cases e
theorem valW_rep {κ : Type} [DecidableEq κ] (k : κ) : ∀ {ks : List κ} {ws : List W} {vs : List V}, RepWs K Hf ρ ws vs → (∀ w, valW ks ws k = some w → ∃ v, valV (ks.zip vs) k = some v ∧ RepW K Hf ρ w v) ∧ (valW ks ws k = none → valV (ks.zip vs) k = none)
  | [], _, _, _ => ⟨fun w e => by simp [valW] at e, fun _ => by simp [valV]⟩
  | _ :: _, [], vs, r => by
    have r : vs = [] := r
    subst r
    exact ⟨fun w e => by simp [valW] at e, fun _ => by simp [valV]⟩
  | j :: ks, w :: ws, vs, r => by
    obtain ⟨v, q, rfl, r1, r2⟩ := r
    obtain ⟨h1, h2⟩ := valW_rep (ks := ks) k r2
    unfold valW valV at h1 h2 ⊢
    rw [List.zip_cons_cons, List.zip_cons_cons, List.find?_cons, List.find?_cons]
    by_cases e : j = k
    · simp only [e, decide_true, Option.map_some, Option.some.injEq]
      exact ⟨fun u hu => ⟨v, rfl, hu ▸ r1⟩, fun z => by cases z⟩
    · simp only [e, decide_false]
      exact ⟨h1, h2⟩
theorem valD_rep {κ : Type} [DecidableEq κ] (k : κ) : ∀ {ks : List κ} {ws : List D} {vs : List V}, RepDs K Hf ws vs → (∀ w, valW ks ws k = some w → ∃ v, valV (ks.zip vs) k = some v ∧ RepD K Hf w v) ∧ (valW ks ws k = none → valV (ks.zip vs) k = none)
  | [], _, _, _ => ⟨fun w e => by simp [valW] at e, fun _ => by simp [valV]⟩
  | _ :: _, [], vs, r => by
    have r : vs = [] := by simpa only [RepDs] using r
    subst r
    exact ⟨fun w e => by simp [valW] at e, fun _ => by simp [valV]⟩
  | j :: ks, w :: ws, vs, r => by
    simp only [RepDs] at r
    obtain ⟨v, q, rfl, r1, r2⟩ := r
    obtain ⟨h1, h2⟩ := valD_rep (ks := ks) k r2
    unfold valW valV at h1 h2 ⊢
    rw [List.zip_cons_cons, List.zip_cons_cons, List.find?_cons, List.find?_cons]
    by_cases e : j = k
    · simp only [e, decide_true, Option.map_some, Option.some.injEq]
      exact ⟨fun u hu => ⟨v, rfl, hu ▸ r1⟩, fun z => by cases z⟩
    · simp only [e, decide_false]
      exact ⟨h1, h2⟩
theorem Rel.dget {B : Bs} {H : Hp} {σ : Slots} {S : Store} {τ : St} (h : Rel K B Hf ρ σ S τ H) {y : W} {vy vd : V} {d : D} {o : Option W} (ry : RepW K Hf ρ y vy) (rd : RepD K Hf d vd) (e : dgetW S y d = some o) :
    ∃ a o', vy = .ref a ∧ DGet H a vd o' ∧ ((∀ w, o = some w → ∃ v, o' = some v ∧ RepW K Hf ρ w v) ∧ (o = none → o' = none)) := by
  unfold dgetW at e
  split at e
  · rename_i j
    split at e
    · rename_i ks ws hj
      cases hk : keyD d with
      | none => rw [hk] at e; cases e
      | some k =>
        rw [hk] at e; cases e
        obtain ⟨a, z1, rfl⟩ := ry
        obtain ⟨a', z2, _, vs, z3, z4, z5⟩ := h.ob _ _ hj
        rw [z1] at z2; cases z2
        rw [keyD_rep rd hk]
        exact ⟨a, _, rfl, DGet.k z3, valW_rep k z5⟩
    · rename_i ks ws hj
      cases hk : keyT d with
      | none => rw [hk] at e; cases e
      | some k =>
        rw [hk] at e; cases e
        obtain ⟨a, z1, rfl⟩ := ry
        obtain ⟨a', z2, _, vs, z3, z4, z5⟩ := h.ob _ _ hj
        rw [z1] at z2; cases z2
        cases d <;> simp only [keyT] at hk
        case tup ds =>
          simp only [RepD] at rd
          obtain ⟨b, us, rfl, y1, y2⟩ := rd
          rw [keysD_rep y2 hk] at y1
          exact ⟨a, _, rfl, DGet.t z3 (h.sub _ _ y1), valW_rep k z5⟩
        all_goals cases hk
    · cases e
  · rename_i ks xs
    cases hk : keyD d with
    | none => rw [hk] at e; cases e
    | some k =>
      rw [hk] at e; cases e
      have ry : RepD K Hf (.dic ks xs) vy := ry
      simp only [RepD] at ry
      obtain ⟨a, rfl, vs, z3, z4, z5⟩ := ry
      rw [keyD_rep rd hk]
      obtain ⟨q1, q2⟩ := valD_rep (ks := ks) k z5
      refine ⟨a, _, rfl, DGet.k (h.sub _ _ z3), fun w hw => ?_, fun hn => ?_⟩
      · dsimp only at hw
        cases q : valW ks xs k with
        | none => rw [q] at hw; cases hw
        | some u => rw [q] at hw; cases hw; exact q1 _ q
      · dsimp only at hn
        cases q : valW ks xs k with
        | none => exact q2 q
        | some u => rw [q] at hn; cases hn
  · cases e
end
section
variable {K : PySem.W.Frag} {B : Bs} {Hf H : Hp} {ρ : List Addr} {σ : Slots} {S : Store} {τ : St} {w : W} {v : V}
theorem Rel.ref_lst (h : Rel K B Hf ρ σ S τ H) {i : Nat} {xs : List D} (hi : S[i]? = some (some (.lst xs))) (r : RepW K Hf ρ (.ref i) v) : ∃ a vs, v = .ref a ∧ ρ[i]? = some a ∧ H a = some (.lst vs) ∧ RepDs K Hf xs vs := by
  obtain ⟨a, h1, h2⟩ := r
  obtain ⟨a', h3, h4, vs, h5, h6⟩ := h.ob i _ hi
  rw [h1] at h3; cases h3
  exact ⟨a, vs, h2, h1, h5, h6⟩
theorem Rel.lstW (h : Rel K B Hf ρ σ S τ H) (r : RepW K Hf ρ w v) {xs : List D} (e : lstW S w = some xs) : ∃ a vs, v = .ref a ∧ H a = some (.lst vs) ∧ RepDs K Hf xs vs := by
  unfold Zz.lstW at e
  split at e
  · cases e
    have r : RepD K Hf (.lst xs) v := r
    simp only [RepD] at r
    obtain ⟨a, vs, h1, h2, h3⟩ := r
    exact ⟨a, vs, h1, h.sub _ _ h2, h3⟩
  · split at e
    · rename_i hi
      cases e
      obtain ⟨a, vs, h1, _, h3, h4⟩ := h.ref_lst hi r
      exact ⟨a, vs, h1, h3, h4⟩
    · cases e
  · cases e
theorem Rel.seqW (h : Rel K B Hf ρ σ S τ H) (r : RepW K Hf ρ w v) {xs : List D} (e : seqW S w = some xs) : ∃ a vs, v = .ref a ∧ (SqL K H a vs ∨ SqT K H a vs) ∧ RepDs K Hf xs vs := by
  unfold Zz.seqW at e
  split at e
  · cases e
    have r : RepD K Hf (.tup xs) v := r
    simp only [RepD] at r
    obtain ⟨a, vs, h1, h2, h3⟩ := r
    exact ⟨a, vs, h1, .inr (SqT.of (h.sub _ _ h2)), h3⟩
  · cases e
    have r : RepD K Hf (.lst xs) v := r
    simp only [RepD] at r
    obtain ⟨a, vs, h1, h2, h3⟩ := r
    exact ⟨a, vs, h1, .inl (SqL.of (h.sub _ _ h2)), h3⟩
  · rename_i ns
    cases e
    have r : RepD K Hf (.frl ns) v := r
    simp only [RepD] at r
    obtain ⟨a, h1, h2⟩ := r
    exact ⟨a, _, h1, .inl (h.sub.seq h2), RepDs.ints ns⟩
  · split at e
    · rename_i hi
      cases e
      obtain ⟨a, vs, h1, _, h3, h4⟩ := h.ref_lst hi r
      exact ⟨a, vs, h1, .inl (SqL.of h3), h4⟩
    · cases e
  · cases e
theorem okL {xs : List D} (h : okD (.lst xs) = true) : okNs 63 xs = true := by simpa only [okD, okN] using h
theorem Rel.datW (h : Rel K B Hf ρ σ S τ H) (r : RepW K Hf ρ w v) {d : D} (e : datW S w = some d) (ok : okD d = true) : Dp K H v (pd d) := by
  unfold Zz.datW at e
  split at e
  · cases e; exact RepD.dp h.sub _ _ _ ok r
  · split at e
    · rename_i hi
      cases e
      obtain ⟨a, vs, rfl, _, h3, h4⟩ := h.ref_lst hi r
      exact .lst (SqL.of h3) (RepDs.dp h.sub _ _ _ (okL ok) h4)
    · cases e
theorem isEmpty_len {α β : Type} : ∀ {xs : List α} {ys : List β}, xs.length = ys.length → xs.isEmpty = ys.isEmpty
  | [], [], _ => rfl
  | _ :: _, _ :: _, _ => rfl
  | [], _ :: _, h => by simp at h
  | _ :: _, [], h => by simp at h
theorem Rel.truW (h : Rel K B Hf ρ σ S τ H) (r : RepW K Hf ρ w v) {b : Bool} (e : truW S w = some b) : TruV K v H b := by
  unfold Zz.truW at e
  split at e
  · cases e; cases (show v = .non by simpa only [RepW, RepD] using r); exact rfl
  · cases e; cases (show v = .bl _ by simpa only [RepW, RepD] using r); exact rfl
  · cases e; cases (show v = .int _ by simpa only [RepW, RepD] using r); exact rfl
  · split at e
    · cases e; cases (show v = .str _ by simpa only [RepW, RepD] using r); exact ⟨by assumption, rfl⟩
    · cases e
  · rename_i xs
    cases e
    obtain ⟨a, vs, rfl, h2, h3⟩ : ∃ a vs, v = .ref a ∧ Hf a = some (.tup vs) ∧ RepDs K Hf xs vs := by simpa only [RepW, RepD] using r
    exact .inr (.inl ⟨vs, SqT.of (h.sub _ _ h2), by rw [isEmpty_len h3.length]⟩)
  · rename_i xs
    cases e
    obtain ⟨a, vs, rfl, h2, h3⟩ : ∃ a vs, v = .ref a ∧ Hf a = some (.lst vs) ∧ RepDs K Hf xs vs := by simpa only [RepW, RepD] using r
    exact .inl ⟨vs, SqL.of (h.sub _ _ h2), by rw [isEmpty_len h3.length]⟩
  · rename_i xs
    cases e
    obtain ⟨a, rfl, h2⟩ : ∃ a, v = .ref a ∧ SqL K Hf a (xs.map V.int) := by simpa only [RepW, RepD] using r
    exact .inl ⟨_, h.sub.seq h2, by rw [isEmpty_len (ys := xs.map V.int) (by simp)]⟩
  · cases e
  · cases e
  · split at e
    · rename_i hi
      cases e
      obtain ⟨a, vs, rfl, _, h3, h4⟩ := h.ref_lst hi r
      exact .inl ⟨vs, SqL.of h3, by rw [isEmpty_len h4.length]⟩
    · cases e
end

/-! ### operators by data -/
instance (i j : Int) : Decidable (CMul i j) := by unfold CMul; exact inferInstance
instance (i j : Int) : Decidable (CDivN i j) := by unfold CDivN; exact inferInstance
instance (i j : Int) : Decidable (CPow i j) := by unfold CPow; exact inferInstance
def cat2 (r : Bool) (a b : Option (List D)) (S : Store) : R W :=
  match a, b with
  | some a, some b => if a.length + b.length ≤ sizeLine then newL r (a ++ b) S else .bad
  | _, _ => .bad
def addW (r : Bool) (x y : W) (S : Store) : R W :=
  match x, y with
  | .v (.int i), .v (.int j) => .ok (.v (.int (i + j))) S
  | .v (.tup a), .v (.tup b) => if a.length + b.length ≤ sizeLine then .ok (.v (.tup (a ++ b))) S else .bad
  | x, y => cat2 r (lstW S x) (lstW S y) S
def subW (x y : W) (S : Store) : R W :=
  match x, y with
  | .v (.int i), .v (.int j) => .ok (.v (.int (i - j))) S
  | _, _ => .bad
def rep2 (r : Bool) (a : Option (List D)) (k : Int) (S : Store) : R W :=
  match a with
  | some a => if -(2 ^ 63) ≤ k ∧ k < 2 ^ 63 ∧ a.length * k.toNat ≤ sizeLine then newL r (List.replicate k.toNat a).flatten S else .bad
  | none => .bad
def mulW (r : Bool) (x y : W) (S : Store) : R W :=
  match x, y with
  | .v (.int i), .v (.int j) => if CMul i j then .ok (.v (.int (i * j))) S else .bad
  | .v (.tup a), .v (.int k) => if k = 1 then .ok (.v (.tup a)) S else if a ≠ [] ∧ 2 ≤ k ∧ k ≤ 1000 ∧ a.length ≤ 1000 then .ok (.v (.tup (List.replicate k.toNat a).flatten)) S else .bad
  | x, .v (.int k) => rep2 r (lstW S x) k S
  | _, _ => .bad
def divW (x y : W) (S : Store) : R W :=
  match x, y with
  | .v (.int i), .v (.int j) => if CDivN i j then .ok (.v (.int (i.fdiv j))) S else .bad
  | _, _ => .bad
def modW (x y : W) (S : Store) : R W :=
  match x, y with
  | .v (.int i), .v (.int j) => if j ≠ 0 then .ok (.v (.int (i.fmod j))) S else .bad
  | _, _ => .bad
def powW (x y : W) (S : Store) : R W :=
  match x, y with
  | .v (.int i), .v (.int j) => if CPow i j then .ok (.v (.int (i ^ j.toNat))) S else .bad
  | _, _ => .bad
def binW (op : Operator) (r : Bool) (x y : W) (S : Store) : R W :=
  match op with
  | .Add => addW r x y S | .Sub => subW x y S | .Mult => mulW r x y S | .FloorDiv => divW x y S | .Mod => modW x y S | .Pow => powW x y S
  | _ => .bad
abbrev gd (X : Cx) (B : Bs) (E : XK) : Gd := ⟨X.K, X.mg, B, E⟩
/-- an operation on two values, by its semantics -/
def Step2 (X : Cx) (B : Bs) (E : XK) (r : R2) (f : W → W → Store → R W) : Prop :=
  ∀ (Hf : Hp) (ρ : List Addr) (σ : Slots) (S : Store) (τ : St) (H : Hp) (w1 w2 : W) (v1 v2 : V) (Q : VK), Rel X.K B Hf ρ σ S τ H → RepW X.K Hf ρ w1 v1 → RepW X.K Hf ρ w2 v2 →
    Post (RepW X.K) (gd X B E) Hf ρ σ τ Q (f w1 w2 S) → r v1 v2 H Q
section
variable {X : Cx} {B : Bs} {E : XK}
theorem Post.done {g : Gd} {Hf H : Hp} {ρ : List Addr} {σ : Slots} {S : Store} {τ : St} {Q : V → Hp → Prop} {w : W} {v : V} (h : Rel g.K g.B Hf ρ σ S τ H) (q : Post (RepW g.K) g Hf ρ σ τ Q (.ok w S)) (r : RepW g.K Hf ρ w v) : Q v H :=
  q _ _ _ _ (Ext.refl _ _) h r
theorem repInt {K : PySem.W.Frag} {Hf : Hp} {ρ : List Addr} {i : Int} {v : V} (h : RepW K Hf ρ (.v (.int i)) v) : v = .int i := by simpa only [RepW, RepD] using h
theorem repTup {K : PySem.W.Frag} {Hf : Hp} {ρ : List Addr} {xs : List D} {v : V} (h : RepW K Hf ρ (.v (.tup xs)) v) : ∃ a vs, v = .ref a ∧ Hf a = some (.tup vs) ∧ RepDs K Hf xs vs := by simpa only [RepW, RepD] using h
theorem repOfInt {K : PySem.W.Frag} {Hf : Hp} {ρ : List Addr} {i : Int} : RepW K Hf ρ (.v (.int i)) (.int i) := by simp only [RepW, RepD]
theorem repOfBl {K : PySem.W.Frag} {Hf : Hp} {ρ : List Addr} {i : Bool} : RepW K Hf ρ (.v (.bl i)) (.bl i) := by simp only [RepW, RepD]
def rAddA (K : PySem.W.Frag) : R2 := fun x y H Q => (rI0 (fun i j => .int (i + j)) x y H Q ∨ rCatA K x y H Q) ∨ rCat x y H Q
theorem st_add (r : Bool) : Step2 X B E (rAddA X.K) (addW r) := by
  intro Hf ρ σ S τ H w1 w2 v1 v2 Q h r1 r2 q
  unfold addW at q
  split at q
  · cases repInt r1; cases repInt r2
    exact .inl (.inl ⟨_, _, rfl, rfl, q.done h repOfInt⟩)
  · rename_i a b
    obtain ⟨p1, us, rfl, h2, h3⟩ := repTup r1
    obtain ⟨p2, vs, rfl, h5, h6⟩ := repTup r2
    split at q
    · rename_i hl
      refine .inl (.inr ⟨p1, p2, us, vs, rfl, rfl, SqT.of (h.sub _ _ h2), SqT.of (h.sub _ _ h5), by rw [← h3.length, ← h6.length]; exact hl, fun e => ?_, fun e1 e2 => ?_, fun e1 e2 p hp => ?_⟩)
      · subst e
        have ea : a = [] := List.eq_nil_of_length_eq_zero (by rw [h3.length]; rfl)
        subst ea
        exact q.done h r2
      · subst e2
        have eb : b = [] := List.eq_nil_of_length_eq_zero (by rw [h6.length]; rfl)
        subst eb
        exact q.done h (by rw [List.append_nil]; exact r1)
      · exact Post.newF h q hp fun Hf' e e2 => by
          simp only [RepD]
          exact ⟨p, _, rfl, e2, RepDs.mono e _ _ (h3.append h6)⟩
    · exact q.elim
  · unfold cat2 at q
    split at q
    · rename_i a b ha hb
      split at q
      · rename_i hl
        obtain ⟨p1, us, rfl, h2, h3⟩ := h.lstW r1 ha
        obtain ⟨p2, vs, rfl, h5, h6⟩ := h.lstW r2 hb
        exact .inr ⟨p1, p2, us, vs, rfl, rfl, h2, h5, by rw [← h3.length, ← h6.length]; exact hl, fun p hp => Post.newL h q hp (h3.append h6)⟩
      · exact q.elim
    · exact q.elim
theorem st_sub : Step2 X B E (rI0 fun i j => .int (i - j)) subW := by
  intro Hf ρ σ S τ H w1 w2 v1 v2 Q h r1 r2 q
  unfold subW at q
  split at q
  · cases repInt r1; cases repInt r2
    exact ⟨_, _, rfl, rfl, q.done h repOfInt⟩
  · exact q.elim
theorem RepDs.flat {K : PySem.W.Frag} {Hf : Hp} {ds : List D} {vs : List V} (h : RepDs K Hf ds vs) : ∀ n : Nat, RepDs K Hf (List.replicate n ds).flatten (List.replicate n vs).flatten
  | 0 => by simp [RepDs]
  | n + 1 => by simp only [List.replicate_succ, List.flatten_cons]; exact h.append (RepDs.flat h n)
theorem tup_once (a : Addr) (xs : Array Value) (n : Nat) (od : Option Addr) (sl : Array (Option Value)) (u : Tok) :
    Meets (Builtin.«tuple.__mul__» ⟨[.ref a, .int 1 u], []⟩) (fun _ R s => s.heap.get? a = some { cls := .type "tuple", dict := od, data := .seq xs n, slots := sl } ∧ R (.ok (.ret (.ref a))) s) :=
  .of_wp fun prog w A R s h => by
    obtain ⟨hp, g, d, tk, os⟩ := s
    obtain ⟨ha, h⟩ := h
    have f1 := AutoSeq1.idx_int
    wp_walk using wpAny_loadPart' ha
    exact ⟨_, rfl, h⟩
/-- a tuple taken once is itself -/
def rOnce (K : PySem.W.Frag) : R2 := fun x y H Q => ∃ a vs, x = .ref a ∧ y = .int 1 ∧ SqT K H a vs ∧ Q (.ref a) H
theorem op_once {X : Cx} : OpR X (binaryOp .Mult) (rOnce X.K) := by
  intro pins s σ H x y v u Q I rx ry h
  obtain ⟨a, vs, rfl, rfl, hT, q⟩ := h
  cases rx
  obtain ⟨tk, rfl⟩ := ry
  obtain ⟨items, rr, ⟨⟨c1, od, dt, sl⟩, ho, hc, n, hd⟩, hs⟩ := I.tuple hT
  dsimp only at hc hd
  subst hc hd
  refine wpAny_binaryOp_repeat_ref (T := "tuple") (U := "int") (by decide) ⟨_, ho, rfl⟩ (fun s' => typeIs_int s' 1 tk) noFill_tuple_mul F.fills_int_mul
    F.slot_int_rmul repeat_tuple F.slot_int_index.lookup
    (call_meets F.slot_int_rmul (typeIs_int s 1 tk) F.entry_int_rmul (F.args_int_rmul_2 _ _)
      (int_rmul_tuple 1 tk a items.toArray n od sl) ⟨ho, rfl, ⟨_, ho, rfl⟩,
        call_meets F.slot_tuple_mul ⟨_, ho, rfl⟩ F.entry_tuple_mul (F.args_tuple_mul_2 _ _) (tup_once a items.toArray n od sl tk) ⟨ho, ?_⟩⟩)
  exact ⟨.ref a, _, I, rfl, q⟩
def rMulA (K : PySem.W.Frag) : R2 := fun x y H Q => ((rI CMul (fun i j => .int (i * j)) x y H Q ∨ rRepT K x y H Q) ∨ rRep x y H Q) ∨ rOnce K x y H Q
theorem st_mul (r : Bool) : Step2 X B E (rMulA X.K) (mulW r) := by
  intro Hf ρ σ S τ H w1 w2 v1 v2 Q h r1 r2 q
  unfold mulW at q
  split at q
  · split at q
    · rename_i hc
      cases repInt r1; cases repInt r2
      exact .inl (.inl (.inl ⟨_, _, rfl, rfl, hc, q.done h repOfInt⟩))
    · exact q.elim
  · rename_i a k
    obtain ⟨p1, us, rfl, h2, h3⟩ := repTup r1
    cases repInt r2
    split at q
    · rename_i h1
      subst h1
      exact .inr ⟨p1, us, rfl, rfl, SqT.of (h.sub _ _ h2), q.done h r1⟩
    split at q
    · rename_i hc
      obtain ⟨c1, c2, c3, c4⟩ := hc
      refine .inl (.inl (.inr ⟨p1, _, us, rfl, rfl, SqT.of (h.sub _ _ h2), fun e => c1 ?_, c2, c3, by rw [← h3.length]; exact c4, fun p hp => ?_⟩))
      · subst e
        exact List.eq_nil_of_length_eq_zero (by rw [h3.length]; rfl)
      · exact Post.newF h q hp fun Hf' e e2 => by
          simp only [RepD]
          exact ⟨p, _, rfl, e2, RepDs.mono e _ _ (h3.flat _)⟩
    · exact q.elim
  · rename_i k _ _
    cases repInt r2
    unfold rep2 at q
    split at q
    · rename_i a ha
      split at q
      · rename_i hc
        obtain ⟨c1, c2, c3⟩ := hc
        obtain ⟨p1, us, rfl, h2, h3⟩ := h.lstW r1 ha
        exact .inl (.inr ⟨p1, _, us, rfl, rfl, h2, c1, c2, by rw [← h3.length]; exact c3, fun p hp => Post.newL h q hp (h3.flat _)⟩)
      · exact q.elim
    · exact q.elim
  · exact q.elim
theorem st_div : Step2 X B E (rI CDivN fun i j => .int (i.fdiv j)) divW := by
  intro Hf ρ σ S τ H w1 w2 v1 v2 Q h r1 r2 q
  unfold divW at q
  split at q
  · split at q
    · cases repInt r1; cases repInt r2
      exact ⟨_, _, rfl, rfl, by assumption, q.done h repOfInt⟩
    · exact q.elim
  · exact q.elim
theorem st_mod : Step2 X B E (rI (fun _ j => j ≠ 0) fun i j => .int (i.fmod j)) modW := by
  intro Hf ρ σ S τ H w1 w2 v1 v2 Q h r1 r2 q
  unfold modW at q
  split at q
  · split at q
    · cases repInt r1; cases repInt r2
      exact ⟨_, _, rfl, rfl, by assumption, q.done h repOfInt⟩
    · exact q.elim
  · exact q.elim
theorem st_pow : Step2 X B E (rI CPow fun i j => .int (i ^ j.toNat)) powW := by
  intro Hf ρ σ S τ H w1 w2 v1 v2 Q h r1 r2 q
  unfold powW at q
  split at q
  · split at q
    · cases repInt r1; cases repInt r2
      exact ⟨_, _, rfl, rfl, by assumption, q.done h repOfInt⟩
    · exact q.elim
  · exact q.elim
theorem ob_add : OpR X (binaryOp .Add) (rAddA X.K) := (op_add.or op_catA).or op_cat
theorem ob_mul : OpR X (binaryOp .Mult) (rMulA X.K) := ((op_mul.or op_repT).or op_rep).or op_once
/-- what an operator asks, by its semantics -/
theorem st_bin (op : Operator) (r : Bool) : ∃ rr : R2, (OpR X (binaryOp op) rr ∨ ∀ v1 v2 H Q, ¬ rr v1 v2 H Q) ∧ Step2 X B E rr (binW op r) := by
  cases op with
  | Add => exact ⟨_, .inl ob_add, st_add r⟩
  | Sub => exact ⟨_, .inl op_sub, st_sub⟩
  | Mult => exact ⟨_, .inl ob_mul, st_mul r⟩
  | FloorDiv => exact ⟨_, .inl op_fdivN, st_div⟩
  | Mod => exact ⟨_, .inl op_modN, st_mod⟩
  | Pow => exact ⟨_, .inl op_pow, st_pow⟩
  | _ => exact ⟨fun _ _ _ _ => False, .inr fun _ _ _ _ => id, fun _ _ _ _ _ _ _ _ _ _ _ _ _ _ q => q⟩

/-! ### comparisons -/
def ltW (f : Int → Int → Bool) (x y : W) (S : Store) : R W :=
  match x, y with
  | .v (.int i), .v (.int j) => .ok (.v (.bl (f i j))) S
  | _, _ => .bad
def eqW (neg : Bool) (x y : W) (S : Store) : R W :=
  match datW S x, datW S y with
  | some a, some b => if okD a && okD b then .ok (.v (.bl (if neg then !eqD a b else eqD a b))) S else .bad
  | _, _ => .bad
def isNon : W → Bool
  | .v .non => true
  | _ => false
def isW (neg : Bool) (x y : W) (S : Store) : R W :=
  match y with
  | .v .non => .ok (.v (.bl (if neg then !isNon x else isNon x))) S
  | _ => .bad
def flatD : D → Bool
  | .non => true | .bl _ => true | .int _ => true | .str _ => true | _ => false
def inW (neg : Bool) (x y : W) (S : Store) : R W :=
  match x, seqW S y with
  | .v d, some ds =>
    if flatD d && ds.all flatD then .ok (.v (.bl (if neg then !ds.any (fun z => eqD z d) else ds.any (fun z => eqD z d)))) S
    else match lstW S y with
      | some ds => if okD d && okD (.lst ds) then .ok (.v (.bl (if neg then !ds.any (fun z => eqD z d) else ds.any (fun z => eqD z d)))) S else .bad
      | none => .bad
  | .v d, none => (match dgetW S y d with | some o => .ok (.v (.bl (if neg then !o.isSome else o.isSome))) S | none => .bad)
  | _, _ => .bad
def cmpW (op : CmpOp) (x y : W) (S : Store) : R W :=
  match op with
  | .Lt => ltW (fun i j => decide (i < j)) x y S | .LtE => ltW (fun i j => decide (i ≤ j)) x y S
  | .Gt => ltW (fun i j => decide (j < i)) x y S | .GtE => ltW (fun i j => decide (j ≤ i)) x y S
  | .Eq => eqW false x y S | .NotEq => eqW true x y S
  | .Is => isW false x y S | .IsNot => isW true x y S
  | .In => inW false x y S | .NotIn => inW true x y S
theorem st_lt (f : Int → Int → Bool) : Step2 X B E (rI0 fun i j => .bl (f i j)) (ltW f) := by
  intro Hf ρ σ S τ H w1 w2 v1 v2 Q h r1 r2 q
  unfold ltW at q
  split at q
  · cases repInt r1; cases repInt r2
    exact ⟨_, _, rfl, rfl, q.done h repOfBl⟩
  · exact q.elim
theorem st_eq : Step2 X B E (rEqD X.K) (eqW false) := by
  intro Hf ρ σ S τ H w1 w2 v1 v2 Q h r1 r2 q
  unfold eqW at q
  split at q
  · rename_i a b ha hb
    split at q
    · rename_i hc
      rw [Bool.and_eq_true] at hc
      exact ⟨_, _, h.datW r1 ha hc.1, h.datW r2 hb hc.2, okD_shaped hc.1, okD_shaped hc.2, q.done h repOfBl⟩
    · exact q.elim
  · exact q.elim
theorem st_ne : Step2 X B E (rNeD X.K) (eqW true) := by
  intro Hf ρ σ S τ H w1 w2 v1 v2 Q h r1 r2 q
  unfold eqW at q
  split at q
  · rename_i a b ha hb
    split at q
    · rename_i hc
      rw [Bool.and_eq_true] at hc
      exact ⟨_, _, h.datW r1 ha hc.1, h.datW r2 hb hc.2, okD_shaped hc.1, okD_shaped hc.2, q.done h repOfBl⟩
    · exact q.elim
  · exact q.elim
theorem rep_non {K : PySem.W.Frag} {Hf : Hp} {ρ : List Addr} {w : W} {v : V} (r : RepW K Hf ρ w v) : decide (v = .non) = isNon w := by
  cases w with
  | ref i => obtain ⟨a, _, rfl⟩ := r; rfl
  | v d =>
    have r : RepD K Hf d v := r
    cases d <;> simp only [RepD] at r
    all_goals first
      | (subst r; rfl)
      | (obtain ⟨a, rfl, _⟩ := r; rfl)
      | (obtain ⟨a, vs, rfl, _⟩ := r; rfl)
theorem st_is : Step2 X B E (fun x y H Q => y = .non ∧ Q (.bl (decide (x = .non))) H) (isW false) := by
  intro Hf ρ σ S τ H w1 w2 v1 v2 Q h r1 r2 q
  unfold isW at q
  split at q
  · refine ⟨by simpa only [RepW, RepD] using r2, ?_⟩
    have e := rep_non r1
    rw [e]
    exact q.done h repOfBl
  · exact q.elim
theorem st_isnot : Step2 X B E (fun x y H Q => y = .non ∧ Q (.bl (!decide (x = .non))) H) (isW true) := by
  intro Hf ρ σ S τ H w1 w2 v1 v2 Q h r1 r2 q
  unfold isW at q
  split at q
  · refine ⟨by simpa only [RepW, RepD] using r2, ?_⟩
    have e := rep_non r1
    rw [e]
    exact q.done h repOfBl
  · exact q.elim
theorem flat_rep {K : PySem.W.Frag} {Hf : Hp} {d : D} {v : V} (r : RepD K Hf d v) (f : flatD d = true) : flatV v = true := by
  cases d <;> simp only [RepD] at r <;> first | (subst r; rfl) | simp [flatD] at f
theorem flat_reps {K : PySem.W.Frag} {Hf : Hp} : ∀ {ds : List D} {vs : List V}, RepDs K Hf ds vs → ds.all flatD = true → vs.all flatV = true
  | [], _, h, _ => by simp only [RepDs] at h; subst h; rfl
  | x :: xs, vs, h, f => by
    simp only [RepDs] at h
    obtain ⟨v, r, rfl, h2, h3⟩ := h
    rw [List.all_cons, Bool.and_eq_true] at f ⊢
    exact ⟨flat_rep h2 f.1, flat_reps h3 f.2⟩
theorem eqV_eqD {K : PySem.W.Frag} {Hf : Hp} {a b : D} {x y : V} (ra : RepD K Hf a x) (rb : RepD K Hf b y) (fa : flatD a = true) (fb : flatD b = true) : eqV x y = eqD a b := by
  cases a <;> first | (simp [flatD] at fa; done) | skip
  all_goals (cases b <;> first | (simp [flatD] at fb; done) | skip)
  all_goals (simp only [RepD] at ra rb; subst ra rb; first | rfl | (simp [eqV, eqD, pd, PyData.eqv]))
theorem inV_any {K : PySem.W.Frag} {Hf : Hp} {d : D} {x : V} (rd : RepD K Hf d x) (fd : flatD d = true) : ∀ {ds : List D} {vs : List V}, RepDs K Hf ds vs → ds.all flatD = true → inV x vs = ds.any (fun z => eqD z d)
  | [], _, h, _ => by simp only [RepDs] at h; subst h; rfl
  | e :: es, vs, h, f => by
    simp only [RepDs] at h
    obtain ⟨v, r, rfl, h2, h3⟩ := h
    rw [List.all_cons, Bool.and_eq_true] at f
    have ih := inV_any rd fd h3 f.2
    unfold inV at ih ⊢
    rw [List.any_cons, List.any_cons, ih, eqV_eqD h2 rd f.1 fd]
theorem any_pds (d : D) : ∀ ds : List D, ((pds ds).any fun z => PyData.eqv z (pd d)) = ds.any (fun z => eqD z d)
  | [] => rfl
  | x :: xs => by simp only [pds, List.any_cons, any_pds d xs]; rfl
def rInK (neg : Bool) : R2 := fun x y H Q => ∃ a o, y = .ref a ∧ DGet H a x o ∧ Q (.bl (if neg then !o.isSome else o.isSome)) H
theorem op_inK {X : Cx} (hu : X.A.units + 1 < cLine) : OpR X (compareOp .In) (rInK false) := by
  intro pins s σ H x y v u Q I rx ry ⟨a, o, ey, g, q⟩
  subst ey
  cases ry
  exact d_in hu I g rx fun s' I' => ⟨.bl o.isSome, H, I', rfl, q⟩
theorem op_notInK {X : Cx} (hu : X.A.units + 1 < cLine) : OpR X (compareOp .NotIn) (rInK true) := by
  intro pins s σ H x y v u Q I rx ry ⟨a, o, ey, g, q⟩
  subst ey
  cases ry
  exact d_notIn hu I g rx fun s' I' => ⟨.bl (!o.isSome), H, I', rfl, q⟩
theorem opt_some {α β : Type} {P : α → β → Prop} {o : Option α} {o' : Option β} (h : (∀ w, o = some w → ∃ v, o' = some v ∧ P w v) ∧ (o = none → o' = none)) : o'.isSome = o.isSome := by
  cases o with
  | none => rw [h.2 rfl]; rfl
  | some w => obtain ⟨v, e, _⟩ := h.1 w rfl; rw [e]; rfl
theorem st_in : Step2 X B E (fun x y H Q => (rIn X.K false x y H Q ∨ rInD X.K x y H Q) ∨ rInK false x y H Q) (inW false) := by
  intro Hf ρ σ S τ H w1 w2 v1 v2 Q h r1 r2 q
  unfold inW at q
  split at q
  · rename_i d ds hs
    obtain ⟨a, vs, ev, h2, h3⟩ := h.seqW r2 hs
    split at q
    · rename_i hf
      rw [Bool.and_eq_true] at hf
      refine .inl (.inl ⟨a, vs, ev, h2, flat_rep r1 hf.1, flat_reps h3 hf.2, ?_⟩)
      rw [inV_any r1 hf.1 h3 hf.2]
      exact q.done h repOfBl
    · split at q
      · rename_i es he
        split at q
        · rename_i hc
          rw [Bool.and_eq_true] at hc
          obtain ⟨b, us, rfl, k2, k3⟩ := h.lstW r2 he
          have d2 : Dp X.K H (.ref b) (.list (pds es)) := .lst (SqL.of k2) (RepDs.dp h.sub _ _ _ (okL hc.2) k3)
          refine .inl (.inr ⟨pd d, pds es, RepD.dp h.sub _ _ _ hc.1 r1, d2, okD_shaped hc.1, okD_shaped hc.2, ?_⟩)
          rw [any_pds]
          exact q.done h repOfBl
        · exact q.elim
      · exact q.elim
  · rename_i d _
    split at q
    · rename_i o ho
      obtain ⟨a, o', e1, e2, e3⟩ := h.dget r2 r1 ho
      refine .inr ⟨a, o', e1, e2, ?_⟩
      rw [opt_some e3]
      exact q.done h repOfBl
    · exact q.elim
  · exact q.elim
theorem st_notin : Step2 X B E (fun x y H Q => (rIn X.K true x y H Q ∨ rNotInD X.K x y H Q) ∨ rInK true x y H Q) (inW true) := by
  intro Hf ρ σ S τ H w1 w2 v1 v2 Q h r1 r2 q
  unfold inW at q
  split at q
  · rename_i d ds hs
    obtain ⟨a, vs, ev, h2, h3⟩ := h.seqW r2 hs
    split at q
    · rename_i hf
      rw [Bool.and_eq_true] at hf
      refine .inl (.inl ⟨a, vs, ev, h2, flat_rep r1 hf.1, flat_reps h3 hf.2, ?_⟩)
      rw [inV_any r1 hf.1 h3 hf.2]
      exact q.done h repOfBl
    · split at q
      · rename_i es he
        split at q
        · rename_i hc
          rw [Bool.and_eq_true] at hc
          obtain ⟨b, us, rfl, k2, k3⟩ := h.lstW r2 he
          have d2 : Dp X.K H (.ref b) (.list (pds es)) := .lst (SqL.of k2) (RepDs.dp h.sub _ _ _ (okL hc.2) k3)
          refine .inl (.inr ⟨pd d, pds es, RepD.dp h.sub _ _ _ hc.1 r1, d2, okD_shaped hc.1, okD_shaped hc.2, ?_⟩)
          rw [any_pds]
          exact q.done h repOfBl
        · exact q.elim
      · exact q.elim
  · rename_i d _
    split at q
    · rename_i o ho
      obtain ⟨a, o', e1, e2, e3⟩ := h.dget r2 r1 ho
      refine .inr ⟨a, o', e1, e2, ?_⟩
      rw [opt_some e3]
      exact q.done h repOfBl
    · exact q.elim
  · exact q.elim
theorem st_cmp {k : Nat} (hr : Room k X.A) (op : CmpOp) : ∃ rr : R2, OpR X (compareOp op) rr ∧ Step2 X B E rr (cmpW op) := by
  have hu := hr.units
  have hu2 : X.A.units + 65 < cLine := by have := hr.un; omega
  have hu3 : X.A.units + 1 < cLine := by omega
  cases op with
  | Eq => exact ⟨_, op_eqD hu, st_eq⟩
  | NotEq => exact ⟨_, op_neD hu, st_ne⟩
  | Lt => exact ⟨_, op_lt, st_lt _⟩
  | LtE => exact ⟨_, op_le, st_lt _⟩
  | Gt => exact ⟨_, op_gt, st_lt (fun i j => decide (j < i))⟩
  | GtE => exact ⟨_, op_ge, st_lt (fun i j => decide (j ≤ i))⟩
  | Is => exact ⟨_, op_isN, st_is⟩
  | IsNot => exact ⟨_, op_notN, st_isnot⟩
  | In => exact ⟨_, (op_in_seq.or (op_inD hu2)).or (op_inK hu3), st_in⟩
  | NotIn => exact ⟨_, (op_notIn_seq.or (op_notInD hu2)).or (op_notInK hu3), st_notin⟩
end
end Zz

set_option Elab.async false
set_option linter.all false
set_option maxRecDepth 100000
set_option maxHeartbeats 4000000
set_option autoImplicit false
namespace Zz
open PySem PySem.Spec PyProof.Rows L2

/-! ### compact trees -/
inductive Ty where | int | bool | str | tuple | list
  deriving DecidableEq
inductive Blt where | len | min | max | sum | all | any | sorted | list | tuple | int | abs
  deriving DecidableEq
inductive Mth where | append | extend | pop
  deriving DecidableEq
mutual
inductive E where
  | var (i : Nat) | cst (c : Const) | glb (k : Nat)
  | bin (op : Operator) (r : Bool) (a b : E)
  | neg (a : E) | nt (a : E)
  | cmp (op : CmpOp) (a b : E) | chain (op op' : CmpOp) (a b c : E)
  | band (es : Es) | bor (es : Es) | ife (c a b : E)
  | tup (es : Es) | lst (r : Bool) (es : Es)
  | ix (a i : E) | sl (r : Bool) (a : E) (lo hi : P) | rev (r : Bool) (a : E)
  | call (k w : Nat) (es : Es)
  | blt (b : Blt) (r : Bool) (es : Es)
  | isi (t : Ty) (a : E)
  | lrng (r : Bool) (it : I)
  | comp (r : Bool) (own : List Nat) (t : T) (it : I) (cond : Es) (elt : E)
  | mth (m : Mth) (r : Bool) (o : E) (es : Es)
  | frz (a : E) | nop
  | fld (k j : Nat) (a : E) | meth (k : Nat) (o : E) (es : Es) | make (k : Nat) (es : Es) | dnew (t : Bool) | popk (o i : E) | callV (k : Nat) (es : Es) | tin (k : Nat) (neg : Bool) (a : E) | tix (k : Nat) (a : E)
inductive Es where
  | nil | cons (e : E) (es : Es)
inductive P where
  | no | ex (e : E)
inductive T where
  | nm (i : Nat) | tup (ts : Ts) | sub (o i : E)
inductive Ts where
  | nil | cons (t : T) (ts : Ts)
inductive I where
  | seq (e : E) | rng1 (a : E) | rng2 (a b : E) | rng3 (a b c : E) | zip (a b : E) | enum (e : E)
end
def tsLen : Ts → Nat
  | .nil => 0
  | .cons _ ts => tsLen ts + 1
inductive Gv where
  | fn (n : Nat) (f : FnSem) | con (d : D)
  | cls (fs : List Str) | mth (C : Str) (m : Str) (n : Nat) (f : FnSem) | mk (fs : List Str) (n : Nat) (f : FnSem) | tab (ps : List (Str × Option D))
abbrev GT := List (Str × Gv)

/-! ### semantics of the pieces -/
def cstD : Const → Option D
  | .none => some .non | .bool b => some (.bl b) | .int i => some (.int i) | .str x => some (.str x)
  | _ => none
def tupW (ws : List W) (S : Store) : R W :=
  match toDs ws with
  | some ds => if ds.length ≤ sizeLine then .ok (.v (.tup ds)) S else .bad
  | none => .bad
def lstE (r : Bool) (ws : List W) (S : Store) : R W :=
  match toDs ws with
  | some ds => if ds.length ≤ sizeLine then newL r ds S else .bad
  | none => if r && decide (ws.length ≤ sizeLine) then .ok (.ref S.length) (S ++ [some (.lsr ws)]) else .bad
def dixW (x : W) (d : D) (S : Store) : R W := match dgetW S x d with | some (some w) => .ok w S | _ => .bad
def ixW (x y : W) (S : Store) : R W :=
  match y with
  | .v (.int i) =>
    match x with
    | .ref j => (match S[j]? with
      | some (some (.lst xs)) => (match atI xs i with | some d => .ok (.v d) S | none => .bad)
      | some (some (.lsr ws)) => (match atI ws i with | some w => .ok w S | none => .bad)
      | _ => dixW (.ref j) (.int i) S)
    | x => (match seqW S x with
      | some xs => (match atI xs i with | some d => .ok (.v d) S | none => .bad)
      | none => dixW x (.int i) S)
  | .v d => dixW x d S
  | _ => .bad
def cutD (xs : List D) (lo hi : Option Int) : List D := (xs.drop (HT.sIx xs.length 0 lo)).take (HT.sIx xs.length xs.length hi - HT.sIx xs.length 0 lo)
def slW (r : Bool) (x : W) (lo hi : Option Int) (S : Store) : R W :=
  match x with
  | .v (.tup xs) => .ok (.v (.tup (cutD xs lo hi))) S
  | x => match lstW S x with
    | some xs => newL r (cutD xs lo hi) S
    | none => .bad
def partW : W → Option (Option Int)
  | .v (.int i) => some (some i)
  | _ => none
def revW (r : Bool) (x : W) (S : Store) : R W :=
  match x with
  | .v (.tup xs) => .ok (.v (.tup xs.reverse)) S
  | x => match lstW S x with
    | some xs => newL r xs.reverse S
    | none => .bad
def intsOf : List D → Option (List Int)
  | [] => some []
  | .int i :: r => (intsOf r).map (i :: ·)
  | _ :: _ => none
def blsOf : List D → Option (List Bool)
  | [] => some []
  | .bl i :: r => (blsOf r).map (i :: ·)
  | _ :: _ => none
def insI (i : Int) : List Int → List Int
  | [] => [i]
  | j :: r => if i ≤ j then i :: j :: r else j :: insI i r
def sortI : List Int → List Int
  | [] => []
  | i :: r => insI i (sortI r)
def bestOf (f : Int → Int → Bool) : Int → List Int → Int
  | i, [] => i
  | i, j :: r => bestOf f (if f j i then j else i) r
def lenW (ws : List W) (S : Store) : R W :=
  match ws with
  | [.v (.str x)] => if x.length ≤ sizeLine then .ok (.v (.int x.length)) S else .bad
  | [.v d] => (match seqW S (.v d) with | some xs => .ok (.v (.int xs.length)) S | none => .bad)
  | [.ref i] => (match S[i]? with
      | some (some (.lst xs)) => .ok (.v (.int xs.length)) S
      | some (some (.lsr xs)) => .ok (.v (.int xs.length)) S
      | some (some (.dct ks _)) => .ok (.v (.int ks.length)) S
      | _ => .bad)
  | _ => .bad
def minW (ws : List W) (S : Store) : R W :=
  match ws with
  | [.v (.int i), .v (.int j)] => .ok (.v (.int (if j < i then j else i))) S
  | [x] => (match (lstW S x).bind intsOf with | some (i :: is) => .ok (.v (.int (bestOf (fun j i => decide (j < i)) i is))) S | _ => .bad)
  | _ => .bad
def maxW (ws : List W) (S : Store) : R W :=
  match ws with
  | [.v (.int i), .v (.int j)] => .ok (.v (.int (if j > i then j else i))) S
  | [x] => (match (lstW S x).bind intsOf with | some (i :: is) => .ok (.v (.int (bestOf (fun j i => decide (j > i)) i is))) S | _ => .bad)
  | _ => .bad
def sumW (ws : List W) (S : Store) : R W :=
  match ws with
  | [x] => (match (lstW S x).bind intsOf with | some is => .ok (.v (.int is.sum)) S | none => .bad)
  | _ => .bad
def allW (ws : List W) (S : Store) : R W :=
  match ws with
  | [x] => (match (lstW S x).bind blsOf with | some is => .ok (.v (.bl (is.all id))) S | none => .bad)
  | _ => .bad
def anyW (ws : List W) (S : Store) : R W :=
  match ws with
  | [x] => (match (lstW S x).bind blsOf with | some is => .ok (.v (.bl (is.any id))) S | none => .bad)
  | _ => .bad
def sortedW (r : Bool) (ws : List W) (S : Store) : R W :=
  match ws with
  | [.v (.tup xs)] => (match intsOf xs with | some is => newL r ((sortI is).map .int) S | none => .bad)
  | [x] => (match (lstW S x).bind intsOf with | some is => newL r ((sortI is).map .int) S | none => .bad)
  | _ => .bad
def listW (r : Bool) (ws : List W) (S : Store) : R W :=
  match ws with
  | [x] => (match seqW S x with | some xs => newL r xs S | none => .bad)
  | _ => .bad
def tupleW (ws : List W) (S : Store) : R W :=
  match ws with
  | [.v (.tup xs)] => .ok (.v (.tup xs)) S
  | [x] => (match lstW S x with | some xs => .ok (.v (.tup xs)) S | none => .bad)
  | _ => .bad
def intW (ws : List W) (S : Store) : R W :=
  match ws with
  | [.v (.int i)] => .ok (.v (.int i)) S
  | [.v (.bl k)] => .ok (.v (.int (if k then 1 else 0))) S
  | _ => .bad
def absW (ws : List W) (S : Store) : R W :=
  match ws with
  | [.v (.int i)] => .ok (.v (.int (if i < 0 then -i else i))) S
  | _ => .bad
def bltW (b : Blt) (r : Bool) (ws : List W) (S : Store) : R W :=
  match b with
  | .len => lenW ws S | .min => minW ws S | .max => maxW ws S | .sum => sumW ws S | .all => allW ws S | .any => anyW ws S
  | .sorted => sortedW r ws S | .list => listW r ws S | .tuple => tupleW ws S | .int => intW ws S | .abs => absW ws S
def tyD : D → String
  | .non => "NoneType" | .bl _ => "bool" | .int _ => "int" | .str _ => "str" | .tup _ => "tuple" | .lst _ => "list" | .frl _ => "list" | .dic _ _ => "dict" | .obj _ _ _ => "object"
def isTy : Ty → D → Bool
  | .int, .int _ => true | .int, .bl _ => true
  | .bool, .bl _ => true
  | .str, .str _ => true
  | .tuple, .tup _ => true
  | .list, .lst _ => true
  | _, _ => false
def isiW (t : Ty) (x : W) (S : Store) : R W :=
  match datW S x with
  | some (.frl _) => .bad
  | some (.obj _ _ _) => .bad
  | some d => .ok (.v (.bl (isTy t d))) S
  | none => .bad
def appendW (o : W) (ws : List W) (S : Store) : R W :=
  match o, ws with
  | .ref i, [.v d] => (match S[i]? with
      | some (some (.lst xs)) => if xs.length < sizeLine then .ok (.v .non) (S.set i (some (.lst (xs ++ [d])))) else .bad
      | _ => .bad)
  | _, _ => .bad
def extendW (o : W) (ws : List W) (S : Store) : R W :=
  match o, ws with
  | .ref i, [w] => (match S[i]?, lstW S w with
      | some (some (.lst xs)), some ds => if xs.length + ds.length ≤ sizeLine then .ok (.v .non) (S.set i (some (.lst (xs ++ ds)))) else .bad
      | _, _ => .bad)
  | _, _ => .bad
def popW (o : W) (ws : List W) (S : Store) : R W :=
  match o, ws with
  | .ref i, [] => (match S[i]? with
      | some (some (.lst xs)) => (match xs[xs.length - 1]? with | some d => .ok (.v d) (S.set i (some (.lst xs.dropLast))) | none => .bad)
      | _ => .bad)
  | _, _ => .bad
def mthW (m : Mth) (r : Bool) (o : W) (ws : List W) (S : Store) : R W :=
  match m with
  | .append => appendW o ws S | .extend => extendW o ws S | .pop => popW o ws S
def isLst (x : W) (S : Store) : Bool := match x with | .ref i => (match S[i]? with | some (some (.lst _)) => true | _ => false) | _ => false
def frzW (x : W) (S : Store) : R W :=
  match x with
  | .v d => .ok (.v d) S
  | .ref i => match S[i]? with
    | some (some (.lst xs)) => .ok (.v (.lst xs)) (S.set i none)
    | some (some (.ins C fs ws)) => (match toDs ws with | some ds => .ok (.v (.obj C fs ds)) (S.set i none) | none => .bad)
    | some (some (.dct ks ws)) => (match toDs ws with | some ds => .ok (.v (.dic ks ds)) (S.set i none) | none => .bad)
    | _ => .bad
def putKs {κ : Type} [DecidableEq κ] (ks : List κ) (k : κ) : List κ := if ks.any (fun j => decide (j = k)) then ks else ks ++ [k]
def putVs {κ α : Type} [DecidableEq κ] (k : κ) (w : α) (ks : List κ) (ws : List α) : List α := if ks.any (fun j => decide (j = k)) then (ks.zip ws).map (fun kv => if kv.1 = k then w else kv.2) else ws ++ [w]
def putD (w : W) (j : Nat) (d : D) (σ : Slots) (S : Store) : R Slots :=
  match S[j]? with
  | some (some (.dct ks ws)) => (match keyD d with | some k => if ks.length < sizeLine then .ok σ (S.set j (some (.dct (putKs ks k) (putVs k w ks ws)))) else .bad | none => .bad)
  | some (some (.dtt ks ws)) => (match keyT d with | some k => if ks.length < sizeLine then .ok σ (S.set j (some (.dtt (putKs ks k) (putVs k w ks ws)))) else .bad | none => .bad)
  | _ => .bad
def putW (w x y : W) (σ : Slots) (S : Store) : R Slots :=
  match x, y with
  | .ref j, .v (.int k) => (match S[j]? with
    | some (some (.lst xs)) => (match w with | .v d => (match ixN xs.length k with | some n => .ok σ (S.set j (some (.lst (xs.set n d)))) | none => .bad) | _ => .bad)
    | _ => putD w j (.int k) σ S)
  | .ref j, .v d => putD w j d σ S
  | _, _ => .bad
def fldW (C : Str) (fs : List Str) (j : Nat) (x : W) (S : Store) : R W :=
  match x with
  | .ref i => (match S[i]? with
    | some (some (.ins C' fs' ws)) => if C' = C ∧ fs' = fs then (match ws[j]? with | some w => .ok w S | none => .bad) else .bad
    | _ => .bad)
  | .v (.obj C' fs' xs) => if C' = C ∧ fs' = fs then (match xs[j]? with | some d => .ok (.v d) S | none => .bad) else .bad
  | _ => .bad
def fldRW (C : Str) (fs : List Str) (j : Nat) (x : W) (S : Store) : R W := match x with | .ref i => fldW C fs j (.ref i) S | _ => .bad
/-- o.f = w -/
def setF (C : Str) (fs : List Str) (j : Nat) (x w : W) (S : Store) : Option Store :=
  match x with
  | .ref i => (match S[i]? with
    | some (some (.ins C' fs' ws)) => if C' = C ∧ fs' = fs ∧ j ≤ ws.length ∧ j < fs.length then some (S.set i (some (.ins C fs (if j < ws.length then ws.set j w else ws ++ [w])))) else none
    | _ => none)
  | _ => none
def recvOk (C m : Str) (x : W) (S : Store) : Bool :=
  match x with
  | .ref i => (match S[i]? with | some (some (.ins C' fs _)) => decide (C' = C) && !fs.contains m | _ => false)
  | .v (.obj C' fs _) => decide (C' = C) && !fs.contains m
  | _ => false
def rgD (a b : Int) : List D := (List.range (b - a).toNat).map fun i => D.int (a + (i : Nat))
def rgcD (a c : Int) (n : Nat) : List D := (List.range n).map fun i => D.int (a + (i : Nat) * c)
def rngOk (a b : Int) : Bool := decide (-(2 ^ 62) ≤ a ∧ a < 2 ^ 62 ∧ -(2 ^ 62) ≤ b ∧ b < 2 ^ 62)
def zipD : List D → List D → List D
  | a :: as, b :: bs => .tup [a, b] :: zipD as bs
  | _, _ => []
def enD : Nat → List D → List D
  | _, [] => []
  | i, x :: xs => .tup [.int (i : Nat), x] :: enD (i + 1) xs
def zipW (x y : W) (S : Store) : R (List D) :=
  match x, y with
  | .v (.tup xs), .v (.tup ys) => .ok (zipD xs ys) S
  | .v (.lst xs), .v (.lst ys) => .ok (zipD xs ys) S
  | _, _ => .bad
def wipeW (σ : Slots) : List Nat → Slots
  | [] => σ
  | v :: vs => (wipeW σ vs).set v none
def R.noex {α : Type} : R α → R α
  | .ex _ _ => .bad
  | r => r
/-- the items of a comprehension -/
def compM (f : D → Store → R (Option D)) : List D → Store → R (List D)
  | [], S => .ok [] S
  | d :: ds, S => (f d S).bind fun o S1 => (compM f ds S1).bind fun es S2 => match o with | none => .ok es S2 | some e => .ok (e :: es) S2
def truR (w : W) (S : Store) : R Bool := match truW S w with | some b => .ok b S | none => .bad
/-- a call: the callee sees the first k objects of the store -/
def argsOk (k : Nat) : List W → Bool
  | [] => true
  | .v _ :: ws => argsOk k ws
  | .ref i :: ws => decide (i < k) && argsOk k ws
def obsOk (k : Nat) : Store → Bool
  | [] => true
  | some (.lsr ws) :: S => argsOk k ws && obsOk k S
  | some (.dct _ ws) :: S => argsOk k ws && obsOk k S
  | some (.dtt _ ws) :: S => argsOk k ws && obsOk k S
  | some (.ins _ _ ws) :: S => argsOk k ws && obsOk k S
  | _ :: S => obsOk k S
def callW (n : Nat) (f : FnSem) (k : Nat) (ws : List W) (S : Store) : R W :=
  if ws.length = n ∧ k ≤ S.length ∧ argsOk k ws = true ∧ obsOk k (S.take k) = true then
    match f ws (S.take k) with
    | .ok (.v d) S' => if obsOk k (S'.take k) then .ok (.v d) (S'.take k ++ S.drop k) else .bad
    | .ok (.ref i) S' => if S.length = k then .ok (.ref i) S' else .bad
    | .ex x S' => if obsOk k (S'.take k) then .ex x (S'.take k ++ S.drop k) else .bad
    | .bad => .bad
  else .bad
/-- a call that sees the whole store; what nobody holds behind it is left out -/
def trimR (k : Nat) (w : W) (S : Store) : R W :=
  match w with
  | .v d => if obsOk k (S.take k) then .ok (.v d) (S.take k) else .ok (.v d) S
  | .ref i => if i < k ∧ obsOk k (S.take k) = true then .ok (.ref i) (S.take k) else .ok (.ref i) S
def trimX (k : Nat) (x : Exc) (S : Store) : R W := if obsOk k (S.take k) then .ex x (S.take k) else .ex x S
def callV (n : Nat) (f : FnSem) (ws : List W) (S : Store) : R W :=
  if ws.length = n then match f ws S with
    | .ok w S' => trimR S.length w S'
    | .ex x S' => trimX S.length x S'
    | .bad => .bad
  else .bad
def makeW (C : Str) (fs : List Str) (n : Nat) (f : FnSem) (ws : List W) (S : Store) : R W :=
  if ws.length + 1 = n then match f (.ref S.length :: ws) (S ++ [some (.ins C fs [])]) with
    | .ok (.v .non) S' => trimR (S.length + 1) (.ref S.length) S'
    | .ex x S' => trimX S.length x S'
    | _ => .bad
  else .bad
def popkW (x y : W) (S : Store) : R W :=
  match x, y with
  | .ref j, .v d => (match S[j]?, keyD d with
    | some (some (.dct ks ws)), some k => (match valW ks ws k with
      | some w => .ok w (S.set j (some (.dct (((ks.zip ws).filter fun kv => decide (kv.1 ≠ k)).map (·.1)) (((ks.zip ws).filter fun kv => decide (kv.1 ≠ k)).map (·.2)))))
      | none => .bad)
    | _, _ => .bad)
  | _, _ => .bad
/-- a dict of the module: what is known of it -/
def tabW (ps : List (Str × Option D)) (x : W) : Option (Option D) := match x with | .v (.str s) => ps.lookup s | _ => none
def isDct (x : W) (S : Store) : Bool := match x with | .ref i => (match S[i]? with | some (some (.dct _ _)) => true | _ => false) | _ => false

/-! ### semantics -/
mutual
def eE (G : GT) : E → Slots → Store → R W
  | .var i, σ, S => match σ[i]? with | some (some w) => .ok w S | _ => .bad
  | .cst c, _, S => match cstD c with | some d => .ok (.v d) S | none => .bad
  | .glb k, _, S => match G[k]? with | some (_, .con d) => .ok (.v d) S | _ => .bad
  | .bin op r a b, σ, S => (eE G a σ S).bind fun x S1 => (eE G b σ S1).bind fun y S2 => binW op r x y S2
  | .neg a, σ, S => (eE G a σ S).bind fun x S1 => match x with | .v (.int i) => .ok (.v (.int (-i))) S1 | _ => .bad
  | .nt a, σ, S => (eE G a σ S).bind fun x S1 => match truW S1 x with | some b => .ok (.v (.bl (!b))) S1 | none => .bad
  | .cmp op a b, σ, S => (eE G a σ S).bind fun x S1 => (eE G b σ S1).bind fun y S2 => cmpW op x y S2
  | .chain op op' a b c, σ, S => (eE G a σ S).bind fun x S1 => (eE G b σ S1).bind fun y S2 => (cmpW op x y S2).bind fun z S3 => match z with
      | .v (.bl true) => (eE G c σ S3).bind fun u S4 => cmpW op' y u S4
      | .v (.bl false) => .ok (.v (.bl false)) S3
      | _ => .bad
  | .band es, σ, S => eAnd G es σ S
  | .bor es, σ, S => eOr G es σ S
  | .ife c a b, σ, S => (eE G c σ S).bind fun x S1 => (truR x S1).bind fun t S2 => if t then eE G a σ S2 else eE G b σ S2
  | .tup es, σ, S => (eEs G es σ S).bind tupW
  | .lst r es, σ, S => (eEs G es σ S).bind (lstE r)
  | .ix a i, σ, S => (eE G a σ S).bind fun x S1 => (eE G i σ S1).bind fun y S2 => ixW x y S2
  | .sl r a lo hi, σ, S => (eE G a σ S).bind fun x S1 => (eP G lo σ S1).bind fun l S2 => (eP G hi σ S2).bind fun h S3 => slW r x l h S3
  | .rev r a, σ, S => (eE G a σ S).bind fun x S1 => revW r x S1
  | .call k w es, σ, S => (eEs G es σ S).bind fun ws S1 => match G[k]? with | some (_, .fn n f) => callW n f w ws S1 | _ => .bad
  | .blt b r es, σ, S => (eEs G es σ S).bind fun ws S1 => bltW b r ws S1
  | .isi t a, σ, S => (eE G a σ S).bind fun x S1 => isiW t x S1
  | .lrng r it, σ, S => (eI G it σ S).bind fun ds S1 => if ds.length ≤ 2 ^ 24 then newL r ds S1 else .bad
  | .comp r own t it cond elt, σ, S => (eI G it σ S).bind fun ds S1 => if ds.length ≤ sizeLine then
      (compM (fun d S2 => ((aT G t (.v d) (wipeW σ own) S2).bind fun σ1 S3 => (eC G cond σ1 S3).bind fun c S4 => if c then (eE G elt σ1 S4).bind fun w S5 => match w with | .v e => .ok (some e) S5 | _ => .bad else .ok none S4).noex) ds S1).bind fun es S2 => newL r es S2
      else .bad
  | .mth m r o es, σ, S => (eE G o σ S).bind fun x S1 => if isLst x S1 then (eEs G es σ S1).bind fun ws S2 => mthW m r x ws S2 else .bad
  | .frz a, σ, S => (eE G a σ S).bind frzW
  | .nop, _, _ => .bad
  | .fld k j a, σ, S => (eE G a σ S).bind fun x S1 => match G[k]? with | some (C, .cls fs) => fldW C fs j x S1 | _ => .bad
  | .meth k o es, σ, S => (eE G o σ S).bind fun x S1 => match G[k]? with
    | some (_, .mth C m n f) => if recvOk C m x S1 then (eEs G es σ S1).bind fun ws S2 => callV n f (x :: ws) S2 else .bad
    | _ => .bad
  | .make k es, σ, S => (eEs G es σ S).bind fun ws S1 => match G[k]? with | some (C, .mk fs n f) => makeW C fs n f ws S1 | _ => .bad
  | .dnew t, _, S => .ok (.ref S.length) (S ++ [some (if t then .dtt [] [] else .dct [] [])])
  | .popk o i, σ, S => (eE G o σ S).bind fun x S1 => if isDct x S1 then (eE G i σ S1).bind fun y S2 => popkW x y S2 else .bad
  | .callV k es, σ, S => (eEs G es σ S).bind fun ws S1 => match G[k]? with | some (_, .fn n f) => callV n f ws S1 | _ => .bad
  | .tin k neg a, σ, S => (eE G a σ S).bind fun x S1 => match G[k]? with | some (_, .tab ps) => (match tabW ps x with | some o => .ok (.v (.bl (if neg then !o.isSome else o.isSome))) S1 | none => .bad) | _ => .bad
  | .tix k a, σ, S => (eE G a σ S).bind fun x S1 => match G[k]? with | some (_, .tab ps) => (match tabW ps x with | some (some d) => .ok (.v d) S1 | _ => .bad) | _ => .bad
/-- a slice's part -/
def eP (G : GT) : P → Slots → Store → R (Option Int)
  | .no, _, S => .ok none S
  | .ex e, σ, S => (eE G e σ S).bind fun x S1 => match partW x with | some o => .ok o S1 | none => .bad
def eEs (G : GT) : Es → Slots → Store → R (List W)
  | .nil, _, S => .ok [] S
  | .cons e es, σ, S => (eE G e σ S).bind fun x S1 => (eEs G es σ S1).bind fun xs S2 => .ok (x :: xs) S2
def eAnd (G : GT) : Es → Slots → Store → R W
  | .nil, _, _ => .bad
  | .cons e .nil, σ, S => eE G e σ S
  | .cons e es, σ, S => (eE G e σ S).bind fun x S1 => match truW S1 x with | some true => eAnd G es σ S1 | some false => .ok x S1 | none => .bad
def eOr (G : GT) : Es → Slots → Store → R W
  | .nil, _, _ => .bad
  | .cons e .nil, σ, S => eE G e σ S
  | .cons e es, σ, S => (eE G e σ S).bind fun x S1 => match truW S1 x with | some false => eOr G es σ S1 | some true => .ok x S1 | none => .bad
/-- a comprehension's tests: none or one -/
def eC (G : GT) : Es → Slots → Store → R Bool
  | .nil, _, S => .ok true S
  | .cons e .nil, σ, S => (eE G e σ S).bind truR
  | .cons _ _, _, _ => .bad
def aT (G : GT) : T → W → Slots → Store → R Slots
  | .nm i, w, σ, S => .ok (σ.set i (some w)) S
  | .tup ts, w, σ, S => match w with | .v (.tup ds) => if ds.length = tsLen ts then aTs G ts ds σ S else .bad | .v (.lst ds) => if ds.length = tsLen ts then aTs G ts ds σ S else .bad | _ => .bad
  | .sub o i, w, σ, S => (eE G o σ S).bind fun x S1 => (eE G i σ S1).bind fun y S2 => putW w x y σ S2
def aTs (G : GT) : Ts → List D → Slots → Store → R Slots
  | .nil, ds, σ, S => match ds with | [] => .ok σ S | _ => .bad
  | .cons t ts, ds, σ, S => match ds with | d :: ds => (aT G t (.v d) σ S).bind fun σ1 S1 => aTs G ts ds σ1 S1 | [] => .bad
def eI (G : GT) : I → Slots → Store → R (List D)
  | .seq e, σ, S => (eE G e σ S).bind fun x S1 => match x with
      | .v (.tup xs) => .ok xs S1 | .v (.lst xs) => .ok xs S1 | .v (.frl ns) => .ok (ns.map .int) S1 | _ => .bad
  | .rng1 a, σ, S => (eE G a σ S).bind fun x S1 => match x with | .v (.int j) => if rngOk 0 j then .ok (rgD 0 j) S1 else .bad | _ => .bad
  | .rng2 a b, σ, S => (eE G a σ S).bind fun x S1 => (eE G b σ S1).bind fun y S2 => match x, y with | .v (.int i), .v (.int j) => if rngOk i j then .ok (rgD i j) S2 else .bad | _, _ => .bad
  | .rng3 a b c, σ, S => (eE G a σ S).bind fun x S1 => (eE G b σ S1).bind fun y S2 => (eE G c σ S2).bind fun z S3 => match x, y, z with
      | .v (.int i), .v (.int j), .v (.int c) => if rngOk i j && decide (c = -1) then .ok (rgcD i c (i - j).toNat) S3 else .bad
      | _, _, _ => .bad
  | .zip a b, σ, S => (eE G a σ S).bind fun x S1 => (eE G b σ S1).bind fun y S2 => zipW x y S2
  | .enum e, σ, S => (eE G e σ S).bind fun x S1 => match x with | .v (.tup xs) => .ok (enD 0 xs) S1 | .v (.lst xs) => .ok (enD 0 xs) S1 | _ => .bad
end
end Zz

set_option Elab.async false
set_option linter.all false
set_option maxRecDepth 100000
set_option maxHeartbeats 4000000
set_option autoImplicit false
namespace Zz
open PySem PySem.Spec PyProof.Rows L2

/-! ### more of the state relation -/
section
variable {K : PySem.W.Frag} {B : Bs} {Hf H Hf' H' : Hp} {ρ ρ' : List Addr} {σ σ' : Slots} {S S' : Store} {τ τ' : St}
theorem Rel.rebase (h : Rel K B Hf ρ σ S τ H) : Rel K ⟨H, Hf, ρ⟩ Hf ρ σ S τ H :=
  ⟨h.sub, h.len, h.slot, h.rl, h.nd, h.tr, h.ob, fun _ _ e _ => e, fun _ m => .inl m, fun a o e => .inl ⟨o, e⟩, Same.refl _, List.prefix_refl _⟩
theorem Rel.trans (h : Rel K B Hf ρ σ S τ H) (k : Rel K ⟨H, Hf, ρ⟩ Hf' ρ' σ' S' τ' H') : Rel K B Hf' ρ' σ' S' τ' H' where
  sub := k.sub
  len := k.len
  slot := k.slot
  rl := k.rl
  nd := k.nd
  tr := k.tr
  ob := k.ob
  keep := fun a o e hn => k.keep a o (h.keep a o e hn) fun m => by
    rcases h.newr a m with z | z
    · exact hn z
    · rw [e] at z; cases z
  newr := fun a m => by
    rcases k.newr a m with z | z
    · exact h.newr a z
    · have z : H a = none := z
      refine Decidable.byCases (p := a ∈ B.ρ) (fun m => .inl m) fun m => .inr ?_
      cases q : B.H a with
      | none => rfl
      | some u => rw [h.keep a u q m] at z; cases z
  newf := fun a o e => by
    rcases k.newf a o e with ⟨o', z⟩ | z | z
    · exact h.newf a o' z
    · have z : H a = none := z
      refine Decidable.byCases (p := a ∈ B.ρ) (fun m => .inr (.inr m)) fun m => .inr (.inl ?_)
      cases q : B.H a with
      | none => rfl
      | some u => rw [h.keep a u q m] at z; cases z
    · rcases h.newr a z with z | z
      · exact .inr (.inr z)
      · exact .inr (.inl z)
  subB := h.subB.trans k.subB
  preB := h.preB.trans k.preB
theorem Rel.ext (h : Rel K ⟨H, Hf, ρ⟩ Hf' ρ' σ' S' τ' H') : Ext Hf ρ Hf' ρ' := ⟨h.subB, h.preB⟩
/-- the slots of before, behind -/
theorem Rel.back (h : Rel K B Hf ρ σ S τ H) (e : Ext Hf ρ Hf' ρ') (k : Rel K B Hf' ρ' σ' S' τ' H') : Rel K B Hf' ρ' σ S' τ H' :=
  k.slots h.len fun i w q => by
    obtain ⟨v, h1, h2⟩ := h.slot i w q
    exact ⟨v, h1, h2.mono e.f e.r⟩
/-- another object, neither frozen nor of the store -/
theorem Rel.other (h : Rel K B Hf ρ σ S τ H) {p : Addr} (h1 : Hf p = none) (h2 : p ∉ ρ) (h3 : B.H p = none) (o : HO) : Rel K B Hf ρ σ S τ (upd H p o) where
  sub := fun a u e => by rw [upd_ne (ne_of_none e h1)]; exact h.sub _ _ e
  len := h.len
  slot := h.slot
  rl := h.rl
  nd := h.nd
  tr := fun a m => by
    obtain ⟨u, e⟩ := h.tr a m
    exact ⟨u, by rw [upd_ne (fun (z : a = p) => h2 (z ▸ m))]; exact e⟩
  ob := fun i u e => by
    obtain ⟨a, q1, q2, q3⟩ := h.ob i u e
    exact ⟨a, q1, q2, q3.mono (Same.refl _) (List.prefix_refl _) (upd_ne (fun (z : a = p) => h2 (z ▸ List.mem_of_getElem? q1)))⟩
  keep := fun a u e hn => by rw [upd_ne (ne_of_none e h3)]; exact h.keep a u e hn
  newr := h.newr
  newf := h.newf
  subB := h.subB
  preB := h.preB
theorem Rel.freshF (h : Rel K B Hf ρ σ S τ H) {p : Addr} (hp : H p = none) : Hf p = none ∧ p ∉ ρ ∧ B.H p = none := by
  refine ⟨?_, fun m => ?_, ?_⟩
  · cases e : Hf p with
    | none => rfl
    | some u => rw [h.sub _ _ e] at hp; cases hp
  · obtain ⟨u, e⟩ := h.tr p m
    rw [hp] at e; cases e
  · cases q : B.H p with
    | none => rfl
    | some u =>
      refine Decidable.byCases (p := p ∈ B.ρ) (fun m => ?_) fun m => ?_
      · obtain ⟨t, e⟩ := h.preB
        obtain ⟨u, e⟩ := h.tr p (by rw [← e]; exact List.mem_append_left _ m)
        rw [hp] at e; cases e
      · rw [h.keep p u q m] at hp; cases hp
/-- what was neither frozen nor of the store stays -/
theorem Rel.stays (k : Rel K ⟨H, Hf, ρ⟩ Hf' ρ' σ' S' τ' H') {p : Addr} {o : HO} (h1 : H p = some o) (h2 : Hf p = none) (h3 : p ∉ ρ) : H' p = some o ∧ Hf' p = none ∧ p ∉ ρ' := by
  refine ⟨k.keep p o h1 h3, ?_, fun m => ?_⟩
  · cases e : Hf' p with
    | none => rfl
    | some u =>
      rcases k.newf p u e with ⟨o', z⟩ | z | z
      · have z : Hf p = some o' := z
        rw [h2] at z; cases z
      · have z : H p = none := z
        rw [h1] at z; cases z
      · exact absurd z h3
  · rcases k.newr p m with z | z
    · exact h3 z
    · have z : H p = none := z
      rw [h1] at z; cases z
end
section
variable {α β : Type} {P : Hp → List Addr → α → β → Prop} {g : Gd} {Hf : Hp} {ρ : List Addr} {σ : Slots} {τ : St} {Q : β → Hp → Prop} {S : Store} {a : α}
/-- a known result -/
theorem Post.triv : Post P g Hf ρ σ τ (fun b H' => ∃ Hf' ρ', Ext Hf ρ Hf' ρ' ∧ Rel g.K g.B Hf' ρ' σ S τ H' ∧ P Hf' ρ' a b) (.ok a S) := fun Hf' ρ' H' b e r p => ⟨Hf', ρ', e, r, p⟩
end
theorem R.bind_assoc {α β γ : Type} (r : R α) (f : α → Store → R β) (k : β → Store → R γ) : (r.bind f).bind k = r.bind fun a S => (f a S).bind k := by cases r <;> rfl

/-! ### readings -/
def rE (X : Cx) (Ex : XK) (t : Slots → Store → R W) : TE := fun τ H Q => ∃ B Hf ρ σ S, Rel X.K B Hf ρ σ S τ H ∧ Post (RepW X.K) (gd X B Ex) Hf ρ σ τ Q (t σ S)
def rT (X : Cx) (Ex : XK) (t : Slots → Store → R Bool) : TT := fun τ H Q => ∃ B Hf ρ σ S, Rel X.K B Hf ρ σ S τ H ∧ Post PB' (gd X B Ex) Hf ρ σ τ Q (t σ S)
def rA (X : Cx) (Ex : XK) (t : Slots → Store → R (List W)) : TA := fun τ H Q => ∃ B Hf ρ σ S, Rel X.K B Hf ρ σ S τ H ∧ Post (RepWs X.K) (gd X B Ex) Hf ρ σ τ Q (t σ S)
/-- what an iterator yields at a turn -/
def Yl (K : PySem.W.Frag) (Hf : Hp) (d : D) (x : V) (H2 H3 : Hp) : Prop :=
  (H3 = H2 ∧ RepD K Hf d x) ∨ ∃ p o, H2 p = none ∧ x = .ref p ∧ H3 = upd H2 p o ∧ ∀ Hf', Same Hf Hf' → Hf' p = some o → RepD K Hf' d x
def JOk (K : PySem.W.Frag) (Hf : Hp) (J : It) (ds : List D) : Prop := ∀ (i : Nat) (H2 : Hp), Same Hf H2 → (ds.length ≤ i → J.stop i H2) ∧ ∀ d, ds[i]? = some d → J.go i H2 ∧ ∀ x H3, J.yld i H2 x H3 → Yl K Hf d x H2 H3
def rI (X : Cx) (Ex : XK) (t : Slots → Store → R (List D)) : TI := fun τ H Q => ∃ B Hf ρ σ S, Rel X.K B Hf ρ σ S τ H ∧ Post (fun Hf _ ds J => JOk X.K Hf J ds) (gd X B Ex) Hf ρ σ τ Q (t σ S)
def PostG (X : Cx) (B : Bs) (Ex : XK) (Iv : St → Prop) (Hf : Hp) (ρ : List Addr) (Q : St → Hp → Prop) : R Slots → Prop
  | .ok σ' S' => ∀ Hf' ρ' τ' H', Ext Hf ρ Hf' ρ' → Rel X.K B Hf' ρ' σ' S' τ' H' → Iv τ' → Q τ' H'
  | .ex x S => ∀ Hf' ρ' H' cls d, Ext Hf ρ Hf' ρ' → Rel X.K B Hf' ρ' [] S [] H' → ExR X.K X.mg Hf' H' x cls d → Ex cls d H'
  | .bad => False
def rG (X : Cx) (Ex : XK) (Iv : St → Prop) (t : W → Slots → Store → R Slots) : TG := fun v τ H Q => Iv τ ∧ ∃ B Hf ρ σ S w, Rel X.K B Hf ρ σ S τ H ∧ RepW X.K Hf ρ w v ∧ PostG X B Ex Iv Hf ρ Q (t w σ S)
def rGs (X : Cx) (Ex : XK) (Iv : St → Prop) (t : List D → Slots → Store → R Slots) : TGs := fun vs τ H Q => Iv τ ∧ ∃ B Hf ρ σ S ds, Rel X.K B Hf ρ σ S τ H ∧ RepDs X.K Hf ds vs ∧ PostG X B Ex Iv Hf ρ Q (t ds σ S)
theorem PI.weak {X : Cx} {tg e : PySem.Expr} {t t' : TI} (h : PI X tg e t) (k : ∀ σ H Q, t' σ H Q → t σ H Q) : PI X tg e t' := ⟨fun pins s σ H Q I q => h.run pins s σ H Q I (k _ _ _ q)⟩
theorem PG.weak {X : Cx} {tg : PySem.Expr} {t t' : TG} (h : PG X tg t) (k : ∀ v σ H Q, t' v σ H Q → t v σ H Q) : PG X tg t' := ⟨fun pins s σ H v u Q I r q => h.run pins s σ H v u Q I r (k _ _ _ _ q)⟩
theorem PGs.weak {X : Cx} {tg : List PySem.Expr} {t t' : TGs} (h : PGs X tg t) (k : ∀ v σ H Q, t' v σ H Q → t v σ H Q) : PGs X tg t' := ⟨fun pins s σ H v u Q I r q => h.run pins s σ H v u Q I r (k _ _ _ _ q)⟩
section
variable {X : Cx} {B : Bs} {Ex : XK} {Iv : St → Prop} {Hf Hf1 : Hp} {ρ ρ1 : List Addr} {Q Q' : St → Hp → Prop}
theorem PostG.ext (e : Ext Hf ρ Hf1 ρ1) : ∀ {r : R Slots}, PostG X B Ex Iv Hf ρ Q r → PostG X B Ex Iv Hf1 ρ1 Q r
  | .ok a S, h => fun Hf' ρ' τ' H' e' => h Hf' ρ' τ' H' (e.trans e')
  | .ex x S, h => fun Hf' ρ' H' c d e' => h Hf' ρ' H' c d (e.trans e')
  | .bad, h => h
theorem PostG.bind {f : Slots → Store → R Slots} : ∀ {r : R Slots}, PostG X B Ex Iv Hf ρ Q (r.bind f) →
    PostG X B Ex Iv Hf ρ (fun τ' H' => Iv τ' ∧ ∃ Hf' ρ' σ' S', Ext Hf ρ Hf' ρ' ∧ Rel X.K B Hf' ρ' σ' S' τ' H' ∧ PostG X B Ex Iv Hf' ρ' Q (f σ' S')) r
  | .ok a S, h => fun Hf' ρ' τ' H' e' r i => ⟨i, Hf', ρ', a, S, e', r, PostG.ext e' h⟩
  | .ex x S, h => h
  | .bad, h => h
/-- an expression's result ahead of a store -/
theorem PostG.ebind {σ : Slots} {τ : St} {f : W → Store → R Slots} : ∀ {r : R W}, PostG X B Ex Iv Hf ρ Q (r.bind f) →
    Post (RepW X.K) (gd X B Ex) Hf ρ σ τ (fun v H' => ∃ Hf' ρ' S' w, Ext Hf ρ Hf' ρ' ∧ Rel X.K B Hf' ρ' σ S' τ H' ∧ RepW X.K Hf' ρ' w v ∧ PostG X B Ex Iv Hf' ρ' Q (f w S')) r
  | .ok a S, h => fun Hf' ρ' H' v e' r p => ⟨Hf', ρ', S, a, e', r, p, PostG.ext e' h⟩
  | .ex x S, h => h
  | .bad, h => h
end

/-! ### what a def promises -/
def spZ (K : PySem.W.Frag) (mg : Str → Option Value) (n : Nat) (f : FnSem) : Sp := fun vs H Q E => vs.length = n ∧ ∃ Hf ρ S ws, Rel K ⟨H, Hf, ρ⟩ Hf ρ [] S [] H ∧ RepWs K Hf ρ ws vs ∧ Post (RepW K) ⟨K, mg, ⟨H, Hf, ρ⟩, E⟩ Hf ρ [] [] Q (f ws S)
def bnames : List Str := ["len", "min", "max", "sum", "all", "any", "sorted", "list", "tuple", "int", "abs", "isinstance", "range", "zip", "enumerate", "bool", "str"]
structure FnC (X : Cx) (k : Nat) (x : Str) (n : Nat) (f : FnSem) : Prop where
  ex : ∃ (a : Addr) (fd : FuncData) (ps : List Str), ps.length = n ∧ FnOk X.prog X.w X.K X.mg X.base (L2.CX X.prog X.w) k a fd ps (spZ X.K X.mg ps.length f) ∧ X.mg x = some (.ref a) ∧ PySem.W.keepIn X.K (.ref a) = true ∧ Binds X.K fd ps []
/-- a class of the module: its fields' names -/
structure ClC (K : PySem.W.Frag) (C : Str) (fs : List Str) : Prop where
  ex : ∃ Ca, PySem.W.nsIn K mainGlobals C = some (some (.ref Ca)) ∧ Cls K Ca ∧ fs.Nodup ∧ fs.length < 900 ∧ ∀ f ∈ fs, NoAttr K Ca f
/-- a method -/
structure MtC (X : Cx) (k : Nat) (C m : Str) (n : Nat) (f : FnSem) : Prop where
  ex : ∃ (Ca a : Addr) (fd : FuncData) (ps : List Str), PySem.W.nsIn X.K mainGlobals C = some (some (.ref Ca)) ∧ Cls X.K Ca ∧ Meth X.K Ca m a ∧ ps.length = n ∧ FnOk X.prog X.w X.K X.mg X.base (L2.CX X.prog X.w) k a fd ps (spZ X.K X.mg ps.length f) ∧ Binds X.K fd ps []
/-- a class's making, by its __init__ -/
structure MkC (X : Cx) (k : Nat) (C : Str) (fs : List Str) (n : Nat) (f : FnSem) : Prop where
  ex : ∃ (j : Nat) (Ca a : Addr) (fd : FuncData) (ps : List Str), j + 1 ≤ k ∧ PySem.W.nsIn X.K mainGlobals C = some (some (.ref Ca)) ∧ X.mg C = some (.ref Ca) ∧ Mk X.K Ca a ∧ ps.length = n ∧ FnOk X.prog X.w X.K X.mg X.base (L2.CX X.prog X.w) j a fd ps (spZ X.K X.mg ps.length f) ∧ Binds X.K fd ps []
/-- a dict of the module -/
structure TabC (K : PySem.W.Frag) (w : World) (mg : Str → Option Value) (x : Str) (ps : List (Str × Option D)) : Prop where
  ex : ∃ (d : Addr) (es : Array DictEntry) (n : Nat), mg x = some (.ref d) ∧ KDict K w d es n ∧ ∀ (s : Str) (o : Option D), ps.lookup s = some o → match o with
    | none => PySem.W.nsIn K d s = some none
    | some y => ∃ u v, PySem.W.nsIn K d s = some (some u) ∧ RelV v u ∧ ∀ Hf, RepD K Hf y v
structure Good (G : GT) (N : List Str) (sc : Scope) (Ex : XK) (X : Cx) : Prop where
  hN : X.N = N
  nd : N.Nodup
  hsc : X.env.scope = sc
  calm : X.calm = true
  tk : Takes X (fun cls d _ H => Ex cls d H)
  room : ∃ k, Room k X.A ∧ (∀ (i : Nat) (x : Str) (n : Nat) (f : FnSem), G[i]? = some (x, Gv.fn n f) → FnC X k x n f) ∧
    (∀ (i : Nat) (x C m : Str) (n : Nat) (f : FnSem), G[i]? = some (x, Gv.mth C m n f) → MtC X k C m n f) ∧ (∀ (i : Nat) (x : Str) (fs : List Str) (n : Nat) (f : FnSem), G[i]? = some (x, Gv.mk fs n f) → MkC X k x fs n f)
  cls : ∀ (i : Nat) (x : Str) (fs : List Str), G[i]? = some (x, Gv.cls fs) → ClC X.K x fs
  blt : ∀ x ∈ bnames, X.mg x = none
  tab : ∀ (i : Nat) (x : Str) (ps : List (Str × Option D)), G[i]? = some (x, Gv.tab ps) → TabC X.K X.w X.mg x ps
  con : ∀ (i : Nat) (x : Str) (d : D), G[i]? = some (x, Gv.con d) → ∃ v u, X.mg x = some u ∧ RelV v u ∧ ∀ Hf, RepD X.K Hf d v
theorem Good.blk {G : GT} {N : List Str} {sc : Scope} {Ex : XK} {X : Cx} (g : Good G N sc Ex X) (s : Shared) (H : Hp) (scope : Scope) (cl : List (Str × Addr)) (C : Addr) (fp : List Addr) :
    Good G N (relS scope sc) (fun _ _ _ => False) (X.blk s H scope (compEnvC scope cl C X.env) fp) where
  hN := g.hN
  nd := g.nd
  hsc := by rw [← g.hsc]; rfl
  calm := g.calm
  tk := takes0
  room := by
    obtain ⟨k, h1, h2, h3, h4⟩ := g.room
    exact ⟨k, h1, fun i x n f e => ⟨(h2 i x n f e).ex⟩, fun i x C m n f e => ⟨(h3 i x C m n f e).ex⟩, fun i x fs n f e => ⟨(h4 i x fs n f e).ex⟩⟩
  cls := g.cls
  blt := g.blt
  tab := g.tab
  con := g.con

/-! ### side conditions of trees -/
def plainE : PySem.Expr → Bool
  | .Starred _ _ => false
  | _ => true
def plainEs : List PySem.Expr → Bool
  | [] => true
  | e :: es => plainE e && plainEs es
theorem star_of {e : PySem.Expr} {es : List PySem.Expr} {env : Env} (h : plainE e = true) : starEach (e :: es) env = (false, eval e env) :: starEach es env := by
  cases e <;> first | rfl | simp [plainE] at h
theorem star_any {pos : Pos} {env : Env} : ∀ {es : List PySem.Expr}, plainEs es = true → (backTo pos (starEach es env)).any (·.1) = false
  | [], _ => rfl
  | e :: es, h => by
    simp only [plainEs, Bool.and_eq_true] at h
    rw [star_of h.1]
    have ih := star_any (pos := pos) (env := env) h.2
    unfold backTo at ih ⊢
    rw [List.map_cons, List.any_cons, ih]
    rfl
theorem star_len {env : Env} : ∀ {es : List PySem.Expr}, (starEach es env).length = es.length
  | [] => rfl
  | e :: es => by cases e <;> simp [starEach, star_len (es := es)]
theorem star_few {pos : Pos} {env : Env} {es : List PySem.Expr} (h : plainEs es = true) : ((backTo pos (starEach es env)).all fun x => !x.1) = true := by
  have q := star_any (pos := pos) (env := env) h
  rw [List.all_eq_true]
  intro x hx
  cases hb : x.1 with
  | false => rfl
  | true =>
    have : (backTo pos (starEach es env)).any (·.1) = true := List.any_eq_true.mpr ⟨x, hx, hb⟩
    rw [q] at this; cases this
def plainBase : PySem.Expr → Bool
  | .Call _ _ _ _ => false
  | _ => true
theorem base_of {e : PySem.Expr} {name : Str} {env : Env} {wh : Sem Value} (h : plainBase e = true) : attributeBase e name env wh = wh := by
  cases e <;> first | rfl | simp [plainBase] at h
def plainVal : PySem.Expr → Bool
  | .ListComp .. => false | .SetComp .. => false | .DictComp .. => false
  | _ => true
theorem swaps_of {e : PySem.Expr} {t : Option PySem.Expr} {l : Nat} {env : Env} (h : plainVal e = true) : swapsWith e t l env = pure false := by
  cases e <;> first | rfl | simp [plainVal] at h
def plainTest : PySem.Expr → Bool
  | .UnaryOp _ _ _ => false | .BoolOp _ _ _ => false | .IfExp _ _ _ _ => false | .Compare _ _ _ _ => false
  | _ => true
theorem test_of {e : PySem.Expr} {env : Env} (h : plainTest e = true) : ∀ whole, isTrue e env whole = (do let v ← whole; standAt e.pos; holding [v] (truthy v)) := by
  intro whole
  cases e <;> first | rfl | simp [plainTest] at h
def plainIt : PySem.Expr → Bool
  | .Set _ _ _ => false
  | _ => true
theorem iter_of {e : PySem.Expr} {env : Env} (h : plainIt e = true) : ∀ x, foldedSetIterable e env x = pure x := by
  intro x
  cases e <;> first | rfl | simp [plainIt] at h
theorem behind_of {e : PySem.Expr} {op : CmpOp} (h : plainIt e = true) : behindInMarks op e = false := by
  cases e <;> first | rfl | simp [plainIt] at h
def plainIx : PySem.Expr → Bool
  | .Slice _ _ _ _ => false
  | _ => true
theorem ix_of {e : PySem.Expr} (h : plainIx e = true) : PlainIx e := by
  intro o i
  cases e <;> first | rfl | simp [plainIx] at h
def visB (sc : Scope) (x : Str) : Bool := match sc.names.lookup x with | some .local => true | some .cell => true | some .free => true | _ => false
def locB (sc : Scope) (x : Str) : Bool := match sc.names.lookup x with | some .local => true | some .cell => true | _ => false
def lclB (sc : Scope) (x : Str) : Bool := match sc.names.lookup x with | some .local => true | _ => false
def glB (sc : Scope) (x : Str) : Bool := match sc.names.lookup x with | some .globalImplicit => true | _ => false
def isN (N : List Str) (i : Nat) (x : Str) : Bool := match N[i]? with | some y => y == x | none => false
def dunB (x : Str) : Bool := !(x == ("__debug__" : Str)) && !(x == ("__classdict__" : Str)) && !(x == ("__name__" : Str))
theorem vis_of {sc : Scope} {x : Str} (h : visB sc x = true) : Vis sc x := by
  unfold visB at h
  unfold Vis
  split at h <;> first | (rename_i e; rw [e]; simp) | cases h
theorem loc_of {sc : Scope} {x : Str} (h : locB sc x = true) : L2.Loc sc x := by
  unfold locB at h
  unfold L2.Loc
  split at h <;> first | (rename_i e; rw [e]; simp) | cases h
theorem lcl_of {sc : Scope} {x : Str} (h : lclB sc x = true) : sc.names.lookup x = some .local := by
  unfold lclB at h
  split at h <;> first | assumption | cases h
theorem gl_of {X : Cx} {sc : Scope} {x : Str} (hs : X.env.scope = sc) (h : glB sc x = true) : Gl X x := by
  unfold glB at h
  unfold Gl Env.kindOf
  rw [hs]
  split at h <;> first | assumption | cases h
theorem isN_of {N : List Str} {i : Nat} {x : Str} (h : isN N i x = true) : N[i]? = some x := by
  unfold isN at h
  split at h
  · rename_i e; rw [e, eq_of_beq h]
  · cases h
theorem dun_of {x : Str} (h : dunB x = true) : (x == ("__debug__" : Str)) = false ∧ (x == ("__classdict__" : Str)) = false ∧ x ≠ "__name__" := by
  unfold dunB at h
  simp only [Bool.and_eq_true, Bool.not_eq_true'] at h
  exact ⟨h.1.1, h.1.2, fun e => by rw [e] at h; simp at h⟩
end Zz

set_option Elab.async false
set_option linter.all false
set_option maxRecDepth 100000
set_option maxHeartbeats 4000000
set_option autoImplicit false
namespace Zz
open PySem PySem.Spec PyProof.Rows L2
section
variable {X : Cx} {Ex : XK} {G : GT} {N : List Str} {sc : Scope} {e1 e2 e3 : PySem.Expr} {es : List PySem.Expr} {pos p apos : Pos} {ta tb tc : Slots → Store → R W} {tes : Slots → Store → R (List W)}

/-! ### leaves -/
theorem s_var {i : Nat} {x : Str} (g : Good G N sc Ex X) (h1 : visB sc x = true) (h2 : isN N i x = true) (h3 : dunB x = true) :
    PE X (.Name x pos) (rE X Ex fun σ S => match σ[i]? with | some (some w) => .ok w S | _ => .bad) := by
  obtain ⟨d1, d2, d3⟩ := dun_of h3
  refine PE.weak (pe_var (i := i) (by rw [g.hN]; exact isN_of h2) (by rw [g.hsc]; exact vis_of h1) d1 d2) fun τ H Q ⟨B, Hf, ρ, σ, S, h, q⟩ => ?_
  dsimp only at q
  split at q
  · rename_i w e
    obtain ⟨v, k1, k2⟩ := h.slot i w e
    exact ⟨v, k1, Post.done (g := gd X B Ex) h q k2⟩
  · exact q.elim
theorem cst_ok {c : Const} {d : D} (h : cstD c = some d) {j : Nat} : PE X (.Constant c j pos) (fun _ H Q => ∀ v, (∀ (K : PySem.W.Frag) (Hf : Hp), RepD K Hf d v) → Q v H) := by
  unfold cstD at h
  split at h
  · cases h; exact PE.weak pe_non fun τ H Q q => q .non fun K Hf => by simp only [RepD]
  · cases h; exact PE.weak pe_bl fun τ H Q q => q (.bl _) fun K Hf => by simp only [RepD]
  · cases h; exact PE.weak pe_int fun τ H Q q => q (.int _) fun K Hf => by simp only [RepD]
  · cases h; exact PE.weak pe_str fun τ H Q q => q (.str _) fun K Hf => by simp only [RepD]
  · cases h
theorem s_cst {c : Const} {j : Nat} (hc : (cstD c).isSome = true) : PE X (.Constant c j pos) (rE X Ex fun _ S => match cstD c with | some d => .ok (.v d) S | none => .bad) := by
  cases e : cstD c with
  | none => rw [e] at hc; cases hc
  | some d => exact PE.weak (cst_ok e) fun τ H Q ⟨B, Hf, ρ, σ, S, h, q⟩ v r => Post.done (g := gd X B Ex) (w := .v d) h q (r _ _)
theorem s_glb {k : Nat} {x : Str} {d : D} (g : Good G N sc Ex X) (h1 : glB sc x = true) (h2 : G[k]? = some (x, .con d)) (h3 : dunB x = true) :
    PE X (.Name x pos) (rE X Ex fun _ S => match G[k]? with | some (_, .con d) => .ok (.v d) S | _ => .bad) := by
  obtain ⟨d1, d2, d3⟩ := dun_of h3
  obtain ⟨v, u, k1, k2, k3⟩ := g.con k x d h2
  refine PE.weak (pe_glob (gl_of g.hsc h1) k1 k2 d1) fun τ H Q ⟨B, Hf, ρ, σ, S, h, q⟩ => ?_
  dsimp only at q
  rw [h2] at q
  exact Post.done (g := gd X B Ex) (w := .v d) h q (k3 _)

/-! ### a dict of the module -/
theorem s_tin {k : Nat} {x : Str} {ps : List (Str × Option D)} {neg : Bool} {p' : Pos} (g : Good G N sc Ex X) (h1 : glB sc x = true) (h2 : G[k]? = some (x, .tab ps)) (h3 : dunB x = true) (ha : PE X e1 (rE X Ex ta)) :
    PE X (.Compare e1 [if neg then .NotIn else .In] [.Name x p'] pos) (rE X Ex fun σ S => (ta σ S).bind fun x S1 => match G[k]? with | some (_, .tab ps) => (match tabW ps x with | some o => .ok (.v (.bl (if neg then !o.isSome else o.isSome))) S1 | none => .bad) | _ => .bad) := by
  obtain ⟨d1, d2, d3⟩ := dun_of h3
  obtain ⟨d, es, n, m1, kd, kf⟩ := (g.tab k x ps h2).ex
  have hn : PE X (.Name x p') (tC (.ref d)) := pe_glob (gl_of g.hsc h1) m1 rfl d1
  have key : ∀ (B : Bs) (Hf : Hp) (ρ : List Addr) (σ : Slots) (S : Store) (τ : St) (H : Hp) (w : W) (v : V) (Q : VK), Rel X.K B Hf ρ σ S τ H → RepW X.K Hf ρ w v →
      Post (RepW X.K) (gd X B Ex) Hf ρ σ τ Q (match tabW ps w with | some o => .ok (.v (.bl (if neg then !o.isSome else o.isSome))) S | none => .bad) →
      ∃ (z : Str) (r : Option Value), v = .str z ∧ V.ref d = .ref d ∧ PySem.W.nsIn X.K d z = some r ∧ Q (.bl (if neg then !r.isSome else r.isSome)) H := by
    intro B Hf ρ σ S τ H w v Q h r q
    unfold tabW at q
    split at q
    · rename_i o ho
      split at ho
      · rename_i s
        have r : RepD X.K Hf (.str s) v := r
        simp only [RepD] at r
        subst r
        have f := kf s o ho
        have q1 : ∀ b, b = (if neg then !o.isSome else o.isSome) → Q (.bl b) H := fun b hb => by subst hb; exact Post.done (g := gd X B Ex) h q repOfBl
        cases o with
        | none => exact ⟨s, none, rfl, rfl, f, q1 _ rfl⟩
        | some y =>
          obtain ⟨u, v, f1, f2, f3⟩ := f
          exact ⟨s, some u, rfl, rfl, f1, q1 _ rfl⟩
      · cases ho
    · exact q.elim
  cases neg with
  | true =>
    refine PE.weak (pe_cmpR (op_notIn_kd kd) ha hn (by rfl)) fun τ H Q ⟨B, Hf, ρ, σ, S, h, q⟩ => ⟨B, Hf, ρ, σ, S, h, (Post.bind q).imp fun v H1 ⟨Hf1, ρ1, S1, w, e1, h1, r1, q1⟩ => ?_⟩
    rw [h2] at q1
    exact key B Hf1 ρ1 σ S1 τ H1 w v Q h1 r1 q1
  | false =>
    refine PE.weak (pe_cmpR (op_in_kd kd) ha hn (by rfl)) fun τ H Q ⟨B, Hf, ρ, σ, S, h, q⟩ => ⟨B, Hf, ρ, σ, S, h, (Post.bind q).imp fun v H1 ⟨Hf1, ρ1, S1, w, e1, h1, r1, q1⟩ => ?_⟩
    rw [h2] at q1
    exact key B Hf1 ρ1 σ S1 τ H1 w v Q h1 r1 q1
theorem s_tinT {k : Nat} {x : Str} {ps : List (Str × Option D)} {neg : Bool} {p' : Pos} (g : Good G N sc Ex X) (h1 : glB sc x = true) (h2 : G[k]? = some (x, .tab ps)) (h3 : dunB x = true) (ha : PE X e1 (rE X Ex ta)) :
    PT X (.Compare e1 [if neg then .NotIn else .In] [.Name x p'] pos) (rT X Ex fun σ S => ((ta σ S).bind fun x S1 => match G[k]? with | some (_, .tab ps) => (match tabW ps x with | some o => .ok (.v (.bl (if neg then !o.isSome else o.isSome))) S1 | none => .bad) | _ => .bad).bind truR) := by
  obtain ⟨d1, d2, d3⟩ := dun_of h3
  obtain ⟨d, es, n, m1, kd, kf⟩ := (g.tab k x ps h2).ex
  have hn : PE X (.Name x p') (tC (.ref d)) := pe_glob (gl_of g.hsc h1) m1 rfl d1
  have key : ∀ (B : Bs) (Hf : Hp) (ρ : List Addr) (σ : Slots) (S : Store) (τ : St) (H : Hp) (w : W) (v : V) (Q : Bool → Hp → Prop), Rel X.K B Hf ρ σ S τ H → RepW X.K Hf ρ w v →
      Post PB' (gd X B Ex) Hf ρ σ τ Q ((match tabW ps w with | some o => R.ok (W.v (D.bl (if neg then !o.isSome else o.isSome))) S | none => R.bad).bind truR) →
      ∃ (z : Str) (r : Option Value), v = .str z ∧ V.ref d = .ref d ∧ PySem.W.nsIn X.K d z = some r ∧ Q (if neg then !r.isSome else r.isSome) H := by
    intro B Hf ρ σ S τ H w v Q h r q
    unfold tabW at q
    split at q
    · rename_i o ho
      split at ho
      · rename_i s
        have r : RepD X.K Hf (.str s) v := r
        simp only [RepD] at r
        subst r
        have f := kf s o ho
        have q1 : Q (if neg then !o.isSome else o.isSome) H := q _ _ _ _ (Ext.refl _ _) h rfl
        cases o with
        | none => exact ⟨s, none, rfl, rfl, f, q1⟩
        | some y =>
          obtain ⟨u, v, f1, f2, f3⟩ := f
          exact ⟨s, some u, rfl, rfl, f1, q1⟩
      · cases ho
    · exact q.elim
  cases neg with
  | true =>
    refine PT.weak (pt_cmpR (op_notIn_kd kd) ha hn (by rfl)) fun τ H Q ⟨B, Hf, ρ, σ, S, h, q⟩ => ?_
    dsimp only at q
    rw [R.bind_assoc] at q
    refine ⟨B, Hf, ρ, σ, S, h, (Post.bind q).imp fun v H1 ⟨Hf1, ρ1, S1, w, e1, h1, r1, q1⟩ => ?_⟩
    rw [h2] at q1
    obtain ⟨z, r, k1, k2, k3, k4⟩ := key B Hf1 ρ1 σ S1 τ H1 w v Q h1 r1 q1
    exact ⟨z, r, k1, k2, k3, _, rfl, k4⟩
  | false =>
    refine PT.weak (pt_cmpR (op_in_kd kd) ha hn (by rfl)) fun τ H Q ⟨B, Hf, ρ, σ, S, h, q⟩ => ?_
    dsimp only at q
    rw [R.bind_assoc] at q
    refine ⟨B, Hf, ρ, σ, S, h, (Post.bind q).imp fun v H1 ⟨Hf1, ρ1, S1, w, e1, h1, r1, q1⟩ => ?_⟩
    rw [h2] at q1
    obtain ⟨z, r, k1, k2, k3, k4⟩ := key B Hf1 ρ1 σ S1 τ H1 w v Q h1 r1 q1
    exact ⟨z, r, k1, k2, k3, _, rfl, k4⟩
theorem s_tix {k : Nat} {x : Str} {ps : List (Str × Option D)} {p' : Pos} (g : Good G N sc Ex X) (h1 : glB sc x = true) (h2 : G[k]? = some (x, .tab ps)) (h3 : dunB x = true) (hp : PlainIx e1) (ha : PE X e1 (rE X Ex ta)) :
    PE X (.Subscript (.Name x p') e1 pos) (rE X Ex fun σ S => (ta σ S).bind fun x S1 => match G[k]? with | some (_, .tab ps) => (match tabW ps x with | some (some d) => .ok (.v d) S1 | _ => .bad) | _ => .bad) := by
  obtain ⟨d1, d2, d3⟩ := dun_of h3
  obtain ⟨d, es, n, m1, kd, kf⟩ := (g.tab k x ps h2).ex
  have hn : PE X (.Name x p') (tC (.ref d)) := pe_glob (gl_of g.hsc h1) m1 rfl d1
  refine PE.weak (pe_ix ix_kdict hn ha hp) fun τ H Q ⟨B, Hf, ρ, σ, S, h, q⟩ => ⟨B, Hf, ρ, σ, S, h, (Post.bind q).imp fun v H1 ⟨Hf1, ρ1, S1, w, e1, h1, r1, q1⟩ => ?_⟩
  rw [h2] at q1
  dsimp only at q1
  unfold tabW at q1
  split at q1
  · rename_i y hy
    split at hy
    · rename_i s
      have r1 : RepD X.K Hf1 (.str s) v := r1
      simp only [RepD] at r1
      subst r1
      obtain ⟨u, v, f1, f2, f3⟩ := kf s (some y) hy
      exact ⟨d, s, v, rfl, rfl, ⟨es, n, u, kd.at_, kd.lit, f1, f2⟩, Post.done (g := gd X B Ex) (w := .v y) h1 q1 (f3 _)⟩
    · cases hy
  · exact q1.elim

/-! ### operators -/
theorem s_two {r : R2} {f : W → W → Store → R W} {e : PySem.Expr} {X' : Cx} (hp : ∀ ta tb : TE, PE X e1 ta → PE X e2 tb → PE X e (tOp r ta tb)) (hs : ∀ B, Step2 X B Ex r f) (ha : PE X e1 (rE X Ex ta)) (hb : PE X e2 (rE X Ex tb)) :
    PE X e (rE X Ex fun σ S => (ta σ S).bind fun x S1 => (tb σ S1).bind fun y S2 => f x y S2) :=
  PE.weak (hp _ _ ha hb) fun τ H Q ⟨B, Hf, ρ, σ, S, h, q⟩ => ⟨B, Hf, ρ, σ, S, h, (Post.bind q).imp fun v H1 ⟨Hf1, ρ1, S1, w, e1, h1, r1, q1⟩ => ⟨B, Hf1, ρ1, σ, S1, h1, (Post.bind q1).imp fun u H2 ⟨Hf2, ρ2, S2, w2, e2, h2, r2, q2⟩ =>
    hs B Hf2 ρ2 σ S2 τ H2 w w2 v u Q h2 (r1.mono e2.f e2.r) r2 q2⟩⟩
theorem s_never {e : PySem.Expr} {t : Slots → Store → R W} (h : ∀ σ S, t σ S = .bad) : PE X e (rE X Ex t) := ⟨fun pins s σ H Q I ⟨B, Hf, ρ, σw, S, _, q⟩ => by rw [h] at q; exact q.elim⟩
theorem s_bin {op : Operator} {r : Bool} (ha : PE X e1 (rE X Ex ta)) (hb : PE X e2 (rE X Ex tb)) : PE X (.BinOp e1 op e2 pos) (rE X Ex fun σ S => (ta σ S).bind fun x S1 => (tb σ S1).bind fun y S2 => binW op r x y S2) := by
  obtain ⟨rr, ho, _⟩ := st_bin (X := X) (B := ⟨fun _ => none, fun _ => none, []⟩) (E := Ex) op r
  cases op with
  | Add => exact s_two (X' := X) (fun _ _ h1 h2 => pe_op ob_add h1 h2) (fun _ => st_add r) ha hb
  | Sub => exact s_two (X' := X) (fun _ _ h1 h2 => pe_op op_sub h1 h2) (fun _ => st_sub) ha hb
  | Mult => exact s_two (X' := X) (fun _ _ h1 h2 => pe_op ob_mul h1 h2) (fun _ => st_mul r) ha hb
  | FloorDiv => exact s_two (X' := X) (fun _ _ h1 h2 => pe_op op_fdivN h1 h2) (fun _ => st_div) ha hb
  | Mod => exact s_two (X' := X) (fun _ _ h1 h2 => pe_op op_modN h1 h2) (fun _ => st_mod) ha hb
  | Pow => exact s_two (X' := X) (fun _ _ h1 h2 => pe_op op_pow h1 h2) (fun _ => st_pow) ha hb
  | _ =>
    exact ⟨fun pins s σ H Q I ⟨B, Hf, ρ, σw, S, h, q⟩ => by
      refine wpAny_BinOp (thn (ha.run pins s σ H _ I ⟨B, Hf, ρ, σw, S, h, Post.bind q⟩) fun v s1 ⟨x, H1, I1, r1, Hf1, ρ1, S1, w, e1, h1, rw1, q1⟩ => ?_)
      refine thn (hb.run pins s1 σ H1 _ I1 ⟨B, Hf1, ρ1, σw, S1, h1, Post.bind q1⟩) fun u s2 ⟨y, H2, I2, r2, Hf2, ρ2, S2, w2, e2, h2, rw2, q2⟩ => ?_
      exact (q2 : False).elim⟩
theorem s_cmp {op : CmpOp} (g : Good G N sc Ex X) (hm : behindInMarks op e2 = false) (ha : PE X e1 (rE X Ex ta)) (hb : PE X e2 (rE X Ex tb)) :
    PE X (.Compare e1 [op] [e2] pos) (rE X Ex fun σ S => (ta σ S).bind fun x S1 => (tb σ S1).bind fun y S2 => cmpW op x y S2) := by
  obtain ⟨k, hr, _⟩ := g.room
  have hu := hr.units
  have hu2 : X.A.units + 65 < cLine := by have := hr.un; omega
  have hu3 : X.A.units + 1 < cLine := by omega
  cases op with
  | Eq => exact s_two (X' := X) (fun _ _ h1 h2 => pe_cmpR (op_eqD hu) h1 h2 hm) (fun _ => st_eq) ha hb
  | NotEq => exact s_two (X' := X) (fun _ _ h1 h2 => pe_cmpR (op_neD hu) h1 h2 hm) (fun _ => st_ne) ha hb
  | Lt => exact s_two (X' := X) (fun _ _ h1 h2 => pe_cmpR op_lt h1 h2 hm) (fun _ => st_lt _) ha hb
  | LtE => exact s_two (X' := X) (fun _ _ h1 h2 => pe_cmpR op_le h1 h2 hm) (fun _ => st_lt _) ha hb
  | Gt => exact s_two (X' := X) (fun _ _ h1 h2 => pe_cmpR op_gt h1 h2 hm) (fun _ => st_lt fun i j => decide (j < i)) ha hb
  | GtE => exact s_two (X' := X) (fun _ _ h1 h2 => pe_cmpR op_ge h1 h2 hm) (fun _ => st_lt fun i j => decide (j ≤ i)) ha hb
  | Is => exact s_two (X' := X) (fun _ _ h1 h2 => pe_cmpR op_isN h1 h2 hm) (fun _ => st_is) ha hb
  | IsNot => exact s_two (X' := X) (fun _ _ h1 h2 => pe_cmpR op_notN h1 h2 hm) (fun _ => st_isnot) ha hb
  | In => exact s_two (X' := X) (fun _ _ h1 h2 => pe_cmpR ((op_in_seq.or (op_inD hu2)).or (op_inK hu3)) h1 h2 hm) (fun _ => st_in) ha hb
  | NotIn => exact s_two (X' := X) (fun _ _ h1 h2 => pe_cmpR ((op_notIn_seq.or (op_notInD hu2)).or (op_notInK hu3)) h1 h2 hm) (fun _ => st_notin) ha hb
/-- a test from a value's semantics -/
theorem tr_bl {K : PySem.W.Frag} {Hf : Hp} {ρ : List Addr} {b : Bool} {v : V} (h : RepW K Hf ρ (.v (.bl b)) v) : v = .bl b := by simpa only [RepW, RepD] using h
theorem cmp_bl {op : CmpOp} {x y : W} {S : Store} : (∃ b, cmpW op x y S = .ok (.v (.bl b)) S) ∨ cmpW op x y S = .bad := by
  cases op <;> simp only [cmpW, ltW, eqW, isW, inW]
  all_goals (repeat' (first | (refine .inl ⟨_, rfl⟩; done) | (refine .inr rfl; done) | split))
theorem s_cmpT {op : CmpOp} (g : Good G N sc Ex X) (hm : behindInMarks op e2 = false) (ha : PE X e1 (rE X Ex ta)) (hb : PE X e2 (rE X Ex tb)) :
    PT X (.Compare e1 [op] [e2] pos) (rT X Ex fun σ S => ((ta σ S).bind fun x S1 => (tb σ S1).bind fun y S2 => cmpW op x y S2).bind truR) := by
  obtain ⟨k, hr, _⟩ := g.room
  obtain ⟨rr, ho, _⟩ := st_cmp (B := ⟨fun _ => none, fun _ => none, []⟩) (E := Ex) hr op
  have key : ∀ B, Step2 X B Ex rr (cmpW op) → True := fun _ _ => trivial
  have gen : ∀ (r : R2), OpR X (compareOp op) r → (∀ B, Step2 X B Ex r (cmpW op)) → PT X (.Compare e1 [op] [e2] pos) (rT X Ex fun σ S => ((ta σ S).bind fun x S1 => (tb σ S1).bind fun y S2 => cmpW op x y S2).bind truR) := by
    intro r ho hs
    refine PT.weak (pt_cmpR ho ha hb hm) fun τ H Q ⟨B, Hf, ρ, σ, S, h, q⟩ => ?_
    dsimp only at q
    rw [R.bind_assoc] at q
    refine ⟨B, Hf, ρ, σ, S, h, (Post.bind q).imp fun v H1 ⟨Hf1, ρ1, S1, w, e1, h1, r1, q1⟩ => ?_⟩
    rw [R.bind_assoc] at q1
    refine ⟨B, Hf1, ρ1, σ, S1, h1, (Post.bind q1).imp fun u H2 ⟨Hf2, ρ2, S2, w2, e2, h2, r2, q2⟩ => ?_⟩
    refine hs B Hf2 ρ2 σ S2 τ H2 w w2 v u _ h2 (r1.mono e2.f e2.r) r2 ?_
    rcases cmp_bl (op := op) (x := w) (y := w2) (S := S2) with ⟨b, eb⟩ | eb
    · rw [eb] at q2 ⊢
      exact fun Hf' ρ' H' v' e' h' r' => ⟨b, tr_bl r', q2 Hf' ρ' H' b e' h' rfl⟩
    · rw [eb] at q2; exact q2.elim
  have hu := hr.units
  have hu2 : X.A.units + 65 < cLine := by have := hr.un; omega
  have hu3 : X.A.units + 1 < cLine := by omega
  cases op with
  | Eq => exact gen _ (op_eqD hu) (fun _ => st_eq)
  | NotEq => exact gen _ (op_neD hu) (fun _ => st_ne)
  | Lt => exact gen _ op_lt (fun _ => st_lt _)
  | LtE => exact gen _ op_le (fun _ => st_lt _)
  | Gt => exact gen _ op_gt (fun _ => st_lt fun i j => decide (j < i))
  | GtE => exact gen _ op_ge (fun _ => st_lt fun i j => decide (j ≤ i))
  | Is => exact gen _ op_isN (fun _ => st_is)
  | IsNot => exact gen _ op_notN (fun _ => st_isnot)
  | In => exact gen _ ((op_in_seq.or (op_inD hu2)).or (op_inK hu3)) (fun _ => st_in)
  | NotIn => exact gen _ ((op_notIn_seq.or (op_notInD hu2)).or (op_notInK hu3)) (fun _ => st_notin)
/-- a chain of two int comparisons, or of others -/
def chW (op op' : CmpOp) (ta tb tc : Slots → Store → R W) : Slots → Store → R W := fun σ S => (ta σ S).bind fun x S1 => (tb σ S1).bind fun y S2 => (cmpW op x y S2).bind fun z S3 => match z with
      | .v (.bl true) => (tc σ S3).bind fun u S4 => cmpW op' y u S4
      | .v (.bl false) => .ok (.v (.bl false)) S3
      | _ => .bad
theorem cmp_rule (g : Good G N sc Ex X) (op : CmpOp) : ∃ r : R2, OpR X (compareOp op) r ∧ ∀ B, Step2 X B Ex r (cmpW op) := by
  obtain ⟨k, hr, _⟩ := g.room
  have hu := hr.units
  have hu2 : X.A.units + 65 < cLine := by have := hr.un; omega
  have hu3 : X.A.units + 1 < cLine := by omega
  cases op with
  | Eq => exact ⟨_, (op_eqD hu), (fun _ => st_eq)⟩
  | NotEq => exact ⟨_, (op_neD hu), (fun _ => st_ne)⟩
  | Lt => exact ⟨_, op_lt, (fun _ => st_lt _)⟩
  | LtE => exact ⟨_, op_le, (fun _ => st_lt _)⟩
  | Gt => exact ⟨_, op_gt, (fun _ => st_lt fun i j => decide (j < i))⟩
  | GtE => exact ⟨_, op_ge, (fun _ => st_lt fun i j => decide (j ≤ i))⟩
  | Is => exact ⟨_, op_isN, (fun _ => st_is)⟩
  | IsNot => exact ⟨_, op_notN, (fun _ => st_isnot)⟩
  | In => exact ⟨_, ((op_in_seq.or (op_inD hu2)).or (op_inK hu3)), (fun _ => st_in)⟩
  | NotIn => exact ⟨_, ((op_notIn_seq.or (op_notInD hu2)).or (op_notInK hu3)), (fun _ => st_notin)⟩
theorem s_chain {op op' : CmpOp} (g : Good G N sc Ex X) (hn : lastMarks [op, op'] [e2, e3] = false) (ha : PE X e1 (rE X Ex ta)) (hb : PE X e2 (rE X Ex tb)) (hc : PE X e3 (rE X Ex tc))
    (pc : ∀ r r', OpR X (compareOp op) r → OpR X (compareOp op') r' → PE X (.Compare e1 [op, op'] [e2, e3] pos) (tChain r r' (rE X Ex ta) (rE X Ex tb) (rE X Ex tc))) :
    PE X (.Compare e1 [op, op'] [e2, e3] pos) (rE X Ex (chW op op' ta tb tc)) := by
  obtain ⟨r, ho, hs⟩ := cmp_rule g op
  obtain ⟨r', ho', hs'⟩ := cmp_rule g op'
  refine PE.weak (pc r r' ho ho') fun τ H Q ⟨B, Hf, ρ, σ, S, h, q⟩ => ?_
  refine ⟨B, Hf, ρ, σ, S, h, (Post.bind q).imp fun v H1 ⟨Hf1, ρ1, S1, w, e1, h1, r1, q1⟩ => ⟨B, Hf1, ρ1, σ, S1, h1, (Post.bind q1).imp fun u H2 ⟨Hf2, ρ2, S2, w2, e2, h2, r2, q2⟩ => ?_⟩⟩
  refine hs B Hf2 ρ2 σ S2 τ H2 w w2 v u _ h2 (r1.mono e2.f e2.r) r2 ?_
  rcases cmp_bl (op := op) (x := w) (y := w2) (S := S2) with ⟨b, eb⟩ | eb
  · rw [eb] at q2 ⊢
    intro Hf' ρ' H' v' e' h' r'
    refine ⟨b, tr_bl r', ?_⟩
    cases b with
    | false => exact iteF (Post.done (g := gd X B Ex) (w := .v (.bl false)) h' (Post.ext e' q2) repOfBl)
    | true =>
      have q3 := Post.ext e' q2
      rw [R.bind_ok] at q3
      dsimp only at q3
      refine iteT ⟨B, Hf', ρ', σ, S2, h', (Post.bind q3).imp fun u3 H3 ⟨Hf3, ρ3, S3, w3, e3, h3, r3, q3⟩ => ?_⟩
      exact hs' B Hf3 ρ3 σ S3 τ H3 w2 w3 u u3 Q h3 ((r2.mono e'.f e'.r).mono e3.f e3.r) r3 q3
  · rw [eb] at q2; exact q2.elim
theorem s_chainT {op op' : CmpOp} (g : Good G N sc Ex X) (ha : PE X e1 (rE X Ex ta)) (hb : PE X e2 (rE X Ex tb)) (hc : PE X e3 (rE X Ex tc))
    (pc : ∀ r r', OpR X (compareOp op) r → OpR X (compareOp op') r' → PT X (.Compare e1 [op, op'] [e2, e3] pos) (tTest (tChain r r' (rE X Ex ta) (rE X Ex tb) (rE X Ex tc)))) :
    PT X (.Compare e1 [op, op'] [e2, e3] pos) (rT X Ex fun σ S => (chW op op' ta tb tc σ S).bind truR) := by
  obtain ⟨r, ho, hs⟩ := cmp_rule g op
  obtain ⟨r', ho', hs'⟩ := cmp_rule g op'
  refine PT.weak (pc r r' ho ho') fun τ H Q ⟨B, Hf, ρ, σ, S, h, q⟩ => ?_
  unfold chW at q
  dsimp only at q
  rw [R.bind_assoc] at q
  refine ⟨B, Hf, ρ, σ, S, h, (Post.bind q).imp fun v H1 ⟨Hf1, ρ1, S1, w, e1, h1, r1, q1⟩ => ?_⟩
  rw [R.bind_assoc] at q1
  refine ⟨B, Hf1, ρ1, σ, S1, h1, (Post.bind q1).imp fun u H2 ⟨Hf2, ρ2, S2, w2, e2, h2, r2, q2⟩ => ?_⟩
  refine hs B Hf2 ρ2 σ S2 τ H2 w w2 v u _ h2 (r1.mono e2.f e2.r) r2 ?_
  rcases cmp_bl (op := op) (x := w) (y := w2) (S := S2) with ⟨b, eb⟩ | eb
  · rw [eb] at q2 ⊢
    intro Hf' ρ' H' v' e' h' r'
    refine ⟨b, tr_bl r', ?_⟩
    cases b with
    | false => exact iteF ⟨false, rfl, (Post.ext e' q2) _ _ _ _ (Ext.refl _ _) h' rfl⟩
    | true =>
      have q3 := Post.ext e' q2
      rw [R.bind_ok] at q3
      dsimp only at q3
      rw [R.bind_assoc] at q3
      refine iteT ⟨B, Hf', ρ', σ, S2, h', (Post.bind q3).imp fun u3 H3 ⟨Hf3, ρ3, S3, w3, e3, h3, r3, q4⟩ => ?_⟩
      refine hs' B Hf3 ρ3 σ S3 τ H3 w2 w3 u u3 _ h3 ((r2.mono e'.f e'.r).mono e3.f e3.r) r3 ?_
      rcases cmp_bl (op := op') (x := w2) (y := w3) (S := S3) with ⟨b2, eb2⟩ | eb2
      · rw [eb2] at q4 ⊢
        exact fun Hf4 ρ4 H4 v4 e4 h4 r4 => ⟨b2, tr_bl r4, q4 Hf4 ρ4 H4 b2 e4 h4 rfl⟩
      · rw [eb2] at q4; exact q4.elim
  · rw [eb] at q2; exact q2.elim
theorem s_neg (ha : PE X e1 (rE X Ex ta)) : PE X (.UnaryOp .USub e1 pos) (rE X Ex fun σ S => (ta σ S).bind fun x S1 => match x with | .v (.int i) => .ok (.v (.int (-i))) S1 | _ => .bad) := by
  refine PE.weak (pe_un un_neg ha) fun τ H Q ⟨B, Hf, ρ, σ, S, h, q⟩ => ⟨B, Hf, ρ, σ, S, h, (Post.bind q).imp fun v H1 ⟨Hf1, ρ1, S1, w, e1, h1, r1, q1⟩ => ?_⟩
  split at q1
  · cases repInt r1
    exact ⟨_, rfl, Post.done (g := gd X B Ex) h1 q1 repOfInt⟩
  · exact q1.elim
theorem s_not (ha : PE X e1 (rE X Ex ta)) : PE X (.UnaryOp .Not e1 pos) (rE X Ex fun σ S => (ta σ S).bind fun x S1 => match truW S1 x with | some b => .ok (.v (.bl (!b))) S1 | none => .bad) := by
  refine PE.weak (pe_notT ha) fun τ H Q ⟨B, Hf, ρ, σ, S, h, q⟩ => ⟨B, Hf, ρ, σ, S, h, (Post.bind q).imp fun v H1 ⟨Hf1, ρ1, S1, w, e1, h1, r1, q1⟩ => ?_⟩
  split at q1
  · rename_i b eb
    exact ⟨b, h1.truW r1 eb, Post.done (g := gd X B Ex) h1 q1 repOfBl⟩
  · exact q1.elim
/-- not as a test, from its part's test -/
theorem s_notT (ha : PT X e1 (rT X Ex fun σ S => (ta σ S).bind truR)) : PT X (.UnaryOp .Not e1 pos) (rT X Ex fun σ S => ((ta σ S).bind fun x S1 => match truW S1 x with | some b => .ok (.v (.bl (!b))) S1 | none => .bad).bind truR) := by
  refine PT.weak (pt_not ha) fun τ H Q ⟨B, Hf, ρ, σ, S, h, q⟩ => ⟨B, Hf, ρ, σ, S, h, ?_⟩
  dsimp only at q ⊢
  revert q
  cases ta σ S with
  | bad => exact fun q => q
  | ex x S1 => exact fun q => q
  | ok w S1 =>
    simp only [R.bind_ok, truR]
    cases truW S1 w with
    | none => exact fun q => q
    | some b =>
      intro q Hf' ρ' H' c e' h' r'
      have r' : b = c := r'
      subst r'
      exact q Hf' ρ' H' (!b) e' h' rfl
/-- a plain expression as a test -/
theorem s_test (ha : PE X e1 (rE X Ex ta)) (ht : plainTest e1 = true) : PT X e1 (rT X Ex fun σ S => (ta σ S).bind truR) := by
  refine PT.weak (pt_truth ha (test_of ht)) fun τ H Q ⟨B, Hf, ρ, σ, S, h, q⟩ => ⟨B, Hf, ρ, σ, S, h, (Post.bind q).imp fun v H1 ⟨Hf1, ρ1, S1, w, e1, h1, r1, q1⟩ => ?_⟩
  unfold truR at q1
  split at q1
  · rename_i b eb
    exact ⟨b, h1.truW r1 eb, q1 _ _ _ _ (Ext.refl _ _) h1 rfl⟩
  · exact q1.elim
/-! ### and, or -/
theorem s_and {e2 : PySem.Expr} {rest : List PySem.Expr} {tr : Slots → Store → R W} (ha : PE X e1 (rE X Ex ta)) (hb : PE X (.BoolOp .And (e2 :: rest) pos) (rE X Ex tr)) :
    PE X (.BoolOp .And (e1 :: e2 :: rest) pos) (rE X Ex fun σ S => (ta σ S).bind fun x S1 => match truW S1 x with | some true => tr σ S1 | some false => .ok x S1 | none => .bad) := by
  refine PE.weak (pe_andT ha hb) fun τ H Q ⟨B, Hf, ρ, σ, S, h, q⟩ => ⟨B, Hf, ρ, σ, S, h, (Post.bind q).imp fun v H1 ⟨Hf1, ρ1, S1, w, e1, h1, r1, q1⟩ => ?_⟩
  split at q1
  · rename_i eb
    exact ⟨true, h1.truW r1 eb, iteT ⟨B, Hf1, ρ1, σ, S1, h1, q1⟩⟩
  · rename_i eb
    exact ⟨false, h1.truW r1 eb, iteF (Post.done (g := gd X B Ex) h1 q1 r1)⟩
  · exact q1.elim
theorem s_or {e2 : PySem.Expr} {rest : List PySem.Expr} {tr : Slots → Store → R W} (ha : PE X e1 (rE X Ex ta)) (hb : PE X (.BoolOp .Or (e2 :: rest) pos) (rE X Ex tr)) :
    PE X (.BoolOp .Or (e1 :: e2 :: rest) pos) (rE X Ex fun σ S => (ta σ S).bind fun x S1 => match truW S1 x with | some false => tr σ S1 | some true => .ok x S1 | none => .bad) := by
  refine PE.weak (pe_orT ha hb) fun τ H Q ⟨B, Hf, ρ, σ, S, h, q⟩ => ⟨B, Hf, ρ, σ, S, h, (Post.bind q).imp fun v H1 ⟨Hf1, ρ1, S1, w, e1, h1, r1, q1⟩ => ?_⟩
  split at q1
  · rename_i eb
    exact ⟨false, h1.truW r1 eb, iteF ⟨B, Hf1, ρ1, σ, S1, h1, q1⟩⟩
  · rename_i eb
    exact ⟨true, h1.truW r1 eb, iteT (Post.done (g := gd X B Ex) h1 q1 r1)⟩
  · exact q1.elim
theorem s_andT {e2 : PySem.Expr} {rest : List PySem.Expr} {tr : Slots → Store → R W} (ha : PT X e1 (rT X Ex fun σ S => (ta σ S).bind truR)) (hb : PW X (.BoolOp .And (e2 :: rest) pos) (rT X Ex fun σ S => (tr σ S).bind truR)) :
    PW X (.BoolOp .And (e1 :: e2 :: rest) pos) (rT X Ex fun σ S => ((ta σ S).bind fun x S1 => match truW S1 x with | some true => tr σ S1 | some false => .ok x S1 | none => .bad).bind truR) := by
  refine PW.weak (pw_and ha hb) fun τ H Q ⟨B, Hf, ρ, σ, S, h, q⟩ => ⟨B, Hf, ρ, σ, S, h, ?_⟩
  dsimp only at q ⊢
  revert q
  cases ta σ S with
  | bad => exact fun q => q
  | ex x S1 => exact fun q => q
  | ok w S1 =>
    simp only [R.bind_ok, truR]
    cases eb : truW S1 w with
    | none => exact fun q => q
    | some b =>
      intro q Hf' ρ' H' c e' h' r'
      have r' : b = c := r'
      subst r'
      cases b with
      | true => exact iteT ⟨B, Hf', ρ', σ, S1, h', Post.ext e' q⟩
      | false =>
        simp only [R.bind_ok, truR, eb] at q
        exact iteF (q Hf' ρ' H' false e' h' rfl)
theorem s_orT {e2 : PySem.Expr} {rest : List PySem.Expr} {tr : Slots → Store → R W} (ha : PT X e1 (rT X Ex fun σ S => (ta σ S).bind truR)) (hb : PW X (.BoolOp .Or (e2 :: rest) pos) (rT X Ex fun σ S => (tr σ S).bind truR)) :
    PW X (.BoolOp .Or (e1 :: e2 :: rest) pos) (rT X Ex fun σ S => ((ta σ S).bind fun x S1 => match truW S1 x with | some false => tr σ S1 | some true => .ok x S1 | none => .bad).bind truR) := by
  refine PW.weak (pw_or ha hb) fun τ H Q ⟨B, Hf, ρ, σ, S, h, q⟩ => ⟨B, Hf, ρ, σ, S, h, ?_⟩
  dsimp only at q ⊢
  revert q
  cases ta σ S with
  | bad => exact fun q => q
  | ex x S1 => exact fun q => q
  | ok w S1 =>
    simp only [R.bind_ok, truR]
    cases eb : truW S1 w with
    | none => exact fun q => q
    | some b =>
      intro q Hf' ρ' H' c e' h' r'
      have r' : b = c := r'
      subst r'
      cases b with
      | false => exact iteF ⟨B, Hf', ρ', σ, S1, h', Post.ext e' q⟩
      | true =>
        simp only [R.bind_ok, truR, eb] at q
        exact iteT (q Hf' ρ' H' true e' h' rfl)
theorem s_ife (hc : PT X e1 (rT X Ex fun σ S => (tc σ S).bind truR)) (ha : PE X e2 (rE X Ex ta)) (hb : PE X e3 (rE X Ex tb)) :
    PE X (.IfExp e1 e2 e3 pos) (rE X Ex fun σ S => (tc σ S).bind fun x S1 => (truR x S1).bind fun t S2 => if t then ta σ S2 else tb σ S2) := by
  refine PE.weak (pe_ifExp hc ha hb) fun τ H Q ⟨B, Hf, ρ, σ, S, h, q⟩ => ⟨B, Hf, ρ, σ, S, h, ?_⟩
  dsimp only at q
  rw [← R.bind_assoc] at q
  refine (Post.bind (P := PB') q).imp fun b H1 ⟨Hf1, ρ1, S1, c, e1, h1, r1, q1⟩ => ?_
  have r1 : c = b := r1
  subst r1
  cases c with
  | true => exact iteT ⟨B, Hf1, ρ1, σ, S1, h1, by simpa using q1⟩
  | false => exact iteF ⟨B, Hf1, ρ1, σ, S1, h1, by simpa using q1⟩
/-! ### argument lists, displays -/
theorem s_nil : PA X [] (rA X Ex fun _ S => .ok [] S) := PA.weak pa_nil fun τ H Q ⟨B, Hf, ρ, σ, S, h, q⟩ => q _ _ _ _ (Ext.refl _ _) h rfl
theorem s_cons (hp : plainE e1 = true) (ha : PE X e1 (rE X Ex ta)) (hr : PA X es (rA X Ex tes)) : PA X (e1 :: es) (rA X Ex fun σ S => (ta σ S).bind fun x S1 => (tes σ S1).bind fun xs S2 => .ok (x :: xs) S2) :=
  PA.weak (pa_cons ha hr (star_of hp)) fun τ H Q ⟨B, Hf, ρ, σ, S, h, q⟩ => ⟨B, Hf, ρ, σ, S, h, (Post.bind q).imp fun v H1 ⟨Hf1, ρ1, S1, w, e1, h1, r1, q1⟩ => ⟨B, Hf1, ρ1, σ, S1, h1, (Post.bind q1).imp fun vs H2 ⟨Hf2, ρ2, S2, ws, e2, h2, r2, q2⟩ =>
    q2 _ _ _ _ (Ext.refl _ _) h2 ⟨v, vs, rfl, r1.mono e2.f e2.r, r2⟩⟩⟩
theorem s_tup {k : Nat} (h : PA X es (rA X Ex tes)) : PE X (.Tuple es k pos) (rE X Ex fun σ S => (tes σ S).bind tupW) := by
  refine PE.weak (pe_tup h) fun τ H Q ⟨B, Hf, ρ, σ, S, h, q⟩ => ⟨B, Hf, ρ, σ, S, h, (Post.bind q).imp fun vs H1 ⟨Hf1, ρ1, S1, ws, e1, h1, r1, q1⟩ => ?_⟩
  unfold tupW at q1
  split at q1
  · rename_i ds ed
    have r2 := toDs_rep ed r1
    split at q1
    · rename_i hl
      refine ⟨by rw [← r2.length]; exact hl, fun p hp => Post.newF h1 q1 hp fun Hf' e e2 => ?_⟩
      simp only [RepD]
      exact ⟨p, vs, rfl, e2, RepDs.mono e _ _ r2⟩
    · exact q1.elim
  · exact q1.elim
theorem s_lst {r : Bool} (h : PA X es (rA X Ex tes)) : PE X (.List es pos) (rE X Ex fun σ S => (tes σ S).bind (lstE r)) := by
  refine PE.weak (pe_lst h) fun τ H Q ⟨B, Hf, ρ, σ, S, h, q⟩ => ⟨B, Hf, ρ, σ, S, h, (Post.bind q).imp fun vs H1 ⟨Hf1, ρ1, S1, ws, e1, h1, r1, q1⟩ => ?_⟩
  unfold lstE at q1
  split at q1
  · rename_i ds ed
    have r2 := toDs_rep ed r1
    split at q1
    · rename_i hl
      exact ⟨by rw [← r2.length]; exact hl, fun p hp => Post.newL h1 q1 hp r2⟩
    · exact q1.elim
  · split at q1
    · rename_i hl
      rw [Bool.and_eq_true] at hl
      refine ⟨by rw [← r1.length]; exact of_decide_eq_true hl.2, fun p hp => ?_⟩
      obtain ⟨k1, e2⟩ := h1.newS (o := .lsr ws) (vs := vs) hp ⟨vs, upd_same, r1.mono (Same.refl _) ⟨[p], rfl⟩⟩
      exact q1 _ _ _ _ e2 k1 ⟨p, by rw [List.getElem?_append_right (by rw [h1.rl]; exact Nat.le_refl _)]; simp [h1.rl], rfl⟩
    · exact q1.elim
end
end Zz

set_option Elab.async false
set_option linter.all false
set_option maxRecDepth 100000
set_option maxHeartbeats 4000000
set_option autoImplicit false
namespace Zz
open PySem PySem.Spec PyProof.Rows L2

/-! ### sorted of a tuple -/
section
variable {prog : Program} {w : World} {A : Around} {E : Value → Shared → Prop} {s : Shared}
theorem gather_tup {t : Addr} {vs : List Value} {Q : List Value → Shared → Prop} (ht : IsTup s.heap t vs.toArray) (hz : vs.length ≤ sizeLine)
    (h : Q vs { s with heap := (s.heap.push (seqObj "list" #[] 0)).update s.heap.objs.size (Obj.mapSeq (· ++ vs.toArray)) }) : wpAny (model prog w) A (collect (.ref t)) Q E s := by
  obtain ⟨ob, hob, hcl, m, hda⟩ := id ht
  have hup : (s.heap.push (seqObj "list" #[] 0)).get? t = some ob := Heap.get?_push_of_some _ hob
  have hnew : (s.heap.push (seqObj "list" #[] 0)).get? s.heap.objs.size = some (seqObj "list" #[] 0) := Heap.get?_push_size _ rfl
  unfold collect
  refine wpAny_bind (wpAny_runValue (codeAny_builtin entry_proto_collect' ?_))
  show wpAny _ _ (do again (.builtin "list.__iadd__" ⟨[← newList [], .ref t], []⟩)) _ _ s
  refine wpAny_bind (wpAny_newList (wpAny_pure ⟨Code.quiet_builtin _ (by decide +kernel), codeAny_builtin entry_list_iadd' ?_⟩))
  show wpAny _ _ (Builtin.List.listExtendWith (.ref s.heap.objs.size) (.ref t) (.ref s.heap.objs.size)) _ _ { s with heap := s.heap.push (seqObj "list" #[] 0) }
  unfold Builtin.List.listExtendWith
  refine wpAny_bind (wpAny_typeOf (T := "tuple") ⟨ob, hup, hcl⟩ ?_)
  have tt : (Value.type "tuple" == Value.type "tuple") = true := by decide +kernel
  rw [tt, Bool.or_true, if_pos rfl]
  refine wpAny_bind (listItems_at hup hda ?_)
  refine wpAny_bind (listItems_at (n := 0) (xs := #[]) hnew rfl ?_)
  rw [if_neg (by simp)]
  refine wpAny_bind (listUpdate_at (n := 0) (xs := #[]) hnew rfl ?_ (Nat.zero_le _) ?_)
  · refine wpAny_pure ?_
    show wpAny (model prog w) A (do
        let o ← load s.heap.objs.size
        match o.data with
        | .seq xs _ => pure xs.toList
        | _ => unsupported "internal:collect") Q E { s with heap := (s.heap.push (seqObj "list" #[] 0)).update s.heap.objs.size (Obj.mapSeq (· ++ vs.toArray)) }
    refine wpAny_bind (wpAny_load (get?_update_seq hnew _) ?_)
    show wpAny _ _ (pure ((#[] : Array Value) ++ vs.toArray).toList) Q E _
    have e : ((#[] : Array Value) ++ vs.toArray).toList = vs := by simp
    rw [e]
    exact wpAny_pure h
  · show (#[] ++ vs.toArray).size ≤ sizeLine + 1
    rw [Array.size_append, List.size_toArray]
    show 0 + vs.length ≤ sizeLine + 1
    omega
theorem sorted_tupI {t : Addr} {vs : List Value} {ns : List Int} {Q : Value → Shared → Prop} (ht : IsTup s.heap t vs.toArray) (hi : IntsAre vs ns) (hz : vs.length ≤ sizeLine)
    (h : ∀ out : List Value, SrtO.Srtd SrtO.ltIv out → SrtO.Stb SrtO.ltIv out vs → Q (.ref (s.heap.objs.size + 1)) { s with heap := sortedAll s.heap vs out.toArray }) : wpAny (model prog w) A (call (.builtin "sorted") [.ref t]) Q E s := by
  refine Calls.call_function_entry kind_sorted plain_sorted entry_sorted (args_sorted1 _) ?_
  unfold Builtin.«sorted»
  refine wpAny_bind (m := checkCount "sorted" 1 1 _) (wpAny_pure ?_)
  refine wpAny_bind (gather_tup ht hz ?_)
  refine wpAny_bind (wpAny_newList ?_ hz)
  generalize hh1 : (s.heap.push (seqObj "list" #[] 0)).update s.heap.objs.size (Obj.mapSeq (· ++ vs.toArray)) = h1
  have z1 : h1.objs.size = s.heap.objs.size + 1 := by rw [← hh1, Heap.size_update, size_push']
  have hoL : (h1.push (seqObj "list" vs.toArray 0)).get? (s.heap.objs.size + 1) = some (seqObj "list" vs.toArray 0) := by rw [← z1]; exact Heap.get?_push_size _ rfl
  show wpAny _ _ _ _ _ { s with heap := h1.push (seqObj "list" vs.toArray 0) }
  dsimp only
  rw [z1]
  refine wpAny_bind (wpAny_holding (wpAny_call_entry slot_list_sort ⟨_, hoL, rfl⟩ entry_list_sort (SrtO.list_sort_ord SrtO.swo_int hoL hz (fun h2 => SrtO.ints_sortable hi h2) fun out hs hb => ⟨_, rfl, ?_⟩) (args_list_sort _)))
  refine wpAny_pure ⟨_, rfl, ?_⟩
  have q := h out hs hb
  unfold sortedAll at q
  rw [hh1] at q
  exact q
end
section
variable {X : Cx} {Ex : XK} {G : GT} {N : List Str} {sc : Scope} {e1 e2 e3 : PySem.Expr} {es : List PySem.Expr} {pos p apos : Pos} {ta tb tc : Slots → Store → R W} {tes : Slots → Store → R (List W)}
def rSortedTup (K : PySem.W.Frag) : List V → Hp → VK → Prop := fun vs H Q => ∃ (a : Addr) (ns : List Int), vs = [V.ref a] ∧ SqT K H a (ns.map V.int) ∧
  ∀ (ns' : List Int) (q : Addr), ns'.Perm ns → ns'.Pairwise (· ≤ ·) → H q = none → Q (.ref q) (upd H q (.lst (ns'.map V.int)))
theorem cr_sortedTup : CallR X (.builtin "sorted") (rSortedTup X.K) := by
  intro pins s σ H vs us Q I r h
  obtain ⟨a, ns, rfl, ha, q⟩ := h
  obtain ⟨its, rv, hl, hz⟩ := I.tuple ha
  rw [Vals.ref1 r]
  have hi := rv.ints
  refine sorted_tupI hl hi (by rw [← rv.length]; exact hz) fun out h1 h2 => ?_
  obtain ⟨k1, k2, k3⟩ := SrtO.ints_out hi h1 h2
  obtain ⟨ep, he⟩ := PyProof.Rows.sortedAll_at s.heap its out.toArray
  have hl2 : ((out.map SrtO.iv).map V.int).length ≤ sizeLine := by
    rw [List.length_map, k2.length_eq]
    simpa using hz
  refine ⟨.ref _, upd H (s.heap.objs.size + 1) (.lst ((out.map SrtO.iv).map V.int)), ?_, rfl, q _ _ k2 k3 (I.hok.fresh (Nat.le_succ _))⟩
  exact I.laid (t' := s.toks) (fun _ _ => PyProof.Rows.sortedAll_old) (Nat.le_succ _) ⟨hl2, out, ep, vals_of_ints k1, he⟩

/-! ### subscripts, slices -/
theorem atI_rep {K : PySem.W.Frag} {Hf : Hp} {xs : List D} {vs : List V} {i : Int} {d : D} (r : RepDs K Hf xs vs) (e : atI xs i = some d) : ∃ v, atI vs i = some v ∧ RepD K Hf d v := by
  unfold atI at e ⊢
  rw [← r.length]
  cases q : ixN xs.length i with
  | none => rw [q] at e; cases e
  | some j =>
    rw [q] at e
    exact r.get (i := j) e
theorem atI_repW {K : PySem.W.Frag} {Hf : Hp} {ρ : List Addr} {xs : List W} {vs : List V} {i : Int} {d : W} (r : RepWs K Hf ρ xs vs) (e : atI xs i = some d) : ∃ v, atI vs i = some v ∧ RepW K Hf ρ d v := by
  unfold atI at e ⊢
  rw [← r.length]
  cases q : ixN xs.length i with
  | none => rw [q] at e; cases e
  | some j =>
    rw [q] at e
    exact r.get (i := j) e
def rIxD : R2 := fun x y H Q => ∃ a v, x = .ref a ∧ DGet H a y (some v) ∧ Q v H
theorem ix_dict (hu : X.A.units + 1 < cLine) : IxR X rIxD := by
  intro value slice pins s σ H x y v u Q I rx ry ⟨a, w, ex, g, q⟩ hs
  subst ex
  cases rx
  exact tail_any (dict_typeIs I g) PySem.F.slot_dict_getitem.lookup (d_getItem hu I g ry fun w' s3 I3 rw' => ⟨w, H, I3, rw', q⟩) hs
theorem st_dix {B : Bs} {Hf : Hp} {ρ : List Addr} {σ : Slots} {S : Store} {τ : St} {H : Hp} {x : W} {d : D} {v1 v2 : V} {Q : VK} (h : Rel X.K B Hf ρ σ S τ H) (r1 : RepW X.K Hf ρ x v1) (r2 : RepD X.K Hf d v2)
    (q : Post (RepW X.K) (gd X B Ex) Hf ρ σ τ Q (dixW x d S)) : rIxD v1 v2 H Q := by
  unfold dixW at q
  split at q
  · rename_i w hw
    obtain ⟨a, o', e1, e2, e3, _⟩ := h.dget r1 r2 hw
    obtain ⟨v, rfl, e4⟩ := e3 w rfl
    exact ⟨a, v, e1, e2, Post.done (g := gd X B Ex) h q e4⟩
  · exact q.elim
theorem st_ix {B : Bs} : Step2 X B Ex (fun x y H Q => (rIxL X.K x y H Q ∨ rIxT X.K x y H Q) ∨ rIxD x y H Q) ixW := by
  intro Hf ρ σ S τ H w1 w2 v1 v2 Q h r1 r2 q
  unfold ixW at q
  split at q
  · rename_i i
    cases repInt r2
    split at q
    · rename_i j
      split at q
      · rename_i xs hx
        split at q
        · rename_i d hd
          obtain ⟨a, vs, rfl, _, k3, k4⟩ := h.ref_lst hx r1
          obtain ⟨v, z1, z2⟩ := atI_rep k4 hd
          exact .inl (.inl ⟨a, vs, i, v, rfl, rfl, SqL.of k3, z1, Post.done (g := gd X B Ex) (w := .v d) h q z2⟩)
        · exact q.elim
      · rename_i ws hx
        split at q
        · rename_i u hu
          obtain ⟨a, z1, z2⟩ := r1
          obtain ⟨a', z3, z4, vs, z5, z6⟩ := h.ob _ _ hx
          rw [z1] at z3; cases z3
          obtain ⟨v, y1, y2⟩ := atI_repW z6 hu
          exact .inl (.inl ⟨a, vs, i, v, z2, rfl, SqL.of z5, y1, Post.done (g := gd X B Ex) h q y2⟩)
        · exact q.elim
      · exact .inr (st_dix h r1 (by simp only [RepD]) q)
    · split at q
      · rename_i xs hx
        split at q
        · rename_i d hd
          obtain ⟨a, vs, rfl, k3, k4⟩ := h.seqW r1 hx
          obtain ⟨v, z1, z2⟩ := atI_rep k4 hd
          rcases k3 with k3 | k3
          · exact .inl (.inl ⟨a, vs, i, v, rfl, rfl, k3, z1, Post.done (g := gd X B Ex) (w := .v d) h q z2⟩)
          · exact .inl (.inr ⟨a, vs, i, v, rfl, rfl, k3, z1, Post.done (g := gd X B Ex) (w := .v d) h q z2⟩)
        · exact q.elim
      · exact .inr (st_dix h r1 (by simp only [RepD]) q)
  · exact .inr (st_dix h r1 r2 q)
  · exact q.elim
theorem s_ix (g : Good G N sc Ex X) (hp : plainIx e2 = true) (ha : PE X e1 (rE X Ex ta)) (hb : PE X e2 (rE X Ex tb)) : PE X (.Subscript e1 e2 pos) (rE X Ex fun σ S => (ta σ S).bind fun x S1 => (tb σ S1).bind fun y S2 => ixW x y S2) :=
  s_two (X' := X) (fun _ _ h1 h2 => pe_ix ((ix_list.or ix_tup).or (ix_dict (by obtain ⟨k, hr, _⟩ := g.room; have := hr.un; omega))) h1 h2 (ix_of hp)) (fun _ => st_ix) ha hb
theorem cut_rep {K : PySem.W.Frag} {Hf : Hp} {xs : List D} {vs : List V} {lo hi : Option Int} (r : RepDs K Hf xs vs) : RepDs K Hf (cutD xs lo hi) (cutV vs lo hi) := by
  unfold cutD cutV
  rw [r.length]
  exact (r.drop _).take _
theorem cut_all {xs : List D} {lo hi : Option Int} (h : HT.sIx xs.length 0 lo = 0 ∧ HT.sIx xs.length xs.length hi = xs.length) : cutD xs lo hi = xs := by
  unfold cutD
  rw [h.1, h.2]
  simp
def rO (X : Cx) (Ex : XK) (t : Slots → Store → R (Option Int)) : TO := fun τ H Q => ∃ B Hf ρ σ S, Rel X.K B Hf ρ σ S τ H ∧ Post (fun _ _ a b => a = b) (gd X B Ex) Hf ρ σ τ Q (t σ S)
theorem PO.weak {e : Option PySem.Expr} {t t' : TO} (h : PO X e t) (k : ∀ σ H Q, t' σ H Q → t σ H Q) : PO X e t' := ⟨fun pins s σ H Q I q => h.run pins s σ H Q I (k _ _ _ q)⟩
theorem s_part0 : PO X none (rO X Ex fun _ S => .ok none S) := PO.weak po_none fun τ H Q ⟨B, Hf, ρ, σ, S, h, q⟩ => q _ _ _ _ (Ext.refl _ _) h rfl
theorem s_part1 (ha : PE X e1 (rE X Ex ta)) : PO X (some e1) (rO X Ex fun σ S => (ta σ S).bind fun x S1 => match partW x with | some o => .ok o S1 | none => .bad) := by
  refine PO.weak (po_some ha) fun τ H Q ⟨B, Hf, ρ, σ, S, h, q⟩ => ⟨B, Hf, ρ, σ, S, h, (Post.bind (P' := fun _ _ (a b : Option Int) => a = b) q).imp fun v H1 ⟨Hf1, ρ1, S1, w, e1, h1, r1, q1⟩ => ?_⟩
  unfold partW at q1
  split at q1
  · rename_i o eo
    split at eo
    · cases eo
      cases repInt r1
      exact ⟨_, rfl, q1 _ _ _ _ (Ext.refl _ _) h1 rfl⟩
    · cases eo
  · exact q1.elim
theorem s_sl {r : Bool} {o1 o2 : Option PySem.Expr} {p2 : Pos} {tl th : Slots → Store → R (Option Int)} (ha : PE X e1 (rE X Ex ta)) (hl : PO X o1 (rO X Ex tl)) (hh : PO X o2 (rO X Ex th)) :
    PE X (.Subscript e1 (.Slice o1 o2 none p2) pos) (rE X Ex fun σ S => (ta σ S).bind fun x S1 => (tl σ S1).bind fun l S2 => (th σ S2).bind fun h S3 => slW r x l h S3) := by
  refine PE.weak (pe_slice (sl_tupA.or sl_list) ha hl hh) fun τ H Q ⟨B, Hf, ρ, σ, S, h, q⟩ => ⟨B, Hf, ρ, σ, S, h, (Post.bind q).imp fun v H1 ⟨Hf1, ρ1, S1, w, e1, h1, r1, q1⟩ => ⟨B, Hf1, ρ1, σ, S1, h1, (Post.bind q1).imp fun l H2 ⟨Hf2, ρ2, S2, l', e2, h2, r2, q2⟩ =>
    ⟨B, Hf2, ρ2, σ, S2, h2, (Post.bind q2).imp fun u H3 ⟨Hf3, ρ3, S3, u', e3, h3, r3, q3⟩ => ?_⟩⟩⟩
  have r2 : l' = l := r2
  have r3 : u' = u := r3
  subst r2 r3
  have r1 := (r1.mono e2.f e2.r).mono e3.f e3.r
  unfold slW at q3
  split at q3
  · rename_i xs
    obtain ⟨a, vs, rfl, k2, k3⟩ := repTup r1
    refine .inl ⟨a, vs, rfl, SqT.of (h3.sub _ _ k2), fun hw => ?_, fun hw p hp => ?_⟩
    · rw [← k3.length] at hw
      rw [cut_all hw] at q3
      exact Post.done (g := gd X B Ex) h3 q3 r1
    · exact Post.newF h3 q3 hp fun Hf' e e2 => by
        simp only [RepD]
        exact ⟨p, _, rfl, e2, RepDs.mono e _ _ (cut_rep k3)⟩
  · split at q3
    · rename_i xs hx
      obtain ⟨a, vs, rfl, k2, k3⟩ := h3.lstW r1 hx
      exact .inr ⟨a, vs, rfl, SqL.of k2, fun p hp => Post.newL h3 q3 hp (cut_rep k3)⟩
    · exact q3.elim
theorem part_m1 {A : Around} {E : Value → Shared → Prop} {s : Shared} {vs : Value} {Q : Option Int → Shared → Prop} (p : IsPart vs (some (-1))) (h : Q (some (-1)) s) : wpAny (model X.prog X.w) A (Builtin.Slice.slicePartIndex vs) Q E s := HT.slicePart_ p h
theorem adj_rev (n : Nat) : Builtin.Slice.sliceAdjust none none (-1) (n : Int) = ((n : Int) - 1, -1) := rfl
theorem plc_rev (n : Nat) : Builtin.Slice.slicePlaces ((n : Int) - 1) (-1) (-1) = n := by
  unfold Builtin.Slice.slicePlaces
  rw [if_neg (by decide)]
  by_cases h : n = 0
  · subst h; rfl
  · rw [if_pos (by omega)]
    have : ((n : Int) - 1 - -1 - 1) / (- -1) = (n : Int) - 1 := by
      rw [show (- -1 : Int) = 1 by decide, Int.ediv_one]; omega
    rw [this]; omega
theorem pick_rev (xs : Array Value) : ((List.range xs.size).filterMap fun (m : Nat) => xs[((xs.size : Int) - 1 + (m : Int) * -1).toNat]?).toArray = xs.toList.reverse.toArray := by
  congr 1
  have e : (List.range xs.size).filterMap (fun (m : Nat) => xs[((xs.size : Int) - 1 + (m : Int) * -1).toNat]?) = ((List.range xs.size).map fun k => xs.size - 1 - k).filterMap (xs[·]?) := by
    rw [List.filterMap_map]
    have gen : ∀ (l : List Nat), (∀ m ∈ l, m < xs.size) → l.filterMap (fun (m : Nat) => xs[((xs.size : Int) - 1 + (m : Int) * -1).toNat]?) = l.filterMap ((xs[·]?) ∘ fun k => xs.size - 1 - k) := by
      intro l
      induction l with
      | nil => intro _; rfl
      | cons m l ih =>
        intro hm
        have h1 := hm m List.mem_cons_self
        have h2 : ((xs.size : Int) - 1 + (m : Int) * -1).toNat = xs.size - 1 - m := by omega
        rw [List.filterMap_cons, List.filterMap_cons, ih fun k hk => hm k (List.mem_cons_of_mem _ hk), h2]
        rfl
    exact gen _ fun m hm => List.mem_range.1 hm
  rw [e, PySem.W.krv_range, List.filterMap_reverse, PySem.W.krv_all]
theorem getItem_tuple_rev {A : Around} {E : Value → Shared → Prop} {s : Shared} {t sl : Addr} {items : Array Value} {vs : Value} {Q : Value → Shared → Prop} (ht : IsTup s.heap t items) (hs : s.heap.IsSliceOf sl .none .none vs) (ps : IsPart vs (some (-1)))
    (h : Q (.ref s.heap.objs.size) { s with heap := s.heap.push { cls := .type "tuple", data := .seq items.toList.reverse.toArray } })
    (hsz : items.size ≤ sizeLine) : wpAny (model X.prog X.w) A (getItem (.ref t) (.ref sl)) Q E s := by
  have htake : sizeOk (.seq items.toList.reverse.toArray) := by
    show items.toList.reverse.toArray.size ≤ sizeLine
    rw [List.size_toArray, List.length_reverse, Array.length_toList]
    exact hsz
  obtain ⟨os, hos, hcs, hds⟩ := id hs
  have hTs : s.TypeIs (.ref sl) "slice" := ⟨os, hos, hcs⟩
  unfold getItem
  try with_reducible refine wpAny_holding ?_
  first | refine wpAny_bind (wpAny_pure ?_) | skip
  refine wpAny_bind (wpAny_sequenceKey ht.typeIs (by decide) ?_)
  refine wpAny_bind (wpAny_callSpecial?_slot (name := Str.ofString "__getitem__") ht.typeIs PyProof.Rows.slot_tuple_getitem
    (wpAny_call_entry PyProof.Rows.slot_tuple_getitem ht.typeIs entry_tuple_getitem ?_ (args_tuple_getitem _ _)))
  show wpAny _ _ (Builtin.Tuple.tupleItemsOf (.ref t) >>= _) _ _ s
  refine wpAny_bind (PyProof.Rows.tupleItemsOf_ ht ?_)
  refine wpAny_bind (wpAny_typeOf hTs ?_)
  rw [if_pos (by decide)]
  have sa : ∀ (Q : Int × Int × Nat → Shared → Prop), Q ((items.size : Int) - 1, -1, items.size) s → wpAny (model X.prog X.w) A.in1 (Builtin.Slice.sliceApplied (.ref sl) (pure (items.size : Int))) Q E s := by
    intro Q hq
    unfold Builtin.Slice.sliceApplied Builtin.Slice.sliceFields
    refine wpAny_bind (wpAny_bind (wpAny_field hos hds (x := .none) rfl (wpAny_bind (wpAny_field hos hds (x := .none) rfl (wpAny_bind (wpAny_field hos hds (x := vs) rfl (wpAny_pure ?_)))))))
    refine wpAny_bind (HT.slicePart_ ps ?_)
    show wpAny _ _ (if ((-1 : Int) == 0) = true then _ else _) _ _ s
    rw [if_neg (by decide)]
    refine wpAny_bind (PyProof.Rows.slicePart_none (wpAny_bind (PyProof.Rows.slicePart_none (wpAny_bind (wpAny_pure ?_)))))
    show wpAny _ _ (match Builtin.Slice.sliceAdjust none none (-1) (items.size : Int) with | (lo, hi) => pure (lo, (-1 : Int), Builtin.Slice.slicePlaces lo hi (-1))) _ _ s
    rw [adj_rev]
    show wpAny _ _ (pure ((items.size : Int) - 1, (-1 : Int), Builtin.Slice.slicePlaces ((items.size : Int) - 1) (-1) (-1))) _ _ s
    rw [plc_rev]
    exact wpAny_pure hq
  refine wpAny_bind (sa _ ?_)
  have hno : ¬ ((((items.size : Int) - 1) == 0 && (-1 : Int) == 1 && items.size == items.size) = true) := by simp
  show wpAny _ _ (if (((items.size : Int) - 1) == 0 && (-1 : Int) == 1 && items.size == items.size) = true then _ else _) _ _ s
  rw [if_neg hno, pick_rev]
  first
    | exact wpAny_bind (m := Builtin.Tuple.tupleExact _) (wpAny_newObj_type (wpAny_pure ⟨_, rfl, wpAny_pure h⟩) htake)
    | exact wpAny_bind (m := Builtin.Tuple.tupleExact _) (wpAny_newObj_type (wpAny_bind (wpAny_pure (wpAny_pure ⟨_, rfl, wpAny_pure h⟩))) htake)
    | exact wpAny_bind (wpAny_bind (m := Builtin.Tuple.tupleExact _) (wpAny_newObj_type (wpAny_pure (wpAny_pure ⟨_, rfl, wpAny_pure h⟩)) htake))
    | exact wpAny_bind (wpAny_bind (m := Builtin.Tuple.tupleExact _) (wpAny_newObj_type (wpAny_pure ⟨_, rfl, wpAny_pure h⟩) htake))
/-- t[::-1] -/
def tRevT (K : PySem.W.Frag) (te : TE) : TE := fun σ H Q => te σ H fun x H1 => ∃ a xs, x = .ref a ∧ SqT K H1 a xs ∧ ∀ p, H1 p = none → Q (.ref p) (upd H1 p (.tup xs.reverse))
def tRevA (K : PySem.W.Frag) (te : TE) : TE := fun σ H Q => te σ H fun x H1 => (∃ a xs, x = .ref a ∧ SqL K H1 a xs ∧ ∀ p, H1 p = none → Q (.ref p) (upd H1 p (.lst xs.reverse))) ∨ (∃ a xs, x = .ref a ∧ SqT K H1 a xs ∧ ∀ p, H1 p = none → Q (.ref p) (upd H1 p (.tup xs.reverse)))
theorem pe_revA {e : PySem.Expr} {te : TE} {k : Nat} {p1 p2 p3 pos : Pos} (he : PE X e te) : PE X (.Subscript e (.Slice none none (some (.UnaryOp .USub (.Constant (.int 1) k p1) p2)) p3) pos) (tRevA X.K te) := by
  refine ⟨fun pins s σ H Q I h => ?_⟩
  refine Subscript_ (thn (he.run pins s σ H _ I h) fun v s1 ⟨x, H1, I1, r1, q1⟩ => ?_)
  have hst : PO X (some (.UnaryOp .USub (.Constant (.int 1) k p1) p2)) (tPart (tUn (rU fun i => .int (-i)) (tC (.int 1)))) := po_some (pe_un un_neg pe_int)
  refine wpAny_Slice (thn (po_none.run pins s1 σ H1 (fun o H2 => o = none ∧ H2 = H1) I1 ⟨rfl, rfl⟩) fun vl s2 ⟨l, H2, I2, pl, el, e2⟩ => ?_)
  subst el e2
  refine thn (po_none.run pins s2 σ H2 (fun o H3 => o = none ∧ H3 = H2) I2 ⟨rfl, rfl⟩) fun vu s3 ⟨u, H3, I3, pu, eu, e3⟩ => ?_
  subst eu e3
  refine thn (hst.run pins s3 σ H3 (fun o H4 => o = some (-1) ∧ H4 = H3) I3 ⟨1, rfl, -1, rfl, rfl, rfl⟩) fun vs s4 ⟨o, H4, I4, ps, eo, e4⟩ => ?_
  subst eo e4
  have I5 : Inv X pins σ H4 { s4 with heap := s4.heap.push { cls := .type "slice", data := .fields #[vl, vu, vs] } } := I4.kept (t' := s4.toks) fun b ob q => Heap.get?_push_of_some _ q
  rcases q1 with ⟨a, xs, ex, hx, q⟩ | ⟨a, xs, ex, hx, q⟩
  · subst ex
    cases r1
    obtain ⟨its, r, ht, hz⟩ := I5.list hx
    have hlen := r.length
    show wpAny (model X.prog X.w) X.A (subscriptTail e (.Slice none none (some (.UnaryOp .USub (.Constant (.int 1) k p1) p2)) p3) (.ref a) (.ref s4.heap.objs.size)) (EP X pins σ Q) X.xe { s4 with heap := s4.heap.push { cls := .type "slice", data := .fields #[vl, vu, vs] } }
    refine tail_any (ops := [.ref a, .ref s4.heap.objs.size]) ht.isList.typeIs (PySem.slot_list_getitem.lookup) ?_ (by with_unfolding_all rfl)
    refine wpAny_getItem_list_slice ht.isList (Heap.IsSliceOf.new _ vl vu vs) pl pu ps (by decide) ?_ (by rw [List.size_toArray]; omega)
    rw [PySem.W.krv_pick]
    refine ⟨.ref _, _, I5.laid (t' := s4.toks) (o := .lst xs.reverse) (fun b ob q => Heap.get?_push_of_some _ q) (Nat.le_refl _) ?_, rfl, q _ (I5.hok.fresh (Nat.le_refl _))⟩
    exact ⟨by rw [List.length_reverse]; exact hz, _, 0, r.reverse, Heap.get?_push_size _ rfl⟩
  · subst ex
    cases r1
    obtain ⟨its, r, ht, hz⟩ := I5.tuple hx
    have hlen := r.length
    cases pl; cases pu
    show wpAny (model X.prog X.w) X.A (subscriptTail e (.Slice none none (some (.UnaryOp .USub (.Constant (.int 1) k p1) p2)) p3) (.ref a) (.ref s4.heap.objs.size)) (EP X pins σ Q) X.xe { s4 with heap := s4.heap.push { cls := .type "slice", data := .fields #[.none, .none, vs] } }
    refine tail_any (ops := [.ref a, .ref s4.heap.objs.size]) ht.typeIs (PyProof.Rows.slot_tuple_getitem.lookup) ?_ (by with_unfolding_all rfl)
    refine getItem_tuple_rev ht (Heap.IsSliceOf.new _ .none .none vs) ps ?_ (by rw [List.size_toArray]; omega)
    refine ⟨.ref _, _, I5.laid (t' := s4.toks) (o := .tup xs.reverse) (fun b ob q => Heap.get?_push_of_some _ q) (Nat.le_refl _) ?_, rfl, q _ (I5.hok.fresh (Nat.le_refl _))⟩
    exact ⟨by rw [List.length_reverse]; exact hz, _, r.reverse, IsTup.new _ _⟩
theorem s_rev {r : Bool} {k : Nat} {p1 p2 p3 : Pos} (ha : PE X e1 (rE X Ex ta)) : PE X (.Subscript e1 (.Slice none none (some (.UnaryOp .USub (.Constant (.int 1) k p1) p2)) p3) pos) (rE X Ex fun σ S => (ta σ S).bind fun x S1 => revW r x S1) := by
  refine PE.weak (pe_revA ha) fun τ H Q ⟨B, Hf, ρ, σ, S, h, q⟩ => ⟨B, Hf, ρ, σ, S, h, (Post.bind q).imp fun v H1 ⟨Hf1, ρ1, S1, w, e1, h1, r1, q1⟩ => ?_⟩
  unfold revW at q1
  split at q1
  · obtain ⟨a, vs, rfl, h2, h3⟩ := repTup r1
    exact .inr ⟨a, vs, rfl, SqT.of (h1.sub _ _ h2), fun p hp => Post.newF (g := gd X B Ex) h1 q1 hp fun Hf' e e2 => by
      simp only [RepD]
      exact ⟨p, _, rfl, e2, RepDs.mono e _ _ h3.reverse⟩⟩
  · split at q1
    · rename_i xs hx
      obtain ⟨a, vs, rfl, k2, k3⟩ := h1.lstW r1 hx
      exact .inl ⟨a, vs, rfl, SqL.of k2, fun p hp => Post.newL h1 q1 hp k3.reverse⟩
    · exact q1.elim
theorem s_frz (ha : PE X e1 (rE X Ex ta)) : PE X e1 (rE X Ex fun σ S => (ta σ S).bind frzW) := by
  refine PE.weak ha fun τ H Q ⟨B, Hf, ρ, σ, S, h, q⟩ => ⟨B, Hf, ρ, σ, S, h, (Post.bind q).imp fun v H1 ⟨Hf1, ρ1, S1, w, e1, h1, r1, q1⟩ => ?_⟩
  unfold frzW at q1
  split at q1
  · exact Post.done (g := gd X B Ex) h1 q1 r1
  · split at q1
    · rename_i i xs hx
      obtain ⟨a, z1, rfl⟩ := r1
      obtain ⟨a', vs, k1, k2, k3, k4, k5⟩ := h1.freeze hx
      rw [z1] at k1; cases k1
      exact q1 _ _ _ _ k4 k3 k5
    · rename_i i C fs ws hx
      split at q1
      · rename_i ds hd
        obtain ⟨a, z1, rfl⟩ := r1
        obtain ⟨a', vs, k1, k2, k3, k4, k5⟩ := h1.freezeI hx hd
        rw [z1] at k1; cases k1
        exact q1 _ _ _ _ k4 k3 k5
      · exact q1.elim
    · rename_i i ks ws hx
      split at q1
      · rename_i ds hd
        obtain ⟨a, z1, rfl⟩ := r1
        obtain ⟨a', vs, k1, k2, k3, k4, k5⟩ := h1.freezeD hx hd
        rw [z1] at k1; cases k1
        exact q1 _ _ _ _ k4 k3 k5
      · exact q1.elim
    · exact q1.elim

/-! ### built-ins -/
def StepL (X : Cx) (B : Bs) (Ex : XK) (r : List V → Hp → VK → Prop) (f : List W → Store → R W) : Prop :=
  ∀ (Hf : Hp) (ρ : List Addr) (σ : Slots) (S : Store) (τ : St) (H : Hp) (ws : List W) (vs : List V) (Q : VK), Rel X.K B Hf ρ σ S τ H → RepWs X.K Hf ρ ws vs → Post (RepW X.K) (gd X B Ex) Hf ρ σ τ Q (f ws S) → r vs H Q
theorem intsOf_eq : ∀ {xs : List D} {is : List Int}, intsOf xs = some is → xs = is.map .int
  | [], is, h => by simp only [intsOf] at h; cases h; rfl
  | .int i :: r, is, h => by
    simp only [intsOf] at h
    cases q : intsOf r with
    | none => rw [q] at h; cases h
    | some js => rw [q] at h; cases h; rw [intsOf_eq q]; rfl
  | .non :: r, is, h => by simp [intsOf] at h
  | .bl _ :: r, is, h => by simp [intsOf] at h
  | .str _ :: r, is, h => by simp [intsOf] at h
  | .tup _ :: r, is, h => by simp [intsOf] at h
  | .lst _ :: r, is, h => by simp [intsOf] at h
  | .frl _ :: r, is, h => by simp [intsOf] at h
theorem blsOf_eq : ∀ {xs : List D} {is : List Bool}, blsOf xs = some is → xs = is.map .bl
  | [], is, h => by simp only [blsOf] at h; cases h; rfl
  | .bl i :: r, is, h => by
    simp only [blsOf] at h
    cases q : blsOf r with
    | none => rw [q] at h; cases h
    | some js => rw [q] at h; cases h; rw [blsOf_eq q]; rfl
  | .non :: r, is, h => by simp [blsOf] at h
  | .int _ :: r, is, h => by simp [blsOf] at h
  | .str _ :: r, is, h => by simp [blsOf] at h
  | .tup _ :: r, is, h => by simp [blsOf] at h
  | .lst _ :: r, is, h => by simp [blsOf] at h
  | .frl _ :: r, is, h => by simp [blsOf] at h
theorem RepDs.of_bls {K : PySem.W.Frag} {Hf : Hp} : ∀ {ns : List Bool} {vs : List V}, RepDs K Hf (ns.map D.bl) vs → vs = ns.map V.bl
  | [], _, h => by simpa only [List.map_nil, RepDs] using h
  | n :: r, vs, h => by
    simp only [List.map_cons, RepDs] at h
    obtain ⟨v, q, rfl, h2, h3⟩ := h
    simp only [RepD] at h2
    rw [List.map_cons, h2, RepDs.of_bls h3]
theorem insI_perm (i : Int) : ∀ l : List Int, (insI i l).Perm (i :: l)
  | [] => List.Perm.refl _
  | j :: r => by
    unfold insI
    split
    · exact List.Perm.refl _
    · exact ((insI_perm i r).cons j).trans (List.Perm.swap i j r)
theorem sortI_perm : ∀ l : List Int, (sortI l).Perm l
  | [] => List.Perm.refl _
  | i :: r => (insI_perm i (sortI r)).trans ((sortI_perm r).cons i)
theorem insI_sorted (i : Int) : ∀ {l : List Int}, l.Pairwise (· ≤ ·) → (insI i l).Pairwise (· ≤ ·)
  | [], _ => by simp [insI]
  | j :: r, h => by
    rw [List.pairwise_cons] at h
    unfold insI
    split
    · rename_i hij
      rw [List.pairwise_cons]
      refine ⟨fun a ha => ?_, List.pairwise_cons.mpr h⟩
      rcases List.mem_cons.mp ha with rfl | ha
      · exact hij
      · exact Int.le_trans hij (h.1 a ha)
    · rename_i hij
      rw [List.pairwise_cons]
      refine ⟨fun a ha => ?_, insI_sorted i h.2⟩
      rcases List.mem_cons.mp ((insI_perm i r).mem_iff.mp ha) with rfl | ha
      · omega
      · exact h.1 a ha
theorem sortI_sorted : ∀ l : List Int, (sortI l).Pairwise (· ≤ ·)
  | [] => List.Pairwise.nil
  | i :: r => insI_sorted i (sortI_sorted r)
theorem sortI_the {a b : List Int} (h1 : a.Perm b) (h2 : a.Pairwise (· ≤ ·)) : a = sortI b := PySem.W.ksm_same (h1.trans (sortI_perm b).symm) h2 (sortI_sorted b)
theorem bestOf_min : ∀ (l : List Int) (i : Int), bestOf (fun j i => decide (j < i)) i l ∈ i :: l ∧ ∀ y ∈ i :: l, bestOf (fun j i => decide (j < i)) i l ≤ y
  | [], i => by simp [bestOf]
  | j :: r, i => by
    have ih := bestOf_min r (if decide (j < i) = true then j else i)
    unfold bestOf
    obtain ⟨h1, h2⟩ := ih
    constructor
    · rcases List.mem_cons.mp h1 with e | e
      · rw [e]; split <;> simp
      · exact List.mem_cons_of_mem _ (List.mem_cons_of_mem _ e)
    · intro y hy
      have h0 := h2 _ List.mem_cons_self
      rcases List.mem_cons.mp hy with rfl | hy
      · refine Int.le_trans h0 ?_
        split <;> rename_i q <;> simp at q <;> omega
      · rcases List.mem_cons.mp hy with rfl | hy
        · refine Int.le_trans h0 ?_
          split <;> rename_i q <;> simp at q <;> omega
        · exact h2 y (List.mem_cons_of_mem _ hy)
theorem bestOf_max : ∀ (l : List Int) (i : Int), bestOf (fun j i => decide (j > i)) i l ∈ i :: l ∧ ∀ y ∈ i :: l, y ≤ bestOf (fun j i => decide (j > i)) i l
  | [], i => by simp [bestOf]
  | j :: r, i => by
    have ih := bestOf_max r (if decide (j > i) = true then j else i)
    unfold bestOf
    obtain ⟨h1, h2⟩ := ih
    constructor
    · rcases List.mem_cons.mp h1 with e | e
      · rw [e]; split <;> simp
      · exact List.mem_cons_of_mem _ (List.mem_cons_of_mem _ e)
    · intro y hy
      have h0 := h2 _ List.mem_cons_self
      rcases List.mem_cons.mp hy with rfl | hy
      · refine Int.le_trans ?_ h0
        split <;> rename_i q <;> simp at q <;> omega
      · rcases List.mem_cons.mp hy with rfl | hy
        · refine Int.le_trans ?_ h0
          split <;> rename_i q <;> simp at q <;> omega
        · exact h2 y (List.mem_cons_of_mem _ hy)
def bltName : Blt → Str
  | .len => "len" | .min => "min" | .max => "max" | .sum => "sum" | .all => "all" | .any => "any" | .sorted => "sorted" | .list => "list" | .tuple => "tuple" | .int => "int" | .abs => "abs"
def bltFn : Blt → Value
  | .list => .type "list" | .tuple => .type "tuple" | .int => .type "int"
  | .len => .builtin "len" | .min => .builtin "min" | .max => .builtin "max" | .sum => .builtin "sum" | .all => .builtin "all" | .any => .builtin "any" | .sorted => .builtin "sorted" | .abs => .builtin "abs"
theorem reps1 {K : PySem.W.Frag} {Hf : Hp} {ρ : List Addr} {x : W} {vs : List V} (h : RepWs K Hf ρ [x] vs) : ∃ v, vs = [v] ∧ RepW K Hf ρ x v := by
  obtain ⟨v, r, rfl, h2, h3⟩ := h
  cases (show r = [] from h3)
  exact ⟨v, rfl, h2⟩
theorem reps2 {K : PySem.W.Frag} {Hf : Hp} {ρ : List Addr} {x y : W} {vs : List V} (h : RepWs K Hf ρ [x, y] vs) : ∃ v u, vs = [v, u] ∧ RepW K Hf ρ x v ∧ RepW K Hf ρ y u := by
  obtain ⟨v, r, rfl, h2, h3⟩ := h
  obtain ⟨u, rfl, h4⟩ := reps1 h3
  exact ⟨v, u, rfl, h2, h4⟩
theorem lst_ints {B : Bs} {Hf : Hp} {ρ : List Addr} {σ : Slots} {S : Store} {τ : St} {H : Hp} {x : W} {v : V} {is : List Int} (h : Rel X.K B Hf ρ σ S τ H) (r : RepW X.K Hf ρ x v) (e : (lstW S x).bind intsOf = some is) : ∃ a, v = .ref a ∧ SqL X.K H a (is.map V.int) := by
  cases q : lstW S x with
  | none => rw [q] at e; cases e
  | some xs =>
    rw [q] at e
    have e2 := intsOf_eq e
    subst e2
    obtain ⟨a, vs, h1, h2, h3⟩ := h.lstW r q
    rw [RepDs.of_ints h3] at h2
    exact ⟨a, h1, SqL.of h2⟩
theorem lst_bls {B : Bs} {Hf : Hp} {ρ : List Addr} {σ : Slots} {S : Store} {τ : St} {H : Hp} {x : W} {v : V} {is : List Bool} (h : Rel X.K B Hf ρ σ S τ H) (r : RepW X.K Hf ρ x v) (e : (lstW S x).bind blsOf = some is) : ∃ a, v = .ref a ∧ SqL X.K H a (is.map V.bl) := by
  cases q : lstW S x with
  | none => rw [q] at e; cases e
  | some xs =>
    rw [q] at e
    have e2 := blsOf_eq e
    subst e2
    obtain ⟨a, vs, h1, h2, h3⟩ := h.lstW r q
    rw [RepDs.of_bls h3] at h2
    exact ⟨a, h1, SqL.of h2⟩
end
end Zz

set_option Elab.async false
set_option linter.all false
set_option maxRecDepth 100000
set_option maxHeartbeats 4000000
set_option autoImplicit false
namespace Zz
open PySem PySem.Spec PyProof.Rows L2
section
variable {X : Cx} {Ex : XK} {G : GT} {N : List Str} {sc : Scope} {e1 e2 e3 : PySem.Expr} {es : List PySem.Expr} {pos p apos : Pos} {ta tb tc : Slots → Store → R W} {tes : Slots → Store → R (List W)}

def rLenD : List V → Hp → VK → Prop := fun vs H Q => ∃ d kvs, vs = [V.ref d] ∧ H d = some (.dK kvs) ∧ Q (.int kvs.length) H
theorem sl_len {B : Bs} : StepL X B Ex (fun xs H Q => (∃ x n, xs = [x] ∧ LenV X.K x H n ∧ Q (.int n) H) ∨ rLenD xs H Q) lenW := by
  intro Hf ρ σ S τ H ws vs Q h r q
  unfold lenW at q
  split at q
  · obtain ⟨v, rfl, r1⟩ := reps1 r
    split at q
    · cases (show v = .str _ by simpa only [RepW, RepD] using r1)
      exact .inl ⟨_, _, rfl, ⟨by assumption, rfl⟩, Post.done (g := gd X B Ex) h q repOfInt⟩
    · exact q.elim
  · obtain ⟨v, rfl, r1⟩ := reps1 r
    split at q
    · rename_i xs hx
      obtain ⟨a, vs, rfl, k1, k2⟩ := h.seqW r1 hx
      refine .inl ⟨_, vs.length, rfl, ?_, ?_⟩
      · rcases k1 with k1 | k1
        · exact .inl ⟨vs, k1, rfl⟩
        · exact .inr ⟨vs, k1, rfl⟩
      · rw [k2.length] at q
        exact Post.done (g := gd X B Ex) h q repOfInt
    · exact q.elim
  · obtain ⟨v, rfl, r1⟩ := reps1 r
    split at q
    · rename_i xs hx
      obtain ⟨a, vs, rfl, _, k3, k4⟩ := h.ref_lst hx r1
      refine .inl ⟨_, vs.length, rfl, .inl ⟨vs, SqL.of k3, rfl⟩, ?_⟩
      rw [k4.length] at q
      exact Post.done (g := gd X B Ex) h q repOfInt
    · rename_i xs hx
      obtain ⟨a, z1, rfl⟩ := r1
      obtain ⟨a', z3, z4, vs, z5, z6⟩ := h.ob _ _ hx
      rw [z1] at z3; cases z3
      refine .inl ⟨_, vs.length, rfl, .inl ⟨vs, SqL.of z5, rfl⟩, ?_⟩
      rw [z6.length] at q
      exact Post.done (g := gd X B Ex) h q repOfInt
    · rename_i ks ws hx
      obtain ⟨a, z1, rfl⟩ := r1
      obtain ⟨a', z3, z4, vs, z5, z6, z7⟩ := h.ob _ _ hx
      rw [z1] at z3; cases z3
      refine .inr ⟨a, _, rfl, z5, ?_⟩
      have el : (ks.zip vs).length = ks.length := by rw [List.length_zip, z6, z7.length]; omega
      rw [el]
      exact Post.done (g := gd X B Ex) h q repOfInt
    · exact q.elim
  · exact q.elim
theorem sl_min {B : Bs} : StepL X B Ex (fun xs H Q => (∃ i j, xs = [.int i, .int j] ∧ Q (.int (if j < i then j else i)) H) ∨ rMin X.K xs H Q) minW := by
  intro Hf ρ σ S τ H ws vs Q h r q
  unfold minW at q
  split at q
  · obtain ⟨v, u, rfl, r1, r2⟩ := reps2 r
    cases repInt r1; cases repInt r2
    exact .inl ⟨_, _, rfl, Post.done (g := gd X B Ex) h q repOfInt⟩
  · obtain ⟨v, rfl, r1⟩ := reps1 r
    split at q
    · rename_i i is hx
      obtain ⟨a, rfl, k⟩ := lst_ints h r1 hx
      obtain ⟨b1, b2⟩ := bestOf_min is i
      refine .inr ⟨a, _, rfl, k, by simp, fun m hm hle => ?_⟩
      have e : m = bestOf (fun j i => decide (j < i)) i is := Int.le_antisymm (hle _ b1) (b2 _ hm)
      rw [e]
      exact Post.done (g := gd X B Ex) h q repOfInt
    · exact q.elim
  · exact q.elim
theorem sl_max {B : Bs} : StepL X B Ex (fun xs H Q => (∃ i j, xs = [.int i, .int j] ∧ Q (.int (if j > i then j else i)) H) ∨ rMax X.K xs H Q) maxW := by
  intro Hf ρ σ S τ H ws vs Q h r q
  unfold maxW at q
  split at q
  · obtain ⟨v, u, rfl, r1, r2⟩ := reps2 r
    cases repInt r1; cases repInt r2
    exact .inl ⟨_, _, rfl, Post.done (g := gd X B Ex) h q repOfInt⟩
  · obtain ⟨v, rfl, r1⟩ := reps1 r
    split at q
    · rename_i i is hx
      obtain ⟨a, rfl, k⟩ := lst_ints h r1 hx
      obtain ⟨b1, b2⟩ := bestOf_max is i
      refine .inr ⟨a, _, rfl, k, by simp, fun m hm hle => ?_⟩
      have e : m = bestOf (fun j i => decide (j > i)) i is := Int.le_antisymm (b2 _ hm) (hle _ b1)
      rw [e]
      exact Post.done (g := gd X B Ex) h q repOfInt
    · exact q.elim
  · exact q.elim
theorem sl_sum {B : Bs} : StepL X B Ex (rSum X.K) sumW := by
  intro Hf ρ σ S τ H ws vs Q h r q
  unfold sumW at q
  split at q
  · obtain ⟨v, rfl, r1⟩ := reps1 r
    split at q
    · rename_i is hx
      obtain ⟨a, rfl, k⟩ := lst_ints h r1 hx
      exact ⟨a, is, rfl, k, Post.done (g := gd X B Ex) h q repOfInt⟩
    · exact q.elim
  · exact q.elim
theorem sl_all {B : Bs} : StepL X B Ex (rAll X.K) allW := by
  intro Hf ρ σ S τ H ws vs Q h r q
  unfold allW at q
  split at q
  · obtain ⟨v, rfl, r1⟩ := reps1 r
    split at q
    · rename_i is hx
      obtain ⟨a, rfl, k⟩ := lst_bls h r1 hx
      exact ⟨a, is, rfl, k, Post.done (g := gd X B Ex) h q repOfBl⟩
    · exact q.elim
  · exact q.elim
theorem sl_any {B : Bs} : StepL X B Ex (rAny X.K) anyW := by
  intro Hf ρ σ S τ H ws vs Q h r q
  unfold anyW at q
  split at q
  · obtain ⟨v, rfl, r1⟩ := reps1 r
    split at q
    · rename_i is hx
      obtain ⟨a, rfl, k⟩ := lst_bls h r1 hx
      exact ⟨a, is, rfl, k, Post.done (g := gd X B Ex) h q repOfBl⟩
    · exact q.elim
  · exact q.elim
theorem sl_sorted {B : Bs} {r : Bool} : StepL X B Ex (fun xs H Q => rSortedTup X.K xs H Q ∨ rSortedI X.K xs H Q) (sortedW r) := by
  intro Hf ρ σ S τ H ws vs Q h rr q
  unfold sortedW at q
  split at q
  · rename_i xs
    obtain ⟨v, rfl, r1⟩ := reps1 rr
    obtain ⟨a, us, rfl, k1, k2⟩ := repTup r1
    split at q
    · rename_i is hx
      have e := intsOf_eq hx
      subst e
      have e2 := RepDs.of_ints k2
      subst e2
      refine .inl ⟨a, is, rfl, SqT.of (h.sub _ _ k1), fun ns' p hp hs hn => ?_⟩
      rw [sortI_the hp hs]
      exact Post.newL h q hn (RepDs.ints _)
    · exact q.elim
  · obtain ⟨v, rfl, r1⟩ := reps1 rr
    split at q
    · rename_i is hx
      obtain ⟨a, rfl, k⟩ := lst_ints h r1 hx
      refine .inr ⟨a, is, rfl, k, fun ns' p hp hs hn => ?_⟩
      rw [sortI_the hp hs]
      exact Post.newL h q hn (RepDs.ints _)
    · exact q.elim
  · exact q.elim
theorem sl_list {B : Bs} {r : Bool} : StepL X B Ex (fun xs H Q => ∃ p ys, xs = [.ref p] ∧ (SqL X.K H p ys ∨ SqT X.K H p ys) ∧ ∀ l, H l = none → Q (.ref l) (upd H l (.lst ys))) (listW r) := by
  intro Hf ρ σ S τ H ws vs Q h rr q
  unfold listW at q
  split at q
  · obtain ⟨v, rfl, r1⟩ := reps1 rr
    split at q
    · rename_i xs hx
      obtain ⟨a, us, rfl, k1, k2⟩ := h.seqW r1 hx
      exact ⟨a, us, rfl, k1, fun l hl => Post.newL h q hl k2⟩
    · exact q.elim
  · exact q.elim
theorem sl_tuple {B : Bs} : StepL X B Ex (fun xs H Q => ∃ p ys, xs = [.ref p] ∧ ((SqL X.K H p ys ∧ ∀ l, H l = none → Q (.ref l) (upd H l (.tup ys))) ∨ (SqT X.K H p ys ∧ Q (.ref p) H))) tupleW := by
  intro Hf ρ σ S τ H ws vs Q h rr q
  unfold tupleW at q
  split at q
  · rename_i xs
    obtain ⟨v, rfl, r1⟩ := reps1 rr
    obtain ⟨a, us, rfl, k1, k2⟩ := repTup r1
    exact ⟨a, us, rfl, .inr ⟨SqT.of (h.sub _ _ k1), Post.done (g := gd X B Ex) h q r1⟩⟩
  · obtain ⟨v, rfl, r1⟩ := reps1 rr
    split at q
    · rename_i xs hx
      obtain ⟨a, us, rfl, k1, k2⟩ := h.lstW r1 hx
      refine ⟨a, us, rfl, .inl ⟨SqL.of k1, fun l hl => Post.newF h q hl fun Hf' e e2 => ?_⟩⟩
      simp only [RepD]
      exact ⟨l, us, rfl, e2, RepDs.mono e _ _ k2⟩
    · exact q.elim
  · exact q.elim
theorem sl_int {B : Bs} : StepL X B Ex (fun xs H Q => (∃ i, xs = [.int i] ∧ Q (.int i) H) ∨ ∃ k, xs = [.bl k] ∧ Q (.int (if k then 1 else 0)) H) intW := by
  intro Hf ρ σ S τ H ws vs Q h rr q
  unfold intW at q
  split at q
  · obtain ⟨v, rfl, r1⟩ := reps1 rr
    cases repInt r1
    exact .inl ⟨_, rfl, Post.done (g := gd X B Ex) h q repOfInt⟩
  · obtain ⟨v, rfl, r1⟩ := reps1 rr
    cases tr_bl r1
    exact .inr ⟨_, rfl, Post.done (g := gd X B Ex) h q repOfInt⟩
  · exact q.elim
theorem sl_abs {B : Bs} : StepL X B Ex (fun xs H Q => ∃ i, xs = [.int i] ∧ Q (.int (if i < 0 then -i else i)) H) absW := by
  intro Hf ρ σ S τ H ws vs Q h rr q
  unfold absW at q
  split at q
  · obtain ⟨v, rfl, r1⟩ := reps1 rr
    cases repInt r1
    exact ⟨_, rfl, Post.done (g := gd X B Ex) h q repOfInt⟩
  · exact q.elim
theorem blt_rule (g : Good G N sc Ex X) (b : Blt) (r : Bool) : ∃ rr, CallR X (bltFn b) rr ∧ ∀ B, StepL X B Ex rr (bltW b r) := by
  cases b with
  | len => exact ⟨_, call_len.or call_lenD, fun _ => sl_len⟩
  | min => exact ⟨_, (call_min2 g.calm).or (cr_min g.calm), fun _ => sl_min⟩
  | max => exact ⟨_, (call_max2 g.calm).or (cr_max g.calm), fun _ => sl_max⟩
  | sum => exact ⟨_, cr_sum g.calm, fun _ => sl_sum⟩
  | all => exact ⟨_, cr_all g.calm, fun _ => sl_all⟩
  | any => exact ⟨_, cr_any g.calm, fun _ => sl_any⟩
  | sorted => exact ⟨_, cr_sortedTup.or cr_sortedI, fun _ => sl_sorted⟩
  | list => exact ⟨_, call_list_of, fun _ => sl_list⟩
  | tuple => exact ⟨_, call_tuple_of, fun _ => sl_tuple⟩
  | int => exact ⟨_, call_int1, fun _ => sl_int⟩
  | abs => exact ⟨_, call_abs, fun _ => sl_abs⟩
theorem s_callR {rr : List V → Hp → VK → Prop} {f : List W → Store → R W} {e : PySem.Expr} (hs : ∀ B, StepL X B Ex rr f) (hp : PE X e (tCB rr (rA X Ex tes))) : PE X e (rE X Ex fun σ S => (tes σ S).bind f) :=
  PE.weak hp fun τ H Q ⟨B, Hf, ρ, σ, S, h, q⟩ => ⟨B, Hf, ρ, σ, S, h, (Post.bind q).imp fun vs H1 ⟨Hf1, ρ1, S1, ws, e1, h1, r1, q1⟩ => hs B Hf1 ρ1 σ S1 τ H1 ws vs Q h1 r1 q1⟩
theorem s_blt {b : Blt} {r : Bool} {x : Str} (g : Good G N sc Ex X) (hx : x = bltName b) (h1 : glB sc x = true) (hp : plainEs (e1 :: es) = true) (ha : PA X (e1 :: es) (rA X Ex tes)) :
    PE X (.Call (.Name x p) (e1 :: es) [] pos) (rE X Ex fun σ S => (tes σ S).bind fun ws S1 => bltW b r ws S1) := by
  obtain ⟨rr, hc, hs⟩ := blt_rule g b r
  simp only [plainEs, Bool.and_eq_true] at hp
  have hg := gl_of g.hsc h1
  subst hx
  refine s_callR hs ?_
  cases b with
  | len => exact pe_callB hc hg (g.blt _ (by decide +kernel)) (by decide +kernel) ha (by decide +kernel) (by decide +kernel) (star_of hp.1) (star_any hp.2)
  | min => exact pe_callB hc hg (g.blt _ (by decide +kernel)) (by decide +kernel) ha (by decide +kernel) (by decide +kernel) (star_of hp.1) (star_any hp.2)
  | max => exact pe_callB hc hg (g.blt _ (by decide +kernel)) (by decide +kernel) ha (by decide +kernel) (by decide +kernel) (star_of hp.1) (star_any hp.2)
  | sum => exact pe_callB hc hg (g.blt _ (by decide +kernel)) (by decide +kernel) ha (by decide +kernel) (by decide +kernel) (star_of hp.1) (star_any hp.2)
  | all => exact pe_callB hc hg (g.blt _ (by decide +kernel)) (by decide +kernel) ha (by decide +kernel) (by decide +kernel) (star_of hp.1) (star_any hp.2)
  | any => exact pe_callB hc hg (g.blt _ (by decide +kernel)) (by decide +kernel) ha (by decide +kernel) (by decide +kernel) (star_of hp.1) (star_any hp.2)
  | sorted => exact pe_callB hc hg (g.blt _ (by decide +kernel)) (by decide +kernel) ha (by decide +kernel) (by decide +kernel) (star_of hp.1) (star_any hp.2)
  | abs => exact pe_callB hc hg (g.blt _ (by decide +kernel)) (by decide +kernel) ha (by decide +kernel) (by decide +kernel) (star_of hp.1) (star_any hp.2)
  | list => exact pe_callTy hc hg (g.blt _ (by decide +kernel)) (by decide +kernel) ha (by decide +kernel) (by decide +kernel) (star_of hp.1) (star_any hp.2)
  | tuple => exact pe_callTy hc hg (g.blt _ (by decide +kernel)) (by decide +kernel) ha (by decide +kernel) (by decide +kernel) (star_of hp.1) (star_any hp.2)
  | int => exact pe_callTy hc hg (g.blt _ (by decide +kernel)) (by decide +kernel) ha (by decide +kernel) (by decide +kernel) (star_of hp.1) (star_any hp.2)

/-! ### isinstance -/
def tyNm : Ty → String
  | .int => "int" | .bool => "bool" | .str => "str" | .tuple => "tuple" | .list => "list"
def tyStr : Ty → Str
  | .int => "int" | .bool => "bool" | .str => "str" | .tuple => "tuple" | .list => "list"
def isiOk : D → Bool
  | .frl _ => false | .obj _ _ _ => false | _ => true
theorem kit_all (t : Ty) (d : D) (hd : isiOk d = true) : kitB (tyD d) (tyNm t) = some (isTy t d) := by
  cases d <;> first | (simp [isiOk] at hd; done) | skip
  all_goals (cases t <;> (simp only [tyD, tyNm, isTy]; decide +kernel))
theorem ty_of {B : Bs} {Hf : Hp} {ρ : List Addr} {σ : Slots} {S : Store} {τ : St} {H : Hp} {w : W} {v : V} {d : D} (h : Rel X.K B Hf ρ σ S τ H) (r : RepW X.K Hf ρ w v) (e : datW S w = some d) (hd : isiOk d = true) : TyX X.K H v (.type (tyD d)) := by
  refine .base ?_
  unfold datW at e
  split at e
  · cases e
    have r : RepD X.K Hf d v := r
    cases d with
    | non => simp only [RepD] at r; subst r; exact .non
    | bl b => simp only [RepD] at r; subst r; exact .bl _
    | int i => simp only [RepD] at r; subst r; exact .int _
    | str x => simp only [RepD] at r; subst r; exact .str _
    | tup xs => simp only [RepD] at r; obtain ⟨a, vs, rfl, k, _⟩ := r; exact .tup (h.sub _ _ k)
    | lst xs => simp only [RepD] at r; obtain ⟨a, vs, rfl, k, _⟩ := r; exact .lst (h.sub _ _ k)
    | frl ns => cases hd
    | dic ks xs => simp only [RepD] at r; obtain ⟨a, rfl, vs, k, _⟩ := r; exact .dK (h.sub _ _ k)
    | obj C fs xs => cases hd
  · split at e
    · rename_i hx
      cases e
      obtain ⟨a, vs, rfl, _, k3, k4⟩ := h.ref_lst hx r
      exact .lst k3
    · cases e
theorem s_isi {t : Ty} {x : Str} {y : Str} {p' : Pos} (g : Good G N sc Ex X) (hx : x = "isinstance") (hy : y = tyStr t) (h1 : glB sc x = true) (h2 : glB sc y = true) (hp : plainE e1 = true) (ha : PE X e1 (rE X Ex ta)) :
    PE X (.Call (.Name x p) [e1, .Name y p'] [] pos) (rE X Ex fun σ S => (ta σ S).bind fun x S1 => isiW t x S1) := by
  subst hx hy
  have hg := gl_of g.hsc h1
  have hg2 := gl_of g.hsc h2
  have hty : PE X (.Name (tyStr t) p') (tC (.ty (tyNm t))) := by
    cases t <;> exact pe_bltn hg2 (g.blt _ (by decide +kernel)) (u := .type _) (by decide +kernel) rfl (by decide +kernel) (by decide +kernel)
  refine PE.weak (pe_callB call_isi hg (g.blt _ (by decide +kernel)) (by decide +kernel) (pa_cons ha (pa_cons hty pa_nil) (star_of hp)) (by decide +kernel) (by decide +kernel) (star_of hp) (by rfl)) fun τ H Q ⟨B, Hf, ρ, σ, S, h, q⟩ =>
    ⟨B, Hf, ρ, σ, S, h, (Post.bind q).imp fun v H1 ⟨Hf1, ρ1, S1, w, e1, h1, r1, q1⟩ => ?_⟩
  unfold isiW at q1
  split at q1
  · exact q1.elim
  · exact q1.elim
  · rename_i d hn1 hn3 hd
    have hnf' : isiOk d = true := by
      cases d <;> first | rfl | exact absurd rfl (hn1 _) | exact absurd rfl (hn3 _ _ _)
    exact ⟨v, .ty (tyNm t), .type (tyD d), .type (tyNm t), isTy t d, rfl, .ty _, ty_of h1 r1 hd hnf', kit_ty (kit_all t d hnf'), Post.done (g := gd X B Ex) h1 q1 repOfBl⟩
  · exact q1.elim

/-! ### methods of lists -/
def mthName : Mth → Str
  | .append => "append" | .extend => "extend" | .pop => "pop"
theorem sm_append {B : Bs} {Hf : Hp} {ρ : List Addr} {σ : Slots} {S : Store} {τ : St} {H : Hp} {o : W} {v : V} {ws : List W} {vs : List V} {Q : VK} (h : Rel X.K B Hf ρ σ S τ H) (r : RepW X.K Hf ρ o v) (rs : RepWs X.K Hf ρ ws vs) (q : Post (RepW X.K) (gd X B Ex) Hf ρ σ τ Q (appendW o ws S)) :
    rAppend v vs H Q := by
  unfold appendW at q
  split at q
  · rename_i i d
    split at q
    · rename_i xs hx
      split at q
      · rename_i hl
        obtain ⟨a, us, rfl, k1, k2, k3⟩ := h.ref_lst hx r
        obtain ⟨u, rfl, r1⟩ := reps1 rs
        refine ⟨a, us, u, rfl, rfl, k2, by rw [← k3.length]; exact hl, ?_⟩
        have hw := h.write (o' := .lst (xs ++ [d])) (vs := us ++ [u]) hx k1 ⟨_, upd_same, k3.append (by simp only [RepDs]; exact ⟨u, [], rfl, r1, rfl⟩)⟩
        exact q _ _ _ _ (Ext.refl _ _) hw (by simp only [RepW, RepD])
      · exact q.elim
    · exact q.elim
  · exact q.elim
theorem sm_extend {B : Bs} {Hf : Hp} {ρ : List Addr} {σ : Slots} {S : Store} {τ : St} {H : Hp} {o : W} {v : V} {ws : List W} {vs : List V} {Q : VK} (h : Rel X.K B Hf ρ σ S τ H) (r : RepW X.K Hf ρ o v) (rs : RepWs X.K Hf ρ ws vs) (q : Post (RepW X.K) (gd X B Ex) Hf ρ σ τ Q (extendW o ws S)) :
    rExtend v vs H Q := by
  unfold extendW at q
  split at q
  · rename_i i w
    split at q
    · rename_i xs ds hx hd
      split at q
      · rename_i hl
        obtain ⟨a, us, rfl, k1, k2, k3⟩ := h.ref_lst hx r
        obtain ⟨u, rfl, r1⟩ := reps1 rs
        obtain ⟨b, zs, rfl, z1, z2⟩ := h.lstW r1 hd
        refine ⟨a, b, us, zs, rfl, rfl, k2, z1, by rw [← k3.length, ← z2.length]; exact hl, ?_⟩
        have hw := h.write (o' := .lst (xs ++ ds)) (vs := us ++ zs) hx k1 ⟨_, upd_same, k3.append z2⟩
        exact q _ _ _ _ (Ext.refl _ _) hw (by simp only [RepW, RepD])
      · exact q.elim
    · exact q.elim
  · exact q.elim
theorem RepDs.dropLast {K : PySem.W.Frag} {Hf : Hp} {ds : List D} {vs : List V} (h : RepDs K Hf ds vs) : RepDs K Hf ds.dropLast vs.dropLast := by
  rw [List.dropLast_eq_take, List.dropLast_eq_take, h.length]
  exact h.take _
theorem sm_pop {B : Bs} {Hf : Hp} {ρ : List Addr} {σ : Slots} {S : Store} {τ : St} {H : Hp} {o : W} {v : V} {ws : List W} {vs : List V} {Q : VK} (h : Rel X.K B Hf ρ σ S τ H) (r : RepW X.K Hf ρ o v) (rs : RepWs X.K Hf ρ ws vs) (q : Post (RepW X.K) (gd X B Ex) Hf ρ σ τ Q (popW o ws S)) :
    rPop v vs H Q := by
  unfold popW at q
  split at q
  · split at q
    · rename_i xs hx
      split at q
      · rename_i d hd
        obtain ⟨a, us, rfl, k1, k2, k3⟩ := h.ref_lst hx r
        obtain ⟨y, hy, ry⟩ := k3.get hd
        cases (show vs = [] from rs)
        refine ⟨a, us, y, rfl, rfl, k2, by rw [← k3.length]; exact hy, ?_⟩
        have hw := h.write (o' := .lst xs.dropLast) (vs := us.dropLast) hx k1 ⟨_, upd_same, k3.dropLast⟩
        exact q _ _ _ _ (Ext.refl _ _) hw ry
      · exact q.elim
    · exact q.elim
  · exact q.elim
theorem lst_ty {B : Bs} {Hf : Hp} {ρ : List Addr} {σ : Slots} {S : Store} {τ : St} {H : Hp} {o : W} {v : V} (h : Rel X.K B Hf ρ σ S τ H) (rp : RepW X.K Hf ρ o v) (ho : isLst o S = true) : tyV X.K "list" v H := by
  unfold isLst at ho
  split at ho
  · split at ho
    · rename_i hx
      obtain ⟨a, us, rfl, k1, k2, k3⟩ := h.ref_lst hx rp
      exact .inl ⟨rfl, us, SqL.of k2⟩
    · cases ho
  · cases ho
theorem few_of {pos : Pos} {env : Env} {es : List PySem.Expr} (h : plainEs es = true) (hl : es.length < 30) : ((backTo pos (starEach es env)).all (fun x => !x.1) && (backToKw pos (keywordEach [] env)).all (fun x => x.1.isSome)
      && decide (es.length + ([] : List Keyword).length + (if ([] : List Keyword).isEmpty then 0 else 1) < 30)) = true := by
  rw [star_few h, Bool.true_and, show ((backToKw pos (keywordEach [] env)).all fun x => x.1.isSome) = true from rfl, Bool.true_and]
  exact decide_eq_true (by simpa using hl)
theorem s_mth {m : Mth} {r : Bool} {name : Str} {cpos : Pos} (hn : name = mthName m) (hb : plainBase e1 = true) (hl : (apos.endLine == cpos.line) = true) (hp : plainEs es = true) (hz : es.length = 1) (hm : m ≠ .pop)
    (ho : PE X e1 (rE X Ex ta)) (ha : PA X es (rA X Ex tes)) :
    PE X (.Call (.Attribute e1 name apos) es [] cpos) (rE X Ex fun σ S => (ta σ S).bind fun x S1 => if isLst x S1 then (tes σ S1).bind fun ws S2 => mthW m r x ws S2 else .bad) := by
  subst hn
  have go : ∀ (id : String) (rr : V → List V → Hp → VK → Prop) (f : W → List W → Store → R W), (∀ (B : Bs) (Hf : Hp) (ρ : List Addr) (σ : Slots) (S : Store) (τ : St) (H : Hp) (o : W) (v : V) (ws : List W) (vs : List V) (Q : VK), Rel X.K B Hf ρ σ S τ H → RepW X.K Hf ρ o v → RepWs X.K Hf ρ ws vs → Post (RepW X.K) (gd X B Ex) Hf ρ σ τ Q (f o ws S) → rr v vs H Q) →
      ∀ (τ : St) (H : Hp) (Q : VK), rE X Ex (fun σ S => (ta σ S).bind fun x S1 => if isLst x S1 then (tes σ S1).bind fun ws S2 => f x ws S2 else .bad) τ H Q → tBM X.K "list" rr (rE X Ex ta) (rA X Ex tes) τ H Q := by
    intro id rr f hf τ H Q ⟨B, Hf, ρ, σ, S, h, q⟩
    refine ⟨B, Hf, ρ, σ, S, h, (Post.bind q).imp fun v H1 ⟨Hf1, ρ1, S1, w, e1, h1, r1, q1⟩ => ?_⟩
    split at q1
    · rename_i hi
      exact ⟨lst_ty h1 r1 hi, B, Hf1, ρ1, σ, S1, h1, (Post.bind q1).imp fun vs H2 ⟨Hf2, ρ2, S2, ws, e2, h2, r2, q2⟩ => hf B Hf2 ρ2 σ S2 τ H2 w v ws vs Q h2 (r1.mono e2.f e2.r) r2 q2⟩
    · exact q1.elim
  cases m with
  | append =>
    match es, hz with
    | [a], _ =>
      simp only [plainEs, Bool.and_true] at hp
      exact PE.weak (pe_bm PySem.F.plainAttrs_list PySem.F.slot_list_append PySem.F.type_list_append mt_append ho ha (base_of hb) (few_of (by simp [plainEs, hp]) (by simp)) hl (star_of hp) rfl) (go "" _ appendW fun B Hf ρ σ S τ H o v ws vs Q h r rs q => sm_append h r rs q)
  | extend =>
    match es, hz with
    | [a], _ =>
      simp only [plainEs, Bool.and_true] at hp
      exact PE.weak (pe_bm PySem.F.plainAttrs_list PySem.F.slot_list_extend PySem.F.type_list_extend mt_extend ho ha (base_of hb) (few_of (by simp [plainEs, hp]) (by simp)) hl (star_of hp) rfl) (go "" _ extendW fun B Hf ρ σ S τ H o v ws vs Q h r rs q => sm_extend h r rs q)
  | pop => exact absurd rfl hm
theorem s_pop {r : Bool} {name : Str} {cpos : Pos} (hn : name = mthName .pop) (hb : plainBase e1 = true) (hl : (apos.endLine == cpos.line) = true) (ho : PE X e1 (rE X Ex ta)) :
    PE X (.Call (.Attribute e1 name apos) [] [] cpos) (rE X Ex fun σ S => (ta σ S).bind fun x S1 => if isLst x S1 then (R.ok [] S1).bind fun ws S2 => mthW .pop r x ws S2 else .bad) := by
  subst hn
  refine PE.weak (pe_bm0 PySem.F.plainAttrs_list PySem.F.slot_list_pop PySem.F.type_list_pop mt_pop ho (base_of hb) hl) fun τ H Q ⟨B, Hf, ρ, σ, S, h, q⟩ => ?_
  refine ⟨B, Hf, ρ, σ, S, h, (Post.bind q).imp fun v H1 ⟨Hf1, ρ1, S1, w, e1, h1, r1, q1⟩ => ?_⟩
  split at q1
  · rename_i hi
    exact ⟨lst_ty h1 r1 hi, sm_pop h1 r1 (show RepWs X.K Hf1 ρ1 [] [] from rfl) q1⟩
  · exact q1.elim
end
end Zz

set_option Elab.async false
set_option linter.all false
set_option maxRecDepth 100000
set_option maxHeartbeats 4000000
set_option autoImplicit false
namespace Zz
open PySem PySem.Spec PyProof.Rows L2

/-! ### a callee's window of the store -/
section
variable {K : PySem.W.Frag} {B : Bs} {Hf H Hf' H' : Hp} {ρ ρ' : List Addr} {σ σ' : Slots} {S S' : Store} {τ τ' : St} {k : Nat}
theorem args_win (hk : k ≤ ρ.length) : ∀ {ws : List W} {vs : List V}, argsOk k ws = true → RepWs K Hf ρ ws vs → RepWs K Hf (ρ.take k) ws vs
  | [], _, _, h => h
  | .v d :: ws, vs, e, ⟨v, r, h1, h2, h3⟩ => ⟨v, r, h1, h2, args_win hk (by simpa only [argsOk] using e) h3⟩
  | .ref i :: ws, vs, e, ⟨v, r, h1, h2, h3⟩ => by
    simp only [argsOk, Bool.and_eq_true, decide_eq_true_eq] at e
    obtain ⟨a, z1, z2⟩ := h2
    exact ⟨v, r, h1, ⟨a, by rw [List.getElem?_take_of_lt e.1]; exact z1, z2⟩, args_win hk e.2 h3⟩
/-- the references of an object -/
def obWs : Ob → List W
  | .lst _ => [] | .lsr ws => ws | .dct _ ws => ws | .dtt _ ws => ws | .ins _ _ ws => ws
theorem args_mem : ∀ {S : Store} {o : Ob} {i : Nat}, obsOk k S = true → S[i]? = some (some o) → argsOk k (obWs o) = true
  | [], _, _, _, e => by simp at e
  | o :: S, ws, 0, h, e => by
    simp at e; subst e
    cases ws <;> first | rfl | (simp only [obsOk, Bool.and_eq_true] at h; exact h.1)
  | o :: S, ws, i + 1, h, e => by
    have h2 : obsOk k S = true := by
      cases o with
      | none => simpa only [obsOk] using h
      | some o => cases o <;> first | (simpa only [obsOk] using h) | (simp only [obsOk, Bool.and_eq_true] at h; exact h.2)
    exact args_mem (i := i) h2 (by simpa using e)
theorem ObR.ws {a : Addr} : ∀ {o : Ob}, ObR K Hf ρ H a o → (∀ vs, RepWs K Hf ρ (obWs o) vs → RepWs K Hf ρ' (obWs o) vs) → ObR K Hf ρ' H a o
  | .lst xs, h, _ => h
  | .lsr ws, ⟨vs, h1, h2⟩, k => ⟨vs, h1, k vs h2⟩
  | .dct _ ws, ⟨vs, h1, h2, h3⟩, k => ⟨vs, h1, h2, k vs h3⟩
  | .dtt _ ws, ⟨vs, h1, h2, h3⟩, k => ⟨vs, h1, h2, k vs h3⟩
  | .ins _ _ ws, ⟨Ca, dx, vs, h0, h1, h2, h3⟩, k => ⟨Ca, dx, vs, h0, h1, h2, k vs h3⟩
theorem Rel.window (h : Rel K B Hf ρ σ S τ H) (hk : k ≤ S.length) (ho : obsOk k (S.take k) = true) : Rel K ⟨H, Hf, ρ.take k⟩ Hf (ρ.take k) [] (S.take k) [] H where
  sub := h.sub
  len := rfl
  slot := fun i w e => by simp at e
  rl := by rw [List.length_take, List.length_take, h.rl]
  nd := h.nd.sublist (List.take_sublist _ _)
  tr := fun a m => h.tr a (List.mem_of_mem_take m)
  ob := fun i o e => by
    have hi : i < k := by
      have := (List.getElem?_eq_some_iff.mp e).1
      rw [List.length_take] at this
      omega
    have e0 := e
    rw [List.getElem?_take_of_lt hi] at e
    obtain ⟨a, q1, q2, q3⟩ := h.ob i o e
    refine ⟨a, by rw [List.getElem?_take_of_lt hi]; exact q1, q2, ?_⟩
    exact q3.ws fun vs z => args_win (by rw [h.rl]; exact hk) (args_mem ho e0) z
  keep := fun _ _ e _ => e
  newr := fun _ m => .inl m
  newf := fun a o e => .inl ⟨o, e⟩
  subB := Same.refl _
  preB := List.prefix_refl _
theorem Rel.unwindow (h : Rel K B Hf ρ σ S τ H) (hk : k ≤ S.length) (c : Rel K ⟨H, Hf, ρ.take k⟩ Hf' ρ' σ' S' τ' H') (ho : obsOk k (S'.take k) = true) :
    Rel K B Hf' ρ σ (S'.take k ++ S.drop k) τ H' ∧ Ext Hf ρ Hf' ρ := by
  have hrk : (ρ.take k).length = k := by rw [List.length_take, h.rl]; omega
  obtain ⟨t, ht⟩ := c.preB
  have ht : ρ.take k ++ t = ρ' := ht
  have hk' : k ≤ ρ'.length := by rw [← ht, List.length_append]; omega
  have hkS : k ≤ S'.length := by rw [← c.rl]; exact hk'
  have pre : ρ'.take k = ρ.take k := by rw [← ht, List.take_append_of_le_length (by omega), List.take_take, Nat.min_self]
  have hB : ∀ a, H a = none → B.H a = none ∨ a ∈ B.ρ := fun a z => by
    refine Decidable.byCases (p := a ∈ B.ρ) .inr fun m => .inl ?_
    cases q : B.H a with
    | none => rfl
    | some u => rw [h.keep a u q m] at z; cases z
  have nin : ∀ (i : Nat) (a : Addr), k ≤ i → ρ[i]? = some a → a ∉ ρ.take k := fun i a hi e m => by
    obtain ⟨j, hj, ej⟩ := List.getElem_of_mem m
    have hj2 : j < k := by rw [List.length_take] at hj; omega
    rw [List.getElem_take] at ej
    obtain ⟨hi2, ei⟩ := List.getElem?_eq_some_iff.mp e
    have := (List.getElem_inj h.nd).mp (ej.trans ei.symm)
    omega
  refine ⟨⟨c.sub, h.len, fun i w e => ?_, ?_, h.nd, fun a m => ?_, fun i o e => ?_, fun a o e hn => ?_, h.newr, fun a o e => ?_, h.subB.trans c.subB, h.preB⟩, ⟨c.subB, List.prefix_refl _⟩⟩
  · obtain ⟨v, h1, h2⟩ := h.slot i w e
    exact ⟨v, h1, h2.mono c.subB (List.prefix_refl _)⟩
  · rw [List.length_append, List.length_take, List.length_drop, h.rl]; omega
  · by_cases m2 : a ∈ ρ.take k
    · exact c.tr a (by rw [← ht]; exact List.mem_append_left _ m2)
    · obtain ⟨o, e⟩ := h.tr a m
      exact ⟨o, c.keep a o e m2⟩
  · have l1 : (S'.take k).length = k := by rw [List.length_take]; omega
    by_cases hi : i < k
    · rw [List.getElem?_append_left (by omega)] at e
      have e0 := e
      rw [List.getElem?_take_of_lt hi] at e
      obtain ⟨a, q1, q2, q3⟩ := c.ob i o e
      have q1' : ρ[i]? = some a := by
        have : (ρ'.take k)[i]? = some a := by rw [List.getElem?_take_of_lt hi]; exact q1
        rw [pre, List.getElem?_take_of_lt hi] at this
        exact this
      refine ⟨a, q1', q2, ?_⟩
      refine q3.ws fun vs z => ?_
      have z3 := args_win (k := k) hk' (args_mem ho e0) z
      rw [pre] at z3
      exact z3.mono (Same.refl _) (List.take_prefix _ _)
    · rw [List.getElem?_append_right (by omega), l1, List.getElem?_drop] at e
      have e1 : k + (i - k) = i := by omega
      rw [e1] at e
      obtain ⟨a, q1, q2, q3⟩ := h.ob i o e
      have na := nin i a (by omega) q1
      obtain ⟨us, hHa⟩ := q3.some
      obtain ⟨s1, s2, _⟩ := c.stays hHa q2 na
      refine ⟨a, q1, s2, q3.mono c.subB (List.prefix_refl _) (s1.trans hHa.symm)⟩
  · refine c.keep a o (h.keep a o e hn) fun m => ?_
    rcases h.newr a (List.mem_of_mem_take m) with z | z
    · exact hn z
    · rw [e] at z; cases z
  · rcases c.newf a o e with ⟨o', z⟩ | z | z
    · exact h.newf a o' z
    · rcases hB a z with z | z
      · exact .inr (.inl z)
      · exact .inr (.inr z)
    · rcases h.newr a (List.mem_of_mem_take z) with z | z
      · exact .inr (.inr z)
      · exact .inr (.inl z)
end
section
variable {X : Cx} {Ex : XK} {G : GT} {N : List Str} {sc : Scope} {e1 e2 e3 : PySem.Expr} {es : List PySem.Expr} {pos p apos : Pos} {ta tb tc : Slots → Store → R W} {tes : Slots → Store → R (List W)}
/-- the call by the callee's promise -/
theorem call_sp {B : Bs} {Hf : Hp} {ρ : List Addr} {σ : Slots} {S : Store} {τ : St} {H : Hp} {ws : List W} {vs : List V} {Q : VK} {n k : Nat} {f : FnSem} (h : Rel X.K B Hf ρ σ S τ H) (r : RepWs X.K Hf ρ ws vs)
    (q : Post (RepW X.K) (gd X B Ex) Hf ρ σ τ Q (callW n f k ws S)) : spZ X.K X.mg n f vs H Q Ex := by
  unfold callW at q
  split at q
  · rename_i hc
    obtain ⟨c1, c2, c3, c4⟩ := hc
    refine ⟨by rw [← r.length]; exact c1, Hf, ρ.take k, S.take k, ws, h.window c2 c4, args_win (by rw [h.rl]; exact c2) c3 r, ?_⟩
    cases e : f ws (S.take k) with
    | bad => rw [e] at q; exact q.elim
    | ok w S' =>
      cases w with
      | v d =>
        rw [e] at q
        dsimp only at q
        split at q
        · rename_i ho
          intro Hf' ρ' H' v e' c r'
          obtain ⟨u1, u2⟩ := h.unwindow c2 c ho
          exact q _ _ _ _ u2 u1 r'
        · exact q.elim
      | ref i =>
        rw [e] at q
        dsimp only at q
        split at q
        · rename_i hl
          intro Hf' ρ' H' v e' c r'
          have t1 : ρ.take k = ρ := List.take_of_length_le (by rw [h.rl]; omega)
          rw [t1] at c e'
          exact q _ _ _ _ e' (h.back e' (h.blank.trans c)) r'
        · exact q.elim
    | ex x S' =>
      rw [e] at q
      dsimp only at q
      split at q
      · rename_i ho
        intro Hf' ρ' H' cls d e' c r'
        obtain ⟨u1, u2⟩ := h.unwindow c2 c ho
        exact q _ _ _ _ _ u2 u1.blank r'
      · exact q.elim
  · exact q.elim
theorem s_call {k w n : Nat} {f : FnSem} {x : Str} (g : Good G N sc Ex X) (h1 : glB sc x = true) (h2 : G[k]? = some (x, .fn n f)) (h3 : dunB x = true) (hp : plainEs es = true) (hne : es ≠ []) (ha : PA X es (rA X Ex tes)) :
    PE X (.Call (.Name x p) es [] pos) (rE X Ex fun σ S => (tes σ S).bind fun ws S1 => match G[k]? with | some (_, .fn n f) => callW n f w ws S1 | _ => .bad) := by
  obtain ⟨d1, d2, d3⟩ := dun_of h3
  obtain ⟨kk, hr, hf, _⟩ := g.room
  obtain ⟨a, fd, ps, hn, F, hm, hk, hb⟩ := (hf k x n f h2).ex
  subst hn
  have hx : Passes (L2.CX X.prog X.w) X Ex := passes_call g.tk fun _ _ _ _ z => z
  have go : ∀ (τ : St) (H : Hp) (Q : VK), rE X Ex (fun σ S => (tes σ S).bind fun ws S1 => match G[k]? with | some (_, .fn n f) => callW n f w ws S1 | _ => .bad) τ H Q → tCall (spZ X.K X.mg ps.length f) [] Ex (rA X Ex tes) τ H Q := by
    intro τ H Q ⟨B, Hf, ρ, σ, S, h, q⟩
    dsimp only at q
    rw [h2] at q
    refine ⟨B, Hf, ρ, σ, S, h, (Post.bind q).imp fun vs H1 ⟨Hf1, ρ1, S1, ws, e1, h1, r1, q1⟩ => ?_⟩
    rw [List.append_nil]
    exact call_sp h1 r1 q1
  cases es with
  | nil => exact absurd rfl hne
  | cons e es =>
    simp only [plainEs, Bool.and_eq_true] at hp
    exact PE.weak (pe_call F hr (gl_of g.hsc h1) hm hk hb .nil hx ha d1 (star_of hp.1) (star_any hp.2)) go
theorem s_call0 {k w n : Nat} {f : FnSem} {x : Str} (g : Good G N sc Ex X) (h1 : glB sc x = true) (h2 : G[k]? = some (x, .fn n f)) (h3 : dunB x = true) :
    PE X (.Call (.Name x p) [] [] pos) (rE X Ex fun σ S => (R.ok [] S).bind fun ws S1 => match G[k]? with | some (_, .fn n f) => callW n f w ws S1 | _ => .bad) := by
  obtain ⟨d1, d2, d3⟩ := dun_of h3
  obtain ⟨kk, hr, hf, _⟩ := g.room
  obtain ⟨a, fd, ps, hn, F, hm, hk, hb⟩ := (hf k x n f h2).ex
  subst hn
  refine PE.weak (pe_call0 F hr (gl_of g.hsc h1) hm hk hb .nil (passes_call g.tk fun _ _ _ _ z => z) d1) fun τ H Q ⟨B, Hf, ρ, σ, S, h, q⟩ => ?_
  dsimp only at q
  rw [h2] at q
  exact call_sp h (show RepWs X.K Hf ρ [] [] from rfl) q

/-! ### targets -/
theorem gt_name {i : Nat} {x : Str} {Iv : St → Prop} (hN : X.N.Nodup) (hi : X.N[i]? = some x) (hx : L2.Loc X.env.scope x) (hf : X.fn x = true ∨ X.env.scope.names.lookup x = some .local) (hIv : ∀ τ v, Iv τ → Iv (τ.set i (some v))) :
    PG X (.Name x pos) (rG X Ex Iv fun w σ S => .ok (σ.set i (some w)) S) :=
  PG.weak (pg_name hN hi hx hf) fun v τ H Q ⟨i0, B, Hf, ρ, σ, S, w, h, r, q⟩ => q _ _ _ _ (Ext.refl _ _) (h.set i r) (hIv τ v i0)
theorem gt_nil {Iv : St → Prop} : PGs X [] (rGs X Ex Iv fun ds σ S => match ds with | [] => .ok σ S | _ => .bad) := by
  refine PGs.weak pgs_nil fun vs τ H Q ⟨i0, B, Hf, ρ, σ, S, ds, h, r, q⟩ => ?_
  dsimp only at q
  split at q
  · exact ⟨by simpa only [RepDs] using r, q _ _ _ _ (Ext.refl _ _) h i0⟩
  · exact q.elim
theorem gt_cons {e : PySem.Expr} {es : List PySem.Expr} {Iv : St → Prop} {t1 : W → Slots → Store → R Slots} {t2 : List D → Slots → Store → R Slots} (hp : plainE e = true) (h1 : PG X e (rG X Ex Iv t1)) (h2 : PGs X es (rGs X Ex Iv t2)) :
    PGs X (e :: es) (rGs X Ex Iv fun ds σ S => match ds with | d :: ds => (t1 (.v d) σ S).bind fun σ1 S1 => t2 ds σ1 S1 | [] => .bad) := by
  refine PGs.weak (pgs_cons h1 h2 (by cases e <;> first | rfl | simp [plainE] at hp)) fun vs τ H Q ⟨i0, B, Hf, ρ, σ, S, ds, h, r, q⟩ => ?_
  dsimp only at q
  split at q
  · rename_i d ds
    simp only [RepDs] at r
    obtain ⟨v, vr, rfl, r1, r2⟩ := r
    refine ⟨v, vr, rfl, i0, B, Hf, ρ, σ, S, .v d, h, r1, ?_⟩
    have q2 := PostG.bind q
    revert q2
    cases t1 (.v d) σ S with
    | bad => exact fun z => z
    | ex x S1 => exact fun z => z
    | ok σ1 S1 =>
      intro q2 Hf' ρ' τ' H' e' h' i'
      obtain ⟨j, Hf2, ρ2, σ2, S2, e2, h2, p2⟩ := q2 Hf' ρ' τ' H' e' h' i'
      exact ⟨j, B, Hf2, ρ2, σ2, S2, ds, h2, RepDs.mono e2.f _ _ r2, p2⟩
  · exact q.elim
theorem assignEach_len {env : Env} : ∀ {es : List PySem.Expr}, (assignEach es env).length = es.length
  | [] => rfl
  | e :: es => by cases e <;> simp [assignEach, assignEach_len (es := es)]
theorem assignEach_star {env : Env} : ∀ {es : List PySem.Expr}, plainEs es = true → (assignEach es env).findIdx? (·.1) = none
  | [], _ => rfl
  | e :: es, h => by
    simp only [plainEs, Bool.and_eq_true] at h
    have ih := assignEach_star (env := env) h.2
    have e0 : assignEach (e :: es) env = (false, assign e env) :: assignEach es env := by cases e <;> first | rfl | simp [plainE] at h
    rw [e0, List.findIdx?_cons, ih]
    rfl
theorem PG.or {X : Cx} {tg : PySem.Expr} {t1 t2 : TG} (h1 : PG X tg t1) (h2 : PG X tg t2) : PG X tg (fun v σ H Q => t1 v σ H Q ∨ t2 v σ H Q) :=
  ⟨fun pins s σ H v u Q I r q => q.elim (h1.run pins s σ H v u Q I r) (h2.run pins s σ H v u Q I r)⟩
theorem repLst {K : PySem.W.Frag} {Hf : Hp} {ρ : List Addr} {xs : List D} {v : V} (h : RepW K Hf ρ (.v (.lst xs)) v) : ∃ a vs, v = .ref a ∧ Hf a = some (.lst vs) ∧ RepDs K Hf xs vs := by simpa only [RepW, RepD] using h
theorem gt_tup {es : List PySem.Expr} {k : Nat} {Iv : St → Prop} {t : List D → Slots → Store → R Slots} (hc : X.calm = true) (hp : plainEs es = true) {n : Nat} (hn : es.length = n) (hg : PGs X es (rGs X Ex Iv t)) :
    PG X (.Tuple es k pos) (rG X Ex Iv fun w σ S => match w with | .v (.tup ds) => if ds.length = n then t ds σ S else .bad | .v (.lst ds) => if ds.length = n then t ds σ S else .bad | _ => .bad) := by
  refine PG.weak (PG.or (pg_tup (n := es.length) hc hg assignEach_len (assignEach_star hp)) (pg_unl (n := es.length) hc hg assignEach_len (assignEach_star hp))) fun v τ H Q ⟨i0, B, Hf, ρ, σ, S, w, h, r, q⟩ => ?_
  dsimp only at q
  split at q
  · rename_i ds
    obtain ⟨a, vs, rfl, k1, k2⟩ := repTup r
    split at q
    · rename_i hl
      exact .inl ⟨a, vs, rfl, SqT.of (h.sub _ _ k1), by rw [← k2.length, hn]; exact hl, i0, B, Hf, ρ, σ, S, ds, h, k2, q⟩
    · exact q.elim
  · rename_i ds
    obtain ⟨a, vs, rfl, k1, k2⟩ := repLst r
    split at q
    · rename_i hl
      exact .inr ⟨a, vs, rfl, SqL.of (h.sub _ _ k1), by rw [← k2.length, hn]; exact hl, i0, B, Hf, ρ, σ, S, ds, h, k2, q⟩
    · exact q.elim
  · exact q.elim
theorem PSet.or {X : Cx} {t1 t2 : TSet} (h1 : PSet X t1) (h2 : PSet X t2) : PSet X (fun o i v H Q => t1 o i v H Q ∨ t2 o i v H Q) := by
  intro pins s σ H o i v ov iv u Q I ro ri rv q
  exact q.elim (h1 pins s σ H o i v ov iv u Q I ro ri rv) (h2 pins s σ H o i v ov iv u Q I ro ri rv)
theorem putVs_rep {K : PySem.W.Frag} {Hf : Hp} {ρ : List Addr} {κ : Type} [DecidableEq κ] (k : κ) {w : W} {v : V} (rw' : RepW K Hf ρ w v) : ∀ {ks : List κ} {ws : List W} {vs : List V}, ks.length = ws.length → RepWs K Hf ρ ws vs →
    RepWs K Hf ρ ((ks.zip ws).map fun kv => if kv.1 = k then w else kv.2) ((ks.zip vs).map fun kv => if kv.1 = k then v else kv.2)
  | [], _, _, _, _ => rfl
  | _ :: _, [], _, h, _ => by simp at h
  | j :: ks, u :: ws, vs, h, r => by
    obtain ⟨x, q, rfl, r1, r2⟩ := r
    have ih := putVs_rep k rw' (ks := ks) (by simpa using h) r2
    refine ⟨_, _, rfl, ?_, ih⟩
    show RepW K Hf ρ (if j = k then w else u) (if j = k then v else x)
    split
    · exact rw'
    · exact r1
theorem RepWs.app {K : PySem.W.Frag} {Hf : Hp} {ρ : List Addr} : ∀ {a b : List W} {u v : List V}, RepWs K Hf ρ a u → RepWs K Hf ρ b v → RepWs K Hf ρ (a ++ b) (u ++ v)
  | [], _, _, _, h, k => by cases h; exact k
  | _ :: _, _, _, _, ⟨x, q, e, r1, r2⟩, k => by
    subst e
    exact ⟨x, _, rfl, r1, RepWs.app r2 k⟩
theorem zip_put {κ : Type} [DecidableEq κ] (k : κ) (v : V) (ks : List κ) (vs : List V) (h : ks.length = vs.length) : putK (ks.zip vs) k v = (putKs ks k).zip (putVs k v ks vs) ∧ (putKs ks k).length = (putVs k v ks vs).length := by
  have e : ((ks.zip vs).any fun kv => decide (kv.1 = k)) = ks.any fun j => decide (j = k) := by
    clear v
    induction ks generalizing vs with
    | nil => rfl
    | cons j ks ih =>
      cases vs with
      | nil => simp at h
      | cons x vs => rw [List.zip_cons_cons, List.any_cons, List.any_cons, ih vs (by simpa using h)]
  unfold putK putKs putVs
  rw [e]
  split
  · refine ⟨?_, by simp [h]⟩
    clear e
    rename_i hh
    clear hh
    induction ks generalizing vs with
    | nil => rfl
    | cons j ks ih =>
      cases vs with
      | nil => simp at h
      | cons x vs =>
        rw [List.zip_cons_cons, List.map_cons, List.map_cons, List.zip_cons_cons, ih vs (by simpa using h)]
        congr 1
        show (if j = k then (j, v) else (j, x)) = (j, if j = k then v else x)
        split <;> rfl
  · refine ⟨?_, by simp [h]⟩
    rw [List.zip_append h]; rfl
theorem put_ob {K : PySem.W.Frag} {Hf H : Hp} {ρ : List Addr} {a : Addr} {κ : Type} [DecidableEq κ] (k : κ) {w : W} {v : V} {ks : List κ} {ws : List W} {vs : List V} (r : RepW K Hf ρ w v) (hl : ks.length = ws.length) (rs : RepWs K Hf ρ ws vs) :
    ∃ us, putK (ks.zip vs) k v = (putKs ks k).zip us ∧ (putKs ks k).length = (putVs k w ks ws).length ∧ RepWs K Hf ρ (putVs k w ks ws) us := by
  have hv : ks.length = vs.length := by rw [hl, rs.length]
  obtain ⟨z1, z2⟩ := zip_put k v ks vs hv
  refine ⟨putVs k v ks vs, z1, ?_, ?_⟩
  · unfold putKs putVs
    split <;> simp [hl]
  · unfold putVs
    split
    · exact putVs_rep k r hl rs
    · exact rs.app ⟨v, [], rfl, r, rfl⟩
theorem gt_sub {Iv : St → Prop} (g : Good G N sc Ex X) (hp : plainIx e2 = true) (ha : PE X e1 (rE X Ex ta)) (hb : PE X e2 (rE X Ex tb)) : PG X (.Subscript e1 e2 pos) (rG X Ex Iv fun w σ S => (ta σ S).bind fun x S1 => (tb σ S1).bind fun y S2 => putW w x y σ S2) := by
  have hu : X.A.units + 1 < cLine := by obtain ⟨k, hr, _⟩ := g.room; have := hr.un; omega
  refine PG.weak (pg_sub ha hb (Zz.PSet.or set_list (set_dict hu)) (by intro v; cases e2 <;> first | rfl | simp [plainIx] at hp)) fun v τ H Q ⟨i0, B, Hf, ρ, σ, S, w, h, r, q⟩ => ?_
  refine ⟨B, Hf, ρ, σ, S, h, (PostG.ebind (σ := σ) (τ := τ) q).imp fun o H1 ⟨Hf1, ρ1, S1, wo, e1, h1, r1, q1⟩ => ⟨B, Hf1, ρ1, σ, S1, h1, (PostG.ebind (σ := σ) (τ := τ) q1).imp fun i H2 ⟨Hf2, ρ2, S2, wi, e2, h2, r2, q2⟩ => ?_⟩⟩
  have rv : RepW X.K Hf2 ρ2 w v := (r.mono e1.f e1.r).mono e2.f e2.r
  have ro : RepW X.K Hf2 ρ2 wo o := r1.mono e2.f e2.r
  have key : ∀ (j : Nat) (d : D), wo = .ref j → RepD X.K Hf2 d i → PostG X B Ex Iv Hf2 ρ2 Q (putD w j d σ S2) → rSetD o i v H2 (fun H' => Q τ H') := by
    intro j d ej rd q3
    subst ej
    unfold putD at q3
    split at q3
    · rename_i ks ws hj
      split at q3
      · rename_i k hk
        split at q3
        · rename_i hl
          obtain ⟨a, z1, rfl⟩ := ro
          obtain ⟨a', z2, z0, vs, z3, z4, z5⟩ := h2.ob _ _ hj
          rw [z1] at z2; cases z2
          obtain ⟨us, y1, y2, y3⟩ := put_ob (K := X.K) (Hf := Hf2) (ρ := ρ2) (H := H2) (a := a) k rv z4 z5
          rw [keyD_rep rd hk]
          refine ⟨a, _, rfl, DPut.k z3 (by rw [List.length_zip, z4, z5.length]; rw [z4, z5.length] at hl; omega), ?_⟩
          rw [y1]
          exact q3 _ _ _ _ (Ext.refl _ _) (h2.writeO (o' := .dct (putKs ks k) (putVs k w ks ws)) hj z1 ⟨us, upd_same, y2, y3⟩) i0
        · exact q3.elim
      · exact q3.elim
    · rename_i ks ws hj
      split at q3
      · rename_i k hk
        split at q3
        · rename_i hl
          obtain ⟨a, z1, rfl⟩ := ro
          obtain ⟨a', z2, z0, vs, z3, z4, z5⟩ := h2.ob _ _ hj
          rw [z1] at z2; cases z2
          obtain ⟨us, y1, y2, y3⟩ := put_ob (K := X.K) (Hf := Hf2) (ρ := ρ2) (H := H2) (a := a) k rv z4 z5
          cases d <;> simp only [keyT] at hk
          case tup ds =>
            simp only [RepD] at rd
            obtain ⟨b, us', rfl, x1, x2⟩ := rd
            rw [keysD_rep x2 hk] at x1
            refine ⟨a, _, rfl, DPut.t z3 (h2.sub _ _ x1) (by rw [List.length_zip, z4, z5.length]; rw [z4, z5.length] at hl; omega), ?_⟩
            rw [y1]
            exact q3 _ _ _ _ (Ext.refl _ _) (h2.writeO (o' := .dtt (putKs ks k) (putVs k w ks ws)) hj z1 ⟨us, upd_same, y2, y3⟩) i0
          all_goals cases hk
        · exact q3.elim
      · exact q3.elim
    · exact q3.elim
  unfold putW at q2
  split at q2
  · rename_i j k _
    cases repInt r2
    split at q2
    · rename_i xs hx
      split at q2
      · rename_i d _ _
        split at q2
        · rename_i n hn
          obtain ⟨a, vs, rfl, k1, k2, k3⟩ := h2.ref_lst hx ro
          refine .inl ⟨a, vs, k, n, rfl, rfl, k2, by rw [← k3.length]; exact hn, ?_⟩
          have hw := h2.write (o' := .lst (xs.set n d)) (vs := vs.set n v) hx k1 ⟨_, upd_same, k3.set rv n⟩
          exact q2 _ _ _ _ (Ext.refl _ _) hw i0
        · exact q2.elim
      · exact q2.elim
    · exact .inr (key j _ rfl (by simp only [RepD]) q2)
  · rename_i j d _ _
    exact .inr (key j d rfl r2 q2)
  · exact q2.elim

/-! ### what is walked -/
theorem pi_two {tg e : PySem.Expr} {w1 w2 : TI} (h1 : PI X tg e w1) (h2 : PI X tg e w2) : PI X tg e (fun τ H Q => w1 τ H Q ∨ w2 τ H Q) :=
  ⟨fun pins s σ H Q I q => q.elim (h1.run pins s σ H Q I) (h2.run pins s σ H Q I)⟩
theorem jok_tup {K : PySem.W.Frag} {Hf : Hp} {a : Addr} {xs : List D} {vs : List V} (h : Hf a = some (.tup vs)) (r : RepDs K Hf xs vs) : JOk K Hf (Itt K a) xs := fun i H2 s => by
  have q : SqT K H2 a vs := SqT.of (s _ _ h)
  refine ⟨fun hl => ⟨vs, q, by rw [← r.length]; exact hl⟩, fun d e => ?_⟩
  obtain ⟨v, h1, h2⟩ := r.get e
  refine ⟨⟨vs, v, q, h1⟩, fun x H3 ⟨y1, y2⟩ => .inl ⟨y1, ?_⟩⟩
  have := y2 vs q
  rw [h1] at this; cases this
  exact h2
theorem jok_lst {K : PySem.W.Frag} {Hf : Hp} {a : Addr} {xs : List D} {vs : List V} (h : SqL K Hf a vs) (r : RepDs K Hf xs vs) : JOk K Hf (Itl K a) xs := fun i H2 s => by
  have q : SqL K H2 a vs := s.seq h
  refine ⟨fun hl => ⟨vs, q, by rw [← r.length]; exact hl⟩, fun d e => ?_⟩
  obtain ⟨v, h1, h2⟩ := r.get e
  refine ⟨⟨vs, v, q, h1⟩, fun x H3 ⟨y1, y2⟩ => .inl ⟨y1, ?_⟩⟩
  have := y2 vs q
  rw [h1] at this; cases this
  exact h2
theorem it_seq {tg : PySem.Expr} (ha : PE X e1 (rE X Ex ta)) : PI X tg e1 (rI X Ex fun σ S => (ta σ S).bind fun x S1 => match x with
      | .v (.tup xs) => .ok xs S1 | .v (.lst xs) => .ok xs S1 | .v (.frl ns) => .ok (ns.map .int) S1 | _ => .bad) := by
  refine PI.weak (pi_two (pi_tup ha) (pi_list ha)) fun τ H Q ⟨B, Hf, ρ, σ, S, h, q⟩ => ?_
  dsimp only at q
  revert q
  cases e : ta σ S with
  | bad => exact fun z => z.elim
  | ex x S1 => exact fun z => .inl ⟨B, Hf, ρ, σ, S, h, by rw [e]; exact z⟩
  | ok w S1 =>
    intro q
    rw [R.bind_ok] at q
    split at q
    · refine .inl ⟨B, Hf, ρ, σ, S, h, ?_⟩
      rw [e]
      intro Hf' ρ' H' v e' h' r'
      obtain ⟨a, vs, rfl, k1, k2⟩ := repTup r'
      exact ⟨a, rfl, ⟨vs, SqT.of (h'.sub _ _ k1)⟩, q _ _ _ _ e' h' (jok_tup k1 k2)⟩
    · refine .inr ⟨B, Hf, ρ, σ, S, h, ?_⟩
      rw [e]
      intro Hf' ρ' H' v e' h' r'
      obtain ⟨a, vs, rfl, k1, k2⟩ : ∃ a vs, v = .ref a ∧ Hf' a = some (.lst vs) ∧ RepDs X.K Hf' _ vs := by simpa only [RepW, RepD] using r'
      exact ⟨a, rfl, ⟨vs, SqL.of (h'.sub _ _ k1)⟩, q _ _ _ _ e' h' (jok_lst (SqL.of k1) k2)⟩
    · refine .inr ⟨B, Hf, ρ, σ, S, h, ?_⟩
      rw [e]
      intro Hf' ρ' H' v e' h' r'
      obtain ⟨a, rfl, k1⟩ : ∃ a, v = .ref a ∧ SqL X.K Hf' a (List.map V.int _) := by simpa only [RepW, RepD] using r'
      exact ⟨a, rfl, ⟨_, h'.sub.seq k1⟩, q _ _ _ _ e' h' (jok_lst k1 (RepDs.ints _))⟩
    · exact q.elim
theorem jok_rng {K : PySem.W.Frag} {Hf : Hp} (lo : Int) (hi : Int) : JOk K Hf (Itr lo (hi - lo).toNat) (rgD lo hi) := fun i H2 s => by
  have hl : (rgD lo hi).length = (hi - lo).toNat := by simp [rgD]
  refine ⟨fun h => by rw [hl] at h; exact h, fun d e => ?_⟩
  have hi' : i < (hi - lo).toNat := by rw [← hl]; exact (List.getElem?_eq_some_iff.mp e).1
  refine ⟨hi', fun x H3 ⟨y1, y2⟩ => .inl ⟨y1, ?_⟩⟩
  have ed : d = .int (lo + (i : Nat)) := by
    unfold rgD at e
    rw [List.getElem?_map, List.getElem?_range hi'] at e
    exact (Option.some.inj e).symm
  subst ed y2
  simp only [RepD]
theorem rng_of {a b : Int} (h : rngOk a b = true) : -(2 ^ 62) ≤ a ∧ a < 2 ^ 62 ∧ -(2 ^ 62) ≤ b ∧ b < 2 ^ 62 := of_decide_eq_true h
theorem it_rng1 {tg : PySem.Expr} (g : Good G N sc Ex X) (h1 : glB sc "range" = true) (hp : plainE e1 = true) (ha : PE X e1 (rE X Ex ta)) :
    PI X tg (.Call (.Name "range" p) [e1] [] pos) (rI X Ex fun σ S => (ta σ S).bind fun x S1 => match x with | .v (.int j) => if rngOk 0 j then .ok (rgD 0 j) S1 else .bad | _ => .bad) := by
  refine PI.weak (pi_range1 (gl_of g.hsc h1) (g.blt _ (by decide +kernel)) (s_cons hp ha s_nil) (star_of hp)) fun τ H Q ⟨B, Hf, ρ, σ, S, h, q⟩ => ?_
  refine ⟨B, Hf, ρ, σ, S, h, ?_⟩
  dsimp only at q ⊢
  revert q
  cases e : ta σ S with
  | bad => exact fun z => z
  | ex x S1 => exact fun z => z
  | ok w S1 =>
    intro q Hf' ρ' H' vs e' h' r'
    obtain ⟨v, rfl, r1⟩ := reps1 r'
    rw [R.bind_ok] at q
    split at q
    · rename_i j
      split at q
      · rename_i ho
        obtain ⟨b1, b2, b3, b4⟩ := rng_of ho
        cases repInt r1
        refine ⟨j, rfl, b3, b4, q _ _ _ _ e' h' ?_⟩
        have z := jok_rng (K := X.K) (Hf := Hf') 0 j
        rw [Int.sub_zero] at z
        exact z
      · exact q.elim
    · exact q.elim
theorem two_args {τ : St} {Q : List V → Hp → Prop} {B : Bs} {Hf : Hp} {ρ : List Addr} {σ : Slots} {S : Store} {α β : Type} {P' : Hp → List Addr → α → β → Prop} {Q' : β → Hp → Prop} {f : W → W → Store → R α}
    (q : Post P' (gd X B Ex) Hf ρ σ τ Q' ((ta σ S).bind fun x S1 => (tb σ S1).bind fun y S2 => f x y S2))
    (k : ∀ Hf' ρ' H' S' x y v u, Ext Hf ρ Hf' ρ' → Rel X.K B Hf' ρ' σ S' τ H' → RepW X.K Hf' ρ' x v → RepW X.K Hf' ρ' y u → Post P' (gd X B Ex) Hf' ρ' σ τ Q' (f x y S') → Q [v, u] H') :
    Post (RepWs X.K) (gd X B Ex) Hf ρ σ τ Q ((ta σ S).bind fun x S1 => ((tb σ S1).bind fun x S1 => (R.ok [] S1).bind fun xs S2 => .ok (x :: xs) S2).bind fun xs S2 => .ok (x :: xs) S2) := by
  revert q
  cases ta σ S with
  | bad => exact fun z => z
  | ex x S1 => exact fun z => z
  | ok x S1 =>
    simp only [R.bind_ok]
    cases tb σ S1 with
    | bad => exact fun z => z
    | ex x S1 => exact fun z => z
    | ok y S2 =>
      intro q Hf' ρ' H' vs e' h' r'
      obtain ⟨v, u, rfl, r1, r2⟩ := reps2 r'
      exact k Hf' ρ' H' S2 x y v u e' h' r1 r2 (Post.ext e' q)
theorem it_rng2 {tg : PySem.Expr} (g : Good G N sc Ex X) (h1 : glB sc "range" = true) (hp : plainE e1 = true) (hp2 : plainE e2 = true) (ha : PE X e1 (rE X Ex ta)) (hb : PE X e2 (rE X Ex tb)) :
    PI X tg (.Call (.Name "range" p) [e1, e2] [] pos) (rI X Ex fun σ S => (ta σ S).bind fun x S1 => (tb σ S1).bind fun y S2 => match x, y with | .v (.int i), .v (.int j) => if rngOk i j then .ok (rgD i j) S2 else .bad | _, _ => .bad) := by
  have z1 : starEach [e2] X.env = [(false, eval e2 X.env)] := star_of hp2
  have z2 : starEach [e1, e2] X.env = [(false, eval e1 X.env), (false, eval e2 X.env)] := by rw [star_of hp, z1]
  refine PI.weak (pi_range2 (gl_of g.hsc h1) (g.blt _ (by decide +kernel)) (s_cons hp ha (s_cons hp2 hb s_nil)) z2 z1) fun τ H Q ⟨B, Hf, ρ, σ, S, h, q⟩ => ⟨B, Hf, ρ, σ, S, h, ?_⟩
  refine two_args q fun Hf' ρ' H' S' x y v u e' h' r1 r2 q' => ?_
  split at q'
  · rename_i i j
    split at q'
    · rename_i ho
      obtain ⟨b1, b2, b3, b4⟩ := rng_of ho
      cases repInt r1; cases repInt r2
      exact ⟨i, j, rfl, ⟨b1, b2, b3, b4⟩, q' _ _ _ _ (Ext.refl _ _) h' (jok_rng i j)⟩
    · exact q'.elim
  · exact q'.elim
theorem jok_rngc {K : PySem.W.Frag} {Hf : Hp} (lo c : Int) (n : Nat) : JOk K Hf (Itc lo c n) (rgcD lo c n) := fun i H2 s => by
  have hl : (rgcD lo c n).length = n := by simp [rgcD]
  refine ⟨fun h => by rw [hl] at h; exact h, fun d e => ?_⟩
  have hi' : i < n := by rw [← hl]; exact (List.getElem?_eq_some_iff.mp e).1
  refine ⟨hi', fun x H3 ⟨y1, y2⟩ => .inl ⟨y1, ?_⟩⟩
  have ed : d = .int (lo + (i : Nat) * c) := by
    unfold rgcD at e
    rw [List.getElem?_map, List.getElem?_range hi'] at e
    exact (Option.some.inj e).symm
  subst ed y2
  simp only [RepD]
theorem it_rng3 {tg : PySem.Expr} (g : Good G N sc Ex X) (h1 : glB sc "range" = true) (hp : plainE e1 = true) (hp2 : plainE e2 = true) (hp3 : plainE e3 = true) (ha : PE X e1 (rE X Ex ta)) (hb : PE X e2 (rE X Ex tb)) (hc : PE X e3 (rE X Ex tc)) :
    PI X tg (.Call (.Name "range" p) [e1, e2, e3] [] pos) (rI X Ex fun σ S => (ta σ S).bind fun x S1 => (tb σ S1).bind fun y S2 => (tc σ S2).bind fun z S3 => match x, y, z with
      | .v (.int i), .v (.int j), .v (.int c) => if rngOk i j && decide (c = -1) then .ok (rgcD i c (i - j).toNat) S3 else .bad
      | _, _, _ => .bad) := by
  refine PI.weak (pi_range3 (gl_of g.hsc h1) (g.blt _ (by decide +kernel)) (s_cons hp ha (s_cons hp2 hb (s_cons hp3 hc s_nil))) (star_of hp) (star_any (by simp [plainEs, hp2, hp3]))) fun τ H Q ⟨B, Hf, ρ, σ, S, h, q⟩ => ⟨B, Hf, ρ, σ, S, h, ?_⟩
  dsimp only at q ⊢
  revert q
  cases ta σ S with
  | bad => exact fun z => z
  | ex x S1 => exact fun z => z
  | ok x S1 =>
    simp only [R.bind_ok]
    cases tb σ S1 with
    | bad => exact fun z => z
    | ex x S1 => exact fun z => z
    | ok y S2 =>
      simp only [R.bind_ok]
      cases tc σ S2 with
      | bad => exact fun z => z
      | ex x S1 => exact fun z => z
      | ok w S3 =>
        intro q Hf' ρ' H' vs e' h' r'
        obtain ⟨v, r, rfl, r1, rr⟩ := r'
        obtain ⟨u, t, rfl, r2, r3⟩ := reps2 rr
        simp only [R.bind_ok] at q
        split at q
        · rename_i i j c
          split at q
          · rename_i ho
            simp only [Bool.and_eq_true, decide_eq_true_eq] at ho
            obtain ⟨ho, rfl⟩ := ho
            obtain ⟨b1, b2, b3, b4⟩ := rng_of ho
            cases repInt r1; cases repInt r2; cases repInt r3
            exact ⟨i, j, -1, (i - j).toNat, rfl, RgC.neg b1 b2 b3 b4, q _ _ _ _ e' h' (jok_rngc _ _ _)⟩
          · exact q.elim
        · exact q.elim
theorem zip_get : ∀ {xs ys : List D} {i : Nat} {d : D}, (zipD xs ys)[i]? = some d → ∃ x y, xs[i]? = some x ∧ ys[i]? = some y ∧ d = .tup [x, y]
  | [], _, _, _, e => by simp [zipD] at e
  | _ :: _, [], _, _, e => by simp [zipD] at e
  | x :: xs, y :: ys, 0, d, e => by simp [zipD] at e; exact ⟨x, y, rfl, rfl, e.symm⟩
  | x :: xs, y :: ys, i + 1, d, e => by
    simp [zipD] at e
    obtain ⟨a, b, h1, h2, h3⟩ := zip_get (xs := xs) (ys := ys) (i := i) (d := d) e
    exact ⟨a, b, by simpa using h1, by simpa using h2, h3⟩
theorem zip_len : ∀ {xs ys : List D} {i : Nat}, (zipD xs ys).length ≤ i → xs.length ≤ i ∨ ys.length ≤ i
  | [], _, _, _ => .inl (Nat.zero_le _)
  | _ :: _, [], _, _ => .inr (Nat.zero_le _)
  | x :: xs, y :: ys, 0, h => by simp [zipD] at h
  | x :: xs, y :: ys, i + 1, h => by
    rcases zip_len (xs := xs) (ys := ys) (i := i) (by simpa [zipD] using h) with z | z
    · exact .inl (by simpa using z)
    · exact .inr (by simpa using z)
theorem pair_rep {K : PySem.W.Frag} {Hf Hf' : Hp} {x y : D} {v u : V} {p : Addr} (r1 : RepD K Hf x v) (r2 : RepD K Hf y u) (e : Same Hf Hf') (h : Hf' p = some (.tup [v, u])) : RepD K Hf' (.tup [x, y]) (.ref p) := by
  simp only [RepD, RepDs]
  exact ⟨p, _, rfl, h, v, [u], rfl, RepD.mono e _ _ r1, u, [], rfl, RepD.mono e _ _ r2, rfl⟩
theorem jok_zipT {K : PySem.W.Frag} {Hf : Hp} {a b : Addr} {xs ys : List D} {vs us : List V} (h1 : Hf a = some (.tup vs)) (r1 : RepDs K Hf xs vs) (h2 : Hf b = some (.tup us)) (r2 : RepDs K Hf ys us) : JOk K Hf (RZ.ItzT K a b) (zipD xs ys) := fun i H2 s => by
  have q1 : SqT K H2 a vs := SqT.of (s _ _ h1)
  have q2 : SqT K H2 b us := SqT.of (s _ _ h2)
  refine ⟨fun hl => ⟨vs, us, q1, q2, by rw [← r1.length, ← r2.length]; exact zip_len hl⟩, fun d e => ?_⟩
  obtain ⟨x, y, e1, e2, rfl⟩ := zip_get e
  obtain ⟨v, k1, k2⟩ := r1.get e1
  obtain ⟨u, k3, k4⟩ := r2.get e2
  refine ⟨⟨vs, us, v, u, q1, q2, k1, k3⟩, fun z H3 ⟨T, v', u', y1, y2, y3, y4, y5⟩ => .inr ⟨T, _, y2, y1, y3, fun Hf' s' e' => ?_⟩⟩
  have z1 := y4 vs q1
  have z2 := y5 us q2
  rw [k1] at z1; cases z1
  rw [k3] at z2; cases z2
  rw [y1]
  exact pair_rep k2 k4 s' e'
theorem jok_zipL {K : PySem.W.Frag} {Hf : Hp} {a b : Addr} {xs ys : List D} {vs us : List V} (h1 : Hf a = some (.lst vs)) (r1 : RepDs K Hf xs vs) (h2 : Hf b = some (.lst us)) (r2 : RepDs K Hf ys us) : JOk K Hf (Itz K a b) (zipD xs ys) := fun i H2 s => by
  have q1 : SqL K H2 a vs := SqL.of (s _ _ h1)
  have q2 : SqL K H2 b us := SqL.of (s _ _ h2)
  refine ⟨fun hl => ⟨vs, us, q1, q2, by rw [← r1.length, ← r2.length]; exact zip_len hl⟩, fun d e => ?_⟩
  obtain ⟨x, y, e1, e2, rfl⟩ := zip_get e
  obtain ⟨v, k1, k2⟩ := r1.get e1
  obtain ⟨u, k3, k4⟩ := r2.get e2
  refine ⟨⟨vs, us, v, u, q1, q2, k1, k3⟩, fun z H3 ⟨T, v', u', y1, y2, y3, y4, y5⟩ => .inr ⟨T, _, y2, y1, y3, fun Hf' s' e' => ?_⟩⟩
  have z1 := y4 vs q1
  have z2 := y5 us q2
  rw [k1] at z1; cases z1
  rw [k3] at z2; cases z2
  rw [y1]
  exact pair_rep k2 k4 s' e'
theorem it_zip {elts : List PySem.Expr} {kk : Nat} {tpos : Pos} (g : Good G N sc Ex X) (h1 : glB sc "zip" = true) (hp : plainE e1 = true) (hp2 : plainE e2 = true) (ha : PE X e1 (rE X Ex ta)) (hb : PE X e2 (rE X Ex tb)) :
    PI X (.Tuple elts kk tpos) (.Call (.Name "zip" p) [e1, e2] [] pos) (rI X Ex fun σ S => (ta σ S).bind fun x S1 => (tb σ S1).bind fun y S2 => zipW x y S2) := by
  refine PI.weak (RZ.pi_zipA (gl_of g.hsc h1) (g.blt _ (by decide +kernel)) (s_cons hp ha (s_cons hp2 hb s_nil)) (star_of hp) (star_any (by simp [plainEs, hp2]))) fun τ H Q ⟨B, Hf, ρ, σ, S, h, q⟩ => ⟨B, Hf, ρ, σ, S, h, ?_⟩
  refine two_args q fun Hf' ρ' H' S' x y v u e' h' r1 r2 q' => ?_
  unfold zipW at q'
  split at q'
  · obtain ⟨a, vs, rfl, k1, k2⟩ := repTup r1
    obtain ⟨b, us, rfl, k3, k4⟩ := repTup r2
    exact ⟨a, b, vs, us, rfl, .inr ⟨SqT.of (h'.sub _ _ k1), SqT.of (h'.sub _ _ k3), q' _ _ _ _ (Ext.refl _ _) h' (jok_zipT k1 k2 k3 k4)⟩⟩
  · obtain ⟨a, vs, rfl, k1, k2⟩ : ∃ a vs, v = .ref a ∧ Hf' a = some (.lst vs) ∧ RepDs X.K Hf' _ vs := by simpa only [RepW, RepD] using r1
    obtain ⟨b, us, rfl, k3, k4⟩ : ∃ a vs, u = .ref a ∧ Hf' a = some (.lst vs) ∧ RepDs X.K Hf' _ vs := by simpa only [RepW, RepD] using r2
    exact ⟨a, b, vs, us, rfl, .inl ⟨SqL.of (h'.sub _ _ k1), SqL.of (h'.sub _ _ k3), q' _ _ _ _ (Ext.refl _ _) h' (jok_zipL k1 k2 k3 k4)⟩⟩
  · exact q'.elim
end
end Zz

set_option Elab.async false
set_option linter.all false
set_option maxRecDepth 100000
set_option maxHeartbeats 4000000
set_option autoImplicit false
namespace Zz
open PySem PySem.Spec PyProof.Rows L2
section
variable {X : Cx} {Ex : XK} {G : GT} {N : List Str} {sc : Scope} {e1 e2 e3 : PySem.Expr} {es : List PySem.Expr} {pos p p2 apos : Pos} {ta tb tc : Slots → Store → R W} {tes : Slots → Store → R (List W)}
theorem rg_rep {K : PySem.W.Frag} {Hf : Hp} (a b : Int) : RepDs K Hf (rgD a b) (rgV a b) := by
  unfold rgD rgV
  generalize (b - a).toNat = n
  have : ∀ l : List Nat, RepDs K Hf (l.map fun i => D.int (a + (i : Nat))) (l.map fun i => V.int (a + (i : Nat))) := by
    intro l
    induction l with
    | nil => simp [RepDs]
    | cons x l ih => simp only [List.map_cons, RepDs]; exact ⟨_, _, rfl, by simp only [RepD], ih⟩
  exact this _
theorem rg_len (a b : Int) : (rgD a b).length = (b - a).toNat := by simp [rgD]
theorem rgok_of {a b : Int} (h : rngOk a b = true) (hl : (rgD a b).length ≤ 2 ^ 24) : RgOk a b := by
  obtain ⟨h1, h2, h3, h4⟩ := rng_of h
  exact ⟨h1, h2, h3, h4, by rw [rg_len] at hl; exact hl⟩
theorem s_lrng1 {r : Bool} (g : Good G N sc Ex X) (h1 : glB sc "list" = true) (h2 : glB sc "range" = true) (hp : plainE e1 = true) (ha : PE X e1 (rE X Ex ta)) :
    PE X (.Call (.Name "list" p) [.Call (.Name "range" p2) [e1] [] apos] [] pos) (rE X Ex fun σ S => ((ta σ S).bind fun x S1 => match x with | .v (.int j) => if rngOk 0 j then .ok (rgD 0 j) S1 else .bad | _ => .bad).bind fun ds S1 => if ds.length ≤ 2 ^ 24 then newL r ds S1 else .bad) := by
  refine PE.weak (pe_listRg g.calm (gl_of g.hsc h1) (g.blt _ (by decide +kernel)) (prg_1 (gl_of g.hsc h2) (g.blt _ (by decide +kernel)) ha (star_of hp))) fun τ H Q ⟨B, Hf, ρ, σ, S, h, q⟩ => ?_
  dsimp only at q
  rw [R.bind_assoc] at q
  refine ⟨B, Hf, ρ, σ, S, h, (Post.bind q).imp fun v H1 ⟨Hf1, ρ1, S1, w, e1, h1, r1, q1⟩ => ?_⟩
  split at q1
  · rename_i j
    cases repInt r1
    split at q1
    · rename_i ho
      rw [R.bind_ok] at q1
      split at q1
      · rename_i hl
        exact ⟨j, rfl, rgok_of ho hl, fun l hn => Post.newL h1 q1 hn (rg_rep 0 j)⟩
      · exact q1.elim
    · exact q1.elim
  · exact q1.elim
theorem s_lrng2 {r : Bool} (g : Good G N sc Ex X) (h1 : glB sc "list" = true) (h2 : glB sc "range" = true) (hp : plainE e1 = true) (hp2 : plainE e2 = true) (ha : PE X e1 (rE X Ex ta)) (hb : PE X e2 (rE X Ex tb)) :
    PE X (.Call (.Name "list" p) [.Call (.Name "range" p2) [e1, e2] [] apos] [] pos) (rE X Ex fun σ S => ((ta σ S).bind fun x S1 => (tb σ S1).bind fun y S2 => match x, y with | .v (.int i), .v (.int j) => if rngOk i j then .ok (rgD i j) S2 else .bad | _, _ => .bad).bind fun ds S1 => if ds.length ≤ 2 ^ 24 then newL r ds S1 else .bad) := by
  refine PE.weak (pe_listRg g.calm (gl_of g.hsc h1) (g.blt _ (by decide +kernel)) (prg_2 (gl_of g.hsc h2) (g.blt _ (by decide +kernel)) ha hb (star_of hp) (star_of hp2) (star_any (by simp [plainEs, hp2])))) fun τ H Q ⟨B, Hf, ρ, σ, S, h, q⟩ => ?_
  dsimp only at q
  rw [R.bind_assoc] at q
  refine ⟨B, Hf, ρ, σ, S, h, (Post.bind q).imp fun v H1 ⟨Hf1, ρ1, S1, w, e1, h1, r1, q1⟩ => ?_⟩
  rw [R.bind_assoc] at q1
  refine ⟨B, Hf1, ρ1, σ, S1, h1, (Post.bind q1).imp fun u H2 ⟨Hf2, ρ2, S2, w2, e2, h2, r2, q2⟩ => ?_⟩
  have r3 := r1.mono e2.f e2.r
  obtain ⟨i, j, rfl, rfl⟩ : ∃ i j, w = .v (.int i) ∧ w2 = .v (.int j) := by
    split at q2
    · exact ⟨_, _, rfl, rfl⟩
    · exact q2.elim
  cases repInt r3; cases repInt r2
  dsimp only at q2
  split at q2
  · rename_i ho
    rw [R.bind_ok] at q2
    split at q2
    · rename_i hl
      exact ⟨i, j, rfl, rfl, rgok_of ho hl, fun l hn => Post.newL h2 q2 hn (rg_rep i j)⟩
    · exact q2.elim
  · exact q2.elim

/-! ### comprehensions -/
abbrev F0 : XK := fun _ _ _ => False
def compF (own : List Nat) (tT : W → Slots → Store → R Slots) (tC : Slots → Store → R Bool) (tE : Slots → Store → R W) (σ : Slots) : D → Store → R (Option D) :=
  fun d S2 => ((tT (.v d) (wipeW σ own) S2).bind fun σ1 S3 => (tC σ1 S3).bind fun c S4 => if c then (tE σ1 S4).bind fun w S5 => match w with | .v e => .ok (some e) S5 | _ => .bad else .ok none S4).noex
def compR (r : Bool) (own : List Nat) (tI : Slots → Store → R (List D)) (tT : W → Slots → Store → R Slots) (tC : Slots → Store → R Bool) (tE : Slots → Store → R W) : Slots → Store → R W :=
  fun σ S => (tI σ S).bind fun ds S1 => if ds.length ≤ sizeLine then (compM (compF own tT tC tE σ) ds S1).bind fun es S2 => newL r es S2 else .bad
theorem Rel.wipe {K : PySem.W.Frag} {B : Bs} {Hf H : Hp} {ρ : List Addr} {σ : Slots} {S : Store} {τ : St} (h : Rel K B Hf ρ σ S τ H) : ∀ own : List Nat, Rel K B Hf ρ (wipeW σ own) S (L2.wipe τ own) H
  | [] => h
  | v :: vs => by unfold wipeW L2.wipe; exact (Rel.wipe h vs).setN v none
theorem wipe_set {τ : St} {i : Nat} {v : Option V} : ∀ {own : List Nat}, i ∈ own → L2.wipe (τ.set i v) own = L2.wipe τ own
  | j :: own, h => by
    unfold L2.wipe
    by_cases e : i ∈ own
    · rw [wipe_set e]
    · rcases List.mem_cons.mp h with rfl | h
      · have : ∀ own : List Nat, i ∉ own → L2.wipe (τ.set i v) own = (L2.wipe τ own).set i v := by
          intro own
          induction own with
          | nil => intro _; rfl
          | cons k own ih =>
            intro hn
            unfold L2.wipe
            rw [ih (fun z => hn (List.mem_cons_of_mem _ z)), List.set_comm _ _ (fun z => hn (by rw [z]; exact List.mem_cons_self))]
        rw [this own e, List.set_set]
      · exact absurd h e
theorem wipe_wipe (τ : St) (own : List Nat) : L2.wipe (L2.wipe τ own) own = L2.wipe τ own := by
  have : ∀ (l : List Nat) (τ : St), (∀ i ∈ l, i ∈ own) → L2.wipe (L2.wipe τ l) own = L2.wipe τ own := by
    intro l
    induction l with
    | nil => intro τ _; rfl
    | cons j l ih =>
      intro τ hm
      show L2.wipe ((L2.wipe τ l).set j none) own = _
      rw [wipe_set (hm j List.mem_cons_self)]
      exact ih τ fun i hi => hm i (List.mem_cons_of_mem _ hi)
  exact this own τ fun i hi => hi
/-- a target within a comprehension: it leaves all but the own names -/
def rGo (X : Cx) (own : List Nat) (t : W → Slots → Store → R Slots) : TG := fun v τ H Q => ∃ Iv : St → Prop, (∀ i ∈ own, ∀ τ v, Iv τ → Iv (τ.set i (some v))) ∧ rG X F0 Iv t v τ H Q
theorem Post.noexB {α β : Type} {P : Hp → List Addr → α → β → Prop} {g : Gd} {Hf : Hp} {ρ : List Addr} {σ : Slots} {τ : St} {Q : β → Hp → Prop} {γ : Type} {r : R γ} {f : γ → Store → R α} (q : Post P g Hf ρ σ τ Q (r.noex.bind f)) : ∃ a S, r = .ok a S ∧ Post P g Hf ρ σ τ Q (f a S) := by
  cases r with
  | bad => exact q.elim
  | ex x S => exact q.elim
  | ok a S => exact ⟨a, S, rfl, q⟩
theorem comp_core {r : Bool} {own : List Nat} {tI : Slots → Store → R (List D)} {tT : W → Slots → Store → R Slots} {tC : Slots → Store → R Bool} {tE : Slots → Store → R W} {τ : St} {H : Hp} {Q : VK}
    (hh : rE X Ex (compR r own tI tT tC tE) τ H Q) : tLc (rI X Ex tI) (rGo X own tT) (rT X F0 tC) (rE X F0 tE) own τ H Q := by
  obtain ⟨B, Hf, ρ, σ, S, h, q⟩ := hh
  refine ⟨B, Hf, ρ, σ, S, h, (Post.bind (P := fun Hf _ ds J => JOk X.K Hf J ds) q).imp fun J H1 ⟨Hf1, ρ1, S1, ds, e1, h1, jok, q1⟩ => ?_⟩
  intro Dd hD
  split at q1
  case isFalse => exact q1.elim
  rename_i hlen
  obtain ⟨f1, f2, f3⟩ := h1.freshF hD
  refine ⟨fun i m H' => m = ds.length - i ∧ i ≤ ds.length ∧ ∃ Hf2 ρ2 S2 acc vacc, Ext Hf1 ρ1 Hf2 ρ2 ∧ Rel X.K B Hf2 ρ2 σ S2 τ H' ∧ H' Dd = some (.lst vacc) ∧ Hf2 Dd = none ∧ Dd ∉ ρ2 ∧ RepDs X.K Hf2 acc vacc ∧ acc.length ≤ i ∧
    Post (RepW X.K) (gd X B Ex) Hf2 ρ2 σ τ Q ((compM (compF own tT tC tE σ) (ds.drop i) S2).bind fun es S2 => newL r (acc ++ es) S2), ⟨ds.length, by simp, Nat.zero_le _, Hf1, ρ1, S1, [], [], Ext.refl _ _, h1.other f1 f2 f3 _, upd_same, f1, f2, rfl, Nat.le_refl _, ?_⟩, ?_⟩
  · simpa using q1
  rintro i m H2 ⟨rfl, hi, Hf2, ρ2, S2, acc, vacc, x2, h2, hd2, g1, g2, racc, hacc, p2⟩
  by_cases hlt : i < ds.length
  · have jo := jok i H2 ((x2.f).trans h2.sub)
    obtain ⟨jgo, jy⟩ := jo.2 ds[i] (by simp [hlt])
    refine .inr ⟨jgo, fun H' => i + 1 ≤ ds.length ∧ ∃ Hf2 ρ2 S2 acc vacc, Ext Hf1 ρ1 Hf2 ρ2 ∧ Rel X.K B Hf2 ρ2 σ S2 τ H' ∧ H' Dd = some (.lst vacc) ∧ Hf2 Dd = none ∧ Dd ∉ ρ2 ∧ RepDs X.K Hf2 acc vacc ∧ acc.length ≤ i + 1 ∧
      Post (RepW X.K) (gd X B Ex) Hf2 ρ2 σ τ Q ((compM (compF own tT tC tE σ) (ds.drop (i + 1)) S2).bind fun es S2 => newL r (acc ++ es) S2), fun H' hN => ⟨ds.length - (i + 1), by omega, rfl, hN⟩, fun x H3 hy => ?_⟩
    -- the item
    obtain ⟨Hf3, h3, x3, hd3, g3, rx⟩ : ∃ Hf3, Rel X.K B Hf3 ρ2 σ S2 τ H3 ∧ Ext Hf2 ρ2 Hf3 ρ2 ∧ H3 Dd = some (.lst vacc) ∧ Hf3 Dd = none ∧ RepD X.K Hf3 ds[i] x := by
      rcases jy x H3 hy with ⟨rfl, rr⟩ | ⟨pp, o, hp, rfl, rfl, rr⟩
      · exact ⟨Hf2, h2, Ext.refl _ _, hd2, g1, RepD.mono x2.f _ _ rr⟩
      · obtain ⟨k1, k2⟩ := h2.newF hp o
        have np : Dd ≠ pp := ne_of_none hd2 hp
        exact ⟨_, k1, k2, by rw [upd_ne np]; exact hd2, by rw [upd_ne np]; exact g1, rr _ (x2.f.trans k2.f) upd_same⟩
    have ec : ds.drop i = ds[i] :: ds.drop (i + 1) := List.drop_eq_getElem_cons hlt
    rw [ec] at p2
    have p3 := Post.ext x3 p2
    simp only [compM, R.bind_assoc] at p3
    obtain ⟨o, S4, ef, p4⟩ := Post.noexB p3
    -- the target
    have hw := (h3.wipe own).rebase
    refine ⟨fun τ' => L2.wipe τ' own = L2.wipe (L2.wipe τ own) own, fun j hj τ' v e => (wipe_set hj).trans e, rfl, ⟨H3, Hf3, ρ2⟩, Hf3, ρ2, wipeW σ own, S2, .v ds[i], hw, rx, ?_⟩
    cases et : tT (.v ds[i]) (wipeW σ own) S2 with
    | bad => rw [et] at ef; cases ef
    | ex x S => rw [et] at ef; cases ef
    | ok σ1 S5 =>
      rw [et, R.bind_ok] at ef
      intro Hf5 ρ5 τ5 H5 x5 h5 iv5
      refine ⟨by rw [iv5, wipe_wipe], ⟨H3, Hf3, ρ2⟩, Hf5, ρ5, σ1, S5, h5, ?_⟩
      cases etc : tC σ1 S5 with
      | bad => rw [etc] at ef; cases ef
      | ex x S => rw [etc] at ef; cases ef
      | ok c S6 =>
        rw [etc, R.bind_ok] at ef
        intro Hf6 ρ6 H6 b x6 h6 eb
        have eb : c = b := eb
        subst eb
        cases c with
        | false =>
          simp only [Bool.false_eq_true, if_false] at ef ⊢
          cases ef
          have k := h3.blank.trans h6.blank
          obtain ⟨y1, y2, y3⟩ := h6.stays hd3 g3 g2
          have xx := (x2.trans x3).trans ((Ext.mk h6.subB h6.preB))
          refine ⟨by omega, Hf6, ρ6, _, acc, vacc, xx, h3.back ⟨h6.subB, h6.preB⟩ k, y1, y2, y3, RepDs.mono (x3.f.trans h6.subB) _ _ racc, by omega, ?_⟩
          have p5 := Post.ext ⟨h6.subB, h6.preB⟩ p4
          simpa using p5
        | true =>
          simp only [if_true] at ef ⊢
          refine ⟨⟨H3, Hf3, ρ2⟩, Hf6, ρ6, σ1, S6, h6, ?_⟩
          cases ee : tE σ1 S6 with
          | bad => rw [ee] at ef; cases ef
          | ex x S => rw [ee] at ef; cases ef
          | ok w S7 =>
            rw [ee, R.bind_ok] at ef
            cases w with
            | ref j => cases ef
            | v e =>
              cases ef
              intro Hf7 ρ7 H7 y x7 h7 ry
              have k := h3.blank.trans h7.blank
              obtain ⟨y1, y2, y3⟩ := h7.stays hd3 g3 g2
              have xx := (x2.trans x3).trans ((Ext.mk h7.subB h7.preB))
              have r1 := RepDs.mono (x3.f.trans h7.subB) _ _ racc
              have nB : B.H Dd = none := f3
              refine ⟨vacc, y1, by rw [← r1.length]; omega, by omega, Hf7, ρ7, S4, acc ++ [e], vacc ++ [y], xx, (h3.back ⟨h7.subB, h7.preB⟩ k).other y2 y3 nB _, upd_same, y2, y3, r1.append (by simp only [RepDs]; exact ⟨y, [], rfl, ry, rfl⟩), by simp; omega, ?_⟩
              have p5 := Post.ext ⟨h7.subB, h7.preB⟩ p4
              simpa using p5
  · have ei : i = ds.length := by omega
    have jo := jok i H2 ((x2.f).trans h2.sub)
    refine .inl ⟨jo.1 (by omega), ?_⟩
    rw [ei, List.drop_length] at p2
    simp only [compM, R.bind_ok, List.append_nil] at p2
    -- the list at Dd is taken over
    cases r with
    | false =>
      have k1 : Rel X.K B (upd Hf2 Dd (.lst vacc)) ρ2 σ S2 τ H2 ∧ Ext Hf2 ρ2 (upd Hf2 Dd (.lst vacc)) ρ2 := by
        have ext : Same Hf2 (upd Hf2 Dd (.lst vacc)) := fun b u e => by rw [upd_ne (ne_of_none e g1)]; exact e
        refine ⟨⟨fun a u e => ?_, h2.len, fun j w e => ?_, h2.rl, h2.nd, h2.tr, fun j u e => ?_, h2.keep, h2.newr, fun a u e => ?_, fun a u e => ext _ _ (h2.subB _ _ e), h2.preB⟩, ⟨ext, List.prefix_refl _⟩⟩
        · by_cases z : a = Dd
          · rw [z] at e ⊢; rw [upd_same] at e; rw [hd2]; exact e
          · rw [upd_ne z] at e; exact h2.sub _ _ e
        · obtain ⟨v, z1, z2⟩ := h2.slot j w e
          exact ⟨v, z1, z2.mono ext (List.prefix_refl _)⟩
        · obtain ⟨a, z1, z2, z3⟩ := h2.ob j u e
          exact ⟨a, z1, by rw [upd_ne (fun (z : a = Dd) => g2 (z ▸ List.mem_of_getElem? z1))]; exact z2, z3.mono ext (List.prefix_refl _) rfl⟩
        · by_cases z : a = Dd
          · rw [z]; exact .inr (.inl f3)
          · rw [upd_ne z] at e; exact h2.newf a u e
      refine p2 _ _ _ _ k1.2 k1.1 ?_
      simp only [RepW, RepD]
      exact ⟨Dd, vacc, rfl, upd_same, RepDs.mono k1.2.f _ _ racc⟩
    | true =>
      have pre : ρ2 <+: ρ2 ++ [Dd] := ⟨[Dd], rfl⟩
      have k1 : Rel X.K B Hf2 (ρ2 ++ [Dd]) σ (S2 ++ [some (.lst acc)]) τ H2 := by
        refine ⟨h2.sub, h2.len, fun j w e => ?_, by simp [h2.rl], ?_, fun a m => ?_, fun j u e => ?_, h2.keep, fun a m => ?_, h2.newf, h2.subB, h2.preB.trans pre⟩
        · obtain ⟨v, z1, z2⟩ := h2.slot j w e
          exact ⟨v, z1, z2.mono (Same.refl _) pre⟩
        · rw [List.nodup_append]
          exact ⟨h2.nd, by simp, fun a ha b hb e => g2 (by simp at hb; subst hb; exact e ▸ ha)⟩
        · rcases List.mem_append.mp m with m | m
          · exact h2.tr a m
          · have e : a = Dd := by simpa using m
            exact ⟨_, by rw [e]; exact hd2⟩
        · by_cases hj : j < S2.length
          · rw [List.getElem?_append_left hj] at e
            obtain ⟨a, z1, z2, z3⟩ := h2.ob j u e
            exact ⟨a, by rw [List.getElem?_append_left (by rw [h2.rl]; exact hj)]; exact z1, z2, z3.mono (Same.refl _) pre rfl⟩
          · rw [List.getElem?_append_right (by omega)] at e
            have hj0 : j - S2.length = 0 := by
              cases q : j - S2.length with
              | zero => rfl
              | succ n => rw [q] at e; simp at e
            have hj1 : j = S2.length := by omega
            rw [hj0] at e
            simp at e
            subst e
            exact ⟨Dd, by rw [List.getElem?_append_right (by rw [h2.rl]; omega)]; simp [h2.rl, hj1], g1, vacc, hd2, racc⟩
        · rcases List.mem_append.mp m with m | m
          · exact h2.newr a m
          · have e : a = Dd := by simpa using m
            rw [e]; exact .inr f3
      exact p2 _ _ _ _ ⟨Same.refl _, pre⟩ k1 ⟨Dd, by rw [List.getElem?_append_right (by rw [h2.rl]; exact Nat.le_refl _)]; simp [h2.rl], rfl⟩
end

/-! ### objects of classes, dicts -/
theorem lookup_zip {fs : List Str} : ∀ {vs : List V} {j : Nat} {f : Str}, fs.Nodup → fs[j]? = some f → (fs.zip vs).lookup f = vs[j]? := by
  induction fs with
  | nil => intro vs j f _ h; simp at h
  | cons g fs ih =>
    intro vs j f nd h
    cases vs with
    | nil => simp
    | cons x vs =>
      cases j with
      | zero => simp at h; subst h; simp [List.lookup]
      | succ j =>
        have hm : fs[j]? = some f := by simpa using h
        have ne : (f == g) = false := by
          rw [beq_eq_false_iff_ne]
          intro e
          subst e
          exact (List.nodup_cons.1 nd).1 (List.mem_of_getElem? hm)
        rw [List.zip_cons_cons, List.lookup_cons, ne]
        simpa using ih (List.nodup_cons.1 nd).2 hm
theorem lookup_none {fs : List Str} {vs : List V} {m : Str} (h : fs.contains m = false) : (fs.zip vs).lookup m = none := by
  induction fs generalizing vs with
  | nil => simp
  | cons g fs ih =>
    cases vs with
    | nil => simp
    | cons x vs =>
      rw [List.contains_cons, Bool.or_eq_false_iff] at h
      rw [List.zip_cons_cons, List.lookup_cons, h.1]
      exact ih h.2
theorem putF_zip {fs : List Str} {f : Str} {v : V} : ∀ {vs : List V} {j : Nat}, fs.Nodup → fs[j]? = some f → j ≤ vs.length → vs.length ≤ fs.length → putF f v (fs.zip vs) = fs.zip (if j < vs.length then vs.set j v else vs ++ [v]) := by
  induction fs with
  | nil => intro vs j _ h; simp at h
  | cons g fs ih =>
    intro vs j nd h hj hl
    cases vs with
    | nil =>
      have : j = 0 := by simpa using hj
      subst this
      simp at h; subst h
      simp [putF]
    | cons x vs =>
      cases j with
      | zero => simp at h; subst h; simp [putF]
      | succ j =>
        have hm : fs[j]? = some f := by simpa using h
        have ne : ¬ g = f := fun e => (List.nodup_cons.1 nd).1 (e ▸ List.mem_of_getElem? hm)
        have := ih (vs := vs) (List.nodup_cons.1 nd).2 hm (by simpa using hj) (by simpa using hl)
        rw [List.zip_cons_cons, putF, if_neg ne, this]
        by_cases hlt : j < vs.length
        · rw [if_pos hlt, if_pos (by simpa using hlt)]; rfl
        · rw [if_neg hlt, if_neg (by simpa using hlt)]; rfl
theorem RepWs.setI {K : PySem.W.Frag} {Hf : Hp} {ρ : List Addr} {w : W} {v : V} (r : RepW K Hf ρ w v) : ∀ {ws : List W} {vs : List V} (j : Nat), RepWs K Hf ρ ws vs → RepWs K Hf ρ (ws.set j w) (vs.set j v)
  | [], _, j, h => by cases h; cases j <;> rfl
  | x :: xs, vs, 0, h => by
    obtain ⟨u, q, rfl, h2, h3⟩ := h
    exact ⟨v, q, rfl, r, h3⟩
  | x :: xs, vs, j + 1, h => by
    obtain ⟨u, q, rfl, h2, h3⟩ := h
    exact ⟨u, _, rfl, h2, RepWs.setI r j h3⟩
section
variable {X : Cx} {Ex : XK} {G : GT} {N : List Str} {sc : Scope} {e1 e2 e3 : PySem.Expr} {es : List PySem.Expr} {pos p p2 apos : Pos} {ta tb tc : Slots → Store → R W} {tes : Slots → Store → R (List W)}
/-- the object that a field is read of -/
theorem Rel.ins {K : PySem.W.Frag} {B : Bs} {Hf H : Hp} {ρ : List Addr} {σ : Slots} {S : Store} {τ : St} (h : Rel K B Hf ρ σ S τ H) {i : Nat} {C : Str} {fs : List Str} {ws : List W} {v : V} (hi : S[i]? = some (some (.ins C fs ws))) (r : RepW K Hf ρ (.ref i) v) :
    ∃ a Ca dx vs, v = .ref a ∧ ρ[i]? = some a ∧ Hf a = none ∧ PySem.W.nsIn K mainGlobals C = some (some (.ref Ca)) ∧ H a = some (.ins Ca dx (fs.zip vs)) ∧ ws.length ≤ fs.length ∧ RepWs K Hf ρ ws vs := by
  obtain ⟨a, h1, h2⟩ := r
  obtain ⟨a', h3, h4, Ca, dx, vs, h5, h6, h7, h8⟩ := h.ob i _ hi
  rw [h1] at h3; cases h3
  exact ⟨a, Ca, dx, vs, h2, h1, h4, h5, h6, h7, h8⟩
theorem s_fld {k j : Nat} {C : Str} {fs : List Str} {f : Str} (g : Good G N sc Ex X) (hG : G[k]? = some (C, .cls fs)) (hj : fs[j]? = some f) (hb : plainBase e1 = true) (ha : PE X e1 (rE X Ex ta)) :
    PE X (.Attribute e1 f pos) (rE X Ex fun σ S => (ta σ S).bind fun x S1 => match G[k]? with | some (C, .cls fs) => fldW C fs j x S1 | _ => .bad) := by
  obtain ⟨Cb, c1, c2, c3, c4, c5⟩ := (g.cls k C fs hG).ex
  have hn := c5 f (List.mem_of_getElem? hj)
  refine PE.weak (pe_fld ha (base_of hb)) fun τ H Q ⟨B, Hf, ρ, σ, S, h, q⟩ => ⟨B, Hf, ρ, σ, S, h, (Post.bind q).imp fun v H1 ⟨Hf1, ρ1, S1, w, e1, h1, r1, q1⟩ => ?_⟩
  rw [hG] at q1
  dsimp only at q1
  unfold fldW at q1
  split at q1
  · rename_i i
    split at q1
    · rename_i C' fs' ws hi
      split at q1
      · rename_i hc
        obtain ⟨rfl, rfl⟩ := hc
        split at q1
        · rename_i w hw
          obtain ⟨a, Ca, dx, vs, rfl, z1, z2, z3, z4, z5, z6⟩ := h1.ins hi r1
          rw [z3] at c1
          cases c1
          obtain ⟨u, y1, y2⟩ := z6.get hw
          exact ⟨a, _, dx, _, u, rfl, z4, c2, hn, (lookup_zip c3 hj).trans y1, Post.done (g := gd X B Ex) h1 q1 y2⟩
        · exact q1.elim
      · exact q1.elim
    · exact q1.elim
  · rename_i C' fs' xs
    split at q1
    · rename_i hc
      obtain ⟨rfl, rfl⟩ := hc
      split at q1
      · rename_i d hd
        have r1 : RepD X.K Hf1 (.obj C' fs' xs) v := r1
        simp only [RepD] at r1
        obtain ⟨a, rfl, Ca, dx, vs, z3, z4, z5, z6⟩ := r1
        rw [z3] at c1
        cases c1
        obtain ⟨u, y1, y2⟩ := z6.get hd
        exact ⟨a, _, dx, _, u, rfl, h1.sub _ _ z4, c2, hn, (lookup_zip c3 hj).trans y1, Post.done (g := gd X B Ex) (w := .v d) h1 q1 y2⟩
      · exact q1.elim
    · exact q1.elim
  · exact q1.elim
theorem trim_ok {B : Bs} {Hf H Hf' H' : Hp} {ρ ρ' : List Addr} {σ : Slots} {S S' : Store} {τ : St} {Q : VK} {w : W} {v : V} (h : Rel X.K B Hf ρ σ S τ H) (c : Rel X.K ⟨H, Hf, ρ⟩ Hf' ρ' [] S' [] H') (e : Ext Hf ρ Hf' ρ') (r : RepW X.K Hf' ρ' w v)
    (q : Post (RepW X.K) (gd X B Ex) Hf ρ σ τ Q (trimR S.length w S')) : Q v H' := by
  have t1 : ρ.take S.length = ρ := List.take_of_length_le (by rw [h.rl]; omega)
  have whole : ∀ {w : W}, RepW X.K Hf' ρ' w v → Post (RepW X.K) (gd X B Ex) Hf ρ σ τ Q (.ok w S') → Q v H' := fun r q => q _ _ _ _ e (h.back e (h.blank.trans c)) r
  unfold trimR at q
  cases w with
  | v d =>
    dsimp only at q
    split at q
    · rename_i ho
      obtain ⟨u1, u2⟩ := h.unwindow (k := S.length) (Nat.le_refl _) (by rw [t1]; exact c) ho
      rw [List.drop_length, List.append_nil] at u1
      exact q _ _ _ _ u2 u1 r
    · exact whole r q
  | ref i =>
    dsimp only at q
    split at q
    · rename_i ho
      obtain ⟨u1, u2⟩ := h.unwindow (k := S.length) (Nat.le_refl _) (by rw [t1]; exact c) ho.2
      rw [List.drop_length, List.append_nil] at u1
      refine q _ _ _ _ u2 u1 ?_
      obtain ⟨a, z1, z2⟩ := r
      obtain ⟨t, ht⟩ := e.r
      rw [← ht, List.getElem?_append_left (by rw [h.rl]; exact ho.1)] at z1
      exact ⟨a, z1, z2⟩
    · exact whole r q
theorem trimX_ok {B : Bs} {Hf H Hf' H' : Hp} {ρ ρ' : List Addr} {σ : Slots} {S S' : Store} {τ : St} {Q : VK} {x : Exc} {cls : Value} {d : Option Addr} (h : Rel X.K B Hf ρ σ S τ H) (c : Rel X.K ⟨H, Hf, ρ⟩ Hf' ρ' [] S' [] H') (e : Ext Hf ρ Hf' ρ') (r : ExR X.K X.mg Hf' H' x cls d)
    (q : Post (RepW X.K) (gd X B Ex) Hf ρ σ τ Q (trimX S.length x S')) : Ex cls d H' := by
  have t1 : ρ.take S.length = ρ := List.take_of_length_le (by rw [h.rl]; omega)
  unfold trimX at q
  split at q
  · rename_i ho
    obtain ⟨u1, u2⟩ := h.unwindow (k := S.length) (Nat.le_refl _) (by rw [t1]; exact c) ho
    rw [List.drop_length, List.append_nil] at u1
    exact q _ _ _ _ _ u2 u1.blank r
  · exact q _ _ _ _ _ e (h.back e (h.blank.trans c)).blank r
/-- a call that sees the whole store, by the callee's promise -/
theorem callV_sp {B : Bs} {Hf : Hp} {ρ : List Addr} {σ : Slots} {S : Store} {τ : St} {H : Hp} {ws : List W} {vs : List V} {Q : VK} {n : Nat} {f : FnSem} (h : Rel X.K B Hf ρ σ S τ H) (r : RepWs X.K Hf ρ ws vs)
    (q : Post (RepW X.K) (gd X B Ex) Hf ρ σ τ Q (callV n f ws S)) : spZ X.K X.mg n f vs H Q Ex := by
  unfold callV at q
  split at q
  · rename_i hc
    refine ⟨by rw [← r.length]; exact hc, Hf, ρ, S, ws, h.rebase.blank, r, ?_⟩
    cases e : f ws S with
    | bad => rw [e] at q; exact q.elim
    | ok w S' =>
      rw [e] at q
      exact fun Hf' ρ' H' v e' c r' => trim_ok h c e' r' q
    | ex x S' =>
      rw [e] at q
      exact fun Hf' ρ' H' cls d e' c r' => trimX_ok h c e' r' q
  · exact q.elim
theorem s_callV {k n : Nat} {f : FnSem} {x : Str} (g : Good G N sc Ex X) (h1 : glB sc x = true) (h2 : G[k]? = some (x, .fn n f)) (h3 : dunB x = true) (hp : plainEs es = true) (hne : es ≠ []) (ha : PA X es (rA X Ex tes)) :
    PE X (.Call (.Name x p) es [] pos) (rE X Ex fun σ S => (tes σ S).bind fun ws S1 => match G[k]? with | some (_, .fn n f) => callV n f ws S1 | _ => .bad) := by
  obtain ⟨d1, d2, d3⟩ := dun_of h3
  obtain ⟨kk, hr, hf, _⟩ := g.room
  obtain ⟨a, fd, ps, hn, F, hm, hk, hb⟩ := (hf k x n f h2).ex
  subst hn
  have hx : Passes (L2.CX X.prog X.w) X Ex := passes_call g.tk fun _ _ _ _ z => z
  have go : ∀ (τ : St) (H : Hp) (Q : VK), rE X Ex (fun σ S => (tes σ S).bind fun ws S1 => match G[k]? with | some (_, .fn n f) => callV n f ws S1 | _ => .bad) τ H Q → tCall (spZ X.K X.mg ps.length f) [] Ex (rA X Ex tes) τ H Q := by
    intro τ H Q ⟨B, Hf, ρ, σ, S, h, q⟩
    dsimp only at q
    rw [h2] at q
    refine ⟨B, Hf, ρ, σ, S, h, (Post.bind q).imp fun vs H1 ⟨Hf1, ρ1, S1, ws, e1, h1, r1, q1⟩ => ?_⟩
    rw [List.append_nil]
    exact callV_sp h1 r1 q1
  cases es with
  | nil => exact absurd rfl hne
  | cons e es =>
    simp only [plainEs, Bool.and_eq_true] at hp
    exact PE.weak (pe_call F hr (gl_of g.hsc h1) hm hk hb .nil hx ha d1 (star_of hp.1) (star_any hp.2)) go
theorem meth_eval {o : PySem.Expr} {m : Str} {apos cpos : Pos} {args : List PySem.Expr} {env : Env} (hb : plainBase o = true) (hl : (apos.endLine == cpos.line) = true) (hp : plainEs args = true) (hz : args.length < 30) :
    eval (.Call (.Attribute o m apos) args [] cpos) env = (do
      let ov ← eval o env
      standAt apos.atName
      let (f, first) ← holding [ov] (getMethod ov m (do return (← importBound o env).getD true))
      callWith cpos f first (backTo cpos (starEach args env)) (backToKw cpos (keywordEach [] env))) := by
  have hform : methodCallForm (args.length + ([] : List Keyword).length) (backTo cpos (starEach args env)) (backToKw cpos (keywordEach [] env)) = true := few_of hp hz
  have hpos : methodCallPos true o env apos cpos = pure cpos := by unfold methodCallPos; simp [hl]
  rw [arm_eval_Call, base_of hb]
  unfold methodCall
  rw [hform]
  unfold calleeOf
  rw [hpos]
  rfl
theorem recv_rep {B : Bs} {Hf : Hp} {ρ : List Addr} {σ : Slots} {S : Store} {τ : St} {H : Hp} {C m : Str} {x : W} {v : V} (h : Rel X.K B Hf ρ σ S τ H) (r : RepW X.K Hf ρ x v) (e : recvOk C m x S = true) :
    ∃ a Ca dx fs, v = .ref a ∧ PySem.W.nsIn X.K mainGlobals C = some (some (.ref Ca)) ∧ H a = some (.ins Ca dx fs) ∧ fs.lookup m = none := by
  unfold recvOk at e
  split at e
  · rename_i i
    split at e
    · rename_i C' fs ws hi
      rw [Bool.and_eq_true, decide_eq_true_eq, Bool.not_eq_true'] at e
      obtain ⟨rfl, e2⟩ := e
      obtain ⟨a, Ca, dx, vs, rfl, z1, z2, z3, z4, z5, z6⟩ := h.ins hi r
      exact ⟨a, Ca, dx, _, rfl, z3, z4, lookup_none e2⟩
    · cases e
  · rename_i C' fs xs
    rw [Bool.and_eq_true, decide_eq_true_eq, Bool.not_eq_true'] at e
    obtain ⟨rfl, e2⟩ := e
    have r : RepD X.K Hf (.obj C' fs xs) v := r
    simp only [RepD] at r
    obtain ⟨a, rfl, Ca, dx, vs, z3, z4, z5, z6⟩ := r
    exact ⟨a, Ca, dx, _, rfl, z3, h.sub _ _ z4, lookup_none e2⟩
  · cases e
theorem s_meth {k n : Nat} {x C m : Str} {f : FnSem} {cpos : Pos} (g : Good G N sc Ex X) (hG : G[k]? = some (x, .mth C m n f)) (hb : plainBase e1 = true) (hl : (apos.endLine == cpos.line) = true) (hp : plainEs es = true) (hz : es.length < 30) (hne : es ≠ []) (ho : PE X e1 (rE X Ex ta)) (ha : PA X es (rA X Ex tes)) :
    PE X (.Call (.Attribute e1 m apos) es [] cpos) (rE X Ex fun σ S => (ta σ S).bind fun x S1 => match G[k]? with
      | some (_, .mth C m n f) => if recvOk C m x S1 then (tes σ S1).bind fun ws S2 => callV n f (x :: ws) S2 else .bad
      | _ => .bad) := by
  obtain ⟨kk, hr, _, hm, _⟩ := g.room
  obtain ⟨Ca, a, fd, ps, c1, c2, c3, hn, F, hbn⟩ := (hm k x C m n f hG).ex
  subst hn
  have hx : Passes (L2.CX X.prog X.w) X Ex := passes_call g.tk fun _ _ _ _ z => z
  have go : ∀ (tA : TA), (∀ (τ : St) (H : Hp) (Q : List V → Hp → Prop), rA X Ex tes τ H Q → tA τ H Q) → ∀ (τ : St) (H : Hp) (Q : VK), rE X Ex (fun σ S => (ta σ S).bind fun x S1 => match G[k]? with
      | some (_, .mth C m n f) => if recvOk C m x S1 then (tes σ S1).bind fun ws S2 => callV n f (x :: ws) S2 else .bad
      | _ => .bad) τ H Q → tMeth Ca m (spZ X.K X.mg ps.length f) [] Ex (rE X Ex ta) tA τ H Q := by
    intro tA htA τ H Q ⟨B, Hf, ρ, σ, S, h, q⟩
    refine ⟨B, Hf, ρ, σ, S, h, (Post.bind q).imp fun v H1 ⟨Hf1, ρ1, S1, w, e1, h1, r1, q1⟩ => ?_⟩
    rw [hG] at q1
    dsimp only at q1
    split at q1
    · rename_i hrec
      obtain ⟨b, Cb, dx, fs, rfl, z1, z2, z3⟩ := recv_rep h1 r1 hrec
      rw [c1] at z1
      cases z1
      refine ⟨b, dx, fs, rfl, z2, z3, htA _ _ _ ⟨B, Hf1, ρ1, σ, S1, h1, (Post.bind q1).imp fun vs H2 ⟨Hf2, ρ2, S2, ws, e2, h2, r2, q2⟩ => ?_⟩⟩
      rw [List.append_nil]
      exact callV_sp (ws := w :: ws) h2 ⟨_, _, rfl, r1.mono e2.f e2.r, r2⟩ q2
    · exact q1.elim
  cases es with
  | nil => exact absurd rfl hne
  | cons e es =>
    have hp' := hp
    simp only [plainEs, Bool.and_eq_true] at hp'
    exact PE.weak (pe_meth ho c2 c3 F hr hbn .nil hx ha (star_of hp'.1) (star_any hp'.2) (meth_eval hb hl hp hz)) (go _ fun _ _ _ z => z)
theorem s_meth0 {k n : Nat} {x C m : Str} {f : FnSem} {cpos : Pos} (g : Good G N sc Ex X) (hG : G[k]? = some (x, .mth C m n f)) (hb : plainBase e1 = true) (hl : (apos.endLine == cpos.line) = true) (ho : PE X e1 (rE X Ex ta)) :
    PE X (.Call (.Attribute e1 m apos) [] [] cpos) (rE X Ex fun σ S => (ta σ S).bind fun x S1 => match G[k]? with
      | some (_, .mth C m n f) => if recvOk C m x S1 then (R.ok [] S1).bind fun ws S2 => callV n f (x :: ws) S2 else .bad
      | _ => .bad) := by
  obtain ⟨kk, hr, _, hm, _⟩ := g.room
  obtain ⟨Ca, a, fd, ps, c1, c2, c3, hn, F, hbn⟩ := (hm k x C m n f hG).ex
  subst hn
  have hx : Passes (L2.CX X.prog X.w) X Ex := passes_call g.tk fun _ _ _ _ z => z
  refine PE.weak (pe_meth0 ho c2 c3 F hr hbn .nil hx (meth_eval hb hl (by rfl) (by decide))) fun τ H Q ⟨B, Hf, ρ, σ, S, h, q⟩ => ?_
  refine ⟨B, Hf, ρ, σ, S, h, (Post.bind q).imp fun v H1 ⟨Hf1, ρ1, S1, w, e1, h1, r1, q1⟩ => ?_⟩
  rw [hG] at q1
  dsimp only at q1
  split at q1
  · rename_i hrec
    obtain ⟨b, Cb, dx, fs, rfl, z1, z2, z3⟩ := recv_rep h1 r1 hrec
    rw [c1] at z1
    cases z1
    exact ⟨b, dx, fs, rfl, z2, z3, callV_sp (ws := w :: []) h1 ⟨_, _, rfl, r1, rfl⟩ q1⟩
  · exact q1.elim
theorem s_make {k n : Nat} {x : Str} {fs : List Str} {f : FnSem} (g : Good G N sc Ex X) (h1 : glB sc x = true) (hG : G[k]? = some (x, .mk fs n f)) (h3 : dunB x = true) (hp : plainEs es = true) (hne : es ≠ []) (ha : PA X es (rA X Ex tes)) :
    PE X (.Call (.Name x p) es [] pos) (rE X Ex fun σ S => (tes σ S).bind fun ws S1 => match G[k]? with | some (C, .mk fs n f) => makeW C fs n f ws S1 | _ => .bad) := by
  obtain ⟨d1, d2, d3⟩ := dun_of h3
  obtain ⟨kk, hr, _, _, hm⟩ := g.room
  obtain ⟨j, Ca, a, fd, ps, hj, c1, c2, c3, hn, F, hbn⟩ := (hm k x fs n f hG).ex
  subst hn
  have hx : Passes (L2.CX X.prog X.w) X Ex := passes_call g.tk fun _ _ _ _ z => z
  have go : ∀ (τ : St) (H : Hp) (Q : VK), rE X Ex (fun σ S => (tes σ S).bind fun ws S1 => match G[k]? with | some (C, .mk fs n f) => makeW C fs n f ws S1 | _ => .bad) τ H Q → tMake Ca (spZ X.K X.mg ps.length f) [] Ex (rA X Ex tes) τ H Q := by
    intro τ H Q ⟨B, Hf, ρ, σ, S, h, q⟩
    dsimp only at q
    rw [hG] at q
    refine ⟨B, Hf, ρ, σ, S, h, (Post.bind q).imp fun vs H1 ⟨Hf1, ρ1, S1, ws, e1, h1, r1, q1⟩ => ?_⟩
    dsimp only at q1
    intro y dx hy hdx hne
    rw [List.append_nil]
    obtain ⟨f1, f2, f3⟩ := h1.freshF hdx
    have ho := h1.other f1 f2 f3 (.own y)
    have hy2 : (upd H1 dx (.own y)) y = none := by rw [upd_ne (fun z => hne z.symm)]; exact hy
    obtain ⟨hn, en⟩ := ho.newO (o := .ins x fs []) (u := .ins Ca dx []) hy2 ⟨Ca, dx, [], c1, by rw [upd_same]; simp, by simp, rfl⟩
    have ry : RepW X.K Hf1 (ρ1 ++ [y]) (.ref S1.length) (.ref y) := ⟨y, by rw [List.getElem?_append_right (by rw [h1.rl]; exact Nat.le_refl _)]; simp [h1.rl], rfl⟩
    have len1 : (S1 ++ [some (Ob.ins x fs [])]).length = S1.length + 1 := by simp
    unfold makeW at q1
    split at q1
    · rename_i hc
      refine ⟨by rw [List.length_cons, ← r1.length]; exact hc, Hf1, ρ1 ++ [y], S1 ++ [some (.ins x fs [])], .ref S1.length :: ws, hn.rebase.blank, ⟨_, _, rfl, ry, r1.mono en.f en.r⟩, ?_⟩
      cases e : f (.ref S1.length :: ws) (S1 ++ [some (.ins x fs [])]) with
      | bad => rw [e] at q1; exact q1.elim
      | ok w S' =>
        rw [e] at q1
        cases w with
        | ref i => exact q1.elim
        | v d =>
          cases d with
          | non =>
            dsimp only at q1
            intro Hf' ρ' H' v e' c r'
            refine ⟨by simpa only [RepW, RepD] using r', ?_⟩
            have q2 := Post.ext en q1
            rw [← len1] at q2
            exact trim_ok hn c e' (ry.mono e'.f e'.r) q2
          | _ => exact q1.elim
      | ex xx S' =>
        rw [e] at q1
        dsimp only at q1
        intro Hf' ρ' H' cls d e' c r'
        have hb := h1.rebase.blank
        obtain ⟨g1, g2, g3⟩ := hb.freshF hdx
        have hbo := hb.other g1 g2 g3 (.own y)
        obtain ⟨hbn, _⟩ := hbo.newO (o := .ins x fs []) (u := .ins Ca dx []) hy2 ⟨Ca, dx, [], c1, by rw [upd_same]; simp, by simp, rfl⟩
        exact trimX_ok h1 (hbn.trans c) (en.trans e') r' q1
    · exact q1.elim
  cases es with
  | nil => exact absurd rfl hne
  | cons e es =>
    simp only [plainEs, Bool.and_eq_true] at hp
    exact PE.weak (pe_make c3 F (hr.mono (by omega)) (gl_of g.hsc h1) c2 hbn .nil hx ha d1 (star_of hp.1) (star_any hp.2)) go
theorem s_dnewK : PE X (.Dict [] [] pos) (rE X Ex fun _ S => .ok (.ref S.length) (S ++ [some (.dct [] [])])) := by
  refine PE.weak pe_dnewK fun τ H Q ⟨B, Hf, ρ, σ, S, h, q⟩ p hp => ?_
  obtain ⟨k1, e1⟩ := h.newO (o := .dct [] []) (u := .dK []) hp ⟨[], upd_same, rfl, rfl⟩
  exact q _ _ _ _ e1 k1 ⟨p, by rw [List.getElem?_append_right (by rw [h.rl]; exact Nat.le_refl _)]; simp [h.rl], rfl⟩
theorem s_dnewT : PE X (.Dict [] [] pos) (rE X Ex fun _ S => .ok (.ref S.length) (S ++ [some (.dtt [] [])])) := by
  refine PE.weak pe_dnewT fun τ H Q ⟨B, Hf, ρ, σ, S, h, q⟩ p hp => ?_
  obtain ⟨k1, e1⟩ := h.newO (o := .dtt [] []) (u := .dT []) hp ⟨[], upd_same, rfl, rfl⟩
  exact q _ _ _ _ e1 k1 ⟨p, by rw [List.getElem?_append_right (by rw [h.rl]; exact Nat.le_refl _)]; simp [h.rl], rfl⟩
theorem drop_rep {K : PySem.W.Frag} {Hf : Hp} {ρ : List Addr} (k : Key) : ∀ {ks : List Key} {ws : List W} {vs : List V}, ks.length = ws.length → RepWs K Hf ρ ws vs →
    ∃ us, dropK (ks.zip vs) k = (((ks.zip ws).filter fun kv => decide (kv.1 ≠ k)).map (·.1)).zip us ∧ (((ks.zip ws).filter fun kv => decide (kv.1 ≠ k)).map (·.1)).length = (((ks.zip ws).filter fun kv => decide (kv.1 ≠ k)).map (·.2)).length ∧ RepWs K Hf ρ (((ks.zip ws).filter fun kv => decide (kv.1 ≠ k)).map (·.2)) us
  | [], ws, vs, _, _ => ⟨[], by simp [dropK], by simp, rfl⟩
  | j :: ks, [], _, h, _ => by simp at h
  | j :: ks, w :: ws, vs, h, r => by
    obtain ⟨v, q, rfl, r1, r2⟩ := r
    obtain ⟨us, h1, h2, h3⟩ := drop_rep k (ks := ks) (by simpa using h) r2
    unfold dropK at h1 ⊢
    rw [List.zip_cons_cons, List.zip_cons_cons, List.filter_cons, List.filter_cons]
    by_cases e : j = k
    · simp only [e, ne_eq, not_true, decide_false, Bool.false_eq_true, if_false]
      exact ⟨us, by simpa using h1, h2, h3⟩
    · simp only [ne_eq, e, not_false_eq_true, decide_true, if_true, List.map_cons, List.length_cons]
      exact ⟨v :: us, by rw [List.zip_cons_cons]; exact congrArg _ (by simpa using h1), by simp, ⟨v, us, rfl, r1, by simpa using h3⟩⟩
theorem s_popk {cpos : Pos} (hb : plainBase e1 = true) (hl : (apos.endLine == cpos.line) = true) (hp : plainE e2 = true) (ho : PE X e1 (rE X Ex ta)) (hi : PE X e2 (rE X Ex tb)) :
    PE X (.Call (.Attribute e1 "pop" apos) [e2] [] cpos) (rE X Ex fun σ S => (ta σ S).bind fun x S1 => if isDct x S1 then (tb σ S1).bind fun y S2 => popkW x y S2 else .bad) := by
  have m : M1 X e1 "pop" apos e2 cpos := ⟨base_of hb, few_of (by simp [plainEs, hp]) (by simp), hl, by rw [star_of hp]; rfl⟩
  refine PE.weak (pe_dpop1 ho hi m) fun τ H Q ⟨B, Hf, ρ, σ, S, h, q⟩ => ⟨B, Hf, ρ, σ, S, h, (Post.bind q).imp fun v H1 ⟨Hf1, ρ1, S1, w, e1, h1, r1, q1⟩ => ?_⟩
  split at q1
  · rename_i hd
    obtain ⟨i, ks, ws, rfl, hi⟩ : ∃ i ks ws, w = .ref i ∧ S1[i]? = some (some (.dct ks ws)) := by
      unfold isDct at hd
      split at hd
      · split at hd
        · exact ⟨_, _, _, rfl, by assumption⟩
        · cases hd
      · cases hd
    obtain ⟨a, z1, rfl⟩ := r1
    obtain ⟨a', z2, z3, vs, z4, z5, z6⟩ := h1.ob _ _ hi
    rw [z1] at z2; cases z2
    refine ⟨a, rfl, .inl ⟨_, .inl z4⟩, ⟨B, Hf1, ρ1, σ, S1, h1, (Post.bind q1).imp fun u H2 ⟨Hf2, ρ2, S2, w2, e2, h2, r2, q2⟩ => ?_⟩⟩
    unfold popkW at q2
    split at q2
    · rename_i j d ej
      cases ej
      split at q2
      · rename_i ks2 ws2 k hj hk
        split at q2
        · rename_i wv hw
          have z1' : ρ2[i]? = some a := by
            obtain ⟨t, ht⟩ := e2.r
            rw [← ht, List.getElem?_append_left (List.getElem?_eq_some_iff.mp z1).1]; exact z1
          obtain ⟨a', y2, y3, us, y4, y5, y6⟩ := h2.ob _ _ hj
          rw [z1'] at y2; cases y2
          obtain ⟨v, x1, x2⟩ := (valW_rep k (ks := ks2) y6).1 wv hw
          obtain ⟨us', t1, t2, t3⟩ := drop_rep k y5 y6
          refine ⟨_, k, v, y4, keyD_rep r2 hk, x1, ?_⟩
          rw [t1]
          exact q2 _ _ _ _ (Ext.refl _ _) (h2.writeO (o' := .dct _ _) hj z1' ⟨us', upd_same, t2, t3⟩) x2
        · exact q2.elim
      · exact q2.elim
    · exact q2.elim
  · exact q1.elim
end
/-! ### enumerate of a tuple -/
theorem drawsTup {prog : Program} {w : World} {A : Around} {it t : Addr} {items : Array Value} (hh : A.handled = none) (hne : t ≠ it) :
    Draws prog w A it [it, t] items.size (fun i x => items[i]? = some x) (fun i h => h.IsTupleIter it t i ∧ IsTup h t items) where
  live := fun i h st => by obtain ⟨⟨o, e, _⟩, _⟩ := st; exact ⟨o, e⟩
  frame := fun i h h' st k => by
    obtain ⟨h1, o, ho, hr⟩ := st
    exact ⟨h1.at fun o e => k it (by simp) o e, o, k t (by simp) o ho, hr⟩
  item := fun i s Q E hi st hQ => by
    obtain ⟨h1, h2⟩ := st
    refine RZ.nextOf_tuple_item h1 (show s.heap.IsTuple t items from h2) (x := items[i]) (by simp [hi]) fun h' hit' sb => ?_
    obtain ⟨o, ho, hr⟩ := h2
    exact hQ _ h' s.toks (by simp [hi]) ⟨hit', o, (sb.2 t hne).trans ho, hr⟩ sb
  done := fun s Q E st hE => by
    obtain ⟨h1, h2⟩ := st
    exact RZ.nextOf_tuple_end hh h1 (show s.heap.IsTuple t items from h2) (by simp) hE
def IteT (K : PySem.W.Frag) (a : Addr) : It :=
  ⟨fun i H => ∃ (xs : List V) (x : V), SqT K H a xs ∧ xs[i]? = some x, fun i H v H' => ∃ T x, v = .ref T ∧ H T = none ∧ H' = upd H T (.tup [.int (i : Nat), x]) ∧ ∀ xs, SqT K H a xs → xs[i]? = some x, fun i H => ∃ xs : List V, SqT K H a xs ∧ xs.length ≤ i⟩
theorem tup_ne_iter {h : Heap} {a it : Addr} {i : Nat} {items : Array Value} (h1 : h.IsTupleIter it a i) (h2 : IsTup h a items) : a ≠ it := fun e => by
  subst e
  obtain ⟨o, e1, c1, _⟩ := h1
  obtain ⟨o', e2, c2, _⟩ := h2
  rw [e1] at e2; cases e2
  rw [c1] at c2
  exact absurd c2 (by decide)
theorem turn_enumT {P : Program} {w : World} {K : PySem.W.Frag} {elts : List PySem.Expr} {kk : Nat} {tpos : Pos} (a e it : Addr) :
    Turn P w K (.Tuple elts kk tpos) (IteT K a) [e, it] e (fun i h => (∃ old, IsEnum h e it ((i : Nat) : Int) old) ∧ h.IsTupleIter it a i ∧ e ≠ it ∧ e ≠ a) where
  mem := by simp
  obj := fun i h st b hb => by
    obtain ⟨⟨old, he⟩, ⟨o, ho, hc, hd⟩, _⟩ := st
    have e' : b = e ∨ b = it := by simpa using hb
    rcases e' with z | z
    · rw [z]; exact ⟨_, he, fun v q => nomatch q⟩
    · rw [z]; exact ⟨o, ho, fun v q => by rw [hd] at q; cases q⟩
  keep := fun i h h' st k => let ⟨⟨old, he⟩, hi, hne⟩ := st; ⟨⟨old, k e (by simp) _ he⟩, hi.at fun o q => k it (by simp) o q, hne⟩
  item := by
    intro X hP hw hK hc i pins s σ H E I hf st hg
    subst hP hw hK
    obtain ⟨⟨old, he⟩, hit, hne, hna⟩ := st
    obtain ⟨xs, x, hq, hx⟩ := hg
    obtain ⟨its, rv, p, hz⟩ := I.tuple hq
    obtain ⟨u, hu, ru⟩ := rv.get hx
    have hel : e < s.heap.objs.size := Heap.lt_size he
    have hil : it < s.heap.objs.size := by obtain ⟨_, q, _⟩ := hit; exact Heap.lt_size q
    have hlt : i < its.toArray.size := by
      have := (List.getElem?_eq_some_iff.mp hu).1
      simpa using this
    have Dw : Draws X.prog X.w X.A.in1 it [it, a] its.toArray.size (fun i x => its.toArray[i]? = some x) (fun i h => h.IsTupleIter it a i ∧ IsTup h a its.toArray) := drawsTup (I.ok.hd hc) (tup_ne_iter hit p)
    refine wpAny_pyNext_enum_itemD Dw he ⟨hit, p⟩ hlt hne (by simp [hne, hna]) fun u' h' tk hu' ho hst' hT hsz hk => ?_
    have eu : u' = u := by
      have h1 : its.toArray[i]? = some u' := hu'
      have h2 : its.toArray[i]? = some u := by simpa using hu
      rw [h1] at h2; exact Option.some.inj h2
    subst eu
    refine ⟨_, rfl, wpAny_letOwnedTupleGo_enum (s := { s with heap := h', toks := tk + 1 }) ho fun h'' he' sb => ?_⟩
    have hT2 : h''.get? s.heap.objs.size = some { cls := .type "tuple", data := .seq #[.int i tk, u'] } := (sb.2 _ (Nat.ne_of_gt hel)).trans hT
    have new : ObjOk X.prog X.w (upd H s.heap.objs.size (.tup [.int (i : Nat), x])) h'' s.heap.objs.size (.tup [.int (i : Nat), x]) :=
      ⟨by show 2 ≤ sizeLine; decide, [.int i tk, u'], .cons ⟨_, rfl⟩ (.cons ru .nil), ⟨_, hT2, rfl, _, rfl⟩⟩
    have I1 : Inv X pins σ (upd H s.heap.objs.size (.tup [.int (i : Nat), x])) { s with heap := h'', toks := tk + 1 } :=
      I.turnedNew (ch := [e, it]) (fun b ob hb q => (sb.2 b (fun z => hb (by simp [z]))).trans (hk b ob (fun z => hb (by simp [z])) (fun z => hb (by simp [z])) q)) hf (Nat.le_refl _) new
    refine ⟨.ref s.heap.objs.size, _, I1, rfl, ⟨_, x, rfl, I.hok.fresh (Nat.le_refl _), rfl, fun ys hy => by rw [I.tuple_inj hy hq]; exact hx⟩, ⟨⟨u', ?_⟩, hst'.1.at fun o q => (sb.2 it (Ne.symm hne)).trans q, hne, hna⟩, fun b hb => ?_⟩
    · have e1 : ((i + 1 : Nat) : Int) = (i : Int) + 1 := by omega
      rw [e1]; exact he'
    · have hb' : b < s.heap.objs.size := by
        have e' : b = e ∨ b = it := by simpa using hb
        rcases e' with z | z
        · rw [z]; exact hel
        · rw [z]; exact hil
      rw [upd_ne (Nat.ne_of_lt hb')]
      exact (hf b hb).1
  done := by
    intro X hP hw hK hc i pins s σ H E I hf st hg
    subst hP hw hK
    obtain ⟨⟨old, he⟩, hit, hne, hna⟩ := st
    obtain ⟨xs, hq, hx⟩ := hg
    obtain ⟨its, rv, p, hz⟩ := I.tuple hq
    obtain ⟨f0, f1, f2, f3, f4, f5⟩ := hf it (by simp)
    have hl := rv.length
    have Dw : Draws X.prog X.w X.A.in1 it [it, a] 0 (fun _ _ => False) (fun _ h => h.IsTupleIter it a i ∧ IsTup h a its.toArray) := {
      live := fun j h st => by obtain ⟨⟨o, e, _⟩, _⟩ := st; exact ⟨o, e⟩
      frame := fun j h h' st k => by
        obtain ⟨h1, o, ho, hr⟩ := st
        exact ⟨h1.at fun o e => k it (by simp) o e, o, k a (by simp) o ho, hr⟩
      item := fun j s' Q' E' hj => absurd hj (Nat.not_lt_zero _)
      done := fun s' Q' E' st' hE' => by
        obtain ⟨h1, h2⟩ := st'
        exact RZ.nextOf_tuple_end (I.ok.hd hc) h1 (show s'.heap.IsTuple a its.toArray from h2) (by simp; omega) hE' }
    exact wpAny_pyNext_enum_endD Dw he ⟨hit, p⟩ fun h' eb => ⟨rfl, I.turned (t' := s.toks) (fun b o hb q => eb b o hb q) f0 f1 f3 f4 f5⟩
  self := fun A i s Q E st h => let ⟨⟨_, he⟩, _⟩ := st; wpAny_pyIter_enum he h
theorem meets_enumerate_newT (l : Addr) (items : Array Value) (n : Nat) (dct : Option Addr) (sl : Array (Option Value)) :
    Meets (Builtin.«enumerate.__new__» ⟨[.type "enumerate", .ref l], []⟩) (fun _ R s => s.heap.get? l = some { cls := .type "tuple", dict := dct, data := .seq items n, slots := sl } ∧
      R (.ok (.ret (.ref (s.heap.push { cls := .type "tuple_iterator", data := .fields #[.ref l, .int 0 0] }).objs.size)))
        { s with heap := (s.heap.push { cls := .type "tuple_iterator", data := .fields #[.ref l, .int 0 0] }).push { cls := .type "enumerate", data := .fields #[.none, .bool false, .ref s.heap.objs.size, rawInt 0, .none, .none] } }) :=
  .of_wp fun prog w A R s h => by
    obtain ⟨hp, g, d, tk, os⟩ := s; obtain ⟨hl, h⟩ := h
    have hsub := sub_enumerate
    have hL : Heap.IsTuple (Shared.heap ⟨hp, g, d, tk, os⟩) l items := ⟨_, hl, rfl, n, rfl⟩
    wp_walk using AutoSeq1.wpAny_loadPart' hl
    refine wpAny_stack_any fun st => wpAny_pure ?_
    split
    · rename_i c _ _ _ _ _
      cases (c == Value.type "enumerate")
      · wp_walk using AutoSeq1.wpAny_loadPart' hl, wpAny_pyIter_tuple hL
        exact ⟨_, rfl, h⟩
      · wp_walk using AutoSeq1.wpAny_loadPart' hl, wpAny_pyIter_tuple hL
        exact ⟨_, rfl, h⟩
    · wp_walk using AutoSeq1.wpAny_loadPart' hl, wpAny_pyIter_tuple hL
      exact ⟨_, rfl, h⟩
theorem call_enumerate_tuple {prog : Program} {w : World} {A : Around} {E : Value → Shared → Prop} {s : Shared} {l : Addr} {items : Array Value} {Q : Value → Shared → Prop} (hL : IsTup s.heap l items)
    (h : ∀ h', IsEnum h' (s.heap.objs.size + 1) s.heap.objs.size 0 .none → h'.IsTupleIter s.heap.objs.size l 0 → h'.objs.size = s.heap.objs.size + 2 →
      (∀ b o, s.heap.get? b = some o → h'.get? b = some o) → Q (.ref (s.heap.objs.size + 1)) { s with heap := h' }) :
    wpAny (model prog w) A (call (.type "enumerate") [.ref l]) Q E s := by
  obtain ⟨⟨c, dct, dt, sl⟩, hl, hc, n, hd⟩ := hL
  replace hc : c = .type "tuple" := hc
  replace hd : dt = .seq items n := hd
  subst hc hd
  refine callType_new F.called_enumerate (by decide) (F.typeCall_enumerate_1 _) (F.newCall_enumerate_1 _) (fun obj => F.args_object_init_2 obj _) F.entry_enumerate_new
    (meets_enumerate_newT l items n dct sl) ⟨hl, ?_⟩
  have hz : (s.heap.push { cls := .type "tuple_iterator", data := .fields #[.ref l, .int 0 0] }).objs.size = s.heap.objs.size + 1 := Heap.size_push ..
  show _ ∧ _
  rw [hz]
  have he : IsEnum ((s.heap.push { cls := .type "tuple_iterator", data := .fields #[.ref l, .int 0 0] }).push
      { cls := .type "enumerate", data := .fields #[.none, .bool false, .ref s.heap.objs.size, rawInt 0, .none, .none] }) (s.heap.objs.size + 1) s.heap.objs.size 0 .none := by
    have := Heap.get?_push_size (s.heap.push { cls := .type "tuple_iterator", data := .fields #[.ref l, .int 0 0] })
      (o := { cls := .type "enumerate", data := .fields #[.none, .bool false, .ref s.heap.objs.size, rawInt 0, .none, .none] }) rfl
    rw [hz] at this; exact this
  refine ⟨⟨_, he, rfl⟩, h _ he ⟨_, Heap.get?_push_of_some _ (Heap.get?_push_size _ rfl), rfl, rfl⟩ (by rw [Heap.size_push, hz]) fun b o x => Heap.get?_push_of_some _ (Heap.get?_push_of_some _ x)⟩
section
variable {X : Cx} {Ex : XK} {G : GT} {N : List Str} {sc : Scope} {e1 e2 e3 : PySem.Expr} {es : List PySem.Expr} {pos p p2 apos : Pos} {ta tb tc : Slots → Store → R W} {tes : Slots → Store → R (List W)}
def iEnumA (K : PySem.W.Frag) (ta : TA) : TI := fun σ H R => ta σ H fun vs H1 => ∃ a xs, vs = [.ref a] ∧ ((SqL K H1 a xs ∧ R (Ite K a) H1) ∨ (SqT K H1 a xs ∧ R (IteT K a) H1))
theorem pi_enumA {X : Cx} {e : PySem.Expr} {ta : TA} {p pos tpos : Pos} {elts : List PySem.Expr} {kk : Nat} (hg : Gl X "enumerate") (hm : X.mg "enumerate" = none) (ha : PA X [e] ta) (hs : starEach [e] X.env = [(false, eval e X.env)] := by rfl) :
    PI X (.Tuple elts kk tpos) (.Call (.Name "enumerate" p) [e] [] pos) (iEnumA X.K ta) := by
  refine ⟨fun pins s σ H R I h => ?_⟩
  refine Call_ (ld_blt I hg hm boot_enumerate (PyProof.Rows.callWith_type1 (thn (ha.run pos pins s σ H _ I h) fun us s1 ⟨vs, H1, I1, r1, q1⟩ => ?_) hs rfl))
  obtain ⟨a, xs, ex, hq⟩ := q1
  subst ex
  cases r1 with
  | cons r rr =>
    cases rr
    cases r
    rcases hq with ⟨hq, q⟩ | ⟨hq, q⟩
    · obtain ⟨its, rv, p', hz⟩ := I1.list hq
      refine call_enumerate_list p'.isList fun h' he hit hsz hk => wpAny_pyIter_enum he ?_
      have I2 : Inv X pins σ H1 { s1 with heap := h' } := I1.kept (t' := s1.toks) hk
      refine ⟨s1.heap.objs.size + 1, [s1.heap.objs.size + 1, s1.heap.objs.size], _, _, H1, rfl, I2, turn_enum a (s1.heap.objs.size + 1) s1.heap.objs.size, ⟨⟨.none, he⟩, hit, Nat.succ_ne_self _⟩, fun b hb => ?_, q⟩
      have e' : b = s1.heap.objs.size + 1 ∨ b = s1.heap.objs.size := by simpa using hb
      have hle : s1.heap.objs.size ≤ b := by
        rcases e' with z | z
        · rw [z]; exact Nat.le_add_right _ _
        · rw [z]; exact Nat.le_refl _
      exact I1.fpOk hle (I1.hok.fresh hle)
    · obtain ⟨its, rv, p', hz⟩ := I1.tuple hq
      have hla : a < s1.heap.objs.size := by obtain ⟨o, ho, _⟩ := id p'; exact Heap.lt_size ho
      refine call_enumerate_tuple p' fun h' he hit hsz hk => wpAny_pyIter_enum he ?_
      have I2 : Inv X pins σ H1 { s1 with heap := h' } := I1.kept (t' := s1.toks) hk
      refine ⟨s1.heap.objs.size + 1, [s1.heap.objs.size + 1, s1.heap.objs.size], _, _, H1, rfl, I2, turn_enumT a (s1.heap.objs.size + 1) s1.heap.objs.size, ⟨⟨.none, he⟩, hit, Nat.succ_ne_self _, Nat.ne_of_gt (Nat.lt_succ_of_lt hla)⟩, fun b hb => ?_, q⟩
      have e' : b = s1.heap.objs.size + 1 ∨ b = s1.heap.objs.size := by simpa using hb
      have hle : s1.heap.objs.size ≤ b := by
        rcases e' with z | z
        · rw [z]; exact Nat.le_add_right _ _
        · rw [z]; exact Nat.le_refl _
      exact I1.fpOk hle (I1.hok.fresh hle)
theorem enD_get : ∀ {xs : List Zz.D} {k i : Nat} {d : Zz.D}, (enD k xs)[i]? = some d → ∃ x, xs[i]? = some x ∧ d = .tup [.int ((k + i : Nat) : Int), x]
  | [], k, i, d, e => by simp [enD] at e
  | x :: xs, k, 0, d, e => by
    simp [enD] at e
    exact ⟨x, rfl, by rw [← e]; rfl⟩
  | x :: xs, k, i + 1, d, e => by
    rw [enD, List.getElem?_cons_succ] at e
    obtain ⟨y, h1, h2⟩ := enD_get e
    exact ⟨y, by simpa using h1, by rw [h2, show k + 1 + i = k + (i + 1) by omega]⟩
theorem enD_len : ∀ (xs : List Zz.D) (k : Nat), (enD k xs).length = xs.length
  | [], _ => rfl
  | x :: xs, k => by rw [enD, List.length_cons, enD_len xs, List.length_cons]
theorem jok_enumT {K : PySem.W.Frag} {Hf : Hp} {a : Addr} {xs : List Zz.D} {vs : List V} (h : Hf a = some (.tup vs)) (r : RepDs K Hf xs vs) : JOk K Hf (IteT K a) (enD 0 xs) := fun i H2 s => by
  have q : SqT K H2 a vs := SqT.of (s _ _ h)
  refine ⟨fun hl => ⟨vs, q, by rw [← r.length, ← enD_len xs 0]; exact hl⟩, fun d e => ?_⟩
  obtain ⟨x, e1, rfl⟩ := enD_get e
  obtain ⟨v, k1, k2⟩ := r.get e1
  refine ⟨⟨vs, v, q, k1⟩, fun z H3 ⟨T, v', y1, y2, y3, y4⟩ => .inr ⟨T, _, y2, y1, y3, fun Hf' s' e' => ?_⟩⟩
  have z1 := y4 vs q
  rw [k1] at z1; cases z1
  rw [y1]
  simp only [RepD]
  refine ⟨T, _, rfl, e', ?_⟩
  simp only [RepDs]
  exact ⟨_, _, rfl, by simp only [RepD]; rw [Nat.zero_add], _, _, rfl, RepD.mono s' _ _ k2, rfl⟩
theorem jok_enumL {K : PySem.W.Frag} {Hf : Hp} {a : Addr} {xs : List Zz.D} {vs : List V} (h : Hf a = some (.lst vs)) (r : RepDs K Hf xs vs) : JOk K Hf (Ite K a) (enD 0 xs) := fun i H2 s => by
  have q : SqL K H2 a vs := SqL.of (s _ _ h)
  refine ⟨fun hl => ⟨vs, q, by rw [← r.length, ← enD_len xs 0]; exact hl⟩, fun d e => ?_⟩
  obtain ⟨x, e1, rfl⟩ := enD_get e
  obtain ⟨v, k1, k2⟩ := r.get e1
  refine ⟨⟨vs, v, q, k1⟩, fun z H3 ⟨T, v', y1, y2, y3, y4⟩ => .inr ⟨T, _, y2, y1, y3, fun Hf' s' e' => ?_⟩⟩
  have z1 := y4 vs q
  rw [k1] at z1; cases z1
  rw [y1]
  simp only [RepD]
  refine ⟨T, _, rfl, e', ?_⟩
  simp only [RepDs]
  exact ⟨_, _, rfl, by simp only [RepD]; rw [Nat.zero_add], _, _, rfl, RepD.mono s' _ _ k2, rfl⟩
theorem it_enum {elts : List PySem.Expr} {kk : Nat} {tpos : Pos} (g : Good G N sc Ex X) (h1 : glB sc "enumerate" = true) (hp : plainE e1 = true) (ha : PE X e1 (rE X Ex ta)) :
    PI X (.Tuple elts kk tpos) (.Call (.Name "enumerate" p) [e1] [] pos) (rI X Ex fun σ S => (ta σ S).bind fun x S1 => match x with | .v (.tup xs) => .ok (enD 0 xs) S1 | .v (.lst xs) => .ok (enD 0 xs) S1 | _ => .bad) := by
  refine PI.weak (pi_enumA (gl_of g.hsc h1) (g.blt _ (by decide +kernel)) (s_cons hp ha s_nil) (star_of hp)) fun τ H Q ⟨B, Hf, ρ, σ, S, h, q⟩ => ⟨B, Hf, ρ, σ, S, h, ?_⟩
  have q' : Post (fun Hf _ ds J => JOk X.K Hf J ds) (gd X B Ex) Hf ρ σ τ Q (((ta σ S).bind fun x S1 => (R.ok [] S1).bind fun xs S2 => R.ok (x :: xs) S2).bind fun ws S1 => match ws with | [.v (.tup xs)] => .ok (enD 0 xs) S1 | [.v (.lst xs)] => .ok (enD 0 xs) S1 | _ => .bad) := by
    rw [R.bind_assoc]
    refine cast (congrArg _ (congrArg _ (funext fun x => funext fun S1 => ?_))) q
    rw [R.bind_ok, R.bind_ok]
    cases x with
    | ref i => rfl
    | v d => cases d <;> rfl
  refine (Post.bind (P := RepWs X.K) q').imp fun vs H1 ⟨Hf1, ρ1, S1, ws, e1, h1, r1, q1⟩ => ?_
  split at q1
  · rename_i xs
    obtain ⟨v, rfl, r2⟩ := reps1 r1
    obtain ⟨a, us, rfl, k1, k2⟩ := repTup r2
    exact ⟨a, us, rfl, .inr ⟨SqT.of (h1.sub _ _ k1), q1 _ _ _ _ (Ext.refl _ _) h1 (jok_enumT k1 k2)⟩⟩
  · rename_i xs
    obtain ⟨v, rfl, r2⟩ := reps1 r1
    obtain ⟨a, us, rfl, k1, k2⟩ := repLst r2
    exact ⟨a, us, rfl, .inl ⟨SqL.of (h1.sub _ _ k1), q1 _ _ _ _ (Ext.refl _ _) h1 (jok_enumL k1 k2)⟩⟩
  · exact q1.elim
end
end Zz

set_option Elab.async false
set_option linter.all false
set_option maxRecDepth 100000
set_option maxHeartbeats 4000000
set_option autoImplicit false
namespace Zz
open PySem PySem.Spec PyProof.Rows L2

/-! ### a compact tree is that of a tree -/
def conB (G : GT) (k : Nat) (x : Str) : Bool := match G[k]? with | some (y, .con _) => y == x | _ => false
def fnB (G : GT) (k : Nat) (x : Str) : Bool := match G[k]? with | some (y, .fn _ _) => y == x | _ => false
theorem con_of {G : GT} {k : Nat} {x : Str} (h : conB G k x = true) : ∃ d, G[k]? = some (x, .con d) := by
  unfold conB at h
  split at h
  · rename_i y d e; rw [e, eq_of_beq h]; exact ⟨d, rfl⟩
  · cases h
theorem fn_of' {G : GT} {k : Nat} {x : Str} (h : fnB G k x = true) : ∃ n f, G[k]? = some (x, .fn n f) := by
  unfold fnB at h
  split at h
  · rename_i y n f e; rw [e, eq_of_beq h]; exact ⟨n, f, rfl⟩
  · cases h
def clsB (G : GT) (k j : Nat) (f : Str) : Bool := match G[k]? with | some (_, .cls fs) => (match fs[j]? with | some g => g == f | none => false) | _ => false
def mthB (G : GT) (k : Nat) (m : Str) : Bool := match G[k]? with | some (_, .mth _ m' _ _) => m' == m | _ => false
def mkB (G : GT) (k : Nat) (x : Str) : Bool := match G[k]? with | some (y, .mk _ _ _) => y == x | _ => false
theorem cls_of {G : GT} {k j : Nat} {f : Str} (h : clsB G k j f = true) : ∃ C fs, G[k]? = some (C, .cls fs) ∧ fs[j]? = some f := by
  unfold clsB at h
  split at h
  · rename_i C fs e
    split at h
    · rename_i g hg; exact ⟨C, fs, e, by rw [hg, eq_of_beq h]⟩
    · cases h
  · cases h
theorem mth_of {G : GT} {k : Nat} {m : Str} (h : mthB G k m = true) : ∃ x C n f, G[k]? = some (x, .mth C m n f) := by
  unfold mthB at h
  split at h
  · rename_i x C m' n f e; rw [← eq_of_beq h]; exact ⟨x, C, n, f, e⟩
  · cases h
theorem mk_of {G : GT} {k : Nat} {x : Str} (h : mkB G k x = true) : ∃ fs n f, G[k]? = some (x, .mk fs n f) := by
  unfold mkB at h
  split at h
  · rename_i y fs n f e; rw [← eq_of_beq h]; exact ⟨fs, n, f, e⟩
  · cases h
def tabB (G : GT) (k : Nat) (x : Str) : Bool := match G[k]? with | some (y, .tab _) => y == x | _ => false
theorem tab_of {G : GT} {k : Nat} {x : Str} (h : tabB G k x = true) : ∃ ps, G[k]? = some (x, .tab ps) := by
  unfold tabB at h
  split at h
  · rename_i y ps e; rw [e, eq_of_beq h]; exact ⟨ps, rfl⟩
  · cases h
def ownN (N : List Str) (own : List Nat) : List (Str × Nat) := own.map fun i => (N.getD i ⟨#[]⟩, i)
theorem ownN_snd (N : List Str) : ∀ own : List Nat, (ownN N own).map (·.2) = own
  | [] => rfl
  | i :: own => by unfold ownN; rw [List.map_cons, List.map_cons]; exact congrArg _ (ownN_snd N own)
mutual
def tgIn (own : List Nat) : T → Bool
  | .nm i => own.contains i
  | .tup ts => tgsIn own ts
  | .sub _ _ => false
def tgsIn (own : List Nat) : Ts → Bool
  | .nil => true
  | .cons t ts => tgIn own t && tgsIn own ts
end
mutual
/-- may stand as a test -/
def tstB : E → Bool
  | .ife _ _ _ => false
  | .frz _ => false
  | .nop => false
  | .neg _ => false
  | .bin _ _ _ _ => true
  | .band es => tstBs es
  | .bor es => tstBs es
  | .nt a => tstB a
  | _ => true
def tstBs : Es → Bool
  | .nil => true
  | .cons e es => tstB e && tstBs es
end
mutual
def cE (G : GT) (N : List Str) : E → Scope → PySem.Expr → Bool
  | .var i, sc, e => match e with | .Name x _ => visB sc x && isN N i x && dunB x | _ => false
  | .cst c, _, e => match e with | .Constant c' _ _ => decide (c = c') && (cstD c).isSome | _ => false
  | .glb k, sc, e => match e with | .Name x _ => glB sc x && conB G k x && dunB x | _ => false
  | .bin op _ a b, sc, e => match e with | .BinOp l op' r _ => decide (op = op') && cE G N a sc l && cE G N b sc r | _ => false
  | .neg a, sc, e => match e with | .UnaryOp .USub l _ => cE G N a sc l | _ => false
  | .nt a, sc, e => match e with | .UnaryOp .Not l _ => cE G N a sc l | _ => false
  | .cmp op a b, sc, e => match e with | .Compare l [op'] [r] _ => decide (op = op') && plainIt r && cE G N a sc l && cE G N b sc r | _ => false
  | .chain op op2 a b c, sc, e => match e with | .Compare l [op', op2'] [r, t] _ => decide (op = op') && decide (op2 = op2') && plainIt t && cE G N a sc l && cE G N b sc r && cE G N c sc t | _ => false
  | .band es, sc, e => match e with | .BoolOp .And xs _ => !xs.isEmpty && cEs G N es sc xs | _ => false
  | .bor es, sc, e => match e with | .BoolOp .Or xs _ => !xs.isEmpty && cEs G N es sc xs | _ => false
  | .ife c a b, sc, e => match e with | .IfExp t l r _ => tstB c && cE G N c sc t && cE G N a sc l && cE G N b sc r | _ => false
  | .tup es, sc, e => match e with | .Tuple xs _ _ => plainEs xs && cEs G N es sc xs | _ => false
  | .lst _ es, sc, e => match e with | .List xs _ => plainEs xs && cEs G N es sc xs | _ => false
  | .ix a i, sc, e => match e with | .Subscript l r _ => plainIx r && cE G N a sc l && cE G N i sc r | _ => false
  | .sl _ a lo hi, sc, e => match e with | .Subscript l (.Slice o1 o2 none _) _ => cE G N a sc l && cP G N lo sc o1 && cP G N hi sc o2 | _ => false
  | .rev _ a, sc, e => match e with | .Subscript l (.Slice none none (some (.UnaryOp .USub (.Constant (.int i) _ _) _)) _) _ => decide (i = 1) && cE G N a sc l | _ => false
  | .call k _ es, sc, e => match e with | .Call (.Name x _) xs [] _ => glB sc x && fnB G k x && dunB x && plainEs xs && cEs G N es sc xs | _ => false
  | .blt b _ es, sc, e => match e with | .Call (.Name x _) (y :: ys) [] _ => decide (x = bltName b) && glB sc x && plainEs (y :: ys) && cEs G N es sc (y :: ys) | _ => false
  | .isi t a, sc, e => match e with | .Call (.Name x _) [l, .Name y _] [] _ => decide (x = "isinstance") && decide (y = tyStr t) && glB sc x && glB sc y && plainE l && cE G N a sc l | _ => false
  | .lrng _ (.rng1 a), sc, e => match e with | .Call (.Name x _) [.Call (.Name y _) [l] [] _] [] _ => decide (x = "list") && decide (y = "range") && glB sc x && glB sc y && plainE l && cE G N a sc l | _ => false
  | .lrng _ (.rng2 a b), sc, e => match e with | .Call (.Name x _) [.Call (.Name y _) [l, r] [] _] [] _ => decide (x = "list") && decide (y = "range") && glB sc x && glB sc y && plainE l && plainE r && cE G N a sc l && cE G N b sc r | _ => false
  | .lrng _ _, _, _ => false
  | .comp _ own t it cond elt, sc, e => match e with
    | .ListComp el [⟨tg, iter, ifs, ia⟩] scope _ => decide (ia = 0) && plainIt iter && blkC N sc scope (ownN N own) && tgIn own t && cI G N it sc tg iter && cT G N true t (relS scope sc) tg && cC G N cond (relS scope sc) ifs && cE G N elt (relS scope sc) el
    | _ => false
  | .mth m _ o es, sc, e => match e with
    | .Call (.Attribute l nm ap) xs [] cp => decide (nm = mthName m) && plainBase l && (ap.endLine == cp.line) && plainEs xs && (match m, es with | .pop, .nil => xs.isEmpty | .pop, _ => false | _, _ => xs.length == 1) && cE G N o sc l && cEs G N es sc xs
    | _ => false
  | .frz a, sc, e => cE G N a sc e
  | .nop, _, _ => false
  | .fld k j a, sc, e => match e with | .Attribute l f _ => plainBase l && clsB G k j f && cE G N a sc l | _ => false
  | .meth k o es, sc, e => match e with | .Call (.Attribute l m ap) xs [] cp => plainBase l && (ap.endLine == cp.line) && mthB G k m && plainEs xs && decide (xs.length < 30) && cE G N o sc l && cEs G N es sc xs | _ => false
  | .make k es, sc, e => match e with | .Call (.Name x _) xs [] _ => glB sc x && mkB G k x && dunB x && plainEs xs && !xs.isEmpty && cEs G N es sc xs | _ => false
  | .dnew _, _, e => match e with | .Dict [] [] _ => true | _ => false
  | .tin k neg a, sc, e => match e with | .Compare l [op] [.Name x _] _ => decide (op = if neg then .NotIn else .In) && glB sc x && tabB G k x && dunB x && cE G N a sc l | _ => false
  | .tix k a, sc, e => match e with | .Subscript (.Name x _) r _ => plainIx r && glB sc x && tabB G k x && dunB x && cE G N a sc r | _ => false
  | .popk o i, sc, e => match e with | .Call (.Attribute l nm ap) [x] [] cp => decide (nm = "pop") && plainBase l && (ap.endLine == cp.line) && plainE x && cE G N o sc l && cE G N i sc x | _ => false
  | .callV k es, sc, e => match e with | .Call (.Name x _) xs [] _ => glB sc x && fnB G k x && dunB x && plainEs xs && !xs.isEmpty && cEs G N es sc xs | _ => false
def cEs (G : GT) (N : List Str) : Es → Scope → List PySem.Expr → Bool
  | .nil, _, xs => xs.isEmpty
  | .cons e es, sc, xs => match xs with | x :: xs => cE G N e sc x && cEs G N es sc xs | [] => false
def cP (G : GT) (N : List Str) : P → Scope → Option PySem.Expr → Bool
  | .no, _, o => o.isNone
  | .ex e, sc, o => match o with | some x => cE G N e sc x | none => false
def cC (G : GT) (N : List Str) : Es → Scope → List PySem.Expr → Bool
  | .nil, _, xs => xs.isEmpty
  | .cons e .nil, sc, xs => match xs with | [x] => tstB e && cE G N e sc x | _ => false
  | .cons _ _, _, _ => false
/-- cm: a comprehension's target -/
def cT (G : GT) (N : List Str) (cm : Bool) : T → Scope → PySem.Expr → Bool
  | .nm i, sc, e => match e with | .Name x _ => isN N i x && (if cm then lclB sc x else locB sc x) | _ => false
  | .tup ts, sc, e => match e with | .Tuple xs _ _ => plainEs xs && decide (xs.length = tsLen ts) && cTs G N cm ts sc xs | _ => false
  | .sub o i, sc, e => match e with | .Subscript l r _ => plainIx r && cE G N o sc l && cE G N i sc r | _ => false
def cTs (G : GT) (N : List Str) (cm : Bool) : Ts → Scope → List PySem.Expr → Bool
  | .nil, _, xs => xs.isEmpty
  | .cons t ts, sc, xs => match xs with | x :: xs => plainE x && cT G N cm t sc x && cTs G N cm ts sc xs | [] => false
def cI (G : GT) (N : List Str) : I → Scope → PySem.Expr → PySem.Expr → Bool
  | .seq a, sc, _, e => cE G N a sc e
  | .rng1 a, sc, _, e => match e with | .Call (.Name x _) [l] [] _ => decide (x = "range") && glB sc x && plainE l && cE G N a sc l | _ => false
  | .rng2 a b, sc, _, e => match e with | .Call (.Name x _) [l, r] [] _ => decide (x = "range") && glB sc x && plainE l && plainE r && cE G N a sc l && cE G N b sc r | _ => false
  | .rng3 a b c, sc, _, e => match e with | .Call (.Name x _) [l, r, t] [] _ => decide (x = "range") && glB sc x && plainE l && plainE r && plainE t && cE G N a sc l && cE G N b sc r && cE G N c sc t | _ => false
  | .zip a b, sc, tg, e => match tg, e with | .Tuple _ _ _, .Call (.Name x _) [l, r] [] _ => decide (x = "zip") && glB sc x && plainE l && plainE r && cE G N a sc l && cE G N b sc r | _, _ => false
  | .enum a, sc, tg, e => match tg, e with | .Tuple _ _ _, .Call (.Name x _) [l] [] _ => decide (x = "enumerate") && glB sc x && plainE l && cE G N a sc l | _, _ => false
end
theorem pt_of_pe {X : Cx} {Ex : XK} {e : PySem.Expr} {t : Slots → Store → R W} (h : PE X e (rE X Ex t)) (hp : plainTest e = true) : PE X e (rE X Ex t) ∧ (True → PT X e (rT X Ex fun σ S => (t σ S).bind truR)) := ⟨h, fun _ => s_test h hp⟩
theorem pe_to {X : Cx} {Ex : XK} {e : PySem.Expr} {t t' : Slots → Store → R W} (q : PE X e (rE X Ex t)) (h : ∀ σ S, t' σ S = t σ S) : PE X e (rE X Ex t') := by
  have z : t' = t := funext fun σ => funext fun S => h σ S
  rw [z]; exact q
theorem pt_to {X : Cx} {Ex : XK} {e : PySem.Expr} {t t' : Slots → Store → R W} (q : PT X e (rT X Ex fun σ S => (t σ S).bind truR)) (h : ∀ σ S, t' σ S = t σ S) : PT X e (rT X Ex fun σ S => (t' σ S).bind truR) := by
  have z : t' = t := funext fun σ => funext fun S => h σ S
  rw [z]; exact q
theorem pw_to {X : Cx} {Ex : XK} {e : PySem.Expr} {t t' : Slots → Store → R W} (q : PW X e (rT X Ex fun σ S => (t σ S).bind truR)) (h : ∀ σ S, t' σ S = t σ S) : PW X e (rT X Ex fun σ S => (t' σ S).bind truR) := by
  have z : t' = t := funext fun σ => funext fun S => h σ S
  rw [z]; exact q
theorem pi_to {X : Cx} {Ex : XK} {tg e : PySem.Expr} {t t' : Slots → Store → R (List D)} (q : PI X tg e (rI X Ex t)) (h : ∀ σ S, t' σ S = t σ S) : PI X tg e (rI X Ex t') := by
  have z : t' = t := funext fun σ => funext fun S => h σ S
  rw [z]; exact q
theorem pg_to {X : Cx} {Ex : XK} {Iv : St → Prop} {e : PySem.Expr} {t t' : W → Slots → Store → R Slots} (q : PG X e (rG X Ex Iv t)) (h : ∀ w σ S, t' w σ S = t w σ S) : PG X e (rG X Ex Iv t') := by
  have z : t' = t := funext fun w => funext fun σ => funext fun S => h w σ S
  rw [z]; exact q
theorem pgs_to {X : Cx} {Ex : XK} {Iv : St → Prop} {e : List PySem.Expr} {t t' : List D → Slots → Store → R Slots} (q : PGs X e (rGs X Ex Iv t)) (h : ∀ w σ S, t' w σ S = t w σ S) : PGs X e (rGs X Ex Iv t') := by
  have z : t' = t := funext fun w => funext fun σ => funext fun S => h w σ S
  rw [z]; exact q
theorem po_to {X : Cx} {Ex : XK} {e : Option PySem.Expr} {t t' : Slots → Store → R (Option Int)} (q : PO X e (rO X Ex t)) (h : ∀ σ S, t' σ S = t σ S) : PO X e (rO X Ex t') := by
  have z : t' = t := funext fun σ => funext fun S => h σ S
  rw [z]; exact q
abbrev OkE (X : Cx) (Ex : XK) (G : GT) (t : E) (e : PySem.Expr) : Prop := PE X e (rE X Ex (eE G t)) ∧ (tstB t = true → PT X e (rT X Ex fun σ S => (eE G t σ S).bind truR))
theorem ok_plain {X : Cx} {Ex : XK} {G : GT} {tt : E} {e : PySem.Expr} {t : Slots → Store → R W} (q : PE X e (rE X Ex t)) (h : ∀ σ S, eE G tt σ S = t σ S) (hp : plainTest e = true) : OkE X Ex G tt e :=
  ⟨pe_to q h, fun _ => pt_to (s_test q hp) h⟩
structure OkEs (X : Cx) (Ex : XK) (G : GT) (t : Es) (xs : List PySem.Expr) : Prop where
  args : plainEs xs = true → PA X xs (rA X Ex (eEs G t))
  and_ : xs ≠ [] → ∀ pos, PE X (.BoolOp .And xs pos) (rE X Ex (eAnd G t)) ∧ (tstBs t = true → PW X (.BoolOp .And xs pos) (rT X Ex fun σ S => (eAnd G t σ S).bind truR))
  or_ : xs ≠ [] → ∀ pos, PE X (.BoolOp .Or xs pos) (rE X Ex (eOr G t)) ∧ (tstBs t = true → PW X (.BoolOp .Or xs pos) (rT X Ex fun σ S => (eOr G t σ S).bind truR))
set_option maxHeartbeats 16000000
mutual
theorem ok_E (G : GT) (N : List Str) : ∀ (t : E) (sc : Scope) (e : PySem.Expr), cE G N t sc e = true → ∀ (X : Cx) (Ex : XK), Good G N sc Ex X → OkE X Ex G t e
  | .var i, sc, e, h, X, Ex, g => by
    simp only [cE] at h
    split at h
    · simp only [Bool.and_eq_true] at h
      exact ok_plain (s_var (Ex := Ex) g h.1.1 h.1.2 h.2) (fun σ S => by first | (simp only [eE, eEs, eI]; done) | (simp only [eE, eEs, eI]; rfl) | rfl) rfl
    · cases h
  | .cst c, sc, e, h, X, Ex, g => by
    simp only [cE] at h
    split at h
    · simp only [Bool.and_eq_true, decide_eq_true_eq] at h
      obtain ⟨rfl, h2⟩ := h
      exact ok_plain (s_cst (X := X) (Ex := Ex) h2) (fun σ S => by first | (simp only [eE, eEs, eI]; done) | (simp only [eE, eEs, eI]; rfl) | rfl) rfl
    · cases h
  | .glb k, sc, e, h, X, Ex, g => by
    simp only [cE] at h
    split at h
    · simp only [Bool.and_eq_true] at h
      obtain ⟨d, hd⟩ := con_of h.1.2
      exact ok_plain (s_glb (Ex := Ex) g h.1.1 hd h.2) (fun σ S => by first | (simp only [eE, eEs, eI]; done) | (simp only [eE, eEs, eI]; rfl) | rfl) rfl
    · cases h
  | .bin op r a b, sc, e, h, X, Ex, g => by
    simp only [cE] at h
    split at h
    · simp only [Bool.and_eq_true, decide_eq_true_eq] at h
      obtain ⟨⟨rfl, h1⟩, h2⟩ := h
      exact ok_plain (s_bin (op := op) (r := r) (ok_E G N a sc _ h1 X Ex g).1 (ok_E G N b sc _ h2 X Ex g).1) (fun σ S => by first | (simp only [eE, eEs, eI]; done) | (simp only [eE, eEs, eI]; rfl) | rfl) rfl
    · cases h
  | .neg a, sc, e, h, X, Ex, g => by
    simp only [cE] at h
    split at h
    · exact ⟨pe_to (s_neg (ok_E G N a sc _ h X Ex g).1) (fun σ S => by first | (simp only [eE, eEs, eI]; done) | (simp only [eE, eEs, eI]; rfl) | rfl), fun z => by simp [tstB] at z⟩
    · cases h
  | .nt a, sc, e, h, X, Ex, g => by
    simp only [cE] at h
    split at h
    · have ih := ok_E G N a sc _ h X Ex g
      exact ⟨pe_to (s_not ih.1) (fun σ S => by first | (simp only [eE, eEs, eI]; done) | (simp only [eE, eEs, eI]; rfl) | rfl), fun z => pt_to (s_notT (ih.2 (by simpa only [tstB] using z))) (fun σ S => by first | (simp only [eE, eEs, eI]; done) | (simp only [eE, eEs, eI]; rfl) | rfl)⟩
    · cases h
  | .cmp op a b, sc, e, h, X, Ex, g => by
    simp only [cE] at h
    split at h
    · simp only [Bool.and_eq_true, decide_eq_true_eq] at h
      obtain ⟨⟨⟨rfl, h0⟩, h1⟩, h2⟩ := h
      have i1 := (ok_E G N a sc _ h1 X Ex g).1
      have i2 := (ok_E G N b sc _ h2 X Ex g).1
      exact ⟨pe_to (s_cmp (op := op) g (behind_of h0) i1 i2) (fun σ S => by first | (simp only [eE, eEs, eI]; done) | (simp only [eE, eEs, eI]; rfl) | rfl), fun _ => pt_to (s_cmpT (op := op) g (behind_of h0) i1 i2) (fun σ S => by first | (simp only [eE, eEs, eI]; done) | (simp only [eE, eEs, eI]; rfl) | rfl)⟩
    · cases h
  | .chain op op2 a b c, sc, e, h, X, Ex, g => by
    simp only [cE] at h
    split at h
    · simp only [Bool.and_eq_true, decide_eq_true_eq] at h
      obtain ⟨⟨⟨⟨⟨rfl, rfl⟩, h0⟩, h1⟩, h2⟩, h3⟩ := h
      have i1 := (ok_E G N a sc _ h1 X Ex g).1
      have i2 := (ok_E G N b sc _ h2 X Ex g).1
      have i3 := (ok_E G N c sc _ h3 X Ex g).1
      have lm : ∀ y z, lastMarks [op, op2] [y, z] = behindInMarks op2 z := fun _ _ => rfl
      have q1 := fun pos => s_chain (op := op) (op' := op2) (pos := pos) g (by rw [lm]; exact behind_of h0) i1 i2 i3 fun r r' o1 o2 => pe_chain o1 o2 i1 i2 i3 (by rw [lm]; exact behind_of h0)
      have q2 := fun pos => s_chainT (op := op) (op' := op2) (pos := pos) g i1 i2 i3 fun r r' o1 o2 => pt_chain o1 o2 i1 i2 i3 (by rw [lm]; exact behind_of h0)
      exact ⟨pe_to (q1 _) (fun σ S => by simp only [eE, chW] <;> rfl), fun _ => pt_to (q2 _) (fun σ S => by simp only [eE, chW] <;> rfl)⟩
    · cases h
  | .band es, sc, e, h, X, Ex, g => by
    simp only [cE] at h
    split at h
    · simp only [Bool.and_eq_true, Bool.not_eq_true'] at h
      have ih := ok_Es G N es sc _ h.2 X Ex g
      have q := ih.and_ (fun z => by rw [z] at h; simp at h)
      exact ⟨pe_to (q _).1 (fun σ S => by first | (simp only [eE, eEs, eI]; done) | (simp only [eE, eEs, eI]; rfl) | rfl), fun z => pt_to ((q _).2 (by simpa only [tstB] using z)).pt (fun σ S => by first | (simp only [eE, eEs, eI]; done) | (simp only [eE, eEs, eI]; rfl) | rfl)⟩
    · cases h
  | .bor es, sc, e, h, X, Ex, g => by
    simp only [cE] at h
    split at h
    · simp only [Bool.and_eq_true, Bool.not_eq_true'] at h
      have ih := ok_Es G N es sc _ h.2 X Ex g
      have q := ih.or_ (fun z => by rw [z] at h; simp at h)
      exact ⟨pe_to (q _).1 (fun σ S => by first | (simp only [eE, eEs, eI]; done) | (simp only [eE, eEs, eI]; rfl) | rfl), fun z => pt_to ((q _).2 (by simpa only [tstB] using z)).pt (fun σ S => by first | (simp only [eE, eEs, eI]; done) | (simp only [eE, eEs, eI]; rfl) | rfl)⟩
    · cases h
  | .ife c a b, sc, e, h, X, Ex, g => by
    simp only [cE] at h
    split at h
    · simp only [Bool.and_eq_true] at h
      obtain ⟨⟨⟨h0, h1⟩, h2⟩, h3⟩ := h
      exact ⟨pe_to (s_ife ((ok_E G N c sc _ h1 X Ex g).2 h0) (ok_E G N a sc _ h2 X Ex g).1 (ok_E G N b sc _ h3 X Ex g).1) (fun σ S => by first | (simp only [eE, eEs, eI]; done) | (simp only [eE, eEs, eI]; rfl) | rfl), fun z => by simp [tstB] at z⟩
    · cases h
  | .tup es, sc, e, h, X, Ex, g => by
    simp only [cE] at h
    split at h
    · simp only [Bool.and_eq_true] at h
      exact ok_plain (s_tup ((ok_Es G N es sc _ h.2 X Ex g).args h.1)) (fun σ S => by first | (simp only [eE, eEs, eI]; done) | (simp only [eE, eEs, eI]; rfl) | rfl) rfl
    · cases h
  | .lst r es, sc, e, h, X, Ex, g => by
    simp only [cE] at h
    split at h
    · simp only [Bool.and_eq_true] at h
      exact ok_plain (s_lst (r := r) ((ok_Es G N es sc _ h.2 X Ex g).args h.1)) (fun σ S => by first | (simp only [eE, eEs, eI]; done) | (simp only [eE, eEs, eI]; rfl) | rfl) rfl
    · cases h
  | .ix a i, sc, e, h, X, Ex, g => by
    simp only [cE] at h
    split at h
    · simp only [Bool.and_eq_true] at h
      exact ok_plain (s_ix g h.1.1 (ok_E G N a sc _ h.1.2 X Ex g).1 (ok_E G N i sc _ h.2 X Ex g).1) (fun σ S => by first | (simp only [eE, eEs, eI]; done) | (simp only [eE, eEs, eI]; rfl) | rfl) rfl
    · cases h
  | .sl r a lo hi, sc, e, h, X, Ex, g => by
    simp only [cE] at h
    split at h
    · simp only [Bool.and_eq_true] at h
      exact ok_plain (s_sl (r := r) (ok_E G N a sc _ h.1.1 X Ex g).1 (ok_P G N lo sc _ h.1.2 X Ex g) (ok_P G N hi sc _ h.2 X Ex g)) (fun σ S => by first | (simp only [eE, eEs, eI]; done) | (simp only [eE, eEs, eI]; rfl) | rfl) rfl
    · cases h
  | .rev r a, sc, e, h, X, Ex, g => by
    simp only [cE] at h
    split at h
    · simp only [Bool.and_eq_true, decide_eq_true_eq] at h
      obtain ⟨rfl, h⟩ := h
      exact ok_plain (s_rev (r := r) (ok_E G N a sc _ h X Ex g).1) (fun σ S => by first | (simp only [eE, eEs, eI]; done) | (simp only [eE, eEs, eI]; rfl) | rfl) rfl
    · cases h
  | .call k w es, sc, e, h, X, Ex, g => by
    simp only [cE] at h
    split at h
    · rename_i x p xs pos
      simp only [Bool.and_eq_true] at h
      obtain ⟨⟨⟨⟨h1, h2⟩, h3⟩, h4⟩, h5⟩ := h
      obtain ⟨n, f, hf⟩ := fn_of' h2
      cases xs with
      | nil =>
        have he : es = .nil := by
          cases es with
          | nil => rfl
          | cons a b => simp [cEs] at h5
        subst he
        exact ok_plain (s_call0 (Ex := Ex) (w := w) (p := p) (pos := pos) g h1 hf h3) (fun σ S => by first | (simp only [eE, eEs, eI]; done) | (simp only [eE, eEs, eI]; rfl) | rfl) rfl
      | cons y ys =>
        exact ok_plain (s_call (Ex := Ex) (w := w) (p := p) (pos := pos) g h1 hf h3 h4 (by simp) ((ok_Es G N es sc _ h5 X Ex g).args h4)) (fun σ S => by first | (simp only [eE, eEs, eI]; done) | (simp only [eE, eEs, eI]; rfl) | rfl) rfl
    · cases h
  | .blt b r es, sc, e, h, X, Ex, g => by
    simp only [cE] at h
    split at h
    · simp only [Bool.and_eq_true, decide_eq_true_eq] at h
      obtain ⟨⟨⟨h1, h2⟩, h3⟩, h4⟩ := h
      exact ok_plain (s_blt (b := b) (r := r) g h1 h2 h3 ((ok_Es G N es sc _ h4 X Ex g).args h3)) (fun σ S => by first | (simp only [eE, eEs, eI]; done) | (simp only [eE, eEs, eI]; rfl) | rfl) rfl
    · cases h
  | .isi t a, sc, e, h, X, Ex, g => by
    simp only [cE] at h
    split at h
    · simp only [Bool.and_eq_true, decide_eq_true_eq] at h
      obtain ⟨⟨⟨⟨⟨h1, h2⟩, h3⟩, h4⟩, h5⟩, h6⟩ := h
      exact ok_plain (s_isi (t := t) g h1 h2 h3 h4 h5 (ok_E G N a sc _ h6 X Ex g).1) (fun σ S => by first | (simp only [eE, eEs, eI]; done) | (simp only [eE, eEs, eI]; rfl) | rfl) rfl
    · cases h
  | .lrng r (.rng1 a), sc, e, h, X, Ex, g => by
    simp only [cE] at h
    split at h
    · simp only [Bool.and_eq_true, decide_eq_true_eq] at h
      obtain ⟨⟨⟨⟨⟨rfl, rfl⟩, h3⟩, h4⟩, h5⟩, h6⟩ := h
      exact ok_plain (s_lrng1 (r := r) g h3 h4 h5 (ok_E G N a sc _ h6 X Ex g).1) (fun σ S => by first | (simp only [eE, eEs, eI]; done) | (simp only [eE, eEs, eI]; rfl) | rfl) rfl
    · cases h
  | .lrng r (.rng2 a b), sc, e, h, X, Ex, g => by
    simp only [cE] at h
    split at h
    · simp only [Bool.and_eq_true, decide_eq_true_eq] at h
      obtain ⟨⟨⟨⟨⟨⟨⟨rfl, rfl⟩, h3⟩, h4⟩, h5⟩, h6⟩, h7⟩, h8⟩ := h
      exact ok_plain (s_lrng2 (r := r) g h3 h4 h5 h6 (ok_E G N a sc _ h7 X Ex g).1 (ok_E G N b sc _ h8 X Ex g).1) (fun σ S => by first | (simp only [eE, eEs, eI]; done) | (simp only [eE, eEs, eI]; rfl) | rfl) rfl
    · cases h
  | .lrng _ (.seq _), _, _, h, _, _, _ => by simp [cE] at h
  | .lrng _ (.rng3 _ _ _), _, _, h, _, _, _ => by simp [cE] at h
  | .lrng _ (.zip _ _), _, _, h, _, _, _ => by simp [cE] at h
  | .lrng _ (.enum _), _, _, h, _, _, _ => by simp [cE] at h
  | .comp r own t it cond elt, sc, e, h, X, Ex, g => by
    simp only [cE] at h
    split at h
    · rename_i el tg iter ifs ia scope pos
      simp only [Bool.and_eq_true, decide_eq_true_eq] at h
      obtain ⟨⟨⟨⟨⟨⟨⟨rfl, h1⟩, h2⟩, h3⟩, h4⟩, h5⟩, h6⟩, h7⟩ := h
      have hi := ok_I G N it sc tg iter h4 X Ex g
      have blk : BlkOk X.N X.env.scope scope (ownN N own) := by rw [g.hN, g.hsc]; exact blkOk_by h2
      have q : PE X (.ListComp el [⟨tg, iter, ifs, 0⟩] scope pos) (tLc (rI X Ex (eI G it)) (rGo X own (aT G t)) (rT X F0 (eC G cond)) (rE X F0 (eE G elt)) ((ownN N own).map (·.2))) := by
        refine pe_lc g.calm (by rw [g.hN]; exact g.nd) hi blk (fun s H C cl fp => ?_) (fun s H C cl fp => ?_) (fun s H C cl fp => ?_) (iter_of h1)
        · have gg := g.blk s H scope cl C fp
          exact ⟨fun pins s σ H v u Q I r ⟨Iv, hIv, hq⟩ => (ok_T G N true own t (relS scope sc) tg h5 (fun _ => h3) _ F0 gg (fun z => by cases z) Iv (fun i hi => hIv i (hi rfl))).run pins s σ H v u Q I r hq⟩
        · exact ok_C G N cond (relS scope sc) ifs h6 _ F0 (g.blk s H scope cl C fp)
        · exact (ok_E G N elt (relS scope sc) el h7 _ F0 (g.blk s H scope cl C fp)).1
      rw [ownN_snd] at q
      have q2 : PE X (.ListComp el [⟨tg, iter, ifs, 0⟩] scope pos) (rE X Ex (compR r own (eI G it) (aT G t) (eC G cond) (eE G elt))) := PE.weak q fun τ H Q hh => comp_core hh
      have q3 : PE X (.ListComp el [⟨tg, iter, ifs, 0⟩] scope pos) (rE X Ex (eE G (.comp r own t it cond elt))) := by
        exact pe_to q2 (fun σ S => by simp only [eE, compR, compF]; rfl)
      exact ⟨q3, fun _ => s_test q3 rfl⟩
    · cases h
  | .mth m r o es, sc, e, h, X, Ex, g => by
    simp only [cE] at h
    split at h
    · rename_i l nm ap xs cp
      simp only [Bool.and_eq_true, decide_eq_true_eq] at h
      obtain ⟨⟨⟨⟨⟨⟨h1, h2⟩, h3⟩, h4⟩, h5⟩, h6⟩, h7⟩ := h
      have io := (ok_E G N o sc _ h6 X Ex g).1
      by_cases hm : m = .pop
      · subst hm
        cases es with
        | cons a b => simp at h5
        | nil =>
          cases xs with
          | cons a b => simp at h5
          | nil =>
            exact ok_plain (s_pop (r := r) h1 h2 h3 io) (fun σ S => by first | (simp only [eE, eEs, eI]; done) | (simp only [eE, eEs, eI]; rfl) | rfl) rfl
      · have hl : xs.length = 1 := by
          cases m <;> first | exact absurd rfl hm | (simpa using h5)
        exact ok_plain (s_mth (m := m) (r := r) h1 h2 h3 h4 hl hm io ((ok_Es G N es sc _ h7 X Ex g).args h4)) (fun σ S => by first | (simp only [eE, eEs, eI]; done) | (simp only [eE, eEs, eI]; rfl) | rfl) rfl
    · cases h
  | .frz a, sc, e, h, X, Ex, g => by
    simp only [cE] at h
    exact ⟨pe_to (s_frz (ok_E G N a sc e h X Ex g).1) (fun σ S => by first | (simp only [eE, eEs, eI]; done) | (simp only [eE, eEs, eI]; rfl) | rfl), fun z => by simp [tstB] at z⟩
  | .nop, sc, e, h, X, Ex, g => by simp [cE] at h
  | .fld k j a, sc, e, h, X, Ex, g => by
    simp only [cE] at h
    split at h
    · simp only [Bool.and_eq_true] at h
      obtain ⟨C, fs, h1, h2⟩ := cls_of h.1.2
      exact ok_plain (s_fld g h1 h2 h.1.1 (ok_E G N a sc _ h.2 X Ex g).1) (fun σ S => by first | (simp only [eE, eEs, eI]; done) | (simp only [eE, eEs, eI]; rfl) | rfl) rfl
    · cases h
  | .meth k o es, sc, e, h, X, Ex, g => by
    simp only [cE] at h
    split at h
    · rename_i l m ap xs cp
      simp only [Bool.and_eq_true, decide_eq_true_eq] at h
      obtain ⟨⟨⟨⟨⟨⟨h1, h2⟩, h3⟩, h4⟩, h5⟩, h6⟩, h7⟩ := h
      obtain ⟨x, C, n, f, hG⟩ := mth_of h3
      have io := (ok_E G N o sc _ h6 X Ex g).1
      cases xs with
      | nil =>
        have he : es = .nil := by
          cases es with
          | nil => rfl
          | cons a b => simp [cEs] at h7
        subst he
        exact ok_plain (s_meth0 g hG h1 h2 io) (fun σ S => by first | (simp only [eE, eEs, eI]; done) | (simp only [eE, eEs, eI]; rfl) | rfl) rfl
      | cons y ys =>
        exact ok_plain (s_meth g hG h1 h2 h4 h5 (by simp) io ((ok_Es G N es sc _ h7 X Ex g).args h4)) (fun σ S => by first | (simp only [eE, eEs, eI]; done) | (simp only [eE, eEs, eI]; rfl) | rfl) rfl
    · cases h
  | .make k es, sc, e, h, X, Ex, g => by
    simp only [cE] at h
    split at h
    · rename_i x p xs pos
      simp only [Bool.and_eq_true, Bool.not_eq_true'] at h
      obtain ⟨⟨⟨⟨⟨h1, h2⟩, h3⟩, h4⟩, h5⟩, h6⟩ := h
      obtain ⟨fs, n, f, hG⟩ := mk_of h2
      exact ok_plain (s_make g h1 hG h3 h4 (fun z => by rw [z] at h5; simp at h5) ((ok_Es G N es sc _ h6 X Ex g).args h4)) (fun σ S => by first | (simp only [eE, eEs, eI]; done) | (simp only [eE, eEs, eI]; rfl) | rfl) rfl
    · cases h
  | .dnew t, sc, e, h, X, Ex, g => by
    simp only [cE] at h
    split at h
    · cases t with
      | false => exact ok_plain (s_dnewK (X := X) (Ex := Ex)) (fun σ S => by simp only [eE]; rfl) rfl
      | true => exact ok_plain (s_dnewT (X := X) (Ex := Ex)) (fun σ S => by simp only [eE]; rfl) rfl
    · cases h
  | .tin k neg a, sc, e, h, X, Ex, g => by
    simp only [cE] at h
    split at h
    · simp only [Bool.and_eq_true, decide_eq_true_eq] at h
      obtain ⟨⟨⟨⟨rfl, h1⟩, h2⟩, h3⟩, h4⟩ := h
      obtain ⟨ps, c⟩ := tab_of h2
      exact ⟨pe_to (s_tin g h1 c h3 (ok_E G N a sc _ h4 X Ex g).1) (fun σ S => by first | (simp only [eE]; done) | (simp only [eE]; rfl) | rfl), fun _ => pt_to (s_tinT g h1 c h3 (ok_E G N a sc _ h4 X Ex g).1) (fun σ S => by first | (simp only [eE]; done) | (simp only [eE]; rfl) | rfl)⟩
    · cases h
  | .tix k a, sc, e, h, X, Ex, g => by
    simp only [cE] at h
    split at h
    · simp only [Bool.and_eq_true, decide_eq_true_eq] at h
      obtain ⟨⟨⟨⟨h0, h1⟩, h2⟩, h3⟩, h4⟩ := h
      obtain ⟨ps, c⟩ := tab_of h2
      exact ok_plain (s_tix g h1 c h3 (ix_of h0) (ok_E G N a sc _ h4 X Ex g).1) (fun σ S => by first | (simp only [eE]; done) | (simp only [eE]; rfl) | rfl) rfl
    · cases h
  | .popk o i, sc, e, h, X, Ex, g => by
    simp only [cE] at h
    split at h
    · rename_i l nm ap x cp
      simp only [Bool.and_eq_true, decide_eq_true_eq] at h
      obtain ⟨⟨⟨⟨⟨rfl, h2⟩, h3⟩, h4⟩, h5⟩, h6⟩ := h
      exact ok_plain (s_popk h2 h3 h4 (ok_E G N o sc _ h5 X Ex g).1 (ok_E G N i sc _ h6 X Ex g).1) (fun σ S => by first | (simp only [eE, eEs, eI]; done) | (simp only [eE, eEs, eI]; rfl) | rfl) rfl
    · cases h
  | .callV k es, sc, e, h, X, Ex, g => by
    simp only [cE] at h
    split at h
    · rename_i x p xs pos
      simp only [Bool.and_eq_true, Bool.not_eq_true'] at h
      obtain ⟨⟨⟨⟨⟨h1, h2⟩, h3⟩, h4⟩, h5⟩, h6⟩ := h
      obtain ⟨n, f, hf⟩ := fn_of' h2
      exact ok_plain (s_callV g h1 hf h3 h4 (fun z => by rw [z] at h5; simp at h5) ((ok_Es G N es sc _ h6 X Ex g).args h4)) (fun σ S => by first | (simp only [eE, eEs, eI]; done) | (simp only [eE, eEs, eI]; rfl) | rfl) rfl
    · cases h
theorem ok_Es (G : GT) (N : List Str) : ∀ (t : Es) (sc : Scope) (xs : List PySem.Expr), cEs G N t sc xs = true → ∀ (X : Cx) (Ex : XK), Good G N sc Ex X → OkEs X Ex G t xs
  | .nil, sc, xs, h, X, Ex, g => by
    cases xs with
    | nil => exact ⟨fun _ => by simpa only [eEs] using s_nil, fun z => absurd rfl z, fun z => absurd rfl z⟩
    | cons a b => simp [cEs] at h
  | .cons e es, sc, xs, h, X, Ex, g => by
    cases xs with
    | nil => simp [cEs] at h
    | cons x xs =>
      simp only [cEs, Bool.and_eq_true] at h
      have ie := ok_E G N e sc x h.1 X Ex g
      have is := ok_Es G N es sc xs h.2 X Ex g
      refine ⟨fun hp => ?_, fun _ pos => ?_, fun _ pos => ?_⟩
      · simp only [plainEs, Bool.and_eq_true] at hp
        simpa only [eEs] using s_cons hp.1 ie.1 (is.args hp.2)
      · cases es with
        | nil =>
          cases xs with
          | cons a b => simp [cEs] at h
          | nil =>
            refine ⟨pe_to (pe_one ie.1) (fun σ S => by simp only [eAnd]), fun z => ?_⟩
            simp only [tstBs, Bool.and_true] at z
            exact pw_to (pw_and1 (ie.2 z)) (fun σ S => by simp only [eAnd])
        | cons e2 es2 =>
          cases xs with
          | nil => simp [cEs] at h
          | cons x2 xs2 =>
            have i2 := is.and_ (by simp) pos
            refine ⟨pe_to (s_and ie.1 i2.1) (fun σ S => by first | (simp only [eAnd, eOr]; done) | (simp only [eAnd, eOr]; rfl) | rfl), fun z => ?_⟩
            rw [tstBs, Bool.and_eq_true] at z
            exact pw_to (s_andT (ie.2 z.1) (i2.2 z.2)) (fun σ S => by first | (simp only [eAnd, eOr]; done) | (simp only [eAnd, eOr]; rfl) | rfl)
      · cases es with
        | nil =>
          cases xs with
          | cons a b => simp [cEs] at h
          | nil =>
            refine ⟨pe_to (pe_one ie.1) (fun σ S => by simp only [eOr]), fun z => ?_⟩
            simp only [tstBs, Bool.and_true] at z
            exact pw_to (pw_or1 (ie.2 z)) (fun σ S => by simp only [eOr])
        | cons e2 es2 =>
          cases xs with
          | nil => simp [cEs] at h
          | cons x2 xs2 =>
            have i2 := is.or_ (by simp) pos
            refine ⟨pe_to (s_or ie.1 i2.1) (fun σ S => by first | (simp only [eAnd, eOr]; done) | (simp only [eAnd, eOr]; rfl) | rfl), fun z => ?_⟩
            rw [tstBs, Bool.and_eq_true] at z
            exact pw_to (s_orT (ie.2 z.1) (i2.2 z.2)) (fun σ S => by first | (simp only [eAnd, eOr]; done) | (simp only [eAnd, eOr]; rfl) | rfl)
theorem ok_P (G : GT) (N : List Str) : ∀ (t : P) (sc : Scope) (o : Option PySem.Expr), cP G N t sc o = true → ∀ (X : Cx) (Ex : XK), Good G N sc Ex X → PO X o (rO X Ex (eP G t))
  | .no, sc, o, h, X, Ex, g => by
    cases o with
    | none => simpa only [eP] using s_part0
    | some x => simp [cP] at h
  | .ex e, sc, o, h, X, Ex, g => by
    cases o with
    | none => simp [cP] at h
    | some x => exact po_to (s_part1 (ok_E G N e sc x (by simpa only [cP] using h) X Ex g).1) (fun σ S => by first | (simp only [eP]; done) | (simp only [eP]; rfl) | rfl)
theorem ok_C (G : GT) (N : List Str) : ∀ (t : Es) (sc : Scope) (xs : List PySem.Expr), cC G N t sc xs = true → ∀ (X : Cx) (Ex : XK), Good G N sc Ex X → PTs X xs (rT X Ex (eC G t))
  | .nil, sc, xs, h, X, Ex, g => by
    cases xs with
    | cons a b => simp [cC] at h
    | nil =>
      have q : PTs X [] (rT X Ex fun _ S => .ok true S) := ⟨fun pins s σ H Q I ⟨B, Hf, ρ, σw, S, hh, q⟩ => pts_nil.run pins s σ H Q I (q _ _ _ _ (Ext.refl _ _) hh rfl)⟩
      simpa only [eC] using q
  | .cons e .nil, sc, xs, h, X, Ex, g => by
    match xs, h with
    | [x], h =>
      simp only [cC, Bool.and_eq_true] at h
      simpa only [eC] using pts_one ((ok_E G N e sc x h.2 X Ex g).2 h.1)
    | [], h => simp [cC] at h
    | _ :: _ :: _, h => simp [cC] at h
  | .cons _ (.cons _ _), sc, xs, h, X, Ex, g => by simp [cC] at h
theorem ok_T (G : GT) (N : List Str) (cm : Bool) (own : List Nat) : ∀ (t : T) (sc : Scope) (e : PySem.Expr), cT G N cm t sc e = true → (cm = true → tgIn own t = true) → ∀ (X : Cx) (Ex : XK), Good G N sc Ex X → (cm = false → ∀ x, X.fn x = true) → ∀ (Iv : St → Prop), (∀ i, (cm = true → i ∈ own) → ∀ τ v, Iv τ → Iv (τ.set i (some v))) → PG X e (rG X Ex Iv (aT G t))
  | .nm i, sc, e, h, hin, X, Ex, g, hfn, Iv, hIv => by
    simp only [cT] at h
    split at h
    · rename_i x pos
      simp only [Bool.and_eq_true] at h
      have hi := hIv i fun z => by simpa only [tgIn, List.contains_iff_mem] using hin z
      have hN : X.N[i]? = some x := by rw [g.hN]; exact isN_of h.1
      have nd : X.N.Nodup := by rw [g.hN]; exact g.nd
      cases cm with
      | true =>
        have hl := lcl_of (by simpa using h.2)
        exact pg_to (gt_name (Ex := Ex) nd hN (.inl (by rw [g.hsc]; exact hl)) (.inr (by rw [g.hsc]; exact hl)) hi) (fun w σ S => by first | (simp only [aT]; done) | (simp only [aT]; rfl) | (cases w <;> rfl) | rfl)
      | false => exact pg_to (gt_name (Ex := Ex) nd hN (by rw [g.hsc]; exact loc_of (by simpa using h.2)) (.inl (hfn rfl _)) hi) (fun w σ S => by first | (simp only [aT]; done) | (simp only [aT]; rfl) | (cases w <;> rfl) | rfl)
    · cases h
  | .tup ts, sc, e, h, hin, X, Ex, g, hfn, Iv, hIv => by
    simp only [cT] at h
    split at h
    · simp only [Bool.and_eq_true, decide_eq_true_eq] at h
      have is := ok_Ts G N cm own ts sc _ h.2 (fun z => by simpa only [tgIn] using hin z) X Ex g hfn Iv hIv
      exact pg_to (gt_tup g.calm h.1.1 h.1.2 is) (fun w σ S => by first | (simp only [aT]; done) | (simp only [aT]; rfl) | (cases w <;> rfl) | rfl)
    · cases h
  | .sub o i, sc, e, h, hin, X, Ex, g, hfn, Iv, hIv => by
    simp only [cT] at h
    split at h
    · simp only [Bool.and_eq_true] at h
      exact pg_to (gt_sub (Iv := Iv) g h.1.1 (ok_E G N o sc _ h.1.2 X Ex g).1 (ok_E G N i sc _ h.2 X Ex g).1) (fun w σ S => by first | (simp only [aT]; done) | (simp only [aT]; rfl) | (cases w <;> rfl) | rfl)
    · cases h
theorem ok_Ts (G : GT) (N : List Str) (cm : Bool) (own : List Nat) : ∀ (t : Ts) (sc : Scope) (xs : List PySem.Expr), cTs G N cm t sc xs = true → (cm = true → tgsIn own t = true) → ∀ (X : Cx) (Ex : XK), Good G N sc Ex X → (cm = false → ∀ x, X.fn x = true) → ∀ (Iv : St → Prop), (∀ i, (cm = true → i ∈ own) → ∀ τ v, Iv τ → Iv (τ.set i (some v))) → PGs X xs (rGs X Ex Iv (aTs G t))
  | .nil, sc, xs, h, hin, X, Ex, g, hfn, Iv, hIv => by
    cases xs with
    | cons a b => simp [cTs] at h
    | nil => exact pgs_to (gt_nil) (fun w σ S => by first | (simp only [aTs]; done) | (simp only [aTs]; rfl) | (cases w <;> rfl) | rfl)
  | .cons t ts, sc, xs, h, hin, X, Ex, g, hfn, Iv, hIv => by
    cases xs with
    | nil => simp [cTs] at h
    | cons x xs =>
      simp only [cTs, Bool.and_eq_true] at h
      have i1 := ok_T G N cm own t sc x h.1.2 (fun z => by have := hin z; simp only [tgsIn, Bool.and_eq_true] at this; exact this.1) X Ex g hfn Iv hIv
      have i2 := ok_Ts G N cm own ts sc xs h.2 (fun z => by have := hin z; simp only [tgsIn, Bool.and_eq_true] at this; exact this.2) X Ex g hfn Iv hIv
      exact pgs_to (gt_cons h.1.1 i1 i2) (fun w σ S => by first | (simp only [aTs]; done) | (simp only [aTs]; rfl) | (cases w <;> rfl) | rfl)
theorem ok_I (G : GT) (N : List Str) : ∀ (t : I) (sc : Scope) (tg e : PySem.Expr), cI G N t sc tg e = true → ∀ (X : Cx) (Ex : XK), Good G N sc Ex X → PI X tg e (rI X Ex (eI G t))
  | .seq a, sc, tg, e, h, X, Ex, g => by
    simp only [cI] at h
    exact pi_to (it_seq (tg := tg) (ok_E G N a sc e h X Ex g).1) (fun σ S => by first | (simp only [eI]; done) | (simp only [eI]; rfl) | rfl)
  | .rng1 a, sc, tg, e, h, X, Ex, g => by
    simp only [cI] at h
    split at h
    · simp only [Bool.and_eq_true, decide_eq_true_eq] at h
      obtain ⟨⟨⟨rfl, h1⟩, h2⟩, h3⟩ := h
      exact pi_to (it_rng1 (tg := tg) g h1 h2 (ok_E G N a sc _ h3 X Ex g).1) (fun σ S => by first | (simp only [eI]; done) | (simp only [eI]; rfl) | rfl)
    · cases h
  | .rng2 a b, sc, tg, e, h, X, Ex, g => by
    simp only [cI] at h
    split at h
    · simp only [Bool.and_eq_true, decide_eq_true_eq] at h
      obtain ⟨⟨⟨⟨⟨rfl, h1⟩, h2⟩, h3⟩, h4⟩, h5⟩ := h
      exact pi_to (it_rng2 (tg := tg) g h1 h2 h3 (ok_E G N a sc _ h4 X Ex g).1 (ok_E G N b sc _ h5 X Ex g).1) (fun σ S => by first | (simp only [eI]; done) | (simp only [eI]; rfl) | rfl)
    · cases h
  | .rng3 a b c, sc, tg, e, h, X, Ex, g => by
    simp only [cI] at h
    split at h
    · simp only [Bool.and_eq_true, decide_eq_true_eq] at h
      obtain ⟨⟨⟨⟨⟨⟨⟨rfl, h1⟩, h2⟩, h3⟩, h4⟩, h5⟩, h6⟩, h7⟩ := h
      exact pi_to (it_rng3 (tg := tg) g h1 h2 h3 h4 (ok_E G N a sc _ h5 X Ex g).1 (ok_E G N b sc _ h6 X Ex g).1 (ok_E G N c sc _ h7 X Ex g).1) (fun σ S => by first | (simp only [eI]; done) | (simp only [eI]; rfl) | rfl)
    · cases h
  | .zip a b, sc, tg, e, h, X, Ex, g => by
    simp only [cI] at h
    split at h
    · simp only [Bool.and_eq_true, decide_eq_true_eq] at h
      obtain ⟨⟨⟨⟨⟨rfl, h1⟩, h2⟩, h3⟩, h4⟩, h5⟩ := h
      exact pi_to (it_zip g h1 h2 h3 (ok_E G N a sc _ h4 X Ex g).1 (ok_E G N b sc _ h5 X Ex g).1) (fun σ S => by first | (simp only [eI]; done) | (simp only [eI]; rfl) | rfl)
    · cases h
  | .enum a, sc, tg, e, h, X, Ex, g => by
    simp only [cI] at h
    split at h
    · simp only [Bool.and_eq_true, decide_eq_true_eq] at h
      obtain ⟨⟨⟨rfl, h1⟩, h2⟩, h3⟩ := h
      exact pi_to (it_enum g h1 h2 (ok_E G N a sc _ h3 X Ex g).1) (fun σ S => by first | (simp only [eI]; done) | (simp only [eI]; rfl) | rfl)
    · cases h
end
end Zz

set_option Elab.async false
set_option linter.all false
set_option maxRecDepth 100000
set_option maxHeartbeats 4000000
set_option autoImplicit false
namespace Zz
open PySem PySem.Spec PyProof.Rows L2

/-! ### statements -/
mutual
inductive S where
  | asg (t : T) (e : E) | par (i j : Nat) (a b : E) | aug (i : Nat) (op : Operator) (e : E)
  | expr (e : E) | ret (e : E) | retN
  | ifs (c : E) (a b : Ss) | for_ (t : T) (it : I) (body : Ss) | while_ (n : Nat) (c : E) (body : Ss)
  | pass | brk | cont
  | fst (k j : Nat) (o e : E) | faug (k j : Nat) (o : E) (op : Operator) (e : E) | nev
inductive Ss where
  | nil | cons (s : S) (ss : Ss)
end
inductive Fl where | nx | rt (w : W) | bk | ct
abbrev RS := R (Fl × Slots)
def forL (f : D → Slots → Store → RS) : List D → Slots → Store → RS
  | [], σ, S => .ok (.nx, σ) S
  | d :: ds, σ, S => (f d σ S).bind fun p S1 => match p.1 with
    | .nx => forL f ds p.2 S1
    | .ct => forL f ds p.2 S1
    | .bk => .ok (.nx, p.2) S1
    | .rt w => .ok (.rt w, p.2) S1
def whileL (c : Slots → Store → R Bool) (f : Slots → Store → RS) : Nat → Slots → Store → RS
  | 0, _, _ => .bad
  | n + 1, σ, S => (c σ S).bind fun t S1 => if t then (f σ S1).bind fun p S2 => match p.1 with
      | .nx => whileL c f n p.2 S2
      | .ct => whileL c f n p.2 S2
      | .bk => .ok (.nx, p.2) S2
      | .rt w => .ok (.rt w, p.2) S2
    else .ok (.nx, σ) S1
def augW (op : Operator) (x y : W) (S : Store) : R W :=
  match op, x, y with
  | .Add, .v (.int i), .v (.int j) => .ok (.v (.int (i + j))) S
  | .Sub, .v (.int i), .v (.int j) => .ok (.v (.int (i - j))) S
  | _, _, _ => .bad
mutual
def eS (G : GT) : Zz.S → Slots → Store → RS
  | .asg t e, σ, S => (eE G e σ S).bind fun w S1 => (aT G t w σ S1).bind fun σ1 S2 => .ok (.nx, σ1) S2
  | .par i j a b, σ, S => (eE G a σ S).bind fun x S1 => (eE G b σ S1).bind fun y S2 => .ok (.nx, (σ.set i (some x)).set j (some y)) S2
  | .aug i op e, σ, S => match σ[i]? with
    | some (some x) => (eE G e σ S).bind fun y S1 => (augW op x y S1).bind fun z S2 => .ok (.nx, σ.set i (some z)) S2
    | _ => .bad
  | .expr e, σ, S => (eE G e σ S).bind fun _ S1 => .ok (.nx, σ) S1
  | .ret e, σ, S => (eE G e σ S).bind fun w S1 => .ok (.rt w, σ) S1
  | .retN, σ, S => .ok (.rt (.v .non), σ) S
  | .ifs c a b, σ, S => ((eE G c σ S).bind truR).bind fun t S1 => if t then eSs G a σ S1 else eSs G b σ S1
  | .for_ t it body, σ, S => (eI G it σ S).bind fun ds S1 => forL (fun d σ S => (aT G t (.v d) σ S).bind fun σ1 S2 => eSs G body σ1 S2) ds σ S1
  | .while_ n c body, σ, S => whileL (fun σ S => (eE G c σ S).bind truR) (fun σ S => eSs G body σ S) n σ S
  | .pass, σ, S => .ok (.nx, σ) S
  | .brk, σ, S => .ok (.bk, σ) S
  | .cont, σ, S => .ok (.ct, σ) S
  | .fst k j o e, σ, S => (eE G e σ S).bind fun w S1 => (eE G o σ S1).bind fun x S2 => match G[k]? with
    | some (C, .cls fs) => (match setF C fs j x w S2 with | some S3 => .ok (.nx, σ) S3 | none => .bad)
    | _ => .bad
  | .faug k j o op e, σ, S => (eE G o σ S).bind fun x S1 => match G[k]? with
    | some (C, .cls fs) => (fldRW C fs j x S1).bind fun y S2 => (eE G e σ S2).bind fun z S3 => (augW op y z S3).bind fun u S4 => match setF C fs j x u S4 with | some S5 => .ok (.nx, σ) S5 | none => .bad
    | _ => .bad
  | .nev, _, _ => .bad
def eSs (G : GT) : Ss → Slots → Store → RS
  | .nil, σ, S => .ok (.nx, σ) S
  | .cons s ss, σ, S => (eS G s σ S).bind fun p S1 => match p.1 with
    | .nx => eSs G ss p.2 S1
    | .rt w => .ok (.rt w, p.2) S1
    | .bk => .ok (.bk, p.2) S1
    | .ct => .ok (.ct, p.2) S1
end
/-- a def, by its body -/
def runFn (G : GT) (n : Nat) (body : Ss) : FnSem := fun ws S => (eSs G body (ws.map some ++ List.replicate (n - ws.length) none) S).bind fun p S1 => match p.1 with
  | .rt w => .ok w S1
  | .nx => .ok (.v .non) S1
  | _ => .bad

/-! ### readings -/
def PostS (X : Cx) (B : Bs) (Ex : XK) (Hf : Hp) (ρ : List Addr) (D : Ends) : RS → Prop
  | .ok (.nx, σ') S' => ∀ Hf' ρ' τ' H', Ext Hf ρ Hf' ρ' → Rel X.K B Hf' ρ' σ' S' τ' H' → D.nx τ' H'
  | .ok (.bk, σ') S' => ∀ Hf' ρ' τ' H', Ext Hf ρ Hf' ρ' → Rel X.K B Hf' ρ' σ' S' τ' H' → D.bk τ' H'
  | .ok (.ct, σ') S' => ∀ Hf' ρ' τ' H', Ext Hf ρ Hf' ρ' → Rel X.K B Hf' ρ' σ' S' τ' H' → D.ct τ' H'
  | .ok (.rt w, σ') S' => ∀ Hf' ρ' τ' H' v, Ext Hf ρ Hf' ρ' → Rel X.K B Hf' ρ' σ' S' τ' H' → RepW X.K Hf' ρ' w v → D.rt v H'
  | .ex x S => ∀ Hf' ρ' H' cls d, Ext Hf ρ Hf' ρ' → Rel X.K B Hf' ρ' [] S [] H' → ExR X.K X.mg Hf' H' x cls d → Ex cls d H'
  | .bad => False
def rS (X : Cx) (Ex : XK) (t : Slots → Store → RS) : TS := fun D τ H => ∃ B Hf ρ σ S, Rel X.K B Hf ρ σ S τ H ∧ PostS X B Ex Hf ρ D (t σ S)
theorem PS.weak {X : Cx} {e : PySem.Stmt} {t t' : TS} (h : PS X e t) (k : ∀ D σ H, t' D σ H → t D σ H) : PS X e t' := ⟨fun pins s σ H Q I q => h.run pins s σ H Q I (k _ _ _ q)⟩
theorem PSs.weak {X : Cx} {e : List PySem.Stmt} {t t' : TS} (h : PSs X e t) (k : ∀ D σ H, t' D σ H → t D σ H) : PSs X e t' := ⟨fun pins s σ H Q I q => h.run pins s σ H Q I (k _ _ _ q)⟩
section
variable {X : Cx} {B : Bs} {Ex : XK} {Hf Hf1 : Hp} {ρ ρ1 : List Addr} {D : Ends}
theorem PostS.ext (e : Ext Hf ρ Hf1 ρ1) : ∀ {r : RS}, PostS X B Ex Hf ρ D r → PostS X B Ex Hf1 ρ1 D r
  | .ok (.nx, σ) S, h => fun Hf' ρ' τ' H' e' => h Hf' ρ' τ' H' (e.trans e')
  | .ok (.bk, σ) S, h => fun Hf' ρ' τ' H' e' => h Hf' ρ' τ' H' (e.trans e')
  | .ok (.ct, σ) S, h => fun Hf' ρ' τ' H' e' => h Hf' ρ' τ' H' (e.trans e')
  | .ok (.rt w, σ) S, h => fun Hf' ρ' τ' H' v e' => h Hf' ρ' τ' H' v (e.trans e')
  | .ex x S, h => fun Hf' ρ' H' c d e' => h Hf' ρ' H' c d (e.trans e')
  | .bad, h => h
/-- behind an expression -/
theorem PostS.ebind {α β : Type} {P : Hp → List Addr → α → β → Prop} {σ : Slots} {τ : St} {f : α → Store → RS} : ∀ {r : R α}, PostS X B Ex Hf ρ D (r.bind f) →
    Post P (gd X B Ex) Hf ρ σ τ (fun v H' => ∃ Hf' ρ' S' w, Ext Hf ρ Hf' ρ' ∧ Rel X.K B Hf' ρ' σ S' τ H' ∧ P Hf' ρ' w v ∧ PostS X B Ex Hf' ρ' D (f w S')) r
  | .ok a S, h => fun Hf' ρ' H' v e' r p => ⟨Hf', ρ', S, a, e', r, p, PostS.ext e' h⟩
  | .ex x S, h => h
  | .bad, h => h
/-- behind a store -/
theorem PostS.gbind {f : Slots → Store → RS} : ∀ {r : R Slots}, PostS X B Ex Hf ρ D (r.bind f) →
    PostG X B Ex (fun _ => True) Hf ρ (fun τ' H' => ∃ Hf' ρ' σ' S', Ext Hf ρ Hf' ρ' ∧ Rel X.K B Hf' ρ' σ' S' τ' H' ∧ PostS X B Ex Hf' ρ' D (f σ' S')) r
  | .ok a S, h => fun Hf' ρ' τ' H' e' r i => ⟨Hf', ρ', a, S, e', r, PostS.ext e' h⟩
  | .ex x S, h => h
  | .bad, h => h
end
structure GoodD (G : GT) (N : List Str) (sc : Scope) (Ex : XK) (X : Cx) : Prop extends Good G N sc Ex X where
  fn : ∀ x, X.fn x = true
  po : PassesOwn (model X.prog X.w) X.A X.env X.xe
section
variable {X : Cx} {Ex : XK} {G : GT} {N : List Str} {sc : Scope} {e1 e2 e3 : PySem.Expr} {pos p : Pos} {ta tb tc : Slots → Store → R W} {st : PySem.Stmt} {sts sts2 : List PySem.Stmt} {t u : Slots → Store → RS}
theorem x_nil : PSs X [] (rS X Ex fun σ S => .ok (.nx, σ) S) := PSs.weak pss_nil fun D τ H ⟨B, Hf, ρ, σ, S, h, q⟩ => q _ _ _ _ (Ext.refl _ _) h
theorem x_cons (h1 : PS X st (rS X Ex t)) (h2 : PSs X sts (rS X Ex u)) : PSs X (st :: sts) (rS X Ex fun σ S => (t σ S).bind fun p S1 => match p.1 with
    | .nx => u p.2 S1 | .rt w => .ok (.rt w, p.2) S1 | .bk => .ok (.bk, p.2) S1 | .ct => .ok (.ct, p.2) S1) := by
  refine PSs.weak (pss_cons h1 h2) fun D τ H ⟨B, Hf, ρ, σ, S, h, q⟩ => ⟨B, Hf, ρ, σ, S, h, ?_⟩
  dsimp only at q
  revert q
  cases t σ S with
  | bad => exact fun z => z
  | ex x S1 => exact fun z => z
  | ok pr S1 =>
    obtain ⟨fl, σ1⟩ := pr
    cases fl with
    | nx => exact fun q Hf' ρ' τ' H' e' h' => ⟨B, Hf', ρ', σ1, S1, h', PostS.ext e' q⟩
    | bk => exact fun q => q
    | ct => exact fun q => q
    | rt w => exact fun q => q
theorem x_asg {tg : PySem.Expr} {tt : W → Slots → Store → R Slots} (hv : swapsWithSole [tg] e1 pos.line X.env = pure false) (hw : swappedStores [tg] e1 X.env = pure none) (hp : plainE tg = true) (he : PE X e1 (rE X Ex ta)) (hg : PG X tg (rG X Ex (fun _ => True) tt)) :
    PS X (.Assign [tg] e1 pos) (rS X Ex fun σ S => (ta σ S).bind fun w S1 => (tt w σ S1).bind fun σ1 S2 => .ok (.nx, σ1) S2) := by
  refine PS.weak (ps_asg he hg hv hw (by cases tg <;> first | rfl | simp [plainE] at hp)) fun D τ H ⟨B, Hf, ρ, σ, S, h, q⟩ => ?_
  refine ⟨B, Hf, ρ, σ, S, h, (PostS.ebind (P := RepW X.K) (σ := σ) (τ := τ) q).imp fun v H1 ⟨Hf1, ρ1, S1, w, e1, h1, r1, q1⟩ => ?_⟩
  refine ⟨trivial, B, Hf1, ρ1, σ, S1, w, h1, r1, ?_⟩
  have q2 := PostS.gbind q1
  revert q2
  cases tt w σ S1 with
  | bad => exact fun z => z
  | ex x S1 => exact fun z => z
  | ok σ2 S2 =>
    intro q2 Hf' ρ' τ' H' e' h' i'
    obtain ⟨Hf3, ρ3, σ3, S3, e3, h3, p3⟩ := q2 Hf' ρ' τ' H' e' h' i'
    exact p3 _ _ _ _ (Ext.refl _ _) h3
theorem x_expr (hv : plainVal e1 = true) (he : PE X e1 (rE X Ex ta)) : PS X (.Expr e1 pos) (rS X Ex fun σ S => (ta σ S).bind fun _ S1 => .ok (.nx, σ) S1) :=
  PS.weak (ps_expr he (swaps_of hv)) fun D τ H ⟨B, Hf, ρ, σ, S, h, q⟩ => ⟨B, Hf, ρ, σ, S, h, (PostS.ebind (P := RepW X.K) (σ := σ) (τ := τ) q).imp fun v H1 ⟨Hf1, ρ1, S1, w, e1, h1, r1, q1⟩ => q1 _ _ _ _ (Ext.refl _ _) h1⟩
theorem x_ret (he : PE X e1 (rE X Ex ta)) : PS X (.Return (some e1) pos) (rS X Ex fun σ S => (ta σ S).bind fun w S1 => .ok (.rt w, σ) S1) :=
  PS.weak (ps_ret he) fun D τ H ⟨B, Hf, ρ, σ, S, h, q⟩ => ⟨B, Hf, ρ, σ, S, h, (PostS.ebind (P := RepW X.K) (σ := σ) (τ := τ) q).imp fun v H1 ⟨Hf1, ρ1, S1, w, e1, h1, r1, q1⟩ => q1 _ _ _ _ _ (Ext.refl _ _) h1 r1⟩
theorem x_retN : PS X (.Return none pos) (rS X Ex fun σ S => .ok (.rt (.v .non), σ) S) :=
  PS.weak ps_retN fun D τ H ⟨B, Hf, ρ, σ, S, h, q⟩ => q _ _ _ _ .non (Ext.refl _ _) h (by simp only [RepW, RepD])
theorem x_pass : PS X (.Pass pos) (rS X Ex fun σ S => .ok (.nx, σ) S) := PS.weak ps_pass fun D τ H ⟨B, Hf, ρ, σ, S, h, q⟩ => q _ _ _ _ (Ext.refl _ _) h
theorem x_brk : PS X (.Break pos) (rS X Ex fun σ S => .ok (.bk, σ) S) := PS.weak ps_break fun D τ H ⟨B, Hf, ρ, σ, S, h, q⟩ => q _ _ _ _ (Ext.refl _ _) h
theorem x_cont : PS X (.Continue pos) (rS X Ex fun σ S => .ok (.ct, σ) S) := PS.weak ps_continue fun D τ H ⟨B, Hf, ρ, σ, S, h, q⟩ => q _ _ _ _ (Ext.refl _ _) h
theorem x_if {tt : Slots → Store → R Bool} (hc : PT X e1 (rT X Ex tt)) (ha : PSs X sts (rS X Ex t)) (hb : PSs X sts2 (rS X Ex u)) : PS X (.If e1 sts sts2 pos) (rS X Ex fun σ S => (tt σ S).bind fun c S1 => if c then t σ S1 else u σ S1) := by
  refine PS.weak (ps_if hc ha hb) fun D τ H ⟨B, Hf, ρ, σ, S, h, q⟩ => ⟨B, Hf, ρ, σ, S, h, (PostS.ebind (P := PB') (σ := σ) (τ := τ) q).imp fun c H1 ⟨Hf1, ρ1, S1, w, e1, h1, r1, q1⟩ => ?_⟩
  have r1 : w = c := r1
  subst r1
  cases w with
  | true => exact iteT ⟨B, Hf1, ρ1, σ, S1, h1, by simpa using q1⟩
  | false => exact iteF ⟨B, Hf1, ρ1, σ, S1, h1, by simpa using q1⟩
theorem x_for {tg it : PySem.Expr} {tI : Slots → Store → R (List Zz.D)} {tt : W → Slots → Store → R Slots} (g : GoodD G N sc Ex X) (hs : plainIt it = true) (hi : PI X tg it (rI X Ex tI)) (hg : PG X tg (rG X Ex (fun _ => True) tt)) (hb : PSs X sts (rS X Ex t)) :
    PS X (.For tg it sts [] pos) (rS X Ex fun σ S => (tI σ S).bind fun ds S1 => forL (fun d σ S => (tt (.v d) σ S).bind fun σ1 S2 => t σ1 S2) ds σ S1) := by
  refine PS.weak (ps_for g.po g.calm hi hg hb (iter_of hs)) fun D τ H ⟨B, Hf, ρ, σ, S, h, q⟩ => ?_
  refine ⟨B, Hf, ρ, σ, S, h, (PostS.ebind (P := fun Hf _ ds J => JOk X.K Hf J ds) (σ := σ) (τ := τ) q).imp fun J H1 ⟨Hf1, ρ1, S1, ds, e1, h1, jok, q1⟩ => ?_⟩
  refine ⟨fun i m τ' H' => m = ds.length - i ∧ i ≤ ds.length ∧ ∃ Hf2 ρ2 σ2 S2, Ext Hf1 ρ1 Hf2 ρ2 ∧ Rel X.K B Hf2 ρ2 σ2 S2 τ' H' ∧ PostS X B Ex Hf2 ρ2 D (forL (fun d σ S => (tt (.v d) σ S).bind fun σ1 S2 => t σ1 S2) (ds.drop i) σ2 S2),
    ⟨ds.length, by simp, Nat.zero_le _, Hf1, ρ1, σ, S1, Ext.refl _ _, h1, by simpa using q1⟩, ?_⟩
  rintro i m τ2 H2 ⟨rfl, hi, Hf2, ρ2, σ2, S2, x2, h2, p2⟩
  have jo := jok i H2 ((x2.f).trans h2.sub)
  by_cases hlt : i < ds.length
  · obtain ⟨jgo, jy⟩ := jo.2 ds[i] (by simp [hlt])
    refine .inr ⟨jgo, fun τ' H' => i + 1 ≤ ds.length ∧ ∃ Hf2 ρ2 σ2 S2, Ext Hf1 ρ1 Hf2 ρ2 ∧ Rel X.K B Hf2 ρ2 σ2 S2 τ' H' ∧ PostS X B Ex Hf2 ρ2 D (forL (fun d σ S => (tt (.v d) σ S).bind fun σ1 S2 => t σ1 S2) (ds.drop (i + 1)) σ2 S2),
      fun τ' H' hN => ⟨ds.length - (i + 1), by omega, rfl, hN⟩, fun x H3 hy => ?_⟩
    obtain ⟨Hf3, h3, x3, rx⟩ : ∃ Hf3, Rel X.K B Hf3 ρ2 σ2 S2 τ2 H3 ∧ Ext Hf2 ρ2 Hf3 ρ2 ∧ RepD X.K Hf3 ds[i] x := by
      rcases jy x H3 hy with ⟨rfl, rr⟩ | ⟨pp, o, hp, rfl, rfl, rr⟩
      · exact ⟨Hf2, h2, Ext.refl _ _, RepD.mono x2.f _ _ rr⟩
      · obtain ⟨k1, k2⟩ := h2.newF hp o
        exact ⟨_, k1, k2, rr _ (x2.f.trans k2.f) upd_same⟩
    have ec : ds.drop i = ds[i] :: ds.drop (i + 1) := List.drop_eq_getElem_cons hlt
    rw [ec] at p2
    have p3 := PostS.ext x3 p2
    simp only [forL] at p3
    refine ⟨trivial, B, Hf3, ρ2, σ2, S2, .v ds[i], h3, rx, ?_⟩
    rw [R.bind_assoc] at p3
    have p4 := PostS.gbind p3
    revert p4
    cases tt (.v ds[i]) σ2 S2 with
    | bad => exact fun z => z
    | ex x S => exact fun z => z
    | ok σ4 S4 =>
      intro p4 Hf' ρ' τ' H' e' h' i'
      obtain ⟨Hf5, ρ5, σ5, S5, e5, h5, p5⟩ := p4 Hf' ρ' τ' H' e' h' i'
      refine ⟨B, Hf5, ρ5, σ5, S5, h5, ?_⟩
      have xx : Ext Hf1 ρ1 Hf5 ρ5 := (x2.trans x3).trans e5
      revert p5
      cases t σ5 S5 with
      | bad => exact fun z => z
      | ex x S => exact fun z => z
      | ok pr S6 =>
        obtain ⟨fl, σ6⟩ := pr
        cases fl with
        | nx => exact fun p5 Hf7 ρ7 τ7 H7 e7 h7 => ⟨by omega, Hf7, ρ7, σ6, S6, xx.trans e7, h7, PostS.ext e7 p5⟩
        | ct => exact fun p5 Hf7 ρ7 τ7 H7 e7 h7 => ⟨by omega, Hf7, ρ7, σ6, S6, xx.trans e7, h7, PostS.ext e7 p5⟩
        | bk => exact fun p5 => p5
        | rt w => exact fun p5 => p5
  · have ei : i = ds.length := by omega
    refine .inl ⟨jo.1 (by omega), ?_⟩
    rw [ei, List.drop_length] at p2
    exact p2 _ _ _ _ (Ext.refl _ _) h2
theorem x_while {n : Nat} {tt : Slots → Store → R Bool} (g : GoodD G N sc Ex X) (hc : PT X e1 (rT X Ex tt)) (hb : PSs X sts (rS X Ex t)) :
    PS X (.While e1 sts [] pos) (rS X Ex fun σ S => whileL tt t n σ S) := by
  refine PS.weak (ps_while g.po hc hb) fun D τ H ⟨B, Hf, ρ, σ, S, h, q⟩ => ?_
  refine ⟨fun m τ' H' => ∃ Hf2 ρ2 σ2 S2, Rel X.K B Hf2 ρ2 σ2 S2 τ' H' ∧ PostS X B Ex Hf2 ρ2 D (whileL tt t m σ2 S2), ⟨n, Hf, ρ, σ, S, h, q⟩, ?_⟩
  rintro m τ2 H2 ⟨Hf2, ρ2, σ2, S2, h2, p2⟩
  cases m with
  | zero => exact p2.elim
  | succ m =>
    refine ⟨B, Hf2, ρ2, σ2, S2, h2, (PostS.ebind (P := PB') (σ := σ2) (τ := τ2) p2).imp fun c H3 ⟨Hf3, ρ3, S3, w, e3, h3, r3, p3⟩ => ?_⟩
    have r3 : w = c := r3
    subst r3
    cases w with
    | false =>
      rw [if_neg (by decide)] at p3
      exact iteF (p3 _ _ _ _ (Ext.refl _ _) h3)
    | true =>
      rw [if_pos rfl] at p3
      refine iteT ⟨fun τ' H' => ∃ Hf2 ρ2 σ2 S2, Rel X.K B Hf2 ρ2 σ2 S2 τ' H' ∧ PostS X B Ex Hf2 ρ2 D (whileL tt t m σ2 S2), fun τ' H' hN => ⟨m, Nat.lt_succ_self m, hN⟩, B, Hf3, ρ3, σ2, S3, h3, ?_⟩
      revert p3
      cases t σ2 S3 with
      | bad => exact fun z => z
      | ex x S => exact fun z => z
      | ok pr S6 =>
        obtain ⟨fl, σ6⟩ := pr
        cases fl with
        | nx => exact fun p5 Hf7 ρ7 τ7 H7 e7 h7 => ⟨Hf7, ρ7, σ6, S6, h7, PostS.ext e7 p5⟩
        | ct => exact fun p5 Hf7 ρ7 τ7 H7 e7 h7 => ⟨Hf7, ρ7, σ6, S6, h7, PostS.ext e7 p5⟩
        | bk => exact fun p5 => p5
        | rt w => exact fun p5 => p5
theorem aug_step {op : Operator} (ho : op = .Add ∨ op = .Sub) : ∃ ti : TIp, PIp X op ti ∧ ∀ (B : Bs) (Hf : Hp) (ρ : List Addr) (σ : Slots) (S : Store) (τ : St) (H : Hp) (w1 w2 : W) (v1 v2 : V) (Q : VK), Rel X.K B Hf ρ σ S τ H → RepW X.K Hf ρ w1 v1 → RepW X.K Hf ρ w2 v2 →
    Post (RepW X.K) (gd X B Ex) Hf ρ σ τ Q (augW op w1 w2 S) → ti v1 v2 H Q := by
  rcases ho with rfl | rfl
  · refine ⟨_, ip_add, fun B Hf ρ σ S τ H w1 w2 v1 v2 Q h r1 r2 q => ?_⟩
    unfold augW at q
    split at q
    · cases repInt r1; cases repInt r2
      exact ⟨_, _, rfl, rfl, Post.done (g := gd X B Ex) h q repOfInt⟩
    · cases ‹Operator.Add = Operator.Sub›
    · exact q.elim
  · refine ⟨_, ip_sub, fun B Hf ρ σ S τ H w1 w2 v1 v2 Q h r1 r2 q => ?_⟩
    unfold augW at q
    split at q
    · cases ‹Operator.Sub = Operator.Add›
    · cases repInt r1; cases repInt r2
      exact ⟨_, _, rfl, rfl, Post.done (g := gd X B Ex) h q repOfInt⟩
    · exact q.elim
theorem x_aug {i : Nat} {x : Str} {op : Operator} (ho : op = .Add ∨ op = .Sub) (g : GoodD G N sc Ex X) (h1 : isN N i x = true) (h2 : locB sc x = true) (he : PE X e1 (rE X Ex ta)) :
    PS X (.AugAssign (.Name x p) op e1 pos) (rS X Ex fun σ S => match σ[i]? with
      | some (some x) => (ta σ S).bind fun y S1 => (augW op x y S1).bind fun z S2 => .ok (.nx, σ.set i (some z)) S2
      | _ => .bad) := by
  obtain ⟨ti, hti, hst⟩ := aug_step (X := X) (Ex := Ex) ho
  refine PS.weak (ps_aug (by rw [g.hN]; exact g.nd) (by rw [g.hN]; exact isN_of h1) (by rw [g.hsc]; exact loc_of h2) he hti (.inl (g.fn x))) fun D τ H ⟨B, Hf, ρ, σ, S, h, q⟩ => ?_
  dsimp only at q
  split at q
  · rename_i w hw
    obtain ⟨v, z1, z2⟩ := h.slot i w hw
    refine ⟨v, z1, B, Hf, ρ, σ, S, h, (PostS.ebind (P := RepW X.K) (σ := σ) (τ := τ) q).imp fun u H1 ⟨Hf1, ρ1, S1, wu, e1, h1, r1, q1⟩ => ?_⟩
    refine hst B Hf1 ρ1 σ S1 τ H1 w wu v u _ h1 (z2.mono e1.f e1.r) r1 ((PostS.ebind (P := RepW X.K) (σ := σ) (τ := τ) q1).imp fun y H2 ⟨Hf2, ρ2, S2, wy, e2, h2, r2, q2⟩ => ?_)
    exact q2 _ _ _ _ (Ext.refl _ _) (h2.set i r2)
  · exact q.elim
theorem setF_ok {K : PySem.W.Frag} {B : Bs} {Hf H : Hp} {ρ : List Addr} {σ : Slots} {S S' : Store} {τ : St} {C : Str} {fs : List Str} {j : Nat} {f : Str} {x w : W} {v u : V} (c : ClC K C fs) (hj : fs[j]? = some f) (h : Rel K B Hf ρ σ S τ H) (r : RepW K Hf ρ x v) (rw' : RepW K Hf ρ w u)
    (e : setF C fs j x w S = some S') : ∃ a Ca dx gs, v = .ref a ∧ H a = some (.ins Ca dx gs) ∧ PySem.W.nsIn K mainGlobals C = some (some (.ref Ca)) ∧ Cls K Ca ∧ NoAttr K Ca f ∧ gs.length < 1000 ∧ Rel K B Hf ρ σ S' τ (upd H a (.ins Ca dx (putF f u gs))) := by
  obtain ⟨Cb, c1, c2, c3, c4, c5⟩ := c.ex
  unfold setF at e
  split at e
  · rename_i i
    split at e
    · rename_i C' fs' ws hi
      split at e
      · rename_i hc
        obtain ⟨rfl, rfl, h3, h4⟩ := hc
        cases e
        obtain ⟨a, Ca, dx, vs, rfl, z1, z2, z3, z4, z5, z6⟩ := h.ins hi r
        rw [z3] at c1
        cases c1
        refine ⟨a, _, dx, _, rfl, z4, z3, c2, c5 f (List.mem_of_getElem? hj), by rw [List.length_zip]; omega, ?_⟩
        rw [putF_zip c3 hj (by rw [← z6.length]; exact h3) (by rw [← z6.length]; exact z5)]
        refine h.writeO hi z1 ⟨_, dx, (if j < vs.length then vs.set j u else vs ++ [u]), z3, upd_same, ?_, ?_⟩
        · split
          · rw [List.length_set]; exact z5
          · rw [List.length_append]; simp only [List.length_cons, List.length_nil]; omega
        · rw [← z6.length]
          split
          · exact z6.setI rw' j
          · exact z6.app ⟨u, [], rfl, rw', rfl⟩
      · cases e
    · cases e
  · cases e
theorem swaps_attr {e a : PySem.Expr} {f : Str} {p : Pos} {l : Nat} {env : Env} : swapsWith e (some (.Attribute a f p)) l env = pure false := by
  cases e <;> rfl
theorem x_fst {k j : Nat} {C : Str} {fs : List Str} {f : Str} {p' : Pos} (g : GoodD G N sc Ex X) (hG : G[k]? = some (C, .cls fs)) (hj : fs[j]? = some f) (ho : PE X e1 (rE X Ex ta)) (he : PE X e2 (rE X Ex tb)) :
    PS X (.Assign [.Attribute e1 f p'] e2 pos) (rS X Ex fun σ S => (tb σ S).bind fun w S1 => (ta σ S1).bind fun x S2 => match G[k]? with
      | some (C, .cls fs) => (match setF C fs j x w S2 with | some S3 => .ok (.nx, σ) S3 | none => .bad)
      | _ => .bad) := by
  refine PS.weak (ps_fld ho he swaps_attr) fun D τ H ⟨B, Hf, ρ, σ, S, h, q⟩ => ⟨B, Hf, ρ, σ, S, h, (PostS.ebind (P := RepW X.K) (σ := σ) (τ := τ) q).imp fun y H1 ⟨Hf1, ρ1, S1, w, e1, h1, r1, q1⟩ => ⟨B, Hf1, ρ1, σ, S1, h1, (PostS.ebind (P := RepW X.K) (σ := σ) (τ := τ) q1).imp fun x H2 ⟨Hf2, ρ2, S2, wx, e2, h2, r2, q2⟩ => ?_⟩⟩
  rw [hG] at q2
  dsimp only at q2
  split at q2
  · rename_i S3 hS
    obtain ⟨a, Ca, dx, gs, rfl, z1, z0, z2, z3, z4, z5⟩ := setF_ok (g.cls k C fs hG) hj h2 r2 (r1.mono e2.f e2.r) hS
    exact ⟨a, Ca, dx, gs, rfl, z1, z2, z3, z4, q2 _ _ _ _ (Ext.refl _ _) z5⟩
  · exact q2.elim
theorem in_step {op : Operator} (ho : op = .Add ∨ op = .Sub) : ∃ rd : V → V → Hp → VK → Prop, InOp X op rd ∧ ∀ (B : Bs) (Hf : Hp) (ρ : List Addr) (σ : Slots) (S : Store) (τ : St) (H : Hp) (w1 w2 : W) (v1 v2 : V) (Q : VK), Rel X.K B Hf ρ σ S τ H → RepW X.K Hf ρ w1 v1 → RepW X.K Hf ρ w2 v2 →
    Post (RepW X.K) (gd X B Ex) Hf ρ σ τ Q (augW op w1 w2 S) → rd v1 v2 H Q := by
  rcases ho with rfl | rfl
  · refine ⟨_, in_add, fun B Hf ρ σ S τ H w1 w2 v1 v2 Q h r1 r2 q => ?_⟩
    unfold augW at q
    split at q
    · cases repInt r1; cases repInt r2
      exact ⟨_, _, rfl, rfl, Post.done (g := gd X B Ex) h q repOfInt⟩
    · cases ‹Operator.Add = Operator.Sub›
    · exact q.elim
  · refine ⟨_, in_sub, fun B Hf ρ σ S τ H w1 w2 v1 v2 Q h r1 r2 q => ?_⟩
    unfold augW at q
    split at q
    · cases ‹Operator.Sub = Operator.Add›
    · cases repInt r1; cases repInt r2
      exact ⟨_, _, rfl, rfl, Post.done (g := gd X B Ex) h q repOfInt⟩
    · exact q.elim
theorem x_faug {k j : Nat} {C : Str} {fs : List Str} {f : Str} {p' : Pos} {op : Operator} (hop : op = .Add ∨ op = .Sub) (g : GoodD G N sc Ex X) (hG : G[k]? = some (C, .cls fs)) (hj : fs[j]? = some f) (ho : PE X e1 (rE X Ex ta)) (he : PE X e2 (rE X Ex tb)) :
    PS X (.AugAssign (.Attribute e1 f p') op e2 pos) (rS X Ex fun σ S => (ta σ S).bind fun x S1 => match G[k]? with
      | some (C, .cls fs) => (fldRW C fs j x S1).bind fun y S2 => (tb σ S2).bind fun z S3 => (augW op y z S3).bind fun u S4 => match setF C fs j x u S4 with | some S5 => .ok (.nx, σ) S5 | none => .bad
      | _ => .bad) := by
  obtain ⟨rd, hrd, hst⟩ := in_step (X := X) (Ex := Ex) hop
  obtain ⟨Cb, c1, c2, c3, c4, c5⟩ := (g.cls k C fs hG).ex
  have hn := c5 f (List.mem_of_getElem? hj)
  refine PS.weak (ps_fldaug ho he hrd) fun D τ H ⟨B, Hf, ρ, σ, S, h, q⟩ => ⟨B, Hf, ρ, σ, S, h, (PostS.ebind (P := RepW X.K) (σ := σ) (τ := τ) q).imp fun x H1 ⟨Hf1, ρ1, S1, wx, e1, h1, r1, q1⟩ => ?_⟩
  rw [hG] at q1
  dsimp only at q1
  obtain ⟨i, ws, wf, rfl, hi, hw, hfl⟩ : ∃ i ws wf, wx = .ref i ∧ S1[i]? = some (some (.ins C fs ws)) ∧ ws[j]? = some wf ∧ fldRW C fs j wx S1 = .ok wf S1 := by
    cases wx with
    | ref i =>
      cases e : fldRW C fs j (.ref i) S1 with
      | bad => rw [e] at q1; exact q1.elim
      | ex x S => unfold fldRW fldW at e; (repeat' split at e) <;> cases e
      | ok w S' =>
        unfold fldRW fldW at e
        dsimp only at e
        split at e
        · rename_i C' fs' ws hi
          split at e
          · rename_i hc
            obtain ⟨rfl, rfl⟩ := hc
            split at e
            · rename_i w2 hw
              cases e
              exact ⟨i, ws, _, rfl, hi, hw, rfl⟩
            · cases e
          · cases e
        · cases e
    | v d => exact q1.elim
  rw [hfl, R.bind_ok] at q1
  obtain ⟨a, Ca, dx, vs, rfl, z1, z2, z3, z4, z5, z6⟩ := h1.ins hi r1
  rw [z3] at c1
  cases c1
  obtain ⟨vf, y1, y2⟩ := z6.get hw
  refine ⟨a, _, dx, _, vf, rfl, z4, c2, hn, (lookup_zip c3 hj).trans y1, B, Hf1, ρ1, σ, S1, h1, (PostS.ebind (P := RepW X.K) (σ := σ) (τ := τ) q1).imp fun y H2 ⟨Hf2, ρ2, S2, wy, e2, h2, r2, q2⟩ => ?_⟩
  refine hst B Hf2 ρ2 σ S2 τ H2 wf wy vf y _ h2 (y2.mono e2.f e2.r) r2 ((PostS.ebind (P := RepW X.K) (σ := σ) (τ := τ) q2).imp fun u H3 ⟨Hf3, ρ3, S3, wu, e3, h3, r3, q3⟩ => ?_)
  split at q3
  · rename_i S5 hS
    obtain ⟨a', Ca', dx', gs, ea, x1, x0, x2, x3, x4, x5⟩ := setF_ok (g.cls k C fs hG) hj h3 ((r1.mono e2.f e2.r).mono e3.f e3.r) r3 hS
    cases ea
    rw [z3] at x0
    cases x0
    exact ⟨dx', gs, x1, x4, q3 _ _ _ _ (Ext.refl _ _) x5⟩
  · exact q3.elim
end
end Zz

set_option Elab.async false
set_option linter.all false
set_option maxRecDepth 100000
set_option maxHeartbeats 4000000
set_option autoImplicit false
namespace Zz
open PySem PySem.Spec PyProof.Rows L2
section
variable {X : Cx} {Ex : XK} {G : GT} {N : List Str} {sc : Scope} {e1 e2 e3 : PySem.Expr} {pos p : Pos} {ta tb tc : Slots → Store → R W} {st : PySem.Stmt} {sts sts2 : List PySem.Stmt} {t u : Slots → Store → RS}
/-- name = [..] on one line -/
theorem x_setLc {i : Nat} {y : Str} {py spos : Pos} {elt tg iter : PySem.Expr} {ifs : List PySem.Expr} {scope : Scope} {r : Bool} {own : List Nat} {tI : Slots → Store → R (List Zz.D)} {tT : W → Slots → Store → R Slots} {tC : Slots → Store → R Bool} {tE : Slots → Store → R W}
    (q0 : PS X (.Assign [.Name y py] (.ListComp elt [⟨tg, iter, ifs, 0⟩] scope pos) spos) (tAsg (tLc (rI X Ex tI) (rGo X own tT) (rT X F0 tC) (rE X F0 tE) own) (gName i))) :
    PS X (.Assign [.Name y py] (.ListComp elt [⟨tg, iter, ifs, 0⟩] scope pos) spos) (rS X Ex fun σ S => (compR r own tI tT tC tE σ S).bind fun w S1 => (R.ok (σ.set i (some w)) S1).bind fun σ1 S2 => .ok (.nx, σ1) S2) := by
  refine PS.weak q0 fun D τ H ⟨B, Hf, ρ, σ, S, h, q⟩ => ?_
  refine comp_core (Q := fun x H1 => gName i x τ H1 D.nx) (r := r) ⟨B, Hf, ρ, σ, S, h, (PostS.ebind (P := RepW X.K) (σ := σ) (τ := τ) q).imp fun v H1 ⟨Hf1, ρ1, S1, w, e1, h1, r1, q1⟩ => ?_⟩
  exact q1 _ _ _ _ (Ext.refl _ _) (h1.set i r1)
/-- a, b = x, y -/
theorem swappedStores_of {a b : PySem.Expr} {x y : Str} {px py pt : Pos} {kt k2 : Nat} {pt2 : Pos} {env : Env} (hk : env.scope.kind = .function) (hx : env.scope.names.lookup x = some .local) (hy : env.scope.names.lookup y = some .local) (hl : (py.line == px.line) = true) (hne : (x == y) = false)
    (hs : plainE a = true ∧ plainE b = true) (hc : (constantsAlone 8 a && constantsAlone 8 b) = false) (hf : (foldedForSure 8 a && foldedForSure 8 b) = false) :
    swappedStores [.Tuple [.Name x px, .Name y py] kt pt] (.Tuple [a, b] k2 pt2) env = pure (some [x, y]) := by
  have k1 : env.kindOf x = some .local := hx
  have k2 : env.kindOf y = some .local := hy
  have hb : env.blockKind = .function := by unfold Env.blockKind; rw [hk]; rfl
  have st : ([a, b].any fun | .Starred .. => true | _ => false) = false := by
    obtain ⟨s1, s2⟩ := hs
    cases a <;> first | (simp [plainE] at s1; done) | (cases b <;> first | rfl | (simp [plainE] at s2; done))
  have ed : ([x, y] : List Str).eraseDups = [x, y] := by
    have e2 : (y == x) = false := by
      cases q : (y == x) with
      | false => rfl
      | true => rw [eq_of_beq q] at hne; simp at hne
    simp [List.eraseDups, List.eraseDupsBy, List.eraseDupsBy.loop, e2, hne]
  unfold swappedStores
  simp only [hb, st, List.length_cons, List.length_nil, List.head?_cons, Option.map_some, Option.getD_some, PySem.Expr.pos, List.filterMap_cons, List.filterMap_nil, k1, k2, hl, beq_self_eq_true, Bool.and_true, Bool.true_and, if_true, ed]
  simp [List.all_cons, hc, hf]
  intro h
  exfalso
  rcases h with h | h
  · cases a <;> first | (simp at h; done) | (simp [plainE] at hs)
  · cases b <;> first | (simp at h; done) | (simp [plainE] at hs)
theorem x_par {i j : Nat} {x y : Str} {px py pt pt2 : Pos} {kt k2 : Nat} (g : GoodD G N sc Ex X) (hi : isN N i x = true) (hj : isN N j y = true) (hij : i ≠ j) (hx : lclB sc x = true) (hy : lclB sc y = true) (hk : sc.kind = .function) (hl : (py.line == px.line) = true) (hne : (x == y) = false)
    (hs : plainE e1 = true ∧ plainE e2 = true) (hc : (constantsAlone 8 e1 && constantsAlone 8 e2) = false) (hf : (foldedForSure 8 e1 && foldedForSure 8 e2) = false) (ha : PE X e1 (rE X Ex ta)) (hb : PE X e2 (rE X Ex tb)) :
    PS X (.Assign [.Tuple [.Name x px, .Name y py] kt pt] (.Tuple [e1, e2] k2 pt2) pos) (rS X Ex fun σ S => (ta σ S).bind fun x S1 => (tb σ S1).bind fun y S2 => .ok (.nx, (σ.set i (some x)).set j (some y)) S2) := by
  have lx : X.env.scope.names.lookup x = some .local := by rw [g.hsc]; exact lcl_of hx
  have ly : X.env.scope.names.lookup y = some .local := by rw [g.hsc]; exact lcl_of hy
  refine PS.weak (ps_par g.calm (by rw [g.hN]; exact g.nd) (by rw [g.hN]; exact isN_of hi) (by rw [g.hN]; exact isN_of hj) hij lx ly (s_cons hs.1 ha (s_cons hs.2 hb s_nil)) (swappedStores_of (by rw [g.hsc]; exact hk) lx ly hl hne hs hc hf)) fun D τ H ⟨B, Hf, ρ, σ, S, h, q⟩ => ⟨B, Hf, ρ, σ, S, h, ?_⟩
  dsimp only at q ⊢
  revert q
  cases ta σ S with
  | bad => exact fun z => z
  | ex x S1 => exact fun z => z
  | ok w S1 =>
    simp only [R.bind_ok]
    cases tb σ S1 with
    | bad => exact fun z => z
    | ex x S1 => exact fun z => z
    | ok w2 S2 =>
      intro q Hf' ρ' H' vs e' h' r'
      obtain ⟨v, u, rfl, r1, r2⟩ := reps2 r'
      exact ⟨v, u, rfl, q _ _ _ _ e' ((h'.set i r1).set j r2)⟩
def notTup : PySem.Expr → Bool
  | .Tuple _ _ _ => false
  | .List _ _ => false
  | _ => true
def notName : PySem.Expr → Bool
  | .Name _ _ => false
  | _ => true
/-- the stores stand in their order -/
def noSwap (tg e : PySem.Expr) : Bool := match tg, e with
  | .Tuple ts _ _, .Tuple vs _ _ => !ts.isEmpty && ts.all notName
  | .Tuple _ _ _, e => notTup e
  | .List _ _, _ => false
  | _, _ => true
theorem swapped_none {tg e : PySem.Expr} {env : Env} (h : noSwap tg e = true) : swappedStores [tg] e env = pure none := by
  unfold noSwap at h
  split at h
  · rename_i ts k1 p1 vs k2 p2
    rw [Bool.and_eq_true] at h
    have hn : ∀ (f : PySem.Expr → Option Str), (∀ e, notName e = true → f e = none) → ∀ l : List PySem.Expr, l.all notName = true → l.filterMap f = [] := by
      intro f hf l
      induction l with
      | nil => intros; rfl
      | cons a l ih =>
        intro ha
        rw [List.all_cons, Bool.and_eq_true] at ha
        rw [List.filterMap_cons, hf a ha.1]
        exact ih ha.2
    unfold swappedStores
    dsimp only
    have hne : ts.length ≠ 0 := fun z => by
      have : ts = [] := List.eq_nil_of_length_eq_zero z
      rw [this] at h
      simp at h
    split
    · rfl
    · split
      · rfl
      · rw [hn _ (fun e he => by cases e <;> first | rfl | (simp [notName] at he)) ts h.2]
        rw [if_pos (by simp; omega)]
  · cases e <;> first | rfl | (simp [notTup] at h)
  · cases h
  · cases tg <;> first | rfl | (cases e <;> rfl) | skip
    all_goals simp at *
end
def cellSwap (sc : Scope) (tg e : PySem.Expr) : Bool := match tg, e with
  | .Tuple [.Name x _, .Name y _] _ _, .Tuple _ _ _ => !(lclB sc x) || !(lclB sc y)
  | _, _ => false
def apartB (sc : Scope) : PySem.Expr → PySem.Expr → Bool
  | .Name t p, .ListComp _ _ s q => !(lclB sc t) || !(p.line == q.line) || (s.names.any fun (n, k) => n == t && (k == .local || k == .cell))
  | _, _ => false
mutual
def cS (G : GT) (N : List Str) : Zz.S → Scope → PySem.Stmt → Bool
  | .asg t e, sc, s => match s with
    | .Assign [tg] ex pos =>
      ((plainVal ex || apartB sc tg ex) && (noSwap tg ex || cellSwap sc tg ex) && plainE tg && cE G N e sc ex && cT G N false t sc tg)
      || (match t, e, tg, ex with
        | .nm i, .comp _ own t2 it cond elt, .Name y py, .ListComp el [⟨tg2, iter, ifs, ia⟩] scope cpos =>
          isN N i y && lclB sc y && (py.line == cpos.line) && !(scope.names.any fun (n, k) => n == y && (k == .local || k == .cell)) && decide (sc.kind = .function) &&
          decide (ia = 0) && plainIt iter && blkC N sc scope (ownN N own) && tgIn own t2 && cI G N it sc tg2 iter && cT G N true t2 (relS scope sc) tg2 && cC G N cond (relS scope sc) ifs && cE G N elt (relS scope sc) el
        | _, _, _, _ => false)
    | _ => false
  | .par i j a b, sc, s => match s with
    | .Assign [.Tuple [.Name x px, .Name y py] _ _] (.Tuple [l, r] _ _) _ =>
      isN N i x && isN N j y && decide (i ≠ j) && lclB sc x && lclB sc y && decide (sc.kind = .function) && (py.line == px.line) && !(x == y) && plainE l && plainE r && !(constantsAlone 8 l && constantsAlone 8 r) && !(foldedForSure 8 l && foldedForSure 8 r) && cE G N a sc l && cE G N b sc r
    | _ => false
  | .aug i op e, sc, s => match s with | .AugAssign (.Name x _) op' ex _ => decide (op = op') && decide (op = .Add ∨ op = .Sub) && isN N i x && locB sc x && cE G N e sc ex | _ => false
  | .expr e, sc, s => match s with | .Expr ex _ => plainVal ex && cE G N e sc ex | _ => false
  | .ret e, sc, s => match s with | .Return (some ex) _ => cE G N e sc ex | _ => false
  | .retN, _, s => match s with | .Return none _ => true | _ => false
  | .ifs c a b, sc, s => match s with | .If ex xs ys _ => tstB c && cE G N c sc ex && cSs G N a sc xs && cSs G N b sc ys | _ => false
  | .for_ t it body, sc, s => match s with | .For tg iter xs [] _ => plainIt iter && cI G N it sc tg iter && cT G N false t sc tg && cSs G N body sc xs | _ => false
  | .while_ _ c body, sc, s => match s with | .While ex xs [] _ => tstB c && cE G N c sc ex && cSs G N body sc xs | _ => false
  | .pass, _, s => match s with | .Pass _ => true | _ => false
  | .brk, _, s => match s with | .Break _ => true | _ => false
  | .cont, _, s => match s with | .Continue _ => true | _ => false
  | .fst k j o e, sc, s => match s with | .Assign [.Attribute l f _] ex _ => (plainVal ex || true) && clsB G k j f && cE G N o sc l && cE G N e sc ex | _ => false
  | .faug k j o op e, sc, s => match s with | .AugAssign (.Attribute l f _) op' ex _ => decide (op = op') && decide (op = .Add ∨ op = .Sub) && clsB G k j f && cE G N o sc l && cE G N e sc ex | _ => false
  | .nev, _, _ => true
def cSs (G : GT) (N : List Str) : Ss → Scope → List PySem.Stmt → Bool
  | .nil, _, xs => xs.isEmpty
  | .cons s ss, sc, xs => match xs with | x :: xs => cS G N s sc x && cSs G N ss sc xs | [] => false
end
theorem ps_to {X : Cx} {Ex : XK} {e : PySem.Stmt} {t t' : Slots → Store → RS} (q : PS X e (rS X Ex t)) (h : ∀ σ S, t' σ S = t σ S) : PS X e (rS X Ex t') := by
  have z : t' = t := funext fun σ => funext fun S => h σ S
  rw [z]; exact q
theorem pss_to {X : Cx} {Ex : XK} {e : List PySem.Stmt} {t t' : Slots → Store → RS} (q : PSs X e (rS X Ex t)) (h : ∀ σ S, t' σ S = t σ S) : PSs X e (rS X Ex t') := by
  have z : t' = t := funext fun σ => funext fun S => h σ S
  rw [z]; exact q
theorem apart_of {sc : Scope} {tg ex : PySem.Expr} {l : Nat} {env : Env} (hs : env.scope = sc) (h : apartB sc tg ex = true) : swapsWithSole [tg] ex l env = pure false := by
  unfold apartB at h
  split at h
  · rename_i t p a b s q
    have e : (env.blockKind == .function && env.kindOf t == some .local && p.line == q.line && !(s.names.any fun (n, k) => n == t && (k == .local || k == .cell))) = false := by
      have kk : env.kindOf t = env.scope.names.lookup t := rfl
      rw [Bool.or_eq_true, Bool.or_eq_true] at h
      rcases h with (h | h) | h
      · have k2 : (env.kindOf t == some .local) = false := by
          rw [kk, hs]
          unfold lclB at h
          split at h
          · cases h
          · rename_i hn
            cases hq : sc.names.lookup t with
            | none => rfl
            | some z => cases z <;> first | rfl | exact absurd hq hn
        rw [k2, Bool.and_false, Bool.false_and, Bool.false_and]
      · have k2 : (p.line == q.line) = false := by simpa using h
        rw [k2, Bool.and_false, Bool.false_and]
      · rw [h]; simp
    show (pure (env.blockKind == .function && env.kindOf t == some .local && p.line == q.line && !(s.names.any fun (n, k) => n == t && (k == .local || k == .cell))) : Sem Bool) = pure false
    rw [e]
  · cases h
theorem nlcl {sc : Scope} {t : Str} {env : Env} (hs : env.scope = sc) (h : (!(lclB sc t)) = true) : (env.kindOf t == some .local) = false := by
  have kk : env.kindOf t = env.scope.names.lookup t := rfl
  rw [kk, hs]
  unfold lclB at h
  split at h
  · cases h
  · rename_i hn
    cases hq : sc.names.lookup t with
    | none => rfl
    | some z => cases z <;> first | rfl | exact absurd hq hn
theorem swapped_cell {sc : Scope} {tg e : PySem.Expr} {env : Env} (hs : env.scope = sc) (h : cellSwap sc tg e = true) : swappedStores [tg] e env = pure none := by
  unfold cellSwap at h
  split at h
  · rename_i x p y p2 k q vs k2 q2
    unfold swappedStores
    dsimp only
    split
    · rfl
    · split
      · rfl
      · rw [Bool.or_eq_true] at h
        rcases h with h | h
        · have e := nlcl hs h
          simp only [List.filterMap_cons, List.filterMap_nil, e, Bool.false_and, Bool.false_eq_true, if_false]
          rw [if_pos]
          split <;> simp
        · have e := nlcl hs h
          simp only [List.filterMap_cons, List.filterMap_nil, e, Bool.false_and, Bool.false_eq_true, if_false]
          rw [if_pos]
          split <;> simp
  · cases h
theorem asg_ok {G : GT} {N : List Str} {t : T} {e : E} {sc : Scope} {tg ex : PySem.Expr} {pos : Pos} {X : Cx} {Ex : XK} (g : GoodD G N sc Ex X) (h1 : (plainVal ex || apartB sc tg ex) = true) (h2 : (noSwap tg ex || cellSwap sc tg ex) = true) (h3 : plainE tg = true) (h4 : cE G N e sc ex = true) (h5 : cT G N false t sc tg = true) :
    PS X (.Assign [tg] ex pos) (rS X Ex (eS G (.asg t e))) :=
  ps_to (x_asg ((Bool.or_eq_true _ _ ▸ h1).elim swaps_of (apart_of g.hsc)) ((Bool.or_eq_true _ _ ▸ h2).elim swapped_none (swapped_cell g.hsc)) h3 (ok_E G N e sc ex h4 X Ex g.toGood).1 (ok_T G N false [] t sc tg h5 (fun z => by cases z) X Ex g.toGood (fun _ => g.fn) (fun _ => True) (fun _ _ _ _ _ => trivial)))
    (fun σ S => by first | (simp only [eS]; done) | (simp only [eS]; rfl) | rfl)
set_option maxHeartbeats 16000000
mutual
theorem ok_S (G : GT) (N : List Str) : ∀ (t : Zz.S) (sc : Scope) (s : PySem.Stmt), cS G N t sc s = true → ∀ (X : Cx) (Ex : XK), GoodD G N sc Ex X → PS X s (rS X Ex (eS G t))
  | .asg t e, sc, s, h, X, Ex, g => by
    simp only [cS] at h
    split at h
    · rename_i tg ex pos
      rw [Bool.or_eq_true] at h
      rcases h with h | h
      · simp only [Bool.and_eq_true] at h
        obtain ⟨⟨⟨⟨h1, h2⟩, h3⟩, h4⟩, h5⟩ := h
        exact asg_ok g h1 h2 h3 h4 h5
      · split at h
        · rename_i i r own t2 it cond elt y py el tg2 iter ifs ia scope cpos
          simp only [Bool.and_eq_true, decide_eq_true_eq, Bool.not_eq_true'] at h
          obtain ⟨⟨⟨⟨⟨⟨⟨⟨⟨⟨⟨⟨a1, a2⟩, a3⟩, a4⟩, a5⟩, rfl⟩, h1⟩, h2⟩, h3⟩, h4⟩, h5⟩, h6⟩, h7⟩ := h
          have hi := ok_I G N it sc tg2 iter h4 X Ex g.toGood
          have blk : BlkOk X.N X.env.scope scope (ownN N own) := by rw [g.hN, g.hsc]; exact blkOk_by h2
          have ly : X.env.scope.names.lookup y = some .local := by rw [g.hsc]; exact lcl_of a2
          have q : PS X (.Assign [.Name y py] (.ListComp el [⟨tg2, iter, ifs, 0⟩] scope cpos) pos) (tAsg (tLc (rI X Ex (eI G it)) (rGo X own (aT G t2)) (rT X F0 (eC G cond)) (rE X F0 (eE G elt)) ((ownN N own).map (·.2))) (gName i)) := by
            refine ps_setLc g.calm (by rw [g.hN]; exact g.nd) (by rw [g.hN]; exact isN_of a1) ly (sw_true (by rw [g.hsc]; exact a5) ly a3 a4) hi blk (fun s H C cl fp => ?_) (fun s H C cl fp => ?_) (fun s H C cl fp => ?_) (iter_of h1)
            · have gg := g.toGood.blk s H scope cl C fp
              exact ⟨fun pins s σ H v u Q I r ⟨Iv, hIv, hq⟩ => (ok_T G N true own t2 (relS scope sc) tg2 h5 (fun _ => h3) _ F0 gg (fun z => by cases z) Iv (fun i hi => hIv i (hi rfl))).run pins s σ H v u Q I r hq⟩
            · exact ok_C G N cond (relS scope sc) ifs h6 _ F0 (g.toGood.blk s H scope cl C fp)
            · exact (ok_E G N elt (relS scope sc) el h7 _ F0 (g.toGood.blk s H scope cl C fp)).1
          rw [ownN_snd] at q
          exact ps_to (x_setLc (r := r) q) (fun σ S => by simp only [eS, eE, aT, compR, compF]; rfl)
        · cases h
    · cases h
  | .par i j a b, sc, s, h, X, Ex, g => by
    simp only [cS] at h
    split at h
    · simp only [Bool.and_eq_true, decide_eq_true_eq, Bool.not_eq_true'] at h
      obtain ⟨⟨⟨⟨⟨⟨⟨⟨⟨⟨⟨⟨⟨h1, h2⟩, h3⟩, h4⟩, h5⟩, h6⟩, h7⟩, h8⟩, h9⟩, h10⟩, h11⟩, h12⟩, h13⟩, h14⟩ := h
      exact ps_to (x_par g h1 h2 h3 h4 h5 h6 h7 h8 ⟨h9, h10⟩ h11 h12 (ok_E G N a sc _ h13 X Ex g.toGood).1 (ok_E G N b sc _ h14 X Ex g.toGood).1) (fun σ S => by first | (simp only [eS]; done) | (simp only [eS]; rfl) | rfl)
    · cases h
  | .aug i op e, sc, s, h, X, Ex, g => by
    simp only [cS] at h
    split at h
    · simp only [Bool.and_eq_true, decide_eq_true_eq] at h
      obtain ⟨⟨⟨⟨rfl, h1⟩, h2⟩, h3⟩, h4⟩ := h
      exact ps_to (x_aug h1 g h2 h3 (ok_E G N e sc _ h4 X Ex g.toGood).1) (fun σ S => by first | (simp only [eS]; done) | (simp only [eS]; rfl) | rfl)
    · cases h
  | .expr e, sc, s, h, X, Ex, g => by
    simp only [cS] at h
    split at h
    · simp only [Bool.and_eq_true] at h
      exact ps_to (x_expr h.1 (ok_E G N e sc _ h.2 X Ex g.toGood).1) (fun σ S => by first | (simp only [eS]; done) | (simp only [eS]; rfl) | rfl)
    · cases h
  | .ret e, sc, s, h, X, Ex, g => by
    simp only [cS] at h
    split at h
    · exact ps_to (x_ret (ok_E G N e sc _ h X Ex g.toGood).1) (fun σ S => by first | (simp only [eS]; done) | (simp only [eS]; rfl) | rfl)
    · cases h
  | .retN, sc, s, h, X, Ex, g => by
    simp only [cS] at h
    split at h
    · exact ps_to x_retN (fun σ S => by simp only [eS])
    · cases h
  | .ifs c a b, sc, s, h, X, Ex, g => by
    simp only [cS] at h
    split at h
    · simp only [Bool.and_eq_true] at h
      obtain ⟨⟨⟨h1, h2⟩, h3⟩, h4⟩ := h
      exact ps_to (x_if ((ok_E G N c sc _ h2 X Ex g.toGood).2 h1) (ok_Ss G N a sc _ h3 X Ex g) (ok_Ss G N b sc _ h4 X Ex g)) (fun σ S => by first | (simp only [eS]; done) | (simp only [eS]; rfl) | rfl)
    · cases h
  | .for_ t it body, sc, s, h, X, Ex, g => by
    simp only [cS] at h
    split at h
    · simp only [Bool.and_eq_true] at h
      obtain ⟨⟨⟨h1, h2⟩, h3⟩, h4⟩ := h
      exact ps_to (x_for g h1 (ok_I G N it sc _ _ h2 X Ex g.toGood) (ok_T G N false [] t sc _ h3 (fun z => by cases z) X Ex g.toGood (fun _ => g.fn) (fun _ => True) (fun _ _ _ _ _ => trivial)) (ok_Ss G N body sc _ h4 X Ex g)) (fun σ S => by first | (simp only [eS]; done) | (simp only [eS]; rfl) | rfl)
    · cases h
  | .while_ n c body, sc, s, h, X, Ex, g => by
    simp only [cS] at h
    split at h
    · simp only [Bool.and_eq_true] at h
      obtain ⟨⟨h1, h2⟩, h3⟩ := h
      exact ps_to (x_while (n := n) g ((ok_E G N c sc _ h2 X Ex g.toGood).2 h1) (ok_Ss G N body sc _ h3 X Ex g)) (fun σ S => by first | (simp only [eS]; done) | (simp only [eS]; rfl) | rfl)
    · cases h
  | .pass, sc, s, h, X, Ex, g => by
    simp only [cS] at h
    split at h
    · exact ps_to x_pass (fun σ S => by simp only [eS])
    · cases h
  | .brk, sc, s, h, X, Ex, g => by
    simp only [cS] at h
    split at h
    · exact ps_to x_brk (fun σ S => by simp only [eS])
    · cases h
  | .cont, sc, s, h, X, Ex, g => by
    simp only [cS] at h
    split at h
    · exact ps_to x_cont (fun σ S => by simp only [eS])
    · cases h
  | .fst k j o e, sc, s, h, X, Ex, g => by
    simp only [cS] at h
    split at h
    · simp only [Bool.and_eq_true] at h
      obtain ⟨⟨⟨h1, h2⟩, h3⟩, h4⟩ := h
      obtain ⟨C, fs, c1, c2⟩ := cls_of h2
      exact ps_to (x_fst g c1 c2 (ok_E G N o sc _ h3 X Ex g.toGood).1 (ok_E G N e sc _ h4 X Ex g.toGood).1) (fun σ S => by first | (simp only [eS]; done) | (simp only [eS]; rfl) | rfl)
    · cases h
  | .faug k j o op e, sc, s, h, X, Ex, g => by
    simp only [cS] at h
    split at h
    · simp only [Bool.and_eq_true, decide_eq_true_eq] at h
      obtain ⟨⟨⟨⟨rfl, h1⟩, h2⟩, h3⟩, h4⟩ := h
      obtain ⟨C, fs, c1, c2⟩ := cls_of h2
      exact ps_to (x_faug h1 g c1 c2 (ok_E G N o sc _ h3 X Ex g.toGood).1 (ok_E G N e sc _ h4 X Ex g.toGood).1) (fun σ S => by first | (simp only [eS]; done) | (simp only [eS]; rfl) | rfl)
    · cases h
  | .nev, sc, s, h, X, Ex, g => ⟨fun pins s σ H D I ⟨B, Hf, ρ, σw, S, _, q⟩ => (by simp only [eS] at q; exact q.elim)⟩
theorem ok_Ss (G : GT) (N : List Str) : ∀ (t : Ss) (sc : Scope) (s : List PySem.Stmt), cSs G N t sc s = true → ∀ (X : Cx) (Ex : XK), GoodD G N sc Ex X → PSs X s (rS X Ex (eSs G t))
  | .nil, sc, s, h, X, Ex, g => by
    cases s with
    | nil => exact pss_to x_nil (fun σ S => by simp only [eSs])
    | cons a b => simp [cSs] at h
  | .cons s ss, sc, xs, h, X, Ex, g => by
    cases xs with
    | nil => simp [cSs] at h
    | cons x xs =>
      simp only [cSs, Bool.and_eq_true] at h
      exact pss_to (x_cons (ok_S G N s sc x h.1 X Ex g) (ok_Ss G N ss sc xs h.2 X Ex g)) (fun σ S => by first | (simp only [eSs]; done) | (simp only [eSs]; rfl) | rfl)
end
end Zz

set_option Elab.async false
set_option linter.all false
set_option maxRecDepth 100000
set_option maxHeartbeats 4000000
set_option autoImplicit false
namespace Zz
open PySem PySem.Spec PyProof.Rows L2
/-- a def that may be called: by its name, its semantics -/
structure CalZ (P : Program) (w : World) (K : PySem.W.Frag) (mg : Str → Option Value) (base : Heap) (k : Nat) (x : Str) (n : Nat) (f : FnSem) : Prop where
  ex : ∃ (a : Addr) (fd : FuncData) (ps : List Str), ps.length = n ∧ FnOk P w K mg base (L2.CX P w) k a fd ps (spZ K mg ps.length f) ∧ mg x = some (.ref a) ∧ PySem.W.keepIn K (.ref a) = true ∧ Binds K fd ps []
theorem CalZ.mono {P : Program} {w : World} {K : PySem.W.Frag} {mg : Str → Option Value} {base : Heap} {j k : Nat} {x : Str} {n : Nat} {f : FnSem} (c : CalZ P w K mg base j x n f) (h : j ≤ k) : CalZ P w K mg base k x n f := by
  obtain ⟨a, fd, ps, h1, h2, h3⟩ := c.ex
  exact ⟨a, fd, ps, h1, h2.mono h, h3⟩
/-- a method, a class's making -/
structure MthZ (P : Program) (w : World) (K : PySem.W.Frag) (mg : Str → Option Value) (base : Heap) (k : Nat) (C m : Str) (n : Nat) (f : FnSem) : Prop where
  ex : ∃ (Ca a : Addr) (fd : FuncData) (ps : List Str), PySem.W.nsIn K mainGlobals C = some (some (.ref Ca)) ∧ Cls K Ca ∧ Meth K Ca m a ∧ ps.length = n ∧ FnOk P w K mg base (L2.CX P w) k a fd ps (spZ K mg ps.length f) ∧ Binds K fd ps []
structure MakZ (P : Program) (w : World) (K : PySem.W.Frag) (mg : Str → Option Value) (base : Heap) (k : Nat) (C : Str) (n : Nat) (f : FnSem) : Prop where
  ex : ∃ (j : Nat) (Ca a : Addr) (fd : FuncData) (ps : List Str), j + 1 ≤ k ∧ PySem.W.nsIn K mainGlobals C = some (some (.ref Ca)) ∧ mg C = some (.ref Ca) ∧ Mk K Ca a ∧ ps.length = n ∧ FnOk P w K mg base (L2.CX P w) j a fd ps (spZ K mg ps.length f) ∧ Binds K fd ps []
theorem MthZ.mono {P : Program} {w : World} {K : PySem.W.Frag} {mg : Str → Option Value} {base : Heap} {j k : Nat} {C m : Str} {n : Nat} {f : FnSem} (c : MthZ P w K mg base j C m n f) (h : j ≤ k) : MthZ P w K mg base k C m n f := by
  obtain ⟨Ca, a, fd, ps, h1, h2, h3, h4, h5, h6⟩ := c.ex
  exact ⟨Ca, a, fd, ps, h1, h2, h3, h4, h5.mono h, h6⟩
theorem MakZ.mono {P : Program} {w : World} {K : PySem.W.Frag} {mg : Str → Option Value} {base : Heap} {j k : Nat} {C : Str} {n : Nat} {f : FnSem} (c : MakZ P w K mg base j C n f) (h : j ≤ k) : MakZ P w K mg base k C n f := by
  obtain ⟨i, Ca, a, fd, ps, h0, h1⟩ := c.ex
  exact ⟨i, Ca, a, fd, ps, Nat.le_trans h0 h, h1⟩
/-- the module's facts that every def leans on -/
structure Tops (K : PySem.W.Frag) (mg : Str → Option Value) : Prop where
  blt : ∀ x ∈ bnames, mg x = none
inductive AllG (p : Str → Gv → Prop) : GT → Prop where
  | nil : AllG p []
  | cons {x : Str} {v : Gv} {G : GT} : p x v → AllG p G → AllG p ((x, v) :: G)
theorem AllG.get {p : Str → Gv → Prop} : ∀ {G : GT} {i : Nat} {x : Str} {v : Gv}, AllG p G → G[i]? = some (x, v) → p x v
  | _, _, _, _, .nil, e => by simp at e
  | _, 0, _, _, .cons h _, e => by simp at e; obtain ⟨rfl, rfl⟩ := e; exact h
  | _, i + 1, _, _, .cons _ t, e => AllG.get (i := i) t (by simpa using e)
/-- what a name of the table is -/
def GOk (P : Program) (w : World) (K : PySem.W.Frag) (mg : Str → Option Value) (base : Heap) (k : Nat) (x : Str) : Gv → Prop
  | .fn n f => CalZ P w K mg base k x n f
  | .con d => ∃ v u, mg x = some u ∧ RelV v u ∧ ∀ Hf, RepD K Hf d v
  | .cls fs => ClC K x fs
  | .mth C m n f => MthZ P w K mg base k C m n f
  | .mk fs n f => MakZ P w K mg base k x n f
  | .tab ps => TabC K w mg x ps
section
variable {P : Program} {w : World} {K : PySem.W.Frag} {mg : Str → Option Value} {base : Heap} {k : Nat}
theorem GOk.mono {j : Nat} {x : Str} {v : Gv} (h : GOk P w K mg base j x v) (hk : j ≤ k) : GOk P w K mg base k x v := by
  cases v with
  | fn n f => exact CalZ.mono h hk
  | con d => exact h
  | cls fs => exact h
  | mth C m n f => exact MthZ.mono h hk
  | mk fs n f => exact MakZ.mono h hk
  | tab ps => exact h
theorem tabC_mk {x : Str} {ps : List (Str × Option D)} {d : Addr} {ks : List Str} (kd : He.dicW K d = some (He.keysIn w.params ks)) (m : mg x = some (.ref d))
    (h : ∀ p ∈ ps, match p.2 with | none => PySem.W.nsIn K d p.1 = some none | some y => ∃ u v, PySem.W.nsIn K d p.1 = some (some u) ∧ RelV v u ∧ ∀ Hf, RepD K Hf y v) : TabC K w mg x ps := by
  have mem : ∀ (ps : List (Str × Option D)) (s : Str) (o : Option D), ps.lookup s = some o → (s, o) ∈ ps := by
    intro ps s o
    induction ps with
    | nil => intro e; cases e
    | cons p ps ih =>
      intro e
      obtain ⟨k, v⟩ := p
      rw [List.lookup_cons] at e
      cases hb : s == k with
      | true =>
        rw [hb] at e
        cases e
        rw [eq_of_beq hb]
        exact List.mem_cons_self
      | false =>
        rw [hb] at e
        exact List.mem_cons_of_mem _ (ih e)
  obtain ⟨es, n, k⟩ := He.dicW_ok kd
  exact ⟨⟨d, es, n, m, k, fun s o e => h (s, o) (mem ps s o e)⟩⟩
theorem tabC_int {d : Addr} {s : Str} {i : Int} {t : Tok} (h : PySem.W.nsIn K d s = some (some (.int i t))) : ∃ u v, PySem.W.nsIn K d s = some (some u) ∧ RelV v u ∧ ∀ Hf, RepD K Hf (.int i) v := ⟨_, .int i, h, ⟨t, rfl⟩, fun _ => by simp only [RepD]⟩
theorem con_int {x : Str} {i : Int} {t : Tok} (h : mg x = some (.int i t)) : GOk P w K mg base k x (.con (.int i)) := ⟨.int i, _, h, ⟨t, rfl⟩, fun _ => by simp only [RepD]⟩
theorem go_cal {j : Nat} {x : Str} {n : Nat} {f : FnSem} (h : CalZ P w K mg base j x n f) (hk : j ≤ k) : GOk P w K mg base k x (.fn n f) := CalZ.mono h hk
/-- THE THEOREM: a def whose body is a compact tree keeps the promise of its semantics -/
theorem fn_okZ {x qual : Str} {st : PySem.Stmt} {f : Addr} {fd : FuncData} {N ps : List Str} {G : GT} {body : Ss} (F : Fun K x qual st f fd) (Sc : FnScope N ps (defScope st)) (T : Tops K mg) (hG : AllG (GOk P w K mg base k) G)
    (hc : cSs G N body (defScope st) (defBody st) = true) : FnOk P w K mg base (L2.CX P w) (k + 1) f fd ps (spZ K mg ps.length (runFn G N.length body)) := by
  refine F.okX Sc (fun vs H Q E h => h.1) fun cdv A outer s H vs Q E hr ⟨hl, Hf, ρ, S, ws, h, r, q⟩ => ?_
  have g : GoodD G N (defScope st) E (cxOf (L2.CX P w) P w K mg base N qual (defScope st) f cdv A outer s H E) := {
    hN := rfl
    nd := Sc.nd
    hsc := rfl
    calm := rfl
    tk := takes_of rfl rfl rfl rfl
    room := ⟨k, hr, fun i y n ff e => ⟨(hG.get e : CalZ P w K mg base k y n ff).ex⟩, fun i y C m n ff e => ⟨(hG.get e : MthZ P w K mg base k C m n ff).ex⟩, fun i y fs n ff e => ⟨(hG.get e : MakZ P w K mg base k y n ff).ex⟩⟩
    cls := fun i y fs e => (hG.get e : ClC K y fs)
    tab := fun i y ps e => (hG.get e : TabC K w mg y ps)
    blt := T.blt
    con := fun i y d e => (hG.get e : GOk P w K mg base k y (.con d))
    fn := fun _ => rfl
    po := passes_of rfl }
  refine ⟨_, ok_Ss G N body _ _ hc _ E g, ⟨H, Hf, ρ⟩, Hf, ρ, ws.map some ++ List.replicate (N.length - ws.length) none, S, ?_, ?_⟩
  · have lw := r.length
    refine h.slots ?_ fun i u e => ?_
    · unfold L2.start
      rw [List.length_append, List.length_append, List.length_map, List.length_map, List.length_replicate, List.length_replicate, lw]
    · have hi : i < ws.length := by
        by_cases hi : i < ws.length
        · exact hi
        · rw [List.getElem?_append_right (by simpa using hi), List.getElem?_replicate] at e
          split at e <;> cases e
      rw [List.getElem?_append_left (by simpa using hi), List.getElem?_map] at e
      cases e2 : ws[i]? with
      | none => rw [e2] at e; cases e
      | some u2 =>
        rw [e2] at e
        cases e
        obtain ⟨v, h1, h2⟩ := r.get e2
        refine ⟨v, ?_, h2⟩
        unfold L2.start
        rw [List.getElem?_append_left (by rw [List.length_map, ← lw]; exact hi), List.getElem?_map, h1]
        rfl
  · unfold runFn at q
    revert q
    cases eSs G body (ws.map some ++ List.replicate (N.length - ws.length) none) S with
    | bad => exact fun z => z
    | ex x S1 => exact fun z => z
    | ok pr S1 =>
      obtain ⟨fl, σ1⟩ := pr
      cases fl with
      | nx => exact fun q Hf' ρ' τ' H' e' h' => q Hf' ρ' H' .non e' h'.blank (by simp only [RepW, RepD])
      | rt w => exact fun q Hf' ρ' τ' H' v e' h' r' => q Hf' ρ' H' v e' h'.blank r'
      | bk => exact fun q => q.elim
      | ct => exact fun q => q.elim
/-- a def that calls itself: so many turns are granted -/
theorem fn_badZ {f : Addr} {fd : FuncData} {ps : List Str} : FnOk P w K mg base (L2.CX P w) k f fd ps (spZ K mg ps.length fun _ _ => .bad) := by
  have no : ∀ vs H Q E, ¬ spZ K mg ps.length (fun _ _ => .bad) vs H Q E := fun vs H Q E ⟨_, _, _, _, _, _, _, q⟩ => q
  exact ⟨fun vs H Q E h => absurd h (no vs H Q E), fun A outer s H args us vs Q E _ _ _ _ h => absurd h (no vs H Q E)⟩
theorem mthZ {C m qual : Str} {st : PySem.Stmt} {f Ca : Addr} {fd : FuncData} {N ps : List Str} {G : GT} {body : Ss} (F : Fun K m qual st f fd) (c1 : PySem.W.nsIn K mainGlobals C = some (some (.ref Ca))) (c2 : Cls K Ca) (hm : Meth K Ca m f) (hb : Binds K fd ps []) (Sc : FnScope N ps (defScope st)) (T : Tops K mg) (hG : AllG (GOk P w K mg base k) G)
    (hc : cSs G N body (defScope st) (defBody st) = true) : MthZ P w K mg base (k + 1) C m ps.length (runFn G N.length body) :=
  ⟨Ca, f, fd, ps, c1, c2, hm, rfl, fn_okZ F Sc T hG hc, hb⟩
theorem makZ {C m qual : Str} {st : PySem.Stmt} {f Ca : Addr} {fd : FuncData} {N ps : List Str} {G : GT} {body : Ss} (F : Fun K m qual st f fd) (c1 : PySem.W.nsIn K mainGlobals C = some (some (.ref Ca))) (c2 : mg C = some (.ref Ca)) (hm : Mk K Ca f) (hb : Binds K fd ps []) (Sc : FnScope N ps (defScope st)) (T : Tops K mg) (hG : AllG (GOk P w K mg base k) G)
    (hc : cSs G N body (defScope st) (defBody st) = true) : MakZ P w K mg base (k + 2) C ps.length (runFn G N.length body) :=
  ⟨k + 1, Ca, f, fd, ps, Nat.le_refl _, c1, c2, hm, rfl, fn_okZ F Sc T hG hc, hb⟩
theorem makZ_bad {C m qual : Str} {st : PySem.Stmt} {f Ca : Addr} {fd : FuncData} {ps : List Str} (F : Fun K m qual st f fd) (c1 : PySem.W.nsIn K mainGlobals C = some (some (.ref Ca))) (c2 : mg C = some (.ref Ca)) (hm : Mk K Ca f) (hb : Binds K fd ps []) : MakZ P w K mg base (k + 1) C ps.length (fun _ _ => .bad) :=
  ⟨k, Ca, f, fd, ps, Nat.le_refl _, c1, c2, hm, rfl, fn_badZ, hb⟩
theorem mthZ_bad {C m qual : Str} {st : PySem.Stmt} {f Ca : Addr} {fd : FuncData} {ps : List Str} (F : Fun K m qual st f fd) (c1 : PySem.W.nsIn K mainGlobals C = some (some (.ref Ca))) (c2 : Cls K Ca) (hm : Meth K Ca m f) (hb : Binds K fd ps []) : MthZ P w K mg base k C m ps.length (fun _ _ => .bad) :=
  ⟨Ca, f, fd, ps, c1, c2, hm, rfl, fn_badZ, hb⟩
theorem calZ {x qual : Str} {st : PySem.Stmt} {f : Addr} {fd : FuncData} {N ps : List Str} {G : GT} {body : Ss} (F : Fun K x qual st f fd) (hm : mg x = some (.ref f)) (hb : Binds K fd ps []) (Sc : FnScope N ps (defScope st)) (T : Tops K mg) (hG : AllG (GOk P w K mg base k) G)
    (hc : cSs G N body (defScope st) (defBody st) = true) : CalZ P w K mg base (k + 1) x ps.length (runFn G N.length body) :=
  ⟨f, fd, ps, rfl, fn_okZ F Sc T hG hc, hm, F.kp, hb⟩
theorem calZ_bad {x qual : Str} {st : PySem.Stmt} {f : Addr} {fd : FuncData} {ps : List Str} (F : Fun K x qual st f fd) (hm : mg x = some (.ref f)) (hb : Binds K fd ps []) : CalZ P w K mg base k x ps.length (fun _ _ => .bad) := ⟨f, fd, ps, rfl, fn_badZ, hm, F.kp, hb⟩
end
/-- what law(script) is to answer -/
def spLaw (K : PySem.W.Frag) : Sp := fun vs H Q _ => ∃ (a : Addr) (ns : List Int), vs = [.ref a] ∧ SqL K H a (ns.map V.int) ∧ ns.length ≤ 63 ∧ ∀ H', Q (.bl true) H'
theorem law_imp {K : PySem.W.Frag} {mg : Str → Option Value} {f : FnSem} (hf : ∀ ns : List Int, ns.length ≤ 63 → ∃ S', f [.v (.frl ns)] [] = .ok (.v (.bl true)) S') : ∀ vs H Q E, spLaw K vs H Q E → spZ K mg 1 f vs H Q E := by
  intro vs H Q E ⟨a, ns, hv, hS, hl, q⟩
  obtain ⟨S', e⟩ := hf ns hl
  refine ⟨by rw [hv]; rfl, H, [], [], [.v (.frl ns)], ⟨Same.refl _, rfl, fun i w e => by simp at e, rfl, List.nodup_nil, fun a m => by simp at m, fun i o e => by simp at e, fun _ _ e _ => e, fun a m => by simp at m, fun a o e => .inl ⟨o, e⟩, Same.refl _, List.prefix_refl _⟩, ?_, ?_⟩
  · rw [hv]
    exact ⟨.ref a, [], rfl, by simp only [RepW, RepD]; exact ⟨a, rfl, hS⟩, rfl⟩
  · rw [e]
    intro Hf' ρ' H' b e' h' r'
    cases tr_bl r'
    exact q H'
theorem hcx0 {P : Program} {w : World} {H : Hp} {s : Shared} {e : Value} {s' : Shared} (z : L2.CX P w [] H s (fun _ _ _ => False) e s') : False := by
  obtain ⟨_, _, _, _, _, _, _, _, _, _, _, _, q⟩ := z
  exact q
theorem walkZ {l : PySem.W.OpenLaw} {k : Nat} {x : Str} {q : Program} {loose : List Str} {XP : (Str → Option Value) → Heap → Prop} {YP : World → Heap → Prop} {d : DefRec} {K : Params → PySem.W.Frag} (hn : l.most = some 63) (hdf : d.params.defaults = []) (hr : Room k callerA)
    (hY : ∀ (w : World) (h : Heap), YP w h → (K w.params).In h)
    (F : ∀ (w : World) (mg : Str → Option Value) (fa : Addr) (h : Heap), (K w.params).In h → h.Ns mainGlobals mg → mg d.name = some (.ref fa) →
      ∃ fd : FuncData, (∀ (s : Shared) (u : Value), BindsTo s fd ⟨[u], []⟩ [(x, u)]) ∧ ∀ base : Heap, (K w.params).In base → base.Ns mainGlobals mg → FnOk l.prog w (K w.params) mg base (L2.CX l.prog w) k fa fd [x] (spLaw (K w.params))) :
    PySem.W.WalkO q loose XP YP l.row.toRowW d [] (fun f vs => PySem.call f vs) :=
  L2.walk_of (n := 63) (k := k) (x := x) (CX := fun w => L2.CX l.prog w) (sp := fun w => spLaw (K w.params)) hn (by decide) hdf hr hY F (fun _ _ a ns hl _ hS => ⟨a, ns, rfl, hS, hl, fun _ => rfl⟩) fun _ _ _ _ _ z => hcx0 z
end Zz

set_option Elab.async false
set_option linter.all false
set_option maxRecDepth 100000
set_option maxHeartbeats 4000000
set_option autoImplicit false
namespace Zz
open PySem PySem.Spec PyProof.Rows L2

/-! ### reasoning about results -/
def Ok {α : Type} (r : R α) (Q : α → Store → Prop) : Prop := ∃ a S, r = .ok a S ∧ Q a S
section
variable {α β : Type} {Q Q' : α → Store → Prop}
theorem Ok.k (a : α) (S : Store) : Ok (.ok a S) Q = Q a S := propext ⟨fun ⟨_, _, e, h⟩ => by cases e; exact h, fun h => ⟨_, _, rfl, h⟩⟩
theorem Ok.nb : Ok .bad Q = False := propext ⟨fun ⟨_, _, e, _⟩ => (by cases e), False.elim⟩
theorem Ok.b {r : R β} {f : β → Store → R α} : Ok (r.bind f) Q = Ok r fun b S => Ok (f b S) Q := by
  cases r with
  | ok b S => rw [R.bind_ok, Ok.k]
  | ex x S => exact propext ⟨fun ⟨_, _, e, _⟩ => (by cases e), fun ⟨_, _, e, _⟩ => (by cases e)⟩
  | bad => exact propext ⟨fun ⟨_, _, e, _⟩ => (by cases e), fun ⟨_, _, e, _⟩ => (by cases e)⟩
theorem Ok.m {r : R α} (h : Ok r Q) (k : ∀ a S, Q a S → Q' a S) : Ok r Q' := h.imp fun a h => h.imp fun S h => ⟨h.1, k _ _ h.2⟩
theorem Ok.i {c : Prop} [Decidable c] {r : R α} : Ok (if c then r else .bad) Q = (c ∧ Ok r Q) := by
  by_cases h : c
  · rw [if_pos h]; exact propext ⟨fun z => ⟨h, z⟩, fun z => z.2⟩
  · rw [if_neg h, Ok.nb]; exact propext ⟨fun z => z.elim, fun z => absurd z.1 h⟩
theorem Ok.x {r : R α} : Ok r Q ↔ ∃ a S, r = .ok a S ∧ Q a S := Iff.rfl
theorem Ok.ne {r : R α} (h : Ok r Q) : Ok r.noex Q := by obtain ⟨a, S, rfl, q⟩ := h; exact ⟨a, S, rfl, q⟩
theorem Ok.fin {r : R α} {a : α} {S : Store} (h : Ok r fun x T => x = a ∧ T = S) : r = .ok a S := by
  obtain ⟨_, _, e, rfl, rfl⟩ := h
  exact e
theorem Ok.of {r : R α} {a : α} {S : Store} (h : r = .ok a S) (q : Q a S) : Ok r Q := ⟨a, S, h, q⟩
end
/-- a loop, by what holds ahead of its i-th turn -/
theorem Ok.forE {f : D → Slots → Store → RS} {ds : List D} {σ : Slots} {S : Store} {Q : Fl × Slots → Store → Prop} (V : Nat → Slots → Store → Prop) (h0 : V 0 σ S)
    (hs : ∀ i (h : i < ds.length) σ S, V i σ S → Ok (f ds[i] σ S) fun p S1 => match p.1 with | .nx => V (i + 1) p.2 S1 | .ct => V (i + 1) p.2 S1 | .bk => Q (.nx, p.2) S1 | .rt w => Q (.rt w, p.2) S1)
    (he : ∀ σ S, V ds.length σ S → Q (.nx, σ) S) : Ok (forL f ds σ S) Q := by
  induction ds generalizing V σ S with
  | nil => exact Ok.of rfl (he _ _ h0)
  | cons d ds ih =>
    rw [forL, Ok.b]
    refine (hs 0 (Nat.zero_lt_succ _) σ S h0).m fun p S1 q => ?_
    obtain ⟨fl, σ1⟩ := p
    cases fl with
    | nx => exact ih (fun i => V (i + 1)) q (fun i h => hs (i + 1) (Nat.succ_lt_succ h)) he
    | ct => exact ih (fun i => V (i + 1)) q (fun i h => hs (i + 1) (Nat.succ_lt_succ h)) he
    | bk => exact Ok.of rfl q
    | rt w => exact Ok.of rfl q
/-- a loop that is never left -/
theorem Ok.for {f : D → Slots → Store → RS} {ds : List D} {σ : Slots} {S : Store} {Q : Fl × Slots → Store → Prop} (V : Nat → Slots → Store → Prop) (h0 : V 0 σ S)
    (hs : ∀ i (h : i < ds.length) σ S, V i σ S → Ok (f ds[i] σ S) fun p S1 => p.1 = .nx ∧ V (i + 1) p.2 S1)
    (he : ∀ σ S, V ds.length σ S → Q (.nx, σ) S) : Ok (forL f ds σ S) Q :=
  Ok.forE V h0 (fun i h σ S v => (hs i h σ S v).m fun p S1 ⟨e, q⟩ => by rw [e]; exact q) he
/-- a comprehension that leaves the store -/
theorem Ok.comp {f : D → Store → R (Option D)} {ds : List D} {S : Store} {Q : List D → Store → Prop} (g : D → Option D) (hs : ∀ d ∈ ds, f d S = .ok (g d) S) (he : Q (ds.filterMap g) S) : Ok (compM f ds S) Q := by
  have e : compM f ds S = .ok (ds.filterMap g) S := by
    clear he
    induction ds with
    | nil => rfl
    | cons d ds ih =>
      rw [compM, hs d List.mem_cons_self, R.bind_ok, ih fun x hx => hs x (List.mem_cons_of_mem _ hx), R.bind_ok, List.filterMap_cons]
      cases g d <;> rfl
  exact Ok.of e he
/-- a call of a def that sees no list -/
theorem Ok.call0 {n : Nat} {f : FnSem} {ws : List W} {S : Store} {Q : W → Store → Prop} {P : D → Prop} (hn : ws.length = n) (ha : argsOk 0 ws = true) (hf : Ok (f ws []) fun w _ => ∃ d, w = .v d ∧ P d) (k : ∀ d, P d → Q (.v d) S) :
    Ok (callW n f 0 ws S) Q := by
  obtain ⟨w, S', e, d, rfl, p⟩ := Ok.x.1 hf
  have : callW n f 0 ws S = .ok (.v d) S := by
    unfold callW
    rw [if_pos ⟨hn, Nat.zero_le _, ha, rfl⟩, List.take_zero, e]
    simp [obsOk]
  exact Ok.of this (k d p)
theorem Ok.run {G : GT} {n : Nat} {b : Ss} {ws : List W} {S : Store} {Q : W → Store → Prop} (h : Ok (eSs G b (ws.map some ++ List.replicate (n - ws.length) none) S) fun p S1 => match p.1 with | .rt w => Q w S1 | .nx => Q (.v .non) S1 | _ => False) :
    Ok (runFn G n b ws S) Q := by
  unfold runFn
  rw [Ok.b]
  refine h.m fun p S1 q => ?_
  obtain ⟨fl, σ⟩ := p
  cases fl with
  | nx => exact Ok.of rfl q
  | rt w => exact Ok.of rfl q
  | bk => exact q.elim
  | ct => exact q.elim

/-! ### places -/
theorem ixN_nat {n k : Nat} (h : k < n) : ixN n (k : Int) = some k := by
  unfold ixN
  rw [if_pos (by omega), if_pos (by omega)]; simp
theorem ixN_int {n : Nat} {i : Int} (h0 : 0 ≤ i) (h : i < n) : ixN n i = some i.toNat := by
  unfold ixN
  rw [if_pos h0, if_pos h]
theorem atI_nat {α : Type} {xs : List α} {k : Nat} (h : k < xs.length) : atI xs (k : Int) = some xs[k] := by
  unfold atI
  rw [ixN_nat h]; simp [h]
theorem atI_int {α : Type} {xs : List α} {i : Int} (h0 : 0 ≤ i) (h : i.toNat < xs.length) : atI xs i = some xs[i.toNat] := by
  unfold atI
  rw [ixN_int h0 (by omega)]; simp [h]
theorem atI_map {α β : Type} (g : α → β) (xs : List α) (i : Int) : atI (xs.map g) i = (atI xs i).map g := by
  unfold atI
  rw [List.length_map]
  cases ixN xs.length i <;> simp
theorem atI_zero {α : Type} (x : α) (xs : List α) : atI (x :: xs) 0 = some x := by
  have := atI_nat (xs := x :: xs) (k := 0) (Nat.zero_lt_succ _)
  simpa using this

/-! ### equality of data -/
theorem pds_map {α : Type} (f : α → D) : ∀ xs : List α, pds (xs.map f) = xs.map fun x => pd (f x)
  | [] => rfl
  | x :: xs => by rw [List.map_cons, List.map_cons, pds, pds_map f xs]
mutual
theorem eqD_refl : ∀ d : D, PyData.eqv (pd d) (pd d) = true
  | .non => by simp [pd, PyData.eqv]
  | .bl _ => by simp [pd, PyData.eqv]
  | .int _ => by simp [pd, PyData.eqv]
  | .str _ => by simp [pd, PyData.eqv]
  | .tup xs => by rw [pd, PyData.eqv]; exact eqDs_refl xs
  | .lst xs => by rw [pd, PyData.eqv]; exact eqDs_refl xs
  | .frl ns => by
    rw [pd, PyData.eqv]
    induction ns with
    | nil => simp [PyData.eqvAll]
    | cons n ns ih => simp [PyData.eqvAll, PyData.eqv, ih]
  | .dic _ _ => by simp [pd, PyData.eqv]
  | .obj _ _ _ => by simp [pd, PyData.eqv]
theorem eqDs_refl : ∀ ds : List D, PyData.eqvAll (pds ds) (pds ds) = true
  | [] => by simp [pds, PyData.eqvAll]
  | d :: ds => by rw [pds, PyData.eqvAll, eqD_refl d, eqDs_refl ds]; rfl
end
theorem eqD_self (d : D) : eqD d d = true := eqD_refl d
theorem eqD_int (i j : Int) : eqD (.int i) (.int j) = (i == j) := by simp [eqD, pd, PyData.eqv]
theorem eqD_tup (xs ys : List D) : eqD (.tup xs) (.tup ys) = eqDs xs ys := by simp [eqD, eqDs, pd, PyData.eqv]
theorem eqD_lst (xs ys : List D) : eqD (.lst xs) (.lst ys) = eqDs xs ys := by simp [eqD, eqDs, pd, PyData.eqv]
theorem eqDs_nil : eqDs [] [] = true := by simp [eqDs, pds, PyData.eqvAll]
theorem eqDs_cons (x y : D) (xs ys : List D) : eqDs (x :: xs) (y :: ys) = (eqD x y && eqDs xs ys) := by simp [eqDs, eqD, pds, PyData.eqvAll]
theorem okNs_ints (n : Nat) : ∀ xs : List Int, okNs n (xs.map .int) = true
  | [] => by simp [okNs]
  | x :: xs => by rw [List.map_cons, okNs, okNs_ints n xs]; cases n <;> rfl
theorem okD_ints (xs : List Int) : okD (.tup (xs.map .int)) = true := by unfold okD okN; exact okNs_ints _ _
theorem okD_lints (xs : List Int) : okD (.lst (xs.map .int)) = true := by unfold okD okN; exact okNs_ints _ _
theorem intsOf_map : ∀ xs : List Int, intsOf (xs.map .int) = some xs
  | [] => rfl
  | x :: xs => by rw [List.map_cons, intsOf, intsOf_map xs]; rfl

/-! ### order -/
theorem insI_comm (x y : Int) : ∀ l : List Int, insI x (insI y l) = insI y (insI x l)
  | [] => by
    simp only [insI]
    rcases Int.lt_trichotomy x y with h | rfl | h
    · rw [if_pos (by omega), if_neg (by omega)]
    · rfl
    · rw [if_neg (by omega), if_pos (by omega)]
  | j :: r => by
    have ih := insI_comm x y r
    simp only [insI]
    by_cases hx : x ≤ j <;> by_cases hy : y ≤ j <;> simp only [hx, hy, if_true, if_false, insI]
    · rcases Int.lt_trichotomy x y with h | rfl | h
      · rw [if_pos (by omega), if_neg (by omega)]
      · rfl
      · rw [if_neg (by omega), if_pos (by omega)]
    · rw [if_neg (by omega)]
    · rw [if_neg (by omega)]
    · rw [ih]
theorem sortI_same {a b : List Int} (h : List.Perm a b) : sortI a = sortI b := by
  induction h with
  | nil => rfl
  | cons x _ ih => simp only [sortI, ih]
  | swap x y l => simp only [sortI]; exact insI_comm _ _ _
  | trans _ _ i1 i2 => exact i1.trans i2
theorem insI_le (x : Int) : ∀ {l : List Int}, (∀ y ∈ l, x ≤ y) → insI x l = x :: l
  | [], _ => rfl
  | j :: r, h => by rw [insI, if_pos (h j List.mem_cons_self)]
theorem sortI_fix : ∀ {l : List Int}, l.Pairwise (· ≤ ·) → sortI l = l
  | [], _ => rfl
  | x :: l, h => by
    rw [List.pairwise_cons] at h
    rw [sortI, sortI_fix h.2, insI_le x h.1]
/-- the whole numbers below n -/
def upto (n : Nat) : List Int := (List.range n).map fun (i : Nat) => (i : Int)
theorem rgD_upto {b : Int} {n : Nat} (h : b = n) : rgD 0 b = (upto n).map .int := by
  subst h
  simp [rgD, upto, List.map_map, Function.comp_def]
theorem upto_sorted (n : Nat) : sortI (upto n) = upto n := by
  refine sortI_fix ?_
  unfold upto
  rw [List.pairwise_map]
  exact List.Pairwise.imp (fun h => by omega) (List.pairwise_lt_range (n := n))
theorem upto_len (n : Nat) : (upto n).length = n := by simp [upto]
/-- two places exchanged -/
theorem swap_perm (xs : List Int) (p o : Nat) (hp : p < xs.length) (ho : o < xs.length) : List.Perm ((xs.set p xs[o]).set o xs[p]) xs := by
  rw [List.perm_iff_count]
  intro a
  rw [List.count_set (by simpa using ho), List.count_set hp]
  have e : (xs.set p xs[o])[o]'(by simpa using ho) = xs[o] := by
    rw [List.getElem_set]; split <;> rfl
  rw [e]
  have c1 : xs[p] == a → 0 < xs.count a := fun h => List.count_pos_iff.2 (by rw [← eq_of_beq h]; exact List.getElem_mem _)
  have c2 : xs[o] == a → 0 < xs.count a := fun h => List.count_pos_iff.2 (by rw [← eq_of_beq h]; exact List.getElem_mem _)
  by_cases h1 : (xs[p] == a) = true <;> by_cases h2 : (xs[o] == a) = true <;> simp only [h1, h2, if_true, if_false, Bool.false_eq_true] <;> (try have := c1 h1) <;> (try have := c2 h2) <;> omega
end Zz
namespace Zz
open PySem PySem.Spec PyProof.Rows L2
/-! ### one step of the semantics, loops left folded -/
def turn (G : GT) (t : T) (b : Ss) : D → Slots → Store → RS := fun d σ S => (aT G t (.v d) σ S).bind fun σ1 S2 => eSs G b σ1 S2
def cstep (G : GT) (own : List Nat) (t : T) (cond : Es) (elt : E) (σ : Slots) : D → Store → R (Option D) := fun d S2 => ((aT G t (.v d) (wipeW σ own) S2).bind fun σ1 S3 => (eC G cond σ1 S3).bind fun c S4 => if c then (eE G elt σ1 S4).bind fun w S5 => match w with | .v e => .ok (some e) S5 | _ => .bad else .ok none S4).noex
section
variable (G : GT) (σ : Slots) (S : Store)
theorem xS_asg (t : T) (e : E) : eS G (.asg t e) σ S = (eE G e σ S).bind fun w S1 => (aT G t w σ S1).bind fun σ1 S2 => .ok (.nx, σ1) S2 := rfl
theorem xS_par (i j : Nat) (a b : E) : eS G (.par i j a b) σ S = (eE G a σ S).bind fun x S1 => (eE G b σ S1).bind fun y S2 => .ok (.nx, (σ.set i (some x)).set j (some y)) S2 := rfl
theorem xS_aug (i : Nat) (op : Operator) (e : E) : eS G (.aug i op e) σ S = match σ[i]? with
    | some (some x) => (eE G e σ S).bind fun y S1 => (augW op x y S1).bind fun z S2 => .ok (.nx, σ.set i (some z)) S2
    | _ => .bad := rfl
theorem xS_expr (e : E) : eS G (.expr e) σ S = (eE G e σ S).bind fun _ S1 => .ok (.nx, σ) S1 := rfl
theorem xS_ret (e : E) : eS G (.ret e) σ S = (eE G e σ S).bind fun w S1 => .ok (.rt w, σ) S1 := rfl
theorem xS_retN : eS G .retN σ S = .ok (.rt (.v .non), σ) S := rfl
theorem xS_ifs (c : E) (a b : Ss) : eS G (.ifs c a b) σ S = ((eE G c σ S).bind truR).bind fun t S1 => if t then eSs G a σ S1 else eSs G b σ S1 := rfl
theorem xS_for (t : T) (it : I) (b : Ss) : eS G (.for_ t it b) σ S = (eI G it σ S).bind fun ds S1 => forL (turn G t b) ds σ S1 := rfl
theorem xS_pass : eS G .pass σ S = .ok (.nx, σ) S := rfl
theorem xS_brk : eS G .brk σ S = .ok (.bk, σ) S := rfl
theorem xS_cont : eS G .cont σ S = .ok (.ct, σ) S := rfl
theorem xE_comp (r : Bool) (own : List Nat) (t : T) (it : I) (cond : Es) (elt : E) : eE G (.comp r own t it cond elt) σ S = (eI G it σ S).bind fun ds S1 => if ds.length ≤ sizeLine then
      (compM (cstep G own t cond elt σ) ds S1).bind fun es S2 => newL r es S2
      else .bad := rfl
theorem xE_var (i : Nat) : eE G (.var i) σ S = match σ[i]? with | some (some w) => .ok w S | _ => .bad := rfl
theorem xE_cst (c : Const) : eE G (.cst c) σ S = match cstD c with | some d => .ok (.v d) S | none => .bad := rfl
theorem xE_glb (k : Nat) : eE G (.glb k) σ S = match G[k]? with | some (_, .con d) => .ok (.v d) S | _ => .bad := rfl
theorem xE_bin (op : Operator) (r : Bool) (a b : E) : eE G (.bin op r a b) σ S = (eE G a σ S).bind fun x S1 => (eE G b σ S1).bind fun y S2 => binW op r x y S2 := rfl
theorem xE_neg (a : E) : eE G (.neg a) σ S = (eE G a σ S).bind fun x S1 => match x with | .v (.int i) => .ok (.v (.int (-i))) S1 | _ => .bad := rfl
theorem xE_nt (a : E) : eE G (.nt a) σ S = (eE G a σ S).bind fun x S1 => match truW S1 x with | some b => .ok (.v (.bl (!b))) S1 | none => .bad := rfl
theorem xE_cmp (op : CmpOp) (a b : E) : eE G (.cmp op a b) σ S = (eE G a σ S).bind fun x S1 => (eE G b σ S1).bind fun y S2 => cmpW op x y S2 := rfl
theorem xE_chain (op op' : CmpOp) (a b c : E) : eE G (.chain op op' a b c) σ S = (eE G a σ S).bind fun x S1 => (eE G b σ S1).bind fun y S2 => (cmpW op x y S2).bind fun z S3 => match z with
      | .v (.bl true) => (eE G c σ S3).bind fun u S4 => cmpW op' y u S4
      | .v (.bl false) => .ok (.v (.bl false)) S3
      | _ => .bad := rfl
theorem xE_band (es : Es) : eE G (.band es) σ S = eAnd G es σ S := rfl
theorem xE_bor (es : Es) : eE G (.bor es) σ S = eOr G es σ S := rfl
theorem xE_ife (c a b : E) : eE G (.ife c a b) σ S = (eE G c σ S).bind fun x S1 => (truR x S1).bind fun t S2 => if t then eE G a σ S2 else eE G b σ S2 := rfl
theorem xE_tup (es : Es) : eE G (.tup es) σ S = (eEs G es σ S).bind tupW := rfl
theorem xE_lst (r : Bool) (es : Es) : eE G (.lst r es) σ S = (eEs G es σ S).bind (lstE r) := rfl
theorem xE_ix (a i : E) : eE G (.ix a i) σ S = (eE G a σ S).bind fun x S1 => (eE G i σ S1).bind fun y S2 => ixW x y S2 := rfl
theorem xE_sl (r : Bool) (a : E) (lo hi : P) : eE G (.sl r a lo hi) σ S = (eE G a σ S).bind fun x S1 => (eP G lo σ S1).bind fun l S2 => (eP G hi σ S2).bind fun h S3 => slW r x l h S3 := rfl
theorem xE_rev (r : Bool) (a : E) : eE G (.rev r a) σ S = (eE G a σ S).bind fun x S1 => revW r x S1 := rfl
theorem xE_call (k w : Nat) (es : Es) : eE G (.call k w es) σ S = (eEs G es σ S).bind fun ws S1 => match G[k]? with | some (_, .fn n f) => callW n f w ws S1 | _ => .bad := rfl
theorem xE_blt (b : Blt) (r : Bool) (es : Es) : eE G (.blt b r es) σ S = (eEs G es σ S).bind fun ws S1 => bltW b r ws S1 := rfl
theorem xE_isi (t : Ty) (a : E) : eE G (.isi t a) σ S = (eE G a σ S).bind fun x S1 => isiW t x S1 := rfl
theorem xE_lrng (r : Bool) (it : I) : eE G (.lrng r it) σ S = (eI G it σ S).bind fun ds S1 => if ds.length ≤ 2 ^ 24 then newL r ds S1 else .bad := rfl
theorem xE_mth (m : Mth) (r : Bool) (o : E) (es : Es) : eE G (.mth m r o es) σ S = (eE G o σ S).bind fun x S1 => if isLst x S1 then (eEs G es σ S1).bind fun ws S2 => mthW m r x ws S2 else .bad := rfl
theorem xE_fld (k j : Nat) (a : E) : eE G (.fld k j a) σ S = (eE G a σ S).bind fun x S1 => match G[k]? with | some (C, .cls fs) => fldW C fs j x S1 | _ => .bad := rfl
theorem xE_meth (k : Nat) (o : E) (es : Es) : eE G (.meth k o es) σ S = (eE G o σ S).bind fun x S1 => match G[k]? with
    | some (_, .mth C m n f) => if recvOk C m x S1 then (eEs G es σ S1).bind fun ws S2 => callV n f (x :: ws) S2 else .bad
    | _ => .bad := rfl
theorem xE_make (k : Nat) (es : Es) : eE G (.make k es) σ S = (eEs G es σ S).bind fun ws S1 => match G[k]? with | some (C, .mk fs n f) => makeW C fs n f ws S1 | _ => .bad := rfl
theorem xE_dnewK : eE G (.dnew false) σ S = .ok (.ref S.length) (S ++ [some (.dct [] [])]) := rfl
theorem xE_dnewT : eE G (.dnew true) σ S = .ok (.ref S.length) (S ++ [some (.dtt [] [])]) := rfl
theorem xE_tin (k : Nat) (neg : Bool) (a : E) : eE G (.tin k neg a) σ S = (eE G a σ S).bind fun x S1 => match G[k]? with | some (_, .tab ps) => (match tabW ps x with | some o => .ok (.v (.bl (if neg then !o.isSome else o.isSome))) S1 | none => .bad) | _ => .bad := rfl
theorem xE_tix (k : Nat) (a : E) : eE G (.tix k a) σ S = (eE G a σ S).bind fun x S1 => match G[k]? with | some (_, .tab ps) => (match tabW ps x with | some (some d) => .ok (.v d) S1 | _ => .bad) | _ => .bad := rfl
theorem xE_popk (o i : E) : eE G (.popk o i) σ S = (eE G o σ S).bind fun x S1 => if isDct x S1 then (eE G i σ S1).bind fun y S2 => popkW x y S2 else .bad := rfl
theorem xE_callV (k : Nat) (es : Es) : eE G (.callV k es) σ S = (eEs G es σ S).bind fun ws S1 => match G[k]? with | some (_, .fn n f) => callV n f ws S1 | _ => .bad := rfl
theorem xS_fst (k j : Nat) (o e : E) : eS G (.fst k j o e) σ S = (eE G e σ S).bind fun w S1 => (eE G o σ S1).bind fun x S2 => match G[k]? with
    | some (C, .cls fs) => (match setF C fs j x w S2 with | some S3 => .ok (.nx, σ) S3 | none => .bad)
    | _ => .bad := rfl
theorem xS_faug (k j : Nat) (o : E) (op : Operator) (e : E) : eS G (.faug k j o op e) σ S = (eE G o σ S).bind fun x S1 => match G[k]? with
    | some (C, .cls fs) => (fldRW C fs j x S1).bind fun y S2 => (eE G e σ S2).bind fun z S3 => (augW op y z S3).bind fun u S4 => match setF C fs j x u S4 with | some S5 => .ok (.nx, σ) S5 | none => .bad
    | _ => .bad := rfl
theorem xE_frz (a : E) : eE G (.frz a) σ S = (eE G a σ S).bind frzW := rfl
end
theorem le_sl {n : Nat} (h : n ≤ 1000) : (n ≤ sizeLine) = True := eq_true (Nat.le_trans h (by decide))
/-- what is to hold behind a statement: the rest of the row -/
def K (G : GT) (ss : Ss) (Q : Fl × Slots → Store → Prop) (p : Fl × Slots) (S : Store) : Prop := match p.1 with
  | .nx => Ok (eSs G ss p.2 S) Q
  | .rt w => Q (.rt w, p.2) S | .bk => Q (.bk, p.2) S | .ct => Q (.ct, p.2) S
section
variable {G : GT} {Q : Fl × Slots → Store → Prop} {σ : Slots} {S : Store}
theorem K_cons (s : Zz.S) (ss : Ss) : Ok (eSs G (.cons s ss) σ S) Q = Ok (eS G s σ S) (K G ss Q) := by
  rw [eSs, Ok.b]
  congr 1
  funext p S1
  obtain ⟨fl, σ1⟩ := p
  cases fl <;> simp only [K, Ok.k]
theorem xSs_nil : eSs G .nil σ S = .ok (.nx, σ) S := rfl
theorem K_nx (ss : Ss) : K G ss Q (.nx, σ) S = Ok (eSs G ss σ S) Q := rfl
theorem K_rt (ss : Ss) (w : W) : K G ss Q (.rt w, σ) S = Q (.rt w, σ) S := rfl
theorem K_bk (ss : Ss) : K G ss Q (.bk, σ) S = Q (.bk, σ) S := rfl
theorem K_ct (ss : Ss) : K G ss Q (.ct, σ) S = Q (.ct, σ) S := rfl
end
theorem at0 {α : Type} (a : α) (xs : List α) : atI (a :: xs) 0 = some a := atI_nat (k := 0) (xs := a :: xs) (by simp)
theorem at1 {α : Type} (a b : α) (xs : List α) : atI (a :: b :: xs) 1 = some b := atI_nat (k := 1) (xs := a :: b :: xs) (by simp)
theorem at2 {α : Type} (a b c : α) (xs : List α) : atI (a :: b :: c :: xs) 2 = some c := atI_nat (k := 2) (xs := a :: b :: c :: xs) (by simp)
theorem at3 {α : Type} (a b c d : α) (xs : List α) : atI (a :: b :: c :: d :: xs) 3 = some d := atI_nat (k := 3) (xs := a :: b :: c :: d :: xs) (by simp)
theorem at4 {α : Type} (a b c d e : α) (xs : List α) : atI (a :: b :: c :: d :: e :: xs) 4 = some e := atI_nat (k := 4) (xs := a :: b :: c :: d :: e :: xs) (by simp)
theorem at5 {α : Type} (a b c d e f : α) (xs : List α) : atI (a :: b :: c :: d :: e :: f :: xs) 5 = some f := atI_nat (k := 5) (xs := a :: b :: c :: d :: e :: f :: xs) (by simp)
theorem at6 {α : Type} (a b c d e f g : α) (xs : List α) : atI (a :: b :: c :: d :: e :: f :: g :: xs) 6 = some g := atI_nat (k := 6) (xs := a :: b :: c :: d :: e :: f :: g :: xs) (by simp)
theorem at7 {α : Type} (a b c d e f g h : α) (xs : List α) : atI (a :: b :: c :: d :: e :: f :: g :: h :: xs) 7 = some h := atI_nat (k := 7) (xs := a :: b :: c :: d :: e :: f :: g :: h :: xs) (by simp)
theorem eqD_str (x y : Str) : eqD (.str x) (.str y) = (x == y) := by simp [eqD, pd, PyData.eqv]
theorem eqD_bl (x y : Bool) : eqD (.bl x) (.bl y) = (x == y) := by simp [eqD, pd, PyData.eqv]
theorem okD_str (x : Str) : okD (.str x) = PyData.strOk x := by simp [okD, okN]
theorem okD_int (i : Int) : okD (.int i) = true := by simp [okD, okN]
theorem okD_bl (i : Bool) : okD (.bl i) = true := by simp [okD, okN]
theorem okD_non : okD .non = true := by simp [okD, okN]
/-- what is to hold behind a turn of a loop: the other turns -/
def L (f : D → Slots → Store → RS) (ds : List D) (Q : Fl × Slots → Store → Prop) (p : Fl × Slots) (S : Store) : Prop := match p.1 with
  | .nx => Ok (forL f ds p.2 S) Q
  | .ct => Ok (forL f ds p.2 S) Q
  | .rt w => Q (.rt w, p.2) S | .bk => Q (.nx, p.2) S
section
variable {f : D → Slots → Store → RS} {Q : Fl × Slots → Store → Prop} {σ : Slots} {S : Store} {ds : List D}
theorem L_cons (d : D) (ds : List D) : Ok (forL f (d :: ds) σ S) Q = Ok (f d σ S) (L f ds Q) := by
  rw [forL, Ok.b]
  congr 1
  funext p S1
  obtain ⟨fl, σ1⟩ := p
  cases fl <;> simp only [L, Ok.k]
theorem L_nil : forL f [] σ S = .ok (.nx, σ) S := rfl
theorem L_nx : L f ds Q (.nx, σ) S = Ok (forL f ds σ S) Q := rfl
theorem L_ct : L f ds Q (.ct, σ) S = Ok (forL f ds σ S) Q := rfl
theorem L_rt (w : W) : L f ds Q (.rt w, σ) S = Q (.rt w, σ) S := rfl
theorem L_bk : L f ds Q (.bk, σ) S = Q (.nx, σ) S := rfl
end
/-- a comprehension without a test, by what holds of the store and of each item -/
theorem Ok.compA {f : D → Store → R (Option D)} {ds : List D} {S : Store} {Q : List D → Store → Prop} (V : Store → Prop) (P : D → Prop) (h0 : V S) (hs : ∀ d ∈ ds, ∀ S, V S → Ok (f d S) fun o S1 => V S1 ∧ ∃ e, o = some e ∧ P e)
    (he : ∀ es S1, V S1 → (∀ e ∈ es, P e) → es.length = ds.length → Q es S1) : Ok (compM f ds S) Q := by
  induction ds generalizing S Q with
  | nil => exact Ok.of rfl (he [] S h0 (fun e h => absurd h (by simp)) rfl)
  | cons d ds ih =>
    rw [compM, Ok.b]
    refine (hs d List.mem_cons_self S h0).m ?_
    rintro _ S1 ⟨v1, e, rfl, pe⟩
    rw [Ok.b]
    refine ih v1 (fun d hd => hs d (List.mem_cons_of_mem _ hd)) ?_
    intro es S2 v2 pes hl
    rw [Ok.k]
    refine he (e :: es) S2 v2 ?_ (by simp [hl])
    intro x hx
    rcases List.mem_cons.1 hx with rfl | hx
    · exact pe
    · exact pes x hx
/-- an item of a row, at a place that is there -/
theorem Ok.at {xs : List D} {i : Int} {n : Nat} {S : Store} {Q : W → Store → Prop} (P : D → Prop) (hp : ∀ d ∈ xs, P d) (h : 0 ≤ i) (k : i < n) (hn : xs.length = n) (q : ∀ d, P d → Q (.v d) S) :
    Ok (match atI xs i with | some d => R.ok (W.v d) S | none => R.bad) Q := by
  have k2 : i.toNat < xs.length := by omega
  rw [atI_int h k2]
  exact Ok.of rfl (q _ (hp _ (List.getElem_mem k2)))
theorem popW_c (xs : List D) (x : D) (S : Store) : popW (.ref 0) [] (some (.lst (xs ++ [x])) :: S) = .ok (.v x) (some (.lst xs) :: S) := by simp [popW]
theorem emp_c {α : Type} (xs : List α) (x : α) : (xs ++ [x]).isEmpty = false := by cases xs <;> rfl
theorem emp_n {α : Type} : ([] : List α).isEmpty = true := rfl
theorem cut2 (a b c : D) : Zz.cutD [a, b, c] none (some 2) = [a, b] := rfl
theorem eqD_pair (a b c d : Int) : eqD (.tup [.int a, .int b]) (.tup [.int c, .int d]) = decide ((a, b) = (c, d)) := by
  rw [eqD_tup, eqDs_cons, eqDs_cons, eqDs_nil, eqD_int, eqD_int, Bool.and_true]
  by_cases h : a = c <;> by_cases k : b = d <;> simp [h, k]
theorem okD_pair (a b : Int) : okD (.tup [.int a, .int b]) = true := okD_ints [a, b]
end Zz

set_option Elab.async false
set_option linter.all false
set_option maxRecDepth 100000
set_option maxHeartbeats 4000000
set_option autoImplicit false
namespace Zl
open PySem PySem.Spec PyProof.Rows L2 Zz
/- parts_at(scripts, position, left, right) -/
def N_parts_at : List Str := ["scripts", "position", "left", "right", "first", "second", "index"]
def b_parts_at : Ss :=
  (.cons (.ifs (.bor (.cons (.nt (.isi .int (.var 1))) (.cons (.isi .bool (.var 1)) (.cons (.cmp .Lt (.var 1) (.cst (.int 1))) .nil)))) (.cons (.ret (.cst (.bool false)))
  .nil) .nil)
  (.cons .nev
  (.cons .nev
  (.cons .nev
  (.cons .nev
  .nil)))))
def G_parts_at : GT := []
def f_parts_at : FnSem := runFn G_parts_at 7 b_parts_at
/- is_paper(paper, kind, length) -/
def N_is_paper : List Str := ["paper", "kind", "length"]
def b_is_paper : Ss :=
  (.cons (.ret (.band (.cons (.isi .tuple (.var 0)) (.cons (.cmp .Eq (.blt .len false (.cons (.var 0) .nil)) (.var 2)) (.cons (.isi .str (.ix (.var 0) (.cst (.int 0)))) (.cons (.cmp .Eq (.ix (.var 0) (.cst (.int 0))) (.var 1)) .nil))))))
  .nil)
def G_is_paper : GT := []
def f_is_paper : FnSem := runFn G_is_paper 3 b_is_paper
/- leaves_of(tree, depth) -/
def N_leaves_of : List Str := ["tree", "depth", "left", "right"]
def b_leaves_of : Ss :=
  (.cons (.ifs (.call 1 0 (.cons (.var 0) (.cons (.cst (.str "leaf")) (.cons (.cst (.int 2)) .nil)))) (.cons (.ret (.lst false (.cons (.ix (.var 0) (.cst (.int 1))) .nil)))
  .nil) .nil)
  (.cons (.ifs (.bor (.cons (.cmp .Eq (.var 1) (.cst (.int 0))) (.cons (.nt (.call 1 0 (.cons (.var 0) (.cons (.cst (.str "fork")) (.cons (.cst (.int 4)) .nil))))) .nil))) (.cons (.ret (.cst .none))
  .nil) .nil)
  (.cons (.par 2 3 (.call 0 0 (.cons (.ix (.var 0) (.cst (.int 2))) (.cons (.bin .Sub false (.var 1) (.cst (.int 1))) .nil))) (.call 0 0 (.cons (.ix (.var 0) (.cst (.int 3))) (.cons (.bin .Sub false (.var 1) (.cst (.int 1))) .nil))))
  (.cons (.ret (.ife (.bor (.cons (.cmp .Is (.var 2) (.cst .none)) (.cons (.cmp .Is (.var 3) (.cst .none)) .nil))) (.cst .none) (.bin .Add false (.var 2) (.var 3))))
  .nil))))
def G_leaves_of (f : FnSem) : GT := [("leaves_of", .fn 2 f), ("is_paper", .fn 3 f_is_paper)]
def f_leaves_of : Nat → FnSem
  | 0 => fun _ _ => .bad
  | n + 1 => runFn (G_leaves_of (f_leaves_of n)) 4 b_leaves_of
theorem g_leaves_of_0 (f : FnSem) : (G_leaves_of f)[0]? = (some ("leaves_of", .fn 2 f) : Option (Str × Gv)) := rfl
theorem g_leaves_of_1 (f : FnSem) : (G_leaves_of f)[1]? = (some ("is_paper", .fn 3 f_is_paper) : Option (Str × Gv)) := rfl
/- level_of(scripts, tree) -/
def N_level_of : List Str := ["scripts", "tree", "left", "right"]
def b_level_of : Ss :=
  (.cons (.ifs (.cmp .Eq (.ix (.var 1) (.cst (.int 0))) (.cst (.str "leaf"))) (.cons (.ret (.cst (.int 1)))
  .nil) .nil)
  (.cons (.par 2 3 (.call 3 0 (.cons (.var 0) (.cons (.ix (.var 1) (.cst (.int 2))) .nil))) (.call 3 0 (.cons (.var 0) (.cons (.ix (.var 1) (.cst (.int 3))) .nil))))
  (.cons (.ifs (.bor (.cons (.cmp .Is (.var 2) (.cst .none)) (.cons (.cmp .Is (.var 3) (.cst .none)) .nil))) (.cons (.ret (.cst .none))
  .nil) .nil)
  (.cons (.ifs (.nt (.call 0 0 (.cons (.var 0) (.cons (.ix (.var 1) (.cst (.int 1))) (.cons (.call 1 0 (.cons (.ix (.var 1) (.cst (.int 2))) (.cons (.glb 2) .nil))) (.cons (.call 1 0 (.cons (.ix (.var 1) (.cst (.int 3))) (.cons (.glb 2) .nil))) .nil)))))) (.cons (.ret (.cst .none))
  .nil) .nil)
  (.cons .nev
  .nil)))))
def G_level_of (f : FnSem) : GT := [("parts_at", .fn 4 f_parts_at), ("leaves_of", .fn 2 (f_leaves_of 25)), ("MOST_DEPTH", .con (.int 20)), ("level_of", .fn 2 f)]
def f_level_of : Nat → FnSem
  | 0 => fun _ _ => .bad
  | n + 1 => runFn (G_level_of (f_level_of n)) 4 b_level_of
theorem g_level_of_0 (f : FnSem) : (G_level_of f)[0]? = (some ("parts_at", .fn 4 f_parts_at) : Option (Str × Gv)) := rfl
theorem g_level_of_1 (f : FnSem) : (G_level_of f)[1]? = (some ("leaves_of", .fn 2 (f_leaves_of 25)) : Option (Str × Gv)) := rfl
theorem g_level_of_2 (f : FnSem) : (G_level_of f)[2]? = (some ("MOST_DEPTH", .con (.int 20)) : Option (Str × Gv)) := rfl
theorem g_level_of_3 (f : FnSem) : (G_level_of f)[3]? = (some ("level_of", .fn 2 f) : Option (Str × Gv)) := rfl
/- position_of(script) -/
def N_position_of : List Str := ["script", "_", "steps"]
def b_position_of : Ss :=
  (.cons (.ret (.blt .sum false (.cons (.comp false [1, 1, 2] (.tup (.cons (.nm 1) (.cons (.nm 1) (.cons (.nm 2) .nil)))) (.seq (.ix (.var 0) (.cst (.int 1)))) .nil (.var 2)) .nil)))
  .nil)
def G_position_of : GT := []
def f_position_of : FnSem := runFn G_position_of 3 b_position_of
/- is_leaf(scripts, index) -/
def N_is_leaf : List Str := ["scripts", "index"]
def b_is_leaf : Ss :=
  (.cons (.ifs (.bor (.cons (.nt (.isi .int (.var 1))) (.cons (.isi .bool (.var 1)) (.cons (.nt (.chain .LtE .Lt (.cst (.int 0)) (.var 1) (.blt .len false (.cons (.var 0) .nil)))) .nil)))) (.cons (.ret (.cst (.bool false)))
  .nil) .nil)
  (.cons (.ret (.cmp .Gt (.call 0 0 (.cons (.ix (.var 0) (.var 1)) .nil)) (.cst (.int 0))))
  .nil))
def G_is_leaf : GT := [("position_of", .fn 1 f_position_of)]
def f_is_leaf : FnSem := runFn G_is_leaf 2 b_is_leaf
theorem g_is_leaf_0 : G_is_leaf[0]? = (some ("position_of", .fn 1 f_position_of) : Option (Str × Gv)) := rfl
/- is_too_few(scripts, registers, tree) -/
def N_is_too_few : List Str := ["scripts", "registers", "tree", "leaves", "level", "index"]
def b_is_too_few : Ss :=
  (.cons (.asg (.nm 3) (.call 2 0 (.cons (.var 2) (.cons (.glb 3) .nil))))
  (.cons (.ifs (.bor (.cons (.cmp .Is (.var 3) (.cst .none)) (.cons (.nt (.blt .all false (.cons (.comp false [5] (.nm 5) (.seq (.var 3)) .nil (.call 1 0 (.cons (.var 0) (.cons (.var 5) .nil)))) .nil))) .nil))) (.cons (.ret (.cst (.bool false)))
  .nil) .nil)
  (.cons (.asg (.nm 4) (.call 0 0 (.cons (.var 0) (.cons (.var 2) .nil))))
  (.cons (.ret (.band (.cons (.cmp .IsNot (.var 4) (.cst .none)) (.cons (.cmp .Gt (.var 4) (.var 1)) .nil))))
  .nil))))
def G_is_too_few : GT := [("level_of", .fn 2 (f_level_of 20)), ("is_leaf", .fn 2 f_is_leaf), ("leaves_of", .fn 2 (f_leaves_of 25)), ("MOST_DEPTH", .con (.int 20))]
def f_is_too_few : FnSem := runFn G_is_too_few 6 b_is_too_few
theorem g_is_too_few_0 : G_is_too_few[0]? = (some ("level_of", .fn 2 (f_level_of 20)) : Option (Str × Gv)) := rfl
theorem g_is_too_few_1 : G_is_too_few[1]? = (some ("is_leaf", .fn 2 f_is_leaf) : Option (Str × Gv)) := rfl
theorem g_is_too_few_2 : G_is_too_few[2]? = (some ("leaves_of", .fn 2 (f_leaves_of 25)) : Option (Str × Gv)) := rfl
theorem g_is_too_few_3 : G_is_too_few[3]? = (some ("MOST_DEPTH", .con (.int 20)) : Option (Str × Gv)) := rfl
/- Rehearsal.take(self, instruction) -/
def N_Rehearsal_take : List Str := ["self", "instruction", "kind", "slot", "seed", "stretches", "other"]
def b_Rehearsal_take : Ss :=
  (.cons (.asg (.tup (.cons (.nm 2) (.cons (.nm 3) .nil))) (.tup (.cons (.ix (.var 1) (.cst (.int 0))) (.cons (.ix (.var 1) (.cst (.int 1))) .nil))))
  (.cons (.ifs (.cmp .Eq (.cmp .Eq (.var 2) (.cst (.str "found"))) (.cmp .In (.var 3) (.fld 0 1 (.var 0)))) (.cons (.ret (.cst (.bool false)))
  .nil) .nil)
  (.cons .nev
  (.cons .nev
  (.cons .nev
  .nil)))))
def G_Rehearsal_take : GT := [("Rehearsal", .cls ["scripts", "held", "delivered", "steps", "most"])]
def f_Rehearsal_take : FnSem := runFn G_Rehearsal_take 7 b_Rehearsal_take
theorem g_Rehearsal_take_0 : G_Rehearsal_take[0]? = (some ("Rehearsal", .cls ["scripts", "held", "delivered", "steps", "most"]) : Option (Str × Gv)) := rfl
/- joined(stretches) -/
def N_joined : List Str := ["stretches", "found", "rate", "margin", "steps"]
def b_joined_l1 : Ss :=
  (.cons (.ifs (.band (.cons (.var 1) (.cons (.cmp .Eq (.sl false (.ix (.var 1) (.neg (.cst (.int 1)))) .no (.ex (.cst (.int 2)))) (.tup (.cons (.var 2) (.cons (.var 3) .nil)))) .nil))) (.cons (.aug 4 .Add (.ix (.mth .pop false (.var 1) .nil) (.cst (.int 2))))
  .nil) .nil)
  (.cons (.expr (.mth .append false (.var 1) (.cons (.tup (.cons (.var 2) (.cons (.var 3) (.cons (.var 4) .nil)))) .nil)))
  .nil))
def b_joined : Ss :=
  (.cons (.asg (.nm 1) (.lst true .nil))
  (.cons (.for_ (.tup (.cons (.nm 2) (.cons (.nm 3) (.cons (.nm 4) .nil)))) (.seq (.var 0)) b_joined_l1)
  (.cons (.ret (.blt .tuple false (.cons (.var 1) .nil)))
  .nil)))
def G_joined : GT := []
def f_joined : FnSem := runFn G_joined 5 b_joined
/- normal(script) -/
def N_normal : List Str := ["script"]
def b_normal : Ss :=
  (.cons (.ret (.tup (.cons (.ix (.var 0) (.cst (.int 0))) (.cons (.call 0 0 (.cons (.ix (.var 0) (.cst (.int 1))) .nil)) .nil))))
  .nil)
def G_normal : GT := [("joined", .fn 1 f_joined)]
def f_normal : FnSem := runFn G_normal 1 b_normal
theorem g_normal_0 : G_normal[0]? = (some ("joined", .fn 1 f_joined) : Option (Str × Gv)) := rfl
/- Rehearsal.__init__(self, scripts) -/
def N_Rehearsal_init : List Str := ["self", "scripts", "script"]
def b_Rehearsal_init : Ss :=
  (.cons (.fst 0 0 (.var 0) (.comp true [2] (.nm 2) (.seq (.var 1)) .nil (.call 1 0 (.cons (.var 2) .nil))))
  (.cons (.fst 0 1 (.var 0) (.dnew false))
  (.cons (.fst 0 2 (.var 0) (.lst true .nil))
  (.cons (.fst 0 3 (.var 0) (.cst (.int 0)))
  (.cons (.fst 0 4 (.var 0) (.cst (.int 0)))
  .nil)))))
def G_Rehearsal_init : GT := [("Rehearsal", .cls ["scripts", "held", "delivered", "steps", "most"]), ("normal", .fn 1 f_normal)]
def f_Rehearsal_init : FnSem := runFn G_Rehearsal_init 3 b_Rehearsal_init
theorem g_Rehearsal_init_0 : G_Rehearsal_init[0]? = (some ("Rehearsal", .cls ["scripts", "held", "delivered", "steps", "most"]) : Option (Str × Gv)) := rfl
theorem g_Rehearsal_init_1 : G_Rehearsal_init[1]? = (some ("normal", .fn 1 f_normal) : Option (Str × Gv)) := rfl
/- is_number(value, least, most) -/
def N_is_number : List Str := ["value", "least", "most"]
def b_is_number : Ss :=
  (.cons (.ret (.band (.cons (.isi .int (.var 0)) (.cons (.nt (.isi .bool (.var 0))) (.cons (.chain .LtE .LtE (.var 1) (.var 0) (.var 2)) .nil)))))
  .nil)
def G_is_number : GT := []
def f_is_number : FnSem := runFn G_is_number 3 b_is_number
/- is_stretch(value) -/
def N_is_stretch : List Str := ["value"]
def b_is_stretch : Ss :=
  (.cons (.ifs (.bor (.cons (.nt (.isi .tuple (.var 0))) (.cons (.cmp .NotEq (.blt .len false (.cons (.var 0) .nil)) (.cst (.int 3))) (.cons (.nt (.call 0 0 (.cons (.ix (.var 0) (.cst (.int 2))) (.cons (.cst (.int 1)) (.cons (.glb 3) .nil))))) .nil)))) (.cons (.ret (.cst (.bool false)))
  .nil) .nil)
  (.cons (.ret (.band (.cons (.call 0 0 (.cons (.ix (.var 0) (.cst (.int 0))) (.cons (.cst (.int 1)) (.cons (.glb 2) .nil)))) (.cons (.call 0 0 (.cons (.ix (.var 0) (.cst (.int 1))) (.cons (.cst (.int 0)) (.cons (.glb 1) .nil)))) .nil))))
  .nil))
def G_is_stretch : GT := [("is_number", .fn 3 f_is_number), ("MOST_MARGIN", .con (.int 1000000)), ("MOST_RATE", .con (.int 100)), ("MOST_STEPS", .con (.int 10000))]
def f_is_stretch : FnSem := runFn G_is_stretch 1 b_is_stretch
theorem g_is_stretch_0 : G_is_stretch[0]? = (some ("is_number", .fn 3 f_is_number) : Option (Str × Gv)) := rfl
theorem g_is_stretch_1 : G_is_stretch[1]? = (some ("MOST_MARGIN", .con (.int 1000000)) : Option (Str × Gv)) := rfl
theorem g_is_stretch_2 : G_is_stretch[2]? = (some ("MOST_RATE", .con (.int 100)) : Option (Str × Gv)) := rfl
theorem g_is_stretch_3 : G_is_stretch[3]? = (some ("MOST_STEPS", .con (.int 10000)) : Option (Str × Gv)) := rfl
/- is_instruction(value) -/
def N_is_instruction : List Str := ["value"]
def b_is_instruction : Ss :=
  (.cons (.ifs (.bor (.cons (.nt (.isi .tuple (.var 0))) (.cons (.nt (.var 0)) (.cons (.nt (.isi .str (.ix (.var 0) (.cst (.int 0))))) (.cons (.tin 4 true (.ix (.var 0) (.cst (.int 0)))) .nil))))) (.cons (.ret (.cst (.bool false)))
  .nil) .nil)
  (.cons (.ifs (.bor (.cons (.cmp .NotEq (.blt .len false (.cons (.var 0) .nil)) (.tix 4 (.ix (.var 0) (.cst (.int 0))))) (.cons (.nt (.call 0 0 (.cons (.ix (.var 0) (.cst (.int 1))) (.cons (.cst (.int 0)) (.cons (.glb 1) .nil))))) .nil))) (.cons (.ret (.cst (.bool false)))
  .nil) .nil)
  (.cons (.ifs (.cmp .Eq (.ix (.var 0) (.cst (.int 0))) (.cst (.str "found"))) (.cons (.ret (.call 0 0 (.cons (.ix (.var 0) (.cst (.int 2))) (.cons (.cst (.int 0)) (.cons (.glb 3) .nil)))))
  .nil) .nil)
  (.cons (.ifs (.cmp .Eq (.ix (.var 0) (.cst (.int 0))) (.cst (.str "train"))) (.cons (.ret (.call 2 0 (.cons (.sl false (.var 0) (.ex (.cst (.int 2))) .no) .nil)))
  .nil) .nil)
  (.cons (.ret (.bor (.cons (.cmp .Eq (.ix (.var 0) (.cst (.int 0))) (.cst (.str "free"))) (.cons (.call 0 0 (.cons (.ix (.var 0) (.cst (.int 2))) (.cons (.cst (.int 0)) (.cons (.glb 1) .nil)))) .nil))))
  .nil)))))
def G_is_instruction : GT := [("is_number", .fn 3 f_is_number), ("MOST_SLOT", .con (.int 99)), ("is_stretch", .fn 1 f_is_stretch), ("MOST_SEED", .con (.int 1000000)), ("LENGTHS", .tab [("found", some (.int 3)), ("copy", some (.int 3)), ("train", some (.int 5)), ("deliver", some (.int 3)), ("free", some (.int 2)), ("jump", none)])]
def f_is_instruction : FnSem := runFn G_is_instruction 1 b_is_instruction
theorem g_is_instruction_0 : G_is_instruction[0]? = (some ("is_number", .fn 3 f_is_number) : Option (Str × Gv)) := rfl
theorem g_is_instruction_1 : G_is_instruction[1]? = (some ("MOST_SLOT", .con (.int 99)) : Option (Str × Gv)) := rfl
theorem g_is_instruction_2 : G_is_instruction[2]? = (some ("is_stretch", .fn 1 f_is_stretch) : Option (Str × Gv)) := rfl
theorem g_is_instruction_3 : G_is_instruction[3]? = (some ("MOST_SEED", .con (.int 1000000)) : Option (Str × Gv)) := rfl
theorem g_is_instruction_4 : G_is_instruction[4]? = (some ("LENGTHS", .tab [("found", some (.int 3)), ("copy", some (.int 3)), ("train", some (.int 5)), ("deliver", some (.int 3)), ("free", some (.int 2)), ("jump", none)]) : Option (Str × Gv)) := rfl
/- is_enough(scripts, registers, plan) -/
def N_is_enough : List Str := ["scripts", "registers", "plan", "rehearsal", "instruction", "part"]
def b_is_enough_l1 : Ss :=
  (.cons (.ifs (.nt (.meth 1 (.var 3) (.cons (.var 4) .nil))) (.cons (.ret (.cst (.bool false)))
  .nil) .nil)
  .nil)
def b_is_enough : Ss :=
  (.cons (.ifs (.bor (.cons (.nt (.isi .tuple (.var 2))) (.cons (.nt (.blt .all false (.cons (.comp false [5] (.nm 5) (.seq (.var 2)) .nil (.call 3 0 (.cons (.var 5) .nil))) .nil))) .nil))) (.cons (.ret (.cst (.bool false)))
  .nil) .nil)
  (.cons (.asg (.nm 3) (.make 2 (.cons (.var 0) .nil)))
  (.cons (.for_ (.nm 4) (.seq (.var 2)) b_is_enough_l1)
  (.cons (.ifs (.bor (.cons (.cmp .NotEq (.blt .len false (.cons (.fld 0 2 (.var 3)) .nil)) (.blt .len false (.cons (.var 0) .nil))) (.cons (.cmp .Gt (.fld 0 4 (.var 3)) (.var 1)) .nil))) (.cons (.ret (.cst (.bool false)))
  .nil) .nil)
  (.cons .nev
  .nil)))))
def G_is_enough : GT := [("Rehearsal", .cls ["scripts", "held", "delivered", "steps", "most"]), ("take", .mth "Rehearsal" "take" 2 f_Rehearsal_take), ("Rehearsal", .mk ["scripts", "held", "delivered", "steps", "most"] 2 f_Rehearsal_init), ("is_instruction", .fn 1 f_is_instruction)]
def f_is_enough : FnSem := runFn G_is_enough 6 b_is_enough
theorem g_is_enough_0 : G_is_enough[0]? = (some ("Rehearsal", .cls ["scripts", "held", "delivered", "steps", "most"]) : Option (Str × Gv)) := rfl
theorem g_is_enough_1 : G_is_enough[1]? = (some ("take", .mth "Rehearsal" "take" 2 f_Rehearsal_take) : Option (Str × Gv)) := rfl
theorem g_is_enough_2 : G_is_enough[2]? = (some ("Rehearsal", .mk ["scripts", "held", "delivered", "steps", "most"] 2 f_Rehearsal_init) : Option (Str × Gv)) := rfl
theorem g_is_enough_3 : G_is_enough[3]? = (some ("is_instruction", .fn 1 f_is_instruction) : Option (Str × Gv)) := rfl
/- judge_registers(scripts, registers, paper) -/
def N_judge_registers : List Str := ["scripts", "registers", "paper"]
def b_judge_registers : Ss :=
  (.cons (.ifs (.call 1 0 (.cons (.var 2) (.cons (.cst (.str "plan")) (.cons (.cst (.int 2)) .nil)))) (.cons (.ret (.call 2 0 (.cons (.var 0) (.cons (.var 1) (.cons (.ix (.var 2) (.cst (.int 1))) .nil)))))
  .nil) .nil)
  (.cons (.ret (.band (.cons (.call 1 0 (.cons (.var 2) (.cons (.cst (.str "forks")) (.cons (.cst (.int 2)) .nil)))) (.cons (.call 0 0 (.cons (.var 0) (.cons (.var 1) (.cons (.ix (.var 2) (.cst (.int 1))) .nil)))) .nil))))
  .nil))
def G_judge_registers : GT := [("is_too_few", .fn 3 f_is_too_few), ("is_paper", .fn 3 f_is_paper), ("is_enough", .fn 3 f_is_enough)]
def f_judge_registers : FnSem := runFn G_judge_registers 3 b_judge_registers
theorem g_judge_registers_0 : G_judge_registers[0]? = (some ("is_too_few", .fn 3 f_is_too_few) : Option (Str × Gv)) := rfl
theorem g_judge_registers_1 : G_judge_registers[1]? = (some ("is_paper", .fn 3 f_is_paper) : Option (Str × Gv)) := rfl
theorem g_judge_registers_2 : G_judge_registers[2]? = (some ("is_enough", .fn 3 f_is_enough) : Option (Str × Gv)) := rfl
/- _law_stretches(_law_steps_here) -/
def N_law_stretches : List Str := ["_law_steps_here", "_law_found", "_law_step"]
def b_law_stretches_l1 : Ss :=
  (.cons (.ifs (.band (.cons (.cmp .Gt (.blt .len false (.cons (.var 1) .nil)) (.cst (.int 0))) (.cons (.cmp .Eq (.sl false (.ix (.var 1) (.neg (.cst (.int 1)))) .no (.ex (.cst (.int 2)))) (.var 2)) .nil))) (.cons (.asg (.sub (.var 1) (.neg (.cst (.int 1)))) (.bin .Add false (.var 2) (.tup (.cons (.bin .Add false (.ix (.ix (.var 1) (.neg (.cst (.int 1)))) (.cst (.int 2))) (.cst (.int 1))) .nil))))
  .nil) (.cons (.expr (.mth .append false (.var 1) (.cons (.bin .Add false (.var 2) (.tup (.cons (.cst (.int 1)) .nil))) .nil)))
  .nil))
  .nil)
def b_law_stretches : Ss :=
  (.cons (.asg (.nm 1) (.lst true .nil))
  (.cons (.for_ (.nm 2) (.seq (.var 0)) b_law_stretches_l1)
  (.cons (.ret (.blt .tuple false (.cons (.var 1) .nil)))
  .nil)))
def G_law_stretches : GT := []
def f_law_stretches : FnSem := runFn G_law_stretches 3 b_law_stretches
/- _law_steps(_law_script) -/
def N_law_steps : List Str := ["_law_script", "_law_found", "_law_rate", "_law_margin", "_law_many"]
def b_law_steps_l1 : Ss :=
  (.cons (.asg (.nm 1) (.bin .Add false (.var 1) (.bin .Mult false (.lst false (.cons (.tup (.cons (.var 2) (.cons (.var 3) .nil))) .nil)) (.var 4))))
  .nil)
def b_law_steps : Ss :=
  (.cons (.asg (.nm 1) (.lst false .nil))
  (.cons (.for_ (.tup (.cons (.nm 2) (.cons (.nm 3) (.cons (.nm 4) .nil)))) (.seq (.ix (.var 0) (.cst (.int 1)))) b_law_steps_l1)
  (.cons (.ret (.var 1))
  .nil)))
def G_law_steps : GT := []
def f_law_steps : FnSem := runFn G_law_steps 5 b_law_steps
/- _law_draws(_law_cell_here, _law_count) -/
def N_law_draws : List Str := ["_law_cell_here", "_law_count", "_law_result", "_law_rest", "_law_k", "_law_mixed"]
def b_law_draws_l1 : Ss :=
  (.cons (.asg (.nm 5) (.bin .Mod false (.blt .int false (.cons (.bin .Add false (.bin .Add false (.bin .Mult false (.var 0) (.cst (.int 48271))) (.bin .Mult false (.var 4) (.cst (.int 69621)))) (.cst (.int 1))) .nil)) (.cst (.int 2147483647))))
  (.cons (.ifs (.cmp .GtE (.var 0) (.bin .Pow false (.cst (.int 10)) (.cst (.int 18)))) (.cons (.expr (.mth .append false (.var 2) (.cons (.bin .Mod false (.var 3) (.cst (.int 1009))) .nil)))
  (.cons (.asg (.nm 3) (.bin .FloorDiv false (.var 3) (.cst (.int 1009))))
  .nil)) (.cons (.expr (.mth .append false (.var 2) (.cons (.bin .FloorDiv false (.bin .Mod false (.blt .int false (.cons (.bin .Add false (.bin .Mult false (.var 5) (.var 5)) (.bin .Mult false (.var 5) (.cst (.int 40692)))) .nil)) (.cst (.int 2147483399))) (.cst (.int 7))) .nil)))
  .nil))
  .nil))
def b_law_draws : Ss :=
  (.cons (.asg (.nm 2) (.lst true .nil))
  (.cons (.asg (.nm 3) (.blt .int false (.cons (.var 0) .nil)))
  (.cons (.for_ (.nm 4) (.rng1 (.var 1)) b_law_draws_l1)
  (.cons (.ret (.frz (.var 2)))
  .nil))))
def G_law_draws : GT := []
def f_law_draws : FnSem := runFn G_law_draws 6 b_law_draws
/- _law_scripts(_law_cell_here) -/
def N_law_scripts : List Str := ["_law_cell_here", "_law_n", "_law_settings", "_law_found", "_law_k", "_law_seed", "_law_stretches_here", "_law_j", "_law_other"]
def b_law_scripts_l2 : Ss :=
  (.cons (.asg (.nm 6) (.bin .Add false (.var 6) (.tup (.cons (.bin .Add false (.ix (.var 2) (.bin .Mod false (.ix (.var 1) (.bin .Add false (.bin .Add false (.cst (.int 6)) (.bin .Mult false (.cst (.int 9)) (.var 4))) (.var 7))) (.cst (.int 3)))) (.tup (.cons (.bin .Add false (.cst (.int 1)) (.bin .Mod false (.ix (.var 1) (.bin .Add false (.cst (.int 8)) (.bin .Mult false (.cst (.int 9)) (.var 4)))) (.cst (.int 3)))) .nil))) .nil))))
  .nil)
def b_law_scripts_l1 : Ss :=
  (.cons (.asg (.nm 5) (.bin .FloorDiv false (.bin .Mod false (.ix (.var 1) (.bin .Add false (.cst (.int 1)) (.bin .Mult false (.cst (.int 9)) (.var 4)))) (.cst (.int 5))) (.cst (.int 4))))
  (.cons (.asg (.nm 6) (.tup .nil))
  (.cons (.ifs (.band (.cons (.cmp .Gt (.blt .len false (.cons (.var 3) .nil)) (.cst (.int 0))) (.cons (.cmp .Gt (.bin .Mod false (.ix (.var 1) (.bin .Add false (.cst (.int 2)) (.bin .Mult false (.cst (.int 9)) (.var 4)))) (.cst (.int 5))) (.cst (.int 0))) .nil))) (.cons (.asg (.nm 8) (.ix (.var 3) (.bin .Mod false (.ix (.var 1) (.bin .Add false (.cst (.int 3)) (.bin .Mult false (.cst (.int 9)) (.var 4)))) (.blt .len false (.cons (.var 3) .nil)))))
  (.cons (.asg (.nm 5) (.ix (.var 8) (.cst (.int 0))))
  (.cons (.asg (.nm 6) (.call 0 0 (.cons (.sl false (.call 1 0 (.cons (.var 8) .nil)) .no (.ex (.bin .Mod false (.ix (.var 1) (.bin .Add false (.cst (.int 4)) (.bin .Mult false (.cst (.int 9)) (.var 4)))) (.bin .Add false (.cst (.int 1)) (.blt .len false (.cons (.call 1 0 (.cons (.var 8) .nil)) .nil)))))) .nil)))
  .nil))) .nil)
  (.cons (.for_ (.nm 7) (.rng1 (.bin .Mod false (.ix (.var 1) (.bin .Add false (.cst (.int 5)) (.bin .Mult false (.cst (.int 9)) (.var 4)))) (.cst (.int 3)))) b_law_scripts_l2)
  (.cons (.expr (.mth .append false (.var 3) (.cons (.tup (.cons (.var 5) (.cons (.var 6) .nil))) .nil)))
  .nil)))))
def b_law_scripts : Ss :=
  (.cons (.asg (.nm 1) (.call 2 0 (.cons (.blt .int false (.cons (.var 0) .nil)) (.cons (.cst (.int 55)) .nil))))
  (.cons (.asg (.nm 2) (.tup (.cons (.tup (.cons (.cst (.int 1)) (.cons (.cst (.int 0)) .nil))) (.cons (.tup (.cons (.cst (.int 2)) (.cons (.cst (.int 0)) .nil))) (.cons (.tup (.cons (.cst (.int 1)) (.cons (.cst (.int 5)) .nil))) .nil)))))
  (.cons (.asg (.nm 3) (.lst true .nil))
  (.cons (.for_ (.nm 4) (.rng1 (.bin .Add false (.cst (.int 1)) (.bin .Mod false (.ix (.var 1) (.cst (.int 0))) (.cst (.int 6))))) b_law_scripts_l1)
  (.cons (.ret (.blt .tuple false (.cons (.var 3) .nil)))
  .nil)))))
def G_law_scripts : GT := [("_law_stretches", .fn 1 f_law_stretches), ("_law_steps", .fn 1 f_law_steps), ("_law_draws", .fn 2 f_law_draws)]
def f_law_scripts : FnSem := runFn G_law_scripts 9 b_law_scripts
theorem g_law_scripts_0 : G_law_scripts[0]? = (some ("_law_stretches", .fn 1 f_law_stretches) : Option (Str × Gv)) := rfl
theorem g_law_scripts_1 : G_law_scripts[1]? = (some ("_law_steps", .fn 1 f_law_steps) : Option (Str × Gv)) := rfl
theorem g_law_scripts_2 : G_law_scripts[2]? = (some ("_law_draws", .fn 2 f_law_draws) : Option (Str × Gv)) := rfl
/- _law_cell(_law_script, _law_k) -/
def N_law_cell : List Str := ["_law_script", "_law_k"]
def b_law_cell : Ss :=
  (.cons (.ifs (.cmp .Lt (.var 1) (.blt .len false (.cons (.var 0) .nil))) (.cons (.ret (.ix (.var 0) (.var 1)))
  .nil) .nil)
  (.cons (.ret (.cst (.int 0)))
  .nil))
def G_law_cell : GT := []
def f_law_cell : FnSem := runFn G_law_cell 2 b_law_cell
/- law(_law_script) -/
def N_law : List Str := ["_law_script", "_law_scripts_here", "_law_deep", "_law_turn", "_law_things", "_law_thing"]
def b_law_l2 : Ss :=
  (.cons (.ifs (.bor (.cons (.call 0 0 (.cons (.var 1) (.cons (.cst (.int 1)) (.cons (.var 5) .nil)))) (.cons (.call 0 0 (.cons (.var 1) (.cons (.cst (.int 3)) (.cons (.var 5) .nil)))) .nil))) (.cons (.ret (.cst (.bool false)))
  .nil) .nil)
  .nil)
def b_law_l1 : Ss :=
  (.cons (.asg (.nm 2) (.tup (.cons (.cst (.str "fork")) (.cons (.cst (.int 1)) (.cons (.var 2) (.cons (.tup (.cons (.cst (.str "leaf")) (.cons (.cst (.int 1)) .nil))) .nil))))))
  .nil)
def b_law : Ss :=
  (.cons (.asg (.nm 1) (.call 1 0 (.cons (.call 2 0 (.cons (.var 0) (.cons (.cst (.int 0)) .nil))) .nil)))
  (.cons (.asg (.nm 2) (.tup (.cons (.cst (.str "leaf")) (.cons (.cst (.int 0)) .nil))))
  (.cons (.for_ (.nm 3) (.rng1 (.cst (.int 60))) b_law_l1)
  (.cons (.asg (.nm 4) (.lst true (.cons (.cst .none) (.cons (.cst (.int 0)) (.cons (.cst (.str "plan")) (.cons (.cst (.str "forks")) (.cons (.tup .nil) (.cons (.lst false .nil) (.cons (.frz (.dnew false)) (.cons (.tup (.cons (.cst (.str "plan")) .nil)) (.cons (.tup (.cons (.cst (.str "plan")) (.cons (.cst .none) .nil))) (.cons (.tup (.cons (.cst (.str "plan")) (.cons (.tup .nil) .nil))) (.cons (.tup (.cons (.cst (.str "plan")) (.cons (.lst false .nil) .nil))) (.cons (.tup (.cons (.cst (.str "plan")) (.cons (.tup (.cons (.cst .none) .nil)) .nil))) (.cons (.tup (.cons (.cst (.str "plan")) (.cons (.tup (.cons (.tup .nil) .nil)) .nil))) .nil)))))))))))))))
  (.cons (.expr (.mth .extend false (.var 4) (.cons (.lst false (.cons (.tup (.cons (.cst (.str "plan")) (.cons (.tup (.cons (.tup (.cons (.cst (.str "found")) .nil)) .nil)) .nil))) (.cons (.tup (.cons (.cst (.str "plan")) (.cons (.tup (.cons (.tup (.cons (.cst (.str "found")) (.cons (.cst (.int 0)) .nil))) .nil)) .nil))) (.cons (.tup (.cons (.cst (.str "plan")) (.cons (.tup (.cons (.tup (.cons (.cst (.str "found")) (.cons (.cst (.int 0)) (.cons (.cst .none) .nil)))) .nil)) .nil))) (.cons (.tup (.cons (.cst (.str "plan")) (.cons (.tup (.cons (.tup (.cons (.cst (.str "jump")) (.cons (.cst (.int 0)) (.cons (.cst (.int 0)) .nil)))) .nil)) .nil))) .nil))))) .nil)))
  (.cons (.expr (.mth .extend false (.var 4) (.cons (.lst false (.cons (.tup (.cons (.cst (.str "plan")) (.cons (.tup (.cons (.tup (.cons (.cst (.str "free")) (.cons (.cst (.int 0)) .nil))) .nil)) .nil))) (.cons (.tup (.cons (.cst (.str "plan")) (.cons (.tup (.cons (.tup (.cons (.cst (.str "deliver")) (.cons (.cst (.int 0)) (.cons (.cst (.int 0)) .nil)))) .nil)) .nil))) (.cons (.tup (.cons (.cst (.str "plan")) (.cons (.tup (.cons (.tup (.cons (.cst (.str "train")) (.cons (.cst (.int 0)) (.cons (.cst (.int 1)) (.cons (.cst (.int 0)) (.cons (.cst (.int 0)) .nil)))))) .nil)) .nil))) (.cons (.tup (.cons (.cst (.str "plan")) (.cons (.tup (.cons (.tup (.cons (.cst (.int 0)) (.cons (.cst (.int 0)) (.cons (.cst (.int 0)) .nil)))) .nil)) .nil))) .nil))))) .nil)))
  (.cons (.expr (.mth .extend false (.var 4) (.cons (.lst false (.cons (.tup (.cons (.cst (.str "forks")) .nil)) (.cons (.tup (.cons (.cst (.str "forks")) (.cons (.cst .none) .nil))) (.cons (.tup (.cons (.cst (.str "forks")) (.cons (.tup .nil) .nil))) (.cons (.tup (.cons (.cst (.str "forks")) (.cons (.tup (.cons (.cst (.str "leaf")) .nil)) .nil))) (.cons (.tup (.cons (.cst (.str "forks")) (.cons (.tup (.cons (.cst (.str "leaf")) (.cons (.cst .none) .nil))) .nil))) (.cons (.tup (.cons (.cst (.str "forks")) (.cons (.tup (.cons (.cst (.str "leaf")) (.cons (.cst (.int 99)) .nil))) .nil))) .nil))))))) .nil)))
  (.cons (.expr (.mth .extend false (.var 4) (.cons (.lst false (.cons (.tup (.cons (.cst (.str "forks")) (.cons (.tup (.cons (.cst (.str "leaf")) (.cons (.neg (.cst (.int 1))) .nil))) .nil))) (.cons (.tup (.cons (.cst (.str "forks")) (.cons (.tup (.cons (.cst (.str "leaf")) (.cons (.cst (.int 0)) .nil))) .nil))) (.cons (.tup (.cons (.cst (.str "forks")) (.cons (.tup (.cons (.cst (.str "fork")) (.cons (.cst (.int 1)) (.cons (.tup (.cons (.cst (.str "leaf")) (.cons (.cst (.int 0)) .nil))) .nil)))) .nil))) (.cons (.tup (.cons (.cst (.str "forks")) (.cons (.tup (.cons (.cst (.str "fork")) (.cons (.cst .none) (.cons (.cst .none) (.cons (.cst .none) .nil))))) .nil))) .nil))))) .nil)))
  (.cons (.expr (.mth .extend false (.var 4) (.cons (.lst false (.cons (.tup (.cons (.cst (.str "forks")) (.cons (.tup (.cons (.cst (.str "fork")) (.cons (.cst .none) (.cons (.tup (.cons (.cst (.str "leaf")) (.cons (.cst (.int 0)) .nil))) (.cons (.tup (.cons (.cst (.str "leaf")) (.cons (.cst (.int 0)) .nil))) .nil))))) .nil))) (.cons (.tup (.cons (.cst (.str "forks")) (.cons (.var 2) .nil))) (.cons (.tup (.cons (.tup (.cons (.cst (.str "plan")) .nil)) (.cons (.tup .nil) .nil))) (.cons (.tup (.cons (.cst (.int 1)) (.cons (.tup .nil) .nil))) (.cons (.tup (.cons (.cst (.str "forks")) (.cons (.lst false (.cons (.tup (.cons (.cst (.str "leaf")) (.cons (.cst (.int 0)) .nil))) .nil)) .nil))) .nil)))))) .nil)))
  (.cons (.for_ (.nm 5) (.seq (.frz (.var 4))) b_law_l2)
  (.cons (.ret (.cst (.bool true)))
  .nil)))))))))))
def G_law : GT := [("judge_registers", .fn 3 f_judge_registers), ("_law_scripts", .fn 1 f_law_scripts), ("_law_cell", .fn 2 f_law_cell)]
def f_law : FnSem := runFn G_law 6 b_law
theorem g_law_0 : G_law[0]? = (some ("judge_registers", .fn 3 f_judge_registers) : Option (Str × Gv)) := rfl
theorem g_law_1 : G_law[1]? = (some ("_law_scripts", .fn 1 f_law_scripts) : Option (Str × Gv)) := rfl
theorem g_law_2 : G_law[2]? = (some ("_law_cell", .fn 2 f_law_cell) : Option (Str × Gv)) := rfl
local macro_rules | `(tactic| walk_at "zr") => `(tactic| try simp only [popW_c, atI_last, emp_c, emp_n, cut2, eqD_pair, okD_pair, extendW, wipeW, cat2, rep2, L_nil, L_nx, L_ct, L_rt, L_bk, K_cons, xSs_nil, K_nx, K_rt, K_bk, K_ct, xS_asg, xS_par, xS_aug, xS_expr, xS_ret, xS_retN, xS_ifs, xS_for, xS_pass, xS_brk, xS_cont, xE_comp, xE_var, xE_cst, xE_glb, xE_bin, xE_neg, xE_nt, xE_cmp, xE_chain, xE_band, xE_bor, xE_ife, xE_tup, xE_lst, xE_ix, xE_sl, xE_rev, xE_call, xE_blt, xE_isi, xE_lrng, xE_mth, xE_frz, xE_fld, xE_meth, xE_make, xE_dnewK, xE_dnewT, xE_popk, xE_tin, xE_tix, tabW, xE_callV, xS_fst, xS_faug, fldW, fldRW, setF, recvOk, dixW, dgetW, keyD, keyT, keysD, putD, isDct, popkW, eEs, eP, eI, aT, aTs, eAnd, eOr, eC, ↓Ok.b, Ok.k, Ok.i, List.map_cons, List.map_nil, List.length_cons, List.length_nil, List.cons_append, List.nil_append, List.append_nil, List.getElem?_cons_zero, List.getElem?_cons_succ,   cstD, binW, addW, subW, mulW, divW, modW, cmpW, ltW, eqW, isW, Zz.isNon, datW, truR, truW, seqW, lstW, ixW, newL, bltW, augW, revW, slW, partW, mthW, appendW, isLst, Option.bind, maxW, minW, sumW, allW, anyW, listW, bestOf, intsOf, blsOf, absW, lenW, intW, tupleW, sortedW, isiW, isTy, tupW, toDs, lstE, frzW, putW, tsLen, List.length_map, decide_true, decide_false, Bool.false_eq_true, if_true, if_false, ite_true, ite_false, Bool.not_true, Bool.not_false, le_sl, Nat.reduceSub, Nat.reduceAdd, Nat.reduceLeDiff, Nat.reduceEqDiff, Int.reduceEq, Int.reduceNe, Int.reduceNeg, Int.reduceLT, Int.reduceLE, Int.reduceAdd, Int.reduceSub, Int.reduceMul, Bool.and_true, Bool.true_and, Bool.and_false, Bool.false_and, beq_self_eq_true,  List.replicate, List.set_cons_zero, List.set_cons_succ, ne_eq, not_false_eq_true, not_true, true_and, and_true, Option.map, at0, at1, at2, at3, at4, at5, at6, at7, eqD_str, eqD_int, eqD_bl, okD_str, okD_int, okD_bl, okD_non, inW, flatD, List.any_cons, List.any_nil, List.all_cons, List.all_nil, Bool.or_false, Bool.or_true, Bool.true_or, Bool.false_or])
local macro_rules | `(tactic| walk_at "zs") => `(tactic| try simp only [popW_c, atI_last, emp_c, emp_n, cut2, eqD_pair, okD_pair, extendW, wipeW, cat2, rep2, L_nil, L_nx, L_ct, L_rt, L_bk, K_cons, xSs_nil, K_nx, K_rt, K_bk, K_ct, xS_asg, xS_par, xS_aug, xS_expr, xS_ret, xS_retN, xS_ifs, xS_for, xS_pass, xS_brk, xS_cont, xE_comp, xE_var, xE_cst, xE_glb, xE_bin, xE_neg, xE_nt, xE_cmp, xE_chain, xE_band, xE_bor, xE_ife, xE_tup, xE_lst, xE_ix, xE_sl, xE_rev, xE_call, xE_blt, xE_isi, xE_lrng, xE_mth, xE_frz, xE_fld, xE_meth, xE_make, xE_dnewK, xE_dnewT, xE_popk, xE_tin, xE_tix, tabW, xE_callV, xS_fst, xS_faug, fldW, fldRW, setF, recvOk, dixW, dgetW, keyD, keyT, keysD, putD, isDct, popkW, eEs, eP, eI, aT, aTs, eAnd, eOr, eC, ↓Ok.b, Ok.k, Ok.i, List.map_cons, List.map_nil, List.length_cons, List.length_nil, List.cons_append, List.nil_append, List.append_nil, List.getElem?_cons_zero, List.getElem?_cons_succ,   cstD, binW, addW, subW, mulW, divW, modW, cmpW, ltW, eqW, isW, Zz.isNon, datW, truR, truW, seqW, lstW, ixW, newL, bltW, augW, revW, slW, partW, mthW, appendW, isLst, Option.bind, maxW, minW, sumW, allW, anyW, listW, bestOf, intsOf, blsOf, absW, lenW, intW, tupleW, sortedW, isiW, isTy, tupW, toDs, lstE, frzW, putW, tsLen, List.length_map, decide_true, decide_false, Bool.false_eq_true, if_true, if_false, ite_true, ite_false, Bool.not_true, Bool.not_false, le_sl, Nat.reduceSub, Nat.reduceAdd, Nat.reduceLeDiff, Nat.reduceEqDiff, Int.reduceEq, Int.reduceNe, Int.reduceNeg, Int.reduceLT, Int.reduceLE, Int.reduceAdd, Int.reduceSub, Int.reduceMul, Bool.and_true, Bool.true_and, Bool.and_false, Bool.false_and, beq_self_eq_true,  List.replicate, List.set_cons_zero, List.set_cons_succ, ne_eq, not_false_eq_true, not_true, true_and, and_true, Option.map, at0, at1, at2, at3, at4, at5, at6, at7, eqD_str, eqD_int, eqD_bl, okD_str, okD_int, okD_bl, okD_non, inW, flatD, List.any_cons, List.any_nil, List.all_cons, List.all_nil, Bool.or_false, Bool.or_true, Bool.true_or, Bool.false_or, *])
local macro_rules | `(tactic| walk_at "zp") => `(tactic| try simp only [Option.isSome_some, Option.isSome_none, Nat.reduceLT, Nat.lt_irrefl, reduceCtorEq, false_and, and_false, popW_c, atI_last, emp_c, emp_n, cut2, eqD_pair, okD_pair, extendW, wipeW, cat2, rep2, L_nil, L_nx, L_ct, L_rt, L_bk, K_cons, xSs_nil, K_nx, K_rt, K_bk, K_ct, xS_asg, xS_par, xS_aug, xS_expr, xS_ret, xS_retN, xS_ifs, xS_for, xS_pass, xS_brk, xS_cont, xE_comp, xE_var, xE_cst, xE_glb, xE_bin, xE_neg, xE_nt, xE_cmp, xE_chain, xE_band, xE_bor, xE_ife, xE_tup, xE_lst, xE_ix, xE_sl, xE_rev, xE_call, xE_blt, xE_isi, xE_lrng, xE_mth, xE_frz, xE_fld, xE_meth, xE_make, xE_dnewK, xE_dnewT, xE_popk, xE_tin, xE_tix, tabW, xE_callV, xS_fst, xS_faug, fldW, fldRW, setF, recvOk, dixW, dgetW, keyD, keyT, keysD, putD, isDct, popkW, eEs, eP, eI, aT, aTs, eAnd, eOr, eC, ↓Ok.b, Ok.k, Ok.i, List.map_cons, List.map_nil, List.length_cons, List.length_nil, List.cons_append, List.nil_append, List.append_nil, List.getElem?_cons_zero, List.getElem?_cons_succ,   cstD, binW, addW, subW, mulW, divW, modW, cmpW, ltW, eqW, isW, Zz.isNon, datW, truR, truW, seqW, lstW, ixW, newL, bltW, augW, revW, slW, partW, mthW, appendW, isLst, Option.bind, maxW, minW, sumW, allW, anyW, listW, bestOf, intsOf, blsOf, absW, lenW, intW, tupleW, sortedW, isiW, isTy, tupW, toDs, lstE, frzW, putW, tsLen, List.length_map, decide_true, decide_false, Bool.false_eq_true, if_true, if_false, ite_true, ite_false, Bool.not_true, Bool.not_false, le_sl, Nat.reduceSub, Nat.reduceAdd, Nat.reduceLeDiff, Nat.reduceEqDiff, Int.reduceEq, Int.reduceNe, Int.reduceNeg, Int.reduceLT, Int.reduceLE, Int.reduceAdd, Int.reduceSub, Int.reduceMul, Bool.and_true, Bool.true_and, Bool.and_false, Bool.false_and, beq_self_eq_true,  List.replicate, List.set_cons_zero, List.set_cons_succ, ne_eq, not_false_eq_true, not_true, true_and, and_true, Option.map, at0, at1, at2, at3, at4, at5, at6, at7, eqD_str, eqD_int, eqD_bl, okD_str, okD_int, okD_bl, okD_non, inW, flatD, List.any_cons, List.any_nil, List.all_cons, List.all_nil, Bool.or_false, Bool.or_true, Bool.true_or, Bool.false_or])
local macro_rules | `(tactic| walk_at "zo") => `(tactic| try simp only [Option.isSome_some, Option.isSome_none, Nat.reduceLT, Nat.lt_irrefl, reduceCtorEq, false_and, and_false, popW_c, atI_last, emp_c, emp_n, cut2, eqD_pair, okD_pair, extendW, wipeW, cat2, rep2, L_nil, L_nx, L_ct, L_rt, L_bk, K_cons, xSs_nil, K_nx, K_rt, K_bk, K_ct, xS_asg, xS_par, xS_aug, xS_expr, xS_ret, xS_retN, xS_ifs, xS_for, xS_pass, xS_brk, xS_cont, xE_comp, xE_var, xE_cst, xE_glb, xE_bin, xE_neg, xE_nt, xE_cmp, xE_chain, xE_band, xE_bor, xE_ife, xE_tup, xE_lst, xE_ix, xE_sl, xE_rev, xE_call, xE_blt, xE_isi, xE_lrng, xE_mth, xE_frz, xE_fld, xE_meth, xE_make, xE_dnewK, xE_dnewT, xE_popk, xE_tin, xE_tix, tabW, xE_callV, xS_fst, xS_faug, fldW, fldRW, setF, recvOk, dixW, dgetW, keyD, keyT, keysD, putD, isDct, popkW, eEs, eP, eI, aT, aTs, eAnd, eOr, eC, ↓Ok.b, Ok.k, Ok.i, List.map_cons, List.map_nil, List.length_cons, List.length_nil, List.cons_append, List.nil_append, List.append_nil, List.getElem?_cons_zero, List.getElem?_cons_succ,   cstD, binW, addW, subW, mulW, divW, modW, cmpW, ltW, eqW, isW, Zz.isNon, datW, truR, truW, seqW, lstW, ixW, newL, bltW, augW, revW, slW, partW, mthW, appendW, isLst, Option.bind, maxW, minW, sumW, allW, anyW, listW, bestOf, intsOf, blsOf, absW, lenW, intW, tupleW, sortedW, isiW, isTy, tupW, toDs, lstE, frzW, putW, tsLen, List.length_map, decide_true, decide_false, Bool.false_eq_true, if_true, if_false, ite_true, ite_false, Bool.not_true, Bool.not_false, le_sl, Nat.reduceSub, Nat.reduceAdd, Nat.reduceLeDiff, Nat.reduceEqDiff, Int.reduceEq, Int.reduceNe, Int.reduceNeg, Int.reduceLT, Int.reduceLE, Int.reduceAdd, Int.reduceSub, Int.reduceMul, Bool.and_true, Bool.true_and, Bool.and_false, Bool.false_and, beq_self_eq_true,  List.replicate, List.set_cons_zero, List.set_cons_succ, ne_eq, not_false_eq_true, not_true, true_and, and_true, Option.map, at0, at1, at2, at3, at4, at5, at6, at7, eqD_str, eqD_int, eqD_bl, okD_str, okD_int, okD_bl, okD_non, inW, flatD, List.any_cons, List.any_nil, List.all_cons, List.all_nil, Bool.or_false, Bool.or_true, Bool.true_or, Bool.false_or, *])
/-! cells and their draws (laws with digits of a cell) -/
theorem cell_ok (ns : List Int) (k : Nat) : Ok (f_law_cell [.v (.frl ns), .v (.int k)] []) fun w _ => ∃ d, w = .v d ∧ ∃ i, d = .int i := by
  unfold f_law_cell
  refine Ok.run ?_
  unfold b_law_cell
  by_cases h : k < ns.length
  · have e : decide ((k : Int) < (ns.length : Int)) = true := by simpa using h
    have e2 := atI_map D.int ns (k : Int)
    rw [atI_nat h] at e2
    walk_at "zr"
    walk_at "zs"
    exact ⟨_, rfl, _, rfl⟩
  · have e : decide ((k : Int) < (ns.length : Int)) = false := by simpa using h
    walk_at "zr"
    walk_at "zs"
    exact ⟨_, rfl, _, rfl⟩
theorem rng_ok {a b : Int} (h : -100000 ≤ a ∧ a ≤ 100000) (k : -100000 ≤ b ∧ b ≤ 100000) : rngOk a b = true := by
  unfold rngOk
  have e : (2 ^ 62 : Int) = 4611686018427387904 := by decide
  rw [e, decide_eq_true_eq]; omega
theorem upto_at (n i : Nat) (h : i < ((upto n).map D.int).length) : ((upto n).map D.int)[i] = .int (i : Nat) := by simp [upto]
theorem cmr {i j : Int} (h : -(2 ^ 64) < j ∧ j < 2 ^ 64) : CMul i j := .inr h
theorem fm_lt (a : Int) {m : Int} (h : 0 < m) : 0 ≤ a.fmod m ∧ a.fmod m < m := ⟨Int.fmod_nonneg_of_pos _ h, Int.fmod_lt_of_pos _ h⟩
theorem fd_nn {a m : Int} (h : 0 < m) (k : 0 ≤ a) : 0 ≤ a.fdiv m := by
  rw [Int.fdiv_eq_ediv_of_nonneg _ (by omega)]
  exact Int.ediv_nonneg k (by omega)
theorem app_map (ds : List Int) (d : Int) : ds.map D.int ++ [.int d] = (ds ++ [d]).map .int := by simp
def Nn (ds : List Int) : Prop := ∀ x ∈ ds, 0 ≤ x
theorem Nn.snoc {ds : List Int} (h : Nn ds) {x : Int} (k : 0 ≤ x) : Nn (ds ++ [x]) := fun y hy => by
  rcases List.mem_append.1 hy with hy | hy
  · exact h y hy
  · simp only [List.mem_singleton] at hy; subst hy; exact k
theorem draws_turn (k : Nat) (c n r : Int) (ds : List Int) (a b : Option W) (hk : k < 1000) (hd : ds.length = k) (nn : Nn ds) :
    Ok (turn G_law_draws (.nm 4) b_law_draws_l1 (.int k) [some (.v (.int c)), some (.v (.int n)), some (.ref 0), some (.v (.int r)), a, b] [some (.lst (ds.map .int))])
      fun p S1 => p.1 = .nx ∧ ∃ (r : Int) (ds' : List Int) (a b : Option W), p.2 = [some (.v (.int c)), some (.v (.int n)), some (.ref 0), some (.v (.int r)), a, b] ∧ S1 = [some (.lst (ds'.map .int))] ∧ ds'.length = k + 1 ∧ Nn ds' := by
  have c1 : CMul c 48271 := cmr (by decide)
  have c2 : CMul (k : Int) 69621 := cmr (by decide)
  have q := fm_lt (c * 48271 + (k : Int) * 69621 + 1) (m := 2147483647) (by decide)
  have c3 : ∀ d, CMul ((c * 48271 + (k : Int) * 69621 + 1).fmod 2147483647) d := fun d => .inl (by omega)
  have c4 : CPow 10 18 := ⟨by decide, by decide, by decide⟩
  have c5 : ∀ d, CDivN d 1009 := fun d => ⟨by decide, by decide⟩
  have c6 : ∀ d, CDivN d 7 := fun d => ⟨by decide, by decide⟩
  have c7 : k < sizeLine := Nat.lt_trans hk (by decide)
  unfold turn b_law_draws_l1
  walk_at "zs"
  simp only [powW]
  by_cases h : 10 ^ Int.toNat 18 ≤ c
  · have e1 : decide (10 ^ Int.toNat 18 ≤ c) = true := decide_eq_true h
    walk_at "zs"
    exact ⟨_, ds ++ [r.fmod 1009], _, _, rfl, by rw [app_map], by simp [hd], nn.snoc (fm_lt _ (by decide)).1⟩
  · have e1 : decide (10 ^ Int.toNat 18 ≤ c) = false := decide_eq_false h
    walk_at "zs"
    exact ⟨_, ds ++ [_], _, _, rfl, by rw [app_map], by simp [hd], nn.snoc (fd_nn (by decide) (fm_lt _ (by decide)).1)⟩
theorem draws_ok (c : Int) (n : Nat) (hn : n < 1000) : Ok (f_law_draws [.v (.int c), .v (.int n)] []) fun w _ => ∃ d, w = .v d ∧ ∃ ds : List Int, d = .lst (ds.map .int) ∧ ds.length = n ∧ Nn ds := by
  unfold f_law_draws
  refine Ok.run ?_
  have r1 : rngOk 0 n = true := rng_ok (by omega) (by omega)
  have e1 := rgD_upto (b := (n : Int)) (n := n) rfl
  unfold b_law_draws
  walk_at "zs"
  refine Ok.for (fun i σ S => ∃ (r : Int) (ds' : List Int) (a b : Option W), σ = [some (.v (.int c)), some (.v (.int n)), some (.ref 0), some (.v (.int r)), a, b] ∧ S = [some (.lst (ds'.map .int))] ∧ ds'.length = i ∧ Nn ds')
    ⟨_, [], _, _, rfl, rfl, rfl, fun _ h => absurd h (by simp)⟩ ?_ ?_
  · rintro i hi _ _ ⟨r, ds, a, b, rfl, rfl, hd, nn⟩
    have hi2 : i < n := by simpa [upto_len] using hi
    rw [upto_at]
    exact draws_turn i c n r ds a b (by omega) hd nn
  · rintro _ _ ⟨r, ds, a, b, rfl, rfl, hd, nn⟩
    walk_at "zr"
    refine ⟨_, rfl, ds, rfl, ?_, nn⟩
    rw [hd, List.length_map, upto_len]
theorem ix_mod {ds : List Int} (h : Nn ds) (hl : 0 < ds.length) (a : Int) : ∃ x, atI (ds.map D.int) (a.fmod (ds.length : Int)) = some (.int x) ∧ 0 ≤ x := by
  have q := fm_lt a (m := (ds.length : Int)) (by omega)
  rw [atI_map, atI_int q.1 (by omega)]
  exact ⟨_, rfl, h _ (List.getElem_mem _)⟩
theorem ix_nn {ds : List Int} (h : Nn ds) {a : Int} (h0 : 0 ≤ a) (hl : a < (ds.length : Int)) : ∃ x, atI (ds.map D.int) a = some (.int x) ∧ 0 ≤ x := by
  rw [atI_map, atI_int h0 (by omega)]
  exact ⟨_, rfl, h _ (List.getElem_mem _)⟩
/-! stretches: plain lists -/
abbrev Sg := Int × Int
abbrev Stt := Sg × Int
def psh (acc : List Stt) (s : Sg) (n : Int) : List Stt := match acc.getLast? with
  | some (t, k) => if t = s then acc.dropLast ++ [(s, n + k)] else acc ++ [(s, n)]
  | none => [(s, n)]
theorem psh_nil (s : Sg) (n : Int) : psh [] s n = [(s, n)] := rfl
theorem psh_eq (a : List Stt) (s : Sg) (n k : Int) : psh (a ++ [(s, k)]) s n = a ++ [(s, n + k)] := by simp [psh]
theorem psh_ne (a : List Stt) (s t : Sg) (n k : Int) (h : t ≠ s) : psh (a ++ [(t, k)]) s n = a ++ [(t, k), (s, n)] := by simp [psh, h]
theorem psh_ends (acc : List Stt) (s : Sg) (n : Int) : ∃ a k, psh acc s n = a ++ [(s, n + k)] ∧ ∀ m, psh acc s m = a ++ [(s, m + k)] := by
  rcases List.eq_nil_or_concat acc with rfl | ⟨a, ⟨t, k⟩, rfl⟩
  · exact ⟨[], 0, by simp [psh_nil], fun m => by simp [psh_nil]⟩
  · rw [List.concat_eq_append]
    by_cases h : t = s
    · subst h
      exact ⟨a, k, psh_eq _ _ _ _, fun m => psh_eq _ _ _ _⟩
    · exact ⟨a ++ [(t, k)], 0, by rw [psh_ne _ _ _ _ _ h]; simp, fun m => by rw [psh_ne _ _ _ _ _ h]; simp⟩
theorem psh_add (acc : List Stt) (s : Sg) (n m : Int) : psh (psh acc s n) s m = psh acc s (n + m) := by
  obtain ⟨a, k, e, f⟩ := psh_ends acc s n
  rw [e, psh_eq, f]
  congr 3; omega
def jn (l : List Stt) : List Stt := l.foldl (fun acc p => psh acc p.1 p.2) []
def rle (xs : List Sg) : List Stt := xs.foldl (fun acc s => psh acc s 1) []
def xp (l : List Stt) : List Sg := l.flatMap fun p => List.replicate p.2.toNat p.1
def Pos (l : List Stt) : Prop := ∀ p ∈ l, 1 ≤ p.2
theorem fold_rep (s : Sg) : ∀ (n : Nat) (acc : List Stt), (List.replicate (n + 1) s).foldl (fun acc s => psh acc s 1) acc = psh acc s (n + 1)
  | 0, acc => by simp
  | n + 1, acc => by
    rw [List.replicate_succ', List.foldl_append, fold_rep s n acc]
    simp only [List.foldl_cons, List.foldl_nil]
    rw [psh_add]
    congr 1
theorem fold_xp : ∀ (l : List Stt) (acc : List Stt), Pos l → l.foldl (fun acc p => psh acc p.1 p.2) acc = (xp l).foldl (fun acc s => psh acc s 1) acc
  | [], _, _ => rfl
  | (s, n) :: l, acc, h => by
    have hn : 1 ≤ n := h (s, n) List.mem_cons_self
    rw [xp, List.flatMap_cons, List.foldl_append, List.foldl_cons]
    obtain ⟨k, hk⟩ : ∃ k : Nat, n = k + 1 := ⟨(n - 1).toNat, by omega⟩
    have e : n.toNat = k + 1 := by omega
    dsimp only
    rw [e, fold_rep, ← hk]
    exact fold_xp l _ fun p hp => h p (List.mem_cons_of_mem _ hp)
theorem jn_rle (l : List Stt) (h : Pos l) : jn l = rle (xp l) := fold_xp l [] h
/-- neighbours differ -/
def Nrm : List Stt → Prop
  | [] => True
  | [p] => 1 ≤ p.2
  | p :: q :: l => 1 ≤ p.2 ∧ p.1 ≠ q.1 ∧ Nrm (q :: l)
theorem Nrm.snoc : ∀ {a : List Stt} {t : Sg} {k : Int} {s : Sg} {n : Int}, Nrm (a ++ [(t, k)]) → t ≠ s → 1 ≤ n → Nrm (a ++ [(t, k), (s, n)])
  | [], t, k, s, n, h, e, hn => ⟨h, e, hn⟩
  | [p], t, k, s, n, h, e, hn => ⟨h.1, h.2.1, h.2.2, e, hn⟩
  | p :: q :: a, t, k, s, n, h, e, hn => ⟨h.1, h.2.1, Nrm.snoc (a := q :: a) h.2.2 e hn⟩
theorem Nrm.last : ∀ {a : List Stt} {t : Sg} {k n : Int}, Nrm (a ++ [(t, k)]) → 1 ≤ n → Nrm (a ++ [(t, n + k)])
  | [], t, k, n, h, hn => by have : 1 ≤ k := h; show 1 ≤ n + k; omega
  | [p], t, k, n, h, hn => ⟨h.1, h.2.1, by have : 1 ≤ k := h.2.2; show 1 ≤ n + k; omega⟩
  | p :: q :: a, t, k, n, h, hn => ⟨h.1, h.2.1, Nrm.last (a := q :: a) h.2.2 hn⟩
theorem Nrm.psh {acc : List Stt} (h : Nrm acc) (s : Sg) {n : Int} (hn : 1 ≤ n) : Nrm (psh acc s n) := by
  rcases List.eq_nil_or_concat acc with rfl | ⟨a, ⟨t, k⟩, rfl⟩
  · exact hn
  · rw [List.concat_eq_append] at h ⊢
    by_cases e : t = s
    · subst e; rw [psh_eq]; exact h.last hn
    · rw [psh_ne _ _ _ _ _ e]; exact h.snoc e hn
theorem Nrm.pos : ∀ {l : List Stt}, Nrm l → Pos l
  | [], _ => fun _ h => absurd h (by simp)
  | [p], h => fun q hq => by simp only [List.mem_singleton] at hq; subst hq; exact h
  | p :: q :: l, h => fun r hr => by
    rcases List.mem_cons.1 hr with rfl | hr
    · exact h.1
    · exact Nrm.pos h.2.2 r hr
theorem xp_app (a b : List Stt) : xp (a ++ b) = xp a ++ xp b := by simp [xp]
theorem xp_psh {acc : List Stt} (h : Pos acc) (s : Sg) {n : Int} (hn : 0 ≤ n) : xp (psh acc s n) = xp acc ++ List.replicate n.toNat s := by
  rcases List.eq_nil_or_concat acc with rfl | ⟨a, ⟨t, k⟩, rfl⟩
  · simp [psh_nil, xp]
  · rw [List.concat_eq_append] at h ⊢
    have hk : 1 ≤ k := h (t, k) (by simp)
    by_cases e : t = s
    · subst e
      rw [psh_eq, xp_app, xp_app, List.append_assoc]
      congr 1
      simp only [xp, List.flatMap_cons, List.flatMap_nil, List.append_nil]
      rw [List.replicate_append_replicate]
      congr 1; omega
    · rw [psh_ne _ _ _ _ _ e, show a ++ [(t, k), (s, n)] = (a ++ [(t, k)]) ++ [(s, n)] by simp, xp_app]
      congr 1
      simp [xp]
theorem rle_fold : ∀ (xs : List Sg) (acc : List Stt), Nrm acc → Nrm (xs.foldl (fun acc s => psh acc s 1) acc) ∧ xp (xs.foldl (fun acc s => psh acc s 1) acc) = xp acc ++ xs
  | [], acc, h => ⟨h, by simp⟩
  | s :: xs, acc, h => by
    obtain ⟨i, j⟩ := rle_fold xs _ (h.psh s (n := 1) (by decide))
    refine ⟨i, ?_⟩
    rw [List.foldl_cons, j, xp_psh h.pos s (by decide)]
    simp
theorem rle_nrm (xs : List Sg) : Nrm (rle xs) := (rle_fold xs [] trivial).1
theorem rle_xp (xs : List Sg) : xp (rle xs) = xs := by rw [rle, (rle_fold xs [] trivial).2]; rfl
/-- the first of the stretches' steps -/
def cut : List Stt → Int → List Stt
  | [], _ => []
  | (s, n) :: l, k => if 0 < k then (s, min k n) :: cut l (k - min k n) else cut l (k - min k n)
theorem cut_le : ∀ (l : List Stt) (k : Int), k ≤ 0 → Pos l → xp (cut l k) = [] ∧ Pos (cut l k)
  | [], _, _, _ => ⟨rfl, fun _ h => absurd h (by simp [cut])⟩
  | (s, n) :: l, k, h, hp => by
    have hn : 1 ≤ n := hp (s, n) List.mem_cons_self
    rw [cut, if_neg (by omega)]
    have e : k - min k n = 0 := by omega
    rw [e]
    exact cut_le l 0 (by omega) fun p hq => hp p (List.mem_cons_of_mem _ hq)
theorem cut_xp : ∀ (l : List Stt) (k : Nat), Pos l → xp (cut l k) = (xp l).take k ∧ Pos (cut l k)
  | [], k, _ => ⟨by simp [cut, xp], fun _ h => absurd h (by simp [cut])⟩
  | (s, n) :: l, k, hp => by
    have hn : 1 ≤ n := hp (s, n) List.mem_cons_self
    have hl : Pos l := fun p hq => hp p (List.mem_cons_of_mem _ hq)
    by_cases h : 0 < k
    · rw [cut, if_pos (by omega)]
      have e : ((k : Int) - min (k : Int) n) = ((k - n.toNat : Nat) : Int) := by omega
      obtain ⟨i, j⟩ := cut_xp l (k - n.toNat) hl
      rw [e]
      constructor
      · show List.replicate (min (k : Int) n).toNat s ++ xp (cut l _) = (List.replicate n.toNat s ++ xp l).take k
        rw [i, List.take_append, List.take_replicate, List.length_replicate]
        congr 2; omega
      · intro p hq
        rcases List.mem_cons.1 hq with rfl | hq
        · show 1 ≤ min (k : Int) n; omega
        · exact j p hq
    · have e : (k : Int) ≤ 0 := by omega
      obtain ⟨i, j⟩ := cut_le _ _ e hp
      refine ⟨?_, j⟩
      rw [i, show k = 0 by omega]; simp
/-- common beginnings -/
def lcp : List Sg → List Sg → Nat
  | x :: xs, y :: ys => if x = y then lcp xs ys + 1 else 0
  | _, _ => 0
def csp : List Stt → List Stt → Int
  | (s, n) :: A, (t, m) :: B => if s ≠ t then 0 else if n ≠ m then min n m else n + csp A B
  | _, _ => 0
theorem lcp_rep (s : Sg) : ∀ (n : Nat) (xs ys : List Sg), lcp (List.replicate n s ++ xs) (List.replicate n s ++ ys) = n + lcp xs ys
  | 0, xs, ys => by simp
  | n + 1, xs, ys => by
    rw [List.replicate_succ, List.cons_append, List.cons_append, lcp, if_pos rfl, lcp_rep s n xs ys]; omega
theorem xp_cons (s : Sg) (n : Int) (l : List Stt) : xp ((s, n) :: l) = List.replicate n.toNat s ++ xp l := by simp [xp]
theorem Nrm.head {s : Sg} {n : Int} : ∀ {l : List Stt}, Nrm ((s, n) :: l) → 1 ≤ n ∧ Nrm l ∧ ∀ x xs, xp l = x :: xs → x ≠ s
  | [], h => ⟨h, trivial, fun x xs e => by simp [xp] at e⟩
  | (t, m) :: l, h => by
    refine ⟨h.1, h.2.2, fun x xs e => ?_⟩
    have hm : 1 ≤ m := h.2.2.pos (t, m) List.mem_cons_self
    rw [xp_cons, show m.toNat = (m.toNat - 1) + 1 by omega, List.replicate_succ, List.cons_append] at e
    cases e
    exact fun c => h.2.1 c.symm
theorem lcp_stop {s : Sg} (n : Nat) (xs ys : List Sg) (h : ∀ x l, xs = x :: l → x ≠ s) : lcp xs (List.replicate (n + 1) s ++ ys) = 0 := by
  cases xs with
  | nil => rfl
  | cons x l => rw [List.replicate_succ, List.cons_append, lcp, if_neg (h x l rfl)]
theorem lcp_comm : ∀ xs ys : List Sg, lcp xs ys = lcp ys xs
  | [], [] => rfl
  | [], _ :: _ => rfl
  | _ :: _, [] => rfl
  | x :: xs, y :: ys => by
    rw [lcp, lcp]
    by_cases h : x = y
    · rw [if_pos h, if_pos h.symm, lcp_comm xs ys]
    · rw [if_neg h, if_neg (Ne.symm h)]
theorem csp_lcp : ∀ (A B : List Stt), Nrm A → Nrm B → csp A B = lcp (xp A) (xp B)
  | [], _, _, _ => by simp [csp, xp, lcp]
  | (s, n) :: A, [], _, _ => by
    rw [lcp_comm]; simp [csp, xp, lcp]
  | (s, n) :: A, (t, m) :: B, hA, hB => by
    obtain ⟨hn, nA, fA⟩ := hA.head
    obtain ⟨hm, nB, fB⟩ := hB.head
    rw [csp, xp_cons, xp_cons]
    by_cases e : s = t
    · subst e
      rw [if_neg (by simp)]
      rcases Int.lt_trichotomy n m with h | h | h
      · rw [if_pos (by omega), show m.toNat = n.toNat + ((m - n).toNat - 1 + 1) by omega, ← List.replicate_append_replicate, List.append_assoc, lcp_rep, lcp_stop _ _ _ fA]
        omega
      · subst h
        rw [if_neg (by simp), lcp_rep, csp_lcp A B nA nB]; omega
      · rw [if_pos (by omega), show n.toNat = m.toNat + ((n - m).toNat - 1 + 1) by omega, ← List.replicate_append_replicate, List.append_assoc, lcp_rep, lcp_comm, lcp_stop _ _ _ fB]
        omega
    · rw [if_pos e, show n.toNat = (n.toNat - 1) + 1 by omega, show m.toNat = (m.toNat - 1) + 1 by omega, List.replicate_succ, List.replicate_succ, List.cons_append, List.cons_append, lcp, if_neg e]; rfl
theorem lcp_at : ∀ (xs ys : List Sg) (i : Nat) (h1 : i < xs.length) (h2 : i < ys.length), i ≤ lcp xs ys → (xs[i] = ys[i] ↔ i < lcp xs ys)
  | x :: xs, y :: ys, 0, _, _, _ => by
    rw [lcp]
    by_cases e : x = y
    · simp [e]
    · simp [e]
  | x :: xs, y :: ys, i + 1, h1, h2, h => by
    rw [lcp] at h ⊢
    by_cases e : x = y
    · rw [if_pos e] at h ⊢
      have := lcp_at xs ys i (by simpa using h1) (by simpa using h2) (by omega)
      simpa using this
    · rw [if_neg e] at h; omega
theorem lcp_le : ∀ xs ys : List Sg, lcp xs ys ≤ xs.length ∧ lcp xs ys ≤ ys.length
  | [], _ => by simp [lcp]
  | _ :: _, [] => by simp [lcp]
  | x :: xs, y :: ys => by
    have := lcp_le xs ys
    rw [lcp]
    split
    · simp only [List.length_cons]; omega
    · simp
theorem psh_len (acc : List Stt) (s : Sg) (n : Int) : (psh acc s n).length ≤ acc.length + 1 := by
  rcases List.eq_nil_or_concat acc with rfl | ⟨a, ⟨t, k⟩, rfl⟩
  · simp [psh_nil]
  · rw [List.concat_eq_append]
    by_cases e : t = s
    · subst e; rw [psh_eq]; simp
    · rw [psh_ne _ _ _ _ _ e]; simp
def sgD (s : Sg) : D := .tup [.int s.1, .int s.2]
def stD (p : Stt) : D := .tup [.int p.1.1, .int p.1.2, .int p.2]
/-- a script -/
def scD (s : Int) (l : List Stt) : D := .tup [.int s, .tup (l.map stD)]
theorem flat_rep (n : Nat) (s : Sg) : (List.replicate n [sgD s]).flatten = (List.replicate n s).map sgD := by
  induction n with
  | zero => rfl
  | succ n ih => rw [List.replicate_succ, List.replicate_succ, List.flatten_cons, ih]; rfl
theorem joined_turn (w : W) (acc : List Stt) (s : Sg) (n : Int) (a b c : Option W) (hl : acc.length ≤ 100000) :
    Ok (turn G_joined (.tup (.cons (.nm 2) (.cons (.nm 3) (.cons (.nm 4) .nil)))) b_joined_l1 (stD (s, n)) [some w, some (.ref 0), a, b, c] [some (.lst (acc.map stD))])
      fun p S1 => p.1 = .nx ∧ S1 = [some (.lst ((psh acc s n).map stD))] ∧ ∃ a b c, p.2 = [some w, some (.ref 0), a, b, c] := by
  obtain ⟨s1, s2⟩ := s
  have c1 : acc.length < sizeLine := Nat.lt_of_le_of_lt hl (by decide)
  unfold turn b_joined_l1 stD
  rcases List.eq_nil_or_concat acc with rfl | ⟨x, ⟨⟨t1, t2⟩, k⟩, rfl⟩
  · walk_at "zs"
    exact ⟨by decide, rfl, _, _, _, rfl⟩
  · rw [List.concat_eq_append] at c1 ⊢
    rw [List.map_append]
    have c2 : x.length + 1 < sizeLine := by simpa using c1
    by_cases h : (t1, t2) = (s1, s2)
    · have h2 : decide ((t1, t2) = (s1, s2)) = true := by simp [h]
      walk_at "zs"
      refine ⟨by omega, ?_, _, _, _, rfl⟩
      rw [psh_eq, List.map_append]; rfl
    · have h2 : decide ((t1, t2) = (s1, s2)) = false := by simp [h]
      walk_at "zs"
      refine ⟨by simpa using c2, ?_, _, _, _, rfl⟩
      rw [psh_ne _ _ _ _ _ h, List.map_append]; simp
theorem joined_loop (w : W) : ∀ (l acc : List Stt) (a b c : Option W) (hl : acc.length + l.length ≤ 100000) (Q : Fl × Slots → Store → Prop)
    (q : ∀ a b c, Q (.nx, [some w, some (.ref 0), a, b, c]) [some (.lst ((l.foldl (fun acc p => psh acc p.1 p.2) acc).map stD))]),
    Ok (forL (turn G_joined (.tup (.cons (.nm 2) (.cons (.nm 3) (.cons (.nm 4) .nil)))) b_joined_l1) (l.map stD) [some w, some (.ref 0), a, b, c] [some (.lst (acc.map stD))]) Q
  | [], acc, a, b, c, hl, Q, q => Ok.of rfl (q _ _ _)
  | (s, n) :: l, acc, a, b, c, hl, Q, q => by
    rw [List.map_cons, L_cons]
    rw [List.length_cons] at hl
    refine (joined_turn w acc s n a b c (by omega)).m ?_
    rintro ⟨_, _⟩ _ ⟨rfl, rfl, a, b, c, rfl⟩
    have := psh_len acc s n
    exact joined_loop w l _ a b c (by omega) Q q
theorem joined_ok (l : List Stt) (hl : l.length ≤ 100000) : Ok (f_joined [.v (.tup (l.map stD))] []) fun w _ => ∃ d, w = .v d ∧ d = .tup ((jn l).map stD) := by
  unfold f_joined
  refine Ok.run ?_
  unfold b_joined
  walk_at "zs"
  refine joined_loop (.v (.tup (l.map stD))) l [] _ _ _ (by simpa using hl) _ ?_
  intro a b c
  walk_at "zr"
  exact ⟨_, rfl, rfl⟩
theorem joined_okL (l : List Stt) (hl : l.length ≤ 100000) : Ok (f_joined [.v (.lst (l.map stD))] []) fun w _ => ∃ d, w = .v d ∧ d = .tup ((jn l).map stD) := by
  unfold f_joined
  refine Ok.run ?_
  unfold b_joined
  walk_at "zs"
  refine joined_loop (.v (.lst (l.map stD))) l [] _ _ _ (by simpa using hl) _ ?_
  intro a b c
  walk_at "zr"
  exact ⟨_, rfl, rfl⟩
theorem normal_ok (s : Int) (l : List Stt) (hl : l.length ≤ 100000) : Ok (f_normal [.v (scD s l)] []) fun w _ => ∃ d, w = .v d ∧ d = scD s (jn l) := by
  unfold f_normal
  refine Ok.run ?_
  have g0 := g_normal_0
  unfold b_normal scD
  walk_at "zs"
  refine Ok.call0 rfl rfl (joined_ok l hl) ?_
  rintro _ rfl
  walk_at "zr"
  exact ⟨_, rfl, rfl⟩
/-- each step's number of turns is small -/
theorem stp_at {xs : List Stt} {x : Stt} : atI ((xs ++ [x]).map stD) (-1) = some (stD x) := by
  rw [List.map_append]
  exact atI_last _ _
theorem set_last (xs : List Stt) (x y : Stt) : ixN (((xs ++ [x]).map stD).length) (-1) = some xs.length ∧ ((xs ++ [x]).map stD).set xs.length (stD y) = (xs ++ [y]).map stD := by
  constructor
  · unfold ixN
    rw [List.length_map, List.length_append, List.length_cons, List.length_nil, if_neg (by decide), if_pos (by omega)]
    congr 1
    omega
  · rw [List.map_append, List.map_append, List.set_append_right _ _ (by simp)]
    simp
theorem lst_turn (w : W) (acc : List Stt) (s : Sg) (a : Option W) (hl : acc.length ≤ 100000) :
    Ok (turn G_law_stretches (.nm 2) b_law_stretches_l1 (sgD s) [some w, some (.ref 0), a] [some (.lst (acc.map stD))])
      fun p S1 => p.1 = .nx ∧ S1 = [some (.lst ((psh acc s 1).map stD))] ∧ ∃ a, p.2 = [some w, some (.ref 0), a] := by
  obtain ⟨s1, s2⟩ := s
  have c1 : acc.length < sizeLine := Nat.lt_of_le_of_lt hl (by decide)
  unfold turn b_law_stretches_l1 sgD
  rcases List.eq_nil_or_concat acc with rfl | ⟨x, ⟨⟨t1, t2⟩, k⟩, rfl⟩
  · have e0 : decide ((0 : Int) < ((0 : Nat) : Int)) = false := by decide
    have e00 : decide ((0 : Int) < 0) = false := by decide
    walk_at "zo"
    exact ⟨by decide, rfl, _, rfl⟩
  · rw [List.concat_eq_append] at c1 ⊢
    have e1 : atI ((x ++ [((t1, t2), k)]).map stD) (-1) = some (.tup [.int t1, .int t2, .int k]) := stp_at
    have e2 := (set_last x ((t1, t2), k) ((s1, s2), k + 1)).1
    have e3 : ((x ++ [((t1, t2), k)]).map stD).set x.length (.tup [.int s1, .int s2, .int (k + 1)]) = (x ++ [((s1, s2), k + 1)]).map stD := (set_last x ((t1, t2), k) ((s1, s2), k + 1)).2
    have e4 : decide (0 < ((x ++ [((t1, t2), k)]).length : Int)) = true := decide_eq_true (by simp only [List.length_append, List.length_cons, List.length_nil]; omega)
    rw [List.length_map] at e2
    clear hl
    by_cases h : (t1, t2) = (s1, s2)
    · obtain ⟨rfl, rfl⟩ : t1 = s1 ∧ t2 = s2 := by simpa using h
      have h2 : decide ((t1, t2) = (t1, t2)) = true := by simp
      clear h
      walk_at "zo"
      refine ⟨?_, _, rfl⟩
      rw [psh_eq, Int.add_comm]
    · have h2 : decide ((t1, t2) = (s1, s2)) = false := by simp [h]
      walk_at "zo"
      refine ⟨?_, _, rfl⟩
      rw [psh_ne _ _ _ _ _ h, List.map_append, List.map_append, List.append_assoc]
      rfl
theorem le_xp : ∀ {l : List Stt} {q : Stt}, q ∈ l → q.2.toNat ≤ (xp l).length
  | [], _, h => absurd h (by simp)
  | (s, k) :: l, q, h => by
    rw [xp_cons, List.length_append, List.length_replicate]
    rcases List.mem_cons.1 h with rfl | h
    · exact Nat.le_add_right _ _
    · exact Nat.le_trans (le_xp h) (Nat.le_add_left _ _)
theorem len_xp : ∀ {l : List Stt}, Pos l → l.length ≤ (xp l).length
  | [], _ => Nat.zero_le _
  | (s, k) :: l, h => by
    rw [xp_cons, List.length_append, List.length_replicate, List.length_cons]
    have h1 : 1 ≤ k := h (s, k) List.mem_cons_self
    have h2 := len_xp (l := l) fun p hp => h p (List.mem_cons_of_mem _ hp)
    omega
theorem steps_turn (w : W) (acc : List Sg) (s : Sg) (n : Int) (a b c : Option W) (h1 : 1 ≤ n) (h2 : n ≤ 60000) (hl : acc.length ≤ 60000) :
    Ok (turn G_law_steps (.tup (.cons (.nm 2) (.cons (.nm 3) (.cons (.nm 4) .nil)))) b_law_steps_l1 (stD (s, n)) [some w, some (.v (.lst (acc.map sgD))), a, b, c] [])
      fun p S1 => p.1 = .nx ∧ S1 = [] ∧ ∃ a b c, p.2 = [some w, some (.v (.lst ((acc ++ List.replicate n.toNat s).map sgD))), a, b, c] := by
  obtain ⟨s1, s2⟩ := s
  have e1 := flat_rep n.toNat (s1, s2)
  have c1 : acc.length + n.toNat ≤ sizeLine := Nat.le_trans (by omega : acc.length + n.toNat ≤ 150000) (by decide)
  have c2 : 1 * n.toNat ≤ sizeLine := Nat.le_trans (by omega : 1 * n.toNat ≤ 100000) (by decide)
  have c3 : -(2 ^ 63) ≤ n ∧ n < 2 ^ 63 := ⟨by omega, by omega⟩
  unfold turn b_law_steps_l1 stD
  walk_at "zs"
  have e2 : (List.replicate n.toNat [D.tup [.int s1, .int s2]]).flatten = (List.replicate n.toNat (s1, s2)).map sgD := e1
  rw [e2, List.length_map, List.length_replicate, List.map_append]
  exact ⟨c1, _, _, _, rfl⟩
theorem steps_loop (w : W) : ∀ (l : List Stt) (acc : List Sg) (a b c : Option W) (h1 : Pos l) (hl : acc.length + (xp l).length ≤ 60000) (Q : Fl × Slots → Store → Prop)
    (q : ∀ a b c, Q (.nx, [some w, some (.v (.lst ((acc ++ xp l).map sgD))), a, b, c]) []),
    Ok (forL (turn G_law_steps (.tup (.cons (.nm 2) (.cons (.nm 3) (.cons (.nm 4) .nil)))) b_law_steps_l1) (l.map stD) [some w, some (.v (.lst (acc.map sgD))), a, b, c] []) Q
  | [], acc, a, b, c, h1, hl, Q, q => Ok.of rfl (by simpa [xp] using q a b c)
  | (s, n) :: l, acc, a, b, c, h1, hl, Q, q => by
    rw [List.map_cons, L_cons]
    rw [xp_cons, List.length_append, List.length_replicate] at hl
    have k1 : 1 ≤ n := h1 (s, n) List.mem_cons_self
    refine (steps_turn w acc s n a b c k1 (by omega) (by omega)).m ?_
    rintro ⟨_, _⟩ _ ⟨rfl, rfl, a, b, c, rfl⟩
    refine steps_loop w l _ a b c (fun p hp => h1 p (List.mem_cons_of_mem _ hp)) (by rw [List.length_append, List.length_replicate]; omega) Q ?_
    intro a b c
    rw [List.append_assoc, ← xp_cons]
    exact q a b c
theorem steps_ok (s : Int) (l : List Stt) (h : Pos l) (hl : (xp l).length ≤ 1000) : Ok (f_law_steps [.v (scD s l)] []) fun w _ => ∃ d, w = .v d ∧ d = .lst ((xp l).map sgD) := by
  unfold f_law_steps
  refine Ok.run ?_
  unfold b_law_steps scD
  walk_at "zr"
  refine steps_loop _ l [] _ _ _ h (by simp; omega) _ ?_
  intro a b c
  walk_at "zr"
  exact ⟨_, rfl, rfl⟩
theorem lst_loop (w : W) : ∀ (xs : List Sg) (acc : List Stt) (a : Option W) (hl : acc.length + xs.length ≤ 100000) (Q : Fl × Slots → Store → Prop)
    (q : ∀ a, Q (.nx, [some w, some (.ref 0), a]) [some (.lst ((xs.foldl (fun acc s => psh acc s 1) acc).map stD))]),
    Ok (forL (turn G_law_stretches (.nm 2) b_law_stretches_l1) (xs.map sgD) [some w, some (.ref 0), a] [some (.lst (acc.map stD))]) Q
  | [], acc, a, hl, Q, q => Ok.of rfl (q a)
  | s :: xs, acc, a, hl, Q, q => by
    rw [List.map_cons, L_cons]
    rw [List.length_cons] at hl
    refine (lst_turn w acc s a (by omega)).m ?_
    rintro ⟨_, _⟩ _ ⟨rfl, rfl, a, rfl⟩
    have := psh_len acc s 1
    exact lst_loop w xs _ a (by omega) Q q
theorem lst_ok (xs : List Sg) (hl : xs.length ≤ 100000) : Ok (f_law_stretches [.v (.lst (xs.map sgD))] []) fun w _ => ∃ d, w = .v d ∧ d = .tup ((rle xs).map stD) := by
  unfold f_law_stretches
  refine Ok.run ?_
  unfold b_law_stretches
  walk_at "zr"
  refine lst_loop _ xs [] _ (by simpa using hl) _ ?_
  intro a
  walk_at "zr"
  exact ⟨_, rfl, rfl⟩
theorem cut_to (xs : List D) (u : Int) (h : 0 ≤ u) : Zz.cutD xs none (some u) = xs.take u.toNat := by
  have e : (u.toNat : Int) = u := by omega
  unfold Zz.cutD
  rw [← e]
  simp only [HT.sIx_none, HT.sIx_nat, List.drop_zero, Nat.sub_zero, Int.toNat_natCast]
  rw [Nat.min_def]
  split
  · rfl
  · rw [List.take_of_length_le (Nat.le_refl _), List.take_of_length_le (by omega)]
/-- a script with its steps -/
abbrev Scr := Int × List Stt
def scE (p : Scr) : D := scD p.1 p.2
def GdS (B : Nat) (l : List Stt) : Prop := Pos l ∧ (xp l).length ≤ B
theorem GdS.snoc {B : Nat} {l : List Stt} (h : GdS B l) (s : Sg) {n : Int} (h1 : 1 ≤ n) (h2 : n ≤ 3) : GdS (B + 3) (l ++ [(s, n)]) := by
  refine ⟨fun p hp => ?_, ?_⟩
  · rcases List.mem_append.1 hp with hp | hp
    · exact h.1 p hp
    · simp only [List.mem_singleton] at hp; subst hp; exact h1
  · have := h.2
    rw [xp_app, List.length_append, xp_cons, List.length_append, List.length_replicate]
    show _ + (n.toNat + (xp []).length) ≤ _
    have : (xp []).length = 0 := rfl
    omega
def setD : D := .tup [.tup [.int 1, .int 0], .tup [.int 2, .int 0], .tup [.int 1, .int 5]]
theorem set_at (x : Int) : ∃ s : Sg, atI [D.tup [.int 1, .int 0], D.tup [.int 2, .int 0], D.tup [.int 1, .int 5]] (x.fmod 3) = some (.tup [.int s.1, .int s.2]) := by
  have q := fm_lt x (m := 3) (by decide)
  have : x.fmod 3 = 0 ∨ x.fmod 3 = 1 ∨ x.fmod 3 = 2 := by omega
  rcases this with e | e | e <;> rw [e]
  · exact ⟨(1, 0), rfl⟩
  · exact ⟨(2, 0), rfl⟩
  · exact ⟨(1, 5), rfl⟩
theorem in_turn (c : W) (ds : List Int) (nn : Nn ds) (hd : ds.length = 55) (k j : Nat) (hk : k ≤ 5) (hj : j < 2) (B : Nat) (hB : B ≤ 1000) (l : List Stt) (g : GdS B l) (sd : Option W) (a b : Option W) (F : Option Ob) :
    Ok (turn G_law_scripts (.nm 7) b_law_scripts_l2 (.int j) [some c, some (.v (.lst (ds.map .int))), some (.v setD), some (.ref 0), some (.v (.int k)), sd, some (.v (.tup (l.map stD))), a, b] [F])
      fun p S1 => p.1 = .nx ∧ S1 = [F] ∧ ∃ (l' : List Stt) (a : Option W), p.2 = [some c, some (.v (.lst (ds.map .int))), some (.v setD), some (.ref 0), some (.v (.int k)), sd, some (.v (.tup (l'.map stD))), a, b] ∧ GdS (B + 3) l' := by
  obtain ⟨x1, a1, n1⟩ := ix_nn nn (a := 6 + 9 * (k : Int) + (j : Int)) (by omega) (by omega)
  obtain ⟨x2, a2, n2⟩ := ix_nn nn (a := 8 + 9 * (k : Int)) (by omega) (by omega)
  obtain ⟨s, hs⟩ := set_at x1
  have c1 : CMul 9 (k : Int) := .inl (by decide)
  have q := fm_lt x2 (m := 3) (by decide)
  have gs := g.snoc s (n := 1 + x2.fmod 3) (by omega) (by omega)
  have ll : l.length + 1 ≤ sizeLine := Nat.le_trans (by have := len_xp g.1; have := g.2; omega : l.length + 1 ≤ 2000) (by decide)
  clear q n1 n2 hd hk hj hB g
  unfold turn b_law_scripts_l2 setD
  walk_at "zo"
  refine ⟨l ++ [(s, 1 + x2.fmod 3)], some (.v (.int j)), ?_, gs⟩
  rw [List.map_append]
  rfl
theorem GdS.mono {B C : Nat} {l : List Stt} (h : GdS B l) (k : B ≤ C) : GdS C l := ⟨h.1, Nat.le_trans h.2 k⟩
theorem GdS.nil (B : Nat) : GdS B [] := ⟨fun _ h => absurd h (by simp), Nat.zero_le _⟩
theorem GdS.rle {B : Nat} {l : List Stt} (h : GdS B l) (u : Nat) : GdS B (rle ((xp l).take u)) := by
  refine ⟨(rle_nrm _).pos, ?_⟩
  rw [rle_xp, List.length_take]
  have := h.2
  omega
theorem in_loop (c : W) (ds : List Int) (nn : Nn ds) (hd : ds.length = 55) (k : Nat) (hk : k ≤ 5) (n : Nat) (hn : n ≤ 2) (l : List Stt) (g : GdS (6 * k) l) (sd : Option W) (a b : Option W) (F : Option Ob) (Q : Fl × Slots → Store → Prop)
    (q : ∀ l' a, GdS (6 * k + 6) l' → Q (.nx, [some c, some (.v (.lst (ds.map .int))), some (.v setD), some (.ref 0), some (.v (.int k)), sd, some (.v (.tup (l'.map stD))), a, b]) [F]) :
    Ok (forL (turn G_law_scripts (.nm 7) b_law_scripts_l2) ((upto n).map .int) [some c, some (.v (.lst (ds.map .int))), some (.v setD), some (.ref 0), some (.v (.int k)), sd, some (.v (.tup (l.map stD))), a, b] [F]) Q := by
  refine Ok.for (fun j σ S => ∃ l a, σ = [some c, some (.v (.lst (ds.map .int))), some (.v setD), some (.ref 0), some (.v (.int k)), sd, some (.v (.tup (l.map stD))), a, b] ∧ S = [F] ∧ GdS (6 * k + 3 * j) l) ⟨l, a, rfl, rfl, g⟩ ?_ ?_
  · rintro j hj _ _ ⟨l, a, rfl, rfl, g⟩
    have hj2 : j < n := by simpa [upto_len] using hj
    rw [upto_at]
    refine (in_turn c ds nn hd k j hk (by omega) _ (by omega) l g sd a b F).m ?_
    rintro ⟨_, _⟩ _ ⟨rfl, rfl, l', a', rfl, g'⟩
    exact ⟨rfl, l', a', rfl, rfl, g'.mono (by omega)⟩
  · rintro _ _ ⟨l, a, rfl, rfl, g⟩
    rw [List.length_map, upto_len] at g
    exact q _ _ (g.mono (by omega))
theorem out_turn (c : W) (ds : List Int) (nn : Nn ds) (hd : ds.length = 55) (k : Nat) (hk : k ≤ 5) (L : List Scr) (hL : L.length = k) (g : ∀ p ∈ L, GdS (6 * k) p.2) (a4 a5 a6 a7 a8 : Option W) :
    Ok (turn G_law_scripts (.nm 4) b_law_scripts_l1 (.int k) [some c, some (.v (.lst (ds.map .int))), some (.v setD), some (.ref 0), a4, a5, a6, a7, a8] [some (.lst (L.map scE))])
      fun p S1 => p.1 = .nx ∧ ∃ q : Scr, S1 = [some (.lst ((L ++ [q]).map scE))] ∧ GdS (6 * k + 6) q.2 ∧ ∃ a4 a5 a6 a7 a8, p.2 = [some c, some (.v (.lst (ds.map .int))), some (.v setD), some (.ref 0), a4, a5, a6, a7, a8] := by
  have g0 := g_law_scripts_0
  have g1 := g_law_scripts_1
  obtain ⟨x1, b1, _⟩ := ix_nn nn (a := 1 + 9 * (k : Int)) (by omega) (by omega)
  obtain ⟨x2, b2, _⟩ := ix_nn nn (a := 2 + 9 * (k : Int)) (by omega) (by omega)
  obtain ⟨x3, b3, _⟩ := ix_nn nn (a := 3 + 9 * (k : Int)) (by omega) (by omega)
  obtain ⟨x4, b4, _⟩ := ix_nn nn (a := 4 + 9 * (k : Int)) (by omega) (by omega)
  obtain ⟨x5, b5, _⟩ := ix_nn nn (a := 5 + 9 * (k : Int)) (by omega) (by omega)
  have c1 : CMul 9 (k : Int) := .inl (by decide)
  have c4 : ∀ d, CDivN d 4 := fun d => ⟨by decide, by decide⟩
  have q5 := fm_lt x5 (m := 3) (by decide)
  have r1 : rngOk 0 (x5.fmod 3) = true := rng_ok (by omega) (by omega)
  have e1 := rgD_upto (b := x5.fmod 3) (n := (x5.fmod 3).toNat) (by omega)
  have ll : L.length < sizeLine := Nat.lt_of_le_of_lt (by omega : L.length ≤ 5) (by decide)
  have hL0 : L.length ≤ 5 := by omega
  clear hL
  have hd' := hd
  have hk' := hk
  have q5' := q5
  clear hd hk q5
  unfold turn b_law_scripts_l1
  have hn2 : (x5.fmod 3).toNat ≤ 2 := by omega
  have fin := in_loop c ds nn hd' k hk' (x5.fmod 3).toNat hn2
  clear q5' hn2
  by_cases h1 : (L.length : Int) > 0
  · have d1 : decide (0 < (L.length : Int)) = true := decide_eq_true h1
    by_cases h2 : x2.fmod 5 > 0
    · have d2 : decide (0 < x2.fmod 5) = true := decide_eq_true h2
      have q3 := fm_lt x3 (m := (L.length : Int)) (by omega)
      have q3' : (x3.fmod (L.length : Int)).toNat < L.length := by omega
      have f1 : atI (L.map scE) (x3.fmod (L.length : Int)) = some (scE L[(x3.fmod (L.length : Int)).toNat]) := by rw [atI_map, atI_int q3.1 q3']; rfl
      have gm := g _ (List.getElem_mem q3')
      have ne0 : ((L.length : Int) = 0) = False := eq_false (by omega)
      generalize L[(x3.fmod (L.length : Int)).toNat] = o at f1 gm
      obtain ⟨os, ol⟩ := o
      have gm2 : (xp ol).length ≤ 6 * k := gm.2
      have so := steps_ok os ol gm.1 (by omega)
      have q4 := fm_lt x4 (m := 1 + ((xp ol).length : Int)) (by omega)
      have f2 : Zz.cutD ((xp ol).map sgD) none (some (x4.fmod (1 + ((xp ol).length : Int)))) = ((xp ol).take (x4.fmod (1 + ((xp ol).length : Int))).toNat).map sgD := by rw [cut_to _ _ q4.1, List.map_take]
      have lo := lst_ok ((xp ol).take (x4.fmod (1 + ((xp ol).length : Int))).toNat) (by rw [List.length_take]; omega)
      have ne1 : ((1 + ((xp ol).length : Int)) = 0) = False := eq_false (by omega)
      have ge := GdS.rle gm (x4.fmod (1 + ((xp ol).length : Int))).toNat
      clear q3 q3' q4 h1 h2 hL0 g gm hd' hk'
      have f1' : atI (L.map scE) (x3.fmod (L.length : Int)) = some (.tup [.int os, .tup (ol.map stD)]) := f1
      clear f1 gm2
      unfold scD at so
      walk_at "zo"
      refine Ok.call0 rfl rfl so ?_
      rintro _ rfl
      walk_at "zo"
      refine Ok.call0 rfl rfl so ?_
      rintro _ rfl
      walk_at "zo"
      refine Ok.call0 rfl rfl lo ?_
      rintro _ rfl
      walk_at "zo"
      refine fin _ ge _ _ _ _ _ ?_
      intro l' a7 gl
      clear fin so lo ge f1' f2
      walk_at "zo"
      exact ⟨(_, l'), by rw [List.map_append]; rfl, gl, _, _, _, _, _, rfl⟩
    · have d2 : decide (0 < x2.fmod 5) = false := decide_eq_false h2
      clear h1 h2 hL0 g hd' hk'
      walk_at "zo"
      refine fin [] (GdS.nil _) _ _ _ _ _ ?_
      intro l' a7 gl
      clear fin
      walk_at "zo"
      exact ⟨(_, l'), by rw [List.map_append]; rfl, gl, _, _, _, _, _, rfl⟩
  · have d1 : decide (0 < (L.length : Int)) = false := decide_eq_false h1
    clear h1 hL0 g hd' hk'
    walk_at "zo"
    refine fin [] (GdS.nil _) _ _ _ _ _ ?_
    intro l' a7 gl
    clear fin
    walk_at "zo"
    exact ⟨(_, l'), by rw [List.map_append]; rfl, gl, _, _, _, _, _, rfl⟩
theorem scripts_ok (c : Int) : Ok (f_law_scripts [.v (.int c)] []) fun w _ => ∃ d, w = .v d ∧ ∃ L : List Scr, d = .tup (L.map scE) ∧ 1 ≤ L.length ∧ L.length ≤ 6 ∧ ∀ p ∈ L, GdS 36 p.2 := by
  unfold f_law_scripts
  refine Ok.run ?_
  have g2 := g_law_scripts_2
  have dk := draws_ok c 55 (by decide)
  unfold b_law_scripts
  walk_at "zo"
  refine Ok.call0 rfl rfl dk ?_
  rintro _ ⟨ds, rfl, hd, nn⟩
  obtain ⟨x0, b0, _⟩ := ix_nn nn (a := 0) (by decide) (by omega)
  have q0 := fm_lt x0 (m := 6) (by decide)
  have r1 : rngOk 0 (1 + x0.fmod 6) = true := rng_ok (by omega) (by omega)
  have e1 := rgD_upto (b := 1 + x0.fmod 6) (n := (1 + x0.fmod 6).toNat) (by omega)
  have hd' := hd
  have q0' := q0
  clear hd q0 dk
  walk_at "zo"
  refine Ok.for (fun i σ S => ∃ (L : List Scr) (a4 a5 a6 a7 a8 : Option W), σ = [some (.v (.int c)), some (.v (.lst (ds.map .int))), some (.v setD), some (.ref 0), a4, a5, a6, a7, a8] ∧ S = [some (.lst (L.map scE))] ∧ L.length = i ∧ ∀ p ∈ L, GdS (6 * i) p.2) ⟨[], _, _, _, _, _, rfl, rfl, rfl, fun _ h => absurd h (by simp)⟩ ?_ ?_
  · rintro i hi _ _ ⟨L, a4, a5, a6, a7, a8, rfl, rfl, hL, g⟩
    have hi2 : i < (1 + x0.fmod 6).toNat := by simpa [upto_len] using hi
    rw [upto_at]
    refine (out_turn _ ds nn hd' i (by omega) L hL g a4 a5 a6 a7 a8).m ?_
    rintro ⟨_, _⟩ _ ⟨rfl, q, rfl, gq, a4, a5, a6, a7, a8, rfl⟩
    refine ⟨rfl, L ++ [q], a4, a5, a6, a7, a8, rfl, rfl, by simp [hL], fun p hp => ?_⟩
    rcases List.mem_append.1 hp with hp | hp
    · exact (g p hp).mono (by omega)
    · simp only [List.mem_singleton] at hp; subst hp; exact gq.mono (by omega)
  · rintro _ _ ⟨L, a4, a5, a6, a7, a8, rfl, rfl, hL, g⟩
    walk_at "zr"
    rw [List.length_map, upto_len] at hL g
    exact ⟨_, rfl, L, rfl, by omega, by omega, fun p hp => (g p hp).mono (by omega)⟩
/-! the judge -/
theorem loc_fun {α β : Type} {f g : α → β} (h : f = g) (x : α) : f x = g x := congrFun h x
abbrev jd (r : Int) (t : D) : D → R W := fun s => f_judge_registers [.v s, .v (.int r), .v t] []
abbrev no : D → R W := fun _ => .ok (.v (.bl false)) []
theorem a01 : jd 1 .non = no := by kernel_rfl
theorem a02 : jd 1 (.dic [] []) = no := by kernel_rfl
theorem a03 : jd 1 (.tup [.str "plan", .tup [.tup [.str "found", .int 0, .non]]]) = no := by kernel_rfl
theorem a04 : jd 1 (.tup [.str "plan", .tup [.tup [.str "jump", .int 0, .int 0]]]) = no := by kernel_rfl
theorem a05 : jd 1 (.tup [.str "plan", .tup [.tup [.str "train", .int 0, .int 1, .int 0, .int 0]]]) = no := by kernel_rfl
theorem a06 : jd 3 (.tup [.str "forks", .tup [.str "leaf", .non]]) = no := by kernel_rfl
theorem a07 : jd 3 (.tup [.str "forks", .tup [.str "fork", .non, .non, .non]]) = no := by kernel_rfl
/-- a deep fork -/
def dpD : Nat → D
  | 0 => .tup [.str "leaf", .int 0]
  | n + 1 => .tup [.str "fork", .int 1, dpD n, .tup [.str "leaf", .int 1]]
theorem a08 : jd 3 (.tup [.str "forks", dpD 60]) = no := by kernel_rfl
theorem pos_ok (s : Int) (l : List Stt) (hl : l.length ≤ 100000) : Ok (f_position_of [.v (scD s l)] []) fun w _ => ∃ d, w = .v d ∧ d = .int ((l.map (fun p => p.2)).sum) := by
  unfold f_position_of
  refine Ok.run ?_
  unfold b_position_of scD
  walk_at "zs"
  refine ⟨Nat.le_trans hl (by decide), Ok.comp (fun d => match d with | .tup [_, _, c] => some c | _ => none) ?_ ?_⟩
  · intro d hd
    obtain ⟨⟨⟨p1, p2⟩, n⟩, _, rfl⟩ := List.mem_map.1 hd
    refine Ok.fin (Ok.ne ?_)
    unfold stD
    walk_at "zr"
  · have e : (l.map stD).filterMap (fun d => match d with | .tup [_, _, c] => some c | _ => none) = (l.map (fun p => p.2)).map D.int := by
      rw [List.filterMap_map, List.map_map]
      induction l with
      | nil => rfl
      | cons p l ih => simp [stD, ih (by simp at hl; omega)]
    have e2 := intsOf_map (l.map (fun p => p.2))
    rw [e]
    walk_at "zs"
    exact ⟨_, rfl, rfl⟩
theorem call_eq {n : Nat} {f : FnSem} {ws : List W} {d : D} {S S' : Store} (h : f ws [] = .ok (.v d) S') (hn : ws.length = n) (ha : Zz.argsOk 0 ws = true) : callW n f 0 ws S = .ok (.v d) S := by
  unfold callW
  rw [if_pos ⟨hn, Nat.zero_le _, ha, rfl⟩, List.take_zero, h]
  simp [obsOk]
theorem ip_plan : (fun x : D => f_is_paper [.v (.tup [.str "plan", x]), .v (.str "plan"), .v (.int 2)] []) = fun _ => .ok (.v (.bl true)) [] := by kernel_rfl
theorem ip_forks : (fun x : D => f_is_paper [.v (.tup [.str "forks", x]), .v (.str "plan"), .v (.int 2)] []) = fun _ => .ok (.v (.bl false)) [] := by kernel_rfl
theorem ip_forks2 : (fun x : D => f_is_paper [.v (.tup [.str "forks", x]), .v (.str "forks"), .v (.int 2)] []) = fun _ => .ok (.v (.bl true)) [] := by kernel_rfl
abbrev IsF (w : W) : Prop := ∃ d, w = .v d ∧ d = .bl false
theorem j_plan (s x : D) (r : Int) (h : Ok (f_is_enough [.v s, .v (.int r), .v x] []) fun w _ => IsF w) : Ok (f_judge_registers [.v s, .v (.int r), .v (.tup [.str "plan", x])] []) fun w _ => IsF w := by
  unfold f_judge_registers
  refine Ok.run ?_
  have g1 := g_judge_registers_1
  have g2 := g_judge_registers_2
  have i1 := call_eq (S := []) (n := 3) (congrFun ip_plan x) rfl rfl
  unfold b_judge_registers
  walk_at "zo"
  refine Ok.call0 rfl rfl h ?_
  rintro _ rfl
  walk_at "zr"
  exact ⟨_, rfl, rfl⟩
theorem j_forks (s x : D) (r : Int) (h : Ok (f_is_too_few [.v s, .v (.int r), .v x] []) fun w _ => IsF w) : Ok (f_judge_registers [.v s, .v (.int r), .v (.tup [.str "forks", x])] []) fun w _ => IsF w := by
  unfold f_judge_registers
  refine Ok.run ?_
  have g0 := g_judge_registers_0
  have g1 := g_judge_registers_1
  have i1 := call_eq (S := []) (n := 3) (congrFun ip_forks x) rfl rfl
  have i2 := call_eq (S := []) (n := 3) (congrFun ip_forks2 x) rfl rfl
  unfold b_judge_registers
  walk_at "zo"
  refine Ok.call0 rfl rfl h ?_
  rintro _ rfl
  walk_at "zr"
  exact ⟨_, rfl, rfl⟩
abbrev scs (L : List Scr) : D := .tup (L.map scE)
theorem leaf0 (L : List Scr) (h1 : 1 ≤ L.length) (hg : ∀ p ∈ L, GdS 36 p.2) : Ok (f_is_leaf [.v (scs L), .v (.int 0)] []) fun w _ => ∃ d, w = .v d ∧ ∃ b, d = .bl b := by
  unfold f_is_leaf
  refine Ok.run ?_
  have g0 := g_is_leaf_0
  obtain ⟨⟨s, l⟩, L', rfl⟩ : ∃ p L', L = p :: L' := by
    cases L with
    | nil => simp at h1
    | cons p L' => exact ⟨p, L', rfl⟩
  have hl : l.length ≤ 100000 := by
    have := hg (s, l) List.mem_cons_self
    have h3 := len_xp this.1
    have h4 : (xp l).length ≤ 36 := this.2
    have h5 : l.length ≤ (xp l).length := h3
    omega
  have p := pos_ok s l hl
  have d1 : decide ((0 : Int) < ((L'.length + 1 : Nat) : Int)) = true := decide_eq_true (by omega)
  have d2 : decide ((0 : Int) ≤ 0) = true := rfl
  clear h1 hl hg
  unfold b_is_leaf scs
  walk_at "zo"
  refine Ok.call0 rfl rfl p ?_
  rintro _ rfl
  walk_at "zr"
  exact ⟨_, rfl, _, rfl⟩
theorem leaf99 (L : List Scr) (h1 : L.length ≤ 6) : Ok (f_is_leaf [.v (scs L), .v (.int 99)] []) fun w _ => ∃ d, w = .v d ∧ ∃ b, d = .bl b := by
  unfold f_is_leaf
  refine Ok.run ?_
  have d1 : decide ((99 : Int) < ((L.length : Nat) : Int)) = false := decide_eq_false (by omega)
  have d2 : decide ((0 : Int) ≤ 99) = true := rfl
  clear h1
  unfold b_is_leaf
  walk_at "zo"
  exact ⟨_, rfl, _, rfl⟩
theorem too_few (s t : D) (r : Int) (xs : List Int) (y : D) (h1 : f_leaves_of 25 [.v t, .v (.int 20)] [] = .ok (.v (.lst (xs.map .int))) []) (hx : xs.length ≤ 5)
    (h2 : ∀ x ∈ xs, Ok (f_is_leaf [.v s, .v (.int x)] []) fun w _ => ∃ d, w = .v d ∧ ∃ b, d = .bl b)
    (h3 : f_level_of 20 [.v s, .v t] [] = .ok (.v y) []) (hy : y = .non ∨ (y = .int 1 ∧ 1 ≤ r)) : Ok (f_is_too_few [.v s, .v (.int r), .v t] []) fun w _ => IsF w := by
  unfold f_is_too_few
  refine Ok.run ?_
  have g0 := g_is_too_few_0
  have g1 := g_is_too_few_1
  have g2 := g_is_too_few_2
  have g3 := g_is_too_few_3
  have i1 := call_eq (S := []) (n := 2) h1 rfl rfl
  have i2 := call_eq (S := []) (n := 2) h3 rfl rfl
  have c1 : xs.length ≤ sizeLine := Nat.le_trans hx (by decide)
  clear h1 h3 hx
  unfold b_is_too_few
  walk_at "zo"
  refine Ok.compA (fun S => S = []) (fun e => ∃ b, e = .bl b) rfl ?_ ?_
  · rintro d hd _ rfl
    obtain ⟨x, hx, rfl⟩ := List.mem_map.1 hd
    refine Ok.ne ?_
    have h := h2 x hx
    clear h2 hy hd hx
    walk_at "zr"
    simp only [g1]
    refine Ok.call0 rfl rfl h ?_
    rintro _ ⟨b, rfl⟩
    walk_at "zr"
    first | exact ⟨_, rfl, _, rfl⟩ | exact ⟨rfl, _, rfl, _, rfl⟩
  · rintro es _ rfl hes hlen
    clear h2 hlen
    obtain ⟨bs, rfl⟩ : ∃ bs : List Bool, es = bs.map .bl := by
      clear i1 i2 hy
      induction es with
      | nil => exact ⟨[], rfl⟩
      | cons e es ih =>
        obtain ⟨b, rfl⟩ := hes e List.mem_cons_self
        obtain ⟨bs, rfl⟩ := ih fun x hx => hes x (List.mem_cons_of_mem _ hx)
        exact ⟨b :: bs, rfl⟩
    have eb : blsOf (bs.map D.bl) = some bs := by
      clear hes
      induction bs with
      | nil => rfl
      | cons b bs ih => simp only [List.map_cons, blsOf, ih, Option.map]
    clear hes
    rcases hy with rfl | ⟨rfl, hr⟩
    · cases e : bs.all id with
      | true =>
        walk_at "zo"
        exact ⟨_, rfl, rfl⟩
      | false =>
        walk_at "zo"
        exact ⟨_, rfl, rfl⟩
    · have d1 : decide (r < 1) = false := decide_eq_false (by omega)
      clear hr
      cases e : bs.all id with
      | true =>
        walk_at "zo"
        exact ⟨_, rfl, rfl⟩
      | false =>
        walk_at "zo"
        exact ⟨_, rfl, rfl⟩
def rst (xs : List D) : Store := [some (.ins "Rehearsal" ["scripts", "held", "delivered", "steps", "most"] [.ref 1, .ref 2, .ref 3, .v (.int 0), .v (.int 0)]), some (.lst xs), some (.dct [] []), some (.lst [])]
theorem rinit_ok (L : List Scr) (h6 : L.length ≤ 6) (hg : ∀ p ∈ L, GdS 36 p.2) : Ok (f_Rehearsal_init [.ref 0, .v (scs L)] [some (.ins "Rehearsal" ["scripts", "held", "delivered", "steps", "most"] [])]) fun w T => w = .v .non ∧ ∃ xs, T = rst xs := by
  unfold f_Rehearsal_init
  refine Ok.run ?_
  have g0 := g_Rehearsal_init_0
  have g1 := g_Rehearsal_init_1
  have c1 : L.length ≤ sizeLine := Nat.le_trans h6 (by decide)
  clear h6
  unfold b_Rehearsal_init scs
  walk_at "zo"
  refine Ok.compA (fun S => S = [some (.ins "Rehearsal" ["scripts", "held", "delivered", "steps", "most"] [])]) (fun _ => True) rfl ?_ ?_
  · rintro d hd _ rfl
    obtain ⟨⟨s, l⟩, hp, rfl⟩ := List.mem_map.1 hd
    have hl : l.length ≤ 100000 := by
      have := hg (s, l) hp
      have h3 := len_xp this.1
      have h4 : (xp l).length ≤ 36 := this.2
      have h5 : l.length ≤ (xp l).length := h3
      omega
    have p := normal_ok s l hl
    clear hl hg hp hd
    refine Ok.ne ?_
    unfold scE
    walk_at "zr"
    try simp only [g0, g1]
    refine Ok.call0 rfl rfl p ?_
    rintro _ rfl
    walk_at "zr"
    first | exact ⟨_, rfl, trivial⟩ | exact ⟨rfl, _, rfl, trivial⟩ | exact ⟨_, rfl⟩ | trivial
  · rintro es _ rfl _ _
    walk_at "zo"
    exact ⟨es, rfl⟩
theorem rmake_ok {s : D} {Q : W → Store → Prop} (h : Ok (f_Rehearsal_init [.ref 0, .v s] [some (.ins "Rehearsal" ["scripts", "held", "delivered", "steps", "most"] [])]) fun w T => w = .v .non ∧ ∃ xs, T = rst xs) (q : ∀ xs, Q (.ref 0) (rst xs)) :
    Ok (Zz.makeW "Rehearsal" ["scripts", "held", "delivered", "steps", "most"] 2 f_Rehearsal_init [.v s] []) Q := by
  obtain ⟨w, S', e, rfl, xs, rfl⟩ := Ok.x.1 h
  have : Zz.makeW "Rehearsal" ["scripts", "held", "delivered", "steps", "most"] 2 f_Rehearsal_init [.v s] [] = .ok (.ref 0) (rst xs) := by
    unfold Zz.makeW
    rw [if_pos (show [W.v s].length + 1 = 2 from rfl)]
    simp only [List.length_nil, List.nil_append, e]
    rfl
  exact Ok.of this (q xs)
theorem en_nil (L : List Scr) (h1 : 1 ≤ L.length) (h6 : L.length ≤ 6) (hg : ∀ p ∈ L, GdS 36 p.2) (r : Int) : Ok (f_is_enough [.v (scs L), .v (.int r), .v (.tup [])] []) fun w _ => IsF w := by
  unfold f_is_enough
  refine Ok.run ?_
  have g0 := g_is_enough_0
  have g2 := g_is_enough_2
  have ri := rinit_ok L h6 hg
  have d1 : ((0 : Int) == (L.length : Int)) = false := by simp; omega
  have d2 : (((0 : Nat) : Int) == (L.length : Int)) = false := by simp; omega
  clear h1 h6 hg
  unfold b_is_enough
  walk_at "zr"
  simp only [compM]
  walk_at "zr"
  try simp only [g2]
  refine rmake_ok ri ?_
  intro xs
  clear ri
  unfold rst
  walk_at "zo"
  exact ⟨_, rfl, rfl⟩
theorem take1 : (fun xs : List D => f_Rehearsal_take [.ref 0, .v (.tup [.str "free", .int 0])] (rst xs)) = fun xs => .ok (.v (.bl false)) (rst xs) := by kernel_rfl
theorem take2 : (fun xs : List D => f_Rehearsal_take [.ref 0, .v (.tup [.str "deliver", .int 0, .int 0])] (rst xs)) = fun xs => .ok (.v (.bl false)) (rst xs) := by kernel_rfl
theorem ins1 : f_is_instruction [.v (.tup [.str "free", .int 0])] [] = .ok (.v (.bl true)) [] := by kernel_rfl
theorem ins2 : f_is_instruction [.v (.tup [.str "deliver", .int 0, .int 0])] [] = .ok (.v (.bl true)) [] := by kernel_rfl
theorem no_take : (["scripts", "held", "delivered", "steps", "most"] : List Str).contains "take" = false := by decide +kernel
theorem en_row (L : List Scr) (row : D) (h6 : L.length ≤ 6) (hg : ∀ p ∈ L, GdS 36 p.2) (r : Int) (hi : f_is_instruction [.v row] [] = .ok (.v (.bl true)) [])
    (ht : ∀ xs, f_Rehearsal_take [.ref 0, .v row] (rst xs) = .ok (.v (.bl false)) (rst xs)) : Ok (f_is_enough [.v (scs L), .v (.int r), .v (.tup [row])] []) fun w _ => IsF w := by
  unfold f_is_enough
  refine Ok.run ?_
  have g0 := g_is_enough_0
  have g1 := g_is_enough_1
  have g2 := g_is_enough_2
  have g3 := g_is_enough_3
  have ri := rinit_ok L h6 hg
  have i1 := call_eq (S := []) (n := 1) hi rfl rfl
  clear h6 hg hi
  unfold b_is_enough
  walk_at "zr"
  refine Ok.comp (fun _ => some (.bl true)) ?_ ?_
  · rintro d hd
    obtain rfl : d = row := by simpa using hd
    refine Ok.fin (Ok.ne ?_)
    clear ri ht
    walk_at "zr"
    simp only [g3, i1, Ok.k]
    walk_at "zr"
    try trivial
  simp only [List.filterMap_cons, List.filterMap_nil]
  walk_at "zr"
  simp only [id_eq]
  walk_at "zr"
  try simp only [g2]
  refine rmake_ok ri ?_
  intro xs
  have cv : Zz.callV 2 f_Rehearsal_take [.ref 0, .v row] (rst xs) = .ok (.v (.bl false)) (rst xs) := by
    unfold Zz.callV
    rw [if_pos (show [W.ref 0, W.v row].length = 2 from rfl), ht xs]
    simp only [trimR, List.take_length, ite_self]
  have c2 := no_take
  clear ri ht i1
  unfold rst at cv ⊢
  walk_at "zo"
  rw [L_cons]
  unfold turn b_is_enough_l1
  walk_at "zo"
  exact ⟨_, rfl, rfl⟩
theorem lv0 : f_leaves_of 25 [.v (.tup [.str "leaf", .int 0]), .v (.int 20)] [] = .ok (.v (.lst (([0] : List Int).map .int))) [] := by kernel_rfl
theorem lv99 : f_leaves_of 25 [.v (.tup [.str "leaf", .int 99]), .v (.int 20)] [] = .ok (.v (.lst (([99] : List Int).map .int))) [] := by kernel_rfl
theorem lvf : f_leaves_of 25 [.v (.tup [.str "fork", .non, .tup [.str "leaf", .int 0], .tup [.str "leaf", .int 0]]), .v (.int 20)] [] = .ok (.v (.lst (([0, 0] : List Int).map .int))) [] := by kernel_rfl
theorem le0 : (fun s : D => f_level_of 20 [.v s, .v (.tup [.str "leaf", .int 0])] []) = fun _ => .ok (.v (.int 1)) [] := by kernel_rfl
theorem le99 : (fun s : D => f_level_of 20 [.v s, .v (.tup [.str "leaf", .int 99])] []) = fun _ => .ok (.v (.int 1)) [] := by kernel_rfl
theorem lef : (fun s : D => f_level_of 20 [.v s, .v (.tup [.str "fork", .non, .tup [.str "leaf", .int 0], .tup [.str "leaf", .int 0]])] []) = fun _ => .ok (.v .non) [] := by kernel_rfl
def J (s d : D) : Prop := ∀ r : Int, r = 1 ∨ r = 3 → Ok (f_judge_registers [.v s, .v (.int r), .v d] []) fun w _ => IsF w
theorem jc {s t : D} (h1 : jd 1 t = no) (h3 : jd 3 t = no) : J s t := by
  rintro r (rfl | rfl)
  · exact Ok.of (congrFun h1 s) ⟨_, rfl, rfl⟩
  · exact Ok.of (congrFun h3 s) ⟨_, rfl, rfl⟩
theorem t0_1 : jd 1 (.non) = no := by kernel_rfl
theorem t0_3 : jd 3 (.non) = no := by kernel_rfl
theorem t1_1 : jd 1 (.int 0) = no := by kernel_rfl
theorem t1_3 : jd 3 (.int 0) = no := by kernel_rfl
theorem t2_1 : jd 1 (.str "plan") = no := by kernel_rfl
theorem t2_3 : jd 3 (.str "plan") = no := by kernel_rfl
theorem t3_1 : jd 1 (.str "forks") = no := by kernel_rfl
theorem t3_3 : jd 3 (.str "forks") = no := by kernel_rfl
theorem t4_1 : jd 1 (.tup []) = no := by kernel_rfl
theorem t4_3 : jd 3 (.tup []) = no := by kernel_rfl
theorem t5_1 : jd 1 (.lst []) = no := by kernel_rfl
theorem t5_3 : jd 3 (.lst []) = no := by kernel_rfl
theorem t6_1 : jd 1 (.dic [] []) = no := by kernel_rfl
theorem t6_3 : jd 3 (.dic [] []) = no := by kernel_rfl
theorem t7_1 : jd 1 (.tup [.str "plan"]) = no := by kernel_rfl
theorem t7_3 : jd 3 (.tup [.str "plan"]) = no := by kernel_rfl
theorem t8_1 : jd 1 (.tup [.str "plan", .non]) = no := by kernel_rfl
theorem t8_3 : jd 3 (.tup [.str "plan", .non]) = no := by kernel_rfl
theorem t10_1 : jd 1 (.tup [.str "plan", .lst []]) = no := by kernel_rfl
theorem t10_3 : jd 3 (.tup [.str "plan", .lst []]) = no := by kernel_rfl
theorem t11_1 : jd 1 (.tup [.str "plan", .tup [.non]]) = no := by kernel_rfl
theorem t11_3 : jd 3 (.tup [.str "plan", .tup [.non]]) = no := by kernel_rfl
theorem t12_1 : jd 1 (.tup [.str "plan", .tup [.tup []]]) = no := by kernel_rfl
theorem t12_3 : jd 3 (.tup [.str "plan", .tup [.tup []]]) = no := by kernel_rfl
theorem t13_1 : jd 1 (.tup [.str "plan", .tup [.tup [.str "found"]]]) = no := by kernel_rfl
theorem t13_3 : jd 3 (.tup [.str "plan", .tup [.tup [.str "found"]]]) = no := by kernel_rfl
theorem t14_1 : jd 1 (.tup [.str "plan", .tup [.tup [.str "found", .int 0]]]) = no := by kernel_rfl
theorem t14_3 : jd 3 (.tup [.str "plan", .tup [.tup [.str "found", .int 0]]]) = no := by kernel_rfl
theorem t15_1 : jd 1 (.tup [.str "plan", .tup [.tup [.str "found", .int 0, .non]]]) = no := by kernel_rfl
theorem t15_3 : jd 3 (.tup [.str "plan", .tup [.tup [.str "found", .int 0, .non]]]) = no := by kernel_rfl
theorem t16_1 : jd 1 (.tup [.str "plan", .tup [.tup [.str "jump", .int 0, .int 0]]]) = no := by kernel_rfl
theorem t16_3 : jd 3 (.tup [.str "plan", .tup [.tup [.str "jump", .int 0, .int 0]]]) = no := by kernel_rfl
theorem t19_1 : jd 1 (.tup [.str "plan", .tup [.tup [.str "train", .int 0, .int 1, .int 0, .int 0]]]) = no := by kernel_rfl
theorem t19_3 : jd 3 (.tup [.str "plan", .tup [.tup [.str "train", .int 0, .int 1, .int 0, .int 0]]]) = no := by kernel_rfl
theorem t20_1 : jd 1 (.tup [.str "plan", .tup [.tup [.int 0, .int 0, .int 0]]]) = no := by kernel_rfl
theorem t20_3 : jd 3 (.tup [.str "plan", .tup [.tup [.int 0, .int 0, .int 0]]]) = no := by kernel_rfl
theorem t21_1 : jd 1 (.tup [.str "forks"]) = no := by kernel_rfl
theorem t21_3 : jd 3 (.tup [.str "forks"]) = no := by kernel_rfl
theorem t22_1 : jd 1 (.tup [.str "forks", .non]) = no := by kernel_rfl
theorem t22_3 : jd 3 (.tup [.str "forks", .non]) = no := by kernel_rfl
theorem t23_1 : jd 1 (.tup [.str "forks", .tup []]) = no := by kernel_rfl
theorem t23_3 : jd 3 (.tup [.str "forks", .tup []]) = no := by kernel_rfl
theorem t24_1 : jd 1 (.tup [.str "forks", .tup [.str "leaf"]]) = no := by kernel_rfl
theorem t24_3 : jd 3 (.tup [.str "forks", .tup [.str "leaf"]]) = no := by kernel_rfl
theorem t25_1 : jd 1 (.tup [.str "forks", .tup [.str "leaf", .non]]) = no := by kernel_rfl
theorem t25_3 : jd 3 (.tup [.str "forks", .tup [.str "leaf", .non]]) = no := by kernel_rfl
theorem t27_1 : jd 1 (.tup [.str "forks", .tup [.str "leaf", .int (-1)]]) = no := by kernel_rfl
theorem t27_3 : jd 3 (.tup [.str "forks", .tup [.str "leaf", .int (-1)]]) = no := by kernel_rfl
theorem t29_1 : jd 1 (.tup [.str "forks", .tup [.str "fork", .int 1, .tup [.str "leaf", .int 0]]]) = no := by kernel_rfl
theorem t29_3 : jd 3 (.tup [.str "forks", .tup [.str "fork", .int 1, .tup [.str "leaf", .int 0]]]) = no := by kernel_rfl
theorem t30_1 : jd 1 (.tup [.str "forks", .tup [.str "fork", .non, .non, .non]]) = no := by kernel_rfl
theorem t30_3 : jd 3 (.tup [.str "forks", .tup [.str "fork", .non, .non, .non]]) = no := by kernel_rfl
theorem t32_1 : jd 1 (.tup [.str "forks", dpD 60]) = no := by kernel_rfl
theorem t32_3 : jd 3 (.tup [.str "forks", dpD 60]) = no := by kernel_rfl
theorem t33_1 : jd 1 (.tup [.tup [.str "plan"], .tup []]) = no := by kernel_rfl
theorem t33_3 : jd 3 (.tup [.tup [.str "plan"], .tup []]) = no := by kernel_rfl
theorem t34_1 : jd 1 (.tup [.int 1, .tup []]) = no := by kernel_rfl
theorem t34_3 : jd 3 (.tup [.int 1, .tup []]) = no := by kernel_rfl
theorem t35_1 : jd 1 (.tup [.str "forks", .lst [.tup [.str "leaf", .int 0]]]) = no := by kernel_rfl
theorem t35_3 : jd 3 (.tup [.str "forks", .lst [.tup [.str "leaf", .int 0]]]) = no := by kernel_rfl
def things : List D := [.non, .int 0, .str "plan", .str "forks", .tup [], .lst [], .dic [] [], .tup [.str "plan"], .tup [.str "plan", .non], .tup [.str "plan", .tup []], .tup [.str "plan", .lst []], .tup [.str "plan", .tup [.non]], .tup [.str "plan", .tup [.tup []]], .tup [.str "plan", .tup [.tup [.str "found"]]], .tup [.str "plan", .tup [.tup [.str "found", .int 0]]], .tup [.str "plan", .tup [.tup [.str "found", .int 0, .non]]], .tup [.str "plan", .tup [.tup [.str "jump", .int 0, .int 0]]], .tup [.str "plan", .tup [.tup [.str "free", .int 0]]], .tup [.str "plan", .tup [.tup [.str "deliver", .int 0, .int 0]]], .tup [.str "plan", .tup [.tup [.str "train", .int 0, .int 1, .int 0, .int 0]]], .tup [.str "plan", .tup [.tup [.int 0, .int 0, .int 0]]], .tup [.str "forks"], .tup [.str "forks", .non], .tup [.str "forks", .tup []], .tup [.str "forks", .tup [.str "leaf"]], .tup [.str "forks", .tup [.str "leaf", .non]], .tup [.str "forks", .tup [.str "leaf", .int 99]], .tup [.str "forks", .tup [.str "leaf", .int (-1)]], .tup [.str "forks", .tup [.str "leaf", .int 0]], .tup [.str "forks", .tup [.str "fork", .int 1, .tup [.str "leaf", .int 0]]], .tup [.str "forks", .tup [.str "fork", .non, .non, .non]], .tup [.str "forks", .tup [.str "fork", .non, .tup [.str "leaf", .int 0], .tup [.str "leaf", .int 0]]], .tup [.str "forks", dpD 60], .tup [.tup [.str "plan"], .tup []], .tup [.int 1, .tup []], .tup [.str "forks", .lst [.tup [.str "leaf", .int 0]]]]
theorem all_J (L : List Scr) (h1 : 1 ≤ L.length) (h6 : L.length ≤ 6) (hg : ∀ p ∈ L, GdS 36 p.2) : ∀ d ∈ things, J (scs L) d := by
  unfold things
  simp only [List.forall_mem_cons]
  refine ⟨jc t0_1 t0_3, jc t1_1 t1_3, jc t2_1 t2_3, jc t3_1 t3_3, jc t4_1 t4_3, jc t5_1 t5_3, jc t6_1 t6_3, jc t7_1 t7_3, jc t8_1 t8_3, fun r hr0 => (fun (hr : 1 ≤ r) => j_plan _ _ _ (en_nil L h1 h6 hg _)) (by omega), jc t10_1 t10_3, jc t11_1 t11_3, jc t12_1 t12_3, jc t13_1 t13_3, jc t14_1 t14_3, jc t15_1 t15_3, jc t16_1 t16_3, fun r hr0 => (fun (hr : 1 ≤ r) => j_plan _ _ _ (en_row L _ h6 hg _ ins1 (congrFun take1))) (by omega), fun r hr0 => (fun (hr : 1 ≤ r) => j_plan _ _ _ (en_row L _ h6 hg _ ins2 (congrFun take2))) (by omega), jc t19_1 t19_3, jc t20_1 t20_3, jc t21_1 t21_3, jc t22_1 t22_3, jc t23_1 t23_3, jc t24_1 t24_3, jc t25_1 t25_3, fun r hr0 => (fun (hr : 1 ≤ r) => j_forks _ _ _ (too_few _ _ _ [99] _ lv99 (by decide) (fun x hx => by rw [List.mem_singleton.1 hx]; exact leaf99 L h6) (congrFun le99 _) (.inr ⟨rfl, hr⟩))) (by omega), jc t27_1 t27_3, fun r hr0 => (fun (hr : 1 ≤ r) => j_forks _ _ _ (too_few _ _ _ [0] _ lv0 (by decide) (fun x hx => by rw [List.mem_singleton.1 hx]; exact leaf0 L h1 hg) (congrFun le0 _) (.inr ⟨rfl, hr⟩))) (by omega), jc t29_1 t29_3, jc t30_1 t30_3, fun r hr0 => (fun (hr : 1 ≤ r) => j_forks _ _ _ (too_few _ _ _ [0, 0] _ lvf (by decide) (fun x hx => by rw [show x = 0 by simpa using hx]; exact leaf0 L h1 hg) (congrFun lef _) (.inl rfl))) (by omega), jc t32_1 t32_3, jc t33_1 t33_3, jc t34_1 t34_3, jc t35_1 t35_3, fun d hd => absurd hd (by simp)⟩
theorem th_turn (L : List Scr) (d : D) (h : J (scs L) d) (S : Store) (x0 a2 a3 a4 a5 : Option W) :
    Ok (turn G_law (.nm 5) b_law_l2 d [x0, some (.v (scs L)), a2, a3, a4, a5] S) fun p S1 => p.1 = .nx ∧ S1 = S ∧ ∃ a5, p.2 = [x0, some (.v (scs L)), a2, a3, a4, a5] := by
  have g0 := g_law_0
  have j1 := h 1 (.inl rfl)
  have j3 := h 3 (.inr rfl)
  clear h
  unfold turn b_law_l2
  walk_at "zr"
  try simp only [g0]
  refine Ok.call0 rfl rfl j1 ?_
  rintro _ rfl
  walk_at "zr"
  try simp only [g0]
  refine Ok.call0 rfl rfl j3 ?_
  rintro _ rfl
  walk_at "zr"
  exact ⟨_, rfl⟩
theorem law_ok (ns : List Int) : Ok (f_law [.v (.frl ns)] []) fun w _ => ∃ d, w = .v d ∧ d = .bl true := by
  unfold f_law
  refine Ok.run ?_
  have g1 := g_law_1
  have g2 := g_law_2
  have co := cell_ok ns 0
  unfold b_law
  walk_at "zr"
  try simp only [g2]
  refine Ok.call0 rfl rfl co ?_
  rintro _ ⟨c, rfl⟩
  walk_at "zr"
  try simp only [g1]
  refine Ok.call0 rfl rfl (scripts_ok c) ?_
  rintro _ ⟨L, rfl, h1, h6, hg⟩
  have r1 : rngOk 0 60 = true := rng_ok (by decide) (by decide)
  have e1 := rgD_upto (b := 60) (n := 60) rfl
  have aj := all_J L h1 h6 hg
  clear h1 h6 hg g1 g2 co
  walk_at "zo"
  refine Ok.for (fun i σ S => S = [] ∧ ∃ a3, σ = [some (.v (.frl ns)), some (.v (scs L)), some (.v (dpD i)), a3, none, none]) ⟨rfl, _, rfl⟩ ?_ ?_
  · rintro i hi _ _ ⟨rfl, a3, rfl⟩
    clear aj
    unfold turn b_law_l1
    walk_at "zo"
    exact ⟨_, rfl⟩
  · rintro _ _ ⟨rfl, a3, rfl⟩
    rw [List.length_map, upto_len]
    walk_at "zr"
    show Ok (forL (turn G_law (.nm 5) b_law_l2) things _ _) _
    refine Ok.for (fun _ σ S => S = [none, none] ∧ ∃ a5, σ = [some (.v (.frl ns)), some (.v (scs L)), some (.v (dpD 60)), a3, some (.ref 1), a5]) ⟨rfl, _, rfl⟩ ?_ ?_
    · rintro i hi _ _ ⟨rfl, a5, rfl⟩
      refine (th_turn L _ (aj _ (List.getElem_mem hi)) _ _ _ _ _ _).m ?_
      rintro ⟨_, _⟩ _ ⟨rfl, rfl, a5, rfl⟩
      exact ⟨rfl, rfl, a5, rfl⟩
    · rintro _ _ ⟨rfl, a5, rfl⟩
      clear aj
      walk_at "zr"
      exact ⟨_, rfl, rfl⟩
theorem law_true : ∀ ns : List Int, ns.length ≤ 63 → ∃ S', f_law [.v (.frl ns)] [] = .ok (.v (.bl true)) S' := by
  intro ns _
  obtain ⟨w, S', e, d, rfl, rfl⟩ := Ok.x.1 (law_ok ns)
  exact ⟨S', e⟩
def top (i : Nat) : PySem.Stmt := PySem.Challenge.pw_trialcopies_k43_nonsense_is_not_taken.main.body.getD i (.Pass ⟨0, 0, 0, 0⟩)
abbrev s_parts_at : PySem.Stmt := top 26
theorem sc_parts_at : FnScope N_parts_at ["scripts", "position", "left", "right"] (defScope s_parts_at) := ⟨rfl, rfl, rfl, by decide +kernel, rfl, by decide +kernel, by decide +kernel⟩
theorem ck_parts_at : cSs G_parts_at N_parts_at b_parts_at (defScope s_parts_at) (defBody s_parts_at) = true := by kernel_rfl
abbrev s_is_paper : PySem.Stmt := top 21
theorem sc_is_paper : FnScope N_is_paper ["paper", "kind", "length"] (defScope s_is_paper) := ⟨rfl, rfl, rfl, by decide +kernel, rfl, by decide +kernel, by decide +kernel⟩
theorem ck_is_paper : cSs G_is_paper N_is_paper b_is_paper (defScope s_is_paper) (defBody s_is_paper) = true := by kernel_rfl
abbrev s_leaves_of : PySem.Stmt := top 24
theorem sc_leaves_of : FnScope N_leaves_of ["tree", "depth"] (defScope s_leaves_of) := ⟨rfl, rfl, rfl, by decide +kernel, rfl, by decide +kernel, by decide +kernel⟩
theorem ck_leaves_of (f : FnSem) : cSs (G_leaves_of f) N_leaves_of b_leaves_of (defScope s_leaves_of) (defBody s_leaves_of) = true := by kernel_rfl
abbrev s_level_of : PySem.Stmt := top 27
theorem sc_level_of : FnScope N_level_of ["scripts", "tree"] (defScope s_level_of) := ⟨rfl, rfl, rfl, by decide +kernel, rfl, by decide +kernel, by decide +kernel⟩
theorem ck_level_of (f : FnSem) : cSs (G_level_of f) N_level_of b_level_of (defScope s_level_of) (defBody s_level_of) = true := by kernel_rfl
abbrev s_position_of : PySem.Stmt := top 7
theorem sc_position_of : FnScope N_position_of ["script"] (defScope s_position_of) := ⟨rfl, rfl, rfl, by decide +kernel, rfl, by decide +kernel, by decide +kernel⟩
theorem ck_position_of : cSs G_position_of N_position_of b_position_of (defScope s_position_of) (defBody s_position_of) = true := by kernel_rfl
abbrev s_is_leaf : PySem.Stmt := top 25
theorem sc_is_leaf : FnScope N_is_leaf ["scripts", "index"] (defScope s_is_leaf) := ⟨rfl, rfl, rfl, by decide +kernel, rfl, by decide +kernel, by decide +kernel⟩
theorem ck_is_leaf : cSs G_is_leaf N_is_leaf b_is_leaf (defScope s_is_leaf) (defBody s_is_leaf) = true := by kernel_rfl
abbrev s_is_too_few : PySem.Stmt := top 28
theorem sc_is_too_few : FnScope N_is_too_few ["scripts", "registers", "tree"] (defScope s_is_too_few) := ⟨rfl, rfl, rfl, by decide +kernel, rfl, by decide +kernel, by decide +kernel⟩
theorem ck_is_too_few : cSs G_is_too_few N_is_too_few b_is_too_few (defScope s_is_too_few) (defBody s_is_too_few) = true := by kernel_rfl
abbrev s_Rehearsal_take : PySem.Stmt := inClass (top 22) 1
theorem sc_Rehearsal_take : FnScope N_Rehearsal_take ["self", "instruction"] (defScope s_Rehearsal_take) := ⟨rfl, rfl, rfl, by decide +kernel, rfl, by decide +kernel, by decide +kernel⟩
theorem ck_Rehearsal_take : cSs G_Rehearsal_take N_Rehearsal_take b_Rehearsal_take (defScope s_Rehearsal_take) (defBody s_Rehearsal_take) = true := by kernel_rfl
abbrev s_joined : PySem.Stmt := top 8
theorem sc_joined : FnScope N_joined ["stretches"] (defScope s_joined) := ⟨rfl, rfl, rfl, by decide +kernel, rfl, by decide +kernel, by decide +kernel⟩
theorem ck_joined : cSs G_joined N_joined b_joined (defScope s_joined) (defBody s_joined) = true := by kernel_rfl
abbrev s_normal : PySem.Stmt := top 9
theorem sc_normal : FnScope N_normal ["script"] (defScope s_normal) := ⟨rfl, rfl, rfl, by decide +kernel, rfl, by decide +kernel, by decide +kernel⟩
theorem ck_normal : cSs G_normal N_normal b_normal (defScope s_normal) (defBody s_normal) = true := by kernel_rfl
abbrev s_Rehearsal_init : PySem.Stmt := inClass (top 22) 0
theorem sc_Rehearsal_init : FnScope N_Rehearsal_init ["self", "scripts"] (defScope s_Rehearsal_init) := ⟨rfl, rfl, rfl, by decide +kernel, rfl, by decide +kernel, by decide +kernel⟩
theorem ck_Rehearsal_init : cSs G_Rehearsal_init N_Rehearsal_init b_Rehearsal_init (defScope s_Rehearsal_init) (defBody s_Rehearsal_init) = true := by kernel_rfl
abbrev s_is_number : PySem.Stmt := top 5
theorem sc_is_number : FnScope N_is_number ["value", "least", "most"] (defScope s_is_number) := ⟨rfl, rfl, rfl, by decide +kernel, rfl, by decide +kernel, by decide +kernel⟩
theorem ck_is_number : cSs G_is_number N_is_number b_is_number (defScope s_is_number) (defBody s_is_number) = true := by kernel_rfl
abbrev s_is_stretch : PySem.Stmt := top 6
theorem sc_is_stretch : FnScope N_is_stretch ["value"] (defScope s_is_stretch) := ⟨rfl, rfl, rfl, by decide +kernel, rfl, by decide +kernel, by decide +kernel⟩
theorem ck_is_stretch : cSs G_is_stretch N_is_stretch b_is_stretch (defScope s_is_stretch) (defBody s_is_stretch) = true := by kernel_rfl
abbrev s_is_instruction : PySem.Stmt := top 20
theorem sc_is_instruction : FnScope N_is_instruction ["value"] (defScope s_is_instruction) := ⟨rfl, rfl, rfl, by decide +kernel, rfl, by decide +kernel, by decide +kernel⟩
theorem ck_is_instruction : cSs G_is_instruction N_is_instruction b_is_instruction (defScope s_is_instruction) (defBody s_is_instruction) = true := by kernel_rfl
abbrev s_is_enough : PySem.Stmt := top 23
theorem sc_is_enough : FnScope N_is_enough ["scripts", "registers", "plan"] (defScope s_is_enough) := ⟨rfl, rfl, rfl, by decide +kernel, rfl, by decide +kernel, by decide +kernel⟩
theorem ck_is_enough : cSs G_is_enough N_is_enough b_is_enough (defScope s_is_enough) (defBody s_is_enough) = true := by kernel_rfl
abbrev s_judge_registers : PySem.Stmt := top 29
theorem sc_judge_registers : FnScope N_judge_registers ["scripts", "registers", "paper"] (defScope s_judge_registers) := ⟨rfl, rfl, rfl, by decide +kernel, rfl, by decide +kernel, by decide +kernel⟩
theorem ck_judge_registers : cSs G_judge_registers N_judge_registers b_judge_registers (defScope s_judge_registers) (defBody s_judge_registers) = true := by kernel_rfl
abbrev s_law_stretches : PySem.Stmt := top 35
theorem sc_law_stretches : FnScope N_law_stretches ["_law_steps_here"] (defScope s_law_stretches) := ⟨rfl, rfl, rfl, by decide +kernel, rfl, by decide +kernel, by decide +kernel⟩
theorem ck_law_stretches : cSs G_law_stretches N_law_stretches b_law_stretches (defScope s_law_stretches) (defBody s_law_stretches) = true := by kernel_rfl
abbrev s_law_steps : PySem.Stmt := top 34
theorem sc_law_steps : FnScope N_law_steps ["_law_script"] (defScope s_law_steps) := ⟨rfl, rfl, rfl, by decide +kernel, rfl, by decide +kernel, by decide +kernel⟩
theorem ck_law_steps : cSs G_law_steps N_law_steps b_law_steps (defScope s_law_steps) (defBody s_law_steps) = true := by kernel_rfl
abbrev s_law_draws : PySem.Stmt := top 32
theorem sc_law_draws : FnScope N_law_draws ["_law_cell_here", "_law_count"] (defScope s_law_draws) := ⟨rfl, rfl, rfl, by decide +kernel, rfl, by decide +kernel, by decide +kernel⟩
theorem ck_law_draws : cSs G_law_draws N_law_draws b_law_draws (defScope s_law_draws) (defBody s_law_draws) = true := by kernel_rfl
abbrev s_law_scripts : PySem.Stmt := top 33
theorem sc_law_scripts : FnScope N_law_scripts ["_law_cell_here"] (defScope s_law_scripts) := ⟨rfl, rfl, rfl, by decide +kernel, rfl, by decide +kernel, by decide +kernel⟩
theorem ck_law_scripts : cSs G_law_scripts N_law_scripts b_law_scripts (defScope s_law_scripts) (defBody s_law_scripts) = true := by kernel_rfl
abbrev s_law_cell : PySem.Stmt := top 31
theorem sc_law_cell : FnScope N_law_cell ["_law_script", "_law_k"] (defScope s_law_cell) := ⟨rfl, rfl, rfl, by decide +kernel, rfl, by decide +kernel, by decide +kernel⟩
theorem ck_law_cell : cSs G_law_cell N_law_cell b_law_cell (defScope s_law_cell) (defBody s_law_cell) = true := by kernel_rfl
abbrev s_law : PySem.Stmt := top 36
theorem sc_law : FnScope N_law ["_law_script"] (defScope s_law) := ⟨rfl, rfl, rfl, by decide +kernel, rfl, by decide +kernel, by decide +kernel⟩
theorem ck_law : cSs G_law N_law b_law (defScope s_law) (defBody s_law) = true := by kernel_rfl
theorem all_mk {l : PySem.W.OpenLaw} {w : World} {K : PySem.W.Frag} {h : Heap} {mg : Str → Option Value} {fa p0 p1 p2 p3 p4 p5 p6 p7 p8 p9 p10 p11 p12 p13 p14 p15 p16 p17 p18 p19 p20 p21 C0 T0 : Addr} (X : K.In h) (G : h.Ns mainGlobals mg) (hfa : mg "law" = some (.ref fa))
    {od0 an0 od1 an1 od2 an2 od3 an3 od4 an4 od5 an5 od6 an6 od7 an7 od8 an8 od9 an9 od10 an10 od11 an11 od12 an12 od13 an13 od14 an14 od15 an15 od16 an16 od17 an17 od18 an18 od19 an19 od20 an20 od21 an21 : Option Addr} {sl0 sl1 sl2 sl3 sl4 sl5 sl6 sl7 sl8 sl9 sl10 sl11 sl12 sl13 sl14 sl15 sl16 sl17 sl18 sl19 sl20 sl21 : Array (Option Value)} {oc0 kV0 dc0 pm0 cd0 ct0 oc1 kV1 dc1 pm1 cd1 ct1 oc2 kV2 dc2 pm2 cd2 ct2 oc3 kV3 dc3 pm3 cd3 ct3 oc4 kV4 dc4 pm4 cd4 ct4 oc5 kV5 dc5 pm5 cd5 ct5 oc6 kV6 dc6 pm6 cd6 ct6 oc7 kV7 dc7 pm7 cd7 ct7 oc8 kV8 dc8 pm8 cd8 ct8 oc9 kV9 dc9 pm9 cd9 ct9 oc10 kV10 dc10 pm10 cd10 ct10 oc11 kV11 dc11 pm11 cd11 ct11 oc12 kV12 dc12 pm12 cd12 ct12 oc13 kV13 dc13 pm13 cd13 ct13 oc14 kV14 dc14 pm14 cd14 ct14 oc15 kV15 dc15 pm15 cd15 ct15 oc16 kV16 dc16 pm16 cd16 ct16 oc17 kV17 dc17 pm17 cd17 ct17 oc18 kV18 dc18 pm18 cd18 ct18 oc19 kV19 dc19 pm19 cd19 ct19 oc20 kV20 dc20 pm20 cd20 ct20 oc21 kV21 dc21 pm21 cd21 ct21 : Value} {t0 t1 t2 t3 t4 t5 tq0_0 tq0_1 tq0_2 tq0_3 tq0_4 : Tok}
    (aC0 : PySem.W.nsIn K mainGlobals "Rehearsal" = some (some (.ref C0))) (pg0 : PySem.W.plainGet K C0 Str.empty = true) (hd0 : PySem.W.hasDictIn K C0 = true) (po0 : PySem.W.plainOver K C0 = true) (sa0 : PySem.W.findIn K (.ref C0) "__setattr__" = some (some (.builtin "object.__setattr__")))
    (mk0 : PySem.W.makesIn K C0 = true) (kc0 : PySem.W.keepIn K (.ref C0) = true)
    (n0_0 : PySem.W.findIn K (.ref C0) "scripts" = some none)
    (n0_1 : PySem.W.findIn K (.ref C0) "held" = some none)
    (n0_2 : PySem.W.findIn K (.ref C0) "delivered" = some none)
    (n0_3 : PySem.W.findIn K (.ref C0) "steps" = some none)
    (n0_4 : PySem.W.findIn K (.ref C0) "most" = some none)
    (a0 : PySem.W.nsIn K mainGlobals "parts_at" = some (some (.ref p0))) (l0 : K.lookup p0 = some ⟨oc0, od0, .func (PySem.W.fnOf "parts_at" "parts_at" (defArgs s_parts_at) (defBody s_parts_at) (defScope s_parts_at) .none kV0 dc0 pm0 an0 cd0 ct0), sl0⟩) (c0 : PySem.W.codeIn K cd0 "parts_at" = true) (k0 : PySem.W.keepIn K (.ref p0) = true)
    (a1 : PySem.W.nsIn K mainGlobals "is_paper" = some (some (.ref p1))) (l1 : K.lookup p1 = some ⟨oc1, od1, .func (PySem.W.fnOf "is_paper" "is_paper" (defArgs s_is_paper) (defBody s_is_paper) (defScope s_is_paper) .none kV1 dc1 pm1 an1 cd1 ct1), sl1⟩) (c1 : PySem.W.codeIn K cd1 "is_paper" = true) (k1 : PySem.W.keepIn K (.ref p1) = true)
    (a2 : PySem.W.nsIn K mainGlobals "leaves_of" = some (some (.ref p2))) (l2 : K.lookup p2 = some ⟨oc2, od2, .func (PySem.W.fnOf "leaves_of" "leaves_of" (defArgs s_leaves_of) (defBody s_leaves_of) (defScope s_leaves_of) .none kV2 dc2 pm2 an2 cd2 ct2), sl2⟩) (c2 : PySem.W.codeIn K cd2 "leaves_of" = true) (k2 : PySem.W.keepIn K (.ref p2) = true)
    (a3 : PySem.W.nsIn K mainGlobals "level_of" = some (some (.ref p3))) (l3 : K.lookup p3 = some ⟨oc3, od3, .func (PySem.W.fnOf "level_of" "level_of" (defArgs s_level_of) (defBody s_level_of) (defScope s_level_of) .none kV3 dc3 pm3 an3 cd3 ct3), sl3⟩) (c3 : PySem.W.codeIn K cd3 "level_of" = true) (k3 : PySem.W.keepIn K (.ref p3) = true)
    (a4 : PySem.W.nsIn K mainGlobals "position_of" = some (some (.ref p4))) (l4 : K.lookup p4 = some ⟨oc4, od4, .func (PySem.W.fnOf "position_of" "position_of" (defArgs s_position_of) (defBody s_position_of) (defScope s_position_of) .none kV4 dc4 pm4 an4 cd4 ct4), sl4⟩) (c4 : PySem.W.codeIn K cd4 "position_of" = true) (k4 : PySem.W.keepIn K (.ref p4) = true)
    (a5 : PySem.W.nsIn K mainGlobals "is_leaf" = some (some (.ref p5))) (l5 : K.lookup p5 = some ⟨oc5, od5, .func (PySem.W.fnOf "is_leaf" "is_leaf" (defArgs s_is_leaf) (defBody s_is_leaf) (defScope s_is_leaf) .none kV5 dc5 pm5 an5 cd5 ct5), sl5⟩) (c5 : PySem.W.codeIn K cd5 "is_leaf" = true) (k5 : PySem.W.keepIn K (.ref p5) = true)
    (a6 : PySem.W.nsIn K mainGlobals "is_too_few" = some (some (.ref p6))) (l6 : K.lookup p6 = some ⟨oc6, od6, .func (PySem.W.fnOf "is_too_few" "is_too_few" (defArgs s_is_too_few) (defBody s_is_too_few) (defScope s_is_too_few) .none kV6 dc6 pm6 an6 cd6 ct6), sl6⟩) (c6 : PySem.W.codeIn K cd6 "is_too_few" = true) (k6 : PySem.W.keepIn K (.ref p6) = true)
    (a7 : PySem.W.findIn K (.ref C0) "take" = some (some (.ref p7))) (i7 : PySem.W.isFn K (.ref p7) = true) (l7 : K.lookup p7 = some ⟨oc7, od7, .func (PySem.W.fnOf "take" "Rehearsal.take" (defArgs s_Rehearsal_take) (defBody s_Rehearsal_take) (defScope s_Rehearsal_take) .none kV7 dc7 pm7 an7 cd7 ct7), sl7⟩) (c7 : PySem.W.codeIn K cd7 "Rehearsal.take" = true) (k7 : PySem.W.keepIn K (.ref p7) = true)
    (a8 : PySem.W.nsIn K mainGlobals "joined" = some (some (.ref p8))) (l8 : K.lookup p8 = some ⟨oc8, od8, .func (PySem.W.fnOf "joined" "joined" (defArgs s_joined) (defBody s_joined) (defScope s_joined) .none kV8 dc8 pm8 an8 cd8 ct8), sl8⟩) (c8 : PySem.W.codeIn K cd8 "joined" = true) (k8 : PySem.W.keepIn K (.ref p8) = true)
    (a9 : PySem.W.nsIn K mainGlobals "normal" = some (some (.ref p9))) (l9 : K.lookup p9 = some ⟨oc9, od9, .func (PySem.W.fnOf "normal" "normal" (defArgs s_normal) (defBody s_normal) (defScope s_normal) .none kV9 dc9 pm9 an9 cd9 ct9), sl9⟩) (c9 : PySem.W.codeIn K cd9 "normal" = true) (k9 : PySem.W.keepIn K (.ref p9) = true)
    (a10 : PySem.W.findIn K (.ref C0) "__init__" = some (some (.ref p10))) (i10 : PySem.W.isFn K (.ref p10) = true) (l10 : K.lookup p10 = some ⟨oc10, od10, .func (PySem.W.fnOf "__init__" "Rehearsal.__init__" (defArgs s_Rehearsal_init) (defBody s_Rehearsal_init) (defScope s_Rehearsal_init) .none kV10 dc10 pm10 an10 cd10 ct10), sl10⟩) (c10 : PySem.W.codeIn K cd10 "Rehearsal.__init__" = true) (k10 : PySem.W.keepIn K (.ref p10) = true)
    (a11 : PySem.W.nsIn K mainGlobals "is_number" = some (some (.ref p11))) (l11 : K.lookup p11 = some ⟨oc11, od11, .func (PySem.W.fnOf "is_number" "is_number" (defArgs s_is_number) (defBody s_is_number) (defScope s_is_number) .none kV11 dc11 pm11 an11 cd11 ct11), sl11⟩) (c11 : PySem.W.codeIn K cd11 "is_number" = true) (k11 : PySem.W.keepIn K (.ref p11) = true)
    (a12 : PySem.W.nsIn K mainGlobals "is_stretch" = some (some (.ref p12))) (l12 : K.lookup p12 = some ⟨oc12, od12, .func (PySem.W.fnOf "is_stretch" "is_stretch" (defArgs s_is_stretch) (defBody s_is_stretch) (defScope s_is_stretch) .none kV12 dc12 pm12 an12 cd12 ct12), sl12⟩) (c12 : PySem.W.codeIn K cd12 "is_stretch" = true) (k12 : PySem.W.keepIn K (.ref p12) = true)
    (a13 : PySem.W.nsIn K mainGlobals "is_instruction" = some (some (.ref p13))) (l13 : K.lookup p13 = some ⟨oc13, od13, .func (PySem.W.fnOf "is_instruction" "is_instruction" (defArgs s_is_instruction) (defBody s_is_instruction) (defScope s_is_instruction) .none kV13 dc13 pm13 an13 cd13 ct13), sl13⟩) (c13 : PySem.W.codeIn K cd13 "is_instruction" = true) (k13 : PySem.W.keepIn K (.ref p13) = true)
    (a14 : PySem.W.nsIn K mainGlobals "is_enough" = some (some (.ref p14))) (l14 : K.lookup p14 = some ⟨oc14, od14, .func (PySem.W.fnOf "is_enough" "is_enough" (defArgs s_is_enough) (defBody s_is_enough) (defScope s_is_enough) .none kV14 dc14 pm14 an14 cd14 ct14), sl14⟩) (c14 : PySem.W.codeIn K cd14 "is_enough" = true) (k14 : PySem.W.keepIn K (.ref p14) = true)
    (a15 : PySem.W.nsIn K mainGlobals "judge_registers" = some (some (.ref p15))) (l15 : K.lookup p15 = some ⟨oc15, od15, .func (PySem.W.fnOf "judge_registers" "judge_registers" (defArgs s_judge_registers) (defBody s_judge_registers) (defScope s_judge_registers) .none kV15 dc15 pm15 an15 cd15 ct15), sl15⟩) (c15 : PySem.W.codeIn K cd15 "judge_registers" = true) (k15 : PySem.W.keepIn K (.ref p15) = true)
    (a16 : PySem.W.nsIn K mainGlobals "_law_stretches" = some (some (.ref p16))) (l16 : K.lookup p16 = some ⟨oc16, od16, .func (PySem.W.fnOf "_law_stretches" "_law_stretches" (defArgs s_law_stretches) (defBody s_law_stretches) (defScope s_law_stretches) .none kV16 dc16 pm16 an16 cd16 ct16), sl16⟩) (c16 : PySem.W.codeIn K cd16 "_law_stretches" = true) (k16 : PySem.W.keepIn K (.ref p16) = true)
    (a17 : PySem.W.nsIn K mainGlobals "_law_steps" = some (some (.ref p17))) (l17 : K.lookup p17 = some ⟨oc17, od17, .func (PySem.W.fnOf "_law_steps" "_law_steps" (defArgs s_law_steps) (defBody s_law_steps) (defScope s_law_steps) .none kV17 dc17 pm17 an17 cd17 ct17), sl17⟩) (c17 : PySem.W.codeIn K cd17 "_law_steps" = true) (k17 : PySem.W.keepIn K (.ref p17) = true)
    (a18 : PySem.W.nsIn K mainGlobals "_law_draws" = some (some (.ref p18))) (l18 : K.lookup p18 = some ⟨oc18, od18, .func (PySem.W.fnOf "_law_draws" "_law_draws" (defArgs s_law_draws) (defBody s_law_draws) (defScope s_law_draws) .none kV18 dc18 pm18 an18 cd18 ct18), sl18⟩) (c18 : PySem.W.codeIn K cd18 "_law_draws" = true) (k18 : PySem.W.keepIn K (.ref p18) = true)
    (a19 : PySem.W.nsIn K mainGlobals "_law_scripts" = some (some (.ref p19))) (l19 : K.lookup p19 = some ⟨oc19, od19, .func (PySem.W.fnOf "_law_scripts" "_law_scripts" (defArgs s_law_scripts) (defBody s_law_scripts) (defScope s_law_scripts) .none kV19 dc19 pm19 an19 cd19 ct19), sl19⟩) (c19 : PySem.W.codeIn K cd19 "_law_scripts" = true) (k19 : PySem.W.keepIn K (.ref p19) = true)
    (a20 : PySem.W.nsIn K mainGlobals "_law_cell" = some (some (.ref p20))) (l20 : K.lookup p20 = some ⟨oc20, od20, .func (PySem.W.fnOf "_law_cell" "_law_cell" (defArgs s_law_cell) (defBody s_law_cell) (defScope s_law_cell) .none kV20 dc20 pm20 an20 cd20 ct20), sl20⟩) (c20 : PySem.W.codeIn K cd20 "_law_cell" = true) (k20 : PySem.W.keepIn K (.ref p20) = true)
    (a21 : PySem.W.nsIn K mainGlobals "law" = some (some (.ref p21))) (l21 : K.lookup p21 = some ⟨oc21, od21, .func (PySem.W.fnOf "law" "law" (defArgs s_law) (defBody s_law) (defScope s_law) .none kV21 dc21 pm21 an21 cd21 ct21), sl21⟩) (c21 : PySem.W.codeIn K cd21 "law" = true) (k21 : PySem.W.keepIn K (.ref p21) = true)
    (y0 : PySem.W.nsIn K mainGlobals "MOST_DEPTH" = some (some (.int 20 t0)))
    (y1 : PySem.W.nsIn K mainGlobals "MOST_MARGIN" = some (some (.int 1000000 t1)))
    (y2 : PySem.W.nsIn K mainGlobals "MOST_RATE" = some (some (.int 100 t2)))
    (y3 : PySem.W.nsIn K mainGlobals "MOST_SEED" = some (some (.int 1000000 t3)))
    (y4 : PySem.W.nsIn K mainGlobals "MOST_SLOT" = some (some (.int 99 t4)))
    (y5 : PySem.W.nsIn K mainGlobals "MOST_STEPS" = some (some (.int 10000 t5)))
    (z0 : PySem.W.nsIn K mainGlobals "len" = some none)
    (z1 : PySem.W.nsIn K mainGlobals "min" = some none)
    (z2 : PySem.W.nsIn K mainGlobals "max" = some none)
    (z3 : PySem.W.nsIn K mainGlobals "sum" = some none)
    (z4 : PySem.W.nsIn K mainGlobals "all" = some none)
    (z5 : PySem.W.nsIn K mainGlobals "any" = some none)
    (z6 : PySem.W.nsIn K mainGlobals "sorted" = some none)
    (z7 : PySem.W.nsIn K mainGlobals "list" = some none)
    (z8 : PySem.W.nsIn K mainGlobals "tuple" = some none)
    (z9 : PySem.W.nsIn K mainGlobals "int" = some none)
    (z10 : PySem.W.nsIn K mainGlobals "abs" = some none)
    (z11 : PySem.W.nsIn K mainGlobals "isinstance" = some none)
    (z12 : PySem.W.nsIn K mainGlobals "range" = some none)
    (z13 : PySem.W.nsIn K mainGlobals "zip" = some none)
    (z14 : PySem.W.nsIn K mainGlobals "enumerate" = some none)
    (z15 : PySem.W.nsIn K mainGlobals "bool" = some none)
    (z16 : PySem.W.nsIn K mainGlobals "str" = some none)
    (aT0 : PySem.W.nsIn K mainGlobals "LENGTHS" = some (some (.ref T0))) (kd0 : He.dicW K T0 = some (He.keysIn w.params ["found", "copy", "train", "deliver", "free"]))
    (q0_0 : PySem.W.nsIn K T0 "found" = some (some (.int 3 tq0_0)))
    (q0_1 : PySem.W.nsIn K T0 "copy" = some (some (.int 3 tq0_1)))
    (q0_2 : PySem.W.nsIn K T0 "train" = some (some (.int 5 tq0_2)))
    (q0_3 : PySem.W.nsIn K T0 "deliver" = some (some (.int 3 tq0_3)))
    (q0_4 : PySem.W.nsIn K T0 "free" = some (some (.int 2 tq0_4)))
    (m0_0 : PySem.W.nsIn K T0 "jump" = some none) :
    ∃ fd : FuncData, (∀ (s : Shared) (v : Value), BindsTo s fd ⟨[v], []⟩ [("_law_script", v)]) ∧ ∀ base : Heap, K.In base → base.Ns mainGlobals mg → FnOk l.prog w K mg base (L2.CX l.prog w) 49 fa fd ["_law_script"] (spLaw K) := by
  have e := hfa.symm.trans (PySem.W.mg_of X G a21)
  cases e
  have T : Tops K mg := ⟨by
    intro x hx
    simp only [bnames, List.mem_cons, List.not_mem_nil, or_false] at hx
    rcases hx with rfl | rfl | rfl | rfl | rfl | rfl | rfl | rfl | rfl | rfl | rfl | rfl | rfl | rfl | rfl | rfl | rfl
    · exact PySem.W.mg_none_of X G z0
    · exact PySem.W.mg_none_of X G z1
    · exact PySem.W.mg_none_of X G z2
    · exact PySem.W.mg_none_of X G z3
    · exact PySem.W.mg_none_of X G z4
    · exact PySem.W.mg_none_of X G z5
    · exact PySem.W.mg_none_of X G z6
    · exact PySem.W.mg_none_of X G z7
    · exact PySem.W.mg_none_of X G z8
    · exact PySem.W.mg_none_of X G z9
    · exact PySem.W.mg_none_of X G z10
    · exact PySem.W.mg_none_of X G z11
    · exact PySem.W.mg_none_of X G z12
    · exact PySem.W.mg_none_of X G z13
    · exact PySem.W.mg_none_of X G z14
    · exact PySem.W.mg_none_of X G z15
    · exact PySem.W.mg_none_of X G z16⟩
  have K0 : Cls K C0 := ⟨pg0, hd0, po0, sa0⟩
  have L0 : ClC K "Rehearsal" ["scripts", "held", "delivered", "steps", "most"] := ⟨⟨C0, aC0, K0, by decide +kernel, by decide, by
    intro f hf
    simp only [List.mem_cons, List.not_mem_nil, or_false] at hf
    rcases hf with rfl | rfl | rfl | rfl | rfl
    · exact n0_0
    · exact n0_1
    · exact n0_2
    · exact n0_3
    · exact n0_4⟩⟩
  have M0 : TabC K w mg "LENGTHS" [("found", some (.int 3)), ("copy", some (.int 3)), ("train", some (.int 5)), ("deliver", some (.int 3)), ("free", some (.int 2)), ("jump", none)] := tabC_mk kd0 (PySem.W.mg_of X G aT0) (by
    intro p hp
    simp only [List.mem_cons, List.not_mem_nil, or_false] at hp
    rcases hp with rfl | rfl | rfl | rfl | rfl | rfl
    · exact tabC_int q0_0
    · exact tabC_int q0_1
    · exact tabC_int q0_2
    · exact tabC_int q0_3
    · exact tabC_int q0_4
    · exact m0_0)
  have F0 := fun_mk (st := s_parts_at) l0 c0 k0
  have b0 := F0.binds (ps := ["scripts", "position", "left", "right"]) fun _ _ _ _ _ _ us hl => match us, hl with | [_, _, _, _], _ => rfl
  have F1 := fun_mk (st := s_is_paper) l1 c1 k1
  have b1 := F1.binds (ps := ["paper", "kind", "length"]) fun _ _ _ _ _ _ us hl => match us, hl with | [_, _, _], _ => rfl
  have F2 := fun_mk (st := s_leaves_of) l2 c2 k2
  have b2 := F2.binds (ps := ["tree", "depth"]) fun _ _ _ _ _ _ us hl => match us, hl with | [_, _], _ => rfl
  have F3 := fun_mk (st := s_level_of) l3 c3 k3
  have b3 := F3.binds (ps := ["scripts", "tree"]) fun _ _ _ _ _ _ us hl => match us, hl with | [_, _], _ => rfl
  have F4 := fun_mk (st := s_position_of) l4 c4 k4
  have b4 := F4.binds (ps := ["script"]) fun _ _ _ _ _ _ us hl => match us, hl with | [_], _ => rfl
  have F5 := fun_mk (st := s_is_leaf) l5 c5 k5
  have b5 := F5.binds (ps := ["scripts", "index"]) fun _ _ _ _ _ _ us hl => match us, hl with | [_, _], _ => rfl
  have F6 := fun_mk (st := s_is_too_few) l6 c6 k6
  have b6 := F6.binds (ps := ["scripts", "registers", "tree"]) fun _ _ _ _ _ _ us hl => match us, hl with | [_, _, _], _ => rfl
  have F7 := fun_mk (st := s_Rehearsal_take) l7 c7 k7
  have b7 := F7.binds (ps := ["self", "instruction"]) fun _ _ _ _ _ _ us hl => match us, hl with | [_, _], _ => rfl
  have F8 := fun_mk (st := s_joined) l8 c8 k8
  have b8 := F8.binds (ps := ["stretches"]) fun _ _ _ _ _ _ us hl => match us, hl with | [_], _ => rfl
  have F9 := fun_mk (st := s_normal) l9 c9 k9
  have b9 := F9.binds (ps := ["script"]) fun _ _ _ _ _ _ us hl => match us, hl with | [_], _ => rfl
  have F10 := fun_mk (st := s_Rehearsal_init) l10 c10 k10
  have b10 := F10.binds (ps := ["self", "scripts"]) fun _ _ _ _ _ _ us hl => match us, hl with | [_, _], _ => rfl
  have F11 := fun_mk (st := s_is_number) l11 c11 k11
  have b11 := F11.binds (ps := ["value", "least", "most"]) fun _ _ _ _ _ _ us hl => match us, hl with | [_, _, _], _ => rfl
  have F12 := fun_mk (st := s_is_stretch) l12 c12 k12
  have b12 := F12.binds (ps := ["value"]) fun _ _ _ _ _ _ us hl => match us, hl with | [_], _ => rfl
  have F13 := fun_mk (st := s_is_instruction) l13 c13 k13
  have b13 := F13.binds (ps := ["value"]) fun _ _ _ _ _ _ us hl => match us, hl with | [_], _ => rfl
  have F14 := fun_mk (st := s_is_enough) l14 c14 k14
  have b14 := F14.binds (ps := ["scripts", "registers", "plan"]) fun _ _ _ _ _ _ us hl => match us, hl with | [_, _, _], _ => rfl
  have F15 := fun_mk (st := s_judge_registers) l15 c15 k15
  have b15 := F15.binds (ps := ["scripts", "registers", "paper"]) fun _ _ _ _ _ _ us hl => match us, hl with | [_, _, _], _ => rfl
  have F16 := fun_mk (st := s_law_stretches) l16 c16 k16
  have b16 := F16.binds (ps := ["_law_steps_here"]) fun _ _ _ _ _ _ us hl => match us, hl with | [_], _ => rfl
  have F17 := fun_mk (st := s_law_steps) l17 c17 k17
  have b17 := F17.binds (ps := ["_law_script"]) fun _ _ _ _ _ _ us hl => match us, hl with | [_], _ => rfl
  have F18 := fun_mk (st := s_law_draws) l18 c18 k18
  have b18 := F18.binds (ps := ["_law_cell_here", "_law_count"]) fun _ _ _ _ _ _ us hl => match us, hl with | [_, _], _ => rfl
  have F19 := fun_mk (st := s_law_scripts) l19 c19 k19
  have b19 := F19.binds (ps := ["_law_cell_here"]) fun _ _ _ _ _ _ us hl => match us, hl with | [_], _ => rfl
  have F20 := fun_mk (st := s_law_cell) l20 c20 k20
  have b20 := F20.binds (ps := ["_law_script", "_law_k"]) fun _ _ _ _ _ _ us hl => match us, hl with | [_, _], _ => rfl
  have F21 := fun_mk (st := s_law) l21 c21 k21
  have b21 := F21.binds (ps := ["_law_script"]) fun _ _ _ _ _ _ us hl => match us, hl with | [_], _ => rfl
  refine ⟨PySem.W.fnOf "law" "law" (defArgs s_law) (defBody s_law) (defScope s_law) .none kV21 dc21 pm21 an21 cd21 ct21, fun s v => .of_eq rfl, fun base _ _ => ?_⟩
  have D0 : CalZ l.prog w K mg base 1 "parts_at" 4 f_parts_at := calZ (k := 0) F0 (PySem.W.mg_of X G a0) b0 sc_parts_at T .nil ck_parts_at
  have D1 : CalZ l.prog w K mg base 1 "is_paper" 3 f_is_paper := calZ (k := 0) F1 (PySem.W.mg_of X G a1) b1 sc_is_paper T .nil ck_is_paper
  have D2 : CalZ l.prog w K mg base 26 "leaves_of" 2 (f_leaves_of 25) := by
    have go : ∀ n : Nat, CalZ l.prog w K mg base (1 + n) "leaves_of" 2 (f_leaves_of n) := fun n => by
      induction n with
      | zero => exact calZ_bad F2 (PySem.W.mg_of X G a2) b2
      | succ n ih => exact calZ (k := 1 + n) F2 (PySem.W.mg_of X G a2) b2 sc_leaves_of T (.cons (go_cal ih (Nat.le_refl _)) (.cons (go_cal D1 (by omega)) .nil)) (ck_leaves_of (f_leaves_of n))
    exact go 25
  have D3 : CalZ l.prog w K mg base 46 "level_of" 2 (f_level_of 20) := by
    have go : ∀ n : Nat, CalZ l.prog w K mg base (26 + n) "level_of" 2 (f_level_of n) := fun n => by
      induction n with
      | zero => exact calZ_bad F3 (PySem.W.mg_of X G a3) b3
      | succ n ih => exact calZ (k := 26 + n) F3 (PySem.W.mg_of X G a3) b3 sc_level_of T (.cons (go_cal D0 (by omega)) (.cons (go_cal D2 (by omega)) (.cons (con_int (PySem.W.mg_of X G y0)) (.cons (go_cal ih (Nat.le_refl _)) .nil)))) (ck_level_of (f_level_of n))
    exact go 20
  have D4 : CalZ l.prog w K mg base 1 "position_of" 1 f_position_of := calZ (k := 0) F4 (PySem.W.mg_of X G a4) b4 sc_position_of T .nil ck_position_of
  have D5 : CalZ l.prog w K mg base 2 "is_leaf" 2 f_is_leaf := calZ (k := 1) F5 (PySem.W.mg_of X G a5) b5 sc_is_leaf T (.cons (go_cal D4 (by decide)) .nil) ck_is_leaf
  have D6 : CalZ l.prog w K mg base 47 "is_too_few" 3 f_is_too_few := calZ (k := 46) F6 (PySem.W.mg_of X G a6) b6 sc_is_too_few T (.cons (go_cal D3 (by decide)) (.cons (go_cal D5 (by decide)) (.cons (go_cal D2 (by decide)) (.cons (con_int (PySem.W.mg_of X G y0)) .nil)))) ck_is_too_few
  have D7 : MthZ l.prog w K mg base 1 "Rehearsal" "take" 2 f_Rehearsal_take := mthZ (k := 0) F7 aC0 K0 ⟨a7, i7, k7⟩ b7 sc_Rehearsal_take T (.cons (L0) .nil) ck_Rehearsal_take
  have D8 : CalZ l.prog w K mg base 1 "joined" 1 f_joined := calZ (k := 0) F8 (PySem.W.mg_of X G a8) b8 sc_joined T .nil ck_joined
  have D9 : CalZ l.prog w K mg base 2 "normal" 1 f_normal := calZ (k := 1) F9 (PySem.W.mg_of X G a9) b9 sc_normal T (.cons (go_cal D8 (by decide)) .nil) ck_normal
  have D10 : MakZ l.prog w K mg base 4 "Rehearsal" 2 f_Rehearsal_init := makZ (k := 2) F10 aC0 (PySem.W.mg_of X G aC0) ⟨mk0, a10, i10, kc0⟩ b10 sc_Rehearsal_init T (.cons (L0) (.cons (go_cal D9 (by decide)) .nil)) ck_Rehearsal_init
  have D11 : CalZ l.prog w K mg base 1 "is_number" 3 f_is_number := calZ (k := 0) F11 (PySem.W.mg_of X G a11) b11 sc_is_number T .nil ck_is_number
  have D12 : CalZ l.prog w K mg base 2 "is_stretch" 1 f_is_stretch := calZ (k := 1) F12 (PySem.W.mg_of X G a12) b12 sc_is_stretch T (.cons (go_cal D11 (by decide)) (.cons (con_int (PySem.W.mg_of X G y1)) (.cons (con_int (PySem.W.mg_of X G y2)) (.cons (con_int (PySem.W.mg_of X G y5)) .nil)))) ck_is_stretch
  have D13 : CalZ l.prog w K mg base 3 "is_instruction" 1 f_is_instruction := calZ (k := 2) F13 (PySem.W.mg_of X G a13) b13 sc_is_instruction T (.cons (go_cal D11 (by decide)) (.cons (con_int (PySem.W.mg_of X G y4)) (.cons (go_cal D12 (by decide)) (.cons (con_int (PySem.W.mg_of X G y3)) (.cons (M0) .nil))))) ck_is_instruction
  have D14 : CalZ l.prog w K mg base 5 "is_enough" 3 f_is_enough := calZ (k := 4) F14 (PySem.W.mg_of X G a14) b14 sc_is_enough T (.cons (L0) (.cons (MthZ.mono D7 (by decide)) (.cons (MakZ.mono D10 (by decide)) (.cons (go_cal D13 (by decide)) .nil)))) ck_is_enough
  have D15 : CalZ l.prog w K mg base 48 "judge_registers" 3 f_judge_registers := calZ (k := 47) F15 (PySem.W.mg_of X G a15) b15 sc_judge_registers T (.cons (go_cal D6 (by decide)) (.cons (go_cal D1 (by decide)) (.cons (go_cal D14 (by decide)) .nil))) ck_judge_registers
  have D16 : CalZ l.prog w K mg base 1 "_law_stretches" 1 f_law_stretches := calZ (k := 0) F16 (PySem.W.mg_of X G a16) b16 sc_law_stretches T .nil ck_law_stretches
  have D17 : CalZ l.prog w K mg base 1 "_law_steps" 1 f_law_steps := calZ (k := 0) F17 (PySem.W.mg_of X G a17) b17 sc_law_steps T .nil ck_law_steps
  have D18 : CalZ l.prog w K mg base 1 "_law_draws" 2 f_law_draws := calZ (k := 0) F18 (PySem.W.mg_of X G a18) b18 sc_law_draws T .nil ck_law_draws
  have D19 : CalZ l.prog w K mg base 2 "_law_scripts" 1 f_law_scripts := calZ (k := 1) F19 (PySem.W.mg_of X G a19) b19 sc_law_scripts T (.cons (go_cal D16 (by decide)) (.cons (go_cal D17 (by decide)) (.cons (go_cal D18 (by decide)) .nil))) ck_law_scripts
  have D20 : CalZ l.prog w K mg base 1 "_law_cell" 2 f_law_cell := calZ (k := 0) F20 (PySem.W.mg_of X G a20) b20 sc_law_cell T .nil ck_law_cell
  exact (fn_okZ (P := l.prog) (w := w) (base := base) (k := 48) F21 sc_law T (.cons (go_cal D15 (by decide)) (.cons (go_cal D19 (by decide)) (.cons (go_cal D20 (by decide)) .nil))) ck_law).imp (law_imp law_true)
end Zl
open PySem PySem.W PyProof.Rows in
set_option maxRecDepth 100000 in
set_option maxHeartbeats 0 in
theorem PySem.Challenge.cw_trialcopies_k43_nonsense_is_not_taken_holds : PySem.Challenge.rw_trialcopies_k43_nonsense_is_not_taken.Holds := by
  w_on; o_law; k_head; (case hw => w_witness2)
  k_fill
  refine Zz.walkZ (l := PySem.Challenge.rw_trialcopies_k43_nonsense_is_not_taken) (k := 49) (x := "_law_script") rfl rfl ⟨rfl, by decide, by decide⟩ (fun w h Y => PySem.W.kIn_of Y) ?F
  case F =>
    intro w mg fa h KX G hmg
    refine' Zl.all_mk KX G hmg ?aC0 ?pg0 ?hd0 ?po0 ?sa0 ?mk0 ?kc0 ?n0_0 ?n0_1 ?n0_2 ?n0_3 ?n0_4 ?a0 ?l0 ?c0 ?k0 ?a1 ?l1 ?c1 ?k1 ?a2 ?l2 ?c2 ?k2 ?a3 ?l3 ?c3 ?k3 ?a4 ?l4 ?c4 ?k4 ?a5 ?l5 ?c5 ?k5 ?a6 ?l6 ?c6 ?k6 ?a7 ?i7 ?l7 ?c7 ?k7 ?a8 ?l8 ?c8 ?k8 ?a9 ?l9 ?c9 ?k9 ?a10 ?i10 ?l10 ?c10 ?k10 ?a11 ?l11 ?c11 ?k11 ?a12 ?l12 ?c12 ?k12 ?a13 ?l13 ?c13 ?k13 ?a14 ?l14 ?c14 ?k14 ?a15 ?l15 ?c15 ?k15 ?a16 ?l16 ?c16 ?k16 ?a17 ?l17 ?c17 ?k17 ?a18 ?l18 ?c18 ?k18 ?a19 ?l19 ?c19 ?k19 ?a20 ?l20 ?c20 ?k20 ?a21 ?l21 ?c21 ?k21 ?y0 ?y1 ?y2 ?y3 ?y4 ?y5 ?z0 ?z1 ?z2 ?z3 ?z4 ?z5 ?z6 ?z7 ?z8 ?z9 ?z10 ?z11 ?z12 ?z13 ?z14 ?z15 ?z16 ?aT0 ?kd0 ?q0_0 ?q0_1 ?q0_2 ?q0_3 ?q0_4 ?m0_0
    (case aC0 => k_is)
    (case pg0 => k_is)
    (case hd0 => k_is)
    (case po0 => k_is)
    (case sa0 => k_is)
    (case mk0 => k_is)
    (case kc0 => k_is)
    (case n0_0 => k_is)
    (case n0_1 => k_is)
    (case n0_2 => k_is)
    (case n0_3 => k_is)
    (case n0_4 => k_is)
    (case a0 => k_is)
    (case l0 => k_is)
    (case c0 => k_is)
    (case k0 => k_is)
    (case a1 => k_is)
    (case l1 => k_is)
    (case c1 => k_is)
    (case k1 => k_is)
    (case a2 => k_is)
    (case l2 => k_is)
    (case c2 => k_is)
    (case k2 => k_is)
    (case a3 => k_is)
    (case l3 => k_is)
    (case c3 => k_is)
    (case k3 => k_is)
    (case a4 => k_is)
    (case l4 => k_is)
    (case c4 => k_is)
    (case k4 => k_is)
    (case a5 => k_is)
    (case l5 => k_is)
    (case c5 => k_is)
    (case k5 => k_is)
    (case a6 => k_is)
    (case l6 => k_is)
    (case c6 => k_is)
    (case k6 => k_is)
    (case a7 => k_is)
    (case i7 => k_is)
    (case l7 => k_is)
    (case c7 => k_is)
    (case k7 => k_is)
    (case a8 => k_is)
    (case l8 => k_is)
    (case c8 => k_is)
    (case k8 => k_is)
    (case a9 => k_is)
    (case l9 => k_is)
    (case c9 => k_is)
    (case k9 => k_is)
    (case a10 => k_is)
    (case i10 => k_is)
    (case l10 => k_is)
    (case c10 => k_is)
    (case k10 => k_is)
    (case a11 => k_is)
    (case l11 => k_is)
    (case c11 => k_is)
    (case k11 => k_is)
    (case a12 => k_is)
    (case l12 => k_is)
    (case c12 => k_is)
    (case k12 => k_is)
    (case a13 => k_is)
    (case l13 => k_is)
    (case c13 => k_is)
    (case k13 => k_is)
    (case a14 => k_is)
    (case l14 => k_is)
    (case c14 => k_is)
    (case k14 => k_is)
    (case a15 => k_is)
    (case l15 => k_is)
    (case c15 => k_is)
    (case k15 => k_is)
    (case a16 => k_is)
    (case l16 => k_is)
    (case c16 => k_is)
    (case k16 => k_is)
    (case a17 => k_is)
    (case l17 => k_is)
    (case c17 => k_is)
    (case k17 => k_is)
    (case a18 => k_is)
    (case l18 => k_is)
    (case c18 => k_is)
    (case k18 => k_is)
    (case a19 => k_is)
    (case l19 => k_is)
    (case c19 => k_is)
    (case k19 => k_is)
    (case a20 => k_is)
    (case l20 => k_is)
    (case c20 => k_is)
    (case k20 => k_is)
    (case a21 => k_is)
    (case l21 => k_is)
    (case c21 => k_is)
    (case k21 => k_is)
    (case y0 => k_is)
    (case y1 => k_is)
    (case y2 => k_is)
    (case y3 => k_is)
    (case y4 => k_is)
    (case y5 => k_is)
    (case z0 => k_is)
    (case z1 => k_is)
    (case z2 => k_is)
    (case z3 => k_is)
    (case z4 => k_is)
    (case z5 => k_is)
    (case z6 => k_is)
    (case z7 => k_is)
    (case z8 => k_is)
    (case z9 => k_is)
    (case z10 => k_is)
    (case z11 => k_is)
    (case z12 => k_is)
    (case z13 => k_is)
    (case z14 => k_is)
    (case z15 => k_is)
    (case z16 => k_is)
    (case aT0 => k_is)
    (case kd0 => first | kernel_rfl | rfl | k_is)
    (case q0_0 => k_is)
    (case q0_1 => k_is)
    (case q0_2 => k_is)
    (case q0_3 => k_is)
    (case q0_4 => k_is)
    (case m0_0 => k_is)
