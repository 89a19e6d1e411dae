import PyProof.Rows.All
import Wide.All
import OpenK.AllK
import Wide.FinOn
import HandS.ForMost
import HandS.Exc
import HandS.WordsExc
import HandS.CallSlots
import HandS.TryOnly
import HandS.IsInst
import HandS.ExcOwn
import KE.GoesMore
import HandS.RaiseMore
import KE.KExcSuper
import KE.KSuper
import HandS.ClsMeth
import HandS.ExcInit
import HandS.ExcField
import HandS.Nested
import KE.KStateDown
import HandS.Head0
import HandS.Head1
import HandS.Head2
import HandS.HeadHook1
import HandS.HeadHook2
import HandS.HeadHook4
import HandS.HeadNt
import HandS.HeadEnd
import PyProof.P3Eq
import PySem.Challenge.RW_answerandproof_k15_texts_of_lists
set_option Elab.async false
set_option linter.all false
set_option maxRecDepth 100000
set_option maxHeartbeats 0
/-! A layer of data over HandS: what a def computes, as a Lean function over trees and a store; and that the def does so. -/
namespace DL
open PySem PySem.Spec L2

inductive D where
  | non | bl (b : Bool) | int (i : Int) | str (x : Str) | ref (n : Nat) | tup (xs : List D) | lst (xs : List D)
deriving Inhabited

inductive O where
  | lst (xs : List D)
  | dK (lk : Bool) (kvs : List (Key × D))
  | ins (c : Str) (fs : List (Str × D))
deriving Inhabited
abbrev Store := List O
structure Ex where
  cls : Str
  fs : List (Str × D)
inductive R (α : Type) where
  | ok (a : α) (S : Store) | exc (x : Ex) (S : Store) | bad
abbrev DEnv := List (Option D)
abbrev DE := DEnv → Store → R D
abbrev DA := DEnv → Store → R (List D)
abbrev DT := DEnv → Store → R Bool
inductive F where
  | nx (δ : DEnv) (S : Store) | rt (d : D) (S : Store) | bk (δ : DEnv) (S : Store) | ct (δ : DEnv) (S : Store) | exc (x : Ex) (δ : DEnv) (S : Store) | bad
abbrev DS := DEnv → Store → F
abbrev DM := List D → Store → R D

/-! ### what a tree is in the heap -/
mutual
def VR (K : PySem.W.Frag) (ρ : List Addr) (H : Hp) : D → V → Prop
  | .non, v => v = .non
  | .bl b, v => v = .bl b
  | .int i, v => v = .int i
  | .str x, v => v = .str x
  | .ref n, v => ∃ a, ρ[n]? = some a ∧ v = .ref a
  | .tup ds, v => ∃ a vs, v = .ref a ∧ SqT K H a vs ∧ VRs K ρ H ds vs
  | .lst ds, v => ∃ a vs, v = .ref a ∧ Rd H a (.lst vs) ∧ a ∉ ρ ∧ VRs K ρ H ds vs
def VRs (K : PySem.W.Frag) (ρ : List Addr) (H : Hp) : List D → List V → Prop
  | [], vs => vs = []
  | d :: ds, vs => ∃ v ws, vs = v :: ws ∧ VR K ρ H d v ∧ VRs K ρ H ds ws
end

def KVR (K : PySem.W.Frag) (ρ : List Addr) (H : Hp) {κ : Type} : List (κ × D) → List (κ × V) → Prop
  | [], vs => vs = []
  | (k, d) :: ds, vs => ∃ v ws, vs = (k, v) :: ws ∧ VR K ρ H d v ∧ KVR K ρ H ds ws

/-- the world of a text: what is written, and what its names hold -/
structure Wd where
  K : PySem.W.Frag
  mg : Str → Option Value

def OR (Ω : Wd) (ρ : List Addr) (H : Hp) (a : Addr) : O → Prop
  | .lst ds => ∃ vs, H a = some (.lst vs) ∧ VRs Ω.K ρ H ds vs
  | .dK lk kvs => ∃ kv, KVR Ω.K ρ H kvs kv ∧ (lk = false → H a = some (.dK kv)) ∧ (lk = true → ∃ o, H a = some (.frz o (.dK kv)))
  | .ins c fs => ∃ C dx fv, Ω.mg c = some (.ref C) ∧ H a = some (.ins C dx fv) ∧ KVR Ω.K ρ H fs fv

/-- what may stand at an address of the store -/
def Mv : Option HO → Prop
  | some (.lst _) => True
  | some (.dK _) => True
  | some (.frz _ (.dK _)) => True
  | some (.ins _ _ _) => True
  | _ => False

structure Rel (Ω : Wd) (ρ : List Addr) (H : Hp) (S : Store) : Prop where
  len : ρ.length = S.length
  nd : ρ.Nodup
  ob : ∀ (n : Nat) (a : Addr) (o : O), ρ[n]? = some a → S[n]? = some o → OR Ω ρ H a o

def RelS (K : PySem.W.Frag) (ρ : List Addr) (H : Hp) : DEnv → St → Prop
  | [], σ => σ = []
  | d :: δ, σ => ∃ v σ', σ = v :: σ' ∧ (∀ x, d = some x → ∃ y, v = some y ∧ VR K ρ H x y) ∧ RelS K ρ H δ σ'

structure Step (ρ : List Addr) (H : Hp) (ρ' : List Addr) (H' : Hp) : Prop where
  pre : ρ <+: ρ'
  keep : ∀ a o, H a = some o → a ∉ ρ → H' a = some o
  new : ∀ a ∈ ρ', a ∉ ρ → H a = none

theorem Step.refl {ρ : List Addr} {H : Hp} : Step ρ H ρ H := ⟨List.prefix_rfl, fun _ _ h _ => h, fun _ h n => absurd h n⟩
theorem Step.trans {ρ ρ1 ρ2 : List Addr} {H H1 H2 : Hp} (a : Step ρ H ρ1 H1) (b : Step ρ1 H1 ρ2 H2) : Step ρ H ρ2 H2 where
  pre := a.pre.trans b.pre
  keep := fun x o h n => b.keep x o (a.keep x o h n) fun m => by
    have := a.new x m n
    rw [h] at this; cases this
  new := fun x m n => by
    by_cases h : x ∈ ρ1
    · exact a.new x h n
    · have h1 := b.new x m h
      cases e : H x with
      | none => rfl
      | some o => rw [a.keep x o e n] at h1; cases h1

theorem OR.mv {Ω : Wd} {ρ : List Addr} {H : Hp} {a : Addr} {o : O} (h : OR Ω ρ H a o) : Mv (H a) := by
  cases o with
  | lst ds => obtain ⟨vs, e, _⟩ := h; rw [e]; trivial
  | dK lk kvs =>
    obtain ⟨kv, _, e1, e2⟩ := h
    cases lk with
    | false => rw [e1 rfl]; trivial
    | true => obtain ⟨o, e⟩ := e2 rfl; rw [e]; trivial
  | ins c fs => obtain ⟨C, dx, fv, _, e, _⟩ := h; rw [e]; trivial
theorem Rel.mv {Ω : Wd} {ρ : List Addr} {H : Hp} {S : Store} (r : Rel Ω ρ H S) {a : Addr} (h : a ∈ ρ) : Mv (H a) := by
  obtain ⟨n, hn⟩ := List.getElem?_of_mem h
  have hl : n < S.length := by rw [← r.len]; exact (List.getElem?_eq_some_iff.mp hn).1
  exact (r.ob n a S[n] hn (List.getElem?_eq_getElem hl)).mv

theorem Step.sqT {K : PySem.W.Frag} {ρ ρ' : List Addr} {H H' : Hp} (s : Step ρ H ρ' H') (m : ∀ a ∈ ρ, Mv (H a)) {a : Addr} {vs : List V} (h : SqT K H a vs) : SqT K H' a vs := by
  rcases h with (h | ⟨o, h⟩) | h
  · exact .inl (.inl (s.keep a _ h fun hm => by have := m a hm; rw [h] at this; exact this))
  · exact .inl (.inr ⟨o, s.keep a _ h fun hm => by have := m a hm; rw [h] at this; exact this⟩)
  · exact .inr h
theorem Step.rd {ρ ρ' : List Addr} {H H' : Hp} (s : Step ρ H ρ' H') {a : Addr} (ha : a ∉ ρ) {u : HO} (h : Rd H a u) : Rd H' a u := by
  rcases h with h | ⟨o, h⟩
  · exact .inl (s.keep a _ h ha)
  · exact .inr ⟨o, s.keep a _ h ha⟩
/-- an address that is read as a list stays out of the store -/
theorem Step.out {ρ ρ' : List Addr} {H H' : Hp} (s : Step ρ H ρ' H') {a : Addr} (ha : a ∉ ρ) {u : HO} (h : Rd H a u) : a ∉ ρ' := fun hm => by
  have n := s.new a hm ha
  rcases h with h | ⟨o, h⟩ <;> (rw [h] at n; cases n)
mutual
theorem VR.mono {K : PySem.W.Frag} {ρ ρ' : List Addr} {H H' : Hp} (s : Step ρ H ρ' H') (m : ∀ a ∈ ρ, Mv (H a)) : ∀ (d : D) (v : V), VR K ρ H d v → VR K ρ' H' d v
  | .non, v, h => h
  | .bl _, v, h => h
  | .int _, v, h => h
  | .str _, v, h => h
  | .ref n, v, ⟨a, e, h⟩ => ⟨a, by
      obtain ⟨t, rfl⟩ := s.pre
      rw [List.getElem?_append_left (List.getElem?_eq_some_iff.mp e).1]; exact e, h⟩
  | .tup ds, v, ⟨a, vs, e, h, r⟩ => ⟨a, vs, e, s.sqT m h, VRs.mono s m ds vs r⟩
  | .lst ds, v, ⟨a, vs, e, h, n, r⟩ => ⟨a, vs, e, s.rd n h, s.out n h, VRs.mono s m ds vs r⟩
theorem VRs.mono {K : PySem.W.Frag} {ρ ρ' : List Addr} {H H' : Hp} (s : Step ρ H ρ' H') (m : ∀ a ∈ ρ, Mv (H a)) : ∀ (ds : List D) (vs : List V), VRs K ρ H ds vs → VRs K ρ' H' ds vs
  | [], vs, h => h
  | d :: ds, vs, ⟨v, ws, e, h, r⟩ => ⟨v, ws, e, VR.mono s m d v h, VRs.mono s m ds ws r⟩
end
end DL
namespace DL
open PySem PySem.Spec L2

theorem Rel.vr {Ω : Wd} {ρ ρ' : List Addr} {H H' : Hp} {S : Store} (r : Rel Ω ρ H S) (s : Step ρ H ρ' H') {d : D} {v : V} (h : VR Ω.K ρ H d v) : VR Ω.K ρ' H' d v := VR.mono s (fun a m => r.mv m) d v h
theorem Rel.vrs {Ω : Wd} {ρ ρ' : List Addr} {H H' : Hp} {S : Store} (r : Rel Ω ρ H S) (s : Step ρ H ρ' H') {d : List D} {v : List V} (h : VRs Ω.K ρ H d v) : VRs Ω.K ρ' H' d v := VRs.mono s (fun a m => r.mv m) d v h
theorem KVR.mono {K : PySem.W.Frag} {ρ ρ' : List Addr} {H H' : Hp} {κ : Type} (s : Step ρ H ρ' H') (m : ∀ a ∈ ρ, Mv (H a)) : ∀ (ds : List (κ × D)) (vs : List (κ × V)), KVR K ρ H ds vs → KVR K ρ' H' ds vs
  | [], vs, h => h
  | (k, d) :: ds, vs, ⟨v, ws, e, h, r⟩ => ⟨v, ws, e, VR.mono s m d v h, KVR.mono s m ds ws r⟩
theorem Rel.kvr {Ω : Wd} {ρ ρ' : List Addr} {H H' : Hp} {S : Store} (r : Rel Ω ρ H S) (s : Step ρ H ρ' H') {κ : Type} {d : List (κ × D)} {v : List (κ × V)} (h : KVR Ω.K ρ H d v) : KVR Ω.K ρ' H' d v := KVR.mono s (fun a m => r.mv m) d v h
theorem RelS.mono {K : PySem.W.Frag} {ρ ρ' : List Addr} {H H' : Hp} (s : Step ρ H ρ' H') (m : ∀ a ∈ ρ, Mv (H a)) : ∀ (δ : DEnv) (σ : St), RelS K ρ H δ σ → RelS K ρ' H' δ σ
  | [], σ, h => h
  | d :: δ, σ, ⟨v, σ', e, h, r⟩ => ⟨v, σ', e, fun x hx => let ⟨y, e, q⟩ := h x hx; ⟨y, e, VR.mono s m x y q⟩, RelS.mono s m δ σ' r⟩
theorem Rel.rs {Ω : Wd} {ρ ρ' : List Addr} {H H' : Hp} {S : Store} (r : Rel Ω ρ H S) (s : Step ρ H ρ' H') {δ : DEnv} {σ : St} (h : RelS Ω.K ρ H δ σ) : RelS Ω.K ρ' H' δ σ := RelS.mono s (fun a m => r.mv m) δ σ h
theorem RelS.get {K : PySem.W.Frag} {ρ : List Addr} {H : Hp} : ∀ {δ : DEnv} {σ : St} {i : Nat} {d : D}, RelS K ρ H δ σ → δ[i]? = some (some d) → ∃ v, σ[i]? = some (some v) ∧ VR K ρ H d v
  | [], _, _, _, _, e => by simp at e
  | x :: δ, σ, 0, d, ⟨v, σ', e, h, r⟩, q => by
    simp at q; subst q
    obtain ⟨y, rfl, z⟩ := h d rfl
    exact ⟨y, by rw [e]; rfl, z⟩
  | x :: δ, σ, i + 1, d, ⟨v, σ', e, h, r⟩, q => by
    obtain ⟨y, z, w⟩ := RelS.get (i := i) r (by simpa using q)
    exact ⟨y, by rw [e]; simpa using z, w⟩
theorem RelS.set {K : PySem.W.Frag} {ρ : List Addr} {H : Hp} {d : D} {v : V} (hv : VR K ρ H d v) : ∀ {δ : DEnv} {σ : St} (i : Nat), RelS K ρ H δ σ → RelS K ρ H (δ.set i (some d)) (σ.set i (some v))
  | [], σ, i, h => by cases h; exact rfl
  | x :: δ, σ, 0, ⟨y, σ', e, h, r⟩ => by subst e; exact ⟨some v, σ', rfl, fun z hz => by cases hz; exact ⟨v, rfl, hv⟩, r⟩
  | x :: δ, σ, i + 1, ⟨y, σ', e, h, r⟩ => by subst e; exact ⟨y, σ'.set i (some v), rfl, h, RelS.set hv i r⟩
theorem RelS.wipe1 {K : PySem.W.Frag} {ρ : List Addr} {H : Hp} : ∀ {δ : DEnv} {σ : St} (i : Nat), RelS K ρ H δ σ → RelS K ρ H (δ.set i none) (σ.set i none)
  | [], σ, i, h => by cases h; exact rfl
  | x :: δ, σ, 0, ⟨y, σ', e, h, r⟩ => by subst e; exact ⟨none, σ', rfl, (fun z hz => by cases hz), r⟩
  | x :: δ, σ, i + 1, ⟨y, σ', e, h, r⟩ => by subst e; exact ⟨y, σ'.set i none, rfl, h, RelS.wipe1 i r⟩
theorem VRs.len {K : PySem.W.Frag} {ρ : List Addr} {H : Hp} : ∀ {ds : List D} {vs : List V}, VRs K ρ H ds vs → ds.length = vs.length
  | [], _, h => by cases h; rfl
  | d :: ds, _, ⟨v, ws, e, h, r⟩ => by subst e; simp [VRs.len r]
theorem VRs.get {K : PySem.W.Frag} {ρ : List Addr} {H : Hp} : ∀ {ds : List D} {vs : List V} {i : Nat} {d : D}, VRs K ρ H ds vs → ds[i]? = some d → ∃ v, vs[i]? = some v ∧ VR K ρ H d v
  | [], _, _, _, _, e => by simp at e
  | x :: ds, vs, 0, d, ⟨v, ws, e, h, r⟩, q => by simp at q; subst q; exact ⟨v, by rw [e]; rfl, h⟩
  | x :: ds, vs, i + 1, d, ⟨v, ws, e, h, r⟩, q => by
    obtain ⟨y, z, w⟩ := VRs.get (i := i) r (by simpa using q)
    exact ⟨y, by rw [e]; simpa using z, w⟩
theorem VRs.append {K : PySem.W.Frag} {ρ : List Addr} {H : Hp} : ∀ {ds es : List D} {vs ws : List V}, VRs K ρ H ds vs → VRs K ρ H es ws → VRs K ρ H (ds ++ es) (vs ++ ws)
  | [], _, _, _, h, g => by cases h; exact g
  | x :: ds, es, _, ws, ⟨v, us, e, h, r⟩, g => by subst e; exact ⟨v, us ++ ws, rfl, h, VRs.append r g⟩
theorem VRs.set {K : PySem.W.Frag} {ρ : List Addr} {H : Hp} {d : D} {v : V} (hv : VR K ρ H d v) : ∀ {ds : List D} {vs : List V} (i : Nat), VRs K ρ H ds vs → VRs K ρ H (ds.set i d) (vs.set i v)
  | [], _, _, h => by cases h; exact rfl
  | x :: ds, _, 0, ⟨y, ws, e, h, r⟩ => by subst e; exact ⟨v, ws, rfl, hv, r⟩
  | x :: ds, _, i + 1, ⟨y, ws, e, h, r⟩ => by subst e; exact ⟨y, ws.set i v, rfl, h, VRs.set hv i r⟩
theorem VRs.take {K : PySem.W.Frag} {ρ : List Addr} {H : Hp} : ∀ {ds : List D} {vs : List V} (n : Nat), VRs K ρ H ds vs → VRs K ρ H (ds.take n) (vs.take n)
  | [], _, _, h => by cases h; simp [VRs]
  | x :: ds, _, 0, _ => by simp [VRs]
  | x :: ds, _, n + 1, ⟨v, ws, e, h, r⟩ => by subst e; exact ⟨v, ws.take n, rfl, h, VRs.take n r⟩
theorem VRs.drop {K : PySem.W.Frag} {ρ : List Addr} {H : Hp} : ∀ {ds : List D} {vs : List V} (n : Nat), VRs K ρ H ds vs → VRs K ρ H (ds.drop n) (vs.drop n)
  | [], _, _, h => by cases h; simp [VRs]
  | x :: ds, _, 0, h => h
  | x :: ds, _, n + 1, ⟨v, ws, e, h, r⟩ => by subst e; exact VRs.drop n r

/-! ### lifts -/
def XR (Ω : Wd) (ρ : List Addr) (H : Hp) (x : Ex) (cls : Value) (dd : Option Addr) : Prop :=
  ∃ C d fv, Ω.mg x.cls = some (.ref C) ∧ cls = .ref C ∧ dd = some d ∧ H d = some (.xd fv) ∧ d ∉ ρ ∧ KVR Ω.K ρ H x.fs fv

def LG {α β : Type} (Ω : Wd) (W : WX) (P : List Addr → Hp → α → β → Prop) (r : R α) (ρ : List Addr) (H : Hp) (σ : St) (Q : β → Hp → Prop) : Prop := match r with
  | .ok d S' => ∀ ρ' v H', Step ρ H ρ' H' → Rel Ω ρ' H' S' → P ρ' H' d v → Q v H'
  | .exc x S' => ∀ ρ' cls dd H', Step ρ H ρ' H' → Rel Ω ρ' H' S' → XR Ω ρ' H' x cls dd → W cls dd σ H'
  | .bad => False
theorem LG.shift {α β : Type} {Ω : Wd} {W : WX} {P : List Addr → Hp → α → β → Prop} {r : R α} {ρ ρ1 : List Addr} {H H1 : Hp} {σ : St} {Q : β → Hp → Prop} (s : Step ρ H ρ1 H1) (h : LG Ω W P r ρ H σ Q) : LG Ω W P r ρ1 H1 σ Q := by
  cases r with
  | ok d S' => exact fun ρ' v H' t => h ρ' v H' (s.trans t)
  | exc x S' => exact fun ρ' c d H' t => h ρ' c d H' (s.trans t)
  | bad => exact h
def R.bind {α β : Type} (r : R α) (k : α → Store → R β) : R β := match r with
  | .ok a S => k a S
  | .exc x S => .exc x S
  | .bad => .bad
/-- a part is read, then the rest -/
theorem LG.bind {α β γ δ : Type} {Ω : Wd} {W : WX} {P : List Addr → Hp → α → γ → Prop} {P' : List Addr → Hp → β → δ → Prop} {r : R α} {k : α → Store → R β} {ρ : List Addr} {H : Hp} {σ : St} {Q : δ → Hp → Prop} {Q1 : γ → Hp → Prop}
    (h : LG Ω W P' (r.bind k) ρ H σ Q) (q : ∀ ρ1 x S1 v H1, Step ρ H ρ1 H1 → Rel Ω ρ1 H1 S1 → P ρ1 H1 x v → LG Ω W P' (k x S1) ρ1 H1 σ Q → Q1 v H1) : LG Ω W P r ρ H σ Q1 := by
  cases r with
  | ok d S' => exact fun ρ' v H' s t p => q ρ' d S' v H' s t p (LG.shift s h)
  | exc x S' => exact h
  | bad => exact h
abbrev PVR (Ω : Wd) : List Addr → Hp → D → V → Prop := fun ρ H d v => VR Ω.K ρ H d v
abbrev PVRs (Ω : Wd) : List Addr → Hp → List D → List V → Prop := fun ρ H d v => VRs Ω.K ρ H d v
abbrev PB : List Addr → Hp → Bool → Bool → Prop := fun _ _ b c => b = c
def LE (Ω : Wd) (W : WX) (f : DE) : TE := fun σ H Q => ∃ ρ δ S, Rel Ω ρ H S ∧ RelS Ω.K ρ H δ σ ∧ LG Ω W (PVR Ω) (f δ S) ρ H σ Q
def LA (Ω : Wd) (W : WX) (f : DA) : TA := fun σ H Q => ∃ ρ δ S, Rel Ω ρ H S ∧ RelS Ω.K ρ H δ σ ∧ LG Ω W (PVRs Ω) (f δ S) ρ H σ Q
def LT (Ω : Wd) (W : WX) (f : DT) : TT := fun σ H Q => ∃ ρ δ S, Rel Ω ρ H S ∧ RelS Ω.K ρ H δ σ ∧ LG Ω W PB (f δ S) ρ H σ Q
def LF (Ω : Wd) (W : WX) (r : F) (ρ : List Addr) (H : Hp) (E : Ends) : Prop := match r with
  | .nx δ' S' => ∀ ρ' σ' H', Step ρ H ρ' H' → Rel Ω ρ' H' S' → RelS Ω.K ρ' H' δ' σ' → E.nx σ' H'
  | .bk δ' S' => ∀ ρ' σ' H', Step ρ H ρ' H' → Rel Ω ρ' H' S' → RelS Ω.K ρ' H' δ' σ' → E.bk σ' H'
  | .ct δ' S' => ∀ ρ' σ' H', Step ρ H ρ' H' → Rel Ω ρ' H' S' → RelS Ω.K ρ' H' δ' σ' → E.ct σ' H'
  | .rt d S' => ∀ ρ' v H', Step ρ H ρ' H' → Rel Ω ρ' H' S' → VR Ω.K ρ' H' d v → E.rt v H'
  | .exc x δ' S' => ∀ ρ' cls dd σ' H', Step ρ H ρ' H' → Rel Ω ρ' H' S' → RelS Ω.K ρ' H' δ' σ' → XR Ω ρ' H' x cls dd → W cls dd σ' H'
  | .bad => False
theorem LF.shift {Ω : Wd} {W : WX} {r : F} {ρ ρ1 : List Addr} {H H1 : Hp} {E : Ends} (s : Step ρ H ρ1 H1) (h : LF Ω W r ρ H E) : LF Ω W r ρ1 H1 E := by
  cases r with
  | nx δ' S' => exact fun ρ' a b t => h ρ' a b (s.trans t)
  | bk δ' S' => exact fun ρ' a b t => h ρ' a b (s.trans t)
  | ct δ' S' => exact fun ρ' a b t => h ρ' a b (s.trans t)
  | rt δ' S' => exact fun ρ' a b t => h ρ' a b (s.trans t)
  | exc x δ' S' => exact fun ρ' a b c d t => h ρ' a b c d (s.trans t)
  | bad => exact h
def LS (Ω : Wd) (W : WX) (f : DS) : TS := fun E σ H => ∃ ρ δ S, Rel Ω ρ H S ∧ RelS Ω.K ρ H δ σ ∧ LF Ω W (f δ S) ρ H E
end DL
namespace DL
open PySem PySem.Spec L2
/-! ### a list that is being made is hidden meanwhile -/
def del (H : Hp) (p : Addr) : Hp := fun b => if b = p then none else H b
theorem del_same {H : Hp} {p : Addr} : del H p p = none := if_pos rfl
theorem del_ne {H : Hp} {p b : Addr} (h : b ≠ p) : del H p b = H b := if_neg h
theorem del_some {H : Hp} {p b : Addr} {o : HO} (h : del H p b = some o) : b ≠ p ∧ H b = some o := by
  unfold del at h
  split at h
  · cases h
  · exact ⟨by assumption, h⟩
theorem upd_del {H : Hp} {p : Addr} {o : HO} (h : H p = some o) : upd (del H p) p o = H := by
  funext b
  unfold upd del
  split
  · rename_i e; rw [e, h]
  · rfl
section
variable {X : Cx} {pins : List (Addr × Obj)} {σ : St} {H : Hp} {s : Shared} {p : Addr} {xs : List V}
theorem ObjOk.del {P : Program} {w : World} {h : Heap} (e : H p = some (.lst xs)) : ∀ {u : HO} {b : Addr}, ObjOk P w H h b u → ObjOk P w (del H p) h b u
  | .lst _, _, x => x
  | .tup _, _, x => x
  | .dK _, _, x => x
  | .dT kvs, _, ⟨a, b, ys, c, d⟩ => ⟨a, b, ys, L2.Paired.mapP c fun q r ⟨e1, e2, e3⟩ => ⟨e1, by rw [del_ne (fun z => by rw [z, e] at e2; cases e2)]; exact e2, e3⟩, d⟩
  | .set _ _, _, x => x
  | .ins C dx fs, _, ⟨a, b, c, d, f⟩ => ⟨by rw [del_ne (fun z => by rw [z, e] at a; cases a)]; exact a, b, c, d, f⟩
  | .own _, _, x => x
  | .xd _, _, x => x
  | .met _ _, _, x => x
  | .rng _ _, _, x => x
  | .frz o u, _, ⟨a, b⟩ => ⟨a, ObjOk.del e b⟩
  | .tbl _, _, x => x
  | .ext _, _, x => x
theorem ObjOk.track {P : Program} {w : World} {h : Heap} {o : HO} (e : H p = none) : ∀ {u : HO} {b : Addr}, ObjOk P w H h b u → ObjOk P w (upd H p o) h b u
  | .lst _, _, x => x
  | .tup _, _, x => x
  | .dK _, _, x => x
  | .dT kvs, _, ⟨a, b, ys, c, d⟩ => ⟨a, b, ys, L2.Paired.mapP c fun q r ⟨e1, e2, e3⟩ => ⟨e1, by rw [upd_ne (ne_of_none e2 e)]; exact e2, e3⟩, d⟩
  | .set _ _, _, x => x
  | .ins C dx fs, _, ⟨a, b, c, d, f⟩ => ⟨by rw [upd_ne (ne_of_none a e)]; exact a, b, c, d, f⟩
  | .own _, _, x => x
  | .xd _, _, x => x
  | .met _ _, _, x => x
  | .rng _ _, _, x => x
  | .frz o u, _, ⟨a, b⟩ => ⟨a, ObjOk.track e b⟩
  | .tbl _, _, x => x
  | .ext _, _, x => x
theorem inv_old (I : Inv X pins σ H s) {u : HO} (e : H p = some u) {o : Obj} (h : X.s_0.heap.get? p = some o) : X.H_0 p ≠ none ∨ p ∈ X.ex := by
  by_cases hx : p ∈ X.ex
  · exact .inr hx
  · exact .inl fun z => by have := I.base.free p o h z hx; rw [e] at this; cases this
/-- the list at p is not told, but pinned -/
theorem inv_hide (I : Inv X pins σ H s) (e : H p = some (.lst xs)) : ∃ o : Obj, Inv X ((p, o) :: pins) σ (del H p) s ∧ xs.length ≤ sizeLine ∧ ∃ (its : List Value) (n : Nat), Vals xs its ∧ o = { cls := .type "list", data := .seq its.toArray n } := by
  obtain ⟨hz, its, n, hv, ho⟩ := I.hok p _ e
  refine ⟨_, ?_, hz, its, n, hv, rfl⟩
  have np : p ≠ X.env.locals := fun z => by have := I.free; rw [← z, e] at this; cases this
  refine ⟨I.ok, I.os, I.bare, ?_, I.loc, I.cell, by rw [del_ne np.symm]; exact I.free, fun x c h => ?_, fun q hq => ?_, fun b u hb => ?_, I.len⟩
  · have B := I.base
    refine ⟨B.keep, B.slot, fun b o h1 h2 h3 => ?_, B.there, fun b ys h => ?_, fun b o u h => ?_, fun b ps h => ?_⟩
    · by_cases hb : b = p
      · rw [hb]; exact del_same
      · rw [del_ne hb]; exact B.free b o h1 h2 h3
    · have := B.tups b ys h
      rw [del_ne (fun z => by rw [z, e] at this; cases this)]; exact this
    · have := B.frzs b o u h
      rw [del_ne (fun z => by rw [z, e] at this; cases this)]; exact this
    · obtain ⟨m, this⟩ := B.tbls b ps h
      exact ⟨m, by rw [del_ne (fun z => by rw [z, e] at this; cases this)]; exact this⟩
  · have := I.freeC x c h
    rw [del_ne (fun z => by rw [z, e] at this; cases this)]; exact this
  · rcases List.mem_append.mp hq with hq | hq
    · obtain ⟨a, b, c⟩ := I.pin q (List.mem_append_left _ hq)
      exact ⟨a, by rw [del_ne (fun z => by rw [z, e] at b; cases b)]; exact b, c⟩
    · rcases List.mem_cons.mp hq with rfl | hq
      · refine ⟨ho, del_same, np, fun hm => ?_, fun v => by intro z; cases z⟩
        obtain ⟨_, o, ho', _⟩ := I.ok.funs.mem hm
        have := I.base.free p o ho' (I.ok.frf p hm) fun z => I.ok.exfs p z hm
        rw [e] at this; cases this
      · obtain ⟨a, b, c⟩ := I.pin q (List.mem_append_right _ hq)
        exact ⟨a, by rw [del_ne (fun z => by rw [z, e] at b; cases b)]; exact b, c⟩
  · obtain ⟨_, h2⟩ := del_some hb
    exact ObjOk.del e (I.hok b u h2)
theorem inv_unhide {o : Obj} {its : List Value} {n : Nat} (I : Inv X ((p, o) :: pins) σ H s) (old : ∀ o, X.s_0.heap.get? p = some o → X.H_0 p = none → p ∉ X.ex → False) (npin : ∀ q ∈ X.pn ++ pins, q.1 ≠ p) (hz : xs.length ≤ sizeLine) (hv : Vals xs its) (ho : o = { cls := .type "list", data := .seq its.toArray n }) :
    Inv X pins σ (upd H p (.lst xs)) s ∧ H p = none := by
  obtain ⟨g, e, np, nf, nc⟩ := I.pin (p, o) (List.mem_append_right _ List.mem_cons_self)
  have g : s.heap.get? p = some o := g
  have e : H p = none := e
  have np : p ≠ X.env.locals := np
  refine ⟨⟨I.ok, I.os, I.bare, ?_, I.loc, I.cell, by rw [upd_ne np.symm]; exact I.free, fun x c h => ?_, fun q hq => ?_, fun b u hb => ?_, I.len⟩, e⟩
  · have B := I.base
    refine ⟨B.keep, B.slot, fun b o h1 h2 h3 => ?_, B.there, fun b ys h => ?_, fun b o u h => ?_, fun b ps h => ?_⟩
    · by_cases hb : b = p
      · subst hb; exact (old o h1 h2 h3).elim
      · rw [upd_ne hb]; exact B.free b o h1 h2 h3
    · have := B.tups b ys h
      rw [upd_ne (ne_of_none this e)]; exact this
    · have := B.frzs b o u h
      rw [upd_ne (ne_of_none this e)]; exact this
    · obtain ⟨m, this⟩ := B.tbls b ps h
      exact ⟨m, by rw [upd_ne (ne_of_none this e)]; exact this⟩
  · have := I.freeC x c h
    rw [upd_ne (fun z => ?_)]; exact this
    obtain ⟨v, q⟩ := I.cell x c h
    obtain ⟨oc, h1, h2⟩ := q
    rw [z, g] at h1; cases h1
    exact nc _ h2
  · have hn := npin q hq
    have hq' : q ∈ X.pn ++ (p, o) :: pins := by
      rcases List.mem_append.mp hq with hq | hq
      · exact List.mem_append_left _ hq
      · exact List.mem_append_right _ (List.mem_cons_of_mem _ hq)
    obtain ⟨a, b, c⟩ := I.pin q hq'
    exact ⟨a, by rw [upd_ne hn]; exact b, c⟩
  · by_cases hb' : b = p
    · subst hb'
      rw [upd_same] at hb; cases hb
      exact ⟨hz, its, n, hv, by rw [g, ho]⟩
    · rw [upd_ne hb'] at hb
      exact ObjOk.track e (I.hok b u hb)
/-- what hiding asks of the place -/
theorem inv_place (I : Inv X pins σ H s) (e : H p = some (.lst xs)) : (∀ o, X.s_0.heap.get? p = some o → X.H_0 p = none → p ∉ X.ex → False) ∧ ∀ q ∈ X.pn ++ pins, q.1 ≠ p :=
  And.intro (fun o h1 h2 h3 => by
    have := I.base.free p o h1 h2 h3
    rw [e] at this; cases this) fun q hq z => by
    obtain ⟨_, b, _⟩ := I.pin q hq
    rw [z, e] at b; cases b
variable {e : Expr} {es : List Expr}
theorem pe_hide {t : TE} (h : PE X e t) : PE X e (fun σ H Q => ∃ p xs, H p = some (.lst xs) ∧ t σ (del H p) fun v H' => H' p = none → Q v (upd H' p (.lst xs))) :=
  ⟨fun pins s σ H Q I ⟨p, xs, e, q⟩ => by
    obtain ⟨o, I', hz, its, n, hv, ho⟩ := inv_hide I e
    obtain ⟨h1, h2⟩ := inv_place I e
    refine thn (h.run _ s σ _ _ I' q) fun u s' ⟨v, H', I2, r, q2⟩ => ?_
    obtain ⟨I3, e3⟩ := inv_unhide I2 h1 h2 hz hv ho
    exact ⟨v, _, I3, r, q2 e3⟩⟩
theorem pt_hide {t : TT} (h : PT X e t) : PT X e (fun σ H Q => ∃ p xs, H p = some (.lst xs) ∧ t σ (del H p) fun v H' => H' p = none → Q v (upd H' p (.lst xs))) :=
  ⟨fun pins s σ H Q I ⟨p, xs, e, q⟩ => by
    obtain ⟨o, I', hz, its, n, hv, ho⟩ := inv_hide I e
    obtain ⟨h1, h2⟩ := inv_place I e
    refine thn (h.run _ s σ _ _ I' q) fun u s' ⟨H', I2, q2⟩ => ?_
    obtain ⟨I3, e3⟩ := inv_unhide I2 h1 h2 hz hv ho
    exact ⟨_, I3, q2 e3⟩⟩
theorem pts_hide {t : TT} (h : PTs X es t) : PTs X es (fun σ H Q => ∃ p xs, H p = some (.lst xs) ∧ t σ (del H p) fun v H' => H' p = none → Q v (upd H' p (.lst xs))) :=
  ⟨fun pins s σ H Q I ⟨p, xs, e, q⟩ => by
    obtain ⟨o, I', hz, its, n, hv, ho⟩ := inv_hide I e
    obtain ⟨h1, h2⟩ := inv_place I e
    refine thn (h.run _ s σ _ _ I' q) fun u s' ⟨H', I2, q2⟩ => ?_
    obtain ⟨I3, e3⟩ := inv_unhide I2 h1 h2 hz hv ho
    exact ⟨_, I3, q2 e3⟩⟩
theorem pg_hide {t : TG} (h : PG X e t) : PG X e (fun v σ H Q => ∃ p xs, H p = some (.lst xs) ∧ t v σ (del H p) fun σ' H' => H' p = none → Q σ' (upd H' p (.lst xs))) :=
  ⟨fun pins s σ H v u Q I r ⟨p, xs, e, q⟩ => by
    obtain ⟨o, I', hz, its, n, hv, ho⟩ := inv_hide I e
    obtain ⟨h1, h2⟩ := inv_place I e
    refine thn (h.run _ s σ _ v u _ I' r q) fun _ s' ⟨σ', H', I2, q2⟩ => ?_
    obtain ⟨I3, e3⟩ := inv_unhide I2 h1 h2 hz hv ho
    exact ⟨σ', _, I3, q2 e3⟩⟩
end
end DL
namespace DL
open PySem PySem.Spec L2

theorem pe_imp {X : Cx} {e : Expr} {t t' : TE} (h : PE X e t) (q : ∀ σ H Q, t' σ H Q → t σ H Q) : PE X e t' := ⟨fun pins s σ H Q I a => h.run pins s σ H Q I (q σ H Q a)⟩
theorem pt_imp {X : Cx} {e : Expr} {t t' : TT} (h : PT X e t) (q : ∀ σ H Q, t' σ H Q → t σ H Q) : PT X e t' := ⟨fun pins s σ H Q I a => h.run pins s σ H Q I (q σ H Q a)⟩
theorem pw_imp {X : Cx} {e : Expr} {t t' : TT} (h : L2.PW X e t) (q : ∀ σ H Q, t' σ H Q → t σ H Q) : L2.PW X e t' := ⟨fun wh pins s σ H Q I a => h.run wh pins s σ H Q I (q σ H Q a)⟩
theorem pa_imp {X : Cx} {e : List Expr} {t t' : TA} (h : PA X e t) (q : ∀ σ H Q, t' σ H Q → t σ H Q) : PA X e t' := ⟨fun pos pins s σ H Q I a => h.run pos pins s σ H Q I (q σ H Q a)⟩
theorem ps_imp {X : Cx} {e : Stmt} {t t' : TS} (h : PS X e t) (q : ∀ E σ H, t' E σ H → t E σ H) : PS X e t' := ⟨fun pins s σ H E I a => h.run pins s σ H E I (q E σ H a)⟩
theorem pss_imp {X : Cx} {e : List Stmt} {t t' : TS} (h : PSs X e t) (q : ∀ E σ H, t' E σ H → t E σ H) : PSs X e t' := ⟨fun pins s σ H E I a => h.run pins s σ H E I (q E σ H a)⟩
abbrev om (X : Cx) : Wd := ⟨X.K, X.mg⟩
abbrev JE (X : Cx) (W : WX) (e : Expr) (f : DE) : Prop := PE X e (LE (om X) W f)
abbrev JT (X : Cx) (W : WX) (e : Expr) (f : DT) : Prop := PT X e (LT (om X) W f)
abbrev JW (X : Cx) (W : WX) (e : Expr) (f : DT) : Prop := L2.PW X e (LT (om X) W f)
abbrev JA (X : Cx) (W : WX) (e : List Expr) (f : DA) : Prop := PA X e (LA (om X) W f)
abbrev JS (X : Cx) (W : WX) (e : Stmt) (f : DS) : Prop := PS X e (LS (om X) W f)
abbrev JSs (X : Cx) (W : WX) (e : List Stmt) (f : DS) : Prop := PSs X e (LS (om X) W f)

section
variable {X : Cx} {W : WX} {pos : Pos} {a b c e : Expr} {es : List Expr} {fa fb fc : DE}

/-! ### names, constants -/
def dVar (i : Nat) : DE := fun δ S => match δ[i]? with
  | some (some d) => .ok d S
  | _ => .bad
theorem je_var (i : Nat) {x : Str} (hN : X.N[i]? = some x := by rfl) (hv : Vis X.env.scope x := by first | exact Or.inl rfl | exact Or.inr (Or.inl rfl) | exact Or.inr (Or.inr rfl)) (hd : (x == ("__debug__" : Str)) = false := by decide) (hcd : (x == ("__classdict__" : Str)) = false := by decide) :
    JE X W (.Name x pos) (dVar i) := by
  refine pe_imp (pe_var (i := i) hN hv hd hcd) fun σ H Q h => ?_
  obtain ⟨ρ, δ, S, r, rs, g⟩ := h
  unfold dVar at g
  split at g
  · rename_i d e
    obtain ⟨v, hv, q⟩ := rs.get e
    exact ⟨v, hv, g ρ v H .refl r q⟩
  · exact g.elim
def dC (d : D) : DE := fun _ S => .ok d S
theorem je_int {i : Int} {j} : JE X W (.Constant (.int i) j pos) (dC (.int i)) := pe_imp pe_int fun σ H Q ⟨ρ, δ, S, r, rs, g⟩ => g ρ _ H .refl r rfl
theorem je_str {i : Str} {j} : JE X W (.Constant (.str i) j pos) (dC (.str i)) := pe_imp pe_str fun σ H Q ⟨ρ, δ, S, r, rs, g⟩ => g ρ _ H .refl r rfl
theorem je_bl {i : Bool} {j} : JE X W (.Constant (.bool i) j pos) (dC (.bl i)) := pe_imp pe_bl fun σ H Q ⟨ρ, δ, S, r, rs, g⟩ => g ρ _ H .refl r rfl
theorem je_non {j} : JE X W (.Constant .none j pos) (dC .non) := pe_imp pe_non fun σ H Q ⟨ρ, δ, S, r, rs, g⟩ => g ρ _ H .refl r rfl

/-! ### two parts -/
def dOp (g : D → D → Store → R D) (fa fb : DE) : DE := fun δ S => (fa δ S).bind fun x S1 => (fb δ S1).bind fun y S2 => g x y S2
theorem LE.two {Ω : Wd} {g : D → D → Store → R D} {r : R2} {σ : St} {H : Hp} {Q : VK}
    (hs : ∀ ρ H S σ Q x y v u, Rel Ω ρ H S → VR Ω.K ρ H x v → VR Ω.K ρ H y u → LG Ω W (PVR Ω) (g x y S) ρ H σ Q → r v u H Q)
    (h : LE Ω W (dOp g fa fb) σ H Q) : tOp r (LE Ω W fa) (LE Ω W fb) σ H Q := by
  obtain ⟨ρ, δ, S, rl, rs, q⟩ := h
  refine ⟨ρ, δ, S, rl, rs, LG.bind q fun ρ1 x S1 v H1 s1 r1 p1 q1 => ?_⟩
  refine ⟨ρ1, δ, S1, r1, rl.rs s1 rs, LG.bind q1 fun ρ2 y S2 u H2 s2 r2 p2 q2 => ?_⟩
  exact hs ρ2 H2 S2 σ Q x y v u r2 (r1.vr s2 p1) p2 q2
def OpS (X : Cx) (W : WX) (g : D → D → Store → R D) (r : R2) : Prop :=
  ∀ ρ H S σ Q x y v u, Rel (om X) ρ H S → VR X.K ρ H x v → VR X.K ρ H y u → LG (om X) W (PVR (om X)) (g x y S) ρ H σ Q → r v u H Q
theorem je_op {op : Operator} {r : R2} {g : D → D → Store → R D} (ho : OpR X (binaryOp op) r) (hs : OpS X W g r) (ha : JE X W a fa) (hb : JE X W b fb) : JE X W (.BinOp a op b pos) (dOp g fa fb) :=
  pe_imp (pe_op ho ha hb) fun σ H Q h => LE.two hs h
theorem je_cmp {op : CmpOp} {r : R2} {g : D → D → Store → R D} (ho : OpR X (compareOp op) r) (hs : OpS X W g r) (ha : JE X W a fa) (hb : JE X W b fb) (hm : behindInMarks op b = false) : JE X W (.Compare a [op] [b] pos) (dOp g fa fb) :=
  pe_imp (pe_cmpR ho ha hb hm) fun σ H Q h => LE.two hs h
/-- a test of an expression that gives a truth value -/
def dTest (f : DE) : DT := fun δ S => (f δ S).bind fun x S1 => match x with
  | .bl k => .ok k S1
  | _ => .bad
theorem LT.test {Ω : Wd} {f : DE} {t : TE} {σ : St} {H : Hp} {Q : Bool → Hp → Prop} (ht : ∀ σ H Q, LE Ω W f σ H Q → t σ H Q) (h : LT Ω W (dTest f) σ H Q) : tTest t σ H Q := by
  obtain ⟨ρ, δ, S, rl, rs, q⟩ := h
  refine ht σ H _ ⟨ρ, δ, S, rl, rs, LG.bind q fun ρ1 x S1 v H1 s1 r1 p1 q1 => ?_⟩
  cases x with
  | bl k => cases p1; exact ⟨k, rfl, q1 ρ1 k H1 .refl r1 rfl⟩
  | _ => exact q1.elim
theorem jt_cmp {op : CmpOp} {r : R2} {g : D → D → Store → R D} (ho : OpR X (compareOp op) r) (hs : OpS X W g r) (ha : JE X W a fa) (hb : JE X W b fb) (hm : behindInMarks op b = false) : JT X W (.Compare a [op] [b] pos) (dTest (dOp g fa fb)) :=
  pt_imp (pt_cmpR ho ha hb hm) fun σ H Q h => LT.test (fun σ H Q h => LE.two hs h) h

/-! ### operators by values -/
def gI (C : Int → Int → Bool) (f : Int → Int → D) : D → D → Store → R D := fun x y S => match x, y with
  | .int i, .int j => if C i j then .ok (f i j) S else .bad
  | _, _ => .bad
theorem opS_I {C : Int → Int → Prop} {C' : Int → Int → Bool} {f : Int → Int → D} {g : Int → Int → V} (hf : ∀ K ρ H i j, VR K ρ H (f i j) (g i j)) (hc : ∀ i j, C' i j = true → C i j) : OpS X W (gI C' f) (rI C g) := by
  intro ρ H S σ Q x y v u r hx hy h
  cases x with
  | int i =>
    cases y with
    | int j =>
      cases hx; cases hy
      by_cases hc' : C' i j = true
      · have h' : LG (om X) W (PVR (om X)) (.ok (f i j) S) ρ H σ Q := by
          have e : gI C' f (.int i) (.int j) S = .ok (f i j) S := if_pos hc'
          rw [e] at h; exact h
        exact ⟨i, j, rfl, rfl, hc i j hc', h' ρ _ H .refl r (hf _ _ _ i j)⟩
      · have e : gI C' f (.int i) (.int j) S = .bad := if_neg hc'
        rw [e] at h; exact h.elim
    | _ => exact h.elim
  | _ => exact h.elim
theorem opS_I0 {f : Int → Int → D} {g : Int → Int → V} (hf : ∀ K ρ H i j, VR K ρ H (f i j) (g i j)) : OpS X W (gI (fun _ _ => true) f) (rI0 g) := by
  intro ρ H S σ Q x y v u r hx hy h
  cases x with
  | int i =>
    cases y with
    | int j => cases hx; cases hy; exact ⟨i, j, rfl, rfl, h ρ _ H .refl r (hf _ _ _ i j)⟩
    | _ => exact h.elim
  | _ => exact h.elim
end
end DL
namespace DL
open PySem PySem.Spec L2

section
variable {X : Cx} {W : WX} {pos : Pos} {a b c e : Expr} {es : List Expr} {fa fb fc : DE} {st : Stmt} {sts : List Stmt} {f g : DS}
/-! ### blocks -/
def dNx : DS := fun δ S => .nx δ S
def dSeq (f g : DS) : DS := fun δ S => match f δ S with
  | .nx δ' S' => g δ' S'
  | .rt d S' => .rt d S'
  | .bk δ' S' => .bk δ' S'
  | .ct δ' S' => .ct δ' S'
  | .exc x δ' S' => .exc x δ' S'
  | .bad => .bad
theorem jss_nil : JSs X W [] dNx := pss_imp pss_nil fun E σ H ⟨ρ, δ, S, r, rs, h⟩ => h ρ σ H .refl r rs
theorem jss_cons (h1 : JS X W st f) (h2 : JSs X W sts g) : JSs X W (st :: sts) (dSeq f g) := pss_imp (pss_cons h1 h2) fun E σ H ⟨ρ, δ, S, r, rs, h⟩ => by
  refine ⟨ρ, δ, S, r, rs, ?_⟩
  unfold dSeq at h
  cases e : f δ S with
  | nx δ' S' => rw [e] at h; exact fun ρ' σ' H' s r' rs' => ⟨ρ', δ', S', r', rs', LF.shift s h⟩
  | rt d S' => rw [e] at h; exact h
  | bk d S' => rw [e] at h; exact h
  | ct d S' => rw [e] at h; exact h
  | exc x d S' => rw [e] at h; exact h
  | bad => rw [e] at h; exact h
theorem jss_one (h1 : JS X W st f) : JSs X W [st] f := pss_imp (pss_one h1) fun E σ H h => h
theorem js_pass : JS X W (.Pass pos) dNx := ps_imp ps_pass fun E σ H ⟨ρ, δ, S, r, rs, h⟩ => h ρ σ H .refl r rs
/-- from an expression's result on -/
def R.thenF {α : Type} (r : R α) (δ : DEnv) (k : α → Store → F) : F := match r with
  | .ok d S => k d S
  | .exc x S => .exc x δ S
  | .bad => .bad
theorem LF.of {α β : Type} {Ω : Wd} {P : List Addr → Hp → α → β → Prop} {r : R α} {k : α → Store → F} {δ : DEnv} {S : Store} {ρ : List Addr} {H : Hp} {σ : St} {E : Ends} {Q : β → Hp → Prop} (rl : Rel Ω ρ H S) (rs : RelS Ω.K ρ H δ σ) (h : LF Ω W (r.thenF δ k) ρ H E)
    (q : ∀ ρ1 d S1 v H1, Step ρ H ρ1 H1 → Rel Ω ρ1 H1 S1 → P ρ1 H1 d v → RelS Ω.K ρ1 H1 δ σ → LF Ω W (k d S1) ρ1 H1 E → Q v H1) : LG Ω W P r ρ H σ Q := by
  cases r with
  | ok d S' => exact fun ρ' v H' s r' p => q ρ' d S' v H' s r' p (rl.rs s rs) (LF.shift s h)
  | exc x S' => exact fun ρ' c dd H' s r' x' => h ρ' c dd σ H' s r' (rl.rs s rs) x'
  | bad => exact h
def dExpr (f : DE) : DS := fun δ S => (f δ S).thenF δ fun _ S1 => .nx δ S1
theorem js_expr (he : JE X W e fa) (hs : swapsWith e none pos.line X.env = pure false := by rfl) : JS X W (.Expr e pos) (dExpr fa) := ps_imp (ps_expr he hs) fun E σ H ⟨ρ, δ, S, r, rs, h⟩ =>
  ⟨ρ, δ, S, r, rs, LF.of r rs h fun ρ1 d S1 v H1 s r1 p rs1 h1 => h1 ρ1 σ H1 .refl r1 rs1⟩
def dRet (f : DE) : DS := fun δ S => (f δ S).thenF δ fun d S1 => .rt d S1
theorem js_ret (he : JE X W e fa) : JS X W (.Return (some e) pos) (dRet fa) := ps_imp (ps_ret he) fun E σ H ⟨ρ, δ, S, r, rs, h⟩ =>
  ⟨ρ, δ, S, r, rs, LF.of r rs h fun ρ1 d S1 v H1 s r1 p rs1 h1 => h1 ρ1 v H1 .refl r1 p⟩
def dRetN : DS := fun δ S => .rt .non S
theorem js_retN : JS X W (.Return none pos) dRetN := ps_imp ps_retN fun E σ H ⟨ρ, δ, S, r, rs, h⟩ => h ρ _ H .refl r rfl
def dIf (t : DT) (f g : DS) : DS := fun δ S => (t δ S).thenF δ fun k S1 => if k = true then f δ S1 else g δ S1
theorem js_if {t : DT} {as bs : List Stmt} (hc : JT X W c t) (ha : JSs X W as f) (hb : JSs X W bs g) : JS X W (.If c as bs pos) (dIf t f g) := ps_imp (ps_if hc ha hb) fun E σ H ⟨ρ, δ, S, r, rs, h⟩ =>
  ⟨ρ, δ, S, r, rs, LF.of r rs h fun ρ1 d S1 v H1 s r1 p rs1 h1 => by
    cases p
    cases d with
    | true => exact ⟨ρ1, δ, S1, r1, rs1, h1⟩
    | false => exact ⟨ρ1, δ, S1, r1, rs1, h1⟩⟩
/-! ### targets -/
abbrev DG := D → DEnv → Store → R DEnv
abbrev DGs := List D → DEnv → Store → R DEnv
def LTo (Ω : Wd) (r : R DEnv) (ρ : List Addr) (H : Hp) (Q : St → Hp → Prop) : Prop := match r with
  | .ok δ' S' => ∀ ρ' σ' H', Step ρ H ρ' H' → Rel Ω ρ' H' S' → RelS Ω.K ρ' H' δ' σ' → Q σ' H'
  | _ => False
theorem LTo.shift {Ω : Wd} {r : R DEnv} {ρ ρ1 : List Addr} {H H1 : Hp} {Q : St → Hp → Prop} (s : Step ρ H ρ1 H1) (h : LTo Ω r ρ H Q) : LTo Ω r ρ1 H1 Q := by
  cases r with
  | ok δ' S' => exact fun ρ' a b t => h ρ' a b (s.trans t)
  | exc x S' => exact h
  | bad => exact h
def LTg (Ω : Wd) (g : DG) : TG := fun v σ H Q => ∃ ρ δ S d, Rel Ω ρ H S ∧ RelS Ω.K ρ H δ σ ∧ VR Ω.K ρ H d v ∧ LTo Ω (g d δ S) ρ H Q
def LTgs (Ω : Wd) (g : DGs) : TGs := fun v σ H Q => ∃ ρ δ S d, Rel Ω ρ H S ∧ RelS Ω.K ρ H δ σ ∧ VRs Ω.K ρ H d v ∧ LTo Ω (g d δ S) ρ H Q
abbrev JG (X : Cx) (e : Expr) (g : DG) : Prop := PG X e (LTg (om X) g)
abbrev JGs (X : Cx) (e : List Expr) (g : DGs) : Prop := PGs X e (LTgs (om X) g)
theorem pg_imp {t t' : TG} (h : PG X e t) (q : ∀ v σ H Q, t' v σ H Q → t v σ H Q) : PG X e t' := ⟨fun pins s σ H v u Q I r a => h.run pins s σ H v u Q I r (q v σ H Q a)⟩
theorem pgs_imp {t t' : TGs} (h : PGs X es t) (q : ∀ v σ H Q, t' v σ H Q → t v σ H Q) : PGs X es t' := ⟨fun pins s σ H v u Q I r a => h.run pins s σ H v u Q I r (q v σ H Q a)⟩
def dgName (i : Nat) : DG := fun d δ S => .ok (δ.set i (some d)) S
theorem jg_name (i : Nat) {x : Str} (hN : X.N.Nodup) (hi : X.N[i]? = some x := by rfl) (hx : Loc X.env.scope x := by first | exact Or.inl rfl | exact Or.inr rfl) (hf : X.fn x = true ∨ X.env.scope.names.lookup x = some .local := by first | exact .inl rfl | exact .inr rfl) : JG X (.Name x pos) (dgName i) :=
  pg_imp (pg_name hN hi hx hf) fun v σ H Q ⟨ρ, δ, S, d, r, rs, hv, h⟩ => h ρ _ H .refl r (rs.set hv i)
def dgNil : DGs := fun ds δ S => match ds with
  | [] => .ok δ S
  | _ => .bad
def dgCons (g : DG) (gs : DGs) : DGs := fun ds δ S => match ds with
  | d :: ds => (g d δ S).bind fun δ1 S1 => gs ds δ1 S1
  | [] => .bad
theorem jgs_nil : JGs X [] dgNil := pgs_imp pgs_nil fun v σ H Q ⟨ρ, δ, S, d, r, rs, hv, h⟩ => by
  cases d with
  | nil => cases hv; exact ⟨rfl, h ρ σ H .refl r rs⟩
  | cons x xs => exact h.elim
theorem jgs_cons {g : DG} {gs : DGs} (h1 : JG X e g) (h2 : JGs X es gs) (hs : (assignEach (e :: es) X.env).map (·.2) = assign e X.env :: (assignEach es X.env).map (·.2) := by rfl) : JGs X (e :: es) (dgCons g gs) := pgs_imp (pgs_cons h1 h2 hs) fun v σ H Q ⟨ρ, δ, S, d, r, rs, hv, h⟩ => by
  cases d with
  | nil => exact h.elim
  | cons x xs =>
    obtain ⟨y, ys, rfl, hy, hys⟩ := hv
    refine ⟨y, ys, rfl, ρ, δ, S, x, r, rs, hy, ?_⟩
    have h' : LTo (om X) ((g x δ S).bind fun δ1 S1 => gs xs δ1 S1) ρ H Q := h
    cases e1 : g x δ S with
    | ok δ1 S1 =>
      rw [e1] at h'
      exact fun ρ' σ' H' s r' rs' => ⟨ρ', δ1, S1, xs, r', rs', r.vrs s hys, LTo.shift s h'⟩
    | exc x S' => rw [e1] at h'; exact h'
    | bad => rw [e1] at h'; exact h'
def dgTup (n : Nat) (gs : DGs) : DG := fun d δ S => match d with
  | .tup ds => if ds.length = n then gs ds δ S else .bad
  | _ => .bad
theorem jg_tup {k : Nat} {n : Nat} {gs : DGs} (hc : X.calm = true) (h : JGs X es gs) (hl : (assignEach es X.env).length = n := by rfl) (hst : (assignEach es X.env).findIdx? (·.1) = none := by rfl) : JG X (.Tuple es k pos) (dgTup n gs) := pg_imp (pg_tup hc h hl hst) fun v σ H Q ⟨ρ, δ, S, d, r, rs, hv, h⟩ => by
  cases d with
  | tup ds =>
    obtain ⟨a, vs, rfl, hs, hvs⟩ := hv
    have h' : LTo (om X) (if ds.length = n then gs ds δ S else .bad) ρ H Q := h
    by_cases hn : ds.length = n
    · rw [if_pos hn] at h'
      exact ⟨a, vs, rfl, hs, by rw [← VRs.len hvs, hn], ρ, δ, S, ds, r, rs, hvs, h'⟩
    · rw [if_neg hn] at h'
      exact h'.elim
  | _ => exact h.elim
/-! ### stores -/
def toF (r : R DEnv) : F := match r with
  | .ok δ S => .nx δ S
  | _ => .bad
theorem LTo.of {r : R DEnv} {ρ : List Addr} {H : Hp} {E : Ends} (h : LF (om X) W (toF r) ρ H E) : LTo (om X) r ρ H E.nx := by
  cases r with
  | ok δ S => exact h
  | exc x S => exact h
  | bad => exact h
def dAsg (fe : DE) (g : DG) : DS := fun δ S => (fe δ S).thenF δ fun d S1 => toF (g d δ S1)
theorem js_asg {tg : Expr} {g : DG} (he : JE X W e fa) (hg : JG X tg g) (hs : swapsWithSole [tg] e pos.line X.env = pure false := by rfl) (hw : swappedStores [tg] e X.env = pure none := by rfl)
    (h1 : (assignEach [tg] X.env).map (·.2) = [assign tg X.env] := by rfl) : JS X W (.Assign [tg] e pos) (dAsg fa g) :=
  ps_imp (ps_asg he hg hs hw h1) fun E σ H ⟨ρ, δ, S, r, rs, h⟩ =>
    ⟨ρ, δ, S, r, rs, LF.of r rs h fun ρ1 d S1 v H1 s r1 p rs1 h1 => ⟨ρ1, δ, S1, d, r1, rs1, p, LTo.of h1⟩⟩
def dSet (i : Nat) (fe : DE) : DS := fun δ S => (fe δ S).thenF δ fun d S1 => .nx (δ.set i (some d)) S1
theorem js_set (i : Nat) {x : Str} {p : Pos} (hN : X.N.Nodup) (he : JE X W e fa) (hi : X.N[i]? = some x := by rfl) (hx : Loc X.env.scope x := by first | exact Or.inl rfl | exact Or.inr rfl)
    (hf : X.fn x = true ∨ X.env.scope.names.lookup x = some .local := by first | exact .inl rfl | exact .inr rfl) (hs : swapsWithSole [.Name x p] e pos.line X.env = pure false := by rfl) (hw : swappedStores [.Name x p] e X.env = pure none := by rfl) : JS X W (.Assign [.Name x p] e pos) (dSet i fa) :=
  ps_imp (ps_asg he (jg_name (pos := p) i hN hi hx hf) hs hw) fun E σ H ⟨ρ, δ, S, r, rs, h⟩ =>
    ⟨ρ, δ, S, r, rs, LF.of r rs h fun ρ1 d S1 v H1 s r1 p rs1 h1 => ⟨ρ1, δ, S1, d, r1, rs1, p, h1⟩⟩
/-! ### for over a value -/
/-- behind a turn -/
def F.turn (r : F) (k : DEnv → Store → F) : F := match r with
  | .nx δ S => k δ S
  | .ct δ S => k δ S
  | .bk δ S => .nx δ S
  | .rt d S => .rt d S
  | .exc x δ S => .exc x δ S
  | .bad => .bad
def toK (r : R DEnv) (k : DEnv → Store → F) : F := match r with
  | .ok δ S => k δ S
  | _ => .bad
def dForL (tg : DG) (b : DS) : List D → DS
  | [], δ, S => .nx δ S
  | x :: xs, δ, S => toK (tg x δ S) fun δ1 S1 => (b δ1 S1).turn fun δ2 S2 => dForL tg b xs δ2 S2
theorem LF.turn' {r : F} {k : DEnv → Store → F} {ρ : List Addr} {H : Hp} {E : Ends} {N : St → Hp → Prop} (h : LF (om X) W (r.turn k) ρ H E)
    (hN : ∀ ρ' σ' H' δ' S', Step ρ H ρ' H' → Rel (om X) ρ' H' S' → RelS X.K ρ' H' δ' σ' → LF (om X) W (k δ' S') ρ' H' E → N σ' H') : LF (om X) W r ρ H { E with nx := N, ct := N, bk := E.nx } := by
  cases r with
  | nx δ2 S2 => exact fun ρ2 σ2 H2 s2 r2 rs2 => hN ρ2 σ2 H2 δ2 S2 s2 r2 rs2 (LF.shift (r := k δ2 S2) s2 h)
  | ct δ2 S2 => exact fun ρ2 σ2 H2 s2 r2 rs2 => hN ρ2 σ2 H2 δ2 S2 s2 r2 rs2 (LF.shift (r := k δ2 S2) s2 h)
  | bk δ2 S2 => exact h
  | rt d S2 => exact h
  | exc y δ2 S2 => exact h
  | bad => exact h
/-- one turn and the turns behind it -/
theorem LF.turn {tg : DG} {b : DS} {x : D} {xs : List D} {δ : DEnv} {S : Store} {ρ : List Addr} {H : Hp} {σ : St} {E : Ends} {v : V} {N : St → Hp → Prop} (r : Rel (om X) ρ H S) (rs : RelS X.K ρ H δ σ) (hv : VR X.K ρ H x v)
    (h : LF (om X) W (dForL tg b (x :: xs) δ S) ρ H E) (hN : ∀ ρ' σ' H' δ' S', Step ρ H ρ' H' → Rel (om X) ρ' H' S' → RelS X.K ρ' H' δ' σ' → LF (om X) W (dForL tg b xs δ' S') ρ' H' E → N σ' H') :
    LTg (om X) tg v σ H fun σ2 H2 => LS (om X) W b { E with nx := N, ct := N, bk := E.nx } σ2 H2 := by
  refine ⟨ρ, δ, S, x, r, rs, hv, ?_⟩
  have h0 : LF (om X) W (toK (tg x δ S) fun δ1 S1 => (b δ1 S1).turn fun δ2 S2 => dForL tg b xs δ2 S2) ρ H E := h
  cases e1 : tg x δ S with
  | ok δ1 S1 =>
    rw [e1] at h0
    exact fun ρ1 σ1 H1 s1 r1 rs1 => ⟨ρ1, δ1, S1, r1, rs1, LF.turn' (LF.shift (r := (b δ1 S1).turn _) s1 h0) fun ρ' σ' H' δ' S' s r' rs' h' => hN ρ' σ' H' δ' S' (s1.trans s) r' rs' h'⟩
  | exc x S' => rw [e1] at h0; exact h0
  | bad => rw [e1] at h0; exact h0
def Sub (G H : Hp) : Prop := ∀ a o, G a = some o → H a = some o
/-- the items that a walk gives, whatever is done meanwhile (G: what is told of the heap) -/
structure Walk (Ω : Wd) (J : It) (xs : List D) (ρ : List Addr) (H : Hp) : Prop where
  go : ∀ (i : Nat) (ρ' : List Addr) (G H' : Hp), Step ρ H ρ' G → Sub G H' → i < xs.length → J.go i H'
  stop : ∀ (ρ' : List Addr) (G H' : Hp), Step ρ H ρ' G → Sub G H' → J.stop xs.length H'
  yld : ∀ (i : Nat) (d : D) (v : V) (ρ' : List Addr) (G H' H'' : Hp) (S' : Store), Step ρ H ρ' G → Rel Ω ρ' G S' → Sub G H' → xs[i]? = some d → J.yld i H' v H'' →
    ∃ G'', Step ρ' G ρ' G'' ∧ Rel Ω ρ' G'' S' ∧ VR Ω.K ρ' G'' d v ∧ (∀ a, G a = H' a → G'' a = H'' a) ∧ ∀ a, H' a ≠ none → H'' a = H' a ∧ G'' a = G a
abbrev PWk (Ω : Wd) : List Addr → Hp → List D → It → Prop := fun ρ H xs J => Walk Ω J xs ρ H
def LI (Ω : Wd) (W : WX) (f : DA) : TI := fun σ H R => ∃ ρ δ S, Rel Ω ρ H S ∧ RelS Ω.K ρ H δ σ ∧ LG Ω W (PWk Ω) (f δ S) ρ H σ R
abbrev JI (X : Cx) (W : WX) (tg iter : Expr) (f : DA) : Prop := PI X tg iter (LI (om X) W f)
theorem pi_imp {tg iter : Expr} {t t' : TI} (h : PI X tg iter t) (q : ∀ σ H R, t' σ H R → t σ H R) : PI X tg iter t' := ⟨fun pins s σ H R I a => h.run pins s σ H R I (q σ H R a)⟩
theorem for_vals {J : It} {tg : DG} {b : DS} {E : Ends} {xs : List D} {δ : DEnv} {S : Store} {ρ : List Addr} {H : Hp} {σ : St} (r : Rel (om X) ρ H S) (rs : RelS X.K ρ H δ σ) (wk : Walk (om X) J xs ρ H)
    (h : LF (om X) W (dForL tg b xs δ S) ρ H E) :
    ∃ Wv : Nat → Nat → St → Hp → Prop, (∃ m, Wv 0 m σ H) ∧ ∀ i m σ H, Wv i m σ H →
      (J.stop i H ∧ E.nx σ H) ∨ (J.go i H ∧ ∃ N : St → Hp → Prop, (∀ σ' H', N σ' H' → ∃ m', m' < m ∧ Wv (i + 1) m' σ' H') ∧ ∀ x H', J.yld i H x H' → LTg (om X) tg x σ H' fun σ2 H2 => LS (om X) W b { E with nx := N, ct := N, bk := E.nx } σ2 H2) := by
  refine ⟨fun i m σ' H' => m = xs.length - i ∧ i ≤ xs.length ∧ ∃ ρ' δ' S', Step ρ H ρ' H' ∧ Rel (om X) ρ' H' S' ∧ RelS X.K ρ' H' δ' σ' ∧ LF (om X) W (dForL tg b (xs.drop i) δ' S') ρ' H' E, ⟨xs.length, by simp, Nat.zero_le _, ρ, δ, S, .refl, r, rs, h⟩, ?_⟩
  rintro i m σ' H' ⟨rfl, hi, ρ', δ', S', s, r', rs', h'⟩
  by_cases hlt : i < xs.length
  · refine .inr ⟨wk.go i ρ' H' H' s (fun _ _ q => q) hlt, fun σ2 H2 => i + 1 ≤ xs.length ∧ ∃ ρ2 δ2 S2, Step ρ H ρ2 H2 ∧ Rel (om X) ρ2 H2 S2 ∧ RelS X.K ρ2 H2 δ2 σ2 ∧ LF (om X) W (dForL tg b (xs.drop (i + 1)) δ2 S2) ρ2 H2 E, fun σ2 H2 q => ⟨xs.length - (i + 1), by omega, rfl, q⟩, fun x H'' y => ?_⟩
    obtain ⟨G, s1, r1, hv, eG, _⟩ := wk.yld i xs[i] x ρ' H' H' H'' S' s r' (fun _ _ q => q) (List.getElem?_eq_getElem hlt) y
    obtain rfl : G = H'' := funext fun a => eG a rfl
    rw [List.drop_eq_getElem_cons hlt] at h'
    exact LF.turn r1 (r'.rs s1 rs') hv (LF.shift s1 h') fun ρ2 σ2 H2 δ2 S2 s2 r2 rs2 h2 => ⟨hlt, ρ2, δ2, S2, (s.trans s1).trans s2, r2, rs2, h2⟩
  · have e : i = xs.length := by omega
    subst e
    rw [List.drop_length] at h'
    exact .inl ⟨wk.stop ρ' H' H' s (fun _ _ q => q), h' ρ' σ' H' .refl r' rs'⟩
def dFor (fi : DA) (tg : DG) (b : DS) : DS := fun δ S => (fi δ S).thenF δ fun xs S1 => dForL tg b xs δ S1
theorem js_for {iter tg : Expr} {body : List Stmt} {gt : DG} {fi : DA} (hc : X.calm = true) (hp : PassesOwn (model X.prog X.w) X.A X.env X.xe) (hi : JI X W tg iter fi) (hg : JG X tg gt) (hb : JSs X W body f)
    (hs : ∀ x, foldedSetIterable iter X.env x = pure x := by intro _; rfl) : JS X W (.For tg iter body [] pos) (dFor fi gt f) :=
  ps_imp (ps_for hp hc hi hg hb hs) fun E σ H ⟨ρ, δ, S, r, rs, h⟩ =>
    ⟨ρ, δ, S, r, rs, LF.of r rs h fun ρ1 xs S1 J H1 s r1 wk rs1 h1 => for_vals r1 rs1 wk h1⟩
end
end DL
namespace DL
open PySem PySem.Spec L2

theorem OR.mono {Ω : Wd} {ρ ρ' : List Addr} {H H' : Hp} (s : Step ρ H ρ' H') (m : ∀ a ∈ ρ, Mv (H a)) {b : Addr} (e : H' b = H b) : ∀ {x : O}, OR Ω ρ H b x → OR Ω ρ' H' b x
  | .lst ds, ⟨vs, h, r⟩ => ⟨vs, by rw [e, h], VRs.mono s m ds vs r⟩
  | .dK lk kvs, ⟨kv, r, h1, h2⟩ => ⟨kv, KVR.mono s m kvs kv r, fun q => by rw [e, h1 q], fun q => by obtain ⟨o, h⟩ := h2 q; exact ⟨o, by rw [e, h]⟩⟩
  | .ins c fs, ⟨C, dx, fv, hc, h, r⟩ => ⟨C, dx, fv, hc, by rw [e, h], KVR.mono s m fs fv r⟩
theorem Rel.notin {Ω : Wd} {ρ : List Addr} {H : Hp} {S : Store} (r : Rel Ω ρ H S) {p : Addr} (h : H p = none) : p ∉ ρ := fun m => by
  have := r.mv m
  rw [h] at this; exact this
theorem Step.fresh {ρ : List Addr} {H : Hp} {p : Addr} {o : HO} (h : H p = none) : Step ρ H ρ (upd H p o) :=
  ⟨List.prefix_rfl, fun a u e _ => by rw [upd_ne (ne_of_none e h)]; exact e, fun _ m n => absurd m n⟩
theorem Rel.fresh {Ω : Wd} {ρ : List Addr} {H : Hp} {S : Store} (r : Rel Ω ρ H S) {p : Addr} {o : HO} (h : H p = none) : Rel Ω ρ (upd H p o) S :=
  ⟨r.len, r.nd, fun n a x e1 e2 => (r.ob n a x e1 e2).mono (.fresh h) (fun a m => r.mv m) (upd_ne fun q => r.notin h (by rw [← q]; exact List.mem_of_getElem? e1))⟩
theorem Step.alloc {ρ : List Addr} {H : Hp} {p : Addr} {o : HO} (h : H p = none) : Step ρ H (ρ ++ [p]) (upd H p o) :=
  ⟨⟨[p], rfl⟩, fun a u e _ => by rw [upd_ne (ne_of_none e h)]; exact e, fun a m n => by
    rcases List.mem_append.mp m with m | m
    · exact absurd m n
    · rw [List.mem_singleton.mp m]; exact h⟩
theorem Rel.alloc {Ω : Wd} {ρ : List Addr} {H : Hp} {S : Store} (r : Rel Ω ρ H S) {p : Addr} {o : HO} {x : O} (h : H p = none) (ob : OR Ω (ρ ++ [p]) (upd H p o) p x) : Rel Ω (ρ ++ [p]) (upd H p o) (S ++ [x]) := by
  refine ⟨by simp [r.len], ?_, fun n a y e1 e2 => ?_⟩
  · rw [List.nodup_append]
    exact ⟨r.nd, by simp, fun a m b hb q => r.notin h (by rw [← List.mem_singleton.mp hb, ← q]; exact m)⟩
  · by_cases hn : n < ρ.length
    · rw [List.getElem?_append_left hn] at e1
      rw [List.getElem?_append_left (by rw [← r.len]; exact hn)] at e2
      exact (r.ob n a y e1 e2).mono (.alloc h) (fun a m => r.mv m) (upd_ne fun q => r.notin h (by rw [← q]; exact List.mem_of_getElem? e1))
    · have hl : n < ρ.length + 1 := by have := (List.getElem?_eq_some_iff.mp e1).1; simpa using this
      have e : n = ρ.length := by omega
      subst e
      rw [List.getElem?_append_right (Nat.le_refl _)] at e1
      rw [List.getElem?_append_right (by rw [r.len]; exact Nat.le_refl _)] at e2
      rw [r.len] at e2
      simp at e1 e2
      subst e1; subst e2
      exact ob
theorem Step.write {ρ : List Addr} {H : Hp} {p : Addr} {o : HO} (h : p ∈ ρ) : Step ρ H ρ (upd H p o) :=
  ⟨List.prefix_rfl, fun a u e n => by rw [upd_ne (fun q => n (by rw [q]; exact h))]; exact e, fun _ m n => absurd m n⟩
theorem Rel.write {Ω : Wd} {ρ : List Addr} {H : Hp} {S : Store} (r : Rel Ω ρ H S) {p : Addr} {n : Nat} {o : HO} {x : O} (h : ρ[n]? = some p) (ob : OR Ω ρ (upd H p o) p x) : Rel Ω ρ (upd H p o) (S.set n x) := by
  have hm := List.mem_of_getElem? h
  refine ⟨by simp [r.len], r.nd, fun k a y e1 e2 => ?_⟩
  by_cases hk : k = n
  · subst hk
    rw [h] at e1; cases e1
    have hl : k < S.length := by rw [← r.len]; exact (List.getElem?_eq_some_iff.mp h).1
    rw [List.getElem?_set_self hl] at e2
    cases e2
    exact ob
  · rw [List.getElem?_set_ne (fun q => hk q.symm)] at e2
    refine (r.ob k a y e1 e2).mono (.write hm) (fun a m => r.mv m) (upd_ne fun q => hk ?_)
    subst q
    exact (List.getElem?_inj (List.getElem?_eq_some_iff.mp e1).1 r.nd).mp (e1.trans h.symm)

section
variable {X : Cx} {W : WX} {pos : Pos} {a b c e : Expr} {es : List Expr} {fa fb fc : DE} {fs : DA} {f g : DS}
/-! ### walks over lists and tuples told as values -/
theorem Sub.rd {G H : Hp} (s : Sub G H) {a : Addr} {u : HO} (h : Rd G a u) : Rd H a u := by
  rcases h with h | ⟨o, h⟩
  · exact .inl (s a _ h)
  · exact .inr ⟨o, s a _ h⟩
theorem Sub.sqT {K : PySem.W.Frag} {G H : Hp} (s : Sub G H) {a : Addr} {vs : List V} (h : SqT K G a vs) : SqT K H a vs := by
  rcases h with h | h
  · exact .inl (s.rd h)
  · exact .inr h
theorem Walk.list {Ω : Wd} {a : Addr} {xs : List D} {vs : List V} {ρ : List Addr} {H : Hp} {S : Store} (r : Rel Ω ρ H S) (hr : Rd H a (.lst vs)) (hn : a ∉ ρ) (hv : VRs Ω.K ρ H xs vs) : Walk Ω (Itl Ω.K a) xs ρ H where
  go := fun i ρ' G H' s sb hi => by
    have hl := VRs.len hv
    exact ⟨vs, vs[i], .inl (sb.rd (s.rd hn hr)), by simp [show i < vs.length by omega]⟩
  stop := fun ρ' G H' s sb => ⟨vs, .inl (sb.rd (s.rd hn hr)), by rw [VRs.len hv]; exact Nat.le_refl _⟩
  yld := fun i d v ρ' G H' H'' S' s r' sb e y => by
    obtain ⟨rfl, y⟩ := y
    obtain ⟨u, h1, h2⟩ := VRs.get hv e
    have h3 := y vs (.inl (sb.rd (s.rd hn hr)))
    rw [h1] at h3; cases h3
    exact ⟨G, .refl, r', r.vr s h2, fun a q => q, fun a q => ⟨rfl, rfl⟩⟩
theorem Walk.tup {Ω : Wd} {a : Addr} {xs : List D} {vs : List V} {ρ : List Addr} {H : Hp} {S : Store} (r : Rel Ω ρ H S) (hr : SqT Ω.K H a vs) (hv : VRs Ω.K ρ H xs vs) : Walk Ω (Itt Ω.K a) xs ρ H where
  go := fun i ρ' G H' s sb hi => by
    have hl := VRs.len hv
    exact ⟨vs, vs[i], sb.sqT (s.sqT (fun a m => r.mv m) hr), by simp [show i < vs.length by omega]⟩
  stop := fun ρ' G H' s sb => ⟨vs, sb.sqT (s.sqT (fun a m => r.mv m) hr), by rw [VRs.len hv]; exact Nat.le_refl _⟩
  yld := fun i d v ρ' G H' H'' S' s r' sb e y => by
    obtain ⟨rfl, y⟩ := y
    obtain ⟨u, h1, h2⟩ := VRs.get hv e
    have h3 := y vs (sb.sqT (s.sqT (fun a m => r.mv m) hr))
    rw [h1] at h3; cases h3
    exact ⟨G, .refl, r', r.vr s h2, fun a q => q, fun a q => ⟨rfl, rfl⟩⟩
def diL (fe : DE) : DA := fun δ S => (fe δ S).bind fun d S1 => match d with
  | .lst xs => .ok xs S1
  | _ => .bad
def diT (fe : DE) : DA := fun δ S => (fe δ S).bind fun d S1 => match d with
  | .tup xs => .ok xs S1
  | _ => .bad
theorem ji_list {iter tg : Expr} (hi : JE X W iter fa) : JI X W tg iter (diL fa) := pi_imp (pi_list hi) fun σ H R ⟨ρ, δ, S, r, rs, h⟩ =>
  ⟨ρ, δ, S, r, rs, LG.bind h fun ρ1 d S1 v H1 s1 r1 p1 q1 => by
    cases d with
    | lst xs =>
      obtain ⟨a, vs, rfl, hr, hn, hv⟩ := p1
      exact ⟨a, rfl, ⟨vs, .inl hr⟩, q1 ρ1 _ H1 .refl r1 (.list r1 hr hn hv)⟩
    | _ => exact q1.elim⟩
theorem ji_tup {iter tg : Expr} (hi : JE X W iter fa) : JI X W tg iter (diT fa) := pi_imp (pi_tup hi) fun σ H R ⟨ρ, δ, S, r, rs, h⟩ =>
  ⟨ρ, δ, S, r, rs, LG.bind h fun ρ1 d S1 v H1 s1 r1 p1 q1 => by
    cases d with
    | tup xs =>
      obtain ⟨a, vs, rfl, hr, hv⟩ := p1
      exact ⟨a, rfl, ⟨vs, hr⟩, q1 ρ1 _ H1 .refl r1 (.tup r1 hr hv)⟩
    | _ => exact q1.elim⟩
/-! ### arguments, displays -/
def dNil : DA := fun _ S => .ok [] S
def dCons (fa : DE) (fs : DA) : DA := fun δ S => (fa δ S).bind fun x S1 => (fs δ S1).bind fun xs S2 => .ok (x :: xs) S2
theorem ja_nil : JA X W [] dNil := pa_imp pa_nil fun σ H Q ⟨ρ, δ, S, r, rs, h⟩ => h ρ [] H .refl r rfl
theorem ja_cons (ha : JE X W e fa) (hr : JA X W es fs) (hs : starEach (e :: es) X.env = (false, eval e X.env) :: starEach es X.env := by rfl) : JA X W (e :: es) (dCons fa fs) :=
  pa_imp (pa_cons ha hr hs) fun σ H Q ⟨ρ, δ, S, r, rs, h⟩ => by
    refine ⟨ρ, δ, S, r, rs, LG.bind h fun ρ1 x S1 v H1 s1 r1 p1 q1 => ⟨ρ1, δ, S1, r1, r.rs s1 rs, LG.bind q1 fun ρ2 xs S2 vs H2 s2 r2 p2 q2 => ?_⟩⟩
    exact q2 ρ2 _ H2 .refl r2 ⟨v, vs, rfl, r1.vr s2 p1, p2⟩
def lenOk (n : Nat) : Bool := decide (n ≤ sizeLine)
theorem lenOk_of {n : Nat} (h : lenOk n = true) : n ≤ sizeLine := of_decide_eq_true h
def rTup (ds : List D) (S : Store) : R D := if lenOk ds.length = true then .ok (.tup ds) S else .bad
def rLst (ds : List D) (S : Store) : R D := if lenOk ds.length = true then .ok (.lst ds) S else .bad
def rNew (ds : List D) (S : Store) : R D := if lenOk ds.length = true then .ok (.ref S.length) (S ++ [.lst ds]) else .bad
section
variable {Ω : Wd} {ρ : List Addr} {H : Hp} {S : Store} {σ : St} {Q : VK} {ds : List D} {vs : List V}
theorem LG.tup (r : Rel Ω ρ H S) (hv : VRs Ω.K ρ H ds vs) (h : LG Ω W (PVR Ω) (rTup ds S) ρ H σ Q) : vs.length ≤ sizeLine ∧ ∀ p, H p = none → Q (.ref p) (upd H p (.tup vs)) := by
  by_cases hl : lenOk ds.length = true
  · rw [show rTup ds S = .ok (.tup ds) S from if_pos hl] at h
    refine ⟨by rw [← VRs.len hv]; exact lenOk_of hl, fun p hp => h ρ _ _ (.fresh hp) (r.fresh hp) ⟨p, vs, rfl, .of upd_same, r.vrs (.fresh hp) hv⟩⟩
  · rw [show rTup ds S = .bad from if_neg hl] at h
    exact h.elim
theorem LG.lst (r : Rel Ω ρ H S) (hv : VRs Ω.K ρ H ds vs) (h : LG Ω W (PVR Ω) (rLst ds S) ρ H σ Q) : vs.length ≤ sizeLine ∧ ∀ p, H p = none → Q (.ref p) (upd H p (.lst vs)) := by
  by_cases hl : lenOk ds.length = true
  · rw [show rLst ds S = .ok (.lst ds) S from if_pos hl] at h
    refine ⟨by rw [← VRs.len hv]; exact lenOk_of hl, fun p hp => h ρ _ _ (.fresh hp) (r.fresh hp) ⟨p, vs, rfl, .inl upd_same, r.notin hp, r.vrs (.fresh hp) hv⟩⟩
  · rw [show rLst ds S = .bad from if_neg hl] at h
    exact h.elim
theorem LG.new (r : Rel Ω ρ H S) (hv : VRs Ω.K ρ H ds vs) (h : LG Ω W (PVR Ω) (rNew ds S) ρ H σ Q) : vs.length ≤ sizeLine ∧ ∀ p, H p = none → Q (.ref p) (upd H p (.lst vs)) := by
  by_cases hl : lenOk ds.length = true
  · rw [show rNew ds S = .ok (.ref S.length) (S ++ [.lst ds]) from if_pos hl] at h
    refine ⟨by rw [← VRs.len hv]; exact lenOk_of hl, fun p hp => h (ρ ++ [p]) _ _ (.alloc hp) (r.alloc hp ⟨vs, upd_same, r.vrs (.alloc hp) hv⟩) ⟨p, by rw [← r.len]; simp, rfl⟩⟩
  · rw [show rNew ds S = .bad from if_neg hl] at h
    exact h.elim
end
def dTup (fs : DA) : DE := fun δ S => (fs δ S).bind rTup
def dLst (fs : DA) : DE := fun δ S => (fs δ S).bind rLst
def dNew (fs : DA) : DE := fun δ S => (fs δ S).bind rNew
theorem je_tup {x1} (h : JA X W es fs) : JE X W (.Tuple es x1 pos) (dTup fs) := pe_imp (pe_tup h) fun σ H Q ⟨ρ, δ, S, r, rs, h⟩ =>
  ⟨ρ, δ, S, r, rs, LG.bind h fun ρ1 x S1 v H1 s1 r1 p1 q1 => LG.tup r1 p1 q1⟩
theorem je_lst (h : JA X W es fs) : JE X W (.List es pos) (dLst fs) := pe_imp (pe_lst h) fun σ H Q ⟨ρ, δ, S, r, rs, h⟩ =>
  ⟨ρ, δ, S, r, rs, LG.bind h fun ρ1 x S1 v H1 s1 r1 p1 q1 => LG.lst r1 p1 q1⟩
theorem je_new (h : JA X W es fs) : JE X W (.List es pos) (dNew fs) := pe_imp (pe_lst h) fun σ H Q ⟨ρ, δ, S, r, rs, h⟩ =>
  ⟨ρ, δ, S, r, rs, LG.bind h fun ρ1 x S1 v H1 s1 r1 p1 q1 => LG.new r1 p1 q1⟩
end
end DL
namespace DL
open PySem PySem.Spec L2

/-! ### data as the library's data -/
mutual
def toPy : D → Option PyData
  | .non => some .none
  | .bl b => some (.bool b)
  | .int i => some (.int i)
  | .str x => some (.str x)
  | .ref _ => none
  | .tup ds => (toPys ds).map .tuple
  | .lst ds => (toPys ds).map .list
def toPys : List D → Option (List PyData)
  | [] => some []
  | d :: ds => match toPy d, toPys ds with
    | some p, some ps => some (p :: ps)
    | _, _ => none
end
mutual
theorem dp_of {K : PySem.W.Frag} {ρ : List Addr} {H : Hp} : ∀ (d : D) (p : PyData) (v : V), toPy d = some p → VR K ρ H d v → Dp K H v p
  | .non, p, v, e, h => by cases e; cases h; exact .non
  | .bl b, p, v, e, h => by cases e; cases h; exact .bl b
  | .int b, p, v, e, h => by cases e; cases h; exact .int b
  | .str b, p, v, e, h => by cases e; cases h; exact .str b
  | .ref n, p, v, e, h => by cases e
  | .tup ds, p, v, e, ⟨a, vs, hv, hs, hr⟩ => by
    subst hv
    simp only [toPy, Option.map_eq_some_iff] at e
    obtain ⟨ps, e1, rfl⟩ := e
    exact .tup hs (dps_of ds ps vs e1 hr)
  | .lst ds, p, v, e, ⟨a, vs, hv, hs, hn, hr⟩ => by
    subst hv
    simp only [toPy, Option.map_eq_some_iff] at e
    obtain ⟨ps, e1, rfl⟩ := e
    exact .lst (.inl hs) (dps_of ds ps vs e1 hr)
theorem dps_of {K : PySem.W.Frag} {ρ : List Addr} {H : Hp} : ∀ (ds : List D) (ps : List PyData) (vs : List V), toPys ds = some ps → VRs K ρ H ds vs → DpAll K H vs ps
  | [], ps, vs, e, h => by cases e; cases h; exact .nil
  | d :: ds, ps, vs, e, ⟨v, ws, hv, h, r⟩ => by
    subst hv
    simp only [toPys] at e
    cases e1 : toPy d with
    | none => rw [e1] at e; cases e
    | some p =>
      cases e2 : toPys ds with
      | none => rw [e1, e2] at e; cases e
      | some qs =>
        rw [e1, e2] at e
        cases e
        exact .cons (dp_of d p v e1 h) (dps_of ds qs ws e2 r)
end
section
variable {X : Cx} {W : WX} {pos : Pos} {a b c e : Expr} {es : List Expr} {fa fb fc : DE} {fs : DA} {f g : DS}
/-! ### == -/
def scalD : D → D → Option Bool
  | .non, .non => some true
  | .bl x, .bl y => some (x == y)
  | .int x, .int y => some (x == y)
  | .str x, .str y => some (decide (x = y))
  | _, _ => none
theorem scalD_ok {K : PySem.W.Frag} {ρ : List Addr} {H : Hp} {x y : D} {v u : V} {k : Bool} (h : scalD x y = some k) (hx : VR K ρ H x v) (hy : VR K ρ H y u) : scal v u = true ∧ decide (v = u) = k := by
  cases x <;> cases y <;> simp only [scalD, Option.some.injEq] at h <;> first | (cases h; done) | skip
  · cases hx; cases hy; exact ⟨rfl, by rw [← h]; rfl⟩
  · cases hx; cases hy; exact ⟨rfl, by rw [dec_bl]; exact h⟩
  · cases hx; cases hy; exact ⟨rfl, by rw [dec_int]; exact h⟩
  · cases hx; cases hy; exact ⟨rfl, by rw [← h]; simp⟩
def gEq (n : Bool) : D → D → Store → R D := fun x y S => match scalD x y with
  | some k => .ok (.bl (if n then !k else k)) S
  | none => match toPy x, toPy y with
    | some p, some q => if (SeqAt.shaped p && SeqAt.shaped q) = true then .ok (.bl (if n then !PyData.eqv p q else PyData.eqv p q)) S else .bad
    | _, _ => .bad
theorem opS_eq (n : Bool) (hu : X.A.units + 64 < cLine) : OpS X W (gEq n) (fun x y H Q => (if n then rNe else rEq) x y H Q ∨ (if n then rNeD X.K else rEqD X.K) x y H Q) := by
  intro ρ H S σ Q x y v u r hx hy h
  unfold gEq at h
  cases e : scalD x y with
  | some k =>
    rw [e] at h
    obtain ⟨h1, h2⟩ := scalD_ok e hx hy
    left
    cases n with
    | true => exact ⟨h1, by rw [h2]; exact h ρ _ H .refl r rfl⟩
    | false => exact ⟨h1, by rw [h2]; exact h ρ _ H .refl r rfl⟩
  | none =>
    rw [e] at h
    cases e1 : toPy x with
    | none => rw [e1] at h; exact h.elim
    | some p =>
      cases e2 : toPy y with
      | none => rw [e1, e2] at h; exact h.elim
      | some q =>
        rw [e1, e2] at h
        have h' : LG (om X) W (PVR (om X)) (if (SeqAt.shaped p && SeqAt.shaped q) = true then R.ok (D.bl (if n then !PyData.eqv p q else PyData.eqv p q)) S else R.bad) ρ H σ Q := h
        by_cases hc : (SeqAt.shaped p && SeqAt.shaped q) = true
        · rw [if_pos hc] at h'
          rw [Bool.and_eq_true] at hc
          right
          cases n with
          | true => exact ⟨p, q, dp_of x p v e1 hx, dp_of y q u e2 hy, hc.1, hc.2, h' ρ _ H .refl r rfl⟩
          | false => exact ⟨p, q, dp_of x p v e1 hx, dp_of y q u e2 hy, hc.1, hc.2, h' ρ _ H .refl r rfl⟩
        · rw [if_neg hc] at h'
          exact h'.elim
theorem opR_eq (hu : X.A.units + 64 < cLine) : OpR X (compareOp .Eq) (fun x y H Q => (if false then rNe else rEq) x y H Q ∨ (if false then rNeD X.K else rEqD X.K) x y H Q) := op_eq.or (op_eqD hu)
theorem opR_ne (hu : X.A.units + 64 < cLine) : OpR X (compareOp .NotEq) (fun x y H Q => (if true then rNe else rEq) x y H Q ∨ (if true then rNeD X.K else rEqD X.K) x y H Q) := op_ne.or (op_neD hu)
theorem je_eq (hu : X.A.units + 64 < cLine) (ha : JE X W a fa) (hb : JE X W b fb) : JE X W (.Compare a [.Eq] [b] pos) (dOp (gEq false) fa fb) := je_cmp (opR_eq hu) (opS_eq false hu) ha hb (nomark _)
theorem je_ne (hu : X.A.units + 64 < cLine) (ha : JE X W a fa) (hb : JE X W b fb) : JE X W (.Compare a [.NotEq] [b] pos) (dOp (gEq true) fa fb) := je_cmp (opR_ne hu) (opS_eq true hu) ha hb (nomark _)
theorem jt_eq (hu : X.A.units + 64 < cLine) (ha : JE X W a fa) (hb : JE X W b fb) : JT X W (.Compare a [.Eq] [b] pos) (dTest (dOp (gEq false) fa fb)) := jt_cmp (opR_eq hu) (opS_eq false hu) ha hb (nomark _)
theorem jt_ne (hu : X.A.units + 64 < cLine) (ha : JE X W a fa) (hb : JE X W b fb) : JT X W (.Compare a [.NotEq] [b] pos) (dTest (dOp (gEq true) fa fb)) := jt_cmp (opR_ne hu) (opS_eq true hu) ha hb (nomark _)
/-! ### <, <=, >, >= of ints -/
def gLt := gI (fun _ _ => true) fun i j => .bl (decide (i < j))
def gLe := gI (fun _ _ => true) fun i j => .bl (decide (i ≤ j))
def gGt := gI (fun _ _ => true) fun i j => .bl (decide (j < i))
def gGe := gI (fun _ _ => true) fun i j => .bl (decide (j ≤ i))
theorem je_lt (ha : JE X W a fa) (hb : JE X W b fb) : JE X W (.Compare a [.Lt] [b] pos) (dOp gLt fa fb) := je_cmp op_lt (opS_I0 fun _ _ _ _ _ => rfl) ha hb (nomark _)
theorem je_le (ha : JE X W a fa) (hb : JE X W b fb) : JE X W (.Compare a [.LtE] [b] pos) (dOp gLe fa fb) := je_cmp op_le (opS_I0 fun _ _ _ _ _ => rfl) ha hb (nomark _)
theorem je_gt (ha : JE X W a fa) (hb : JE X W b fb) : JE X W (.Compare a [.Gt] [b] pos) (dOp gGt fa fb) := je_cmp op_gt (opS_I0 fun _ _ _ _ _ => rfl) ha hb (nomark _)
theorem je_ge (ha : JE X W a fa) (hb : JE X W b fb) : JE X W (.Compare a [.GtE] [b] pos) (dOp gGe fa fb) := je_cmp op_ge (opS_I0 fun _ _ _ _ _ => rfl) ha hb (nomark _)
theorem jt_lt (ha : JE X W a fa) (hb : JE X W b fb) : JT X W (.Compare a [.Lt] [b] pos) (dTest (dOp gLt fa fb)) := jt_cmp op_lt (opS_I0 fun _ _ _ _ _ => rfl) ha hb (nomark _)
theorem jt_le (ha : JE X W a fa) (hb : JE X W b fb) : JT X W (.Compare a [.LtE] [b] pos) (dTest (dOp gLe fa fb)) := jt_cmp op_le (opS_I0 fun _ _ _ _ _ => rfl) ha hb (nomark _)
theorem jt_gt (ha : JE X W a fa) (hb : JE X W b fb) : JT X W (.Compare a [.Gt] [b] pos) (dTest (dOp gGt fa fb)) := jt_cmp op_gt (opS_I0 fun _ _ _ _ _ => rfl) ha hb (nomark _)
theorem jt_ge (ha : JE X W a fa) (hb : JE X W b fb) : JT X W (.Compare a [.GtE] [b] pos) (dTest (dOp gGe fa fb)) := jt_cmp op_ge (opS_I0 fun _ _ _ _ _ => rfl) ha hb (nomark _)
/-! ### a sign in a text -/
def gInS (n : Bool) : D → D → Store → R D := fun x y S => match x, y with
  | .str ⟨c⟩, .str z => if c.size = 1 then .ok (.bl (if n then !decide (c.getD 0 0 ∈ z.cps.toList) else decide (c.getD 0 0 ∈ z.cps.toList))) S else .bad
  | _, _ => .bad
theorem opS_inS : OpS X W (gInS false) (fun x y H Q => ∃ (c : Nat) (z : Str), x = .str ⟨#[c]⟩ ∧ y = .str z ∧ Q (.bl (decide (c ∈ z.cps.toList))) H) := by
  intro ρ H S σ Q x y v u r hx hy h
  cases x with
  | str w =>
    cases y with
    | str z =>
      obtain ⟨c⟩ := w
      cases hx; cases hy
      have h' : LG (om X) W (PVR (om X)) (if c.size = 1 then R.ok (D.bl (decide (c.getD 0 0 ∈ z.cps.toList))) S else R.bad) ρ H σ Q := h
      by_cases hc : c.size = 1
      · rw [if_pos hc] at h'
        obtain ⟨l⟩ := c
        match l, hc with
        | [k], _ => exact ⟨k, z, rfl, rfl, h' ρ _ H .refl r rfl⟩
      · rw [if_neg hc] at h'
        exact h'.elim
    | _ => exact h.elim
  | _ => exact h.elim
theorem je_inS (ha : JE X W a fa) (hb : JE X W b fb) (hm : behindInMarks .In b = false := by rfl) : JE X W (.Compare a [.In] [b] pos) (dOp (gInS false) fa fb) := je_cmp op_in_sign opS_inS ha hb hm
theorem jt_inS (ha : JE X W a fa) (hb : JE X W b fb) (hm : behindInMarks .In b = false := by rfl) : JT X W (.Compare a [.In] [b] pos) (dTest (dOp (gInS false) fa fb)) := jt_cmp op_in_sign opS_inS ha hb hm
/-! ### and, or, not -/
def dAnd (t u : DT) : DT := fun δ S => (t δ S).bind fun k S1 => if k = true then u δ S1 else .ok false S1
def dOr (t u : DT) : DT := fun δ S => (t δ S).bind fun k S1 => if k = true then .ok true S1 else u δ S1
def dNot (t : DT) : DT := fun δ S => (t δ S).bind fun k S1 => .ok (!k) S1
section
variable {t u : DT}
theorem jw_and1 (ha : JT X W a t) : JW X W (.BoolOp .And [a] pos) t := pw_imp (pw_and1 ha) fun σ H Q h => h
theorem jw_or1 (ha : JT X W a t) : JW X W (.BoolOp .Or [a] pos) t := pw_imp (pw_or1 ha) fun σ H Q h => h
theorem jw_and (ha : JT X W a t) (hb : JW X W (.BoolOp .And (b :: es) pos) u) : JW X W (.BoolOp .And (a :: b :: es) pos) (dAnd t u) := pw_imp (pw_and ha hb) fun σ H Q ⟨ρ, δ, S, r, rs, h⟩ =>
  ⟨ρ, δ, S, r, rs, LG.bind h fun ρ1 k S1 v H1 s1 r1 p1 q1 => by
    cases p1
    cases k with
    | true => exact ⟨ρ1, δ, S1, r1, r.rs s1 rs, q1⟩
    | false => exact q1 ρ1 _ H1 .refl r1 rfl⟩
theorem jw_or (ha : JT X W a t) (hb : JW X W (.BoolOp .Or (b :: es) pos) u) : JW X W (.BoolOp .Or (a :: b :: es) pos) (dOr t u) := pw_imp (pw_or ha hb) fun σ H Q ⟨ρ, δ, S, r, rs, h⟩ =>
  ⟨ρ, δ, S, r, rs, LG.bind h fun ρ1 k S1 v H1 s1 r1 p1 q1 => by
    cases p1
    cases k with
    | true => exact q1 ρ1 _ H1 .refl r1 rfl
    | false => exact ⟨ρ1, δ, S1, r1, r.rs s1 rs, q1⟩⟩
theorem jt_w (h : JW X W e t) : JT X W e t := h.pt
theorem jt_not (ha : JT X W a t) : JT X W (.UnaryOp .Not a pos) (dNot t) := pt_imp (pt_not ha) fun σ H Q ⟨ρ, δ, S, r, rs, h⟩ =>
  ⟨ρ, δ, S, r, rs, LG.bind h fun ρ1 k S1 v H1 s1 r1 p1 q1 => by cases p1; exact q1 ρ1 _ H1 .refl r1 rfl⟩
theorem jt_val (ha : JE X W a fa) : JT X W a (dTest fa) → True := fun _ => trivial
def dIfE (t : DT) (fa fb : DE) : DE := fun δ S => (t δ S).bind fun k S1 => if k = true then fa δ S1 else fb δ S1
theorem je_ifE (hc : JT X W c t) (ha : JE X W a fa) (hb : JE X W b fb) : JE X W (.IfExp c a b pos) (dIfE t fa fb) := pe_imp (pe_ifExp hc ha hb) fun σ H Q ⟨ρ, δ, S, r, rs, h⟩ =>
  ⟨ρ, δ, S, r, rs, LG.bind h fun ρ1 k S1 v H1 s1 r1 p1 q1 => by
    cases p1
    cases k with
    | true => exact ⟨ρ1, δ, S1, r1, r.rs s1 rs, q1⟩
    | false => exact ⟨ρ1, δ, S1, r1, r.rs s1 rs, q1⟩⟩
end
/-- and, or, not as values: truth values all -/
def asB (d : D) (k : Bool → R D) : R D := match d with
  | .bl b => k b
  | _ => .bad
def dAndV (fa fb : DE) : DE := fun δ S => (fa δ S).bind fun x S1 => asB x fun k => if k = true then fb δ S1 else .ok (.bl false) S1
def dOrV (fa fb : DE) : DE := fun δ S => (fa δ S).bind fun x S1 => asB x fun k => if k = true then .ok (.bl true) S1 else fb δ S1
def dNotV (fa : DE) : DE := fun δ S => (fa δ S).bind fun x S1 => asB x fun k => .ok (.bl (!k)) S1
theorem je_one {op} (h : JE X W a fa) : JE X W (.BoolOp op [a] pos) fa := pe_imp (pe_one h) fun σ H Q h => h
theorem je_and (ha : JE X W a fa) (hb : JE X W (.BoolOp .And (b :: es) pos) fb) : JE X W (.BoolOp .And (a :: b :: es) pos) (dAndV fa fb) := pe_imp (pe_and ha hb) fun σ H Q ⟨ρ, δ, S, r, rs, h⟩ =>
  ⟨ρ, δ, S, r, rs, LG.bind h fun ρ1 x S1 v H1 s1 r1 p1 q1 => by
    cases x with
    | bl k =>
      cases p1
      cases k with
      | true => exact ⟨true, rfl, ρ1, δ, S1, r1, r.rs s1 rs, q1⟩
      | false => exact ⟨false, rfl, q1 ρ1 _ H1 .refl r1 rfl⟩
    | _ => exact q1.elim⟩
theorem je_or (ha : JE X W a fa) (hb : JE X W (.BoolOp .Or (b :: es) pos) fb) : JE X W (.BoolOp .Or (a :: b :: es) pos) (dOrV fa fb) := pe_imp (pe_or ha hb) fun σ H Q ⟨ρ, δ, S, r, rs, h⟩ =>
  ⟨ρ, δ, S, r, rs, LG.bind h fun ρ1 x S1 v H1 s1 r1 p1 q1 => by
    cases x with
    | bl k =>
      cases p1
      cases k with
      | true => exact ⟨true, rfl, q1 ρ1 _ H1 .refl r1 rfl⟩
      | false => exact ⟨false, rfl, ρ1, δ, S1, r1, r.rs s1 rs, q1⟩
    | _ => exact q1.elim⟩
theorem je_not (ha : JE X W a fa) : JE X W (.UnaryOp .Not a pos) (dNotV fa) := pe_imp (pe_not ha) fun σ H Q ⟨ρ, δ, S, r, rs, h⟩ =>
  ⟨ρ, δ, S, r, rs, LG.bind h fun ρ1 x S1 v H1 s1 r1 p1 q1 => by
    cases x with
    | bl k => cases p1; exact ⟨k, rfl, q1 ρ1 _ H1 .refl r1 rfl⟩
    | _ => exact q1.elim⟩
/-- the truth of a value -/
def truD : D → Option Bool
  | .non => some false
  | .bl b => some b
  | .int i => some (i != 0)
  | .str y => if lenOk y.length = true then some ((y.length : Int) != 0) else none
  | .tup xs => some !xs.isEmpty
  | .lst xs => some !xs.isEmpty
  | .ref _ => none
theorem isEmpty_vrs {K : PySem.W.Frag} {ρ : List Addr} {H : Hp} : ∀ {ds : List D} {vs : List V}, VRs K ρ H ds vs → ds.isEmpty = vs.isEmpty
  | [], _, h => by cases h; rfl
  | d :: ds, _, ⟨v, ws, e, h, r⟩ => by subst e; rfl
theorem truD_ok {K : PySem.W.Frag} {ρ : List Addr} {H : Hp} {x : D} {v : V} {k : Bool} (h : truD x = some k) (hx : VR K ρ H x v) : TruV K v H k := by
  cases x with
  | non => cases hx; cases h; exact rfl
  | bl b => cases hx; cases h; exact rfl
  | int i => cases hx; cases h; exact rfl
  | str y =>
    cases hx
    have h' : (if lenOk y.length = true then some ((y.length : Int) != 0) else none) = some k := h
    by_cases hl : lenOk y.length = true
    · rw [if_pos hl] at h'; cases h'; exact ⟨lenOk_of hl, rfl⟩
    · rw [if_neg hl] at h'; cases h'
  | ref n => cases h
  | tup ds =>
    obtain ⟨a, vs, rfl, hs, hr⟩ := hx
    cases h
    exact .inr (.inl ⟨vs, hs, by rw [isEmpty_vrs hr]⟩)
  | lst ds =>
    obtain ⟨a, vs, rfl, hs, hn, hr⟩ := hx
    cases h
    exact .inl ⟨vs, .inl hs, by rw [isEmpty_vrs hr]⟩
def dTru (fa : DE) : DT := fun δ S => (fa δ S).bind fun x S1 => match truD x with
  | some k => .ok k S1
  | none => .bad
theorem jt_tru (ha : JE X W a fa) (he : ∀ whole, isTrue a X.env whole = (do let v ← whole; standAt a.pos; holding [v] (truthy v)) := by intro _; rfl) : JT X W a (dTru fa) := pt_imp (pt_truth ha he) fun σ H Q ⟨ρ, δ, S, r, rs, h⟩ =>
  ⟨ρ, δ, S, r, rs, LG.bind h fun ρ1 x S1 v H1 s1 r1 p1 q1 => by
    cases e : truD x with
    | some k => rw [e] at q1; exact ⟨k, truD_ok e p1, q1 ρ1 _ H1 .refl r1 rfl⟩
    | none => rw [e] at q1; exact q1.elim⟩
end
end DL
namespace DL
open PySem PySem.Spec L2

section
variable {X : Cx} {W : WX} {pos p apos cpos : Pos} {a b c e o : Expr} {es : List Expr} {fa fb fc fo : DE} {fs : DA} {f g : DS} {x : Str}
theorem dec_of {P : Prop} [d : Decidable P] {C : Prop} (h : decide P = true) (e : P = C := by rfl) : C := e ▸ of_decide_eq_true h
/-! ### sums, products -/
def gAdd : D → D → Store → R D := fun x y S => match x, y with
  | .int i, .int j => .ok (.int (i + j)) S
  | .str i, .str j => if lenOk (i.length + j.length) = true then .ok (.str (i ++ j)) S else .bad
  | _, _ => .bad
def rAdd2 : R2 := fun x y H Q => (∃ i j, x = .int i ∧ y = .int j ∧ Q (.int (i + j)) H) ∨ (∃ i j, x = .str i ∧ y = .str j ∧ i.length + j.length ≤ sizeLine ∧ Q (.str (i ++ j)) H)
theorem opS_add : OpS X W gAdd rAdd2 := by
  intro ρ H S σ Q x y v u r hx hy h
  cases x with
  | int i =>
    cases y with
    | int j => cases hx; cases hy; exact .inl ⟨i, j, rfl, rfl, h ρ _ H .refl r rfl⟩
    | _ => exact h.elim
  | str i =>
    cases y with
    | str j =>
      cases hx; cases hy
      have h' : LG (om X) W (PVR (om X)) (if lenOk (i.length + j.length) = true then R.ok (D.str (i ++ j)) S else R.bad) ρ H σ Q := h
      by_cases hl : lenOk (i.length + j.length) = true
      · rw [if_pos hl] at h'; exact .inr ⟨i, j, rfl, rfl, lenOk_of hl, h' ρ _ H .refl r rfl⟩
      · rw [if_neg hl] at h'; exact h'.elim
    | _ => exact h.elim
  | _ => exact h.elim
theorem opR_add : OpR X (binaryOp .Add) rAdd2 := op_add.or op_add_str
theorem opR_iadd : OpR X (inplaceOp .Add) rAdd2 := iop_add.or iop_add_str
theorem je_add (ha : JE X W a fa) (hb : JE X W b fb) : JE X W (.BinOp a .Add b pos) (dOp gAdd fa fb) := je_op opR_add opS_add ha hb
def gSub := gI (fun _ _ => true) fun i j => .int (i - j)
theorem je_sub (ha : JE X W a fa) (hb : JE X W b fb) : JE X W (.BinOp a .Sub b pos) (dOp gSub fa fb) := je_op op_sub (opS_I0 fun _ _ _ _ _ => rfl) ha hb
def gMul := gI (fun i j => decide ((-(2 ^ 64) < i ∧ i < 2 ^ 64) ∨ (-(2 ^ 64) < j ∧ j < 2 ^ 64))) fun i j => .int (i * j)
theorem je_mul (ha : JE X W a fa) (hb : JE X W b fb) : JE X W (.BinOp a .Mult b pos) (dOp gMul fa fb) := je_op op_mul (opS_I (fun _ _ _ _ _ => rfl) fun _ _ h => dec_of h) ha hb
def gMod := gI (fun _ j => decide (0 < j)) fun i j => .int (i % j)
theorem je_mod (ha : JE X W a fa) (hb : JE X W b fb) : JE X W (.BinOp a .Mod b pos) (dOp gMod fa fb) := je_op op_mod (opS_I (fun _ _ _ _ _ => rfl) fun _ _ h => dec_of h) ha hb
def gFdiv := gI (fun _ j => decide (0 < j ∧ j < 1073741824)) fun i j => .int (i / j)
theorem je_fdiv (ha : JE X W a fa) (hb : JE X W b fb) : JE X W (.BinOp a .FloorDiv b pos) (dOp gFdiv fa fb) := je_op op_fdiv (opS_I (fun _ _ _ _ _ => rfl) fun _ _ h => dec_of h) ha hb
def gPow := gI (fun i j => decide (0 ≤ j ∧ j ≤ 1000000 ∧ i.natAbs < 2 ^ 64)) fun i j => .int (i ^ j.toNat)
theorem je_pow (ha : JE X W a fa) (hb : JE X W b fb) : JE X W (.BinOp a .Pow b pos) (dOp gPow fa fb) := je_op op_pow (opS_I (fun _ _ _ _ _ => rfl) fun _ _ h => dec_of h) ha hb
theorem je_neg (ha : JE X W a fa) : JE X W (.UnaryOp .USub a pos) (dOp (fun x _ => gSub (.int 0) x) fa (dC .non)) := pe_imp (pe_un un_neg ha) fun σ H Q ⟨ρ, δ, S, r, rs, h⟩ =>
  ⟨ρ, δ, S, r, rs, LG.bind h fun ρ1 x S1 v H1 s1 r1 p1 q1 => by
    have q2 : LG (om X) W (PVR (om X)) (gSub (.int 0) x S1) ρ1 H1 σ Q := q1
    cases x with
    | int i =>
      cases p1
      have q3 : LG (om X) W (PVR (om X)) (.ok (.int (0 - i)) S1) ρ1 H1 σ Q := q2
      exact ⟨i, rfl, by have := q3 ρ1 (.int (-i)) H1 .refl r1 (by show V.int (-i) = V.int (0 - i); rw [Int.zero_sub]); exact this⟩
    | _ => exact q2.elim⟩
/-- str * int -/
def gRepS : D → D → Store → R D := fun x y S => match x, y with
  | .str i, .int j => if 0 ≤ j ∧ lenOk (i.length * j.toNat) = true then .ok (.str ⟨(List.replicate j.toNat i.cps.toList).flatten.toArray⟩) S else .bad
  | _, _ => .bad
/-! ### x += e -/
def dAug (i : Nat) (g : D → D → Store → R D) (fe : DE) : DS := fun δ S => match δ[i]? with
  | some (some x) => (fe δ S).thenF δ fun y S1 => (g x y S1).thenF δ fun z S2 => .nx (δ.set i (some z)) S2
  | _ => .bad
theorem js_aug (i : Nat) {px : Pos} {op : Operator} {r : R2} {g : D → D → Store → R D} (ho : OpR X (inplaceOp op) r) (hs : OpS X W g r) (hN : X.N.Nodup) (he : JE X W e fa) (hi : X.N[i]? = some x := by rfl) (hx : Loc X.env.scope x := by first | exact Or.inl rfl | exact Or.inr rfl)
    (hf : X.fn x = true ∨ X.env.scope.names.lookup x = some .local := by first | exact .inl rfl | exact .inr rfl) : JS X W (.AugAssign (.Name x px) op e pos) (dAug i g fa) :=
  ps_imp (ps_aug (i := i) (ti := r) hN hi hx he (fun pins s σ H x y v u Q I hv rx ry q => augR ho I hv rx ry q) hf) fun E σ H ⟨ρ, δ, S, r, rs, h⟩ => by
    unfold dAug at h
    split at h
    · rename_i d ed
      obtain ⟨v, hv, q⟩ := rs.get ed
      refine ⟨v, hv, ρ, δ, S, r, rs, LF.of r rs h fun ρ1 y S1 u H1 s1 r1 p1 rs1 h1 => ?_⟩
      exact hs ρ1 H1 S1 σ _ d y v u r1 (r.vr s1 q) p1 (LF.of r1 rs1 h1 fun ρ2 z S2 w H2 s2 r2 p2 rs2 h2 => h2 ρ2 _ H2 .refl r2 (rs2.set p2 i))
    · exact h.elim
end
end DL
namespace DL
open PySem PySem.Spec L2

theorem Rel.lstAt {Ω : Wd} {ρ : List Addr} {H : Hp} {S : Store} {n : Nat} {v : V} {ds : List D} (r : Rel Ω ρ H S) (h : VR Ω.K ρ H (.ref n) v) (e : S[n]? = some (.lst ds)) : ∃ a vs, v = .ref a ∧ ρ[n]? = some a ∧ H a = some (.lst vs) ∧ VRs Ω.K ρ H ds vs := by
  obtain ⟨a, h1, rfl⟩ := h
  obtain ⟨vs, h2, h3⟩ := r.ob n a _ h1 e
  exact ⟨a, vs, rfl, h1, h2, h3⟩
theorem atI_vrs {K : PySem.W.Frag} {ρ : List Addr} {H : Hp} {ds : List D} {vs : List V} {i : Int} {d : D} (h : VRs K ρ H ds vs) (e : atI ds i = some d) : ∃ v, atI vs i = some v ∧ VR K ρ H d v := by
  unfold atI at e ⊢
  rw [← VRs.len h]
  cases q : ixN ds.length i with
  | none => rw [q] at e; cases e
  | some j => rw [q] at e; exact VRs.get h e
section
variable {X : Cx} {W : WX} {pos p apos cpos : Pos} {a b c e o : Expr} {es : List Expr} {fa fb fc fo : DE} {fs : DA} {f g : DS} {x : Str}
/-! ### places -/
def items (S : Store) : D → Option (List D)
  | .tup ds => some ds
  | .lst ds => some ds
  | .ref n => match S[n]? with
    | some (.lst ds) => some ds
    | _ => none
  | _ => none
def gIx : D → D → Store → R D := fun x y S => match y with
  | .int i => match x with
    | .str z => if lenOk z.length = true then match atI z.cps.toList i with
        | some c => .ok (.str ⟨#[c]⟩) S
        | none => .bad
      else .bad
    | x => match items S x with
      | some ds => match atI ds i with
        | some d => .ok d S
        | none => .bad
      | none => .bad
  | _ => .bad
theorem items_ok {Ω : Wd} {ρ : List Addr} {H : Hp} {S : Store} {x : D} {v : V} {ds : List D} (r : Rel Ω ρ H S) (hx : VR Ω.K ρ H x v) (e : items S x = some ds) : ∃ a vs, v = .ref a ∧ (SqL Ω.K H a vs ∨ SqT Ω.K H a vs) ∧ VRs Ω.K ρ H ds vs := by
  cases x with
  | tup xs => cases e; obtain ⟨a, vs, rfl, h, q⟩ := hx; exact ⟨a, vs, rfl, .inr h, q⟩
  | lst xs => cases e; obtain ⟨a, vs, rfl, h, n, q⟩ := hx; exact ⟨a, vs, rfl, .inl (.inl h), q⟩
  | ref n =>
    have e' : (match S[n]? with | some (O.lst ds) => some ds | _ => none) = some ds := e
    cases q : S[n]? with
    | none => rw [q] at e'; cases e'
    | some o =>
      rw [q] at e'
      cases o with
      | lst es => cases e'; obtain ⟨a, vs, rfl, _, h1, h2⟩ := r.lstAt hx q; exact ⟨a, vs, rfl, .inl (.of h1), h2⟩
      | _ => cases e'
  | _ => cases e
theorem opS_ix : OpS X W gIx (rIx X.K) := by
  intro ρ H S σ Q x y v u r hx hy h
  cases y with
  | int i =>
    cases hy
    have key : ∀ ds, items S x = some ds → (match atI ds i with | some d => R.ok d S | none => R.bad) = gIx x (.int i) S → rIx X.K v (.int i) H Q := fun ds e eq => by
      rw [← eq] at h
      obtain ⟨p, vs, rfl, hq, hv⟩ := items_ok r hx e
      cases e2 : atI ds i with
      | none => rw [e2] at h; exact h.elim
      | some d =>
        rw [e2] at h
        obtain ⟨w, h1, h2⟩ := atI_vrs hv e2
        rcases hq with hq | hq
        · exact .inl ⟨p, vs, i, w, rfl, rfl, hq, h1, h ρ w H .refl r h2⟩
        · exact .inr (.inl ⟨p, vs, i, w, rfl, rfl, hq, h1, h ρ w H .refl r h2⟩)
    have bad : items S x = none → (∀ z, x ≠ .str z) → rIx X.K v (.int i) H Q := fun e nz => by
      have : gIx x (.int i) S = .bad := by
        unfold gIx
        cases x with
        | str z => exact absurd rfl (nz z)
        | _ => simp [e]
      rw [this] at h
      exact h.elim
    cases x with
    | str z =>
      cases hx
      have h' : LG (om X) W (PVR (om X)) (if lenOk z.length = true then (match atI z.cps.toList i with | some c => R.ok (D.str ⟨#[c]⟩) S | none => R.bad) else R.bad) ρ H σ Q := h
      by_cases hl : lenOk z.length = true
      · rw [if_pos hl] at h'
        cases e2 : atI z.cps.toList i with
        | none => rw [e2] at h'; exact h'.elim
        | some c => rw [e2] at h'; exact .inr (.inr ⟨z, i, c, rfl, rfl, lenOk_of hl, e2, h' ρ _ H .refl r rfl⟩)
      · rw [if_neg hl] at h'; exact h'.elim
    | tup xs => exact key xs rfl rfl
    | lst xs => exact key xs rfl rfl
    | ref n =>
      cases e : items S (.ref n) with
      | none => exact bad e fun z q => by cases q
      | some ds => exact key ds e (by show _ = (match items S (.ref n) with | some ds => _ | none => _); rw [e])
    | non => exact bad rfl fun z q => by cases q
    | bl k => exact bad rfl fun z q => by cases q
    | int k => exact bad rfl fun z q => by cases q
  | _ => exact h.elim
theorem je_ix (ha : JE X W a fa) (hb : JE X W b fb) (hs : PlainIx b := by intro _ _; rfl) : JE X W (.Subscript a b pos) (dOp gIx fa fb) := pe_imp (pe_ix ix_seq ha hb hs) fun σ H Q h => LE.two opS_ix h
/-- xs[i] = v of a list of the store -/
def sIx (o i v : D) (S : Store) : Option Store := match o, i with
  | .ref n, .int k => match S[n]? with
    | some (.lst ds) => match ixN ds.length k with
      | some j => some (S.set n (.lst (ds.set j v)))
      | none => none
    | _ => none
  | _, _ => none
def dgIx (fo fi : DE) : DG := fun d δ S => (fo δ S).bind fun o S1 => (fi δ S1).bind fun i S2 => match sIx o i d S2 with
  | some S3 => .ok δ S3
  | none => .bad
theorem LTo.part {Ω : Wd} {f : DE} {k : D → Store → R DEnv} {δ : DEnv} {S : Store} {ρ : List Addr} {H : Hp} {σ : St} {Q : St → Hp → Prop} {Q1 : VK} (rl : Rel Ω ρ H S) (rs : RelS Ω.K ρ H δ σ) (h : LTo Ω ((f δ S).bind k) ρ H Q)
    (q : ∀ ρ1 d S1 v H1, Step ρ H ρ1 H1 → Rel Ω ρ1 H1 S1 → VR Ω.K ρ1 H1 d v → RelS Ω.K ρ1 H1 δ σ → LTo Ω (k d S1) ρ1 H1 Q → Q1 v H1) : LE Ω W f σ H Q1 := by
  refine ⟨ρ, δ, S, rl, rs, ?_⟩
  cases e : f δ S with
  | ok d S' => rw [e] at h; exact fun ρ' v H' s r' p => q ρ' d S' v H' s r' p (rl.rs s rs) (LTo.shift s h)
  | exc x S' => rw [e] at h; exact h.elim
  | bad => rw [e] at h; exact h
theorem jg_ix (ho : JE X W o fo) (hi : JE X W a fa) (ha : ∀ v, assign (.Subscript o a pos) X.env v = (do let ov ← holding [v] (eval o X.env); let iv ← holding [v, ov] (eval a X.env); standAt pos; holding [v, ov, iv] (setItem ov iv v); release [v, ov, iv] []) := by intro _; rfl) : JG X (.Subscript o a pos) (dgIx fo fa) := pg_imp (pg_sub ho hi set_list ha) fun v σ H Q ⟨ρ, δ, S, d, r, rs, hv, h⟩ => by
  refine LTo.part r rs h fun ρ1 x S1 w H1 s1 r1 p1 rs1 h1 => LTo.part r1 rs1 h1 fun ρ2 y S2 u H2 s2 r2 p2 rs2 h2 => ?_
  cases x with
  | ref n =>
    cases y with
    | int k =>
      cases p2
      cases e : S2[n]? with
      | none => rw [show sIx (.ref n) (.int k) d S2 = none by unfold sIx; simp only [e]] at h2; exact h2.elim
      | some ob =>
        cases ob with
        | lst ds =>
          cases e2 : ixN ds.length k with
          | none => rw [show sIx (.ref n) (.int k) d S2 = none by unfold sIx; simp only [e, e2]] at h2; exact h2.elim
          | some j =>
            rw [show sIx (.ref n) (.int k) d S2 = some (S2.set n (.lst (ds.set j d))) by unfold sIx; simp only [e, e2]] at h2
            obtain ⟨q, vs, rfl, hq, hh, hvs⟩ := r2.lstAt (r1.vr s2 p1) e
            have hm := List.mem_of_getElem? hq
            have st : Step ρ2 H2 ρ2 (upd H2 q (.lst (vs.set j v))) := .write hm
            have hd := (r.vr (s1.trans s2) hv)
            refine ⟨q, vs, k, j, rfl, rfl, hh, by rw [← VRs.len hvs]; exact e2, h2 ρ2 σ _ st (r2.write hq ⟨_, upd_same, r2.vrs st (VRs.set hd j hvs)⟩) (r2.rs st rs2)⟩
        | dK l k' => rw [show sIx (.ref n) (.int k) d S2 = none by unfold sIx; simp only [e]] at h2; exact h2.elim
        | ins c k' => rw [show sIx (.ref n) (.int k) d S2 = none by unfold sIx; simp only [e]] at h2; exact h2.elim
    | _ => exact h2.elim
  | _ => exact h2.elim
/-! ### built-in functions by name -/
def CallS (X : Cx) (W : WX) (g : List D → Store → R D) (r : List V → Hp → VK → Prop) : Prop :=
  ∀ ρ H S σ Q xs vs, Rel (om X) ρ H S → VRs X.K ρ H xs vs → LG (om X) W (PVR (om X)) (g xs S) ρ H σ Q → r vs H Q
def dCall (g : List D → Store → R D) (fs : DA) : DE := fun δ S => (fs δ S).bind g
variable {id : String} {r : List V → Hp → VK → Prop} {g' : List D → Store → R D}
theorem je_callB (hc : CallR X (.builtin id) r) (hs : CallS X W g' r) (hg : Gl X x) (hm : X.mg x = none) (hv : bootBuiltins x = some (.builtin id)) (ha : JA X W (e :: es) fs) (hn : x ≠ "__name__" := by decide) (hdb : (x == ("__debug__" : Str)) = false := by decide)
    (he : starEach (e :: es) X.env = (false, eval e X.env) :: starEach es X.env := by rfl) (hpl : (backTo pos (starEach es X.env)).any (·.1) = false := by rfl) : JE X W (.Call (.Name x p) (e :: es) [] pos) (dCall g' fs) :=
  pe_imp (pe_callB hc hg hm hv ha hn hdb he hpl) fun σ H Q ⟨ρ, δ, S, rl, rs, h⟩ => ⟨ρ, δ, S, rl, rs, LG.bind h fun ρ1 x S1 v H1 s1 r1 p1 q1 => hs ρ1 H1 S1 σ Q x v r1 p1 q1⟩
theorem je_callT {T : String} (hc : CallR X (.type T) r) (hs : CallS X W g' r) (hg : Gl X x) (hm : X.mg x = none) (hv : bootBuiltins x = some (.type T)) (ha : JA X W (e :: es) fs) (hn : x ≠ "__name__" := by decide) (hdb : (x == ("__debug__" : Str)) = false := by decide)
    (he : starEach (e :: es) X.env = (false, eval e X.env) :: starEach es X.env := by rfl) (hpl : (backTo pos (starEach es X.env)).any (·.1) = false := by rfl) : JE X W (.Call (.Name x p) (e :: es) [] pos) (dCall g' fs) :=
  pe_imp (pe_callTy hc hg hm hv ha hn hdb he hpl) fun σ H Q ⟨ρ, δ, S, rl, rs, h⟩ => ⟨ρ, δ, S, rl, rs, LG.bind h fun ρ1 x S1 v H1 s1 r1 p1 q1 => hs ρ1 H1 S1 σ Q x v r1 p1 q1⟩
/-- what a function of one value asks -/
theorem vrs1 {K : PySem.W.Frag} {ρ : List Addr} {H : Hp} {d : D} {vs : List V} (h : VRs K ρ H [d] vs) : ∃ v, vs = [v] ∧ VR K ρ H d v := by
  obtain ⟨v, ws, rfl, h1, h2⟩ := h; cases h2; exact ⟨v, rfl, h1⟩
theorem vrs2 {K : PySem.W.Frag} {ρ : List Addr} {H : Hp} {d d' : D} {vs : List V} (h : VRs K ρ H [d, d'] vs) : ∃ v u, vs = [v, u] ∧ VR K ρ H d v ∧ VR K ρ H d' u := by
  obtain ⟨v, ws, rfl, h1, h2⟩ := h
  obtain ⟨u, rfl, h3⟩ := vrs1 h2
  exact ⟨v, u, rfl, h1, h3⟩
def gLen : List D → Store → R D := fun xs S => match xs with
  | [.str z] => if lenOk z.length = true then .ok (.int z.length) S else .bad
  | [x] => match items S x with
    | some ds => .ok (.int ds.length) S
    | none => .bad
  | _ => .bad
theorem cr_len : CallR X (.builtin "len") (fun xs H Q => ∃ x n, xs = [x] ∧ LenV X.K x H n ∧ Q (.int n) H) := call_len
theorem callS_len : CallS X W gLen (fun xs H Q => (∃ z, xs = [.str z] ∧ z.length ≤ sizeLine ∧ Q (.int z.length) H) ∨ ∃ p ys, xs = [.ref p] ∧ (SqL X.K H p ys ∨ SqT X.K H p ys) ∧ Q (.int ys.length) H) := by
  intro ρ H S σ Q xs vs r hx h
  match xs with
  | [] => exact h.elim
  | [x] =>
    obtain ⟨v, rfl, hv⟩ := vrs1 hx
    by_cases hz : ∃ z, x = .str z
    · obtain ⟨z, rfl⟩ := hz
      cases hv
      have h' : LG (om X) W (PVR (om X)) (if lenOk z.length = true then R.ok (D.int z.length) S else R.bad) ρ H σ Q := h
      by_cases hl : lenOk z.length = true
      · rw [if_pos hl] at h'; exact .inl ⟨z, rfl, lenOk_of hl, h' ρ _ H .refl r rfl⟩
      · rw [if_neg hl] at h'; exact h'.elim
    · have eq : gLen [x] S = (match items S x with | some ds => .ok (.int ds.length) S | none => .bad) := by
        unfold gLen
        cases x with
        | str z => exact absurd ⟨z, rfl⟩ hz
        | _ => rfl
      rw [eq] at h
      cases e : items S x with
      | none => rw [e] at h; exact h.elim
      | some ds =>
        rw [e] at h
        obtain ⟨p, vs, rfl, hq, hvs⟩ := items_ok r hv e
        exact .inr ⟨p, vs, rfl, hq, h ρ _ H .refl r (by show V.int _ = V.int _; rw [VRs.len hvs])⟩
  | x :: y :: t =>
    rw [show gLen (x :: y :: t) S = .bad by unfold gLen; cases x <;> rfl] at h
    exact h.elim
end
end DL
namespace DL
open PySem PySem.Spec L2

/-- nothing is let out -/
abbrev W0 : WX := fun _ _ _ _ => False
def R.nox {α : Type} (r : R α) : R α := match r with
  | .ok a S => .ok a S
  | _ => .bad
def wipeD (δ : DEnv) : List Nat → DEnv
  | [] => δ
  | v :: vs => (wipeD δ vs).set v none
theorem RelS.wipe {K : PySem.W.Frag} {ρ : List Addr} {H : Hp} {δ : DEnv} {σ : St} (h : RelS K ρ H δ σ) : ∀ vs : List Nat, RelS K ρ H (wipeD δ vs) (wipe σ vs)
  | [] => h
  | v :: vs => (RelS.wipe h vs).wipe1 v
theorem LE.nox {Ω : Wd} {f : DE} {δ : DEnv} {S : Store} {ρ : List Addr} {H : Hp} {σ : St} {Q : VK} {k : D → Store → R D} {Q' : VK} {σ' : St} {W : WX} (rl : Rel Ω ρ H S) (rs : RelS Ω.K ρ H δ σ) (h : LG Ω W (PVR Ω) ((f δ S).nox.bind k) ρ H σ' Q')
    (q : ∀ ρ1 x S1 v H1, Step ρ H ρ1 H1 → Rel Ω ρ1 H1 S1 → VR Ω.K ρ1 H1 x v → LG Ω W (PVR Ω) (k x S1) ρ1 H1 σ' Q' → Q v H1) : LE Ω W0 f σ H Q := by
  refine ⟨ρ, δ, S, rl, rs, ?_⟩
  cases e : f δ S with
  | ok d S' => rw [e] at h; exact fun ρ' v H' s r p => q ρ' d S' v H' s r p (LG.shift s h)
  | exc x S' => rw [e] at h; exact h.elim
  | bad => rw [e] at h; exact h.elim
section
variable {X : Cx} {W : WX} {pos p apos cpos : Pos} {a b c e o : Expr} {es : List Expr} {fa fb fc fo : DE} {fs : DA} {f g : DS} {x : Str}
/-! ### list comprehensions -/
def dLcL (tg : DG) (t : DT) (fe : DE) : List D → DEnv → Store → R (List D)
  | [], _, S => .ok [] S
  | x :: xs, δ, S => match tg x δ S with
    | .ok δ1 S1 => (t δ1 S1).nox.bind fun k S2 => if k = true then (fe δ1 S2).nox.bind fun y S3 => (dLcL tg t fe xs δ S3).bind fun ys S4 => .ok (y :: ys) S4 else dLcL tg t fe xs δ S2
    | _ => .bad
theorem R.nox_exc {α : Type} {r : R α} {x : Ex} {S : Store} : r.nox ≠ .exc x S := by cases r <;> intro h <;> cases h
theorem dLcL_nox {tg : DG} {t : DT} {fe : DE} : ∀ (xs : List D) (δ : DEnv) (S : Store) (y : Ex) (S' : Store), dLcL tg t fe xs δ S ≠ .exc y S'
  | [], δ, S, y, S' => by intro h; cases h
  | x :: xs, δ, S, y, S' => by
    unfold dLcL
    cases tg x δ S with
    | ok δ1 S1 =>
      show (t δ1 S1).nox.bind _ ≠ _
      cases t δ1 S1 with
      | ok k S2 =>
        cases k with
        | false => exact dLcL_nox xs δ S2 y S'
        | true =>
          show (fe δ1 S2).nox.bind _ ≠ _
          cases fe δ1 S2 with
          | ok z S3 =>
            show (dLcL tg t fe xs δ S3).bind _ ≠ _
            cases e : dLcL tg t fe xs δ S3 with
            | ok w S4 => intro h; cases h
            | exc a b => exact absurd e (dLcL_nox xs δ S3 a b)
            | bad => intro h; cases h
          | exc a b => intro h; cases h
          | bad => intro h; cases h
      | exc a b => intro h; cases h
      | bad => intro h; cases h
    | exc a b => intro h; cases h
    | bad => intro h; cases h
def dLc (fi : DA) (tg : DG) (t : DT) (fe : DE) (own : List Nat) : DE := fun δ S => (fi δ S).bind fun xs S1 => (dLcL tg t fe xs (wipeD δ own) S1).bind rLst
def dYes : DT := fun _ S => .ok true S
theorem R.bind_bind {α β γ : Type} (r : R α) (k : α → Store → R β) (l : β → Store → R γ) : (r.bind k).bind l = r.bind fun a S => (k a S).bind l := by cases r <;> rfl
/-! targets of a comprehension: its own slots alone are written -/
theorem wipe_get {σ : St} {i : Nat} : ∀ {vs : List Nat}, (wipe σ vs)[i]? = if i ∈ vs then (if i < σ.length then some none else none) else σ[i]?
  | [] => by simp [wipe]
  | v :: vs => by
    unfold wipe
    rw [List.getElem?_set, wipe_get (vs := vs), wipe_length]
    by_cases h : v = i
    · subst h; simp
    · rw [if_neg h]
      have : (i ∈ v :: vs) ↔ i ∈ vs := by simp [Ne.symm h]
      by_cases h2 : i ∈ vs
      · rw [if_pos h2, if_pos (this.mpr h2)]
      · rw [if_neg h2, if_neg (fun q => h2 (this.mp q))]
theorem wipe_set {σ : St} {i : Nat} {v : Option V} {vs : List Nat} (h : i ∈ vs) : wipe (σ.set i v) vs = wipe σ vs := by
  apply List.ext_getElem?
  intro k
  rw [wipe_get, wipe_get, List.length_set]
  by_cases hk : k ∈ vs
  · rw [if_pos hk, if_pos hk]
  · rw [if_neg hk, if_neg hk, List.getElem?_set_ne (fun q => hk (by rw [← q]; exact h))]
theorem wipe_wipe {σ : St} {vs : List Nat} : wipe (wipe σ vs) vs = wipe σ vs := by
  apply List.ext_getElem?
  intro k
  rw [wipe_get (σ := wipe σ vs), wipe_length]
  by_cases hk : k ∈ vs
  · rw [if_pos hk, wipe_get, if_pos hk]
  · rw [if_neg hk]
def LTow (Ω : Wd) (vs : List Nat) (σ : St) (r : R DEnv) (ρ : List Addr) (H : Hp) (Q : St → Hp → Prop) : Prop := match r with
  | .ok δ' S' => ∀ ρ' σ' H', Step ρ H ρ' H' → Rel Ω ρ' H' S' → RelS Ω.K ρ' H' δ' σ' → wipe σ' vs = wipe σ vs → Q σ' H'
  | _ => False
theorem LTow.shift {Ω : Wd} {vs : List Nat} {σ : St} {r : R DEnv} {ρ ρ1 : List Addr} {H H1 : Hp} {Q : St → Hp → Prop} (s : Step ρ H ρ1 H1) (h : LTow Ω vs σ r ρ H Q) : LTow Ω vs σ r ρ1 H1 Q := by
  cases r with
  | ok δ' S' => exact fun ρ' a b t => h ρ' a b (s.trans t)
  | exc x S' => exact h
  | bad => exact h
theorem LTow.slots {Ω : Wd} {vs : List Nat} {σ σ1 : St} {r : R DEnv} {ρ : List Addr} {H : Hp} {Q : St → Hp → Prop} (e : wipe σ1 vs = wipe σ vs) (h : LTow Ω vs σ r ρ H Q) : LTow Ω vs σ1 r ρ H Q := by
  cases r with
  | ok δ' S' => exact fun ρ' a b t r' rs' e' => h ρ' a b t r' rs' (e'.trans e)
  | exc x S' => exact h
  | bad => exact h
def LTgw (Ω : Wd) (vs : List Nat) (g : DG) : TG := fun v σ H Q => ∃ ρ δ S d, Rel Ω ρ H S ∧ RelS Ω.K ρ H δ σ ∧ VR Ω.K ρ H d v ∧ LTow Ω vs σ (g d δ S) ρ H Q
def LTgsw (Ω : Wd) (vs : List Nat) (g : DGs) : TGs := fun v σ H Q => ∃ ρ δ S d, Rel Ω ρ H S ∧ RelS Ω.K ρ H δ σ ∧ VRs Ω.K ρ H d v ∧ LTow Ω vs σ (g d δ S) ρ H Q
abbrev JGw (X : Cx) (vs : List Nat) (e : Expr) (g : DG) : Prop := PG X e (LTgw (om X) vs g)
abbrev JGsw (X : Cx) (vs : List Nat) (e : List Expr) (g : DGs) : Prop := PGs X e (LTgsw (om X) vs g)
theorem jgw_name (i : Nat) {vs : List Nat} {x : Str} (hN : X.N.Nodup) (hm : i ∈ vs := by decide) (hi : X.N[i]? = some x := by rfl) (hx : Loc X.env.scope x := by first | exact Or.inl rfl | exact Or.inr rfl) (hf : X.fn x = true ∨ X.env.scope.names.lookup x = some .local := by first | exact .inl rfl | exact .inr rfl) : JGw X vs (.Name x pos) (dgName i) :=
  pg_imp (pg_name hN hi hx hf) fun v σ H Q ⟨ρ, δ, S, d, r, rs, hv, h⟩ => h ρ _ H .refl r (rs.set hv i) (wipe_set hm)
theorem jgsw_nil {vs : List Nat} : JGsw X vs [] dgNil := pgs_imp pgs_nil fun v σ H Q ⟨ρ, δ, S, d, r, rs, hv, h⟩ => by
  cases d with
  | nil => cases hv; exact ⟨rfl, h ρ σ H .refl r rs rfl⟩
  | cons x xs => exact h.elim
theorem jgsw_cons {vs : List Nat} {g : DG} {gs : DGs} (h1 : JGw X vs e g) (h2 : JGsw X vs es gs) (hs : (assignEach (e :: es) X.env).map (·.2) = assign e X.env :: (assignEach es X.env).map (·.2) := by rfl) : JGsw X vs (e :: es) (dgCons g gs) := pgs_imp (pgs_cons h1 h2 hs) fun v σ H Q ⟨ρ, δ, S, d, r, rs, hv, h⟩ => by
  cases d with
  | nil => exact h.elim
  | cons x xs =>
    obtain ⟨y, ys, rfl, hy, hys⟩ := hv
    refine ⟨y, ys, rfl, ρ, δ, S, x, r, rs, hy, ?_⟩
    have h' : LTow (om X) vs σ ((g x δ S).bind fun δ1 S1 => gs xs δ1 S1) ρ H Q := h
    cases e1 : g x δ S with
    | ok δ1 S1 =>
      rw [e1] at h'
      exact fun ρ' σ' H' s r' rs' e' => ⟨ρ', δ1, S1, xs, r', rs', r.vrs s hys, LTow.slots e' (LTow.shift s h')⟩
    | exc x S' => rw [e1] at h'; exact h'
    | bad => rw [e1] at h'; exact h'
theorem jgw_tup {vs : List Nat} {k : Nat} {n : Nat} {gs : DGs} (hc : X.calm = true) (h : JGsw X vs es gs) (hl : (assignEach es X.env).length = n := by rfl) (hst : (assignEach es X.env).findIdx? (·.1) = none := by rfl) : JGw X vs (.Tuple es k pos) (dgTup n gs) := pg_imp (pg_tup hc h hl hst) fun v σ H Q ⟨ρ, δ, S, d, r, rs, hv, h⟩ => by
  cases d with
  | tup ds =>
    obtain ⟨a, vs', rfl, hs, hvs⟩ := hv
    have h' : LTow (om X) vs σ (if ds.length = n then gs ds δ S else .bad) ρ H Q := h
    by_cases hn : ds.length = n
    · rw [if_pos hn] at h'
      exact ⟨a, vs', rfl, hs, by rw [← VRs.len hvs, hn], ρ, δ, S, ds, r, rs, hvs, h'⟩
    · rw [if_neg hn] at h'
      exact h'.elim
  | _ => exact h.elim
theorem del_upd {H : Hp} {p : Addr} {o : HO} (h : H p = none) : del (upd H p o) p = H := by
  funext b
  by_cases e : b = p
  · rw [e, del_same, h]
  · rw [del_ne e, upd_ne e]
theorem Sub.del {H : Hp} {p : Addr} : Sub (del H p) H := fun a o h => (del_some h).2
/-- the state between two turns: D is the list that is made -/
def LcAt (Ω : Wd) (W : WX) (ρ1 : List Addr) (H1 : Hp) (p : Addr) (rest : Store → R (List D)) (σ : St) (Q : VK) (H : Hp) : Prop :=
  ∃ ρ' S' ys ws, H p = some (.lst ws) ∧ Step ρ1 H1 ρ' (del H p) ∧ Rel Ω ρ' (del H p) S' ∧ VRs Ω.K ρ' (del H p) ys ws ∧ LG Ω W (PVR Ω) ((rest S').bind fun zs S2 => rLst (ys ++ zs) S2) ρ' (del H p) σ Q
theorem je_lc {elt tg iter : Expr} {ifs : List Expr} {scope : Scope} {own : List (Str × Nat)} {fi : DA} {gt : DG} {t : DT} (hc : X.calm = true) (hN : X.N.Nodup) (hi : JI X W tg iter fi) (ok : BlkOk X.N X.env.scope scope own)
    (hg : ∀ (s : Shared) (H : Hp) (C : Addr) (cl : List (Str × Addr)) (fp : List Addr), PG (X.blk s H scope (compEnvC scope cl C X.env) fp) tg (LTgw (om X) (own.map (·.2)) gt))
    (ht : ∀ (s : Shared) (H : Hp) (C : Addr) (cl : List (Str × Addr)) (fp : List Addr), PTs (X.blk s H scope (compEnvC scope cl C X.env) fp) ifs (LT (om X) W0 t))
    (he : ∀ (s : Shared) (H : Hp) (C : Addr) (cl : List (Str × Addr)) (fp : List Addr), PE (X.blk s H scope (compEnvC scope cl C X.env) fp) elt (LE (om X) W0 fa)) (hs : ∀ x, foldedSetIterable iter X.env x = pure x := by intro _; rfl) :
    JE X W (.ListComp elt [⟨tg, iter, ifs, 0⟩] scope pos) (dLc fi gt t fa (own.map (·.2))) := by
  refine pe_imp (pe_lc hc hN hi ok (fun s H C cl fp => pg_hide (hg s H C cl fp)) (fun s H C cl fp => pts_hide (ht s H C cl fp)) (fun s H C cl fp => pe_hide (he s H C cl fp)) hs) fun σ H Q ⟨ρ, δ, S, r, rs, h⟩ => ?_
  refine ⟨ρ, δ, S, r, rs, LG.bind h fun ρ1 xs S1 J H1 s1 r1 wk q1 p hp => ?_⟩
  have rsw : RelS X.K ρ1 H1 (wipeD δ (own.map (·.2))) (wipe σ (own.map (·.2))) := (r.rs s1 rs).wipe _
  refine ⟨fun i m Hc => m = xs.length - i ∧ i ≤ xs.length ∧ LcAt (om X) W ρ1 H1 p (dLcL gt t fa (xs.drop i) (wipeD δ (own.map (·.2)))) σ Q Hc, ⟨xs.length, by simp, Nat.zero_le _, ρ1, S1, [], [], upd_same, by rw [del_upd hp]; exact .refl, by rw [del_upd hp]; exact r1, rfl, by rw [del_upd hp]; exact q1⟩, ?_⟩
  rintro i m Hc ⟨rfl, hi, ρ', S', ys, ws, hD, st, rl, hys, q⟩
  have hDn : (del Hc p) p = none := del_same
  by_cases hlt : i < xs.length
  · refine .inr ⟨wk.go i ρ' (del Hc p) Hc st .del hlt, fun H' => i + 1 ≤ xs.length ∧ LcAt (om X) W ρ1 H1 p (dLcL gt t fa (xs.drop (i + 1)) (wipeD δ (own.map (·.2)))) σ Q H', fun H' z => ⟨xs.length - (i + 1), by omega, rfl, z⟩, fun x H'' y => ?_⟩
    obtain ⟨G, sG, rG, vG, eG, kG⟩ := wk.yld i xs[i] x ρ' (del Hc p) Hc H'' S' st rl .del (List.getElem?_eq_getElem hlt) y
    obtain ⟨eD, eD2⟩ := kG p (by rw [hD]; intro z; cases z)
    have hG : G = del H'' p := funext fun a => by
      by_cases ha : a = p
      · rw [ha, eD2, hDn, del_same]
      · rw [eG a (del_ne ha), del_ne ha]
    subst hG
    rw [List.drop_eq_getElem_cons hlt] at q
    have q0 : LG (om X) W (PVR (om X)) ((dLcL gt t fa (xs[i] :: xs.drop (i + 1)) (wipeD δ (own.map (·.2))) S').bind fun zs S2 => rLst (ys ++ zs) S2) ρ' (del H'' p) σ Q := LG.shift sG q
    refine ⟨p, ws, eD.trans hD, ρ', wipeD δ (own.map (·.2)), S', xs[i], rG, rl.rs sG (r1.rs st rsw), vG, ?_⟩
    unfold dLcL at q0
    cases e1 : gt xs[i] (wipeD δ (own.map (·.2))) S' with
    | exc a b => rw [e1] at q0; exact q0.elim
    | bad => rw [e1] at q0; exact q0.elim
    | ok δ1 S2 =>
      rw [e1] at q0
      refine fun ρ2 σ2 H2 s2 r2 rs2 ew hn2 => ⟨by rw [ew, wipe_wipe], p, ws, upd_same, ?_⟩
      rw [del_upd hn2]
      refine ⟨ρ2, δ1, S2, r2, rs2, ?_⟩
      have q1 : LG (om X) W (PVR (om X)) (((t δ1 S2).nox.bind fun k S3 => if k = true then (fa δ1 S3).nox.bind fun y S4 => (dLcL gt t fa (xs.drop (i + 1)) (wipeD δ (own.map (·.2))) S4).bind fun ys S5 => .ok (y :: ys) S5 else dLcL gt t fa (xs.drop (i + 1)) (wipeD δ (own.map (·.2))) S3).bind fun zs S6 => rLst (ys ++ zs) S6) ρ2 H2 σ Q := LG.shift s2 q0
      cases e2 : t δ1 S2 with
      | exc a b => rw [e2] at q1; exact q1.elim
      | bad => rw [e2] at q1; exact q1.elim
      | ok k S3 =>
        rw [e2] at q1
        refine fun ρ3 b H3 s3 r3 eb hn3 => ?_
        cases eb
        have q2 := LG.shift s3 q1
        have st3 : Step ρ1 H1 ρ3 H3 := ((st.trans sG).trans s2).trans s3
        have hys3 : VRs X.K ρ3 H3 ys ws := r2.vrs s3 (rG.vrs s2 (rl.vrs sG hys))
        cases k with
        | false =>
          rw [if_neg (by intro z; cases z)]
          refine ⟨hlt, ρ3, S3, ys, ws, upd_same, ?_⟩
          rw [del_upd hn3]
          exact ⟨st3, r3, hys3, q2⟩
        | true =>
          rw [if_pos rfl]
          refine ⟨p, ws, upd_same, ?_⟩
          rw [del_upd hn3]
          have q3 : LG (om X) W (PVR (om X)) ((fa δ1 S3).nox.bind fun y S4 => (dLcL gt t fa (xs.drop (i + 1)) (wipeD δ (own.map (·.2))) S4).bind fun zs S5 => rLst (ys ++ y :: zs) S5) ρ3 H3 σ Q := by
            have e4 : (((fa δ1 S3).nox.bind fun y S3 => (dLcL gt t fa (xs.drop (i + 1)) (wipeD δ (own.map (·.2))) S3).bind fun ys S4 => R.ok (y :: ys) S4).bind fun zs S2 => rLst (ys ++ zs) S2) = ((fa δ1 S3).nox.bind fun y S4 => (dLcL gt t fa (xs.drop (i + 1)) (wipeD δ (own.map (·.2))) S4).bind fun zs S5 => rLst (ys ++ y :: zs) S5) := by
              rw [R.bind_bind]
              congr 1; funext y S4
              rw [R.bind_bind]
              rfl
            rw [← e4]; exact q2
          refine LE.nox r3 (r2.rs s3 rs2) q3 fun ρ4 y S4 v H4 s4 r4 p4 q4 hn4 => ?_
          have hlen : ws.length < sizeLine := by
            cases e5 : dLcL gt t fa (xs.drop (i + 1)) (wipeD δ (own.map (·.2))) S4 with
            | exc a b => exact absurd e5 (dLcL_nox _ _ _ _ _)
            | bad => rw [e5] at q4; exact q4.elim
            | ok zs S5 =>
              rw [e5] at q4
              have q5 : LG (om X) W (PVR (om X)) (rLst (ys ++ y :: zs) S5) ρ4 H4 σ Q := q4
              by_cases hl : lenOk (ys ++ y :: zs).length = true
              · have := lenOk_of hl
                rw [← VRs.len hys]
                simp at this; omega
              · rw [show rLst (ys ++ y :: zs) S5 = .bad from if_neg hl] at q5
                exact q5.elim
          refine ⟨ws, upd_same, hlen, hlt, ρ4, S4, ys ++ [y], ws ++ [v], upd_same, ?_⟩
          rw [upd_upd, del_upd hn4]
          refine ⟨st3.trans s4, r4, VRs.append (r3.vrs s4 hys3) ⟨v, [], rfl, p4, rfl⟩, ?_⟩
          simpa using q4
  · have e : i = xs.length := by omega
    subst e
    rw [List.drop_length] at q
    have q' : LG (om X) W (PVR (om X)) (rLst (ys ++ []) S') ρ' (del Hc p) σ Q := q
    rw [List.append_nil] at q'
    refine .inl ⟨wk.stop ρ' (del Hc p) Hc st .del, ?_⟩
    have := (LG.lst rl hys q').2 p hDn
    rw [upd_del hD] at this
    exact this
end
end DL
namespace DL
open PySem PySem.Spec L2

mutual
def D.under (n : Nat) : D → Bool
  | .ref k => decide (k < n)
  | .tup ds => D.unders n ds
  | .lst ds => D.unders n ds
  | _ => true
def D.unders (n : Nat) : List D → Bool
  | [] => true
  | d :: ds => D.under n d && D.unders n ds
end
def underF (n : Nat) {κ : Type} : List (κ × D) → Bool
  | [] => true
  | (_, d) :: r => d.under n && underF n r
def O.under (n : Nat) : O → Bool
  | .lst ds => D.unders n ds
  | .dK _ kvs => underF n kvs
  | .ins _ fs => underF n fs
section
variable {K : PySem.W.Frag} {ρ ρ' : List Addr} {H : Hp}
mutual
theorem VR.shrink (hp : ρ <+: ρ') : ∀ (d : D) (v : V), D.under ρ.length d = true → VR K ρ' H d v → VR K ρ H d v
  | .non, v, b, h => h
  | .bl _, v, b, h => h
  | .int _, v, b, h => h
  | .str _, v, b, h => h
  | .ref k, v, b, ⟨a, e, h⟩ => ⟨a, by
      have hk : k < ρ.length := of_decide_eq_true b
      obtain ⟨t, rfl⟩ := hp
      rw [List.getElem?_append_left hk] at e; exact e, h⟩
  | .tup ds, v, b, ⟨a, vs, e, h, r⟩ => ⟨a, vs, e, h, VRs.shrink hp ds vs b r⟩
  | .lst ds, v, b, ⟨a, vs, e, h, n, r⟩ => ⟨a, vs, e, h, fun m => n (hp.subset m), VRs.shrink hp ds vs b r⟩
theorem VRs.shrink (hp : ρ <+: ρ') : ∀ (ds : List D) (vs : List V), D.unders ρ.length ds = true → VRs K ρ' H ds vs → VRs K ρ H ds vs
  | [], vs, b, h => h
  | d :: ds, vs, b, ⟨v, ws, e, h, r⟩ => by
    have b' : (D.under ρ.length d && D.unders ρ.length ds) = true := b
    rw [Bool.and_eq_true] at b'
    exact ⟨v, ws, e, VR.shrink hp d v b'.1 h, VRs.shrink hp ds ws b'.2 r⟩
end
theorem KVR.shrink (hp : ρ <+: ρ') {κ : Type} : ∀ (ds : List (κ × D)) (vs : List (κ × V)), underF ρ.length ds = true → KVR K ρ' H ds vs → KVR K ρ H ds vs
  | [], vs, b, h => h
  | (k, d) :: ds, vs, b, ⟨v, ws, e, h, r⟩ => by
    have b' : (D.under ρ.length d && underF ρ.length ds) = true := b
    rw [Bool.and_eq_true] at b'
    exact ⟨v, ws, e, VR.shrink hp d v b'.1 h, KVR.shrink hp ds ws b'.2 r⟩
theorem OR.shrink {Ω : Wd} (hp : ρ <+: ρ') {a : Addr} : ∀ (o : O), O.under ρ.length o = true → OR Ω ρ' H a o → OR Ω ρ H a o
  | .lst ds, b, ⟨vs, h, r⟩ => ⟨vs, h, VRs.shrink hp ds vs b r⟩
  | .dK lk kvs, b, ⟨kv, r, h⟩ => ⟨kv, KVR.shrink hp kvs kv b r, h⟩
  | .ins c fs, b, ⟨C, dx, fv, hc, h, r⟩ => ⟨C, dx, fv, hc, h, KVR.shrink hp fs fv b r⟩
theorem Rel.shrink {Ω : Wd} {S' : Store} (hp : ρ <+: ρ') (r : Rel Ω ρ' H S') (b : (S'.take ρ.length).all (O.under ρ.length) = true) : Rel Ω ρ H (S'.take ρ.length) := by
  have hl : ρ.length ≤ S'.length := by rw [← r.len]; exact hp.length_le
  refine ⟨by rw [List.length_take]; omega, hp.sublist.nodup r.nd, fun n a o e1 e2 => ?_⟩
  have hn : n < ρ.length := (List.getElem?_eq_some_iff.mp e1).1
  have e2' : S'[n]? = some o := by rw [List.getElem?_take_of_lt hn] at e2; exact e2
  have e1' : ρ'[n]? = some a := by
    obtain ⟨t, rfl⟩ := hp
    rw [List.getElem?_append_left hn]; exact e1
  exact OR.shrink hp o (List.all_eq_true.mp b o (List.mem_of_getElem? e2)) (r.ob n a o e1' e2')
theorem Step.shrink {H0 : Hp} (s : Step ρ H0 ρ' H) : Step ρ H0 ρ H := ⟨List.prefix_rfl, s.keep, fun _ m n => absurd m n⟩
end
/-- a list made within is handed out as a value -/
def freeze (n : Nat) (S : Store) (d : D) : D := match d with
  | .ref k => if k < n then d else match S[k]? with
    | some (.lst xs) => .lst xs
    | _ => d
  | _ => d
/-- behind a def: its own objects are forgotten where nothing points at them -/
def settle (n : Nat) (d : D) (S' : Store) : R D := if S'.length = n then .ok d S' else
  if ((freeze n S' d).under n && (S'.take n).all (O.under n)) = true then .ok (freeze n S' d) (S'.take n) else .ok d S'
def settleX (n : Nat) (x : Ex) (S' : Store) : R D := if S'.length = n then .exc x S' else
  if (underF n x.fs && (S'.take n).all (O.under n)) = true then .exc x (S'.take n) else .exc x S'
theorem freeze_ok {Ω : Wd} {ρ ρ' : List Addr} {H : Hp} {S : Store} {d : D} {v : V} (hp : ρ <+: ρ') (r : Rel Ω ρ' H S) (b : (freeze ρ.length S d).under ρ.length = true) (h : VR Ω.K ρ' H d v) : VR Ω.K ρ H (freeze ρ.length S d) v := by
  cases d with
  | ref k =>
    by_cases hk : k < ρ.length
    · have e : freeze ρ.length S (.ref k) = .ref k := if_pos hk
      rw [e] at b ⊢
      exact VR.shrink hp _ v b h
    · have e : freeze ρ.length S (.ref k) = (match S[k]? with | some (.lst xs) => .lst xs | _ => .ref k) := if_neg hk
      rw [e] at b ⊢
      cases q : S[k]? with
      | none => rw [q] at b; exact absurd (of_decide_eq_true b) hk
      | some o =>
        rw [q] at b
        cases o with
        | lst xs =>
          obtain ⟨a, vs, rfl, h1, h2, h3⟩ := r.lstAt h q
          refine ⟨a, vs, rfl, .inl h2, fun m => ?_, VRs.shrink hp xs vs b h3⟩
          obtain ⟨j, hj⟩ := List.getElem?_of_mem m
          obtain ⟨t, rfl⟩ := hp
          have hj' : (ρ ++ t)[j]? = some a := by rw [List.getElem?_append_left (List.getElem?_eq_some_iff.mp hj).1]; exact hj
          have := (List.getElem?_inj (List.getElem?_eq_some_iff.mp hj').1 r.nd).mp (hj'.trans h1.symm)
          have := (List.getElem?_eq_some_iff.mp hj).1
          omega
        | dK l kv => exact absurd (of_decide_eq_true b) hk
        | ins c f => exact absurd (of_decide_eq_true b) hk
  | tup ds => exact VR.shrink hp _ v b h
  | lst ds => exact VR.shrink hp _ v b h
  | non => exact h
  | bl _ => exact h
  | int _ => exact h
  | str _ => exact h
/-- a def: np parameters, N names, its body -/
def runFn (np N : Nat) (b : DS) : DM := fun ds S => if ds.length = np then match b (ds.map some ++ List.replicate (N - ds.length) none) S with
  | .nx _ S' => settle S.length .non S'
  | .rt d S' => settle S.length d S'
  | .exc x _ S' => settleX S.length x S'
  | _ => .bad
  else .bad
def spOf (Ω : Wd) (np : Nat) (m : DM) : Sp := fun vs H Q E => ∃ ρ ds S, Rel Ω ρ H S ∧ VRs Ω.K ρ H ds vs ∧ ds.length = np ∧ LG Ω (fun cls dd _ H' => E cls dd H') (PVR Ω) (m ds S) ρ H [] Q
theorem LG.settle {Ω : Wd} {W : WX} {ρ ρ' : List Addr} {H H' : Hp} {S' : Store} {d : D} {v : V} {σ : St} {Q : VK} (s : Step ρ H ρ' H') (r : Rel Ω ρ' H' S') (h : VR Ω.K ρ' H' d v) (q : LG Ω W (PVR Ω) (settle ρ.length d S') ρ H σ Q) : Q v H' := by
  unfold DL.settle at q
  by_cases e : S'.length = ρ.length
  · rw [if_pos e] at q; exact q ρ' v H' s r h
  · rw [if_neg e] at q
    by_cases b : ((freeze ρ.length S' d).under ρ.length && (S'.take ρ.length).all (O.under ρ.length)) = true
    · rw [if_pos b] at q
      rw [Bool.and_eq_true] at b
      exact q ρ v H' s.shrink (r.shrink s.pre b.2) (freeze_ok s.pre r b.1 h)
    · rw [if_neg b] at q; exact q ρ' v H' s r h
theorem LG.settleX {Ω : Wd} {W : WX} {ρ ρ' : List Addr} {H H' : Hp} {S' : Store} {x : Ex} {cls : Value} {dd : Option Addr} {σ : St} {Q : VK} (s : Step ρ H ρ' H') (r : Rel Ω ρ' H' S') (h : XR Ω ρ' H' x cls dd) (q : LG Ω W (PVR Ω) (settleX ρ.length x S') ρ H σ Q) : W cls dd σ H' := by
  unfold DL.settleX at q
  by_cases e : S'.length = ρ.length
  · rw [if_pos e] at q; exact q ρ' cls dd H' s r h
  · rw [if_neg e] at q
    by_cases b : (underF ρ.length x.fs && (S'.take ρ.length).all (O.under ρ.length)) = true
    · rw [if_pos b] at q
      rw [Bool.and_eq_true] at b
      obtain ⟨C, d, fv, h1, h2, h3, h4, h5, h6⟩ := h
      exact q ρ cls dd H' s.shrink (r.shrink s.pre b.2) ⟨C, d, fv, h1, h2, h3, h4, fun m => h5 (s.pre.subset m), KVR.shrink s.pre x.fs fv b.1 h6⟩
    · rw [if_neg b] at q; exact q ρ' cls dd H' s r h
theorem RelS.blank {K : PySem.W.Frag} {ρ : List Addr} {H : Hp} : ∀ n : Nat, RelS K ρ H (List.replicate n none) (List.replicate n none)
  | 0 => rfl
  | n + 1 => ⟨none, List.replicate n none, rfl, (fun x h => by cases h), RelS.blank n⟩
theorem RelS.start {K : PySem.W.Frag} {ρ : List Addr} {H : Hp} {n : Nat} : ∀ {ds : List D} {vs : List V}, VRs K ρ H ds vs → RelS K ρ H (ds.map some ++ List.replicate n none) (vs.map some ++ List.replicate n none)
  | [], _, h => by cases h; exact RelS.blank n
  | d :: ds, _, ⟨v, ws, e, h, r⟩ => by
    subst e
    exact ⟨some v, _, rfl, fun x hx => ⟨v, rfl, by cases hx; exact h⟩, RelS.start r⟩
section
variable {P : Program} {w : World} {K : PySem.W.Frag} {mg : Str → Option Value} {base : Heap}
/-- a def does what its body's words say -/
theorem fn_ok {x qual : Str} {st : Stmt} {f : Addr} {fd : FuncData} {N ps : List Str} {k : Nat} {b : DS} {np n : Nat} (F : Fun K x qual st f fd) (sc : FnScope N ps (defScope st)) (hp : ps.length = np) (hn : N.length = n)
    (hbody : ∀ (X : Cx) (W : WX), X.K = K → X.mg = mg → X.prog = P → X.w = w → X.base = base → X.N = N → X.env.scope = defScope st → X.fn = (fun _ => true) → X.calm = true → X.stack = X.env :: X.outer → X.env.frame = some X.env.locals → X.ex = [] → Room k X.A → Takes X W → PassesOwn (model X.prog X.w) X.A X.env X.xe → JSs X W (defBody st) b) :
    FnOk P w K mg base (L2.CX P w) (k + 1) f fd ps (spOf ⟨K, mg⟩ np (runFn np n b)) := by
  refine F.okX sc (fun vs H Q E h => ?_) (fun cdv A outer s H vs Q E hr h => ?_)
  · obtain ⟨ρ, ds, S, r, hv, hl, _⟩ := h
    rw [← VRs.len hv, hl, hp]
  · obtain ⟨ρ, ds, S, r, hv, hl, q⟩ := h
    refine ⟨_, hbody (cxOf (L2.CX P w) P w K mg base N qual (defScope st) f cdv A outer s H E) (fun cls d _ H => E cls d H) rfl rfl rfl rfl rfl rfl rfl rfl rfl rfl rfl rfl hr (takes_of rfl rfl rfl rfl) (passes_of rfl), ?_⟩
    refine ⟨ρ, ds.map some ++ List.replicate (n - ds.length) none, S, r, ?_, ?_⟩
    · have e : n - ds.length = N.length - vs.length := by rw [hn, VRs.len hv]
      rw [e]
      exact RelS.start hv
    · unfold runFn at q
      rw [if_pos hl] at q
      rw [← r.len] at q
      cases e : b (ds.map some ++ List.replicate (n - ds.length) none) S with
      | nx δ S' => rw [e] at q; exact fun ρ' σ' H' s' r' rs' => LG.settle s' r' (d := .non) (v := .non) rfl q
      | rt d S' => rw [e] at q; exact fun ρ' v H' s' r' hv' => LG.settle s' r' hv' q
      | exc x δ S' => rw [e] at q; exact fun ρ' cls dd σ' H' s' r' rs' hx => LG.settleX s' r' hx q
      | bk δ S' => rw [e] at q; exact q.elim
      | ct δ S' => rw [e] at q; exact q.elim
      | bad => rw [e] at q; exact q.elim
/-- nothing is said -/
theorem fn_bad {f : Addr} {fd : FuncData} {ps : List Str} {k np : Nat} {Ω : Wd} : FnOk P w K mg base (L2.CX P w) k f fd ps (spOf Ω np fun _ _ => .bad) :=
  ⟨fun vs H Q E ⟨ρ, ds, S, r, hv, hl, q⟩ => q.elim, fun A outer s H args us vs Q E hr he hb hv ⟨ρ, ds, S, r, hv', hl, q⟩ => q.elim⟩
end
section
variable {X : Cx} {W : WX} {pos p apos cpos : Pos} {a b c e o : Expr} {es : List Expr} {fa fb fc fo : DE} {fs : DA} {f g : DS} {x : Str}
theorem je_call {k : Nat} {fn : Addr} {fd : FuncData} {ps : List Str} {np : Nat} {m : DM} (F : FnOk X.prog X.w X.K X.mg X.base (L2.CX X.prog X.w) k fn fd ps (spOf (om X) np m)) (hr : Room k X.A) (hm : X.mg x = some (.ref fn)) (hk : PySem.W.keepIn X.K (.ref fn) = true) (hb : Binds X.K fd ps [])
    (tk : Takes X W) (ha : JA X W (e :: es) fs) (hl : ps.length = np) (hg : Gl X x) (hdb : (x == ("__debug__" : Str)) = false := by decide) (he : starEach (e :: es) X.env = (false, eval e X.env) :: starEach es X.env := by rfl) (hpl : (backTo pos (starEach es X.env)).any (·.1) = false := by rfl) :
    JE X W (.Call (.Name x p) (e :: es) [] pos) (dCall (fun ds S => if ds.length = np then m ds S else .bad) fs) :=
  pe_imp (pe_callSD (E := fun σ cls dd H => W cls dd σ H) F hr hg hm hk hb .nil (fun σ => passAt tk σ) ha hdb he hpl) fun σ H Q ⟨ρ, δ, S, rl, rs, h⟩ => by
    refine ⟨ρ, δ, S, rl, rs, LG.bind h fun ρ1 ds S1 vs H1 s1 r1 p1 q1 => ?_⟩
    rw [List.append_nil]
    by_cases hn : ds.length = np
    · rw [if_pos hn] at q1
      refine ⟨ρ1, ds, S1, r1, p1, hn, ?_⟩
      cases e : m ds S1 with
      | ok d S' => rw [e] at q1; exact q1
      | exc y S' => rw [e] at q1; exact q1
      | bad => rw [e] at q1; exact q1.elim
    · rw [if_neg hn] at q1; exact q1.elim
end
end DL
namespace DL
open PySem PySem.Spec L2

section
variable {X : Cx} {W : WX} {pos p p2 apos cpos : Pos} {a b c e o : Expr} {es : List Expr} {fa fb fc fo : DE} {fs : DA} {f g : DS} {x : Str}
theorem CallR.or {f : Value} {r r' : List V → Hp → VK → Prop} (h : CallR X f r) (h' : CallR X f r') : CallR X f (fun xs H Q => r xs H Q ∨ r' xs H Q) := by
  intro pins s σ H xs us Q I rv q
  rcases q with q | q
  · exact h pins s σ H xs us Q I rv q
  · exact h' pins s σ H xs us Q I rv q
theorem callR_len : CallR X (.builtin "len") (fun xs H Q => (∃ z, xs = [.str z] ∧ z.length ≤ sizeLine ∧ Q (.int z.length) H) ∨ ∃ p ys, xs = [.ref p] ∧ (SqL X.K H p ys ∨ SqT X.K H p ys) ∧ Q (.int ys.length) H) := CallR.or call_len_str call_len_seq
theorem je_len (hm : X.mg "len" = none) (ha : JA X W (e :: es) fs) (he : starEach (e :: es) X.env = (false, eval e X.env) :: starEach es X.env := by rfl) (hpl : (backTo pos (starEach es X.env)).any (·.1) = false := by rfl) (hg : Gl X "len" := by rfl) :
    JE X W (.Call (.Name "len" p) (e :: es) [] pos) (dCall gLen fs) := je_callB callR_len callS_len hg hm boot_len ha (by decide) (by decide) he hpl
/-! abs, int, str -/
def gAbs : DM := fun xs S => match xs with
  | [.int i] => .ok (.int (if i < 0 then -i else i)) S
  | _ => .bad
theorem bad1 {xs : List D} (h : ∀ x, xs ≠ [x]) {g : DM} {S : Store} (hg : ∀ xs, (∀ x, xs ≠ [x]) → g xs S = .bad) : g xs S = .bad := hg xs h
theorem callS_abs : CallS X W gAbs (fun xs H Q => ∃ i, xs = [.int i] ∧ Q (.int (if i < 0 then -i else i)) H) := by
  intro ρ H S σ Q xs vs r hx h
  match xs with
  | [.int i] => obtain ⟨v, rfl, hv⟩ := vrs1 hx; cases hv; exact ⟨i, rfl, h ρ _ H .refl r rfl⟩
  | [] => exact h.elim
  | [.non] => exact h.elim
  | [.bl _] => exact h.elim
  | [.str _] => exact h.elim
  | [.ref _] => exact h.elim
  | [.tup _] => exact h.elim
  | [.lst _] => exact h.elim
  | a :: b :: t =>
    rw [show gAbs (a :: b :: t) S = .bad by unfold gAbs; cases a <;> rfl] at h
    exact h.elim
theorem je_abs (hm : X.mg "abs" = none) (ha : JA X W (e :: es) fs) (he : starEach (e :: es) X.env = (false, eval e X.env) :: starEach es X.env := by rfl) (hpl : (backTo pos (starEach es X.env)).any (·.1) = false := by rfl) (hg : Gl X "abs" := by rfl) :
    JE X W (.Call (.Name "abs" p) (e :: es) [] pos) (dCall gAbs fs) := je_callB call_abs callS_abs hg hm (by decide +kernel) ha (by decide) (by decide) he hpl
def gInt : DM := fun xs S => match xs with
  | [.int i] => .ok (.int i) S
  | [.bl k] => .ok (.int (if k then 1 else 0)) S
  | [.str z] => match PySem.intText? z with
    | some n => if z.length ≤ 640 then .ok (.int n) S else .bad
    | none => .bad
  | _ => .bad
theorem callS_int : CallS X W gInt (fun xs H Q => ((∃ i, xs = [.int i] ∧ Q (.int i) H) ∨ ∃ k, xs = [.bl k] ∧ Q (.int (if k then 1 else 0)) H) ∨ ∃ a n, xs = [.str a] ∧ PySem.intText? a = some n ∧ a.length ≤ 640 ∧ Q (.int n) H) := by
  intro ρ H S σ Q xs vs r hx h
  match xs with
  | [.int i] => obtain ⟨v, rfl, hv⟩ := vrs1 hx; cases hv; exact .inl (.inl ⟨i, rfl, h ρ _ H .refl r rfl⟩)
  | [.bl i] => obtain ⟨v, rfl, hv⟩ := vrs1 hx; cases hv; exact .inl (.inr ⟨i, rfl, h ρ _ H .refl r rfl⟩)
  | [.str z] =>
    obtain ⟨v, rfl, hv⟩ := vrs1 hx; cases hv
    have h' : LG (om X) W (PVR (om X)) (match PySem.intText? z with | some n => if z.length ≤ 640 then .ok (.int n) S else .bad | none => .bad) ρ H σ Q := h
    cases q : PySem.intText? z with
    | none => rw [q] at h'; exact h'.elim
    | some n =>
      rw [q] at h'
      have h2 : LG (om X) W (PVR (om X)) (if z.length ≤ 640 then .ok (.int n) S else .bad) ρ H σ Q := h'
      by_cases hl : z.length ≤ 640
      · rw [if_pos hl] at h2; exact .inr ⟨z, n, rfl, q, hl, h2 ρ _ H .refl r rfl⟩
      · rw [if_neg hl] at h2; exact h2.elim
  | [] => exact h.elim
  | [.non] => exact h.elim
  | [.ref _] => exact h.elim
  | [.tup _] => exact h.elim
  | [.lst _] => exact h.elim
  | a :: b :: t =>
    rw [show gInt (a :: b :: t) S = .bad by unfold gInt; cases a <;> rfl] at h
    exact h.elim
theorem je_intF (hm : X.mg "int" = none) (ha : JA X W (e :: es) fs) (he : starEach (e :: es) X.env = (false, eval e X.env) :: starEach es X.env := by rfl) (hpl : (backTo pos (starEach es X.env)).any (·.1) = false := by rfl) (hg : Gl X "int" := by rfl) :
    JE X W (.Call (.Name "int" p) (e :: es) [] pos) (dCall gInt fs) := je_callT (CallR.or call_int1 call_int_str) callS_int hg hm (by decide +kernel) ha (by decide) (by decide) he hpl
/-! list, tuple of what is told as a value -/
def gList : DM := fun xs S => match xs with
  | [x] => match items S x with
    | some ds => if lenOk ds.length = true then .ok (.lst ds) S else .bad
    | none => .bad
  | _ => .bad
def gTuple : DM := fun xs S => match xs with
  | [.tup ds] => .ok (.tup ds) S
  | [x] => match items S x with
    | some ds => if lenOk ds.length = true then .ok (.tup ds) S else .bad
    | none => .bad
  | _ => .bad
theorem callS_list : CallS X W gList (fun xs H Q => ∃ p ys, xs = [.ref p] ∧ (SqL X.K H p ys ∨ SqT X.K H p ys) ∧ ∀ l, H l = none → Q (.ref l) (upd H l (.lst ys))) := by
  intro ρ H S σ Q xs vs r hx h
  match xs with
  | [] => exact h.elim
  | a :: b :: t => exact h.elim
  | [x] =>
    obtain ⟨v, rfl, hv⟩ := vrs1 hx
    have h' : LG (om X) W (PVR (om X)) (match items S x with | some ds => rLst ds S | none => .bad) ρ H σ Q := h
    cases q : items S x with
    | none => rw [q] at h'; exact h'.elim
    | some ds =>
      rw [q] at h'
      obtain ⟨a, ws, rfl, hq, hw⟩ := items_ok r hv q
      exact ⟨a, ws, rfl, hq, (LG.lst r hw h').2⟩
theorem callS_tuple : CallS X W gTuple (fun xs H Q => ∃ p ys, xs = [.ref p] ∧ ((SqL X.K H p ys ∧ ∀ l, H l = none → Q (.ref l) (upd H l (.tup ys))) ∨ (SqT X.K H p ys ∧ Q (.ref p) H))) := by
  intro ρ H S σ Q xs vs r hx h
  match xs with
  | [] => exact h.elim
  | a :: b :: t =>
    rw [show gTuple (a :: b :: t) S = .bad by unfold gTuple; cases a <;> rfl] at h
    exact h.elim
  | [.tup ds] =>
    obtain ⟨v, rfl, hv⟩ := vrs1 hx
    obtain ⟨a, ws, rfl, hq, hw⟩ := id hv
    exact ⟨a, ws, rfl, .inr ⟨hq, h ρ _ H .refl r hv⟩⟩
  | [.lst ds] =>
    obtain ⟨v, rfl, hv⟩ := vrs1 hx
    obtain ⟨a, ws, rfl, hq, hn, hw⟩ := id hv
    exact ⟨a, ws, rfl, .inl ⟨.inl hq, (LG.tup r hw h).2⟩⟩
  | [.ref n] =>
    obtain ⟨v, rfl, hv⟩ := vrs1 hx
    have h' : LG (om X) W (PVR (om X)) (match items S (.ref n) with | some ds => rTup ds S | none => .bad) ρ H σ Q := h
    cases q : S[n]? with
    | none => rw [show items S (.ref n) = none by simp only [items, q]] at h'; exact h'.elim
    | some ob =>
      cases ob with
      | lst ds =>
        rw [show items S (.ref n) = some ds by simp only [items, q]] at h'
        obtain ⟨a, ws, rfl, _, hq, hw⟩ := r.lstAt hv q
        exact ⟨a, ws, rfl, .inl ⟨.of hq, (LG.tup r hw h').2⟩⟩
      | dK _ _ => rw [show items S (.ref n) = none by simp only [items, q]] at h'; exact h'.elim
      | ins _ _ => rw [show items S (.ref n) = none by simp only [items, q]] at h'; exact h'.elim
  | [.non] => exact h.elim
  | [.bl _] => exact h.elim
  | [.int _] => exact h.elim
  | [.str _] => exact h.elim
theorem je_list (hm : X.mg "list" = none) (ha : JA X W (e :: es) fs) (he : starEach (e :: es) X.env = (false, eval e X.env) :: starEach es X.env := by rfl) (hpl : (backTo pos (starEach es X.env)).any (·.1) = false := by rfl) (hg : Gl X "list" := by rfl) :
    JE X W (.Call (.Name "list" p) (e :: es) [] pos) (dCall gList fs) := je_callT call_list_of callS_list hg hm (by decide +kernel) ha (by decide) (by decide) he hpl
theorem je_tuple (hm : X.mg "tuple" = none) (ha : JA X W (e :: es) fs) (he : starEach (e :: es) X.env = (false, eval e X.env) :: starEach es X.env := by rfl) (hpl : (backTo pos (starEach es X.env)).any (·.1) = false := by rfl) (hg : Gl X "tuple" := by rfl) :
    JE X W (.Call (.Name "tuple" p) (e :: es) [] pos) (dCall gTuple fs) := je_callT call_tuple_of callS_tuple hg hm (by decide +kernel) ha (by decide) (by decide) he hpl
/-! any, all of a list of truth values -/
def bools : List D → Option (List Bool)
  | [] => some []
  | .bl b :: ds => (bools ds).map (b :: ·)
  | _ => none
theorem bools_ok {K : PySem.W.Frag} {ρ : List Addr} {H : Hp} : ∀ {ds : List D} {bs : List Bool} {vs : List V}, bools ds = some bs → VRs K ρ H ds vs → vs = bs.map V.bl
  | [], bs, vs, e, h => by cases e; cases h; rfl
  | .bl b :: ds, bs, vs, e, ⟨v, ws, q, h, r⟩ => by
    have e' : (bools ds).map (b :: ·) = some bs := e
    rw [Option.map_eq_some_iff] at e'
    obtain ⟨cs, e1, rfl⟩ := e'
    cases h
    rw [q, bools_ok e1 r]; rfl
  | .non :: _, _, _, e, _ => by cases e
  | .int _ :: _, _, _, e, _ => by cases e
  | .str _ :: _, _, _, e, _ => by cases e
  | .ref _ :: _, _, _, e, _ => by cases e
  | .tup _ :: _, _, _, e, _ => by cases e
  | .lst _ :: _, _, _, e, _ => by cases e
def gAnyAll (any : Bool) : DM := fun xs S => match xs with
  | [.lst ds] => match bools ds with
    | some bs => .ok (.bl (if any then bs.any id else bs.all id)) S
    | none => .bad
  | _ => .bad
theorem callS_any (k : Bool) : CallS X W (gAnyAll k) (fun vs H Q => ∃ (a : Addr) (bs : List Bool), vs = [V.ref a] ∧ SqL X.K H a (bs.map V.bl) ∧ Q (.bl (if k then bs.any id else bs.all id)) H) := by
  intro ρ H S σ Q xs vs r hx h
  match xs with
  | [.lst ds] =>
    obtain ⟨v, rfl, hv⟩ := vrs1 hx
    obtain ⟨a, ws, rfl, hq, hn, hw⟩ := id hv
    have h' : LG (om X) W (PVR (om X)) (match bools ds with | some bs => .ok (.bl (if k then bs.any id else bs.all id)) S | none => .bad) ρ H σ Q := h
    cases q : bools ds with
    | none => rw [q] at h'; exact h'.elim
    | some bs =>
      rw [q] at h'
      rw [bools_ok q hw] at hq
      exact ⟨a, bs, rfl, .inl hq, h' ρ _ H .refl r rfl⟩
  | [] => exact h.elim
  | [.non] => exact h.elim
  | [.bl _] => exact h.elim
  | [.int _] => exact h.elim
  | [.str _] => exact h.elim
  | [.ref _] => exact h.elim
  | [.tup _] => exact h.elim
  | a :: b :: t =>
    rw [show gAnyAll k (a :: b :: t) S = .bad by unfold gAnyAll; cases a <;> rfl] at h
    exact h.elim
theorem je_any (hc : X.calm = true) (hm : X.mg "any" = none) (ha : JA X W (e :: es) fs) (he : starEach (e :: es) X.env = (false, eval e X.env) :: starEach es X.env := by rfl) (hpl : (backTo pos (starEach es X.env)).any (·.1) = false := by rfl) (hg : Gl X "any" := by rfl) :
    JE X W (.Call (.Name "any" p) (e :: es) [] pos) (dCall (gAnyAll true) fs) := je_callB (cr_any hc) (callS_any true) hg hm (by decide +kernel) ha (by decide) (by decide) he hpl
theorem je_all (hc : X.calm = true) (hm : X.mg "all" = none) (ha : JA X W (e :: es) fs) (he : starEach (e :: es) X.env = (false, eval e X.env) :: starEach es X.env := by rfl) (hpl : (backTo pos (starEach es X.env)).any (·.1) = false := by rfl) (hg : Gl X "all" := by rfl) :
    JE X W (.Call (.Name "all" p) (e :: es) [] pos) (dCall (gAnyAll false) fs) := je_callB (cr_all hc) (callS_any false) hg hm (by decide +kernel) ha (by decide) (by decide) he hpl
end
end DL
namespace DL
open PySem PySem.Spec L2 PyProof.Rows

/-! ### enumerate(text): the place and the sign, in a new pair -/
def Ites (x : Str) : It :=
  ⟨fun i _ => i < x.cps.size, fun i H v H' => ∃ T c, v = .ref T ∧ H T = none ∧ H' = upd H T (.tup [.int (i : Nat), .str ⟨#[c]⟩]) ∧ x.cps[i]? = some c, fun i _ => x.cps.size ≤ i⟩
theorem turn_enumS {P : Program} {w : World} {K : PySem.W.Frag} {elts : List Expr} {kk : Nat} {tpos : Pos} (x : Str) (t : Tok) (e it : Addr) :
    Turn P w K (.Tuple elts kk tpos) (Ites x) [e, it] e (fun i h => (∃ old, IsEnum h e it ((i : Nat) : Int) old) ∧ h.IsStrIter it (strIterType x) x t i ∧ e ≠ it ∧ i ≤ x.cps.size) where
  mem := by simp
  obj := fun i h st b hb => by
    obtain ⟨⟨old, he⟩, ⟨o, ho, hc, hd⟩, _⟩ := st
    have e' : b = e ∨ b = it := by simpa using hb
    rcases e' with z | z
    · rw [z]; exact ⟨_, he, fun v q => nomatch q⟩
    · rw [z]; exact ⟨o, ho, fun v q => by rw [hd] at q; cases q⟩
  keep := fun i h h' st k => by
    obtain ⟨⟨old, he⟩, ⟨o, ho, hr⟩, hne, hle⟩ := st
    exact ⟨⟨old, k e (by simp) _ he⟩, ⟨o, k it (by simp) o ho, hr⟩, hne, hle⟩
  item := by
    intro X hP hw hK hc i pins s σ H E I hf st hg
    subst hP hw hK
    obtain ⟨⟨old, he⟩, hit, hne, hle⟩ := st
    have D := Draws.text (prog := X.prog) (w := X.w) (A := X.A.in1) (show X.A.in1.handled = none from I.ok.hd hc) it x t
    have hel : e < s.heap.objs.size := Heap.lt_size he
    have hil : it < s.heap.objs.size := by obtain ⟨_, q, _⟩ := hit; exact Heap.lt_size q
    refine wpAny_pyNext_enum_itemD D he hit hg hne (by simpa using hne) fun y h' tk hy ho hit' hT hsz hk => ?_
    obtain ⟨c, u, hcx, rfl⟩ := hy
    refine ⟨_, rfl, wpAny_letOwnedTupleGo_enum (s := { s with heap := h', toks := tk + 1 }) ho fun h'' he' sb => ?_⟩
    have hT2 : h''.get? s.heap.objs.size = some { cls := .type "tuple", data := .seq #[.int i tk, .str ⟨#[c]⟩ u] } := (sb.2 _ (Nat.ne_of_gt hel)).trans hT
    have new : ObjOk X.prog X.w (upd H s.heap.objs.size (.tup [.int (i : Nat), .str ⟨#[c]⟩])) h'' s.heap.objs.size (.tup [.int (i : Nat), .str ⟨#[c]⟩]) :=
      ⟨by show 2 ≤ sizeLine; decide, [.int i tk, .str ⟨#[c]⟩ u], .cons ⟨_, rfl⟩ (.cons ⟨_, rfl⟩ .nil), ⟨_, hT2, rfl, _, rfl⟩⟩
    have I1 : Inv X pins σ (upd H s.heap.objs.size (.tup [.int (i : Nat), .str ⟨#[c]⟩])) { s with heap := h'', toks := tk + 1 } :=
      I.turnedNew (ch := [e, it]) (fun b ob hb q => (sb.2 b (fun z => hb (by simp [z]))).trans (hk b ob (fun z => hb (by simp [z])) (fun z => hb (by simp [z])) q)) hf (Nat.le_refl _) new
    refine ⟨.ref s.heap.objs.size, _, I1, rfl, ⟨_, c, rfl, I.hok.fresh (Nat.le_refl _), rfl, hcx⟩, ⟨⟨.str ⟨#[c]⟩ u, ?_⟩, ?_, hne, hg⟩, fun b hb => ?_⟩
    · have e1 : ((i + 1 : Nat) : Int) = (i : Int) + 1 := by omega
      rw [e1]; exact he'
    · obtain ⟨o, ho', hr⟩ := hit'
      exact ⟨o, (sb.2 it (Ne.symm hne)).trans ho', hr⟩
    · have hb' : b < s.heap.objs.size := by
        have e' : b = e ∨ b = it := by simpa using hb
        rcases e' with z | z
        · rw [z]; exact hel
        · rw [z]; exact hil
      rw [upd_ne (Nat.ne_of_lt hb')]
      exact (hf b hb).1
  done := by
    intro X hP hw hK hc i pins s σ H E I hf st hg
    subst hP hw hK
    obtain ⟨⟨old, he⟩, hit, hne, hle⟩ := st
    have hi : i = x.cps.size := Nat.le_antisymm hle hg
    subst hi
    have D := Draws.text (prog := X.prog) (w := X.w) (A := X.A.in1) (show X.A.in1.handled = none from I.ok.hd hc) it x t
    obtain ⟨f0, f1, f2, f3, f4, f5⟩ := hf it (by simp)
    exact wpAny_pyNext_enum_endD D he hit fun h' eb => ⟨rfl, I.turned (t' := s.toks) (fun b o hb q => eb b o hb q) f0 f1 f3 f4 f5⟩
  self := fun A i s Q E st h => let ⟨⟨_, he⟩, _⟩ := st; wpAny_pyIter_enum he h
section
variable {X : Cx} {W : WX} {pos p p2 apos cpos : Pos} {a b c e o : Expr} {es : List Expr} {fa fb fc fo : DE} {fs : DA} {f g : DS} {x : Str}
def iEnumS (ta : TA) : TI := fun σ H R => ta σ H fun vs H1 => ∃ x, vs = [.str x] ∧ R (Ites x) H1
theorem pi_enumS {ta : TA} {tpos : Pos} {elts : List Expr} {kk : Nat} (hg : Gl X "enumerate") (hm : X.mg "enumerate" = none) (ha : PA X [e] ta) (hs : starEach [e] X.env = [(false, eval e X.env)] := by rfl) :
    PI X (.Tuple elts kk tpos) (.Call (.Name "enumerate" p) [e] [] pos) (iEnumS ta) := by
  refine ⟨fun pins s σ H R I h => ?_⟩
  refine Call_ (ld_blt I hg hm boot_enumerate (PyProof.Rows.callWith_type1 (thn (ha.run pos pins s σ H _ I h) fun us s1 ⟨vs, H1, I1, r1, q1⟩ => ?_) hs rfl))
  obtain ⟨x, ex, q⟩ := q1
  subst ex
  obtain ⟨u, rfl, r⟩ := vals1 r1
  obtain ⟨t, rfl⟩ := r
  refine call_enumerate_str fun h' he hit hsz hk => wpAny_pyIter_enum he ?_
  have I2 : Inv X pins σ H1 { s1 with heap := h' } := I1.kept (t' := s1.toks) hk
  refine ⟨s1.heap.objs.size + 1, [s1.heap.objs.size + 1, s1.heap.objs.size], _, _, H1, rfl, I2, turn_enumS x t (s1.heap.objs.size + 1) s1.heap.objs.size, ⟨⟨.none, he⟩, hit, Nat.succ_ne_self _, Nat.zero_le _⟩, fun b hb => ?_, q⟩
  have e' : b = s1.heap.objs.size + 1 ∨ b = s1.heap.objs.size := by simpa using hb
  have hle : s1.heap.objs.size ≤ b := by
    rcases e' with z | z
    · rw [z]; exact Nat.le_add_right _ _
    · rw [z]; exact Nat.le_refl _
  exact I1.fpOk hle (I1.hok.fresh hle)
/-- the pairs of a text's places and signs -/
def signs (i : Nat) : List Nat → List D
  | [] => []
  | c :: cs => .tup [.int i, .str ⟨#[c]⟩] :: signs (i + 1) cs
theorem signs_get : ∀ (cs : List Nat) (k i : Nat), (signs k cs)[i]? = (cs[i]?).map fun c => D.tup [.int ((k + i : Nat) : Int), .str ⟨#[c]⟩]
  | [], _, _ => by simp [signs]
  | c :: cs, k, 0 => by simp [signs]
  | c :: cs, k, i + 1 => by
    show (signs (k + 1) cs)[i]? = _
    rw [signs_get cs (k + 1) i, List.getElem?_cons_succ, show k + 1 + i = k + (i + 1) by omega]
theorem signs_len : ∀ (cs : List Nat) (k : Nat), (signs k cs).length = cs.length
  | [], _ => rfl
  | c :: cs, k => by show (signs (k + 1) cs).length + 1 = _; rw [signs_len cs (k + 1)]; rfl
theorem Walk.enumS {Ω : Wd} {x : Str} {ρ : List Addr} {H : Hp} : Walk Ω (Ites x) (signs 0 x.cps.toList) ρ H where
  go := fun i ρ' G H' s sb hi => by rw [signs_len] at hi; show i < x.cps.size; simpa using hi
  stop := fun ρ' G H' s sb => by rw [signs_len]; exact Nat.le_of_eq (by simp)
  yld := fun i d v ρ' G H' H'' S' s r' sb e y => by
    obtain ⟨T, c, rfl, hT, rfl, hc⟩ := y
    have hG : G T = none := by
      cases q : G T with
      | none => rfl
      | some o => rw [sb T o q] at hT; cases hT
    rw [signs_get, Nat.zero_add, show x.cps.toList[i]? = x.cps[i]? by simp, hc] at e
    cases e
    refine ⟨upd G T (.tup [.int (i : Nat), .str ⟨#[c]⟩]), .fresh hG, r'.fresh hG, ⟨T, _, rfl, .of upd_same, ⟨_, _, rfl, rfl, ⟨_, _, rfl, rfl, rfl⟩⟩⟩, fun a q => ?_, fun a q => ?_⟩
    · by_cases ha : a = T
      · rw [ha, upd_same, upd_same]
      · rw [upd_ne ha, upd_ne ha, q]
    · have ha : a ≠ T := fun z => q (by rw [z]; exact hT)
      exact ⟨upd_ne ha, upd_ne ha⟩
def diEnumS (fs : DA) : DA := fun δ S => (fs δ S).bind fun ds S1 => match ds with
  | [.str z] => .ok (signs 0 z.cps.toList) S1
  | _ => .bad
theorem ji_enumS {elts : List Expr} {kk : Nat} {tpos : Pos} (hm : X.mg "enumerate" = none) (ha : JA X W [e] fs) (hs : starEach [e] X.env = [(false, eval e X.env)] := by rfl) (hg : Gl X "enumerate" := by rfl) : JI X W (.Tuple elts kk tpos) (.Call (.Name "enumerate" p) [e] [] pos) (diEnumS fs) :=
  pi_imp (pi_enumS hg hm ha hs) fun σ H R ⟨ρ, δ, S, r, rs, h⟩ => ⟨ρ, δ, S, r, rs, LG.bind h fun ρ1 ds S1 vs H1 s1 r1 p1 q1 => by
    match ds with
    | [.str z] =>
      obtain ⟨v, rfl, hv⟩ := vrs1 p1
      cases hv
      exact ⟨z, rfl, q1 ρ1 _ H1 .refl r1 .enumS⟩
    | [] => exact q1.elim
    | [.non] => exact q1.elim
    | [.bl _] => exact q1.elim
    | [.int _] => exact q1.elim
    | [.ref _] => exact q1.elim
    | [.tup _] => exact q1.elim
    | [.lst _] => exact q1.elim
    | a :: b :: t => cases a <;> exact q1.elim⟩
/-- a text sign by sign -/
def sgn : List Nat → List D := List.map fun c => .str ⟨#[c]⟩
theorem Walk.str {Ω : Wd} {x : Str} {ρ : List Addr} {H : Hp} : Walk Ω (Its x) (sgn x.cps.toList) ρ H where
  go := fun i ρ' G H' s sb hi => by unfold sgn at hi; rw [List.length_map] at hi; show i < x.cps.size; simpa using hi
  stop := fun ρ' G H' s sb => by unfold sgn; rw [List.length_map]; exact Nat.le_of_eq (by simp)
  yld := fun i d v ρ' G H' H'' S' s r' sb e y => by
    obtain ⟨rfl, c, hc, rfl⟩ := y
    unfold sgn at e
    rw [List.getElem?_map, show x.cps.toList[i]? = x.cps[i]? by simp, hc] at e
    cases e
    exact ⟨G, .refl, r', rfl, fun a q => q, fun a q => ⟨rfl, rfl⟩⟩
def diS (fe : DE) : DA := fun δ S => (fe δ S).bind fun d S1 => match d with
  | .str z => .ok (sgn z.cps.toList) S1
  | _ => .bad
theorem ji_str {iter tg : Expr} (hi : JE X W iter fa) : JI X W tg iter (diS fa) := pi_imp (pi_str hi) fun σ H R ⟨ρ, δ, S, r, rs, h⟩ =>
  ⟨ρ, δ, S, r, rs, LG.bind h fun ρ1 d S1 v H1 s1 r1 p1 q1 => by
    cases d with
    | str z => cases p1; exact ⟨z, rfl, q1 ρ1 _ H1 .refl r1 .str⟩
    | _ => exact q1.elim⟩
/-- range(n) -/
def nums (lo : Int) : Nat → List D
  | 0 => []
  | n + 1 => .int lo :: nums (lo + 1) n
theorem nums_len : ∀ (n : Nat) (lo : Int), (nums lo n).length = n
  | 0, _ => rfl
  | n + 1, lo => by show (nums (lo + 1) n).length + 1 = _; rw [nums_len n]
theorem nums_get : ∀ (n : Nat) (lo : Int) (i : Nat), i < n → (nums lo n)[i]? = some (.int (lo + i))
  | 0, _, _, h => by omega
  | n + 1, lo, 0, h => by simp [nums]
  | n + 1, lo, i + 1, h => by
    show (nums (lo + 1) n)[i]? = _
    rw [nums_get n (lo + 1) i (by omega)]
    congr 2; omega
theorem Walk.range {Ω : Wd} {lo : Int} {n : Nat} {ρ : List Addr} {H : Hp} : Walk Ω (Itr lo n) (nums lo n) ρ H where
  go := fun i ρ' G H' s sb hi => by rw [nums_len] at hi; exact hi
  stop := fun ρ' G H' s sb => by rw [nums_len]; exact Nat.le_refl _
  yld := fun i d v ρ' G H' H'' S' s r' sb e y => by
    obtain ⟨rfl, rfl⟩ := y
    have hi : i < n := by have := (List.getElem?_eq_some_iff.mp e).1; rw [nums_len] at this; exact this
    rw [nums_get n lo i hi] at e
    cases e
    exact ⟨G, .refl, r', rfl, fun a q => q, fun a q => ⟨rfl, rfl⟩⟩
def rgOk (i : Int) : Bool := decide (-(2 ^ 62) ≤ i ∧ i < 2 ^ 62)
def diR1 (fs : DA) : DA := fun δ S => (fs δ S).bind fun ds S1 => match ds with
  | [.int j] => if rgOk j = true then .ok (nums 0 j.toNat) S1 else .bad
  | _ => .bad
theorem ji_range1 {tg : Expr} (hm : X.mg "range" = none) (ha : JA X W [e] fs) (hs : starEach [e] X.env = [(false, eval e X.env)] := by rfl) (hg : Gl X "range" := by rfl) : JI X W tg (.Call (.Name "range" p) [e] [] pos) (diR1 fs) :=
  pi_imp (pi_range1 hg hm ha hs) fun σ H R ⟨ρ, δ, S, r, rs, h⟩ => ⟨ρ, δ, S, r, rs, LG.bind h fun ρ1 ds S1 vs H1 s1 r1 p1 q1 => by
    match ds with
    | [.int j] =>
      obtain ⟨v, rfl, hv⟩ := vrs1 p1
      cases hv
      have q2 : LG (om X) W (PWk (om X)) (if rgOk j = true then .ok (nums 0 j.toNat) S1 else .bad) ρ1 H1 σ R := q1
      by_cases hj : rgOk j = true
      · rw [if_pos hj] at q2
        obtain ⟨h1, h2⟩ := of_decide_eq_true hj
        exact ⟨j, rfl, h1, h2, q2 ρ1 _ H1 .refl r1 .range⟩
      · rw [if_neg hj] at q2; exact q2.elim
    | [] => exact q1.elim
    | [.non] => exact q1.elim
    | [.bl _] => exact q1.elim
    | [.str _] => exact q1.elim
    | [.ref _] => exact q1.elim
    | [.tup _] => exact q1.elim
    | [.lst _] => exact q1.elim
    | a :: b :: t => cases a <;> exact q1.elim⟩
end
end DL
namespace DL
open PySem PySem.Spec L2

section
variable {X : Cx} {W : WX} {pos p p2 p3 apos cpos : Pos} {a b c e o : Expr} {es : List Expr} {fa fb fc fo : DE} {fs : DA} {f g : DS} {x : Str}
/-- one value in, whatever it is -/
theorem LE.one {Ω : Wd} {f : DE} {k : D → Store → R D} {σ : St} {H : Hp} {Q Q1 : VK} (h : LE Ω W (fun δ S => (f δ S).bind k) σ H Q)
    (q : ∀ ρ1 d S1 v H1, Rel Ω ρ1 H1 S1 → VR Ω.K ρ1 H1 d v → LG Ω W (PVR Ω) (k d S1) ρ1 H1 σ Q → Q1 v H1) : LE Ω W f σ H Q1 := by
  obtain ⟨ρ, δ, S, r, rs, h⟩ := h
  exact ⟨ρ, δ, S, r, rs, LG.bind h fun ρ1 d S1 v H1 s1 r1 p1 q1 => q ρ1 d S1 v H1 r1 p1 q1⟩
/-! ### a constant of the text -/
theorem je_glob {v : V} {u : Value} {d : D} (hm : X.mg x = some u) (r : RelV v u) (hd : ∀ ρ H, VR X.K ρ H d v) (hg : Gl X x := by rfl) (hdb : (x == ("__debug__" : Str)) = false := by decide) : JE X W (.Name x pos) (dC d) :=
  pe_imp (pe_glob hg hm r hdb) fun σ H Q ⟨ρ, δ, S, rl, rs, h⟩ => h ρ v H .refl rl (hd ρ H)
/-! ### isinstance(x, T), T a built-in class -/
def tyD (S : Store) : D → String
  | .non => "NoneType"
  | .bl _ => "bool"
  | .int _ => "int"
  | .str _ => "str"
  | .tup _ => "tuple"
  | .lst _ => "list"
  | .ref n => match S[n]? with
    | some (.lst _) => "list"
    | some (.dK _ _) => "dict"
    | _ => ""
theorem tyD_ok {Ω : Wd} {ρ : List Addr} {H : Hp} {S : Store} {d : D} {v : V} (r : Rel Ω ρ H S) (h : VR Ω.K ρ H d v) (hn : tyD S d ≠ "") : TyX Ω.K H v (.type (tyD S d)) := by
  cases d with
  | non => cases h; exact .base .non
  | bl b => cases h; exact .base (.bl b)
  | int b => cases h; exact .base (.int b)
  | str b => cases h; exact .base (.str b)
  | tup ds =>
    obtain ⟨a, vs, rfl, hs, _⟩ := h
    rcases hs with (hs | ⟨o, hs⟩) | ⟨o, its, n, hk, hc, _⟩
    · exact .base (.tup hs)
    · exact .fTuple hs
    · exact .kTuple hk hc
  | lst ds =>
    obtain ⟨a, vs, rfl, hs, _⟩ := h
    rcases hs with hs | ⟨o, hs⟩
    · exact .base (.lst hs)
    · exact .base (.frz hs)
  | ref n =>
    cases q : S[n]? with
    | none => exact absurd (by simp only [tyD, q]) hn
    | some o =>
      obtain ⟨a, h1, rfl⟩ := h
      have ob := r.ob n a o h1 q
      cases o with
      | lst ds =>
        obtain ⟨vs, h2, _⟩ := ob
        rw [show tyD S (.ref n) = "list" by simp only [tyD, q]]
        exact .base (.lst h2)
      | dK lk kvs =>
        obtain ⟨kv, _, h2, h3⟩ := ob
        rw [show tyD S (.ref n) = "dict" by simp only [tyD, q]]
        cases lk with
        | false => exact .base (.dK (h2 rfl))
        | true => obtain ⟨o, h4⟩ := h3 rfl; exact .fDict h4
      | ins c fs => exact absurd (by simp only [tyD, q]) hn
def dIsi (T : String) (fa : DE) : DE := fun δ S => (fa δ S).bind fun d S1 => if tyD S1 d = "" then .bad else match kitB (tyD S1 d) T with
  | some k => .ok (.bl k) S1
  | none => .bad
theorem je_isi (T : String) (hm : X.mg "isinstance" = none) (hT : X.mg x = none) (hv : bootBuiltins x = some (.type T)) (ha : JE X W e fa) (hg : Gl X "isinstance" := by rfl) (hgT : Gl X x := by rfl) (hn : x ≠ "__name__" := by decide) (hd : (x == ("__debug__" : Str)) = false := by decide)
    (hs : starEach (e :: [.Name x p2]) X.env = (false, eval e X.env) :: starEach [.Name x p2] X.env := by rfl) (hs2 : starEach [.Name x p2] X.env = (false, eval (.Name x p2) X.env) :: starEach [] X.env := by rfl) (hpl : (backTo pos (starEach [.Name x p2] X.env)).any (·.1) = false := by rfl) :
    JE X W (.Call (.Name "isinstance" p) [e, .Name x p2] [] pos) (dIsi T fa) :=
  pe_imp (pe_callB call_isi hg hm (by decide +kernel) (pa_cons ha (pa_cons (pe_bltn hgT hT hv (show RelV (.ty T) (.type T) from rfl) hn hd) pa_nil hs2) hs) (by decide) (by decide) hs hpl) fun σ H Q h => by
    refine LE.one h fun ρ1 d S1 v H1 r1 p1 q1 => ?_
    refine ⟨v, .ty T, .type (tyD S1 d), .type T, ?_⟩
    by_cases hn : tyD S1 d = ""
    · rw [if_pos hn] at q1; exact q1.elim
    · rw [if_neg hn] at q1
      cases k : kitB (tyD S1 d) T with
      | none => rw [k] at q1; exact q1.elim
      | some t => rw [k] at q1; exact ⟨t, rfl, .ty T, tyD_ok r1 p1 hn, kit_ty k, q1 ρ1 _ H1 .refl r1 rfl⟩
/-! ### str(x) of an int, of a text -/
def gStr : DM := fun xs S => match xs with
  | [.int i] => if i.natAbs.log2 < 1920 then .ok (.str (toString i)) S else .bad
  | [.str z] => .ok (.str z) S
  | _ => .bad
theorem callS_str : CallS X W gStr (fun xs H Q => (∃ i, xs = [.int i] ∧ i.natAbs.log2 < 1920 ∧ Q (.str (toString i)) H) ∨ ∃ a, xs = [.str a] ∧ Q (.str a) H) := by
  intro ρ H S σ Q xs vs r hx h
  match xs with
  | [.int i] =>
    obtain ⟨v, rfl, hv⟩ := vrs1 hx; cases hv
    have h' : LG (om X) W (PVR (om X)) (if i.natAbs.log2 < 1920 then .ok (.str (toString i)) S else .bad) ρ H σ Q := h
    by_cases hl : i.natAbs.log2 < 1920
    · rw [if_pos hl] at h'; exact .inl ⟨i, rfl, hl, h' ρ _ H .refl r rfl⟩
    · rw [if_neg hl] at h'; exact h'.elim
  | [.str z] => obtain ⟨v, rfl, hv⟩ := vrs1 hx; cases hv; exact .inr ⟨z, rfl, h ρ _ H .refl r rfl⟩
  | [] => exact h.elim
  | [.non] => exact h.elim
  | [.bl _] => exact h.elim
  | [.ref _] => exact h.elim
  | [.tup _] => exact h.elim
  | [.lst _] => exact h.elim
  | a :: b :: t =>
    rw [show gStr (a :: b :: t) S = .bad by unfold gStr; cases a <;> rfl] at h
    exact h.elim
theorem je_strF (hm : X.mg "str" = none) (ha : JA X W (e :: es) fs) (he : starEach (e :: es) X.env = (false, eval e X.env) :: starEach es X.env := by rfl) (hpl : (backTo pos (starEach es X.env)).any (·.1) = false := by rfl) (hg : Gl X "str" := by rfl) :
    JE X W (.Call (.Name "str" p) (e :: es) [] pos) (dCall gStr fs) := je_callT (CallR.or call_str_int SkE.call_str_str) callS_str hg hm (by decide +kernel) ha (by decide) (by decide) he hpl
/-! ### methods of texts -/
def isStrD : D → Bool
  | .str _ => true
  | _ => false
/-- a method of a text with one argument: the text is known ahead of the argument -/
def dM1 (g : D → D → Store → R D) (fo fa : DE) : DE := fun δ S => (fo δ S).bind fun x S1 => if isStrD x = true then (fa δ S1).bind fun y S2 => g x y S2 else .bad
theorem LE.m1 {Ω : Wd} {g : D → D → Store → R D} {r : V → List V → Hp → VK → Prop} {σ : St} {H : Hp} {Q : VK}
    (hs : ∀ ρ H S σ Q z y u, Rel Ω ρ H S → VR Ω.K ρ H y u → LG Ω W (PVR Ω) (g (.str z) y S) ρ H σ Q → r (.str z) [u] H Q)
    (h : LE Ω W (dM1 g fo fa) σ H Q) : tM1 r (LE Ω W fo) (LE Ω W fa) σ H Q := by
  obtain ⟨ρ, δ, S, rl, rs, q⟩ := h
  refine ⟨ρ, δ, S, rl, rs, LG.bind q fun ρ1 x S1 v H1 s1 r1 p1 q1 => ?_⟩
  cases x with
  | str a =>
    cases p1
    rw [if_pos (show isStrD (.str a) = true from rfl)] at q1
    exact ⟨⟨a, rfl⟩, ρ1, δ, S1, r1, rl.rs s1 rs, LG.bind q1 fun ρ2 y S2 u H2 s2 r2 p2 q2 => hs ρ2 H2 S2 σ Q a y u r2 p2 q2⟩
  | _ => exact q1.elim
def texts : List D → Option (List Str)
  | [] => some []
  | .str b :: ds => (texts ds).map (b :: ·)
  | _ => none
theorem texts_ok {K : PySem.W.Frag} {ρ : List Addr} {H : Hp} : ∀ {ds : List D} {bs : List Str} {vs : List V}, texts ds = some bs → VRs K ρ H ds vs → vs = bs.map V.str
  | [], bs, vs, e, h => by cases e; cases h; rfl
  | .str b :: ds, bs, vs, e, ⟨v, ws, q, h, r⟩ => by
    have e' : (texts ds).map (b :: ·) = some bs := e
    rw [Option.map_eq_some_iff] at e'
    obtain ⟨cs, e1, rfl⟩ := e'
    cases h
    rw [q, texts_ok e1 r]; rfl
  | .non :: _, _, _, e, _ => by cases e
  | .int _ :: _, _, _, e, _ => by cases e
  | .bl _ :: _, _, _, e, _ => by cases e
  | .ref _ :: _, _, _, e, _ => by cases e
  | .tup _ :: _, _, _, e, _ => by cases e
  | .lst _ :: _, _, _, e, _ => by cases e
def gJoin : D → D → Store → R D := fun x y S => match x, y with
  | .str a, .lst ds => match texts ds with
    | some ys => if (ys.map (·.length)).sum + ys.length * a.length ≤ 16777216 then .ok (.str (Txt.join a ys)) S else .bad
    | none => .bad
  | _, _ => .bad
theorem je_join (ho : JE X W o fo) (ha : JE X W e fa) (hs : starEach [e] X.env = [(false, eval e X.env)] := by rfl) (hbase : attributeBase o "join" X.env (eval o X.env) = eval o X.env := by rfl) (hline : (apos.endLine == pos.line) = true := by rfl) :
    JE X W (.Call (.Attribute o "join" apos) [e] [] pos) (dM1 gJoin fo fa) := pe_imp (pe_join ho ha hs hbase hline) fun σ H Q h => by
  refine LE.m1 (fun ρ2 H2 S2 σ Q a y u r2 p2 q2 => ?_) h
  cases y with
  | lst ds =>
    obtain ⟨t, ws, rfl, hq, hn, hw⟩ := p2
    have q3 : LG (om X) W (PVR (om X)) (match texts ds with | some ys => if (ys.map (·.length)).sum + ys.length * a.length ≤ 16777216 then .ok (.str (Txt.join a ys)) S2 else .bad | none => .bad) ρ2 H2 σ Q := q2
    cases es : texts ds with
    | none => rw [es] at q3; exact q3.elim
    | some ys =>
      rw [es] at q3
      have q4 : LG (om X) W (PVR (om X)) (if (ys.map (·.length)).sum + ys.length * a.length ≤ 16777216 then .ok (.str (Txt.join a ys)) S2 else .bad) ρ2 H2 σ Q := q3
      by_cases hl : (ys.map (·.length)).sum + ys.length * a.length ≤ 16777216
      · rw [if_pos hl] at q4
        rw [texts_ok es hw] at hq
        exact ⟨a, t, ys, rfl, rfl, .inl (.inl hq), hl, q4 ρ2 _ H2 .refl r2 rfl⟩
      · rw [if_neg hl] at q4; exact q4.elim
  | _ => exact q2.elim
def gCount : D → D → Store → R D := fun x y S => match x, y with
  | .str a, .str b => .ok (.int (Txt.count a b)) S
  | _, _ => .bad
theorem je_count (ho : JE X W o fo) (ha : JE X W e fa) (hs : starEach [e] X.env = [(false, eval e X.env)] := by rfl) (hbase : attributeBase o "count" X.env (eval o X.env) = eval o X.env := by rfl) (hline : (apos.endLine == pos.line) = true := by rfl) :
    JE X W (.Call (.Attribute o "count" apos) [e] [] pos) (dM1 gCount fo fa) := pe_imp (pe_m1 PySem.F.slot_str_count PySem.F.type_str_count mt_count ho ha hs hbase hline) fun σ H Q h => by
  refine LE.m1 (fun ρ2 H2 S2 σ Q a y u r2 p2 q2 => ?_) h
  cases y with
  | str b => cases p2; exact ⟨a, b, rfl, rfl, q2 ρ2 _ H2 .refl r2 rfl⟩
  | _ => exact q2.elim
/-! ### slices -/
abbrev DO := DEnv → Store → R (Option Int)
abbrev PEq {α : Type} : List Addr → Hp → α → α → Prop := fun _ _ b c => b = c
def LO (Ω : Wd) (W : WX) (f : DO) : TO := fun σ H Q => ∃ ρ δ S, Rel Ω ρ H S ∧ RelS Ω.K ρ H δ σ ∧ LG Ω W PEq (f δ S) ρ H σ Q
abbrev JO (X : Cx) (W : WX) (e : Option Expr) (f : DO) : Prop := PO X e (LO (om X) W f)
theorem po_imp {oe : Option Expr} {t t' : TO} (h : PO X oe t) (q : ∀ σ H Q, t' σ H Q → t σ H Q) : PO X oe t' := ⟨fun pins s σ H Q I a => h.run pins s σ H Q I (q σ H Q a)⟩
def doN : DO := fun _ S => .ok none S
def doS (fa : DE) : DO := fun δ S => (fa δ S).bind fun d S1 => match d with
  | .int i => .ok (some i) S1
  | _ => .bad
theorem jo_none : JO X W none doN := po_imp po_none fun σ H Q ⟨ρ, δ, S, r, rs, h⟩ => h ρ _ H .refl r rfl
theorem jo_some (ha : JE X W e fa) : JO X W (some e) (doS fa) := po_imp (po_some ha) fun σ H Q ⟨ρ, δ, S, r, rs, h⟩ =>
  ⟨ρ, δ, S, r, rs, LG.bind h fun ρ1 d S1 v H1 s1 r1 p1 q1 => by
    cases d with
    | int i => cases p1; exact ⟨i, rfl, q1 ρ1 _ H1 .refl r1 rfl⟩
    | _ => exact q1.elim⟩
def dSl (g : D → Option Int → Option Int → Store → R D) (fe : DE) (lo hi : DO) : DE := fun δ S => (fe δ S).bind fun x S1 => (lo δ S1).bind fun l S2 => (hi δ S2).bind fun u S3 => g x l u S3
def gSlS : D → Option Int → Option Int → Store → R D := fun x l u S => match x with
  | .str z => if lenOk z.length = true then .ok (.str (cutS z l u)) S else .bad
  | _ => .bad
variable {lo hi : Option Expr} {fl fh : DO}
theorem LE.sl {Ω : Wd} {g : D → Option Int → Option Int → Store → R D} {r : V → Option Int → Option Int → Hp → VK → Prop} {σ : St} {H : Hp} {Q : VK}
    (hs : ∀ ρ H S σ Q x v l u, Rel Ω ρ H S → VR Ω.K ρ H x v → LG Ω W (PVR Ω) (g x l u S) ρ H σ Q → r v l u H Q)
    (h : LE Ω W (dSl g fa fl fh) σ H Q) : tSl r (LE Ω W fa) (LO Ω W fl) (LO Ω W fh) σ H Q := by
  obtain ⟨ρ, δ, S, rl, rs, q⟩ := h
  refine ⟨ρ, δ, S, rl, rs, LG.bind q fun ρ1 x S1 v H1 s1 r1 p1 q1 => ?_⟩
  refine ⟨ρ1, δ, S1, r1, rl.rs s1 rs, LG.bind q1 fun ρ2 l S2 l' H2 s2 r2 p2 q2 => ?_⟩
  refine ⟨ρ2, δ, S2, r2, r1.rs s2 (rl.rs s1 rs), LG.bind q2 fun ρ3 u S3 u' H3 s3 r3 p3 q3 => ?_⟩
  cases p2; cases p3
  exact hs ρ3 H3 S3 σ Q x v l u r3 (r2.vr s3 (r1.vr s2 p1)) q3
theorem je_slS (he : JE X W e fa) (hl : JO X W lo fl) (hu : JO X W hi fh) : JE X W (.Subscript e (.Slice lo hi none p2) pos) (dSl gSlS fa fl fh) := pe_imp (pe_slice sl_str he hl hu) fun σ H Q h =>
  LE.sl (fun ρ H S σ Q x v l u r hx q => by
    cases x with
    | str z =>
      cases hx
      have q' : LG (om X) W (PVR (om X)) (if lenOk z.length = true then .ok (.str (cutS z l u)) S else .bad) ρ H σ Q := q
      by_cases hz : lenOk z.length = true
      · rw [if_pos hz] at q'; exact ⟨z, rfl, lenOk_of hz, q' ρ _ H .refl r rfl⟩
      · rw [if_neg hz] at q'; exact q'.elim
    | _ => exact q.elim) h
/-! ### xs.append(x), xs.pop() -/
def gAppend (x y : D) (S : Store) : R D := match x with
  | .ref n => match S[n]? with
    | some (.lst xs) => if xs.length < sizeLine then .ok .non (S.set n (.lst (xs ++ [y]))) else .bad
    | _ => .bad
  | _ => .bad
/-- the list is known ahead of the argument -/
def isLstD (S : Store) : D → Bool
  | .ref n => match S[n]? with
    | some (.lst _) => true
    | _ => false
  | _ => false
theorem isLstD_of {S : Store} {x : D} (h : isLstD S x = true) : ∃ n ds, x = .ref n ∧ S[n]? = some (.lst ds) := by
  cases x with
  | ref n =>
    cases q : S[n]? with
    | none => simp only [isLstD, q] at h; cases h
    | some o =>
      cases o with
      | lst ds => exact ⟨n, ds, rfl, q⟩
      | dK _ _ => simp only [isLstD, q] at h; cases h
      | ins _ _ => simp only [isLstD, q] at h; cases h
  | _ => cases h
def dAppend (fo fa : DE) : DE := fun δ S => (fo δ S).bind fun x S1 => if isLstD S1 x = true then (fa δ S1).bind fun y S2 => gAppend x y S2 else .bad
theorem je_append (ho : JE X W o fo) (ha : JE X W e fa) (hbase : attributeBase o "append" X.env (eval o X.env) = eval o X.env := by rfl)
    (hfew : ((backTo cpos (starEach [e] X.env)).all (fun x => !x.1) && (backToKw cpos (keywordEach [] X.env)).all (fun x => x.1.isSome)
      && decide ([e].length + ([] : List Keyword).length + (if ([] : List Keyword).isEmpty then 0 else 1) < 30)) = true := by rfl)
    (hline : (apos.endLine == cpos.line) = true := by rfl) (hs : starEach [e] X.env = (false, eval e X.env) :: starEach [] X.env := by rfl) (hplain : (backTo cpos (starEach [] X.env)).any (·.1) = false := by rfl) :
    JE X W (.Call (.Attribute o "append" apos) [e] [] cpos) (dAppend fo fa) := pe_imp (pe_bm PySem.F.plainAttrs_list PySem.F.slot_list_append PySem.F.type_list_append mt_append ho (pa_cons ha pa_nil hs) hbase hfew hline hs hplain) fun σ H Q ⟨ρ, δ, S, r, rs, h⟩ => by
  refine ⟨ρ, δ, S, r, rs, LG.bind h fun ρ1 x S1 v H1 s1 r1 p1 q1 => ?_⟩
  by_cases hl : isLstD S1 x = true
  · rw [if_pos hl] at q1
    obtain ⟨n, ds, rfl, en⟩ := isLstD_of hl
    obtain ⟨a1, ws, rfl, _, h1, _⟩ := r1.lstAt p1 en
    refine ⟨.inl ⟨rfl, ws, .of h1⟩, ρ1, δ, S1, r1, r.rs s1 rs, LG.bind q1 fun ρ2 y S2 u H2 s2 r2 p2 q2 => ?_⟩
    cases e2 : S2[n]? with
    | none => rw [show gAppend (.ref n) y S2 = .bad by simp only [gAppend, e2]] at q2; exact q2.elim
    | some ob =>
      cases ob with
      | dK _ _ => rw [show gAppend (.ref n) y S2 = .bad by simp only [gAppend, e2]] at q2; exact q2.elim
      | ins _ _ => rw [show gAppend (.ref n) y S2 = .bad by simp only [gAppend, e2]] at q2; exact q2.elim
      | lst es =>
        obtain ⟨a2, us, ea, hn, h2, hus⟩ := r2.lstAt (r1.vr s2 p1) e2
        cases ea
        rw [show gAppend (.ref n) y S2 = (if es.length < sizeLine then .ok .non (S2.set n (.lst (es ++ [y]))) else .bad) by simp only [gAppend, e2]] at q2
        by_cases hlt : es.length < sizeLine
        · rw [if_pos hlt] at q2
          have hm := List.mem_of_getElem? hn
          have st : Step ρ2 H2 ρ2 (upd H2 a1 (.lst (us ++ [u]))) := .write hm
          exact ⟨a1, us, u, rfl, rfl, h2, by rw [← VRs.len hus]; exact hlt, q2 ρ2 .non _ st (r2.write hn ⟨_, upd_same, VRs.append (r2.vrs st hus) ⟨u, [], rfl, r2.vr st p2, rfl⟩⟩) rfl⟩
        · rw [if_neg hlt] at q2; exact q2.elim
  · rw [if_neg hl] at q1; exact q1.elim
def gPop (x : D) (S : Store) : R D := match x with
  | .ref n => match S[n]? with
    | some (.lst xs) => match xs[xs.length - 1]? with
      | some y => .ok y (S.set n (.lst xs.dropLast))
      | none => .bad
    | _ => .bad
  | _ => .bad
theorem VRs.dropLast {K : PySem.W.Frag} {ρ : List Addr} {H : Hp} {ds : List D} {vs : List V} (h : VRs K ρ H ds vs) : VRs K ρ H ds.dropLast vs.dropLast := by
  rw [List.dropLast_eq_take, List.dropLast_eq_take, VRs.len h]
  exact VRs.take _ h
theorem je_pop (ho : JE X W o fo) (hbase : attributeBase o "pop" X.env (eval o X.env) = eval o X.env := by rfl) (hline : (apos.endLine == cpos.line) = true := by rfl) : JE X W (.Call (.Attribute o "pop" apos) [] [] cpos) (fun δ S => (fo δ S).bind gPop) :=
  pe_imp (pe_bm0 PySem.F.plainAttrs_list PySem.F.slot_list_pop PySem.F.type_list_pop mt_pop ho hbase hline) fun σ H Q h => LE.one h fun ρ1 x S1 v H1 r1 p1 q1 => by
    cases x with
    | ref n =>
      cases e2 : S1[n]? with
      | none => rw [show gPop (.ref n) S1 = .bad by simp only [gPop, e2]] at q1; exact q1.elim
      | some ob =>
        cases ob with
        | dK _ _ => rw [show gPop (.ref n) S1 = .bad by simp only [gPop, e2]] at q1; exact q1.elim
        | ins _ _ => rw [show gPop (.ref n) S1 = .bad by simp only [gPop, e2]] at q1; exact q1.elim
        | lst xs =>
          obtain ⟨a1, us, rfl, hn, h2, hus⟩ := r1.lstAt p1 e2
          cases e3 : xs[xs.length - 1]? with
          | none => rw [show gPop (.ref n) S1 = .bad by simp only [gPop, e2, e3]] at q1; exact q1.elim
          | some y =>
            rw [show gPop (.ref n) S1 = .ok y (S1.set n (.lst xs.dropLast)) by simp only [gPop, e2, e3]] at q1
            obtain ⟨u, hu1, hu2⟩ := VRs.get hus e3
            have hm := List.mem_of_getElem? hn
            have st : Step ρ1 H1 ρ1 (upd H1 a1 (.lst us.dropLast)) := .write hm
            exact ⟨.inl ⟨rfl, us, .of h2⟩, a1, us, u, rfl, rfl, h2, by rw [← VRs.len hus]; exact hu1, q1 ρ1 u _ st (r1.write hn ⟨_, upd_same, r1.vrs st hus.dropLast⟩) (r1.vr st hu2)⟩
    | _ => exact q1.elim
end
end DL
/-! an own exception whose __init__ begins with super().__init__(code) -/
namespace DL
open PySem PySem.Spec L2

/-- what is told of a method that says super() -/
structure SupF (P : Program) (K : PySem.W.Frag) (f D cda cc : Addr) (name qual : Str) (params : Arguments) (body : List Stmt) (scope : Scope) (fd : FuncData) : Prop where
  fn : ∃ dV kV doc pm an ct oc od osl, fd = PySem.W.ksFn name qual params body scope dV kV doc pm an (.ref cda) ct cc ∧ K.lookup f = some ⟨oc, od, .func fd, osl⟩
  ci : PySem.W.codeIn K (.ref cda) qual = true
  code : ∃ ccl cdd vs ccs file tf, K.lookup cda = some ⟨ccl, cdd, .fields vs, ccs⟩ ∧ vs[2]? = some (.str file tf) ∧ ((P.main.file : Str) == file) = true
  cell : ∃ cl cld csl, K.lookup cc = some ⟨cl, cld, .cell (some (.ref D)), csl⟩
  cls : (PySem.W.clsIn K D).isSome = true
  top : (P.main.scope.names.lookup ("super" : Str)).isSome = false
  st : PySem.W.nsIn K cStatics "thirdparty.any" = some none

section
variable {X : Cx} {pins : List (Addr × Obj)} {σ : L2.St} {H : Hp} {s : Shared} {a C D f cda cc so u : Addr} {A : Around} {E : Value → Shared → Prop}
theorem exc_inst {d : Option Addr} (I : Inv X pins σ H s) (e : H a = some (exo a C none)) : ∃ t1 : Addr, PySem.W.InstAt s.heap a (PySem.W.excObj C t1 none .none) C none := by
  obtain ⟨t1, ho⟩ := exo_at I.hok e
  exact ⟨t1, ho, rfl, rfl, trivial⟩

theorem sup_node {name qual : Str} {params : Arguments} {body bd : List Stmt} {scope : Scope} {fd : FuncData} {p0 p1 : Pos} {attr : Str} {whole : Sem Value} {L : Addr} {ar : Arg} {Q : Value → Shared → Prop}
    (S : SupF X.prog X.K f D cda cc name qual params body scope fd) (hX : X.env = PySem.W.ksEnv qual scope L f (.ref cda) cc) (I : Inv X pins σ H s) (e : H a = some (exo a C none))
    (h0 : X.N[0]? = some ar.arg) (hs : σ[0]? = some (some (.ref a))) (hp : (params.posonlyargs ++ params.args).head? = some ar)
    (hsub : PySem.W.mroIn X.K C (.ref D) = some true) (hm : X.mg "super" = none) (hat : (attr == ("__class__" : Str)) = false)
    (hks : scope.names.lookup ("super" : Str) = some .globalImplicit) (hkc : scope.names.lookup ("__class__" : Str) = some .free) (hka : scope.names.lookup ar.arg = some .local) (hk : scope.kind = .function)
    (h : ∀ s', s'.heap.get? s.heap.objs.size = some (PySem.W.ks_superObj D a C) → Inv X ((s.heap.objs.size, PySem.W.ks_superObj D a C) :: pins) σ H s' → Q (.ref s.heap.objs.size) s') :
    _root_.PySem.wpAt (model X.prog X.w) A (.func bd X.env) (attributeBase (.Call (.Name "super" p0) [] [] p1) attr X.env whole) Q E s := by
  obtain ⟨dV, kV, doc, pm, an, ct, oc, od, osl, hfd, hf⟩ := S.fn
  obtain ⟨ccl, cdd, vs, ccs, file, tf, hcode, hvs, hfile⟩ := S.code
  obtain ⟨cl, cld, csl, hcell⟩ := S.cell
  obtain ⟨cdD, hD⟩ := Option.isSome_iff_exists.mp S.cls
  have XK : X.K.In s.heap := I.kIn
  obtain ⟨t1, J⟩ := exc_inst (d := none) I e
  have glob := I.mod.glob.keeps I.bk
  obtain ⟨mb, hb1, hb2⟩ := I.mod.blt
  have hb := hb1.keeps I.bk
  have hself : ∃ m, s.heap.Ns X.env.locals m ∧ m ar.arg = some (.ref a) := by
    obtain ⟨m, hn, hl⟩ := I.loc
    obtain ⟨u, r, l⟩ := hl 0 ar.arg (.ref a) h0 hs (.inl (by rw [hX]; exact hka))
    obtain rfl : u = Value.ref a := r
    rcases l with ⟨_, q⟩ | ⟨q, _⟩
    · exact ⟨m, hn, q⟩
    · have z : X.env.kindOf ar.arg = some .local := by rw [hX]; exact hka
      rw [z] at q
      rcases q with q | q <;> cases q
  obtain ⟨m, hn, hv⟩ := hself
  obtain ⟨oD, hD1, hD2⟩ : ∃ oD, s.heap.get? D = some oD ∧ oD.data = .cls cdD := by
    unfold PySem.W.clsIn at hD
    split at hD
    · rename_i c d cd' sl ho
      cases hD
      exact ⟨_, XK _ _ ho, rfl⟩
    · cases hD
  have fin : ∀ h', h'.get? s.heap.objs.size = some (PySem.W.ks_superObj D a C) → (∀ b o, s.heap.get? b = some o → h'.get? b = some o) → Q (.ref s.heap.objs.size) { s with heap := h' } := fun h' q k =>
    h _ q (ClX.pin_new (t' := s.toks) I k (Nat.le_refl _) q (fun v z => nomatch z))
  rw [hX] at hn ⊢
  obtain ⟨hh, g, d, t, os⟩ := s
  subst hfd
  refine ks_wpAt_super_base (env := PySem.W.ksEnv qual scope L f (.ref cda) cc) hks hkc hat rfl (XK _ _ hf) rfl hp rfl (XK _ _ hcode) rfl hvs hfile S.top ?_
  refine PySem.W.ks_loadName_global hk hks (Calls.loadGlobal_builtin (env := PySem.W.ksEnv qual scope L f (.ref cda) cc) glob hm hb ((hb2 _ (by decide)).trans (by kernel_rfl)) ⟨rfl, ?_⟩)
  refine wpAny_loadName_free hk hkc rfl ⟨_, XK _ _ hcell, rfl⟩ ?_
  refine wpAny_loadName_local hk hka hn hv ?_
  refine ks_wpAny_isType_cls hD1 hD2 ⟨rfl, ?_⟩
  refine ks_wpAny_call_super hD1 hD2 J.at_ J.cls (fun c e => ?_) (PySem.W.looks_mroIn XK hsub) (fun h' e k => ?_)
  · have := J.no
    unfold PySem.W.notCls at this
    rw [e] at this
    exact Bool.noConfusion this
  · exact fin h' e k

/-- ValueError.__init__ bound to the exception, called: nothing of it is told -/
theorem call_mw {us : List Value} {Q : Value → Shared → Prop} (T : OexC X.K C) (I : Inv X pins σ H s) (e : H a = some (exo a C none)) (hu : s.heap.get? u = some (PySem.W.kxs_mw "ValueError.__init__" a)) (hl : us.length ≤ sizeLine)
    (h : ∀ s', Inv X pins σ H s' → Q .none s') : wpAny (model X.prog X.w) A (call (.ref u) us) Q E s := by
  obtain ⟨nm, q, N, bs, bm, sn, sub, ab, col, dd, k0, k1, k2, k3, k5, hC, hbm⟩ := T.cls
  obtain ⟨t1, ho⟩ := exo_at I.hok e
  have hC' := I.kIn _ _ hC
  have fin : ∀ h' t2, (∀ b o, b ≠ a → s.heap.get? b = some o → h'.get? b = some o) → h'.get? a = some (PySem.W.excObj C t2 none .none) → Q .none { s with heap := h' } := fun h' t2 k hx => by
    have J := I.write (t' := s.toks) (x := a) (e := a) (o := exo a C none) (by rw [e]; exact True.intro) (.inl rfl) k ⟨_, hx⟩ (exo_ok hx)
    have eu : upd H a (exo a C none) = H := by
      funext b
      by_cases hb : b = a
      · rw [hb, upd_same, e]
      · rw [upd_ne hb]
    rw [eu] at J
    exact h _ J
  obtain ⟨hh, g, d, tk, os⟩ := s
  refine wpAny_call (codeAny_of_tree ?_)
  show wpAny _ A.in1 (callAny (.ref u) ⟨us, []⟩) _ _ _
  simp only [callAny]
  refine wpAny_bind (wpAny_load hu ?_)
  simp only [PySem.W.kxs_mw, show (Value.type "method-wrapper" == Value.type "method" || Value.type "method-wrapper" == Value.type "builtin_function_or_method" || Value.type "method-wrapper" == Value.type "method-wrapper") = true by decide, if_true]
  refine PySem.W.KFB.if_so (by decide) ?_
  refine wpAny_bind (PySem.W.check_bound_init PySem.F.excBase_ValueError.toExcCallFacts hC' ho rfl ?_)
  refine wpAny_bind (wpAny_pure (wpAny_pure ?_))
  refine ⟨PySem.plainId_quiet PySem.F.excBase_ValueError.init.plain _, codeAny_builtin PySem.F.excBase_ValueError.initEntry ?_⟩
  exact PySem.W.exc_init_tree (cls := .ref C) (t0 := t1) (dv := none) (c2 := .none) (c3 := .none) (b4 := .bool false) ho hl fun h' k hx _ => fin h' _ k hx

/-- where super().m leads: along the class's ways, behind D -/
theorem sup_cls {v : Value} (h : PySem.W.ks_superIn X.K C D "__init__" = some (some v)) : ∃ cd, PySem.W.clsIn X.K C = some cd ∧ PySem.W.alongIn X.K "__init__" ((cd.mro.dropWhile (· != .ref D)).drop 1) = some (some v) := by
  unfold PySem.W.ks_superIn at h
  cases hc : PySem.W.clsIn X.K C with
  | none => rw [hc] at h; cases h
  | some cd => rw [hc] at h; exact ⟨cd, rfl, h⟩

section
variable {pos apos : Pos} {x : Expr} {es : List Expr} {ta : TA} {pl : Sem Bool}
/-- super().__init__(x, ..), ValueError's -/
theorem sup_base {name qual : Str} {params : Arguments} {body bd : List Stmt} {scope : Scope} {fd : FuncData} {p0 p1 : Pos} {L : Addr} {ar : Arg} {Q : L2.St → Hp → Prop} {R : Value → Shared → Prop}
    (S : SupF X.prog X.K f D cda cc name qual params body scope fd) (hX : X.env = PySem.W.ksEnv qual scope L f (.ref cda) cc) (I : Inv X pins σ H s) (T : OexC X.K C) (e : H a = some (exo a C none))
    (h0 : X.N[0]? = some ar.arg) (hs : σ[0]? = some (some (.ref a))) (hp : (params.posonlyargs ++ params.args).head? = some ar)
    (hsub : PySem.W.mroIn X.K C (.ref D) = some true) (hm : X.mg "super" = none)
    (hks : scope.names.lookup ("super" : Str) = some .globalImplicit) (hkc : scope.names.lookup ("__class__" : Str) = some .free) (hka : scope.names.lookup ar.arg = some .local) (hk : scope.kind = .function)
    (hn : PySem.W.ks_superIn X.K C D "__init__" = some (some (.builtin "ValueError.__init__"))) (hv : PySem.W.subIn X.K (.ref C) (.type "ValueError") = some true)
    (ha : PA X (x :: es) ta) (hta : ta σ H fun vs H' => vs.length ≤ 1000 ∧ H' = H)
    (h : ∀ s', Inv X pins σ H s' → R .none s')
    (ht : eval (.Call (.Attribute (.Call (.Name "super" p0) [] [] p1) "__init__" apos) (x :: es) [] pos) X.env = (do
      let ov ← attributeBase (.Call (.Name "super" p0) [] [] p1) "__init__" X.env (eval (.Call (.Name "super" p0) [] [] p1) X.env)
      standAt apos.atName
      let (f, first) ← holding [ov] (getMethod ov "__init__" pl)
      callWith pos f first (backTo pos (starEach (x :: es) X.env)) []))
    (he : starEach (x :: es) X.env = (false, eval x X.env) :: starEach es X.env) (hpl : (backTo pos (starEach es X.env)).any (·.1) = false) :
    _root_.PySem.wpAt (model X.prog X.w) X.A (.func bd X.env) (eval (.Call (.Attribute (.Call (.Name "super" p0) [] [] p1) "__init__" apos) (x :: es) [] pos) X.env) R X.xe s := by
  refine ks_wpAt_MethodCall (pl := pl) (sup_node S hX I e h0 hs hp hsub hm (by decide) hks hkc hka hk fun s1 hso I1 => ?_) ht
  obtain ⟨t1, J⟩ := exc_inst (d := none) (ClX.unpin I1) e
  obtain ⟨cd, hc, hal⟩ := sup_cls hn
  have XK := I1.kIn
  have hI : PySem.W.Looks (model X.prog X.w) s1.heap (isInstance (.ref a) (.type "ValueError")) true := J.type.andThen (PySem.W.looks_subIn XK hv)
  have hC : PySem.W.Looks (model X.prog X.w) s1.heap (mroOf (.ref C)) cd.mro := (PySem.W.looks_clsIn XK hc).andThen .now
  have go : ∀ s2, s2.heap.get? s1.heap.objs.size = some (PySem.W.kxs_mw "ValueError.__init__" a) → Inv X ((s1.heap.objs.size, PySem.W.kxs_mw "ValueError.__init__" a) :: pins) σ H s2 →
      wpAny (model X.prog X.w) X.A (callWith pos (.ref s1.heap.objs.size) [] (backTo pos (starEach (x :: es) X.env)) []) R X.xe s2 := fun s2 _ I2 => by
    have g := fun (Q : Value → Shared → Prop) (h : wpAny (model X.prog X.w) X.A (spliced (backTo pos (starEach (x :: es) X.env))) (fun vs s₁ => PySem.W.KxsAt "ValueError.__init__" s1.heap.objs.size a s₁.heap ∧ wpAny (model X.prog X.w) X.A (call (.ref s1.heap.objs.size) vs) Q X.xe s₁) X.xe s2) =>
      show wpAny (model X.prog X.w) X.A (callWith pos (.ref s1.heap.objs.size) [] (backTo pos (starEach (x :: es) X.env)) []) Q X.xe s2 from by
        rw [he] at h ⊢
        refine PySem.W.kxs_callWith (i := "ValueError.__init__") (x := a) (by show (false || (backTo pos (starEach es X.env)).any (·.1)) = false; rw [hpl]; rfl) ?_
        exact PySem.Calls.evalArgs_plain h
    refine g R (thn (ha.run pos _ s2 σ H _ I2 hta) fun us s3 ⟨vs, H2, I3, rv, hlen, eH⟩ => ?_)
    subst eH
    refine ⟨ClX.pin_at I3, call_mw T (ClX.unpin I3) e (ClX.pin_at I3) (by rw [← Paired.length rv, sizeLine_eq]; omega) fun s' I4 => h s' I4⟩
  have kont : ∀ h' t', (∀ b o, s1.heap.get? b = some o → h'.get? b = some o) → h'.get? s1.heap.objs.size = some (PySem.W.kxs_mw "ValueError.__init__" a) →
      wpAny (model X.prog X.w) X.A (callWith pos (.ref s1.heap.objs.size) [] (backTo pos (starEach (x :: es) X.env)) []) R X.xe { s1 with heap := h', toks := t' } := fun h' t' k q =>
    go _ q (ClX.pin_new (ClX.unpin I1) k (Nat.le_refl _) q (fun v z => nomatch z))
  obtain ⟨hh, g, d, tk, os⟩ := s1
  refine PySem.W.kxs_getMethod PySem.W.kxs_ValueError hso (PySem.W.looks_opaque XK S.st) hC rfl XK hal hI (PySem.W.ks_ne XK J hc) (by decide) ?_
  exact kont _ _ (fun _ _ z => Heap.get?_push_of_some _ z) (Heap.get?_push_at rfl rfl)
end
end
end DL
namespace DL
open PySem PySem.Spec L2
section
variable {X : Cx} {pins : List (Addr × Obj)} {σ : L2.St} {H : Hp} {s : Shared} {a C D f cda cc so u f2 : Addr} {A : Around} {E : Value → Shared → Prop}
variable {pos apos : Pos} {x : Expr} {es : List Expr} {ta : TA} {pl : Sem Bool}
/-- super().__init__(x, ..), an own one -/
theorem sup_own {name qual : Str} {params : Arguments} {body bd : List Stmt} {scope : Scope} {fd fd2 : FuncData} {p0 p1 : Pos} {L : Addr} {ar : Arg} {Q : Hp → Prop} {R : Value → Shared → Prop} {k : Nat} {ps : List Str} {sp : Sp} {vs : List V} {us0 : List Value}
    (S : SupF X.prog X.K f D cda cc name qual params body scope fd) (hX : X.env = PySem.W.ksEnv qual scope L f (.ref cda) cc) (I : Inv X pins σ H s) (T : OexC X.K C) (e : H a = some (exo a C none))
    (h0 : X.N[0]? = some ar.arg) (hs : σ[0]? = some (some (.ref a))) (hp : (params.posonlyargs ++ params.args).head? = some ar)
    (hsub : PySem.W.mroIn X.K C (.ref D) = some true) (hm : X.mg "super" = none)
    (hks : scope.names.lookup ("super" : Str) = some .globalImplicit) (hkc : scope.names.lookup ("__class__" : Str) = some .free) (hka : scope.names.lookup ar.arg = some .local) (hk : scope.kind = .function)
    (hn : PySem.W.ks_superIn X.K C D "__init__" = some (some (.ref f2))) (ht2 : PySem.W.typeIn X.K (.ref f2) = some (.type "function")) (hf2 : PySem.W.fnIn X.K f2 = true)
    (F2 : FnOk X.prog X.w X.K X.mg X.base (L2.CX X.prog X.w) k f2 fd2 ps sp) (hr : Room k X.A) (hb2 : Binds X.K fd2 ps []) (hx : Passes (L2.CX X.prog X.w) X (fun _ _ _ => False))
    (ha : PA X (x :: es) ta) (hta : ta σ H fun ws H' => ws = vs ∧ H' = H) (hsp : sp (.ref a :: vs) H (fun _ H' => Q H') (fun _ _ _ => False))
    (h : ∀ u s' H', Inv X pins σ H' s' → Q H' → R u s')
    (ht : eval (.Call (.Attribute (.Call (.Name "super" p0) [] [] p1) "__init__" apos) (x :: es) [] pos) X.env = (do
      let ov ← attributeBase (.Call (.Name "super" p0) [] [] p1) "__init__" X.env (eval (.Call (.Name "super" p0) [] [] p1) X.env)
      standAt apos.atName
      let (f, first) ← holding [ov] (getMethod ov "__init__" pl)
      callWith pos f first (backTo pos (starEach (x :: es) X.env)) []))
    (he : starEach (x :: es) X.env = (false, eval x X.env) :: starEach es X.env) (hpl : (backTo pos (starEach es X.env)).any (·.1) = false) :
    _root_.PySem.wpAt (model X.prog X.w) X.A (.func bd X.env) (eval (.Call (.Attribute (.Call (.Name "super" p0) [] [] p1) "__init__" apos) (x :: es) [] pos) X.env) R X.xe s := by
  refine ks_wpAt_MethodCall (pl := pl) (sup_node S hX I e h0 hs hp hsub hm (by decide) hks hkc hka hk fun s1 hso I1 => ?_) ht
  obtain ⟨t1, J⟩ := exc_inst (d := none) (ClX.unpin I1) e
  obtain ⟨cd, hc, hal⟩ := sup_cls hn
  have XK := I1.kIn
  have hC : PySem.W.Looks (model X.prog X.w) s1.heap (mroOf (.ref C)) cd.mro := (PySem.W.looks_clsIn XK hc).andThen .now
  obtain ⟨of, hof, hofc⟩ : ∃ of, s1.heap.get? f2 = some of ∧ of.cls = .type "function" := by
    have ht' : (X.K.lookup f2).map (·.cls) = some (.type "function") := ht2
    cases z : X.K.lookup f2 with
    | none => rw [z] at ht'; cases ht'
    | some of => rw [z] at ht'; exact ⟨of, XK _ _ z, Option.some.inj ht'⟩
  have go : ∀ s2, X.base.get? s1.heap.objs.size = none → Inv X ((s1.heap.objs.size, PySem.W.methodObj (.ref f2) (.ref a)) :: pins) σ H s2 →
      wpAny (model X.prog X.w) X.A (callWith pos (.ref s1.heap.objs.size) [] (backTo pos (starEach (x :: es) X.env)) []) R X.xe s2 := fun s2 hbn I2 => by
    refine ClX.callwith_cm I2 hbn hf2 (thn (ha.run pos _ s2 σ H _ I2 hta) fun us s3 ⟨vs', H2, I3, rv, ev, eH⟩ => ⟨⟨ClX.pin_at I3, I3.kIn⟩, ?_⟩) he hpl
    subst ev eH
    have hl : (Value.ref a :: us).length = ps.length := by
      have q := F2.len _ _ _ _ hsp
      rw [← q, List.length_cons, List.length_cons, ← Paired.length rv]
    have b := hb2 s3 (Value.ref a :: us) I3.kIn (by rw [List.append_nil]; exact hl)
    rw [List.append_nil] at b
    refine wpAny_call (PySem.W.method_call (ClX.pin_at I3) (codeAny_mono (F2.run X.A X.stack s3 H2 ⟨.ref a :: us, []⟩ (.ref a :: us) (.ref a :: vs') _ _ hr I3.env0 b (.cons rfl rv) hsp) fun r s' hq => ?_))
    cases r with
    | error er => exact hx _ σ H2 _ er s' I3 hq
    | ok fl =>
      cases fl with
      | ret u =>
        obtain ⟨v, H', I4, r4, q4⟩ := I3.after hq
        exact h u s' H' (ClX.unpin I4) q4
      | next => exact False.elim hq
      | brk => exact False.elim hq
      | cont => exact False.elim hq
  have kont : ∀ h' t', (∀ b o, s1.heap.get? b = some o → h'.get? b = some o) → h'.get? s1.heap.objs.size = some (PySem.W.methodObj (.ref f2) (.ref a)) →
      wpAny (model X.prog X.w) X.A (callWith pos (.ref s1.heap.objs.size) [] (backTo pos (starEach (x :: es) X.env)) []) R X.xe { s1 with heap := h', toks := t' } := fun h' t' k q =>
    go _ (ClX.base_none I1 (Nat.le_refl _)) (ClX.pin_new (ClX.unpin I1) k (Nat.le_refl _) q (fun v z => nomatch z))
  obtain ⟨hh, g, d, tk, os⟩ := s1
  refine ks_wpAny_getMethod_super hso (PySem.W.looks_opaque XK S.st) hC rfl XK hal hof hofc (PySem.W.ks_ne XK J hc) (by decide) ?_
  exact kont _ _ (fun _ _ z => Heap.get?_push_of_some _ z) (Heap.get?_push_at rfl rfl)
end
/-! ### a method that says super(): by its first line and the rest -/
def nfOf (name qual : Str) (params : Arguments) (body : List Stmt) (scope : Scope) (cda cc : Addr) : NdefX.NF := ⟨name, qual, params, body, scope, [("__class__", cc)], cda⟩
section
variable {P : Program} {w : World} {K : PySem.W.Frag} {mg : Str → Option Value} {base : Heap} {CX : CXT} {k : Nat} {f D cda cc : Addr} {name qual : Str} {params : Arguments} {st1 : Stmt} {rest : List Stmt} {scope : Scope} {fd : FuncData} {N ps : List Str} {sp : Sp}
abbrev supX (CX : CXT) (P : Program) (w : World) (K : PySem.W.Frag) (mg : Str → Option Value) (base : Heap) (N : List Str) (name qual : Str) (params : Arguments) (body : List Stmt) (scope : Scope) (cda cc f : Addr) (A : Around) (outer : List Env) (s : Shared) (H : Hp) (E : XK) : Cx :=
  NdefX.ncx CX P w K mg base N (nfOf name qual params body scope cda cc) f A outer s H E
theorem fn_sup (S : SupF P K f D cda cc name qual params (st1 :: rest) scope fd) (sc : NdefX.NScope N ps ["__class__"] scope) (len : ∀ vs H Q E, sp vs H Q E → vs.length = ps.length)
    (hbody : ∀ (A : Around) (outer : List Env) (s : Shared) (H : Hp) (vs : List V) (Q : VK) (E : XK), Room k (A.deeper (PySem.W.ksEnv qual scope s.heap.objs.size f (.ref cda) cc)) → sp vs H Q E →
      ∃ t : TS, (∀ s1, Inv (supX CX P w K mg base N name qual params (st1 :: rest) scope cda cc f A outer s H E) [] (NdefX.startF N vs [none]) H s1 →
          _root_.PySem.wpAt (model P w) (A.deeper (PySem.W.ksEnv qual scope s.heap.objs.size f (.ref cda) cc)) (.func (st1 :: rest) (PySem.W.ksEnv qual scope s.heap.objs.size f (.ref cda) cc)) (exec st1 (PySem.W.ksEnv qual scope s.heap.objs.size f (.ref cda) cc))
            (fun fl s' => fl = .next ∧ ∃ σ' H', Inv (supX CX P w K mg base N name qual params (st1 :: rest) scope cda cc f A outer s H E) [] σ' H' s' ∧ t { nx := fun _ H' => Q .non H', rt := Q } σ' H')
            (supX CX P w K mg base N name qual params (st1 :: rest) scope cda cc f A outer s H E).xe s1) ∧
        PSs (supX CX P w K mg base N name qual params (st1 :: rest) scope cda cc f A outer s H E) rest t) :
    FnOk P w K mg base CX (k + 1) f fd ps sp := by
  refine ⟨len, fun A outer s H args us vs Q E hr e0 hb r hsp => ?_⟩
  obtain ⟨dV, kV, doc, pm, an, ct, oc, od, osl, hfd, lk⟩ := S.fn
  subst hfd
  have hl := len _ _ _ _ hsp
  have KX : K.In s.heap := e0.mod.kin.keeps fun b o e => (e0.bs b o e).1
  have lim : s.heap.NoLimit := e0.mod.nolimit.keeps fun b o e => (e0.bs b o e).1
  obtain ⟨cl, cld, csl, hcell⟩ := S.cell
  obtain ⟨t, h1, hrest⟩ := hbody A outer s H vs Q E (hr.deeper _) hsp
  refine ks_codeAny_call_defAt (fd := PySem.W.ksFn name qual params (st1 :: rest) scope dV kV doc pm an (.ref cda) ct cc) (body := st1 :: rest) (binds := ps.zip us) hr.depth (KX _ _ lk) rfl lim (PySem.W.codeRec_of KX S.ci) rfl hb (fun y hy => sc.nocell y hy) (fun y hy => sc.par y.1 (List.of_mem_zip hy).1) (fun h₁ hns kp => ?_) sc.co sc.gen sc.kind
  have I : Inv (supX CX P w K mg base N name qual params (st1 :: rest) scope cda cc f A outer s H E) [] (NdefX.startF N vs [none]) H { s with heap := h₁, toks := s.toks + (ps.zip us).length } := by
    refine NdefX.inv_startN (fr := ["__class__"]) sc hr.hd e0 hl r ⟨rfl, fun y c hy => ?_, fun y z c hy hz => ?_, fun i y hi => ?_⟩ hns kp
    · have hy : List.lookup y [(("__class__" : Str), cc)] = some c := hy
      have e : c = cc := by
        simp only [List.lookup] at hy
        split at hy
        · exact (Option.some.inj hy).symm
        · cases hy
      subst e
      have q := e0.bs _ _ (e0.mod.kin _ _ hcell)
      exact ⟨q.2, some (.ref D), _, q.1, rfl⟩
    · have key : ∀ {y}, List.lookup y [(("__class__" : Str), cc)] = some c → y = "__class__" := fun {y} hy => by
        simp only [List.lookup] at hy
        split at hy
        · rename_i q
          exact beq_iff_eq.mp q
        · cases hy
      rw [key hy, key hz]
    · cases i with
      | zero =>
        have e : y = "__class__" := (Option.some.inj hi).symm
        subst e
        exact ⟨cc, by show List.lookup ("__class__" : Str) [(("__class__" : Str), cc)] = some cc; simp [List.lookup], fun v hv => by cases hv⟩
      | succ i => simp at hi
  refine ks_wpAt_execs_cons (ks_wpAt_mono (h1 _ I) (fun fl s' hs => ?_) fun e s' hs => hs)
  obtain ⟨rfl, σ', H', J, q⟩ := hs
  refine wpAt_of_wpAny (wpAny_mono (hrest.run [] s' σ' H' _ J q) (fun fl s' hs => ?_) fun e s' hs => hs)
  have fin : ∀ {σ' : L2.St} {H' : Hp} {v : V} {u : Value}, Inv (supX CX P w K mg base N name qual params (st1 :: rest) scope cda cc f A outer s H E) [] σ' H' s' → RelV v u → Q v H' → CE outer P w H s Q u s' :=
    fun {σ' H' v u} J rv q => ⟨v, H', J.os, J.bare, J.base, J.hok, rv, q⟩
  cases fl with
  | ret u =>
    obtain ⟨v, σ', H', J, rv, q⟩ := hs
    exact fin J rv q
  | next =>
    obtain ⟨σ', H', J, q⟩ := hs
    exact fin (v := V.non) (u := Value.none) J rfl q
  | brk =>
    obtain ⟨_, _, _, q⟩ := hs
    exact False.elim q
  | cont =>
    obtain ⟨_, _, _, q⟩ := hs
    exact False.elim q
end
end DL
namespace DL
open PySem PySem.Spec L2
theorem takes_no {X : Cx} : Takes X (fun _ _ _ _ => False) := fun _ _ ⟨_, _, _, _, _, _, _, _, _, _, _, _, _, _, _, _, w⟩ => w.elim
/-- C below D: what super() within D's method finds for C's instances -/
structure SupC (K : PySem.W.Frag) (C D : Addr) (v : Value) : Prop where
  sub : PySem.W.mroIn K C (.ref D) = some true
  nx : PySem.W.ks_superIn K C D "__init__" = some (some v)
def excS (H : Hp) (a C dx : Addr) (fs : List (Str × V)) : Hp := upd (upd H dx (exd dx fs)) a (exo a C (some dx))
/-- __init__(self, code): super().__init__(code); self.code = code -/
def spS (K : PySem.W.Frag) (D : Addr) : Sp := fun vs H Q _ => ∃ (a C : Addr) (c : V), vs = [.ref a, c] ∧ OexC K C ∧ H a = some (exo a C none) ∧ SupC K C D (.builtin "ValueError.__init__") ∧ PySem.W.subIn K (.ref C) (.type "ValueError") = some true ∧
  PySem.W.findIn K (.ref C) "code" = some none ∧ ∀ dx, H dx = none → dx ≠ a → Q .non (excS H a C dx [("code", c)])
/-- __init__(self, code, n): super().__init__(code); self.n = n -/
def spT (K : PySem.W.Frag) (D D0 f0 : Addr) (n : Str) : Sp := fun vs H Q _ => ∃ (a C : Addr) (c p : V), vs = [.ref a, c, p] ∧ OexC K C ∧ H a = some (exo a C none) ∧ SupC K C D (.ref f0) ∧ SupC K C D0 (.builtin "ValueError.__init__") ∧ PySem.W.subIn K (.ref C) (.type "ValueError") = some true ∧
  PySem.W.findIn K (.ref C) "code" = some none ∧ PySem.W.findIn K (.ref C) n = some none ∧ ∀ dx, H dx = none → dx ≠ a → Q .non (excS H a C dx [(n, p), ("code", c)])
section
variable {P : Program} {w : World} {K : PySem.W.Frag} {mg : Str → Option Value} {base : Heap} {k : Nat} {f D D0 f0 cda cc : Addr} {name qual : Str} {params : Arguments} {scope : Scope} {fd fd0 : FuncData} {p0 p1 p2 p3 p4 p5 p6 p7 p8 p9 : Pos} {a0 a1 a2 : Arg} {n : Str}
abbrev supE (p0 p1 p2 p3 p4 : Pos) : Expr := .Call (.Attribute (.Call (.Name "super" p0) [] [] p1) "__init__" p2) [.Name "code" p3] [] p4
abbrev bodyS (n : Str) (p0 p1 p2 p3 p4 p5 p6 p7 p8 p9 : Pos) : List Stmt := [.Expr (supE p0 p1 p2 p3 p4) p5, .Assign [.Attribute (.Name "self" p6) n p7] (.Name n p8) p9]
theorem exc_upd {H : Hp} {a C dx : Addr} {fs gs : List (Str × V)} (h : dx ≠ a) : upd (excS H a C dx fs) dx (exd dx gs) = excS H a C dx gs := by
  funext b
  unfold excS
  by_cases hb : b = dx
  · subst hb
    rw [upd_same, upd_ne h, upd_same]
  · rw [upd_ne hb]
    by_cases ha : b = a
    · subst ha
      rw [upd_same, upd_same]
    · rw [upd_ne ha, upd_ne ha, upd_ne hb, upd_ne hb]
theorem fn_S (S : SupF P K f D cda cc name qual params (bodyS "code" p0 p1 p2 p3 p4 p5 p6 p7 p8 p9) scope fd) (sc : NdefX.NScope ["self", "code", "__class__"] ["self", "code"] ["__class__"] scope)
    (hp : (params.posonlyargs ++ params.args).head? = some a0) (ha0 : a0.arg = "self") (hsu : scope.names.lookup ("super" : Str) = some .globalImplicit) (hm : mg "super" = none)
    (hs : ∀ env : Env, swapsWith (supE p0 p1 p2 p3 p4) none p5.line env = pure false) (hs2 : ∀ env : Env, swapsWith (.Name "code" p8) (some (.Attribute (.Name "self" p6) "code" p7)) p9.line env = pure false)
    (ht : ∀ env : Env, ∃ pl, eval (supE p0 p1 p2 p3 p4) env = (do
      let ov ← attributeBase (.Call (.Name "super" p0) [] [] p1) "__init__" env (eval (.Call (.Name "super" p0) [] [] p1) env)
      standAt p2.atName
      let (f, first) ← holding [ov] (getMethod ov "__init__" pl)
      callWith p4 f first (backTo p4 (starEach [.Name "code" p3] env)) [])) :
    FnOk P w K mg base (L2.CX P w) (k + 1) f fd ["self", "code"] (spS K D) := by
  refine fn_sup S sc (fun vs H Q E h => ?_) (fun A outer s H vs Q E hr h => ?_)
  · obtain ⟨a, C, c, rfl, _⟩ := h
    rfl
  · obtain ⟨a, C, c, rfl, T, ea, sC, sV, fc, q⟩ := h
    have kS : scope.names.lookup a0.arg = some .local := by rw [ha0]; exact sc.par _ (by simp)
    have kC : scope.names.lookup ("code" : Str) = some .local := sc.par _ (by simp)
    have kX : scope.names.lookup ("__class__" : Str) = some .free := sc.frk _ (by simp)
    refine ⟨tOst K "code" (tVar 0) (tVar 1), fun s1 I => ?_, pss_one (ps_ost (pe_var (i := 0) rfl (.inl (by show scope.names.lookup ("self" : Str) = _; rw [← ha0]; exact kS))) (pe_var (i := 1) rfl (.inl kC)) (hs2 _))⟩
    obtain ⟨pl, ht⟩ := ht (PySem.W.ksEnv qual scope s.heap.objs.size f (.ref cda) cc)
    refine ks_wpAt_Expr_any ?_ (by show interactive (PySem.W.ksEnv qual scope s.heap.objs.size f (.ref cda) cc) = false; unfold interactive; rw [show (PySem.W.ksEnv qual scope s.heap.objs.size f (.ref cda) cc).scope.kind = .function from sc.kind]; rfl) (hs _)
    refine sup_base (X := supX (L2.CX P w) P w K mg base ["self", "code", "__class__"] name qual params (bodyS "code" p0 p1 p2 p3 p4 p5 p6 p7 p8 p9) scope cda cc f A outer s H E) (ta := tCons (tVar 1) tNil) (Q := fun _ _ => True) (ar := a0) (L := s.heap.objs.size) S rfl I T ea (by rw [ha0]; rfl) rfl hp sC.sub hm hsu kX kS sc.kind sC.nx sV
      (pa_cons (pe_var (i := 1) rfl (.inl kC)) pa_nil) ⟨c, rfl, by show 1 ≤ 1000; omega, rfl⟩ (fun s' I' => ⟨rfl, _, _, I', ?_⟩) ht rfl rfl
    exact ⟨c, rfl, .ref a, rfl, a, C, rfl, T, fc, .inl ⟨ea, q⟩⟩
theorem fn_T (S : SupF P K f D cda cc name qual params (bodyS n p0 p1 p2 p3 p4 p5 p6 p7 p8 p9) scope fd) (sc : NdefX.NScope ["self", "code", n, "__class__"] ["self", "code", n] ["__class__"] scope)
    (F0 : FnOk P w K mg base (L2.CX P w) k f0 fd0 ["self", "code"] (spS K D0)) (b0 : Binds K fd0 ["self", "code"] []) (t0 : PySem.W.typeIn K (.ref f0) = some (.type "function")) (i0 : PySem.W.fnIn K f0 = true)
    (hp : (params.posonlyargs ++ params.args).head? = some a0) (ha0 : a0.arg = "self") (hsu : scope.names.lookup ("super" : Str) = some .globalImplicit) (hm : mg "super" = none)
    (hn : (n == ("__debug__" : Str)) = false) (hn2 : (n == ("__classdict__" : Str)) = false)
    (hs : ∀ env : Env, swapsWith (supE p0 p1 p2 p3 p4) none p5.line env = pure false) (hs2 : ∀ env : Env, swapsWith (.Name n p8) (some (.Attribute (.Name "self" p6) n p7)) p9.line env = pure false)
    (ht : ∀ env : Env, ∃ pl, eval (supE p0 p1 p2 p3 p4) env = (do
      let ov ← attributeBase (.Call (.Name "super" p0) [] [] p1) "__init__" env (eval (.Call (.Name "super" p0) [] [] p1) env)
      standAt p2.atName
      let (f, first) ← holding [ov] (getMethod ov "__init__" pl)
      callWith p4 f first (backTo p4 (starEach [.Name "code" p3] env)) [])) :
    FnOk P w K mg base (L2.CX P w) (k + 1) f fd ["self", "code", n] (spT K D D0 f0 n) := by
  refine fn_sup S sc (fun vs H Q E h => ?_) (fun A outer s H vs Q E hr h => ?_)
  · obtain ⟨a, C, c, p, rfl, _⟩ := h
    rfl
  · obtain ⟨a, C, c, p, rfl, T, ea, sC, sC0, sV, fc, fn, q⟩ := h
    have kS : scope.names.lookup a0.arg = some .local := by rw [ha0]; exact sc.par _ (by simp)
    have kC : scope.names.lookup ("code" : Str) = some .local := sc.par _ (by simp)
    have kN : scope.names.lookup n = some .local := sc.par _ (by simp)
    have kX : scope.names.lookup ("__class__" : Str) = some .free := sc.frk _ (by simp)
    refine ⟨tOst K n (tVar 0) (tVar 2), fun s1 I => ?_, pss_one (ps_ost (pe_var (i := 0) rfl (.inl (by show scope.names.lookup ("self" : Str) = _; rw [← ha0]; exact kS))) (pe_var (i := 2) rfl (.inl kN) hn hn2) (hs2 _))⟩
    obtain ⟨pl, ht⟩ := ht (PySem.W.ksEnv qual scope s.heap.objs.size f (.ref cda) cc)
    refine ks_wpAt_Expr_any ?_ (by show interactive (PySem.W.ksEnv qual scope s.heap.objs.size f (.ref cda) cc) = false; unfold interactive; rw [show (PySem.W.ksEnv qual scope s.heap.objs.size f (.ref cda) cc).scope.kind = .function from sc.kind]; rfl) (hs _)
    refine sup_own (X := supX (L2.CX P w) P w K mg base ["self", "code", n, "__class__"] name qual params (bodyS n p0 p1 p2 p3 p4 p5 p6 p7 p8 p9) scope cda cc f A outer s H E) (ta := tCons (tVar 1) tNil) (vs := [c]) (us0 := [])
      (Q := fun H' => ∃ dx, H dx = none ∧ dx ≠ a ∧ H' = excS H a C dx [("code", c)]) (ar := a0) (L := s.heap.objs.size) S rfl I T ea (by rw [ha0]; rfl) rfl hp sC.sub hm hsu kX kS sc.kind sC.nx t0 i0 F0 hr b0
      (passes_call (W := fun _ _ _ _ => False) takes_no fun _ _ _ _ z => z.elim)
      (pa_cons (pe_var (i := 1) rfl (.inl kC)) pa_nil) ⟨c, rfl, rfl, rfl⟩ ⟨a, C, c, rfl, T, ea, sC0, sV, fc, fun dx h1 h2 => ⟨dx, h1, h2, rfl⟩⟩ (fun u s' H' I' ⟨dx, h1, h2, eH⟩ => ⟨rfl, _, _, I', ?_⟩) ht rfl rfl
    subst eH
    refine ⟨p, rfl, .ref a, rfl, a, C, rfl, T, fn, .inr ⟨dx, [("code", c)], ?_, ?_, by show 1 ≤ 900; omega, ?_⟩⟩
    · exact upd_same
    · unfold excS
      rw [upd_ne h2, upd_same]
    · rw [exc_upd h2]
      exact q dx h1 h2
end
end DL
/-! raise of own exceptions -/
namespace DL
open PySem PySem.Spec L2
def dRaise (x : Str) (mk : List D → Option (List (Str × D))) (fs : DA) : DS := fun δ S => (fs δ S).thenF δ fun ds S1 => match mk ds with
  | some l => .exc ⟨x, l⟩ δ S1
  | none => .bad
def mkS : List D → Option (List (Str × D)) := fun ds => match ds with
  | [c] => some [("code", c)]
  | _ => none
def mkT (n : Str) : List D → Option (List (Str × D)) := fun ds => match ds with
  | [c, p] => some [(n, p), ("code", c)]
  | _ => none
/-- an own class over SolverError, whose __init__ is SolverError's -/
structure ExS (K : PySem.W.Frag) (C D fI : Addr) : Prop where
  oex : OexC K C
  ini : PySem.W.findIn K (.ref C) "__init__" = some (some (.ref fI))
  ty : PySem.W.typeIn K (.ref fI) = some (.type "function")
  sup : SupC K C D (.builtin "ValueError.__init__")
  ve : PySem.W.subIn K (.ref C) (.type "ValueError") = some true
  noc : PySem.W.findIn K (.ref C) "code" = some none
/-- .. with an own __init__ and one more field -/
structure ExT (K : PySem.W.Frag) (C D D0 fI f0 : Addr) (n : Str) : Prop where
  oex : OexC K C
  ini : PySem.W.findIn K (.ref C) "__init__" = some (some (.ref fI))
  ty : PySem.W.typeIn K (.ref fI) = some (.type "function")
  sup : SupC K C D (.ref f0)
  sup0 : SupC K C D0 (.builtin "ValueError.__init__")
  ve : PySem.W.subIn K (.ref C) (.type "ValueError") = some true
  noc : PySem.W.findIn K (.ref C) "code" = some none
  non : PySem.W.findIn K (.ref C) n = some none
section
variable {Ω : Wd} {ρ : List Addr} {H : Hp} {S : Store}
/-- an exception's dict is laid beside the store -/
theorem Rel.xd {dx : Addr} {fv : List (Str × V)} (r : Rel Ω ρ H S) (n : H dx = none) : Step ρ H ρ (upd H dx (.xd fv)) ∧ Rel Ω ρ (upd H dx (.xd fv)) S ∧ dx ∉ ρ := by
  have nm : dx ∉ ρ := fun m => by
    have := r.mv m
    rw [n] at this
    exact this
  have st : Step ρ H ρ (upd H dx (.xd fv)) := ⟨List.prefix_rfl, fun a o e _ => by rw [upd_ne (fun z => by rw [z, n] at e; cases e)]; exact e, fun a m q => absurd m q⟩
  refine ⟨st, ⟨r.len, r.nd, fun i a o e1 e2 => ?_⟩, nm⟩
  have q := r.ob i a o e1 e2
  have ha : a ≠ dx := fun z => nm (z ▸ List.mem_of_getElem? e1)
  cases o with
  | lst ds => obtain ⟨vs, e, z⟩ := q; exact ⟨vs, by rw [upd_ne ha]; exact e, r.vrs st z⟩
  | dK lk kvs => obtain ⟨kv, z, e1, e2⟩ := q; exact ⟨kv, r.kvr st z, fun l => by rw [upd_ne ha]; exact e1 l, fun l => by rw [upd_ne ha]; exact e2 l⟩
  | ins c fs => obtain ⟨C, d, fv, h1, h2, z⟩ := q; exact ⟨C, d, fv, h1, by rw [upd_ne ha]; exact h2, r.kvr st z⟩
theorem exc_end {a C dx : Addr} {fs : List (Str × V)} (na : H a = none) (hd : dx ≠ a) : upd (L2.del (excS (upd H a (exo a C none)) a C dx fs) a) dx (.xd fs) = upd H dx (.xd fs) := by
  funext b
  by_cases hb : b = dx
  · rw [hb, upd_same, upd_same]
  · rw [upd_ne hb, upd_ne hb]
    by_cases ha : b = a
    · rw [ha, L2.del_same, na]
    · rw [L2.del_ne ha]
      unfold excS
      rw [upd_ne ha, upd_ne hb, upd_ne ha]
end
section
variable {X : Cx} {W : WX} {p pos pos' : Pos} {e : Expr} {es : List Expr} {fs : DA} {x n : Str} {C D D0 fI f0 : Addr} {fd : FuncData} {k : Nat}
theorem js_raiseS (T : ExS X.K C D fI) (F1 : FnOk X.prog X.w X.K X.mg X.base (L2.CX X.prog X.w) k fI fd ["self", "code"] (spS X.K D)) (hr : Room (k + 1) X.A) (hb : Binds X.K fd ["self", "code"] []) (hm : X.mg x = some (.ref C))
    (hc : X.calm = true) (tk : Takes X W) (ha : JA X W (e :: es) fs) (hg : Gl X x := by rfl)
    (hdb : (x == ("__debug__" : Str)) = false := by decide) (he : starEach (e :: es) X.env = (false, eval e X.env) :: starEach es X.env := by rfl) (hpl : (backTo pos (starEach es X.env)).any (·.1) = false := by rfl) :
    JS X W (.Raise (some (.Call (.Name x p) (e :: es) [] pos)) none pos') (dRaise x mkS fs) := by
  refine ps_imp (ps_raise hc tk (pmk_oex (ds := []) (dvs := []) T.oex T.ini T.ty F1 hr hb .nil (passes_call (W := fun _ _ _ _ => False) takes_no fun _ _ _ _ z => z.elim) hg hm ha hdb he hpl)) fun E σ H ⟨ρ, δ, S, r, rs, h⟩ => ?_
  refine ⟨ρ, δ, S, r, rs, LF.of r rs h fun ρ1 ds S1 vs H1 s r1 p rs1 h1 => ?_⟩
  match ds, p, h1 with
  | [c], ⟨v, _, ev, hv, en⟩, h1 =>
    subst ev
    cases en
    refine ⟨by show 1 ≤ 1000; omega, fun a na => ⟨a, C, v, rfl, T.oex, upd_same, T.sup, T.ve, T.noc, fun dx hd hda => ⟨rfl, dx, [("code", v)], upd_same, ?_, ?_, ?_⟩⟩⟩
    · unfold excS; rw [upd_ne hda, upd_same]
    · rw [upd_ne hda] at hd; exact hd
    · rw [exc_end na hda]
      have nd : H1 dx = none := by rw [upd_ne hda] at hd; exact hd
      obtain ⟨st, r2, nm⟩ := r1.xd (fv := [("code", v)]) nd
      exact h1 ρ1 _ _ σ _ st r2 (r1.rs st rs1) ⟨C, dx, _, hm, rfl, rfl, upd_same, nm, v, [], rfl, r1.vr st hv, rfl⟩
  | [], _, h1 => exact h1.elim
  | _ :: _ :: _, _, h1 => exact h1.elim
theorem js_raiseT (T : ExT X.K C D D0 fI f0 n) (F1 : FnOk X.prog X.w X.K X.mg X.base (L2.CX X.prog X.w) k fI fd ["self", "code", n] (spT X.K D D0 f0 n)) (hr : Room (k + 1) X.A) (hb : Binds X.K fd ["self", "code", n] []) (hm : X.mg x = some (.ref C))
    (hc : X.calm = true) (tk : Takes X W) (ha : JA X W (e :: es) fs) (hg : Gl X x := by rfl)
    (hdb : (x == ("__debug__" : Str)) = false := by decide) (he : starEach (e :: es) X.env = (false, eval e X.env) :: starEach es X.env := by rfl) (hpl : (backTo pos (starEach es X.env)).any (·.1) = false := by rfl) :
    JS X W (.Raise (some (.Call (.Name x p) (e :: es) [] pos)) none pos') (dRaise x (mkT n) fs) := by
  refine ps_imp (ps_raise hc tk (pmk_oex (ds := []) (dvs := []) T.oex T.ini T.ty F1 hr hb .nil (passes_call (W := fun _ _ _ _ => False) takes_no fun _ _ _ _ z => z.elim) hg hm ha hdb he hpl)) fun E σ H ⟨ρ, δ, S, r, rs, h⟩ => ?_
  refine ⟨ρ, δ, S, r, rs, LF.of r rs h fun ρ1 ds S1 vs H1 s r1 p rs1 h1 => ?_⟩
  match ds, p, h1 with
  | [c, q], ⟨v, _, ev, hv, u, _, eu, hu, en⟩, h1 =>
    subst ev
    subst eu
    cases en
    refine ⟨by show 2 ≤ 1000; omega, fun a na => ⟨a, C, v, u, rfl, T.oex, upd_same, T.sup, T.sup0, T.ve, T.noc, T.non, fun dx hd hda => ⟨rfl, dx, [(n, u), ("code", v)], upd_same, ?_, ?_, ?_⟩⟩⟩
    · unfold excS; rw [upd_ne hda, upd_same]
    · rw [upd_ne hda] at hd; exact hd
    · rw [exc_end na hda]
      have nd : H1 dx = none := by rw [upd_ne hda] at hd; exact hd
      obtain ⟨st, r2, nm⟩ := r1.xd (fv := [(n, u), ("code", v)]) nd
      exact h1 ρ1 _ _ σ _ st r2 (r1.rs st rs1) ⟨C, dx, _, hm, rfl, rfl, upd_same, nm, u, [("code", v)], rfl, r1.vr st hu, v, [], rfl, r1.vr st hv, rfl⟩
  | [], _, h1 => exact h1.elim
  | [_], _, h1 => exact h1.elim
  | _ :: _ :: _ :: _, _, h1 => exact h1.elim
end
end DL
/-! try: .. except C as n: return e, e over the exception's fields -/
namespace DL
open PySem PySem.Spec L2
theorem XR.mono {Ω : Wd} {ρ ρ' : List Addr} {H H' : Hp} {S : Store} {x : Ex} {cls : Value} {dd : Option Addr} (r : Rel Ω ρ H S) (s : Step ρ H ρ' H') (h : XR Ω ρ H x cls dd) : XR Ω ρ' H' x cls dd := by
  obtain ⟨C, d, fv, h1, h2, h3, h4, h5, h6⟩ := h
  refine ⟨C, d, fv, h1, h2, h3, s.keep _ _ h4 h5, fun m => ?_, r.kvr s h6⟩
  have := s.new d m h5
  rw [h4] at this
  cases this
def LX (Ω : Wd) (i : Nat) (a : Addr) (cls : Value) (d : Option Addr) (x : Ex) (f : DE) : TE := fun σ H Q => ∃ ρ δ S, Rel Ω ρ H S ∧ RelS Ω.K ρ H δ σ ∧ σ[i]? = some (some (.ref a)) ∧ XR Ω ρ H x cls d ∧ LG Ω (fun _ _ _ _ => False) (PVR Ω) (f δ S) ρ H σ Q
abbrev JX (X : Cx) (i : Nat) (a : Addr) (cls : Value) (d : Option Addr) (x : Ex) (e : Expr) (f : DE) : Prop := PE X e (LX (om X) i a cls d x f)
def LXA (Ω : Wd) (i : Nat) (a : Addr) (cls : Value) (d : Option Addr) (x : Ex) (f : DA) : TA := fun σ H Q => ∃ ρ δ S, Rel Ω ρ H S ∧ RelS Ω.K ρ H δ σ ∧ σ[i]? = some (some (.ref a)) ∧ XR Ω ρ H x cls d ∧ LG Ω (fun _ _ _ _ => False) (PVRs Ω) (f δ S) ρ H σ Q
abbrev JXA (X : Cx) (i : Nat) (a : Addr) (cls : Value) (d : Option Addr) (x : Ex) (e : List Expr) (f : DA) : Prop := PA X e (LXA (om X) i a cls d x f)
/-- what the classes that the clause takes must tell of a field -/
def XFld (K : PySem.W.Frag) (mg : Str → Option Value) (sub : Str → Option Bool) (n : Str) : Prop := ∀ c C, sub c = some true → mg c = some (.ref C) → XfC K C ∧ PySem.W.findIn K (.ref C) n = some none
def dXf (x : Ex) (n : Str) : DE := fun δ S => match x.fs.lookup n with
  | some v => .ok v S
  | none => .bad
theorem KVR.lookup {K : PySem.W.Frag} {ρ : List Addr} {H : Hp} {n : Str} {v : D} : ∀ {ds : List (Str × D)} {vs : List (Str × V)}, KVR K ρ H ds vs → ds.lookup n = some v → ∃ u, vs.lookup n = some u ∧ VR K ρ H v u
  | [], _, h, e => by cases e
  | (k, d) :: ds, _, ⟨u, ws, ew, hu, r⟩, e => by
    subst ew
    rw [List.lookup_cons] at e
    by_cases hk : (n == k) = true
    · rw [hk] at e
      cases e
      exact ⟨u, by rw [List.lookup_cons, hk], hu⟩
    · rw [Bool.not_eq_true] at hk
      rw [hk] at e
      obtain ⟨z, h1, h2⟩ := KVR.lookup r e
      exact ⟨z, by rw [List.lookup_cons, hk]; exact h1, h2⟩
section
variable {X : Cx} {i : Nat} {a : Addr} {cls : Value} {d : Option Addr} {x : Ex} {e e1 e2 : Expr} {f f1 f2 : DE} {oe : Obj} {pn : List (Addr × Obj)} {sub : Str → Option Bool} {pos p0 : Pos} {n fl : Str}
theorem jx_fld (hx : XFld X.K X.mg sub fl) (hs : sub x.cls = some true) (hz : Zc cls d oe) (hf : ∃ vs, oe.data = .fields vs) (hN : X.N[i]? = some n) (hv : Vis X.env.scope n) (hd : (n == ("__debug__" : Str)) = false := by decide) (hcd : (n == ("__classdict__" : Str)) = false := by decide)
    (hb : attributeBase (.Name n p0) fl X.env (eval (.Name n p0) X.env) = eval (.Name n p0) X.env := by rfl) : JX (X.suite a ((a, oe) :: pn)) i a cls d x (.Attribute (.Name n p0) fl pos) (dXf x fl) := by
  obtain ⟨cn, fs⟩ := x
  by_cases hC : ∃ C, X.mg cn = some (.ref C)
  · obtain ⟨C, hC⟩ := hC
    obtain ⟨h1, h2⟩ := hx cn C hs hC
    refine pe_imp (pe_xf h1 h2 hz hf (pe_var (X := X.suite a ((a, oe) :: pn)) (i := i) hN hv hd hcd) hb) fun σ H Q ⟨ρ, δ, S, r, rs, ei, xr, q⟩ => ?_
    obtain ⟨C', dd, fv, g1, g2, g3, g4, g5, g6⟩ := xr
    have g1 : X.mg cn = some (.ref C') := g1
    rw [hC] at g1
    cases g1
    unfold dXf at q
    split at q
    · rename_i v hl
      obtain ⟨u, hu, hv⟩ := KVR.lookup g6 hl
      exact ⟨.ref a, ei, rfl, g2, dd, fv, u, g3, g4, hu, q ρ u H .refl r hv⟩
    · exact q.elim
  · refine ⟨fun pins s σ H Q I ⟨ρ, δ, S, r, rs, ei, xr, q⟩ => ?_⟩
    obtain ⟨C', dd, fv, g1, _⟩ := xr
    exact absurd ⟨C', g1⟩ hC
theorem jx_of (h : JE X (fun _ _ _ _ => False) e f) : JX X i a cls d x e f := pe_imp h fun σ H Q ⟨ρ, δ, S, r, rs, _, _, q⟩ => ⟨ρ, δ, S, r, rs, q⟩
theorem jx_op {op : Operator} {r : R2} {g : D → D → Store → R D} (ho : OpR X (binaryOp op) r) (hs : OpS X (fun _ _ _ _ => False) g r) (ha : JX X i a cls d x e1 f1) (hb : JX X i a cls d x e2 f2) : JX X i a cls d x (.BinOp e1 op e2 pos) (dOp g f1 f2) :=
  pe_imp (pe_op ho ha hb) fun σ H Q ⟨ρ, δ, S, rl, rs, ei, xr, q⟩ => by
    refine ⟨ρ, δ, S, rl, rs, ei, xr, LG.bind q fun ρ1 x S1 v H1 s1 r1 p1 q1 => ?_⟩
    refine ⟨ρ1, δ, S1, r1, rl.rs s1 rs, ei, xr.mono rl s1, LG.bind q1 fun ρ2 y S2 u H2 s2 r2 p2 q2 => ?_⟩
    exact hs ρ2 H2 S2 σ Q _ y v u r2 (r1.vr s2 p1) p2 q2
theorem jxa_nil : JXA X i a cls d x [] dNil := pa_imp pa_nil fun σ H Q ⟨ρ, δ, S, r, rs, _, _, h⟩ => h ρ [] H .refl r rfl
theorem jxa_cons {es : List Expr} {fs : DA} (ha : JX X i a cls d x e f) (hr : JXA X i a cls d x es fs) (hs : starEach (e :: es) X.env = (false, eval e X.env) :: starEach es X.env := by rfl) : JXA X i a cls d x (e :: es) (dCons f fs) :=
  pa_imp (pa_cons ha hr hs) fun σ H Q ⟨ρ, δ, S, r, rs, ei, xr, h⟩ => by
    refine ⟨ρ, δ, S, r, rs, ei, xr, LG.bind h fun ρ1 x S1 v H1 s1 r1 p1 q1 => ⟨ρ1, δ, S1, r1, r.rs s1 rs, ei, xr.mono r s1, LG.bind q1 fun ρ2 xs S2 vs H2 s2 r2 p2 q2 => ?_⟩⟩
    exact q2 ρ2 _ H2 .refl r2 ⟨v, vs, rfl, r1.vr s2 p1, p2⟩
theorem jx_tup {es : List Expr} {fs : DA} {x1} (h : JXA X i a cls d x es fs) : JX X i a cls d x (.Tuple es x1 pos) (dTup fs) := pe_imp (pe_tup h) fun σ H Q ⟨ρ, δ, S, r, rs, ei, xr, h⟩ =>
  ⟨ρ, δ, S, r, rs, ei, xr, LG.bind h fun ρ1 x S1 v H1 s1 r1 p1 q1 => LG.tup r1 p1 q1⟩
end
/-- try: body / except C as n: return e -/
def dTryR (sub : Str → Option Bool) (i : Nat) (f : DS) (g : Ex → DE) : DS := fun δ S => match f δ S with
  | .exc x δ' S' => (match sub x.cls with
    | some true => if i < δ'.length then (match g x (δ'.set i none) S' with
      | .ok v S2 => .rt v S2
      | _ => .bad) else .bad
    | some false => .exc x δ' S'
    | none => .bad)
  | r => r
/-- which classes the clause takes -/
def SubOk (K : PySem.W.Frag) (mg : Str → Option Value) (sub : Str → Option Bool) (c : Value) : Prop := ∀ y b C, sub y = some b → mg y = some (.ref C) → PySem.W.exmOne K (.ref C) c = some b
theorem RelS.skip {K : PySem.W.Frag} {ρ : List Addr} {H : Hp} {v : Option V} : ∀ {δ : DEnv} {σ : L2.St} (i : Nat), RelS K ρ H δ σ → RelS K ρ H (δ.set i none) (σ.set i v)
  | [], σ, i, h => by cases h; exact rfl
  | x :: δ, σ, 0, ⟨y, σ', e, h, r⟩ => by subst e; exact ⟨v, σ', rfl, (fun z hz => by cases hz), r⟩
  | x :: δ, σ, i + 1, ⟨y, σ', e, h, r⟩ => by subst e; exact ⟨y, σ'.set i v, rfl, h, RelS.skip i r⟩
theorem RelS.length {K : PySem.W.Frag} {ρ : List Addr} {H : Hp} : ∀ {δ : DEnv} {σ : L2.St}, RelS K ρ H δ σ → δ.length = σ.length
  | [], σ, h => by cases h; rfl
  | x :: δ, σ, ⟨y, σ', e, h, r⟩ => by subst e; simp [RelS.length r]
section
variable {X : Cx} {W : WX} {x n : Str} {c : Value} {i : Nat} {body : List Stmt} {e : Expr} {np pos pos' pos2 : Pos} {sub : Str → Option Bool} {f : DS} {g : Ex → DE}
theorem js_tryR (hs : X.stack = X.env :: X.outer) (hf : X.env.frame = some X.env.locals) (hc : Names X x c) (hsub : SubOk X.K X.mg sub c) (hN : X.N.Nodup) (hi : X.N[i]? = some n) (hln : X.env.kindOf n = some .local) (tk : Takes X W)
    (hb : ∀ (W : WX) (pn : List (Addr × Obj)) (xe : Value → Shared → Prop), Takes (X.tr pn xe) W → PassesOwn (model X.prog X.w) X.A X.env xe → JSs (X.tr pn xe) W body f)
    (hsu : ∀ (y : Ex) (a : Addr) (oe : Obj) (cls : Value) (d : Option Addr) (pn : List (Addr × Obj)), sub y.cls = some true → Zc cls d oe → (∃ vs, oe.data = .fields vs) → JX (X.suite a ((a, oe) :: pn)) i a cls d y e (g y)) :
    JS X W (.Try body [.ExceptHandler (some (.Name x np)) (some n) [.Return (some e) pos2] pos'] [] [] pos) (dTryR sub i f g) := by
  refine ps_imp (ps_try_as (Wout := W) (tb := fun W => LS (om X) W f) (ts := fun a cls d => fun D σ H => ∃ y : Ex, sub y.cls = some true ∧ LX (om X) i a cls d y (g y) σ H fun v H' => D.rt v H') hs hf hN hi hln hc tk (fun W pn xe t p => hb W pn xe t p) (fun a oe cls d pn hz hv => ?_)) fun E σ H h => ?_
  · refine pss_one ⟨fun pins s σ H D I ⟨y, hy, q⟩ => ?_⟩
    exact (ps_ret (hsu y a oe cls d pn hy hz hv)).run pins s σ H D I q
  · obtain ⟨ρ, δ, S, r, rs, h⟩ := h
    refine ⟨ρ, δ, S, r, rs, ?_⟩
    unfold dTryR at h
    cases e : f δ S with
    | nx δ' S' => rw [e] at h; exact h
    | bk δ' S' => rw [e] at h; exact h
    | ct δ' S' => rw [e] at h; exact h
    | rt d S' => rw [e] at h; exact h
    | bad => rw [e] at h; exact h
    | exc y δ' S' =>
      rw [e] at h
      intro ρ' cls dd σ' H' s' r' rs' xr
      obtain ⟨C, d, fv, g1, g2, g3, g4⟩ := id xr
      subst g2
      have h : LF (om X) W (match sub y.cls with
        | some true => if i < δ'.length then (match g y (δ'.set i none) S' with
          | .ok v S2 => .rt v S2
          | _ => .bad) else .bad
        | some false => .exc y δ' S'
        | none => .bad) ρ H E := h
      cases q : sub y.cls with
      | none => rw [q] at h; exact h.elim
      | some b =>
        rw [q] at h
        refine ⟨b, hsub y.cls b C q g1, fun hb a na => ?_, fun hb => ?_⟩
        · subst hb
          have h : LF (om X) W (if i < δ'.length then (match g y (δ'.set i none) S' with
            | .ok v S2 => .rt v S2
            | _ => .bad) else .bad) ρ H E := h
          by_cases hld : i < δ'.length
          rotate_left
          · rw [if_neg hld] at h; exact h.elim
          rw [if_pos hld] at h
          have hl : i < σ'.length := by rw [← RelS.length rs']; exact hld
          refine ⟨y, q, ρ', δ'.set i none, S', r', RelS.skip i rs', by rw [List.getElem?_set_self hl], xr, ?_⟩
          have h : LF (om X) W (match g y (δ'.set i none) S' with
            | .ok v S2 => .rt v S2
            | _ => .bad) ρ H E := h
          cases q2 : g y (δ'.set i none) S' with
          | ok v S2 => rw [q2] at h; exact fun ρ2 u H2 s2 r2 hv => h ρ2 u H2 (s'.trans s2) r2 hv
          | exc _ _ => rw [q2] at h; exact h.elim
          | bad => rw [q2] at h; exact h.elim
        · subst hb
          exact h ρ' _ dd σ' H' s' r' rs' xr
end
end DL
namespace DL
open PySem PySem.Spec L2
/-! ### str * int -/
def repS (i : Str) (n : Nat) : Str := ⟨(List.replicate n i.cps.toList).flatten.toArray⟩
def rRepS : R2 := fun x y H Q => ∃ i j, x = .str i ∧ y = .int j ∧ 0 ≤ j ∧ i.length * j.toNat ≤ sizeLine ∧ j < 1073741824 ∧ Q (.str (repS i j.toNat)) H
theorem rep_fold (a : List (Array Nat)) : ∀ (b : Array Nat), (a.foldl (· ++ ·) b).toList = b.toList ++ (a.map Array.toList).flatten := by
  induction a with
  | nil => intro b; simp
  | cons x l ih => intro b; rw [List.foldl_cons, ih]; simp
theorem rep_eq (i : Str) (n : Nat) : (⟨(List.replicate n i.cps).foldl (· ++ ·) #[]⟩ : Str) = repS i n := by
  unfold repS
  congr 1
  apply Array.ext'
  rw [rep_fold]
  simp
theorem rep_len (i : Str) (n : Nat) : (repS i n).length = i.length * n := by
  show (List.replicate n i.cps.toList).flatten.toArray.size = i.cps.size * n
  simp [Nat.mul_comm]
section
variable {X : Cx} {W : WX} {pos p : Pos} {a b : Expr} {fa fb : DE}
theorem op_repS : OpR X (binaryOp .Mult) rRepS := by
  intro pins s σ H x y u v Q I rx ry h
  obtain ⟨i, j, rfl, rfl, h0, hl, hj, hq⟩ := h
  obtain ⟨t1, rfl⟩ := rx
  obtain ⟨t2, rfl⟩ := ry
  have e63 : (2 : Int) ^ 63 = 9223372036854775808 := by decide
  have fin : ∀ (z : Str) tk n, z = repS i j.toNat → EP X pins σ Q (Value.str z tk) { s with toks := n } := fun z tk n hz => by
    subst hz
    exact ⟨.str (repS i j.toNat), H, I.tok _, ⟨tk, rfl⟩, hq⟩
  have sl : sizeLine = 16777216 := sizeLine_eq
  refine P.mul_str ?_ (fun h1 h2 => ?_) (fun h1 h2 => ?_) ?_
  · rw [e63]
    rw [decide_eq_false (by omega), decide_eq_false (by omega)]; rfl
  · have jp : 0 < j := by omega
    have key : (i.length : Int) * j ≤ 2 ^ 63 - 1 := by
      have q : i.length * j.toNat ≤ 16777216 := by rw [← sl]; exact hl
      have q2 : ((i.length * j.toNat : Nat) : Int) ≤ 16777216 := Int.ofNat_le.mpr q
      rw [Int.natCast_mul, Int.toNat_of_nonneg h0] at q2
      rw [e63]; omega
    have := (Int.le_ediv_iff_mul_le jp).mpr key
    omega
  · have q : ¬ (i.length * j.toNat > sizeLine) := by omega
    show decide (i.length * j.toNat > sizeLine) = false
    exact decide_eq_false q
  · by_cases h1 : j < 1
    · rw [if_pos h1]
      have ej : j = 0 := by omega
      subst ej
      exact ⟨by decide, fin _ _ _ (by unfold repS; rfl)⟩
    · rw [if_neg h1]
      by_cases h2 : (j == 1 || i.length == 0) = true
      · rw [if_pos h2]
        have ez : i = repS i j.toNat := by
          rw [Bool.or_eq_true, beq_iff_eq, beq_iff_eq] at h2
          rcases h2 with h2 | h2
          · subst h2
            obtain ⟨c⟩ := i
            simp [repS]
          · obtain ⟨c⟩ := i
            have h2 : c.size = 0 := h2
            have hc : c = #[] := Array.eq_empty_of_size_eq_zero h2
            subst hc
            unfold repS
            simp
        exact fin _ _ s.toks ez
      · rw [if_neg h2]
        refine ⟨?_, fin _ _ _ (rep_eq i j.toNat)⟩
        rw [rep_eq, rep_len]; exact hl
def gRep : D → D → Store → R D := fun x y S => match x, y with
  | .str i, .int j => if 0 ≤ j ∧ j < 1073741824 ∧ lenOk (i.length * j.toNat) = true then .ok (.str (repS i j.toNat)) S else .bad
  | _, _ => .bad
theorem opS_rep : OpS X W gRep rRepS := by
  intro ρ H S σ Q x y v u r hx hy h
  cases x with
  | str i =>
    cases y with
    | int j =>
      cases hx; cases hy
      have h' : LG (om X) W (PVR (om X)) (if 0 ≤ j ∧ j < 1073741824 ∧ lenOk (i.length * j.toNat) = true then R.ok (D.str (repS i j.toNat)) S else R.bad) ρ H σ Q := h
      by_cases c : 0 ≤ j ∧ j < 1073741824 ∧ lenOk (i.length * j.toNat) = true
      · rw [if_pos c] at h'
        exact ⟨i, j, rfl, rfl, c.1, lenOk_of c.2.2, c.2.1, h' ρ _ H .refl r rfl⟩
      · rw [if_neg c] at h'; exact h'.elim
    | _ => exact h.elim
  | _ => cases y <;> exact h.elim
theorem je_rep (ha : JE X W a fa) (hb : JE X W b fb) : JE X W (.BinOp a .Mult b pos) (dOp gRep fa fb) := je_op op_repS opS_rep ha hb
end
/-! ### a def whose new objects stay in the store -/
def runFnK (np N : Nat) (b : DS) : DM := fun ds S => if ds.length = np then match b (ds.map some ++ List.replicate (N - ds.length) none) S with
  | .nx _ S' => .ok .non S'
  | .rt d S' => .ok d S'
  | .exc x _ S' => .exc x S'
  | _ => .bad
  else .bad
section
variable {P : Program} {w : World} {K : PySem.W.Frag} {mg : Str → Option Value} {base : Heap}
theorem fn_okK {x qual : Str} {st : Stmt} {f : Addr} {fd : FuncData} {N ps : List Str} {k : Nat} {b : DS} {np n : Nat} (F : Fun K x qual st f fd) (sc : FnScope N ps (defScope st)) (hp : ps.length = np) (hn : N.length = n)
    (hbody : ∀ (X : Cx) (W : WX), X.K = K → X.mg = mg → X.prog = P → X.w = w → X.base = base → X.N = N → X.env.scope = defScope st → X.fn = (fun _ => true) → X.calm = true → X.stack = X.env :: X.outer → X.env.frame = some X.env.locals → X.ex = [] → Room k X.A → Takes X W → PassesOwn (model X.prog X.w) X.A X.env X.xe → JSs X W (defBody st) b) :
    FnOk P w K mg base (L2.CX P w) (k + 1) f fd ps (spOf ⟨K, mg⟩ np (runFnK np n b)) := by
  refine F.okX sc (fun vs H Q E h => ?_) (fun cdv A outer s H vs Q E hr h => ?_)
  · obtain ⟨ρ, ds, S, r, hv, hl, _⟩ := h
    rw [← VRs.len hv, hl, hp]
  · obtain ⟨ρ, ds, S, r, hv, hl, q⟩ := h
    refine ⟨_, hbody (cxOf (L2.CX P w) P w K mg base N qual (defScope st) f cdv A outer s H E) (fun cls d _ H => E cls d H) rfl rfl rfl rfl rfl rfl rfl rfl rfl rfl rfl rfl hr (takes_of rfl rfl rfl rfl) (passes_of rfl), ?_⟩
    refine ⟨ρ, ds.map some ++ List.replicate (n - ds.length) none, S, r, ?_, ?_⟩
    · have e : n - ds.length = N.length - vs.length := by rw [hn, VRs.len hv]
      rw [e]
      exact RelS.start hv
    · unfold runFnK at q
      rw [if_pos hl] at q
      cases e : b (ds.map some ++ List.replicate (n - ds.length) none) S with
      | nx δ S' => rw [e] at q; exact fun ρ' σ' H' s' r' rs' => q ρ' .non H' s' r' rfl
      | rt d S' => rw [e] at q; exact fun ρ' v H' s' r' hv' => q ρ' v H' s' r' hv'
      | exc x δ S' => rw [e] at q; exact fun ρ' cls dd σ' H' s' r' rs' hx => q ρ' cls dd H' s' r' hx
      | bk δ S' => rw [e] at q; exact q.elim
      | ct δ S' => rw [e] at q; exact q.elim
      | bad => rw [e] at q; exact q.elim
end
end DL
namespace DL
open PySem PySem.Spec L2
section
variable {X : Cx} {W : WX} {pos : Pos} {c : Expr} {t : DT} {x : Str} {i : Int}
theorem jts_nil : PTs X [] (LT (om X) W dYes) := by
  have h := pts_nil (X := X)
  exact ⟨fun pins s σ H Q I ⟨ρ, δ, S, r, rs, q⟩ => h.run pins s σ H Q I (q ρ true H .refl r rfl)⟩
theorem jts_one (h : JT X W c t) : PTs X [c] (LT (om X) W t) := pts_one h
/-- a module's whole number -/
theorem je_gint (hm : ∃ t, X.mg x = some (.int i t)) (hg : Gl X x := by rfl) (hdb : (x == ("__debug__" : Str)) = false := by decide) : JE X W (.Name x pos) (dC (.int i)) := by
  obtain ⟨t, hm⟩ := hm
  exact je_glob (v := .int i) hm ⟨t, rfl⟩ (fun _ _ => rfl) hg hdb
end
/-- the promise of a def of this text -/
structure Pr (P : Program) (w : World) (K : PySem.W.Frag) (mg : Str → Option Value) (base : Heap) (k : Nat) (x : Str) (a : Addr) (fd : FuncData) (ps : List Str) (np : Nat) (m : DM) : Prop where
  ok : FnOk P w K mg base (L2.CX P w) k a fd ps (spOf ⟨K, mg⟩ np m)
  g : mg x = some (.ref a)
  kp : PySem.W.keepIn K (.ref a) = true
  b : Binds K fd ps []
  l : ps.length = np
section
variable {X : Cx} {W : WX} {pos p : Pos} {e : Expr} {es : List Expr} {fs : DA} {x : Str} {k j : Nat} {a : Addr} {fd : FuncData} {ps : List Str} {np : Nat} {m : DM}
theorem je_fn (F : Pr X.prog X.w X.K X.mg X.base k x a fd ps np m) (hr : Room j X.A) (tk : Takes X W) (ha : JA X W (e :: es) fs) (hk : k ≤ j := by decide) (hg : Gl X x := by rfl) (hdb : (x == ("__debug__" : Str)) = false := by decide) (he : starEach (e :: es) X.env = (false, eval e X.env) :: starEach es X.env := by rfl) (hpl : (backTo pos (starEach es X.env)).any (·.1) = false := by rfl) :
    JE X W (.Call (.Name x p) (e :: es) [] pos) (dCall (fun ds S => if ds.length = np then m ds S else .bad) fs) :=
  je_call (F.ok.mono hk) hr F.g F.kp F.b tk ha F.l hg hdb he hpl
end
end DL
/-! evaluating a meaning -/
namespace DL
open PySem L2
theorem lenOk_lt {n : Nat} (h : n < 16777216) : lenOk n = true := by
  unfold lenOk; rw [sizeLine_eq]; exact decide_eq_true (by omega)
theorem rTup_ok {ds : List D} {S : Store} (h : ds.length < 16777216) : rTup ds S = .ok (.tup ds) S := if_pos (lenOk_lt h)
theorem rLst_ok {ds : List D} {S : Store} (h : ds.length < 16777216) : rLst ds S = .ok (.lst ds) S := if_pos (lenOk_lt h)
theorem rNew_ok {ds : List D} {S : Store} (h : ds.length < 16777216) : rNew ds S = .ok (.ref S.length) (S ++ [.lst ds]) := if_pos (lenOk_lt h)
abbrev mkS' (l : List Nat) : Str := ⟨l.toArray⟩
theorem len_mk (w : List Nat) : (mkS' w).length = w.length := by show w.toArray.size = _; simp
theorem tru_mk {w : List Nat} (h : w.length < 16777216) : truD (.str (mkS' w)) = some (!decide (w = [])) := by
  show (if lenOk (mkS' w).length = true then some (((mkS' w).length : Int) != 0) else none) = _
  rw [len_mk, if_pos (lenOk_lt h)]
  cases w with
  | nil => rfl
  | cons c w =>
    have e : (((c :: w).length : Int) != 0) = true := by
      rw [bne_iff_ne]; intro z; rw [List.length_cons] at z; omega
    rw [e]; simp
theorem tru_bl {k : Bool} : truD (.bl k) = some k := rfl
theorem append_eq {m : Nat} {S : Store} {fd : List D} {y : D} (hS : S[m]? = some (.lst fd)) (hf : fd.length < 16777216) : gAppend (.ref m) y S = .ok .non (S.set m (.lst (fd ++ [y]))) := by
  simp only [gAppend, hS]
  rw [if_pos (by rw [sizeLine_eq]; exact hf)]
theorem isl {m : Nat} {S : Store} {fd : List D} (hS : S[m]? = some (.lst fd)) : isLstD S (.ref m) = true := by simp only [isLstD, hS]
theorem set_at {m : Nat} {S : Store} {o o' : O} (hS : S[m]? = some o) : (S.set m o')[m]? = some o' := by
  rw [List.getElem?_set_self (List.getElem?_eq_some_iff.mp hS).1]
theorem eq_str {n : Bool} {a b : Str} {S : Store} : gEq n (.str a) (.str b) S = .ok (.bl (if n then !decide (a = b) else decide (a = b))) S := rfl
theorem eq_int {n : Bool} {a b : Int} {S : Store} : gEq n (.int a) (.int b) S = .ok (.bl (if n then !(a == b) else (a == b))) S := rfl
theorem mk_inj {a b : List Nat} : mkS' a = mkS' b ↔ a = b := by
  constructor
  · intro h
    have := congrArg (fun z : Str => z.cps.toList) h
    simpa using this
  · intro h; rw [h]
end DL
namespace DL
open PySem L2
def Sok (S : Store) : Prop := S.all (O.under S.length) = true
theorem settle_same {S : Store} {d : D} : settle S.length d S = .ok d S := if_pos rfl
theorem settle_lst {S S' : Store} {fd : List D} (hs : Sok S) (ht : S'.take S.length = S) (hm : ∃ k, S.length ≤ k ∧ S'[k]? = some (.lst fd) ∧ d = .ref k) (hl : S'.length ≠ S.length) (hu : D.unders S.length fd = true) : settle S.length d S' = .ok (.lst fd) S := by
  obtain ⟨k, hk, hg, rfl⟩ := hm
  have e : freeze S.length S' (.ref k) = .lst fd := by
    show (if k < S.length then D.ref k else match S'[k]? with
      | some (O.lst xs) => .lst xs
      | _ => .ref k) = _
    rw [if_neg (by omega), hg]
  unfold settle
  rw [if_neg hl, e, ht]
  rw [if_pos]
  show ((D.lst fd).under S.length && S.all (O.under S.length)) = true
  rw [show (D.lst fd).under S.length = D.unders S.length fd from rfl, hu, hs]; rfl
theorem settle_val {S S' : Store} {d : D} (hs : Sok S) (ht : S'.take S.length = S) (hd : freeze S.length S' d = d) (hu : d.under S.length = true) : settle S.length d S' = .ok d S := by
  by_cases hl : S'.length = S.length
  · have : S' = S := by rw [← ht, ← hl, List.take_length]
    rw [this]; exact settle_same
  · unfold settle
    rw [if_neg hl, hd, ht, if_pos]
    rw [hu, hs]; rfl
theorem settleX_val {S S' : Store} {x : Ex} (hs : Sok S) (ht : S'.take S.length = S) (hu : underF S.length x.fs = true) : settleX S.length x S' = .exc x S := by
  by_cases hl : S'.length = S.length
  · have : S' = S := by rw [← ht, ← hl, List.take_length]
    rw [this]; unfold settleX; rw [if_pos rfl]
  · unfold settleX
    rw [if_neg hl, ht, if_pos]
    rw [hu, hs]; rfl
end DL
namespace DL
theorem runFn_rt {np N : Nat} {b : DS} {ds : List D} {S S' : Store} {d : D} (hl : ds.length = np) (h : b (ds.map some ++ List.replicate (N - ds.length) none) S = .rt d S') : runFn np N b ds S = settle S.length d S' := by
  unfold runFn
  rw [if_pos hl, h]
theorem runFn_exc {np N : Nat} {b : DS} {ds : List D} {S S' : Store} {x : Ex} {δ : DEnv} (hl : ds.length = np) (h : b (ds.map some ++ List.replicate (N - ds.length) none) S = .exc x δ S') : runFn np N b ds S = settleX S.length x S' := by
  unfold runFn
  rw [if_pos hl, h]
end DL
namespace DL
mutual
theorem under_mono {n m : Nat} (h : n ≤ m) : ∀ d : D, D.under n d = true → D.under m d = true
  | .non, _ => rfl
  | .bl _, _ => rfl
  | .int _, _ => rfl
  | .str _, _ => rfl
  | .ref k, e => decide_eq_true (Nat.lt_of_lt_of_le (of_decide_eq_true e) h)
  | .tup ds, e => unders_mono h ds e
  | .lst ds, e => unders_mono h ds e
theorem unders_mono {n m : Nat} (h : n ≤ m) : ∀ ds : List D, D.unders n ds = true → D.unders m ds = true
  | [], _ => rfl
  | d :: ds, e => by
    have e' : (d.under n && D.unders n ds) = true := e
    obtain ⟨e1, e2⟩ := Bool.and_eq_true_iff.mp e'
    show (d.under m && D.unders m ds) = true
    rw [under_mono h d e1, unders_mono h ds e2]; rfl
end
theorem underF_mono {κ : Type} {n m : Nat} (h : n ≤ m) : ∀ ds : List (κ × D), underF n ds = true → underF m ds = true
  | [], _ => rfl
  | (k, d) :: ds, e => by
    have e' : (d.under n && underF n ds) = true := e
    obtain ⟨e1, e2⟩ := Bool.and_eq_true_iff.mp e'
    show (d.under m && underF m ds) = true
    rw [under_mono h d e1, underF_mono h ds e2]; rfl
theorem ounder_mono {n m : Nat} (h : n ≤ m) : ∀ o : O, O.under n o = true → O.under m o = true
  | .lst ds, e => unders_mono h ds e
  | .dK _ ds, e => underF_mono h ds e
  | .ins _ ds, e => underF_mono h ds e
theorem Sok.app {S : Store} {o : O} (h : Sok S) (ho : O.under (S.length + 1) o = true) : Sok (S ++ [o]) := by
  unfold Sok at h ⊢
  rw [List.all_append, List.length_append]
  show (S.all (O.under (S.length + 1)) && [o].all (O.under (S.length + 1))) = true
  rw [Bool.and_eq_true]
  refine ⟨List.all_eq_true.mpr fun x hx => ounder_mono (Nat.le_succ _) x (List.all_eq_true.mp h x hx), ?_⟩
  rw [List.all_cons, List.all_nil, ho]; rfl
end DL
/-! the meanings of the defs of k15 -/
namespace K15
open PySem DL
def sub_TextError : Str → Option Bool := fun c => if c = ("TextError" : Str) then some true else none
def b_tokens_f1 : DS := (dIf (dOr (dTest (dOp (gInS false) (dVar 6) (dC (.str (PySem.Str.ofString " \n();"))))) (dTru (dVar 4))) (dSeq (dIf (dTru (dVar 2)) (dSeq (dExpr (dAppend (dVar 1) (dTup (dCons (dVar 2) (dCons (dVar 3) dNil)))))
          (dSet 2 (dC (.str (PySem.Str.ofString ""))))) dNx)
        (dSeq (dSet 4 (dOrV (dOp (gEq false) (dVar 6) (dC (.str (PySem.Str.ofString ";")))) (dAndV (dVar 4) (dOp (gEq true) (dVar 6) (dC (.str (PySem.Str.ofString "\n")))))))
        (dIf (dAnd (dTest (dOp (gInS false) (dVar 6) (dC (.str (PySem.Str.ofString "()"))))) (dNot (dTru (dVar 4)))) (dExpr (dAppend (dVar 1) (dTup (dCons (dVar 6) (dCons (dVar 5) dNil))))) dNx))) (dSeq (dSet 3 (dIfE (dTru (dVar 2)) (dVar 3) (dVar 5)))
        (dAug 2 gAdd (dVar 6))))

def b_tokens : DS := (dSeq (dAsg (dTup (dCons (dNew dNil) (dCons (dC (.str (PySem.Str.ofString ""))) (dCons (dC (.int 0)) (dCons (dC (.bl false)) dNil))))) (dgTup 4 (dgCons (dgName 1) (dgCons (dgName 2) (dgCons (dgName 3) (dgCons (dgName 4) dgNil))))))
    (dSeq (dFor (diEnumS (dCons (dOp gAdd (dVar 0) (dC (.str (PySem.Str.ofString "\n")))) dNil)) (dgTup 2 (dgCons (dgName 5) (dgCons (dgName 6) dgNil))) b_tokens_f1)
    (dRet (dVar 1))))
def f_tokens : DM := runFn 1 7 b_tokens

def b_whole_or_word : DS := (dSeq (dSet 2 (dIfE (dTest (dOp (gEq false) (dOp gIx (dVar 0) (dC (.int 0))) (dC (.str (PySem.Str.ofString "-"))))) (dSl gSlS (dVar 0) (doS (dC (.int 1))) doN) (dVar 0)))
    (dSeq (dIf (dAnd (dTest (dOp (gEq true) (dVar 2) (dC (.str (PySem.Str.ofString ""))))) (dTru (dCall (gAnyAll false) (dCons (dLc (diS (dVar 2)) (dgName 3) dYes (dOp (gInS false) (dVar 3) (dC (.str (PySem.Str.ofString "0123456789")))) [3]) dNil)))) (dSeq (dIf (dOr (dTest (dOp gGt (dCall gLen (dCons (dVar 2) dNil)) (dC (.int 9)))) (dOr (dAnd (dTest (dOp gGt (dCall gLen (dCons (dVar 2) dNil)) (dC (.int 1)))) (dTest (dOp (gEq false) (dOp gIx (dVar 2) (dC (.int 0))) (dC (.str (PySem.Str.ofString "0")))))) (dTest (dOp (gEq false) (dVar 0) (dC (.str (PySem.Str.ofString "-0"))))))) (dRaise "TextError" (mkT "place") (dCons (dC (.str (PySem.Str.ofString "number"))) (dCons (dVar 1) dNil))) dNx)
      (dRet (dCall gInt (dCons (dVar 0) dNil)))) dNx)
    (dRet (dVar 0))))
def f_whole_or_word : DM := runFn 2 4 b_whole_or_word

def b_read_f1 : DS := (dIf (dTest (dOp (gEq false) (dVar 2) (dC (.str (PySem.Str.ofString "("))))) (dSeq (dExpr (dAppend (dVar 1) (dNew dNil)))
        (dIf (dTest (dOp gGt (dCall gLen (dCons (dVar 1) dNil)) (dC (.int 40)))) (dRaise "TextError" (mkT "place") (dCons (dC (.str (PySem.Str.ofString "deep"))) (dCons (dVar 3) dNil))) dNx)) (dIf (dTest (dOp (gEq false) (dVar 2) (dC (.str (PySem.Str.ofString ")"))))) (dSeq (dIf (dTest (dOp (gEq false) (dCall gLen (dCons (dVar 1) dNil)) (dC (.int 1)))) (dRaise "TextError" (mkT "place") (dCons (dC (.str (PySem.Str.ofString "close"))) (dCons (dVar 3) dNil))) dNx)
          (dSeq (dSet 4 (dCall gTuple (dCons (fun δ S => ((dVar 1) δ S).bind gPop) dNil)))
          (dExpr (dAppend (dOp gIx (dVar 1) (dOp (fun x _ => gSub (.int 0) x) (dC (.int 1)) (dC .non))) (dVar 4))))) (dExpr (dAppend (dOp gIx (dVar 1) (dOp (fun x _ => gSub (.int 0) x) (dC (.int 1)) (dC .non))) (dCall (fun ds S => if ds.length = 2 then f_whole_or_word ds S else .bad) (dCons (dVar 2) (dCons (dVar 3) dNil)))))))

def b_read : DS := (dSeq (dIf (dTest (dOp gGt (dCall gLen (dCons (dVar 0) dNil)) (dC (.int 20000)))) (dRaise "TextError" (mkT "place") (dCons (dC (.str (PySem.Str.ofString "long"))) (dCons (dC (.int 0)) dNil))) dNx)
    (dSeq (dSet 1 (dNew (dCons (dNew dNil) dNil)))
    (dSeq (dFor (diL (dCall (fun ds S => if ds.length = 1 then f_tokens ds S else .bad) (dCons (dVar 0) dNil))) (dgTup 2 (dgCons (dgName 2) (dgCons (dgName 3) dgNil))) b_read_f1)
    (dSeq (dIf (dTest (dOp gGt (dCall gLen (dCons (dVar 1) dNil)) (dC (.int 1)))) (dRaise "TextError" (mkT "place") (dCons (dC (.str (PySem.Str.ofString "open"))) (dCons (dCall gLen (dCons (dVar 0) dNil)) dNil))) dNx)
    (dRet (dCall gTuple (dCons (dOp gIx (dVar 1) (dC (.int 0))) dNil)))))))
def f_read : DM := runFn 1 5 b_read

def b_shown (r : DM) : DS := (dSeq (dIf (dTru (dIsi "tuple" (dVar 0))) (dRet (dOp gAdd (dOp gAdd (dC (.str (PySem.Str.ofString "("))) (dM1 gJoin (dC (.str (PySem.Str.ofString " "))) (dLc (diT (dVar 0)) (dgName 1) dYes (dCall (fun ds S => if ds.length = 1 then r ds S else .bad) (dCons (dVar 1) dNil)) [1]))) (dC (.str (PySem.Str.ofString ")"))))) dNx)
    (dRet (dCall gStr (dCons (dVar 0) dNil))))
def f_shown : Nat → DM
  | 0 => fun _ _ => .bad
  | n + 1 => runFn 1 2 (b_shown (f_shown n))

def b__law_take : DS := (dSeq (dIf (dAnd (dTest (dOp (gEq false) (dOp gIx (dVar 0) (dC (.int 2))) (dC (.int 0)))) (dTest (dOp gLt (dOp gIx (dVar 0) (dC (.int 1))) (dCall gLen (dCons (dOp gIx (dVar 0) (dC (.int 0))) dNil))))) (dSeq (dAsg (dCall gAbs (dCons (dCall gInt (dCons (dOp gIx (dOp gIx (dVar 0) (dC (.int 0))) (dOp gIx (dVar 0) (dC (.int 1)))) dNil)) dNil)) (dgIx (dVar 0) (dC (.int 2))))
      (dSeq (dAsg (dOp gAdd (dOp gIx (dVar 0) (dC (.int 1))) (dC (.int 1))) (dgIx (dVar 0) (dC (.int 1))))
      (dIf (dTest (dOp gLt (dOp gIx (dVar 0) (dC (.int 2))) (dOp gPow (dC (.int 10)) (dC (.int 18))))) (dSeq (dSet 2 (dCall gInt (dCons (dOp gIx (dVar 0) (dC (.int 2))) dNil)))
        (dSeq (dAsg (dC (.int 0)) (dgIx (dVar 0) (dC (.int 2))))
        (dRet (dOp gMod (dVar 2) (dVar 1))))) dNx))) dNx)
    (dSeq (dIf (dTest (dOp gGt (dOp gIx (dVar 0) (dC (.int 2))) (dC (.int 0)))) (dSeq (dSet 3 (dOp gMod (dCall gInt (dCons (dOp gIx (dVar 0) (dC (.int 2))) dNil)) (dVar 1)))
      (dSeq (dAsg (dOp gFdiv (dCall gInt (dCons (dOp gIx (dVar 0) (dC (.int 2))) dNil)) (dVar 1)) (dgIx (dVar 0) (dC (.int 2))))
      (dRet (dVar 3)))) dNx)
    (dSeq (dAsg (dOp gMod (dCall gInt (dCons (dOp gAdd (dOp gMul (dOp gIx (dVar 0) (dC (.int 3))) (dC (.int 69621))) (dC (.int 7))) dNil)) (dC (.int 2147483647))) (dgIx (dVar 0) (dC (.int 3))))
    (dRet (dOp gMod (dCall gInt (dCons (dOp gFdiv (dOp gIx (dVar 0) (dC (.int 3))) (dC (.int 5))) dNil)) (dVar 1))))))
def f__law_take : DM := runFn 2 4 b__law_take

def b__law_pick : DS := (dRet (dOp gIx (dVar 1) (dCall (fun ds S => if ds.length = 2 then f__law_take ds S else .bad) (dCons (dVar 0) (dCons (dCall gLen (dCons (dVar 1) dNil)) dNil)))))
def f__law_pick : DM := runFn 2 2 b__law_pick

def b__law_begin_f1 : DS := (dSet 1 (dOp gMod (dOp gAdd (dOp gAdd (dOp gMul (dVar 1) (dC (.int 48271))) (dOp gMod (dCall gInt (dCons (dVar 2) dNil)) (dC (.int 2147483629)))) (dC (.int 11))) (dC (.int 2147483647))))

def b__law_begin : DS := (dSeq (dSet 1 (dC (.int 5)))
    (dSeq (dFor (diL (dVar 0)) (dgName 2) b__law_begin_f1)
    (dRet (dNew (dCons (dCall gList (dCons (dVar 0) dNil)) (dCons (dC (.int 0)) (dCons (dC (.int 0)) (dCons (dVar 1) dNil))))))))
def f__law_begin : DM := runFnK 1 3 b__law_begin

def b__law_text (r : DM) : DS := (dSeq (dIf (dTru (dIsi "tuple" (dVar 0))) (dRet (dOp gAdd (dOp gAdd (dC (.str (PySem.Str.ofString "("))) (dM1 gJoin (dC (.str (PySem.Str.ofString " "))) (dLc (diT (dVar 0)) (dgName 1) dYes (dCall (fun ds S => if ds.length = 1 then r ds S else .bad) (dCons (dVar 1) dNil)) [1]))) (dC (.str (PySem.Str.ofString ")"))))) dNx)
    (dRet (dCall gStr (dCons (dVar 0) dNil))))
def f__law_text : Nat → DM
  | 0 => fun _ _ => .bad
  | n + 1 => runFn 1 2 (b__law_text (f__law_text n))

def b__law_thing (r : DM) : DS := (dSeq (dSet 2 (dCall (fun ds S => if ds.length = 2 then f__law_take ds S else .bad) (dCons (dVar 0) (dCons (dC (.int 5)) dNil))))
    (dSeq (dIf (dOr (dTest (dOp (gEq false) (dVar 1) (dC (.int 0)))) (dTest (dOp gLt (dVar 2) (dC (.int 2))))) (dRet (dCall (fun ds S => if ds.length = 2 then f__law_pick ds S else .bad) (dCons (dVar 0) (dCons (dLst (dCons (dC (.str (PySem.Str.ofString "a"))) (dCons (dC (.str (PySem.Str.ofString "and"))) (dCons (dC (.str (PySem.Str.ofString "=>"))) (dCons (dC (.str (PySem.Str.ofString "<="))) (dCons (dC (.str (PySem.Str.ofString "x_1"))) (dCons (dC (.str (PySem.Str.ofString "-"))) (dCons (dC (.str (PySem.Str.ofString "a-b"))) (dCons (dC (.int 0)) (dCons (dC (.int 7)) (dCons (dOp gSub (dC (.int 0)) (dC (.int 12))) (dCons (dC (.int 999999999)) (dCons (dC (.str (PySem.Str.ofString "0x"))) (dCons (dC (.str (PySem.Str.ofString "-a"))) dNil)))))))))))))) dNil)))) dNx)
    (dRet (dCall gTuple (dCons (dLc (diR1 (dCons (dCall (fun ds S => if ds.length = 2 then f__law_take ds S else .bad) (dCons (dVar 0) (dCons (dC (.int 4)) dNil))) dNil)) (dgName 3) dYes (dCall (fun ds S => if ds.length = 2 then r ds S else .bad) (dCons (dVar 0) (dCons (dOp gSub (dVar 1) (dC (.int 1))) dNil))) [3]) dNil)))))
def f__law_thing : Nat → DM
  | 0 => fun _ _ => .bad
  | n + 1 => runFn 2 4 (b__law_thing (f__law_thing n))

def b__law_loose (r : DM) : DS := (dSeq (dSet 2 (dCall (fun ds S => if ds.length = 2 then f__law_pick ds S else .bad) (dCons (dVar 0) (dCons (dLst (dCons (dC (.str (PySem.Str.ofString " "))) (dCons (dC (.str (PySem.Str.ofString "  "))) (dCons (dC (.str (PySem.Str.ofString "\n"))) (dCons (dC (.str (PySem.Str.ofString " ; a ) (\n"))) (dCons (dC (.str (PySem.Str.ofString "\n\n "))) dNil)))))) dNil))))
    (dSeq (dIf (dNot (dTru (dIsi "tuple" (dVar 1)))) (dRet (dOp gAdd (dOp gAdd (dVar 2) (dCall gStr (dCons (dVar 1) dNil))) (dVar 2))) dNx)
    (dRet (dOp gAdd (dOp gAdd (dOp gAdd (dOp gAdd (dOp gAdd (dCall (fun ds S => if ds.length = 2 then f__law_pick ds S else .bad) (dCons (dVar 0) (dCons (dLst (dCons (dC (.str (PySem.Str.ofString ""))) (dCons (dC (.str (PySem.Str.ofString " "))) dNil))) dNil))) (dC (.str (PySem.Str.ofString "(")))) (dM1 gJoin (dC (.str (PySem.Str.ofString ""))) (dLc (diT (dVar 1)) (dgName 3) dYes (dCall (fun ds S => if ds.length = 2 then r ds S else .bad) (dCons (dVar 0) (dCons (dVar 3) dNil))) [3]))) (dCall (fun ds S => if ds.length = 2 then f__law_pick ds S else .bad) (dCons (dVar 0) (dCons (dLst (dCons (dC (.str (PySem.Str.ofString ""))) (dCons (dVar 2) dNil))) dNil)))) (dC (.str (PySem.Str.ofString ")")))) (dCall (fun ds S => if ds.length = 2 then f__law_pick ds S else .bad) (dCons (dVar 0) (dCons (dLst (dCons (dC (.str (PySem.Str.ofString ""))) (dCons (dC (.str (PySem.Str.ofString ";\n"))) dNil))) dNil)))))))
def f__law_loose : Nat → DM
  | 0 => fun _ _ => .bad
  | n + 1 => runFn 2 4 (b__law_loose (f__law_loose n))

def b__law_told : DS := (dTryR sub_TextError 1 (dRet (dCall (fun ds S => if ds.length = 1 then f_read ds S else .bad) (dCons (dVar 0) dNil))) (fun x => (dTup (dCons (dXf x "code") (dCons (dXf x "place") dNil)))))
def f__law_told : DM := runFn 1 2 b__law_told

def b_law_f1 : DS := (dIf (dTest (dOp (gEq true) (dCall (fun ds S => if ds.length = 1 then f__law_told ds S else .bad) (dCons (dOp gAdd (dVar 3) (dVar 6)) dNil)) (dVar 7))) (dRet (dC (.bl false))) dNx)

def b_law : DS := (dSeq (dSet 1 (dCall (fun ds S => if ds.length = 1 then f__law_begin ds S else .bad) (dCons (dVar 0) dNil)))
    (dSeq (dSet 2 (dCall gTuple (dCons (dLc (diR1 (dCons (dCall (fun ds S => if ds.length = 2 then f__law_take ds S else .bad) (dCons (dVar 1) (dCons (dC (.int 4)) dNil))) dNil)) (dgName 9) dYes (dCall (fun ds S => if ds.length = 2 then f__law_thing 6 ds S else .bad) (dCons (dVar 1) (dCons (dC (.int 4)) dNil))) [9]) dNil)))
    (dSeq (dSet 3 (dM1 gJoin (dC (.str (PySem.Str.ofString ""))) (dLc (diT (dVar 2)) (dgName 10) dYes (dCall (fun ds S => if ds.length = 2 then f__law_loose 6 ds S else .bad) (dCons (dVar 1) (dCons (dVar 10) dNil))) [10])))
    (dSeq (dIf (dOr (dTest (dOp (gEq true) (dCall (fun ds S => if ds.length = 1 then f_read ds S else .bad) (dCons (dVar 3) dNil)) (dVar 2))) (dOr (dTru (dCall (gAnyAll true) (dCons (dLc (diT (dVar 2)) (dgName 10) dYes (dOp (gEq true) (dCall (fun ds S => if ds.length = 1 then f_shown 6 ds S else .bad) (dCons (dVar 10) dNil)) (dCall (fun ds S => if ds.length = 1 then f__law_text 6 ds S else .bad) (dCons (dVar 10) dNil))) [10]) dNil))) (dTest (dOp (gEq true) (dCall (fun ds S => if ds.length = 1 then f_read ds S else .bad) (dCons (dM1 gJoin (dC (.str (PySem.Str.ofString " "))) (dLc (diT (dVar 2)) (dgName 10) dYes (dCall (fun ds S => if ds.length = 1 then f_shown 6 ds S else .bad) (dCons (dVar 10) dNil)) [10])) dNil)) (dVar 2))))) (dRet (dC (.bl false))) dNx)
    (dSeq (dIf (dOr (dTest (dOp (gEq false) (dM1 gCount (dVar 3) (dC (.str (PySem.Str.ofString ";")))) (dC (.int 0)))) (dOr (dTest (dOp (gEq false) (dSl gSlS (dVar 3) (doS (dOp (fun x _ => gSub (.int 0) x) (dC (.int 1)) (dC .non))) doN) (dC (.str (PySem.Str.ofString "\n"))))) (dTest (dOp (gEq false) (dVar 3) (dC (.str (PySem.Str.ofString ""))))))) (dSeq (dSet 4 (dCall gLen (dCons (dVar 3) dNil)))
      (dSeq (dSet 5 (dLst (dCons (dTup (dCons (dC (.str (PySem.Str.ofString ")"))) (dCons (dTup (dCons (dC (.str (PySem.Str.ofString "close"))) (dCons (dVar 4) dNil))) dNil))) (dCons (dTup (dCons (dC (.str (PySem.Str.ofString "("))) (dCons (dTup (dCons (dC (.str (PySem.Str.ofString "open"))) (dCons (dOp gAdd (dVar 4) (dC (.int 1))) dNil))) dNil))) (dCons (dTup (dCons (dC (.str (PySem.Str.ofString "(a (b)"))) (dCons (dTup (dCons (dC (.str (PySem.Str.ofString "open"))) (dCons (dOp gAdd (dVar 4) (dC (.int 6))) dNil))) dNil))) (dCons (dTup (dCons (dC (.str (PySem.Str.ofString " 01"))) (dCons (dTup (dCons (dC (.str (PySem.Str.ofString "number"))) (dCons (dOp gAdd (dVar 4) (dC (.int 1))) dNil))) dNil))) (dCons (dTup (dCons (dC (.str (PySem.Str.ofString " -0"))) (dCons (dTup (dCons (dC (.str (PySem.Str.ofString "number"))) (dCons (dOp gAdd (dVar 4) (dC (.int 1))) dNil))) dNil))) (dCons (dTup (dCons (dC (.str (PySem.Str.ofString " 1234567890"))) (dCons (dTup (dCons (dC (.str (PySem.Str.ofString "number"))) (dCons (dOp gAdd (dVar 4) (dC (.int 1))) dNil))) dNil))) (dCons (dTup (dCons (dC (.str (PySem.Str.ofString " (a 00 )) ("))) (dCons (dTup (dCons (dC (.str (PySem.Str.ofString "number"))) (dCons (dOp gAdd (dVar 4) (dC (.int 4))) dNil))) dNil))) (dCons (dTup (dCons (dC (.str (PySem.Str.ofString "()) 01"))) (dCons (dTup (dCons (dC (.str (PySem.Str.ofString "close"))) (dCons (dOp gAdd (dVar 4) (dC (.int 2))) dNil))) dNil))) dNil))))))))))
      (dFor (diL (dVar 5)) (dgTup 2 (dgCons (dgName 6) (dgCons (dgName 7) dgNil))) b_law_f1))) dNx)
    (dSeq (dSet 8 (dOp gAdd (dOp gRep (dC (.str (PySem.Str.ofString "("))) (dC (.int 39))) (dOp gRep (dC (.str (PySem.Str.ofString ")"))) (dC (.int 39)))))
    (dSeq (dIf (dOr (dTru (dIsi "str" (dOp gIx (dCall (fun ds S => if ds.length = 1 then f__law_told ds S else .bad) (dCons (dVar 8) dNil)) (dC (.int 0))))) (dOr (dTest (dOp (gEq true) (dCall (fun ds S => if ds.length = 1 then f__law_told ds S else .bad) (dCons (dOp gAdd (dOp gAdd (dC (.str (PySem.Str.ofString "a ("))) (dVar 8)) (dC (.str (PySem.Str.ofString ")")))) dNil)) (dTup (dCons (dC (.str (PySem.Str.ofString "deep"))) (dCons (dC (.int 41)) dNil))))) (dTest (dOp (gEq true) (dCall (fun ds S => if ds.length = 1 then f__law_told ds S else .bad) (dCons (dOp gRep (dC (.str (PySem.Str.ofString " "))) (dC (.int 20001))) dNil)) (dTup (dCons (dC (.str (PySem.Str.ofString "long"))) (dCons (dC (.int 0)) dNil))))))) (dRet (dC (.bl false))) dNx)
    (dRet (dAndV (dOp (gEq false) (dCall (fun ds S => if ds.length = 1 then f_read ds S else .bad) (dCons (dOp gRep (dC (.str (PySem.Str.ofString " "))) (dC (.int 20000))) dNil)) (dTup dNil)) (dAndV (dOp (gEq false) (dCall (fun ds S => if ds.length = 1 then f_read ds S else .bad) (dCons (dC (.str (PySem.Str.ofString "; all ("))) dNil)) (dTup dNil)) (dOp (gEq false) (dCall (fun ds S => if ds.length = 1 then f_read ds S else .bad) (dCons (dC (.str (PySem.Str.ofString "(a;b\n c)"))) dNil)) (dTup (dCons (dTup (dCons (dC (.str (PySem.Str.ofString "a"))) (dCons (dC (.str (PySem.Str.ofString "c"))) dNil))) dNil)))))))))))))
def f_law : DM := runFn 1 11 b_law

end K15
/-! k15: each def keeps its meaning -/
namespace K15
open PySem PySem.Spec L2 DL
def top (i : Nat) : Stmt := PySem.Challenge.pw_answerandproof_k15_texts_of_lists.main.body.getD i (.Pass ⟨0, 0, 0, 0⟩)
abbrev PRG : Program := PySem.Challenge.rw_answerandproof_k15_texts_of_lists.prog
structure Fx (K : PySem.W.Frag) (mg : Str → Option Value) where
  a_tokens : Addr
  fd_tokens : FuncData
  F_tokens : Fun K "tokens" "tokens" (top 6) a_tokens fd_tokens
  g_tokens : mg "tokens" = some (.ref a_tokens)
  a_whole_or_word : Addr
  fd_whole_or_word : FuncData
  F_whole_or_word : Fun K "whole_or_word" "whole_or_word" (top 8) a_whole_or_word fd_whole_or_word
  g_whole_or_word : mg "whole_or_word" = some (.ref a_whole_or_word)
  a_read : Addr
  fd_read : FuncData
  F_read : Fun K "read" "read" (top 7) a_read fd_read
  g_read : mg "read" = some (.ref a_read)
  a_shown : Addr
  fd_shown : FuncData
  F_shown : Fun K "shown" "shown" (top 9) a_shown fd_shown
  g_shown : mg "shown" = some (.ref a_shown)
  a__law_take : Addr
  fd__law_take : FuncData
  F__law_take : Fun K "_law_take" "_law_take" (top 11) a__law_take fd__law_take
  g__law_take : mg "_law_take" = some (.ref a__law_take)
  a__law_pick : Addr
  fd__law_pick : FuncData
  F__law_pick : Fun K "_law_pick" "_law_pick" (top 12) a__law_pick fd__law_pick
  g__law_pick : mg "_law_pick" = some (.ref a__law_pick)
  a__law_begin : Addr
  fd__law_begin : FuncData
  F__law_begin : Fun K "_law_begin" "_law_begin" (top 13) a__law_begin fd__law_begin
  g__law_begin : mg "_law_begin" = some (.ref a__law_begin)
  a__law_text : Addr
  fd__law_text : FuncData
  F__law_text : Fun K "_law_text" "_law_text" (top 14) a__law_text fd__law_text
  g__law_text : mg "_law_text" = some (.ref a__law_text)
  a__law_thing : Addr
  fd__law_thing : FuncData
  F__law_thing : Fun K "_law_thing" "_law_thing" (top 15) a__law_thing fd__law_thing
  g__law_thing : mg "_law_thing" = some (.ref a__law_thing)
  a__law_loose : Addr
  fd__law_loose : FuncData
  F__law_loose : Fun K "_law_loose" "_law_loose" (top 16) a__law_loose fd__law_loose
  g__law_loose : mg "_law_loose" = some (.ref a__law_loose)
  a__law_told : Addr
  fd__law_told : FuncData
  F__law_told : Fun K "_law_told" "_law_told" (top 17) a__law_told fd__law_told
  g__law_told : mg "_law_told" = some (.ref a__law_told)
  a_law : Addr
  fd_law : FuncData
  F_law : Fun K "law" "law" (top 18) a_law fd_law
  g_law : mg "law" = some (.ref a_law)
  b_abs : mg "abs" = none
  b_all : mg "all" = none
  b_any : mg "any" = none
  b_enumerate : mg "enumerate" = none
  b_int : mg "int" = none
  b_isinstance : mg "isinstance" = none
  b_len : mg "len" = none
  b_list : mg "list" = none
  b_range : mg "range" = none
  b_str : mg "str" = none
  b_tuple : mg "tuple" = none
  c_MOST_DEPTH : ∃ t, mg "MOST_DEPTH" = some (.int 40 t)
  c_MOST_TEXT : ∃ t, mg "MOST_TEXT" = some (.int 20000 t)
  sol : Addr
  d_TextError : Addr
  a_TextError : Addr
  aI_TextError : Addr
  a0 : Addr
  ifd_TextError : FuncData
  g_TextError : mg "TextError" = some (.ref a_TextError)
  t_TextError : ExT K a_TextError a_TextError sol aI_TextError a0 "place"
  ib_TextError : Binds K ifd_TextError ["self", "code", "place"] []
  i_TextError : ∀ (w : World) (base : Heap), FnOk PRG w K mg base (L2.CX PRG w) 2 aI_TextError ifd_TextError ["self", "code", "place"] (spT K a_TextError sol a0 "place")
  s_TextError : SubOk K mg sub_TextError (.ref a_TextError)
  x_code : XFld K mg sub_TextError "code"
  x_place : XFld K mg sub_TextError "place"
variable {w : World} {K : PySem.W.Frag} {mg : Str → Option Value} {base : Heap}
theorem ok_tokens (G : Fx K mg) : Pr PRG w K mg base 1 "tokens" G.a_tokens G.fd_tokens ["text"] 1 f_tokens := by
  refine ⟨fn_ok (k := 0) (N := ["text", "found", "word", "start", "skip", "place", "sign"]) (b := b_tokens) G.F_tokens ⟨rfl, rfl, rfl, by decide +kernel, rfl, by decide +kernel, by decide +kernel⟩ rfl rfl ?_, G.g_tokens, G.F_tokens.kp, (Fun.binds G.F_tokens fun _ _ _ _ _ _ us hl => match us, hl with | [_], _ => rfl), rfl⟩
  intro X W hK hmg hP hw hb hNN hsc hfn hc hst hfr hex hr tk hp
  obtain ⟨prog', w', K', mg', base', A, N', s0, H0, env, outer, stack, ex, fnn, calm, pn, xe⟩ := X
  obtain ⟨scope, locals, globals, cells, qual, func, code, frame, builtins⟩ := env
  obtain rfl : K' = K := hK
  obtain rfl : mg' = mg := hmg
  obtain rfl : prog' = PRG := hP
  obtain rfl : w' = w := hw
  obtain rfl : base' = base := hb
  obtain rfl : N' = (["text", "found", "word", "start", "skip", "place", "sign"] : List Str) := hNN
  obtain rfl : scope = defScope (top 6) := hsc
  obtain rfl : fnn = (fun _ => true) := hfn
  have hN : (["text", "found", "word", "start", "skip", "place", "sign"] : List Str).Nodup := by decide +kernel
  have hu := hr.units
  exact (by
    refine jss_cons (js_asg (je_tup (ja_cons (je_new ja_nil) (ja_cons je_str (ja_cons je_int (ja_cons je_bl ja_nil))))) (jg_tup hc (jgs_cons (jg_name 1 hN) (jgs_cons (jg_name 2 hN) (jgs_cons (jg_name 3 hN) (jgs_cons (jg_name 4 hN) jgs_nil)))))) ?_
    refine jss_cons (js_for hc hp (ji_enumS G.b_enumerate (ja_cons (je_add (je_var 0) je_str) ja_nil)) (jg_tup hc (jgs_cons (jg_name 5 hN) (jgs_cons (jg_name 6 hN) jgs_nil))) (by
      exact jss_one (js_if (jt_w (jw_or (jt_inS (je_var 6) je_str) (jw_or1 (jt_tru (je_var 4))))) (by
        refine jss_cons (js_if (jt_tru (je_var 2)) (by
          refine jss_cons (js_expr (je_append (je_var 1) (je_tup (ja_cons (je_var 2) (ja_cons (je_var 3) ja_nil))))) ?_
          exact jss_one (js_set 2 hN je_str)) jss_nil) ?_
        refine jss_cons (js_set 4 hN (je_or (je_eq hu (je_var 6) je_str) (je_one (je_and (je_var 4) (je_one (je_ne hu (je_var 6) je_str)))))) ?_
        exact jss_one (js_if (jt_w (jw_and (jt_inS (je_var 6) je_str) (jw_and1 (jt_not (jt_tru (je_var 4)))))) (by
          exact jss_one (js_expr (je_append (je_var 1) (je_tup (ja_cons (je_var 6) (ja_cons (je_var 5) ja_nil)))))) jss_nil)) (by
        refine jss_cons (js_set 3 hN (je_ifE (jt_tru (je_var 2)) (je_var 3) (je_var 5))) ?_
        exact jss_one (js_aug 2 opR_iadd opS_add hN (je_var 6)))))) ?_
    exact jss_one (js_ret (je_var 1)))

theorem ok_whole_or_word (G : Fx K mg) : Pr PRG w K mg base 4 "whole_or_word" G.a_whole_or_word G.fd_whole_or_word ["word", "place"] 2 f_whole_or_word := by
  refine ⟨fn_ok (k := 3) (N := ["word", "place", "body", "sign"]) (b := b_whole_or_word) G.F_whole_or_word ⟨rfl, rfl, rfl, by decide +kernel, rfl, by decide +kernel, by decide +kernel⟩ rfl rfl ?_, G.g_whole_or_word, G.F_whole_or_word.kp, (Fun.binds G.F_whole_or_word fun _ _ _ _ _ _ us hl => match us, hl with | [_, _], _ => rfl), rfl⟩
  intro X W hK hmg hP hw hb hNN hsc hfn hc hst hfr hex hr tk hp
  obtain ⟨prog', w', K', mg', base', A, N', s0, H0, env, outer, stack, ex, fnn, calm, pn, xe⟩ := X
  obtain ⟨scope, locals, globals, cells, qual, func, code, frame, builtins⟩ := env
  obtain rfl : K' = K := hK
  obtain rfl : mg' = mg := hmg
  obtain rfl : prog' = PRG := hP
  obtain rfl : w' = w := hw
  obtain rfl : base' = base := hb
  obtain rfl : N' = (["word", "place", "body", "sign"] : List Str) := hNN
  obtain rfl : scope = defScope (top 8) := hsc
  obtain rfl : fnn = (fun _ => true) := hfn
  have hN : (["word", "place", "body", "sign"] : List Str).Nodup := by decide +kernel
  have hu := hr.units
  exact (by
    refine jss_cons (js_set 2 hN (je_ifE (jt_eq hu (je_ix (je_var 0) je_int) je_str) (je_slS (je_var 0) (jo_some je_int) jo_none) (je_var 0))) ?_
    refine jss_cons (js_if (jt_w (jw_and (jt_ne hu (je_var 2) je_str) (jw_and1 (jt_tru (je_all hc G.b_all (ja_cons (je_lc (own := [("sign", 3)]) hc hN (ji_str (je_var 2)) (blkOk_by (by rfl)) (fun s H C cl fp => (jgw_name 3 hN)) (fun s H C cl fp => jts_nil) (fun s H C cl fp => (je_inS (je_var 3) je_str))) ja_nil)))))) (by
      refine jss_cons (js_if (jt_w (jw_or (jt_gt (je_len G.b_len (ja_cons (je_var 2) ja_nil)) je_int) (jw_or (jt_w (jw_and (jt_gt (je_len G.b_len (ja_cons (je_var 2) ja_nil)) je_int) (jw_and1 (jt_eq hu (je_ix (je_var 2) je_int) je_str)))) (jw_or1 (jt_eq hu (je_var 0) je_str))))) (by
        exact jss_one (js_raiseT G.t_TextError (G.i_TextError _ _) (hr.mono (by decide)) G.ib_TextError G.g_TextError hc tk (ja_cons je_str (ja_cons (je_var 1) ja_nil)))) jss_nil) ?_
      exact jss_one (js_ret (je_intF G.b_int (ja_cons (je_var 0) ja_nil)))) jss_nil) ?_
    exact jss_one (js_ret (je_var 0)))

theorem ok_read (G : Fx K mg) : Pr PRG w K mg base 5 "read" G.a_read G.fd_read ["text"] 1 f_read := by
  refine ⟨fn_ok (k := 4) (N := ["text", "stack", "word", "place", "done"]) (b := b_read) G.F_read ⟨rfl, rfl, rfl, by decide +kernel, rfl, by decide +kernel, by decide +kernel⟩ rfl rfl ?_, G.g_read, G.F_read.kp, (Fun.binds G.F_read fun _ _ _ _ _ _ us hl => match us, hl with | [_], _ => rfl), rfl⟩
  intro X W hK hmg hP hw hb hNN hsc hfn hc hst hfr hex hr tk hp
  obtain ⟨prog', w', K', mg', base', A, N', s0, H0, env, outer, stack, ex, fnn, calm, pn, xe⟩ := X
  obtain ⟨scope, locals, globals, cells, qual, func, code, frame, builtins⟩ := env
  obtain rfl : K' = K := hK
  obtain rfl : mg' = mg := hmg
  obtain rfl : prog' = PRG := hP
  obtain rfl : w' = w := hw
  obtain rfl : base' = base := hb
  obtain rfl : N' = (["text", "stack", "word", "place", "done"] : List Str) := hNN
  obtain rfl : scope = defScope (top 7) := hsc
  obtain rfl : fnn = (fun _ => true) := hfn
  have hN : (["text", "stack", "word", "place", "done"] : List Str).Nodup := by decide +kernel
  have hu := hr.units
  exact (by
    refine jss_cons (js_if (jt_gt (je_len G.b_len (ja_cons (je_var 0) ja_nil)) (je_gint G.c_MOST_TEXT)) (by
      exact jss_one (js_raiseT G.t_TextError (G.i_TextError _ _) (hr.mono (by decide)) G.ib_TextError G.g_TextError hc tk (ja_cons je_str (ja_cons je_int ja_nil)))) jss_nil) ?_
    refine jss_cons (js_set 1 hN (je_new (ja_cons (je_new ja_nil) ja_nil))) ?_
    refine jss_cons (js_for hc hp (ji_list (je_fn (ok_tokens G) hr tk (ja_cons (je_var 0) ja_nil) (by decide))) (jg_tup hc (jgs_cons (jg_name 2 hN) (jgs_cons (jg_name 3 hN) jgs_nil))) (by
      exact jss_one (js_if (jt_eq hu (je_var 2) je_str) (by
        refine jss_cons (js_expr (je_append (je_var 1) (je_new ja_nil))) ?_
        exact jss_one (js_if (jt_gt (je_len G.b_len (ja_cons (je_var 1) ja_nil)) (je_gint G.c_MOST_DEPTH)) (by
          exact jss_one (js_raiseT G.t_TextError (G.i_TextError _ _) (hr.mono (by decide)) G.ib_TextError G.g_TextError hc tk (ja_cons je_str (ja_cons (je_var 3) ja_nil)))) jss_nil)) (by
        exact jss_one (js_if (jt_eq hu (je_var 2) je_str) (by
          refine jss_cons (js_if (jt_eq hu (je_len G.b_len (ja_cons (je_var 1) ja_nil)) je_int) (by
            exact jss_one (js_raiseT G.t_TextError (G.i_TextError _ _) (hr.mono (by decide)) G.ib_TextError G.g_TextError hc tk (ja_cons je_str (ja_cons (je_var 3) ja_nil)))) jss_nil) ?_
          refine jss_cons (js_set 4 hN (je_tuple G.b_tuple (ja_cons (je_pop (je_var 1)) ja_nil))) ?_
          exact jss_one (js_expr (je_append (je_ix (je_var 1) (je_neg je_int)) (je_var 4)))) (by
          exact jss_one (js_expr (je_append (je_ix (je_var 1) (je_neg je_int)) (je_fn (ok_whole_or_word G) hr tk (ja_cons (je_var 2) (ja_cons (je_var 3) ja_nil)) (by decide)))))))))) ?_
    refine jss_cons (js_if (jt_gt (je_len G.b_len (ja_cons (je_var 1) ja_nil)) je_int) (by
      exact jss_one (js_raiseT G.t_TextError (G.i_TextError _ _) (hr.mono (by decide)) G.ib_TextError G.g_TextError hc tk (ja_cons je_str (ja_cons (je_len G.b_len (ja_cons (je_var 0) ja_nil)) ja_nil)))) jss_nil) ?_
    exact jss_one (js_ret (je_tuple G.b_tuple (ja_cons (je_ix (je_var 1) je_int) ja_nil))))

theorem ok_shown (G : Fx K mg) : ∀ n, Pr PRG w K mg base (0 + n) "shown" G.a_shown G.fd_shown ["thing"] 1 (f_shown n)
  | 0 => ⟨fn_bad, G.g_shown, G.F_shown.kp, (Fun.binds G.F_shown fun _ _ _ _ _ _ us hl => match us, hl with | [_], _ => rfl), rfl⟩
  | n + 1 => by
    have ih := ok_shown G n
    refine ⟨fn_ok (k := 0 + n) (N := ["thing", "part"]) (b := b_shown (f_shown n)) G.F_shown ⟨rfl, rfl, rfl, by decide +kernel, rfl, by decide +kernel, by decide +kernel⟩ rfl rfl ?_, G.g_shown, G.F_shown.kp, (Fun.binds G.F_shown fun _ _ _ _ _ _ us hl => match us, hl with | [_], _ => rfl), rfl⟩
    intro X W hK hmg hP hw hb hNN hsc hfn hc hst hfr hex hr tk hp
    obtain ⟨prog', w', K', mg', base', A, N', s0, H0, env, outer, stack, ex, fnn, calm, pn, xe⟩ := X
    obtain ⟨scope, locals, globals, cells, qual, func, code, frame, builtins⟩ := env
    obtain rfl : K' = K := hK
    obtain rfl : mg' = mg := hmg
    obtain rfl : prog' = PRG := hP
    obtain rfl : w' = w := hw
    obtain rfl : base' = base := hb
    obtain rfl : N' = (["thing", "part"] : List Str) := hNN
    obtain rfl : scope = defScope (top 9) := hsc
    obtain rfl : fnn = (fun _ => true) := hfn
    have hN : (["thing", "part"] : List Str).Nodup := by decide +kernel
    have hu := hr.units
    exact (by
    refine jss_cons (js_if (jt_tru (je_isi "tuple" G.b_isinstance G.b_tuple (by kernel_rfl) (je_var 0))) (by
      exact jss_one (js_ret (je_add (je_add je_str (je_join je_str (je_lc (own := [("part", 1)]) hc hN (ji_tup (je_var 0)) (blkOk_by (by rfl)) (fun s H C cl fp => (jgw_name 1 hN)) (fun s H C cl fp => jts_nil) (fun s H C cl fp => (je_fn ih hr takes_no (ja_cons (je_var 1) ja_nil) (by omega)))))) je_str))) jss_nil) ?_
    exact jss_one (js_ret (je_strF G.b_str (ja_cons (je_var 0) ja_nil))))

theorem ok__law_take (G : Fx K mg) : Pr PRG w K mg base 1 "_law_take" G.a__law_take G.fd__law_take ["d", "many"] 2 f__law_take := by
  refine ⟨fn_ok (k := 0) (N := ["d", "many", "small", "digit"]) (b := b__law_take) G.F__law_take ⟨rfl, rfl, rfl, by decide +kernel, rfl, by decide +kernel, by decide +kernel⟩ rfl rfl ?_, G.g__law_take, G.F__law_take.kp, (Fun.binds G.F__law_take fun _ _ _ _ _ _ us hl => match us, hl with | [_, _], _ => rfl), rfl⟩
  intro X W hK hmg hP hw hb hNN hsc hfn hc hst hfr hex hr tk hp
  obtain ⟨prog', w', K', mg', base', A, N', s0, H0, env, outer, stack, ex, fnn, calm, pn, xe⟩ := X
  obtain ⟨scope, locals, globals, cells, qual, func, code, frame, builtins⟩ := env
  obtain rfl : K' = K := hK
  obtain rfl : mg' = mg := hmg
  obtain rfl : prog' = PRG := hP
  obtain rfl : w' = w := hw
  obtain rfl : base' = base := hb
  obtain rfl : N' = (["d", "many", "small", "digit"] : List Str) := hNN
  obtain rfl : scope = defScope (top 11) := hsc
  obtain rfl : fnn = (fun _ => true) := hfn
  have hN : (["d", "many", "small", "digit"] : List Str).Nodup := by decide +kernel
  have hu := hr.units
  exact (by
    refine jss_cons (js_if (jt_w (jw_and (jt_eq hu (je_ix (je_var 0) je_int) je_int) (jw_and1 (jt_lt (je_ix (je_var 0) je_int) (je_len G.b_len (ja_cons (je_ix (je_var 0) je_int) ja_nil)))))) (by
      refine jss_cons (js_asg (je_abs G.b_abs (ja_cons (je_intF G.b_int (ja_cons (je_ix (je_ix (je_var 0) je_int) (je_ix (je_var 0) je_int)) ja_nil)) ja_nil)) (jg_ix (W := W) (je_var 0) je_int)) ?_
      refine jss_cons (js_asg (je_add (je_ix (je_var 0) je_int) je_int) (jg_ix (W := W) (je_var 0) je_int)) ?_
      exact jss_one (js_if (jt_lt (je_ix (je_var 0) je_int) (je_pow je_int je_int)) (by
        refine jss_cons (js_set 2 hN (je_intF G.b_int (ja_cons (je_ix (je_var 0) je_int) ja_nil))) ?_
        refine jss_cons (js_asg je_int (jg_ix (W := W) (je_var 0) je_int)) ?_
        exact jss_one (js_ret (je_mod (je_var 2) (je_var 1)))) jss_nil)) jss_nil) ?_
    refine jss_cons (js_if (jt_gt (je_ix (je_var 0) je_int) je_int) (by
      refine jss_cons (js_set 3 hN (je_mod (je_intF G.b_int (ja_cons (je_ix (je_var 0) je_int) ja_nil)) (je_var 1))) ?_
      refine jss_cons (js_asg (je_fdiv (je_intF G.b_int (ja_cons (je_ix (je_var 0) je_int) ja_nil)) (je_var 1)) (jg_ix (W := W) (je_var 0) je_int)) ?_
      exact jss_one (js_ret (je_var 3))) jss_nil) ?_
    refine jss_cons (js_asg (je_mod (je_intF G.b_int (ja_cons (je_add (je_mul (je_ix (je_var 0) je_int) je_int) je_int) ja_nil)) je_int) (jg_ix (W := W) (je_var 0) je_int)) ?_
    exact jss_one (js_ret (je_mod (je_intF G.b_int (ja_cons (je_fdiv (je_ix (je_var 0) je_int) je_int) ja_nil)) (je_var 1))))

theorem ok__law_pick (G : Fx K mg) : Pr PRG w K mg base 2 "_law_pick" G.a__law_pick G.fd__law_pick ["d", "menu"] 2 f__law_pick := by
  refine ⟨fn_ok (k := 1) (N := ["d", "menu"]) (b := b__law_pick) G.F__law_pick ⟨rfl, rfl, rfl, by decide +kernel, rfl, by decide +kernel, by decide +kernel⟩ rfl rfl ?_, G.g__law_pick, G.F__law_pick.kp, (Fun.binds G.F__law_pick fun _ _ _ _ _ _ us hl => match us, hl with | [_, _], _ => rfl), rfl⟩
  intro X W hK hmg hP hw hb hNN hsc hfn hc hst hfr hex hr tk hp
  obtain ⟨prog', w', K', mg', base', A, N', s0, H0, env, outer, stack, ex, fnn, calm, pn, xe⟩ := X
  obtain ⟨scope, locals, globals, cells, qual, func, code, frame, builtins⟩ := env
  obtain rfl : K' = K := hK
  obtain rfl : mg' = mg := hmg
  obtain rfl : prog' = PRG := hP
  obtain rfl : w' = w := hw
  obtain rfl : base' = base := hb
  obtain rfl : N' = (["d", "menu"] : List Str) := hNN
  obtain rfl : scope = defScope (top 12) := hsc
  obtain rfl : fnn = (fun _ => true) := hfn
  have hN : (["d", "menu"] : List Str).Nodup := by decide +kernel
  have hu := hr.units
  exact (by
    exact jss_one (js_ret (je_ix (je_var 1) (je_fn (ok__law_take G) hr tk (ja_cons (je_var 0) (ja_cons (je_len G.b_len (ja_cons (je_var 1) ja_nil)) ja_nil)) (by decide)))))

theorem ok__law_begin (G : Fx K mg) : Pr PRG w K mg base 1 "_law_begin" G.a__law_begin G.fd__law_begin ["script"] 1 f__law_begin := by
  refine ⟨fn_okK (k := 0) (N := ["script", "seed", "cell"]) (b := b__law_begin) G.F__law_begin ⟨rfl, rfl, rfl, by decide +kernel, rfl, by decide +kernel, by decide +kernel⟩ rfl rfl ?_, G.g__law_begin, G.F__law_begin.kp, (Fun.binds G.F__law_begin fun _ _ _ _ _ _ us hl => match us, hl with | [_], _ => rfl), rfl⟩
  intro X W hK hmg hP hw hb hNN hsc hfn hc hst hfr hex hr tk hp
  obtain ⟨prog', w', K', mg', base', A, N', s0, H0, env, outer, stack, ex, fnn, calm, pn, xe⟩ := X
  obtain ⟨scope, locals, globals, cells, qual, func, code, frame, builtins⟩ := env
  obtain rfl : K' = K := hK
  obtain rfl : mg' = mg := hmg
  obtain rfl : prog' = PRG := hP
  obtain rfl : w' = w := hw
  obtain rfl : base' = base := hb
  obtain rfl : N' = (["script", "seed", "cell"] : List Str) := hNN
  obtain rfl : scope = defScope (top 13) := hsc
  obtain rfl : fnn = (fun _ => true) := hfn
  have hN : (["script", "seed", "cell"] : List Str).Nodup := by decide +kernel
  have hu := hr.units
  exact (by
    refine jss_cons (js_set 1 hN je_int) ?_
    refine jss_cons (js_for hc hp (ji_list (je_var 0)) (jg_name 2 hN) (by
      exact jss_one (js_set 1 hN (je_mod (je_add (je_add (je_mul (je_var 1) je_int) (je_mod (je_intF G.b_int (ja_cons (je_var 2) ja_nil)) je_int)) je_int) je_int)))) ?_
    exact jss_one (js_ret (je_new (ja_cons (je_list G.b_list (ja_cons (je_var 0) ja_nil)) (ja_cons je_int (ja_cons je_int (ja_cons (je_var 1) ja_nil)))))))

theorem ok__law_text (G : Fx K mg) : ∀ n, Pr PRG w K mg base (0 + n) "_law_text" G.a__law_text G.fd__law_text ["thing"] 1 (f__law_text n)
  | 0 => ⟨fn_bad, G.g__law_text, G.F__law_text.kp, (Fun.binds G.F__law_text fun _ _ _ _ _ _ us hl => match us, hl with | [_], _ => rfl), rfl⟩
  | n + 1 => by
    have ih := ok__law_text G n
    refine ⟨fn_ok (k := 0 + n) (N := ["thing", "part"]) (b := b__law_text (f__law_text n)) G.F__law_text ⟨rfl, rfl, rfl, by decide +kernel, rfl, by decide +kernel, by decide +kernel⟩ rfl rfl ?_, G.g__law_text, G.F__law_text.kp, (Fun.binds G.F__law_text fun _ _ _ _ _ _ us hl => match us, hl with | [_], _ => rfl), rfl⟩
    intro X W hK hmg hP hw hb hNN hsc hfn hc hst hfr hex hr tk hp
    obtain ⟨prog', w', K', mg', base', A, N', s0, H0, env, outer, stack, ex, fnn, calm, pn, xe⟩ := X
    obtain ⟨scope, locals, globals, cells, qual, func, code, frame, builtins⟩ := env
    obtain rfl : K' = K := hK
    obtain rfl : mg' = mg := hmg
    obtain rfl : prog' = PRG := hP
    obtain rfl : w' = w := hw
    obtain rfl : base' = base := hb
    obtain rfl : N' = (["thing", "part"] : List Str) := hNN
    obtain rfl : scope = defScope (top 14) := hsc
    obtain rfl : fnn = (fun _ => true) := hfn
    have hN : (["thing", "part"] : List Str).Nodup := by decide +kernel
    have hu := hr.units
    exact (by
    refine jss_cons (js_if (jt_tru (je_isi "tuple" G.b_isinstance G.b_tuple (by kernel_rfl) (je_var 0))) (by
      exact jss_one (js_ret (je_add (je_add je_str (je_join je_str (je_lc (own := [("part", 1)]) hc hN (ji_tup (je_var 0)) (blkOk_by (by rfl)) (fun s H C cl fp => (jgw_name 1 hN)) (fun s H C cl fp => jts_nil) (fun s H C cl fp => (je_fn ih hr takes_no (ja_cons (je_var 1) ja_nil) (by omega)))))) je_str))) jss_nil) ?_
    exact jss_one (js_ret (je_strF G.b_str (ja_cons (je_var 0) ja_nil))))

theorem ok__law_thing (G : Fx K mg) : ∀ n, Pr PRG w K mg base (2 + n) "_law_thing" G.a__law_thing G.fd__law_thing ["d", "depth"] 2 (f__law_thing n)
  | 0 => ⟨fn_bad, G.g__law_thing, G.F__law_thing.kp, (Fun.binds G.F__law_thing fun _ _ _ _ _ _ us hl => match us, hl with | [_, _], _ => rfl), rfl⟩
  | n + 1 => by
    have ih := ok__law_thing G n
    refine ⟨fn_ok (k := 2 + n) (N := ["d", "depth", "menu", "k"]) (b := b__law_thing (f__law_thing n)) G.F__law_thing ⟨rfl, rfl, rfl, by decide +kernel, rfl, by decide +kernel, by decide +kernel⟩ rfl rfl ?_, G.g__law_thing, G.F__law_thing.kp, (Fun.binds G.F__law_thing fun _ _ _ _ _ _ us hl => match us, hl with | [_, _], _ => rfl), rfl⟩
    intro X W hK hmg hP hw hb hNN hsc hfn hc hst hfr hex hr tk hp
    obtain ⟨prog', w', K', mg', base', A, N', s0, H0, env, outer, stack, ex, fnn, calm, pn, xe⟩ := X
    obtain ⟨scope, locals, globals, cells, qual, func, code, frame, builtins⟩ := env
    obtain rfl : K' = K := hK
    obtain rfl : mg' = mg := hmg
    obtain rfl : prog' = PRG := hP
    obtain rfl : w' = w := hw
    obtain rfl : base' = base := hb
    obtain rfl : N' = (["d", "depth", "menu", "k"] : List Str) := hNN
    obtain rfl : scope = defScope (top 15) := hsc
    obtain rfl : fnn = (fun _ => true) := hfn
    have hN : (["d", "depth", "menu", "k"] : List Str).Nodup := by decide +kernel
    have hu := hr.units
    exact (by
    refine jss_cons (js_set 2 hN (je_fn (ok__law_take G) hr tk (ja_cons (je_var 0) (ja_cons je_int ja_nil)) (by omega))) ?_
    refine jss_cons (js_if (jt_w (jw_or (jt_eq hu (je_var 1) je_int) (jw_or1 (jt_lt (je_var 2) je_int)))) (by
      exact jss_one (js_ret (je_fn (ok__law_pick G) hr tk (ja_cons (je_var 0) (ja_cons (je_lst (ja_cons je_str (ja_cons je_str (ja_cons je_str (ja_cons je_str (ja_cons je_str (ja_cons je_str (ja_cons je_str (ja_cons je_int (ja_cons je_int (ja_cons (je_sub je_int je_int) (ja_cons je_int (ja_cons je_str (ja_cons je_str ja_nil)))))))))))))) ja_nil)) (by omega)))) jss_nil) ?_
    exact jss_one (js_ret (je_tuple G.b_tuple (ja_cons (je_lc (own := [("k", 3)]) hc hN (ji_range1 G.b_range (ja_cons (je_fn (ok__law_take G) hr tk (ja_cons (je_var 0) (ja_cons je_int ja_nil)) (by omega)) ja_nil)) (blkOk_by (by rfl)) (fun s H C cl fp => (jgw_name 3 hN)) (fun s H C cl fp => jts_nil) (fun s H C cl fp => (je_fn ih hr takes_no (ja_cons (je_var 0) (ja_cons (je_sub (je_var 1) je_int) ja_nil)) (by omega)))) ja_nil))))

theorem ok__law_loose (G : Fx K mg) : ∀ n, Pr PRG w K mg base (2 + n) "_law_loose" G.a__law_loose G.fd__law_loose ["d", "thing"] 2 (f__law_loose n)
  | 0 => ⟨fn_bad, G.g__law_loose, G.F__law_loose.kp, (Fun.binds G.F__law_loose fun _ _ _ _ _ _ us hl => match us, hl with | [_, _], _ => rfl), rfl⟩
  | n + 1 => by
    have ih := ok__law_loose G n
    refine ⟨fn_ok (k := 2 + n) (N := ["d", "thing", "gap", "part"]) (b := b__law_loose (f__law_loose n)) G.F__law_loose ⟨rfl, rfl, rfl, by decide +kernel, rfl, by decide +kernel, by decide +kernel⟩ rfl rfl ?_, G.g__law_loose, G.F__law_loose.kp, (Fun.binds G.F__law_loose fun _ _ _ _ _ _ us hl => match us, hl with | [_, _], _ => rfl), rfl⟩
    intro X W hK hmg hP hw hb hNN hsc hfn hc hst hfr hex hr tk hp
    obtain ⟨prog', w', K', mg', base', A, N', s0, H0, env, outer, stack, ex, fnn, calm, pn, xe⟩ := X
    obtain ⟨scope, locals, globals, cells, qual, func, code, frame, builtins⟩ := env
    obtain rfl : K' = K := hK
    obtain rfl : mg' = mg := hmg
    obtain rfl : prog' = PRG := hP
    obtain rfl : w' = w := hw
    obtain rfl : base' = base := hb
    obtain rfl : N' = (["d", "thing", "gap", "part"] : List Str) := hNN
    obtain rfl : scope = defScope (top 16) := hsc
    obtain rfl : fnn = (fun _ => true) := hfn
    have hN : (["d", "thing", "gap", "part"] : List Str).Nodup := by decide +kernel
    have hu := hr.units
    exact (by
    refine jss_cons (js_set 2 hN (je_fn (ok__law_pick G) hr tk (ja_cons (je_var 0) (ja_cons (je_lst (ja_cons je_str (ja_cons je_str (ja_cons je_str (ja_cons je_str (ja_cons je_str ja_nil)))))) ja_nil)) (by omega))) ?_
    refine jss_cons (js_if (jt_not (jt_tru (je_isi "tuple" G.b_isinstance G.b_tuple (by kernel_rfl) (je_var 1)))) (by
      exact jss_one (js_ret (je_add (je_add (je_var 2) (je_strF G.b_str (ja_cons (je_var 1) ja_nil))) (je_var 2)))) jss_nil) ?_
    exact jss_one (js_ret (je_add (je_add (je_add (je_add (je_add (je_fn (ok__law_pick G) hr tk (ja_cons (je_var 0) (ja_cons (je_lst (ja_cons je_str (ja_cons je_str ja_nil))) ja_nil)) (by omega)) je_str) (je_join je_str (je_lc (own := [("part", 3)]) hc hN (ji_tup (je_var 1)) (blkOk_by (by rfl)) (fun s H C cl fp => (jgw_name 3 hN)) (fun s H C cl fp => jts_nil) (fun s H C cl fp => (je_fn ih hr takes_no (ja_cons (je_var 0) (ja_cons (je_var 3) ja_nil)) (by omega)))))) (je_fn (ok__law_pick G) hr tk (ja_cons (je_var 0) (ja_cons (je_lst (ja_cons je_str (ja_cons (je_var 2) ja_nil))) ja_nil)) (by omega))) je_str) (je_fn (ok__law_pick G) hr tk (ja_cons (je_var 0) (ja_cons (je_lst (ja_cons je_str (ja_cons je_str ja_nil))) ja_nil)) (by omega)))))

theorem ok__law_told (G : Fx K mg) : Pr PRG w K mg base 6 "_law_told" G.a__law_told G.fd__law_told ["text"] 1 f__law_told := by
  refine ⟨fn_ok (k := 5) (N := ["text", "e"]) (b := b__law_told) G.F__law_told ⟨rfl, rfl, rfl, by decide +kernel, rfl, by decide +kernel, by decide +kernel⟩ rfl rfl ?_, G.g__law_told, G.F__law_told.kp, (Fun.binds G.F__law_told fun _ _ _ _ _ _ us hl => match us, hl with | [_], _ => rfl), rfl⟩
  intro X W hK hmg hP hw hb hNN hsc hfn hc hst hfr hex hr tk hp
  obtain ⟨prog', w', K', mg', base', A, N', s0, H0, env, outer, stack, ex, fnn, calm, pn, xe⟩ := X
  obtain ⟨scope, locals, globals, cells, qual, func, code, frame, builtins⟩ := env
  obtain rfl : K' = K := hK
  obtain rfl : mg' = mg := hmg
  obtain rfl : prog' = PRG := hP
  obtain rfl : w' = w := hw
  obtain rfl : base' = base := hb
  obtain rfl : N' = (["text", "e"] : List Str) := hNN
  obtain rfl : scope = defScope (top 17) := hsc
  obtain rfl : fnn = (fun _ => true) := hfn
  have hN : (["text", "e"] : List Str).Nodup := by decide +kernel
  have hu := hr.units
  exact (by
    exact jss_one (js_tryR (sub := sub_TextError) hst hfr ⟨rfl, by decide, .inl G.g_TextError⟩ G.s_TextError hN rfl rfl tk (fun W pn xe tk hp => (by
      exact jss_one (js_ret (je_fn (ok_read G) hr tk (ja_cons (je_var 0) ja_nil) (by decide))))) (fun x a oe cls d pn hx hz hv => (jx_tup (jxa_cons (jx_fld G.x_code hx hz hv rfl (Or.inl rfl)) (jxa_cons (jx_fld G.x_place hx hz hv rfl (Or.inl rfl)) jxa_nil))))))

theorem ok_law (G : Fx K mg) : Pr PRG w K mg base 9 "law" G.a_law G.fd_law ["script"] 1 f_law := by
  refine ⟨fn_ok (k := 8) (N := ["script", "d", "things", "text", "size", "bad", "more", "due", "deep", "k", "thing"]) (b := b_law) G.F_law ⟨rfl, rfl, rfl, by decide +kernel, rfl, by decide +kernel, by decide +kernel⟩ rfl rfl ?_, G.g_law, G.F_law.kp, (Fun.binds G.F_law fun _ _ _ _ _ _ us hl => match us, hl with | [_], _ => rfl), rfl⟩
  intro X W hK hmg hP hw hb hNN hsc hfn hc hst hfr hex hr tk hp
  obtain ⟨prog', w', K', mg', base', A, N', s0, H0, env, outer, stack, ex, fnn, calm, pn, xe⟩ := X
  obtain ⟨scope, locals, globals, cells, qual, func, code, frame, builtins⟩ := env
  obtain rfl : K' = K := hK
  obtain rfl : mg' = mg := hmg
  obtain rfl : prog' = PRG := hP
  obtain rfl : w' = w := hw
  obtain rfl : base' = base := hb
  obtain rfl : N' = (["script", "d", "things", "text", "size", "bad", "more", "due", "deep", "k", "thing"] : List Str) := hNN
  obtain rfl : scope = defScope (top 18) := hsc
  obtain rfl : fnn = (fun _ => true) := hfn
  have hN : (["script", "d", "things", "text", "size", "bad", "more", "due", "deep", "k", "thing"] : List Str).Nodup := by decide +kernel
  have hu := hr.units
  exact (by
    refine jss_cons (js_set 1 hN (je_fn (ok__law_begin G) hr tk (ja_cons (je_var 0) ja_nil) (by decide))) ?_
    refine jss_cons (js_set 2 hN (je_tuple G.b_tuple (ja_cons (je_lc (own := [("k", 9)]) hc hN (ji_range1 G.b_range (ja_cons (je_fn (ok__law_take G) hr tk (ja_cons (je_var 1) (ja_cons je_int ja_nil)) (by decide)) ja_nil)) (blkOk_by (by rfl)) (fun s H C cl fp => (jgw_name 9 hN)) (fun s H C cl fp => jts_nil) (fun s H C cl fp => (je_fn (ok__law_thing G 6) hr takes_no (ja_cons (je_var 1) (ja_cons je_int ja_nil)) (by decide)))) ja_nil))) ?_
    refine jss_cons (js_set 3 hN (je_join je_str (je_lc (own := [("thing", 10)]) hc hN (ji_tup (je_var 2)) (blkOk_by (by rfl)) (fun s H C cl fp => (jgw_name 10 hN)) (fun s H C cl fp => jts_nil) (fun s H C cl fp => (je_fn (ok__law_loose G 6) hr takes_no (ja_cons (je_var 1) (ja_cons (je_var 10) ja_nil)) (by decide)))))) ?_
    refine jss_cons (js_if (jt_w (jw_or (jt_ne hu (je_fn (ok_read G) hr tk (ja_cons (je_var 3) ja_nil) (by decide)) (je_var 2)) (jw_or (jt_tru (je_any hc G.b_any (ja_cons (je_lc (own := [("thing", 10)]) hc hN (ji_tup (je_var 2)) (blkOk_by (by rfl)) (fun s H C cl fp => (jgw_name 10 hN)) (fun s H C cl fp => jts_nil) (fun s H C cl fp => (je_ne hu (je_fn (ok_shown G 6) hr takes_no (ja_cons (je_var 10) ja_nil) (by decide)) (je_fn (ok__law_text G 6) hr takes_no (ja_cons (je_var 10) ja_nil) (by decide))))) ja_nil))) (jw_or1 (jt_ne hu (je_fn (ok_read G) hr tk (ja_cons (je_join je_str (je_lc (own := [("thing", 10)]) hc hN (ji_tup (je_var 2)) (blkOk_by (by rfl)) (fun s H C cl fp => (jgw_name 10 hN)) (fun s H C cl fp => jts_nil) (fun s H C cl fp => (je_fn (ok_shown G 6) hr takes_no (ja_cons (je_var 10) ja_nil) (by decide))))) ja_nil) (by decide)) (je_var 2)))))) (by
      exact jss_one (js_ret je_bl)) jss_nil) ?_
    refine jss_cons (js_if (jt_w (jw_or (jt_eq hu (je_count (je_var 3) je_str) je_int) (jw_or (jt_eq hu (je_slS (je_var 3) (jo_some (je_neg je_int)) jo_none) je_str) (jw_or1 (jt_eq hu (je_var 3) je_str))))) (by
      refine jss_cons (js_set 4 hN (je_len G.b_len (ja_cons (je_var 3) ja_nil))) ?_
      refine jss_cons (js_set 5 hN (je_lst (ja_cons (je_tup (ja_cons je_str (ja_cons (je_tup (ja_cons je_str (ja_cons (je_var 4) ja_nil))) ja_nil))) (ja_cons (je_tup (ja_cons je_str (ja_cons (je_tup (ja_cons je_str (ja_cons (je_add (je_var 4) je_int) ja_nil))) ja_nil))) (ja_cons (je_tup (ja_cons je_str (ja_cons (je_tup (ja_cons je_str (ja_cons (je_add (je_var 4) je_int) ja_nil))) ja_nil))) (ja_cons (je_tup (ja_cons je_str (ja_cons (je_tup (ja_cons je_str (ja_cons (je_add (je_var 4) je_int) ja_nil))) ja_nil))) (ja_cons (je_tup (ja_cons je_str (ja_cons (je_tup (ja_cons je_str (ja_cons (je_add (je_var 4) je_int) ja_nil))) ja_nil))) (ja_cons (je_tup (ja_cons je_str (ja_cons (je_tup (ja_cons je_str (ja_cons (je_add (je_var 4) je_int) ja_nil))) ja_nil))) (ja_cons (je_tup (ja_cons je_str (ja_cons (je_tup (ja_cons je_str (ja_cons (je_add (je_var 4) je_int) ja_nil))) ja_nil))) (ja_cons (je_tup (ja_cons je_str (ja_cons (je_tup (ja_cons je_str (ja_cons (je_add (je_var 4) je_int) ja_nil))) ja_nil))) ja_nil)))))))))) ?_
      exact jss_one (js_for hc hp (ji_list (je_var 5)) (jg_tup hc (jgs_cons (jg_name 6 hN) (jgs_cons (jg_name 7 hN) jgs_nil))) (by
        exact jss_one (js_if (jt_ne hu (je_fn (ok__law_told G) hr tk (ja_cons (je_add (je_var 3) (je_var 6)) ja_nil) (by decide)) (je_var 7)) (by
          exact jss_one (js_ret je_bl)) jss_nil)))) jss_nil) ?_
    refine jss_cons (js_set 8 hN (je_add (je_rep je_str je_int) (je_rep je_str je_int))) ?_
    refine jss_cons (js_if (jt_w (jw_or (jt_tru (je_isi "str" G.b_isinstance G.b_str (by kernel_rfl) (je_ix (je_fn (ok__law_told G) hr tk (ja_cons (je_var 8) ja_nil) (by decide)) je_int))) (jw_or (jt_ne hu (je_fn (ok__law_told G) hr tk (ja_cons (je_add (je_add je_str (je_var 8)) je_str) ja_nil) (by decide)) (je_tup (ja_cons je_str (ja_cons je_int ja_nil)))) (jw_or1 (jt_ne hu (je_fn (ok__law_told G) hr tk (ja_cons (je_rep je_str je_int) ja_nil) (by decide)) (je_tup (ja_cons je_str (ja_cons je_int ja_nil)))))))) (by
      exact jss_one (js_ret je_bl)) jss_nil) ?_
    exact jss_one (js_ret (je_and (je_eq hu (je_fn (ok_read G) hr tk (ja_cons (je_rep je_str je_int) ja_nil) (by decide)) (je_tup ja_nil)) (je_and (je_eq hu (je_fn (ok_read G) hr tk (ja_cons je_str ja_nil) (by decide)) (je_tup ja_nil)) (je_one (je_eq hu (je_fn (ok_read G) hr tk (ja_cons je_str ja_nil) (by decide)) (je_tup (ja_cons (je_tup (ja_cons je_str (ja_cons je_str ja_nil))) ja_nil))))))))

end K15
/-! the head's Hook: HeadHook2's facts, a Bool of one's own over the part told, the methods that say super(); the class statics are in the part. -/
namespace DL
open PySem PySem.Spec L2
/-! ### exception classes by Booleans -/
def oexM (C : Addr) (mro : List Value) (l : List (Option Value)) : Bool := match mro, l with
  | .ref C' :: bm, [_, _, _, _, some (.builtin n), _] => decide (C' = C) && (decide (n = "ValueError.__new__") && PySem.HandSPX.refsVE bm)
  | _, _ => false
theorem oexM_ok {C : Addr} {mro : List Value} {l : List (Option Value)} (h : oexM C mro l = true) : ∃ bm k0 k1 k2 k3 k5, mro = .ref C :: bm ∧ l = [k0, k1, k2, k3, some (.builtin "ValueError.__new__"), k5] ∧ PySem.HandSPX.refsVE bm = true := by
  unfold oexM at h
  split at h
  · obtain ⟨b1, h1⟩ := Bool.and_eq_true_iff.mp h
    obtain ⟨b2, b3⟩ := Bool.and_eq_true_iff.mp h1
    have b1 := of_decide_eq_true b1
    have b2 := of_decide_eq_true b2
    subst b1 b2
    exact ⟨_, _, _, _, _, _, rfl, rfl, b3⟩
  · cases h
def oexB (K : PySem.W.Frag) (C : Addr) : Bool := (match K.lookup C with
  | some ⟨.type t, _, .cls cd, sl⟩ => decide (t = "type") && (cd.hasDict && (!cd.hasDel && oexM C cd.mro sl.toList))
  | _ => false) && (He.eqO (PySem.W.findIn K (.ref C) "__setattr__") (some (some (.builtin "object.__setattr__"))) &&
    (decide (PySem.W.subIn K (.ref C) (.type "BaseException") = some true) && (decide (PySem.W.typeIn K (.ref C) = some (.type "type")) && PySem.W.keepIn K (.ref C))))
theorem oexB_ok {K : PySem.W.Frag} {C : Addr} (h : oexB K C = true) : OexC K C := by
  obtain ⟨h1, h⟩ := Bool.and_eq_true_iff.mp h
  obtain ⟨h2, h⟩ := Bool.and_eq_true_iff.mp h
  obtain ⟨h3, h⟩ := Bool.and_eq_true_iff.mp h
  obtain ⟨h4, h5⟩ := Bool.and_eq_true_iff.mp h
  refine ⟨?_, He.eqO_ok h2, of_decide_eq_true h3, of_decide_eq_true h4, h5⟩
  cases q : K.lookup C with
  | none => rw [q] at h1; cases h1
  | some o =>
    obtain ⟨oc, od, dt, sl⟩ := o
    rw [q] at h1
    cases oc with
    | type t =>
      cases dt with
      | cls cd =>
        obtain ⟨nm, bs, mro, ns, qn, hd, sn, sub, ab, col, del⟩ := cd
        have g1 : (decide (t = "type") && (hd && (!del && oexM C mro sl.toList))) = true := h1
        obtain ⟨a1, g2⟩ := Bool.and_eq_true_iff.mp g1
        obtain ⟨a2, g3⟩ := Bool.and_eq_true_iff.mp g2
        obtain ⟨a3, g4⟩ := Bool.and_eq_true_iff.mp g3
        have a1 := of_decide_eq_true a1
        obtain ⟨bm, k0, k1, k2, k3, k5, em, es, b3⟩ := oexM_ok g4
        subst a1
        subst a2
        have a3 : del = false := by cases del <;> first | rfl | cases a3
        subst a3
        subst em
        have hsl : sl = #[k0, k1, k2, k3, some (.builtin "ValueError.__new__"), k5] := by
          obtain ⟨l⟩ := sl
          simp only at es
          rw [es]
        subst hsl
        exact ⟨nm, qn, ns, bs, bm, sn, sub, ab, col, od, k0, k1, k2, k3, k5, rfl, b3⟩
      | _ => cases h1
    | _ => cases dt <;> cases h1
def supcB (K : PySem.W.Frag) (C D : Addr) (v : Value) : Bool := decide (PySem.W.mroIn K C (.ref D) = some true) && He.eqO (PySem.W.ks_superIn K C D "__init__") (some (some v))
theorem supcB_ok {K : PySem.W.Frag} {C D : Addr} {v : Value} (h : supcB K C D v = true) : SupC K C D v := by
  obtain ⟨h1, h2⟩ := Bool.and_eq_true_iff.mp h
  exact ⟨of_decide_eq_true h1, He.eqO_ok h2⟩
def exSB (K : PySem.W.Frag) (C D fI : Addr) : Bool := oexB K C && (He.eqO (PySem.W.findIn K (.ref C) "__init__") (some (some (.ref fI))) && (decide (PySem.W.typeIn K (.ref fI) = some (.type "function")) && (supcB K C D (.builtin "ValueError.__init__") &&
  (decide (PySem.W.subIn K (.ref C) (.type "ValueError") = some true) && He.eqO (PySem.W.findIn K (.ref C) "code") (some none)))))
theorem exSB_ok {K : PySem.W.Frag} {C D fI : Addr} (h : exSB K C D fI = true) : ExS K C D fI := by
  obtain ⟨h1, h⟩ := Bool.and_eq_true_iff.mp h
  obtain ⟨h2, h⟩ := Bool.and_eq_true_iff.mp h
  obtain ⟨h3, h⟩ := Bool.and_eq_true_iff.mp h
  obtain ⟨h4, h⟩ := Bool.and_eq_true_iff.mp h
  obtain ⟨h5, h6⟩ := Bool.and_eq_true_iff.mp h
  exact ⟨oexB_ok h1, He.eqO_ok h2, of_decide_eq_true h3, supcB_ok h4, of_decide_eq_true h5, He.eqO_ok h6⟩
def exTB (K : PySem.W.Frag) (C D D0 fI f0 : Addr) (n : Str) : Bool := oexB K C && (He.eqO (PySem.W.findIn K (.ref C) "__init__") (some (some (.ref fI))) && (decide (PySem.W.typeIn K (.ref fI) = some (.type "function")) && (supcB K C D (.ref f0) && (supcB K C D0 (.builtin "ValueError.__init__") &&
  (decide (PySem.W.subIn K (.ref C) (.type "ValueError") = some true) && (He.eqO (PySem.W.findIn K (.ref C) "code") (some none) && He.eqO (PySem.W.findIn K (.ref C) n) (some none)))))))
theorem exTB_ok {K : PySem.W.Frag} {C D D0 fI f0 : Addr} {n : Str} (h : exTB K C D D0 fI f0 n = true) : ExT K C D D0 fI f0 n := by
  obtain ⟨h1, h⟩ := Bool.and_eq_true_iff.mp h
  obtain ⟨h2, h⟩ := Bool.and_eq_true_iff.mp h
  obtain ⟨h3, h⟩ := Bool.and_eq_true_iff.mp h
  obtain ⟨h4, h⟩ := Bool.and_eq_true_iff.mp h
  obtain ⟨h5, h⟩ := Bool.and_eq_true_iff.mp h
  obtain ⟨h6, h⟩ := Bool.and_eq_true_iff.mp h
  obtain ⟨h7, h8⟩ := Bool.and_eq_true_iff.mp h
  exact ⟨oexB_ok h1, He.eqO_ok h2, of_decide_eq_true h3, supcB_ok h4, supcB_ok h5, of_decide_eq_true h6, He.eqO_ok h7, He.eqO_ok h8⟩
/-! ### methods that say super() -/
structure SupD where
  cls : Str
  qual : Str
  st : Stmt
/-- the i-th statement of a class's body -/
def clsSt (s : Stmt) (i : Nat) : Stmt := match s with
  | .ClassDef _ _ _ b _ _ _ _ _ _ _ => b.getD i (.Pass ⟨0, 0, 0, 0⟩)
  | _ => .Pass ⟨0, 0, 0, 0⟩
def SupD.f (K : PySem.W.Frag) (d : SupD) : Addr := He.ma K (He.ga K d.cls) "__init__"
abbrev FnU : Type := Option (Str × Str × Arguments × FuncBody × Scope × Addr × List Str × Addr)
def supW (K : PySem.W.Frag) (f : Addr) : FnU := match K.lookup f with
  | some ⟨_, _, .func fd, _⟩ => some (fd.name, fd.qualname, fd.params, fd.body, fd.scope, fd.globals, fd.closure.map (·.1), fd.builtins)
  | _ => none
def SupD.val (d : SupD) : FnU := some ("__init__", d.qual, defArgs d.st, .stmts (defBody d.st), defScope d.st, mainGlobals, ["__class__"], builtinsNs)
def noneB : Value → Bool
  | .none => true
  | _ => false
def codeFile (P : Program) : Option Obj → Bool
  | some ⟨_, _, .fields vs, _⟩ => (match vs[2]? with
    | some (Value.str file _) => ((P.main.file : Str) == file)
    | _ => false)
  | _ => false
def cellIs (D : Addr) : Option Obj → Bool
  | some ⟨_, _, .cell (some (.ref D')), _⟩ => decide (D' = D)
  | _ => false
def supM (P : Program) (K : PySem.W.Frag) (D : Addr) (qual : Str) (cl : List (Str × Addr)) (code dV : Value) : Bool := match cl, code with
  | [(_, cc)], .ref cda => PySem.W.codeIn K (.ref cda) qual && (noneB dV && (codeFile P (K.lookup cda) && cellIs D (K.lookup cc)))
  | _, _ => false
def supB (P : Program) (K : PySem.W.Frag) (f D : Addr) (qual : Str) : Bool := (match K.lookup f with
  | some ⟨_, _, .func fd, _⟩ => supM P K D qual fd.closure fd.code fd.defaults
  | _ => false) && ((PySem.W.clsIn K D).isSome && He.eqO (PySem.W.nsIn K cStatics "thirdparty.any") (some none))
theorem codeFile_ok {P : Program} {o : Option Obj} (h : codeFile P o = true) : ∃ ccl cdd vs ccs file tf, o = some ⟨ccl, cdd, .fields vs, ccs⟩ ∧ vs[2]? = some (.str file tf) ∧ ((P.main.file : Str) == file) = true := by
  unfold codeFile at h
  split at h
  · split at h
    · rename_i q
      exact ⟨_, _, _, _, _, _, rfl, q, h⟩
    · cases h
  · cases h
theorem cellIs_ok {D : Addr} {o : Option Obj} (h : cellIs D o = true) : ∃ cl cld csl, o = some ⟨cl, cld, .cell (some (.ref D)), csl⟩ := by
  unfold cellIs at h
  split at h
  · have e := of_decide_eq_true h
    subst e
    exact ⟨_, _, _, rfl⟩
  · cases h
theorem supM_ok {P : Program} {K : PySem.W.Frag} {D : Addr} {qual : Str} {cl : List (Str × Addr)} {code dV : Value} (h : supM P K D qual cl code dV = true) : ∃ y cc cda, cl = [(y, cc)] ∧ code = .ref cda ∧ dV = .none ∧ PySem.W.codeIn K (.ref cda) qual = true ∧ codeFile P (K.lookup cda) = true ∧ cellIs D (K.lookup cc) = true := by
  unfold supM at h
  split at h
  · obtain ⟨a1, h1⟩ := Bool.and_eq_true_iff.mp h
    obtain ⟨a2, h1⟩ := Bool.and_eq_true_iff.mp h1
    obtain ⟨a3, a4⟩ := Bool.and_eq_true_iff.mp h1
    have en : dV = .none := by
      cases dV <;> first | rfl | exact Bool.noConfusion a2
    exact ⟨_, _, _, rfl, rfl, en, a1, a3, a4⟩
  · cases h
theorem sup_ok {P : Program} {K : PySem.W.Frag} {d : SupD} {D : Addr} (ht : (P.main.scope.names.lookup ("super" : Str)).isSome = false) (e : supW K (d.f K) = d.val) (h : supB P K (d.f K) D d.qual = true) :
    ∃ cda cc fd, SupF P K (d.f K) D cda cc "__init__" d.qual (defArgs d.st) (defBody d.st) (defScope d.st) fd ∧ ∃ kV doc pm an ct, fd = PySem.W.ksFn "__init__" d.qual (defArgs d.st) (defBody d.st) (defScope d.st) .none kV doc pm an (.ref cda) ct cc := by
  obtain ⟨h1, h⟩ := Bool.and_eq_true_iff.mp h
  obtain ⟨h2, h3⟩ := Bool.and_eq_true_iff.mp h
  unfold supW at e
  cases q : K.lookup (d.f K) with
  | none => rw [q] at h1; cases h1
  | some o =>
    obtain ⟨oc, od, dt, osl⟩ := o
    rw [q] at h1 e
    cases dt with
    | func fd =>
      obtain ⟨n1, n2, n3, n4, n5, n6, n7, n8, n9, n10, n11, n12, n13, n14, n15⟩ := fd
      have e2 : (some (n1, n2, n3, n4, n5, n6, n7.map (·.1), n15) : FnU) = (some (("__init__" : Str), d.qual, defArgs d.st, FuncBody.stmts (defBody d.st), defScope d.st, mainGlobals, [("__class__" : Str)], builtinsNs) : FnU) := e
      simp only [Option.some.injEq, Prod.mk.injEq] at e2
      obtain ⟨g1, g2, g3, g4, g5, g6, g7, g8⟩ := e2
      subst g1 g2 g3 g4 g5 g6 g8
      have h1 : supM P K D d.qual n7 n13 n8 = true := h1
      obtain ⟨y, cc, cda, e7, e13, e8, a1, a3, a4⟩ := supM_ok h1
      subst e7 e13 e8
      have ey : y = "__class__" := by simpa using g7
      subst ey
      exact ⟨cda, cc, _, ⟨⟨_, _, _, _, _, _, _, _, _, rfl, q⟩, a1, codeFile_ok a3, cellIs_ok a4, h2, ht, He.eqO_ok h3⟩, _, _, _, _, _, rfl⟩
    | _ => cases h1
theorem sup_binds {K : PySem.W.Frag} {fd : FuncData} {name qual : Str} {params : Arguments} {body : List Stmt} {scope : Scope} {ps : List Str} {kV doc pm ct : Value} {an : Option Addr} {cda cc : Addr} (e : fd = PySem.W.ksFn name qual params body scope .none kV doc pm an (.ref cda) ct cc)
    (h : ∀ us : List Value, us.length = ps.length → bindArgs (PySem.W.ksFn name qual params body scope .none kV doc pm an (.ref cda) ct cc) ⟨us, []⟩ = pure (ps.zip us)) : Binds K fd ps [] := by
  subst e
  exact .all h
/-! ### the Hook -/
def asO (n : Nat) (g : Addr → Option Obj) : List Addr := PySem.cStatics :: He.asD g n
def isLst (o : Obj) : Bool := match o.cls with
  | .type c => decide (c = "list")
  | _ => false
/-- no list is in the part: the script is not -/
def frO (n : Nat) (g : Addr → Option Obj) : PySem.W.Frag := (He.frG g (asO n g)).filter fun q => !isLst q.2
theorem frO_mem {n : Nat} {g : Addr → Option Obj} {a : Addr} {o : Obj} (h : (frO n g).lookup a = some o) : g a = some o ∧ isLst o = false := by
  have m := He.lookup_mem h
  unfold frO at m
  obtain ⟨h1, h2⟩ := List.mem_filter.mp m
  refine ⟨He.frG_mem h1, ?_⟩
  have h2 : (!isLst o) = true := h2
  cases q : isLst o with
  | false => rfl
  | true => rw [q] at h2; cases h2
theorem frO_in {n : Nat} {h : Heap} : (frO n h.get?).In h := fun _ _ e => (frO_mem e).1
theorem not_lst {o : Obj} (h : isLst o = false) : o.cls ≠ .type "list" := fun e => by
  unfold isLst at h
  rw [e] at h
  cases h
abbrev AlO : Type := He.AlD × Bool × List FnU
def obsO (fa : List He.Fa) (fn : List He.DefD) (su : List SupD) (ex : PySem.W.Frag → Bool) (K : PySem.W.Frag) : AlO := (He.obsD fa fn K, ex K, su.map fun d => supW K (d.f K))
def valO (fn : List He.DefD) (su : List SupD) : AlO := (He.valD fn, true, su.map SupD.val)
structure SaysO (fa : List He.Fa) (fn : List He.DefD) (su : List SupD) (ex : PySem.W.Frag → Bool) (K : PySem.W.Frag) : Prop where
  d : He.SaysD fa fn K
  ex : ex K = true
  su : (su.map fun d => supW K (d.f K)) = su.map SupD.val
  nl : ∀ a o, K.lookup a = some o → o.cls ≠ .type "list"
def hookO (n : Nat) (fa : List He.Fa) (fn : List He.DefD) (su : List SupD) (ex : PySem.W.Frag → Bool) : PySem.W.Hook where
  α := AlO
  obs := fun s => obsO fa fn su ex (frO n s.heap.get?)
  val := fun _ => valO fn su
  says := fun _ h => ∃ K : PySem.W.Frag, K.In h ∧ SaysO fa fn su ex K
  of := fun _ _ e => ⟨_, frO_in, ⟨congrArg (fun z : AlO => z.1) e, congrArg (fun z : AlO => z.2.1) e, congrArg (fun z : AlO => z.2.2) e, fun _ _ l => not_lst (frO_mem l).2⟩⟩
  keeps := fun _ _ _ ⟨K, hK, c⟩ k => ⟨K, PySem.W.Frag.In.keeps hK k, c⟩
def obO (n : Nat) (fa : List He.Fa) (fn : List He.DefD) (su : List SupD) (ex : PySem.W.Frag → Bool) (s : PySem.W.SharedT) : AlO := obsO fa fn su ex (frO n (HandSHeadRun.getT s))
theorem obO_eq {n : Nat} {fa : List He.Fa} {fn : List He.DefD} {su : List SupD} {ex : PySem.W.Frag → Bool} (s : PySem.W.SharedT) : obO n fa fn su ex s = (hookO n fa fn su ex).obs s.abs := by
  have e : HandSHeadRun.getT s = s.abs.heap.get? := funext fun a => HandSHeadRun.getT_eq s a
  show obsO fa fn su ex (frO n (HandSHeadRun.getT s)) = _
  rw [e] <;> rfl
theorem SaysO.sup {fa : List He.Fa} {fn : List He.DefD} {su : List SupD} {ex : PySem.W.Frag → Bool} {K : PySem.W.Frag} (c : SaysO fa fn su ex K) (i : Nat) {d : SupD} (h : su[i]? = some d := by rfl) : supW K (d.f K) = d.val := by
  have e2 : (su.map fun d => supW K (d.f K))[i]? = (su.map SupD.val)[i]? := by rw [c.su]
  rw [List.getElem?_map, List.getElem?_map, h] at e2
  exact Option.some.inj e2
/-- the script, as a tree -/
theorem script_vr {K : PySem.W.Frag} {H : Hp} {a : Addr} {ns : List Int} (nl : ∀ a o, K.lookup a = some o → o.cls ≠ .type "list") (h : SqL K H a (ns.map V.int)) : VRs K [] H [.lst (ns.map D.int)] [.ref a] := by
  rcases h with h | ⟨o, its, n, h1, h2, _⟩
  · refine ⟨.ref a, [], rfl, ⟨a, ns.map V.int, rfl, h, by simp, ?_⟩, rfl⟩
    clear h
    induction ns with
    | nil => rfl
    | cons n ns ih => exact ⟨.int n, ns.map V.int, rfl, rfl, ih⟩
  · exact absurd h2 (nl _ _ h1)
theorem Rel.none {Ω : Wd} {H : Hp} : Rel Ω [] H [] := ⟨rfl, List.nodup_nil, fun n a o e => by simp at e⟩
/-- a law's promise, by its meaning -/
theorem law_sp {Ω : Wd} {H : Hp} {a : Addr} {ns : List Int} {m : DM} {S' : Store} (nl : ∀ a o, Ω.K.lookup a = some o → o.cls ≠ .type "list") (h : SqL Ω.K H a (ns.map V.int)) (hm : m [.lst (ns.map D.int)] [] = .ok (.bl true) S') :
    spOf Ω 1 m [.ref a] H (fun v _ => v = .bl true) fun _ _ _ => False := by
  refine ⟨[], [.lst (ns.map D.int)], [], .none, script_vr nl h, rfl, ?_⟩
  rw [hm]
  exact fun ρ' v H' s r hv => hv
theorem cx_no {P : Program} {w : World} {o : List Env} {H : Hp} {s s' : Shared} {e : Value} (h : L2.CX P w o H s (fun _ _ _ => False) e s') : False := by
  unfold L2.CX at h
  obtain ⟨a, B, H', cls, d, h⟩ := h
  exact h.2.2.2.2.2.2.2
/-- a law: F gives the written part, the function object, the promise over every base -/
theorem walk_ofW {l : PySem.W.OpenLaw} {n k : Nat} {q : Program} {loose : List Str} {XP : (Str → Option Value) → Heap → Prop} {YP : World → Heap → Prop} {d : DefRec} {x : Str}
    (hn : l.most = some n) (hn2 : n ≤ sizeLine) (hdf : d.params.defaults = []) (hr : Room k callerA)
    (F : ∀ (w : World) (mg : Str → Option Value) (fa : Addr) (h : Heap), YP w h → h.Ns mainGlobals mg → mg d.name = some (.ref fa) →
      ∃ (K : PySem.W.Frag) (fd : FuncData) (sp : Sp), K.In h ∧ (∀ (s : Shared) (u : Value), BindsTo s fd ⟨[u], []⟩ [(x, u)]) ∧
        (∀ (H : Hp) (a : Addr) (ns : List Int), ns.length ≤ n → Only H → SqL K H a (ns.map V.int) → sp [.ref a] H (fun v _ => v = .bl true) fun _ _ _ => False) ∧
        ∀ base : Heap, K.In base → base.Ns mainGlobals mg → FnOk l.prog w K mg base (L2.CX l.prog w) k fa fd [x] sp) :
    PySem.W.WalkO q loose XP YP l.row.toRowW d [] (fun f vs => PySem.call f vs) := by
  refine Att.attach_call hn hdf fun w s₀ s₁ mg mb fa o pm cd doc a vs ns G Y ho hd hcd hmg hobj hints hlen hg => ?_
  obtain ⟨K, fd, sp, KX, hb, hsp, hF⟩ := F w mg fa _ Y G.T.g hmg
  exact law_call KX G.T.g G.T.b G.T.builtins G.T.nolimit hg hobj hints (Nat.le_trans hlen hn2) hr hF hb (fun H hO hS => hsp H a ns hlen hO hS) fun H e s' => cx_no
theorem fun_binds {K : PySem.W.Frag} {x qual : Str} {st : Stmt} {f : Addr} {fd : FuncData} {ps : List Str} (F : Fun K x qual st f fd)
    (h : ∀ (kV doc pm : Value) (an : Option Addr) (cdv ct : Value) (us : List Value), us.length = ps.length → bindArgs (PySem.W.fnOf x qual (defArgs st) (defBody st) (defScope st) .none kV doc pm an cdv ct) ⟨us, []⟩ = pure (ps.zip us)) (s : Shared) (us : List Value) (hl : us.length = ps.length) : BindsTo s fd ⟨us, []⟩ (ps.zip us) := by
  obtain ⟨oc, od, kV, doc, pm, an, cdv, ct, osl, rfl, lk, hcd⟩ := F.ex
  exact .of_eq (h kV doc pm an cdv ct us hl)
end DL
/-! k15, the plain law: tokens -/
namespace K15
open PySem DL
/-- ' \n();' -/
def spc (c : Nat) : Bool := decide (c ∈ [32, 10, 40, 41, 59])
def par (c : Nat) : Bool := decide (c ∈ [40, 41])
def emit (w : List Nat) (s : Nat) : List (List Nat × Nat) := if w = [] then [] else [(w, s)]
def nsk (c : Nat) (k : Bool) : Bool := decide (c = 59) || (k && !decide (c = 10))
/-- the words and their places -/
def tk : List Nat → Nat → List Nat → Nat → Bool → List (List Nat × Nat)
  | [], _, _, _, _ => []
  | c :: cs, i, w, s, k => if (spc c || k) = true then emit w s ++ ((if (par c && !nsk c k) = true then [([c], i)] else []) ++ tk cs (i + 1) [] s (nsk c k))
    else tk cs (i + 1) (w ++ [c]) (if w = [] then i else s) k
def tokD (t : List Nat × Nat) : D := .tup [.str (mkS' t.1), .int (t.2 : Int)]
def tokE (t : D) (f : D) (w : List Nat) (s : Nat) (k : Bool) (p q : Option D) : DEnv := [some t, some f, some (.str (mkS' w)), some (.int (s : Int)), some (.bl k), p, q]
theorem spc_in : (PySem.Str.ofString " \n();").cps.toList = [32, 10, 40, 41, 59] := by decide +kernel
theorem par_in : (PySem.Str.ofString "()").cps.toList = [40, 41] := by decide +kernel
theorem semi : PySem.Str.ofString ";" = mkS' [59] := by decide +kernel
theorem newl : PySem.Str.ofString "\n" = mkS' [10] := by decide +kernel
theorem empt : PySem.Str.ofString "" = mkS' [] := by decide +kernel
theorem inS_eq (c : Nat) (z : Str) (S : Store) : gInS false (.str (mkS' [c])) (.str z) S = .ok (.bl (decide (c ∈ z.cps.toList))) S := rfl
/-- one turn -/
theorem tok_step (t : D) (m : Nat) (S : Store) (fd : List D) (hS : S[m]? = some (.lst fd)) (w : List Nat) (s : Nat) (k : Bool) (i c : Nat) (hw : w.length + 1 < 16777216) (hf : fd.length + 2 < 16777216) :
    b_tokens_f1 (tokE t (.ref m) w s k (some (.int (i : Int))) (some (.str (mkS' [c])))) S =
      if (spc c || k) = true then .nx (tokE t (.ref m) [] s (nsk c k) (some (.int (i : Int))) (some (.str (mkS' [c])))) (S.set m (.lst (fd ++ ((emit w s).map tokD ++ (if (par c && !nsk c k) = true then [tokD ([c], i)] else [])))))
      else .nx (tokE t (.ref m) (w ++ [c]) (if w = [] then i else s) k (some (.int (i : Int))) (some (.str (mkS' [c])))) S := by
  have hw' : truD (.str (mkS' w)) = some (!decide (w = [])) := tru_mk (by omega)
  have e1 : decide (c ∈ [32, 10, 40, 41, 59]) = spc c := rfl
  have e2 : decide (c ∈ [40, 41]) = par c := rfl
  have e3 : decide (mkS' [c] = mkS' [59]) = decide (c = 59) := by simp [mk_inj]
  have e4 : decide (mkS' [c] = mkS' [10]) = decide (c = 10) := by simp [mk_inj]
  have e5 : (c = 59) = (decide (c = 59) = true) := by simp
  have e6 : nsk c k = (decide (c = 59) || (k && !decide (c = 10))) := rfl
  have e8 : emit w s = if decide (w = []) = true then [] else [(w, s)] := by unfold emit; by_cases h : w = [] <;> simp [h]
  have e9 : (if w = [] then i else s) = if decide (w = []) = true then i else s := by by_cases h : w = [] <;> simp [h]
  have e10 : mkS' w ++ mkS' [c] = mkS' (w ++ [c]) := by show (⟨w.toArray ++ #[c]⟩ : Str) = _; simp
  have e11 : gAdd (.str (mkS' w)) (.str (mkS' [c])) S = .ok (.str (mkS' (w ++ [c]))) S := by
    rw [← e10]
    show (if _ then _ else _) = _
    rw [if_pos]
    show lenOk _ = true
    first
      | exact lenOk_lt (by rw [len_mk, len_mk]; simpa using hw)
      | exact lenOk_lt (by simpa using hw)
  have e12 : S.set m (.lst fd) = S := by
    apply List.ext_getElem?
    intro j
    by_cases hj : m = j
    · subst hj; rw [set_at hS, hS]
    · rw [List.getElem?_set_ne hj]
  rw [e6, e8, e9]
  unfold b_tokens_f1 tokE
  simp only [dIf, dOr, dAnd, dNot, dTest, dOp, dVar, dC, R.bind, R.thenF, List.getElem?_cons_succ, List.getElem?_cons_zero, dTru, dSeq, dSet, dExpr, dAppend, dTup, dCons, dNil, dNew, dLst, dOrV, dAndV, dNotV, dIfE, dAug, dNx, asB, dRet, dRetN, dCall, dFor, dAsg, toF, dgName, dgTup, dgCons, dgNil, dSl, doS, doN, List.set_cons_succ, List.set_cons_zero, Bool.false_eq_true, Bool.true_eq_false, if_true, if_false, ite_true, ite_false, Bool.not_true, Bool.not_false, List.length_cons, List.length_nil, inS_eq, spc_in, par_in, semi, newl, empt, tru_bl, hw', eq_str, e1, e2, e3, e4, isl hS]
  have hS1 : (S.set m (.lst (fd ++ [.tup [.str (mkS' w), .int (s : Int)]])))[m]? = some (.lst (fd ++ [.tup [.str (mkS' w), .int (s : Int)]])) := set_at hS
  have a1 := append_eq (y := .tup [.str (mkS' w), .int (s : Int)]) hS (by omega)
  have a2 := append_eq (y := .tup [.str (mkS' [c]), .int (i : Int)]) hS (by omega)
  have a3 := append_eq (y := .tup [.str (mkS' [c]), .int (i : Int)]) hS1 (by rw [List.length_append]; simp; omega)
  have t1 : rTup [.str (mkS' w), .int (s : Int)] S = .ok (.tup [.str (mkS' w), .int (s : Int)]) S := rTup_ok (by simp)
  have t2 : ∀ S', rTup [.str (mkS' [c]), .int (i : Int)] S' = .ok (.tup [.str (mkS' [c]), .int (i : Int)]) S' := fun S' => rTup_ok (by simp)
  generalize hb : decide (w = []) = b at *
  generalize decide (c = 59) = q at *
  generalize decide (c = 10) = n at *
  generalize par c = pr at *
  cases h1 : spc c <;> cases k <;> cases b <;> simp only [dIf, dOr, dAnd, dNot, dTest, dOp, dVar, dC, R.bind, R.thenF, List.getElem?_cons_succ, List.getElem?_cons_zero, dTru, dSeq, dSet, dExpr, dAppend, dTup, dCons, dNil, dNew, dLst, dOrV, dAndV, dNotV, dIfE, dAug, dNx, asB, dRet, dRetN, dCall, dFor, dAsg, toF, dgName, dgTup, dgCons, dgNil, dSl, doS, doN, List.set_cons_succ, List.set_cons_zero, Bool.false_eq_true, Bool.true_eq_false, if_true, if_false, ite_true, ite_false, Bool.not_true, Bool.not_false, List.length_cons, List.length_nil, isl hS, t1, a1, Bool.or_false, Bool.or_true, Bool.false_or, Bool.true_or, Bool.and_true, Bool.true_and, Bool.false_and, Bool.and_false, e11] <;> try rfl
  all_goals (cases q <;> cases n <;> cases pr <;> simp only [dIf, dOr, dAnd, dNot, dTest, dOp, dVar, dC, R.bind, R.thenF, List.getElem?_cons_succ, List.getElem?_cons_zero, dTru, dSeq, dSet, dExpr, dAppend, dTup, dCons, dNil, dNew, dLst, dOrV, dAndV, dNotV, dIfE, dAug, dNx, asB, dRet, dRetN, dCall, dFor, dAsg, toF, dgName, dgTup, dgCons, dgNil, dSl, doS, doN, List.set_cons_succ, List.set_cons_zero, Bool.false_eq_true, Bool.true_eq_false, if_true, if_false, ite_true, ite_false, Bool.not_true, Bool.not_false, List.length_cons, List.length_nil, inS_eq, par_in, newl, eq_str, e1, e2, e3, e4, tru_bl, isl hS, isl hS1, t2, a2, a3, Bool.or_false, Bool.or_true, Bool.false_or, Bool.true_or, Bool.and_true, Bool.true_and, Bool.false_and, Bool.and_false, List.set_set, List.append_assoc, List.nil_append, List.cons_append, List.map_cons, List.map_nil, tokD, and_true, and_false, and_self])
  all_goals first | rfl | (rw [List.append_nil, e12]; done) | (rw [show w = [] from of_decide_eq_true hb]; done) | (rw [show w = [] from of_decide_eq_true hb, List.append_nil, e12]; done)
end K15
namespace K15
open PySem DL
abbrev tokTg : DG := dgTup 2 (dgCons (dgName 5) (dgCons (dgName 6) dgNil))
theorem tok_loop (t : D) (m : Nat) : ∀ (cs : List Nat) (i : Nat) (w : List Nat) (s : Nat) (k : Bool) (p q : Option D) (S : Store) (fd : List D), S[m]? = some (.lst fd) → fd.length + 2 * cs.length + 2 < 16777216 → w.length + cs.length + 1 < 16777216 →
    ∃ w' s' k' p' q', dForL tokTg b_tokens_f1 (signs i cs) (tokE t (.ref m) w s k p q) S = .nx (tokE t (.ref m) w' s' k' p' q') (S.set m (.lst (fd ++ (tk cs i w s k).map tokD)))
  | [], i, w, s, k, p, q, S, fd, hS, hf, hw => by
    refine ⟨w, s, k, p, q, ?_⟩
    show F.nx _ S = _
    rw [show tk [] i w s k = [] from rfl, List.map_nil, List.append_nil]
    congr 1
    apply List.ext_getElem?
    intro j
    by_cases hj : m = j
    · subst hj; rw [set_at hS, hS]
    · rw [List.getElem?_set_ne hj]
  | c :: cs, i, w, s, k, p, q, S, fd, hS, hf, hw => by
    rw [List.length_cons] at hf hw
    have st := tok_step t m S fd hS w s k i c (by omega) (by omega)
    have e : dForL tokTg b_tokens_f1 (signs i (c :: cs)) (tokE t (.ref m) w s k p q) S = (b_tokens_f1 (tokE t (.ref m) w s k (some (.int (i : Int))) (some (.str (mkS' [c])))) S).turn (dForL tokTg b_tokens_f1 (signs (i + 1) cs)) := rfl
    rw [e, st]
    by_cases h : (spc c || k) = true
    · rw [if_pos h]
      have e2 : ∀ (x y : Nat) (z : Bool) (l : List Nat), (emit w s).length ≤ 1 := fun _ _ _ _ => by unfold emit; split <;> simp
      have hl1 : (emit w s).length ≤ 1 := by unfold emit; split <;> simp
      have hl2 : (if (par c && !nsk c k) = true then [tokD ([c], i)] else []).length ≤ 1 := by split <;> simp
      obtain ⟨w', s', k', p', q', ih⟩ := tok_loop t m cs (i + 1) [] s (nsk c k) (some (.int (i : Int))) (some (.str (mkS' [c]))) (S.set m (.lst (fd ++ ((emit w s).map tokD ++ (if (par c && !nsk c k) = true then [tokD ([c], i)] else []))))) _ (set_at hS) (by
        rw [List.length_append, List.length_append, List.length_map]; omega) (by simp; omega)
      refine ⟨w', s', k', p', q', ?_⟩
      show dForL tokTg b_tokens_f1 (signs (i + 1) cs) _ _ = _
      rw [ih, List.set_set]
      congr 3
      rw [show tk (c :: cs) i w s k = emit w s ++ ((if (par c && !nsk c k) = true then [([c], i)] else []) ++ tk cs (i + 1) [] s (nsk c k)) from if_pos h]
      simp only [List.map_append, List.append_assoc]
      congr 3
      split <;> rfl
    · rw [if_neg h]
      obtain ⟨w', s', k', p', q', ih⟩ := tok_loop t m cs (i + 1) (w ++ [c]) (if w = [] then i else s) k (some (.int (i : Int))) (some (.str (mkS' [c]))) S fd hS (by omega) (by simp; omega)
      refine ⟨w', s', k', p', q', ?_⟩
      show dForL tokTg b_tokens_f1 (signs (i + 1) cs) _ _ = _
      rw [ih]
      rw [show tk (c :: cs) i w s k = tk cs (i + 1) (w ++ [c]) (if w = [] then i else s) k from if_neg h]
theorem unders_tok (n : Nat) : ∀ l : List (List Nat × Nat), D.unders n (l.map tokD) = true
  | [] => rfl
  | t :: l => by
    show ((tokD t).under n && D.unders n (l.map tokD)) = true
    rw [unders_tok n l]; rfl
def toks (x : List Nat) : List (List Nat × Nat) := tk (x ++ [10]) 0 [] 0 false
theorem tokens_eq {x : List Nat} {S : Store} (hs : Sok S) (hx : x.length ≤ 1000000) : f_tokens [.str (mkS' x)] S = .ok (.lst ((toks x).map tokD)) S := by
  have hm : (S ++ [O.lst []])[S.length]? = some (.lst []) := by simp
  obtain ⟨w', s', k', p', q', h⟩ := tok_loop (.str (mkS' x)) S.length (x ++ [10]) 0 [] 0 false none none (S ++ [.lst []]) [] hm (by simp; omega) (by simp; omega)
  have e10 : mkS' x ++ mkS' [10] = mkS' (x ++ [10]) := by show (⟨x.toArray ++ #[10]⟩ : Str) = _; simp
  have e11 : ∀ S, gAdd (.str (mkS' x)) (.str (mkS' [10])) S = .ok (.str (mkS' (x ++ [10]))) S := fun S => by
    rw [← e10]
    show (if _ then _ else _) = _
    rw [if_pos]
    first
      | exact lenOk_lt (by rw [len_mk, len_mk]; simp; omega)
      | exact lenOk_lt (by simp; omega)
  have key : b_tokens [some (.str (mkS' x)), none, none, none, none, none, none] S = .rt (.ref S.length) ((S ++ [O.lst []]).set S.length (O.lst ([] ++ (toks x).map tokD))) := by
    unfold b_tokens
    have z : ∀ S, rNew [] S = .ok (.ref S.length) (S ++ [.lst []]) := fun S => rNew_ok (by simp)
    have z2 : ∀ a b c d S, rTup [a, b, c, d] S = .ok (.tup [a, b, c, d]) S := fun a b c d S => rTup_ok (by simp)
    simp only [dIf, dOr, dAnd, dNot, dTest, dOp, dVar, dC, R.bind, R.thenF, List.getElem?_cons_succ, List.getElem?_cons_zero, dTru, dSeq, dSet, dExpr, dAppend, dTup, dCons, dNil, dNew, dLst, dOrV, dAndV, dNotV, dIfE, dAug, dNx, asB, dRet, dRetN, dCall, dFor, dAsg, toF, dgName, dgTup, dgCons, dgNil, dSl, doS, doN, List.set_cons_succ, List.set_cons_zero, Bool.false_eq_true, Bool.true_eq_false, if_true, if_false, ite_true, ite_false, Bool.not_true, Bool.not_false, List.length_cons, List.length_nil, z, z2, newl, empt, e11, diEnumS]
    have el : (mkS' (x ++ [10])).cps.toList = x ++ [10] := by simp
    simp only [tokTg, tokE] at h
    try rw [el]
    erw [h]
    rfl
  refine (runFn_rt (np := 1) (N := 7) rfl key).trans ?_
  refine settle_lst hs ?_ ⟨S.length, Nat.le_refl _, set_at hm, rfl⟩ (by simp) (unders_tok _ _)
  simp
end K15
namespace K15
open PySem DL
def ex_number (p : Int) : Ex := ⟨"TextError", [("place", .int p), ("code", .str "number")]⟩
/-- the words that occur, with what they mean -/
def words : List (List Nat × Option D) := [([97], some (.str (mkS' [97]))), ([97, 110, 100], some (.str (mkS' [97, 110, 100]))), ([61, 62], some (.str (mkS' [61, 62]))), ([60, 61], some (.str (mkS' [60, 61]))), ([120, 95, 49], some (.str (mkS' [120, 95, 49]))),
  ([45], some (.str (mkS' [45]))), ([97, 45, 98], some (.str (mkS' [97, 45, 98]))), ([48], some (.int 0)), ([55], some (.int 7)), ([45, 49, 50], some (.int (-12))), ([57, 57, 57, 57, 57, 57, 57, 57, 57], some (.int 999999999)), ([48, 120], some (.str (mkS' [48, 120]))), ([45, 97], some (.str (mkS' [45, 97]))),
  ([98], some (.str (mkS' [98]))), ([99], some (.str (mkS' [99]))), ([48, 49], none), ([45, 48], none), ([49, 50, 51, 52, 53, 54, 55, 56, 57, 48], none), ([48, 48], none)]
theorem wow_ok {w : List Nat} {v : D} {p : Int} {S : Store} (h : b_whole_or_word [some (.str (mkS' w)), some (.int p), none, none] S = .rt v S) : f_whole_or_word [.str (mkS' w), .int p] S = .ok v S :=
  (runFn_rt (np := 2) (N := 4) rfl h).trans settle_same
theorem wow_no {w : List Nat} {p : Int} {S : Store} {δ : DEnv} (h : b_whole_or_word [some (.str (mkS' w)), some (.int p), none, none] S = .exc (ex_number p) δ S) : f_whole_or_word [.str (mkS' w), .int p] S = .exc (ex_number p) S :=
  (runFn_exc (np := 2) (N := 4) rfl h).trans (by unfold settleX; rw [if_pos rfl])
def wowR (v : Option D) (p : Int) (S : Store) : R D := match v with
  | some v => .ok v S
  | none => .exc (ex_number p) S
theorem wow_eq (p : Int) (S : Store) : ∀ q ∈ words, f_whole_or_word [.str (mkS' q.1), .int p] S = wowR q.2 p S := by
  unfold words
  simp only [List.forall_mem_cons]
  refine ⟨wow_ok (by kernel_rfl), wow_ok (by kernel_rfl), wow_ok (by kernel_rfl), wow_ok (by kernel_rfl), wow_ok (by kernel_rfl), wow_ok (by kernel_rfl), wow_ok (by kernel_rfl), wow_ok (by kernel_rfl), wow_ok (by kernel_rfl), wow_ok (by kernel_rfl), wow_ok (by kernel_rfl), wow_ok (by kernel_rfl), wow_ok (by kernel_rfl), wow_ok (by kernel_rfl), wow_ok (by kernel_rfl), ?_⟩
  refine ⟨wow_no (δ := [some (.str (mkS' [48, 49])), some (.int p), some (.str (mkS' [48, 49])), none]) (by kernel_rfl), wow_no (δ := [some (.str (mkS' [45, 48])), some (.int p), some (.str (mkS' [48])), none]) (by kernel_rfl), wow_no (δ := [some (.str (mkS' [49, 50, 51, 52, 53, 54, 55, 56, 57, 48])), some (.int p), some (.str (mkS' [49, 50, 51, 52, 53, 54, 55, 56, 57, 48])), none]) (by kernel_rfl), wow_no (δ := [some (.str (mkS' [48, 48])), some (.int p), some (.str (mkS' [48, 48])), none]) (by kernel_rfl), ?_⟩
  intro x hx
  cases hx
end K15
namespace K15
open PySem DL
/-! reading: the pure steps -/
inductive RS where
  | ok (bl : List (List D)) (top : List D) | er (code : Str) (place : Nat) | no
def rstep (bl : List (List D)) (top : List D) (w : List Nat) (p : Nat) : RS :=
  if w = [40] then (if 40 < bl.length + 2 then .er "deep" p else .ok (top :: bl) [])
  else if w = [41] then (match bl with
    | [] => .er "close" p
    | t :: bl' => .ok bl' (t ++ [.tup top]))
  else match words.lookup w with
    | some (some v) => .ok bl (top ++ [v])
    | some none => .er "number" p
    | none => .no
def PU (d : D) : Prop := ∀ n, d.under n = true
def PUs (l : List D) : Prop := ∀ d ∈ l, PU d
theorem PUs.unders {n : Nat} : ∀ {l : List D}, PUs l → D.unders n l = true
  | [], _ => rfl
  | d :: l, h => by
    show (d.under n && D.unders n l) = true
    rw [h d (List.mem_cons_self ..) n, PUs.unders fun x hx => h x (List.mem_cons_of_mem _ hx)]; rfl
theorem PU.tup {l : List D} (h : PUs l) : PU (.tup l) := fun n => h.unders
theorem words_pu : ∀ q ∈ words, ∀ v, q.2 = some v → PU v := by
  intro q hq v hv
  unfold words at hq
  simp only [List.mem_cons, List.not_mem_nil, or_false] at hq
  rcases hq with rfl | rfl | rfl | rfl | rfl | rfl | rfl | rfl | rfl | rfl | rfl | rfl | rfl | rfl | rfl | rfl | rfl | rfl | rfl <;> cases hv <;> intro n <;> rfl
/-- the frames in the store -/
def Frm (S : Store) : List Nat → List (List D) → Prop
  | [], [] => True
  | r :: rs, f :: fs => S[r]? = some (.lst f) ∧ Frm S rs fs
  | _, _ => False
theorem Frm.keep {S S' : Store} : ∀ {rs : List Nat} {fs : List (List D)}, Frm S rs fs → (∀ r ∈ rs, S'[r]? = S[r]?) → Frm S' rs fs
  | [], [], _, _ => trivial
  | r :: rs, f :: fs, h, k => ⟨by rw [k r (List.mem_cons_self ..)]; exact h.1, Frm.keep h.2 fun x hx => k x (List.mem_cons_of_mem _ hx)⟩
  | [], _ :: _, h, _ => h.elim
  | _ :: _, [], h, _ => h.elim
theorem Frm.lt {S : Store} : ∀ {rs : List Nat} {fs : List (List D)}, Frm S rs fs → ∀ x ∈ rs, x < S.length
  | [], [], _, x, hx => by cases hx
  | r :: rs, f :: fs, h, x, hx => by
    rcases List.mem_cons.mp hx with e | hx
    · rw [e]; exact (List.getElem?_eq_some_iff.mp h.1).1
    · exact h.2.lt x hx
  | [], _ :: _, h, _, _ => h.elim
  | _ :: _, [], h, _, _ => h.elim
theorem Frm.len {S : Store} : ∀ {rs : List Nat} {fs : List (List D)}, Frm S rs fs → rs.length = fs.length
  | [], [], _ => rfl
  | r :: rs, f :: fs, h => by rw [List.length_cons, List.length_cons, h.2.len]
  | [], _ :: _, h => h.elim
  | _ :: _, [], h => h.elim
structure RI (S0 S : Store) (B : Nat) (bl : List (List D)) (top : List D) : Prop where
  pre : S.take S0.length = S0
  le : S0.length + 2 ≤ S.length
  ex : ∃ r rs, S[S0.length + 1]? = some (.lst ((r :: rs).reverse.map D.ref)) ∧ S[r]? = some (.lst top) ∧ Frm S rs bl ∧ (r :: rs).Nodup ∧ S0.length + 1 ∉ (r :: rs) ∧ ∀ x ∈ r :: rs, S0.length ≤ x
  pu : PUs top ∧ ∀ f ∈ bl, PUs f
  bd : top.length ≤ B ∧ ∀ f ∈ bl, f.length ≤ B
def exT (code : Str) (p : Nat) : Ex := ⟨"TextError", [("place", .int (p : Int)), ("code", .str code)]⟩
def readE (t : D) (m : Nat) (w : Option D) (p : Option D) (dn : Option D) : DEnv := [some t, some (.ref (m + 1)), w, p, dn]
theorem take_set {S : Store} {n k : Nat} {o : O} (h : n ≤ k) : (S.set k o).take n = S.take n := by
  rw [List.take_set, List.set_eq_of_length_le (by rw [List.length_take]; omega)]
theorem opn : PySem.Str.ofString "(" = mkS' [40] := by decide +kernel
theorem cls : PySem.Str.ofString ")" = mkS' [41] := by decide +kernel
theorem refs_last {r : Nat} {rs : List Nat} : L2.atI ((r :: rs).reverse.map D.ref) (-1) = some (D.ref r) := by
  have hl : ((r :: rs).reverse.map D.ref).length = rs.length + 1 := by simp
  have hx : L2.ixN ((r :: rs).reverse.map D.ref).length (-1) = some rs.length := by
    unfold L2.ixN
    rw [hl, if_neg (by omega), if_pos (by omega)]
    congr 1; omega
  unfold L2.atI
  rw [hx]
  show ((r :: rs).reverse.map D.ref)[rs.length]? = _
  rw [List.reverse_cons, List.map_append, List.getElem?_append_right (by simp)]
  simp
theorem refs_pop {r : Nat} {rs : List Nat} : ((r :: rs).reverse.map D.ref)[((r :: rs).reverse.map D.ref).length - 1]? = some (.ref r) ∧ ((r :: rs).reverse.map D.ref).dropLast = rs.reverse.map D.ref := by
  rw [List.reverse_cons, List.map_append]
  constructor
  · simp
  · simp

theorem gIx_last {S : Store} {k r : Nat} {rs : List Nat} (h : S[k]? = some (.lst ((r :: rs).reverse.map D.ref))) : gIx (.ref k) (.int (-1)) S = .ok (.ref r) S := by
  show (match items S (.ref k) with
    | some ds => (match L2.atI ds (-1) with
      | some d => R.ok d S
      | none => .bad)
    | none => .bad) = _
  rw [show items S (.ref k) = some ((r :: rs).reverse.map D.ref) by simp only [items, h]]
  simp only [refs_last]
theorem gLen_ref {S : Store} {k : Nat} {ds : List D} (h : S[k]? = some (.lst ds)) : gLen [.ref k] S = .ok (.int ds.length) S := by
  show (match items S (.ref k) with
    | some ds => R.ok (D.int ds.length) S
    | none => .bad) = _
  rw [show items S (.ref k) = some ds by simp only [items, h]]
theorem gPop_ref {S : Store} {k r : Nat} {rs : List Nat} (h : S[k]? = some (.lst ((r :: rs).reverse.map D.ref))) : gPop (.ref k) S = .ok (.ref r) (S.set k (.lst (rs.reverse.map D.ref))) := by
  simp only [gPop, h]
  rw [refs_pop.1]
  simp only [refs_pop.2]
theorem gTuple_ref {S : Store} {k : Nat} {ds : List D} (h : S[k]? = some (.lst ds)) (hl : ds.length < 16777216) : gTuple [.ref k] S = .ok (.tup ds) S := by
  show (match items S (.ref k) with
    | some ds => if lenOk ds.length = true then R.ok (D.tup ds) S else .bad
    | none => .bad) = _
  rw [show items S (.ref k) = some ds by simp only [items, h]]
  simp only []
  rw [if_pos (lenOk_lt hl)]
theorem get_set_ne {S : Store} {i j : Nat} {o : O} (h : i ≠ j) : (S.set i o)[j]? = S[j]? := by rw [List.getElem?_set_ne h]
theorem get_app {S : Store} {j : Nat} {o o' : O} (h : S[j]? = some o') : (S ++ [o])[j]? = some o' := by
  rw [List.getElem?_append_left (List.getElem?_eq_some_iff.mp h).1]; exact h
theorem lookup_in {β : Type} {a : List Nat} {v : β} : ∀ {l : List (List Nat × β)}, l.lookup a = some v → (a, v) ∈ l
  | [], h => by cases h
  | (b, u) :: l, h => by
    rw [List.lookup_cons] at h
    by_cases e : (a == b) = true
    · rw [e] at h; cases h; rw [beq_iff_eq.mp e]; exact List.mem_cons_self ..
    · rw [Bool.not_eq_true] at e; rw [e] at h; exact List.mem_cons_of_mem _ (lookup_in h)
def StepTo (S0 : Store) (t : D) (w : List Nat) (i : Nat) (B : Nat) (r : F) : RS → Prop
  | .ok bl top => ∃ dn S', r = .nx (readE t S0.length (some (.str (mkS' w))) (some (.int (i : Int))) dn) S' ∧ RI S0 S' (B + 1) bl top
  | .er code p => ∃ δ S', r = .exc (exT code p) δ S' ∧ S'.take S0.length = S0
  | .no => True
theorem RI.app {S0 S : Store} {B r : Nat} {rs : List Nat} {bl : List (List D)} {top : List D} {v : D} (pre : S.take S0.length = S0) (le : S0.length + 2 ≤ S.length) (h1 : S[S0.length + 1]? = some (.lst ((r :: rs).reverse.map D.ref))) (h2 : S[r]? = some (.lst top)) (h3 : Frm S rs bl) (h4 : (r :: rs).Nodup) (h5 : S0.length + 1 ∉ (r :: rs)) (h6 : ∀ x ∈ r :: rs, S0.length ≤ x)
    (pu : PUs top ∧ ∀ f ∈ bl, PUs f) (bd : top.length ≤ B ∧ ∀ f ∈ bl, f.length ≤ B) (hv : PU v) : RI S0 (S.set r (.lst (top ++ [v]))) (B + 1) bl (top ++ [v]) := by
  have hn := List.nodup_cons.mp h4
  have hr : r ≠ S0.length + 1 := fun e => h5 (by rw [e]; exact List.mem_cons_self ..)
  refine ⟨by rw [take_set (h6 r (List.mem_cons_self ..)), pre], by rw [List.length_set]; exact le, ⟨r, rs, by rw [get_set_ne hr]; exact h1, set_at h2, h3.keep fun x hx => get_set_ne fun e => hn.1 (by rw [e]; exact hx), h4, h5, h6⟩, ⟨fun d hd => ?_, pu.2⟩, ⟨?_, fun f hf => Nat.le_succ_of_le (bd.2 f hf)⟩⟩
  · rcases List.mem_append.mp hd with hd | hd
    · exact pu.1 d hd
    · rw [List.mem_singleton.mp hd]; exact hv
  · rw [List.length_append]; have := bd.1; simp; omega
theorem gGt_int {a b : Int} {S : Store} : gGt (.int a) (.int b) S = .ok (.bl (decide (b < a))) S := rfl
theorem read_step (S0 S : Store) (t : D) (w : List Nat) (i B : Nat) (bl : List (List D)) (top : List D) (dn : Option D) (hB : B + 50 < 16777216) (hbl : bl.length ≤ 40) (h : RI S0 S B bl top) :
    StepTo S0 t w i B (b_read_f1 (readE t S0.length (some (.str (mkS' w))) (some (.int (i : Int))) dn) S) (rstep bl top w i) := by
  obtain ⟨r, rs, h1, h2, h3, h4, h5, h6⟩ := h.ex
  have hlen := h3.len
  have c1 : decide (mkS' w = mkS' [40]) = decide (w = [40]) := by simp only [mk_inj]
  have c2 : decide (mkS' w = mkS' [41]) = decide (w = [41]) := by simp only [mk_inj]
  have neg1 : ∀ S, gSub (.int 0) (.int 1) S = .ok (.int (-1)) S := fun S => rfl
  have hr : r ≠ S0.length + 1 := fun e => h5 (by rw [e]; exact List.mem_cons_self ..)
  have hn := List.nodup_cons.mp h4
  have lt1 := (List.getElem?_eq_some_iff.mp h1).1
  have ltr := (List.getElem?_eq_some_iff.mp h2).1
  have hb := h.bd.1
  have hrl : ((r :: rs).reverse.map D.ref).length = bl.length + 1 := by simp [hlen]
  unfold rstep
  by_cases hw1 : w = [40]
  · -- an opening sign
    rw [if_pos hw1]
    have z : ∀ S, rNew [] S = .ok (.ref S.length) (S ++ [.lst []]) := fun S => rNew_ok (by simp)
    have k1 : (S ++ [O.lst []])[S0.length + 1]? = some (.lst ((r :: rs).reverse.map D.ref)) := get_app h1
    have k2 := append_eq (y := .ref S.length) k1 (by rw [hrl]; omega)
    have k3 : ((S ++ [O.lst []]).set (S0.length + 1) (.lst ((r :: rs).reverse.map D.ref ++ [D.ref S.length])))[S0.length + 1]? = some (.lst ((r :: rs).reverse.map D.ref ++ [D.ref S.length])) := set_at k1
    have k4 : ((r :: rs).reverse.map D.ref ++ [D.ref S.length]).length = bl.length + 2 := by rw [List.length_append, hrl]; rfl
    have k5 := gLen_ref k3
    rw [k4] at k5
    have kp : ((S ++ [O.lst []]).set (S0.length + 1) (.lst ((r :: rs).reverse.map D.ref ++ [D.ref S.length]))).take S0.length = S0 := by
      rw [take_set (by omega), List.take_append_of_le_length (by omega), h.pre]
    unfold b_read_f1 readE
    simp only [dIf, dOr, dAnd, dNot, dTest, dOp, dVar, dC, R.bind, R.thenF, List.getElem?_cons_succ, List.getElem?_cons_zero, dTru, dSeq, dSet, dExpr, dAppend, dTup, dCons, dNil, dNew, dLst, dOrV, dAndV, dNotV, dIfE, dAug, dNx, asB, dRet, dRetN, dCall, dFor, dAsg, toF, dgName, dgTup, dgCons, dgNil, dSl, doS, doN, List.set_cons_succ, List.set_cons_zero, Bool.false_eq_true, Bool.true_eq_false, if_true, if_false, ite_true, ite_false, Bool.not_true, Bool.not_false, List.length_cons, List.length_nil, opn, cls, eq_str, c1, c2, decide_eq_true hw1, isl h1, z, k2, k5, gGt_int]
    by_cases hd : 40 < bl.length + 2
    · rw [if_pos hd]
      have hd' : decide ((40 : Int) < ((bl.length + 2 : Nat) : Int)) = true := decide_eq_true (by omega)
      rw [hd']
      simp only [dIf, dOr, dAnd, dNot, dTest, dOp, dVar, dC, R.bind, R.thenF, List.getElem?_cons_succ, List.getElem?_cons_zero, dTru, dSeq, dSet, dExpr, dAppend, dTup, dCons, dNil, dNew, dLst, dOrV, dAndV, dNotV, dIfE, dAug, dNx, asB, dRet, dRetN, dCall, dFor, dAsg, toF, dgName, dgTup, dgCons, dgNil, dSl, doS, doN, List.set_cons_succ, List.set_cons_zero, Bool.false_eq_true, Bool.true_eq_false, if_true, if_false, ite_true, ite_false, Bool.not_true, Bool.not_false, List.length_cons, List.length_nil, dRaise, mkT]
      exact ⟨_, _, rfl, kp⟩
    · rw [if_neg hd]
      have hd' : decide ((40 : Int) < ((bl.length + 2 : Nat) : Int)) = false := decide_eq_false (by omega)
      rw [hd']
      simp only [dIf, dOr, dAnd, dNot, dTest, dOp, dVar, dC, R.bind, R.thenF, List.getElem?_cons_succ, List.getElem?_cons_zero, dTru, dSeq, dSet, dExpr, dAppend, dTup, dCons, dNil, dNew, dLst, dOrV, dAndV, dNotV, dIfE, dAug, dNx, asB, dRet, dRetN, dCall, dFor, dAsg, toF, dgName, dgTup, dgCons, dgNil, dSl, doS, doN, List.set_cons_succ, List.set_cons_zero, Bool.false_eq_true, Bool.true_eq_false, if_true, if_false, ite_true, ite_false, Bool.not_true, Bool.not_false, List.length_cons, List.length_nil]
      refine ⟨dn, _, rfl, kp, by rw [List.length_set, List.length_append]; have := h.le; omega, ⟨S.length, r :: rs, ?_, ?_, ⟨?_, ?_⟩, ?_, ?_, ?_⟩, ⟨fun d hd => by simp at hd, fun f hf => ?_⟩, ⟨by simp, fun f hf => ?_⟩⟩
      · rw [k3]; simp
      · rw [get_set_ne (by omega)]; simp
      · rw [get_set_ne (Ne.symm hr)]; exact get_app h2
      · exact h3.keep fun x hx => by
          have hx1 : x ≠ S0.length + 1 := fun e => h5 (by rw [← e]; exact List.mem_cons_of_mem _ hx)
          rw [get_set_ne (Ne.symm hx1)]
          have := h6 x (List.mem_cons_of_mem _ hx)
          have lx : x < S.length := h3.lt x hx
          rw [List.getElem?_append_left lx]
      · refine List.nodup_cons.mpr ⟨fun m => ?_, h4⟩
        rcases List.mem_cons.mp m with e | m
        · omega
        · have := h3.lt _ m; omega
      · intro m
        rcases List.mem_cons.mp m with e | m
        · omega
        · exact h5 m
      · intro x hx
        rcases List.mem_cons.mp hx with e | hx
        · rw [e]; have := h.le; omega
        · exact h6 x hx
      · rcases List.mem_cons.mp hf with e | hf
        · rw [e]; exact h.pu.1
        · exact h.pu.2 f hf
      · rcases List.mem_cons.mp hf with e | hf
        · rw [e]; omega
        · exact Nat.le_succ_of_le (h.bd.2 f hf)
  · rw [if_neg hw1]
    by_cases hw2 : w = [41]
    · rw [if_pos hw2]
      have k5 := gLen_ref h1
      rw [hrl] at k5
      unfold b_read_f1 readE
      simp only [dIf, dOr, dAnd, dNot, dTest, dOp, dVar, dC, R.bind, R.thenF, List.getElem?_cons_succ, List.getElem?_cons_zero, dTru, dSeq, dSet, dExpr, dAppend, dTup, dCons, dNil, dNew, dLst, dOrV, dAndV, dNotV, dIfE, dAug, dNx, asB, dRet, dRetN, dCall, dFor, dAsg, toF, dgName, dgTup, dgCons, dgNil, dSl, doS, doN, List.set_cons_succ, List.set_cons_zero, Bool.false_eq_true, Bool.true_eq_false, if_true, if_false, ite_true, ite_false, Bool.not_true, Bool.not_false, List.length_cons, List.length_nil, opn, cls, eq_str, eq_int, c1, c2, decide_eq_false hw1, decide_eq_true hw2, k5]
      cases bl with
      | nil =>
        simp only [dIf, dOr, dAnd, dNot, dTest, dOp, dVar, dC, R.bind, R.thenF, List.getElem?_cons_succ, List.getElem?_cons_zero, dTru, dSeq, dSet, dExpr, dAppend, dTup, dCons, dNil, dNew, dLst, dOrV, dAndV, dNotV, dIfE, dAug, dNx, asB, dRet, dRetN, dCall, dFor, dAsg, toF, dgName, dgTup, dgCons, dgNil, dSl, doS, doN, List.set_cons_succ, List.set_cons_zero, Bool.false_eq_true, Bool.true_eq_false, if_true, if_false, ite_true, ite_false, Bool.not_true, Bool.not_false, List.length_cons, List.length_nil, dRaise, mkT]
        exact ⟨_, _, rfl, h.pre⟩
      | cons t2 bl2 =>
        have hne : (((t2 :: bl2).length + 1 : Nat) : Int) ≠ 1 := by rw [List.length_cons]; omega
        have hne' : ((((t2 :: bl2).length + 1 : Nat) : Int) == 1) = false := by rw [beq_eq_false_iff_ne]; exact hne
        have hne2 : (((bl2.length + 1 + 1 : Nat) : Int) == 1) = false := hne'
        cases rs with
        | nil => exact h3.elim
        | cons r2 rs2 =>
          obtain ⟨h31, h32⟩ := h3
          have p1 := gPop_ref h1
          have j1 : (S.set (S0.length + 1) (.lst ((r2 :: rs2).reverse.map D.ref)))[S0.length + 1]? = some (.lst ((r2 :: rs2).reverse.map D.ref)) := set_at h1
          have j2 : (S.set (S0.length + 1) (.lst ((r2 :: rs2).reverse.map D.ref)))[r]? = some (.lst top) := by rw [get_set_ne (Ne.symm hr)]; exact h2
          have j3 := gTuple_ref j2 (by omega)
          have hr2 : r2 ≠ S0.length + 1 := fun e => h5 (by rw [e]; simp)
          have j4 : (S.set (S0.length + 1) (.lst ((r2 :: rs2).reverse.map D.ref)))[r2]? = some (.lst t2) := by rw [get_set_ne (Ne.symm hr2)]; exact h31
          have j5 := gIx_last j1
          have ht2 := h.bd.2 t2 (List.mem_cons_self ..)
          have j6 := append_eq (y := .tup top) j4 (by omega)
          simp only [dIf, dOr, dAnd, dNot, dTest, dOp, dVar, dC, R.bind, R.thenF, List.getElem?_cons_succ, List.getElem?_cons_zero, dTru, dSeq, dSet, dExpr, dAppend, dTup, dCons, dNil, dNew, dLst, dOrV, dAndV, dNotV, dIfE, dAug, dNx, asB, dRet, dRetN, dCall, dFor, dAsg, toF, dgName, dgTup, dgCons, dgNil, dSl, doS, doN, List.set_cons_succ, List.set_cons_zero, Bool.false_eq_true, Bool.true_eq_false, if_true, if_false, ite_true, ite_false, Bool.not_true, Bool.not_false, List.length_cons, List.length_nil, hne', hne2, p1, j3, neg1, j5, isl j4, j6]
          refine ⟨some (.tup top), _, rfl, ?_⟩
          refine RI.app ?_ ?_ j1 j4 ?_ hn.2 (fun m => h5 (List.mem_cons_of_mem _ m)) (fun x hx => h6 x (List.mem_cons_of_mem _ hx)) ⟨h.pu.2 t2 (List.mem_cons_self ..), fun f hf => h.pu.2 f (List.mem_cons_of_mem _ hf)⟩ ⟨ht2, fun f hf => h.bd.2 f (List.mem_cons_of_mem _ hf)⟩ (PU.tup h.pu.1)
          · rw [take_set (by omega), h.pre]
          · rw [List.length_set]; exact h.le
          · exact h32.keep fun x hx => get_set_ne fun e => h5 (by rw [e]; simp [hx])
    · rw [if_neg hw2]
      cases hv : words.lookup w with
      | none => trivial
      | some v =>
        have hm : (w, v) ∈ words := lookup_in hv
        have we := wow_eq (i : Int) S (w, v) hm
        unfold b_read_f1 readE
        simp only [dIf, dOr, dAnd, dNot, dTest, dOp, dVar, dC, R.bind, R.thenF, List.getElem?_cons_succ, List.getElem?_cons_zero, dTru, dSeq, dSet, dExpr, dAppend, dTup, dCons, dNil, dNew, dLst, dOrV, dAndV, dNotV, dIfE, dAug, dNx, asB, dRet, dRetN, dCall, dFor, dAsg, toF, dgName, dgTup, dgCons, dgNil, dSl, doS, doN, List.set_cons_succ, List.set_cons_zero, Bool.false_eq_true, Bool.true_eq_false, if_true, if_false, ite_true, ite_false, Bool.not_true, Bool.not_false, List.length_cons, List.length_nil, opn, cls, eq_str, c1, c2, decide_eq_false hw1, decide_eq_false hw2, neg1, gIx_last h1, isl h2, we]
        cases v with
        | none => exact ⟨_, S, rfl, h.pre⟩
        | some v =>
          simp only [dIf, dOr, dAnd, dNot, dTest, dOp, dVar, dC, R.bind, R.thenF, List.getElem?_cons_succ, List.getElem?_cons_zero, dTru, dSeq, dSet, dExpr, dAppend, dTup, dCons, dNil, dNew, dLst, dOrV, dAndV, dNotV, dIfE, dAug, dNx, asB, dRet, dRetN, dCall, dFor, dAsg, toF, dgName, dgTup, dgCons, dgNil, dSl, doS, doN, List.set_cons_succ, List.set_cons_zero, Bool.false_eq_true, Bool.true_eq_false, if_true, if_false, ite_true, ite_false, Bool.not_true, Bool.not_false, List.length_cons, List.length_nil, wowR, append_eq h2 (show top.length < 16777216 by omega)]
          exact ⟨dn, _, rfl, RI.app h.pre h.le h1 h2 h3 h4 h5 h6 h.pu h.bd (words_pu _ hm v rfl)⟩
end K15
namespace K15
open PySem DL
def rfold : List (List Nat × Nat) → List (List D) → List D → RS
  | [], bl, top => .ok bl top
  | t :: ts, bl, top => match rstep bl top t.1 t.2 with
    | .ok bl' top' => rfold ts bl' top'
    | r => r
theorem rstep_bl {bl : List (List D)} {top : List D} {w : List Nat} {p : Nat} {bl' : List (List D)} {top' : List D} (h : rstep bl top w p = .ok bl' top') (hb : bl.length ≤ 40) : bl'.length ≤ 40 := by
  unfold rstep at h
  split at h
  · split at h
    · cases h
    · cases h; rw [List.length_cons]; omega
  · split at h
    · split at h
      · cases h
      · cases h; rw [List.length_cons] at hb; omega
    · split at h
      · cases h; exact hb
      · cases h
      · cases h
abbrev readTg : DG := dgTup 2 (dgCons (dgName 2) (dgCons (dgName 3) dgNil))
def LoopTo (S0 : Store) (t : D) (B : Nat) (r : F) : RS → Prop
  | .ok bl top => ∃ w p dn S', r = .nx (readE t S0.length w p dn) S' ∧ RI S0 S' B bl top ∧ bl.length ≤ 40
  | .er code p => ∃ δ S', r = .exc (exT code p) δ S' ∧ S'.take S0.length = S0
  | .no => True
theorem RI.mono {S0 S : Store} {B B' : Nat} {bl : List (List D)} {top : List D} (h : RI S0 S B bl top) (hb : B ≤ B') : RI S0 S B' bl top :=
  ⟨h.pre, h.le, h.ex, h.pu, Nat.le_trans h.bd.1 hb, fun f hf => Nat.le_trans (h.bd.2 f hf) hb⟩
theorem read_loop (S0 : Store) (t : D) : ∀ (ts : List (List Nat × Nat)) (S : Store) (B : Nat) (bl : List (List D)) (top : List D) (w p dn : Option D), B + ts.length + 50 < 16777216 → bl.length ≤ 40 → RI S0 S B bl top →
    LoopTo S0 t (B + ts.length) (dForL readTg b_read_f1 (ts.map tokD) (readE t S0.length w p dn) S) (rfold ts bl top)
  | [], S, B, bl, top, w, p, dn, hB, hb, h => ⟨w, p, dn, S, rfl, h, hb⟩
  | (a, i) :: ts, S, B, bl, top, w, p, dn, hB, hb, h => by
    rw [List.length_cons] at hB
    have st := read_step S0 S t a i B bl top dn (by omega) hb h
    have e : dForL readTg b_read_f1 (((a, i) :: ts).map tokD) (readE t S0.length w p dn) S = (b_read_f1 (readE t S0.length (some (.str (mkS' a))) (some (.int (i : Int))) dn) S).turn (dForL readTg b_read_f1 (ts.map tokD)) := rfl
    rw [e]
    show LoopTo S0 t (B + (ts.length + 1)) _ (match rstep bl top a i with
      | .ok bl' top' => rfold ts bl' top'
      | r => r)
    cases hr : rstep bl top a i with
    | ok bl' top' =>
      rw [hr] at st
      obtain ⟨dn', S', e2, ri⟩ := st
      rw [e2]
      have ih := read_loop S0 t ts S' (B + 1) bl' top' (some (.str (mkS' a))) (some (.int (i : Int))) dn' (by omega) (rstep_bl hr hb) ri
      rw [show B + (ts.length + 1) = B + 1 + ts.length by omega]
      exact ih
    | er code q =>
      rw [hr] at st
      obtain ⟨δ, S', e2, ri⟩ := st
      rw [e2]
      exact ⟨δ, S', rfl, ri⟩
    | no => trivial
theorem tk_len : ∀ (cs : List Nat) (i : Nat) (w : List Nat) (s : Nat) (k : Bool), (tk cs i w s k).length ≤ 2 * cs.length
  | [], _, _, _, _ => Nat.zero_le _
  | c :: cs, i, w, s, k => by
    by_cases h : (spc c || k) = true
    · rw [show tk (c :: cs) i w s k = emit w s ++ ((if (par c && !nsk c k) = true then [([c], i)] else []) ++ tk cs (i + 1) [] s (nsk c k)) from if_pos h]
      have h1 : (emit w s).length ≤ 1 := by unfold emit; split <;> simp
      have h2 : (if (par c && !nsk c k) = true then [([c], i)] else []).length ≤ 1 := by split <;> simp
      have := tk_len cs (i + 1) [] s (nsk c k)
      rw [List.length_append, List.length_append, List.length_cons]; omega
    · rw [show tk (c :: cs) i w s k = tk cs (i + 1) (w ++ [c]) (if w = [] then i else s) k from if_neg h]
      have := tk_len cs (i + 1) (w ++ [c]) (if w = [] then i else s) k
      rw [List.length_cons]; omega
theorem toks_len (x : List Nat) : (toks x).length ≤ 2 * x.length + 2 := by
  have := tk_len (x ++ [10]) 0 [] 0 false
  unfold toks
  simp at this; omega
theorem gLen_str {x : List Nat} {S : Store} (h : x.length < 16777216) : gLen [.str (mkS' x)] S = .ok (.int (x.length : Int)) S := by
  show (if lenOk (mkS' x).length = true then R.ok (D.int (mkS' x).length) S else .bad) = _
  rw [len_mk, if_pos (lenOk_lt h)]
theorem read_long {x : List Nat} {S : Store} (h1 : 20000 < x.length) (h2 : x.length < 16777216) : f_read [.str (mkS' x)] S = .exc (exT "long" 0) S := by
  have hd : decide ((20000 : Int) < (x.length : Int)) = true := decide_eq_true (by omega)
  have key : b_read [some (.str (mkS' x)), none, none, none, none] S = .exc (exT "long" 0) [some (.str (mkS' x)), none, none, none, none] S := by
    unfold b_read
    simp only [dIf, dOr, dAnd, dNot, dTest, dOp, dVar, dC, R.bind, R.thenF, List.getElem?_cons_succ, List.getElem?_cons_zero, dTru, dSeq, dSet, dExpr, dAppend, dTup, dCons, dNil, dNew, dLst, dOrV, dAndV, dNotV, dIfE, dAug, dNx, asB, dRet, dRetN, dCall, dFor, dAsg, toF, dgName, dgTup, dgCons, dgNil, dSl, doS, doN, List.set_cons_succ, List.set_cons_zero, Bool.false_eq_true, Bool.true_eq_false, if_true, if_false, ite_true, ite_false, Bool.not_true, Bool.not_false, List.length_cons, List.length_nil, gLen_str h2, gGt_int, hd, dRaise, mkT]
    rfl
  exact (runFn_exc (np := 1) (N := 5) rfl key).trans (by unfold settleX; rw [if_pos rfl])
def ReadTo (x : List Nat) (S : Store) (r : R D) : RS → Prop
  | .ok bl top => r = if bl = [] then .ok (.tup top) S else .exc (exT "open" x.length) S
  | .er code p => r = .exc (exT code p) S
  | .no => True
theorem read_eq {x : List Nat} {S : Store} (hs : Sok S) (hx : x.length ≤ 20000) : ReadTo x S (f_read [.str (mkS' x)] S) (rfold (toks x) [] []) := by
  have hd : decide ((20000 : Int) < (x.length : Int)) = false := decide_eq_false (by omega)
  have gl := gLen_str (x := x) (S := S) (by omega)
  have tl := toks_len x
  have z : ∀ S, rNew [] S = .ok (.ref S.length) (S ++ [.lst []]) := fun S => rNew_ok (by simp)
  have z1 : ∀ a S, rNew [a] S = .ok (.ref S.length) (S ++ [.lst [a]]) := fun a S => rNew_ok (by simp)
  have ri : RI S (S ++ [.lst []] ++ [.lst [.ref S.length]]) 0 [] [] := by
    refine ⟨by simp, by simp, ⟨S.length, [], by simp, by simp, trivial, by simp, by simp, fun x hx => by simp at hx; omega⟩, ⟨fun d hd => by simp at hd, fun f hf => by simp at hf⟩, ⟨by simp, fun f hf => by simp at hf⟩⟩
  have lp := read_loop S (.str (mkS' x)) (toks x) _ 0 [] [] none none none (by omega) (by simp) ri
  have ht : ∀ S', Sok S' → f_tokens [.str (mkS' x)] S' = .ok (.lst ((toks x).map tokD)) S' := fun S' h => tokens_eq h (by omega)
  have s1 : Sok (S ++ [.lst []] ++ [.lst [.ref S.length]]) := by
    refine (hs.app (by rfl)).app ?_
    show (decide (S.length < (S ++ [O.lst []]).length + 1) && true) = true
    rw [decide_eq_true (by simp; omega)]; rfl
  have ht := ht _ s1
  have hl : (S ++ [O.lst []]).length = S.length + 1 := by simp
  have ol : ∀ (δ : DEnv) (S' : Store) (k : D → Store → F), (R.ok (D.non) S').thenF δ k = k .non S' := fun _ _ _ => rfl
  have red : b_read [some (.str (mkS' x)), none, none, none, none] S = (match dForL readTg b_read_f1 ((toks x).map tokD) (readE (.str (mkS' x)) S.length none none none) (S ++ [.lst []] ++ [.lst [.ref S.length]]) with
    | .nx δ' S' => dSeq (dIf (dTest (dOp gGt (dCall gLen (dCons (dVar 1) dNil)) (dC (.int 1)))) (dRaise "TextError" (mkT "place") (dCons (dC (.str (PySem.Str.ofString "open"))) (dCons (dCall gLen (dCons (dVar 0) dNil)) dNil))) dNx) (dRet (dCall gTuple (dCons (dOp gIx (dVar 1) (dC (.int 0))) dNil))) δ' S'
    | .rt d S' => .rt d S'
    | .bk δ' S' => .bk δ' S'
    | .ct δ' S' => .ct δ' S'
    | .exc x δ' S' => .exc x δ' S'
    | .bad => .bad) := by
    unfold b_read
    simp only [dIf, dOr, dAnd, dNot, dTest, dOp, dVar, dC, R.bind, R.thenF, List.getElem?_cons_succ, List.getElem?_cons_zero, dTru, dSeq, dSet, dExpr, dAppend, dTup, dCons, dNil, dNew, dLst, dOrV, dAndV, dNotV, dIfE, dAug, dNx, asB, dRet, dRetN, dCall, dFor, dAsg, toF, dgName, dgTup, dgCons, dgNil, dSl, doS, doN, List.set_cons_succ, List.set_cons_zero, Bool.false_eq_true, Bool.true_eq_false, if_true, if_false, ite_true, ite_false, Bool.not_true, Bool.not_false, List.length_cons, List.length_nil, gl, gGt_int, hd, z, z1, hl, diL, ht]
    rfl
  rw [Nat.zero_add] at lp
  cases hr : rfold (toks x) [] [] with
  | no => trivial
  | er code p =>
    rw [hr] at lp
    obtain ⟨δ, S', e, hp⟩ := lp
    rw [e] at red
    have red : b_read [some (.str (mkS' x)), none, none, none, none] S = .exc (exT code p) δ S' := red
    show f_read _ S = _
    exact (runFn_exc (np := 1) (N := 5) rfl red).trans (settleX_val hs hp rfl)
  | ok bl top =>
    rw [hr] at lp
    obtain ⟨w, p, dn, S', e, ri, hbl⟩ := lp
    rw [e] at red
    obtain ⟨r, rs, h1, h2, h3, h4, h5, h6⟩ := ri.ex
    have hrl : ((r :: rs).reverse.map D.ref).length = bl.length + 1 := by simp [h3.len]
    have k5 := gLen_ref h1
    rw [hrl] at k5
    have gl' := gLen_str (x := x) (S := S') (by omega)
    show f_read _ S = _
    by_cases hb : bl = []
    · subst hb
      rw [if_pos rfl]
      cases rs with
      | cons a b => exact h3.elim
      | nil =>
        have hd1 : decide ((1 : Int) < ((([] : List (List D)).length + 1 : Nat) : Int)) = false := rfl
        have hd2 : decide ((1 : Int) < ((0 + 1 : Nat) : Int)) = false := rfl
        have gi : gIx (.ref (S.length + 1)) (.int 0) S' = .ok (.ref r) S' := by
          show (match items S' (.ref (S.length + 1)) with
            | some ds => (match L2.atI ds 0 with
              | some d => R.ok d S'
              | none => .bad)
            | none => .bad) = _
          rw [show items S' (.ref (S.length + 1)) = some [.ref r] by simp only [items, h1]; rfl]
          rfl
        have gt := gTuple_ref h2 (by have := ri.bd.1; omega)
        have red2 : b_read [some (.str (mkS' x)), none, none, none, none] S = .rt (.tup top) S' := by
          rw [red]
          unfold readE
          simp only [dIf, dOr, dAnd, dNot, dTest, dOp, dVar, dC, R.bind, R.thenF, List.getElem?_cons_succ, List.getElem?_cons_zero, dTru, dSeq, dSet, dExpr, dAppend, dTup, dCons, dNil, dNew, dLst, dOrV, dAndV, dNotV, dIfE, dAug, dNx, asB, dRet, dRetN, dCall, dFor, dAsg, toF, dgName, dgTup, dgCons, dgNil, dSl, doS, doN, List.set_cons_succ, List.set_cons_zero, Bool.false_eq_true, Bool.true_eq_false, if_true, if_false, ite_true, ite_false, Bool.not_true, Bool.not_false, List.length_cons, List.length_nil, k5, gGt_int, hd1, hd2, gi, gt]
        exact (runFn_rt (np := 1) (N := 5) rfl red2).trans (settle_val hs ri.pre rfl (PU.tup ri.pu.1 _))
    · rw [if_neg hb]
      have hd1 : decide ((1 : Int) < ((bl.length + 1 : Nat) : Int)) = true := decide_eq_true (by
        have : bl.length ≠ 0 := fun e => hb (List.eq_nil_of_length_eq_zero e)
        omega)
      have red2 : b_read [some (.str (mkS' x)), none, none, none, none] S = .exc (exT "open" x.length) (readE (.str (mkS' x)) S.length w p dn) S' := by
        rw [red]
        unfold readE
        simp only [dIf, dOr, dAnd, dNot, dTest, dOp, dVar, dC, R.bind, R.thenF, List.getElem?_cons_succ, List.getElem?_cons_zero, dTru, dSeq, dSet, dExpr, dAppend, dTup, dCons, dNil, dNew, dLst, dOrV, dAndV, dNotV, dIfE, dAug, dNx, asB, dRet, dRetN, dCall, dFor, dAsg, toF, dgName, dgTup, dgCons, dgNil, dSl, doS, doN, List.set_cons_succ, List.set_cons_zero, Bool.false_eq_true, Bool.true_eq_false, if_true, if_false, ite_true, ite_false, Bool.not_true, Bool.not_false, List.length_cons, List.length_nil, k5, gGt_int, hd1, gl', dRaise, mkT]
        rfl
      exact (runFn_exc (np := 1) (N := 5) rfl red2).trans (settleX_val hs ri.pre rfl)
end K15
namespace K15
open PySem DL
theorem rfold_append : ∀ (a b : List (List Nat × Nat)) (bl : List (List D)) (top : List D), rfold (a ++ b) bl top = match rfold a bl top with
    | .ok bl' top' => rfold b bl' top'
    | r => r
  | [], b, bl, top => rfl
  | t :: a, b, bl, top => by
    show (match rstep bl top t.1 t.2 with
      | .ok bl' top' => rfold (a ++ b) bl' top'
      | r => r) = match (match rstep bl top t.1 t.2 with
      | .ok bl' top' => rfold a bl' top'
      | r => r) with
      | .ok bl' top' => rfold b bl' top'
      | r => r
    cases rstep bl top t.1 t.2 with
    | ok bl' top' => exact rfold_append a b bl' top'
    | er _ _ => rfl
    | no => rfl
def G (cs : List Nat) (i : Nat) (w : List Nat) (s : Nat) (k : Bool) (bl : List (List D)) (top : List D) : RS := rfold (tk cs i w s k) bl top
/-- between words, out of comments -/
def C (cs : List Nat) (i : Nat) (bl : List (List D)) (top : List D) : RS := G cs i [] 0 false bl top
theorem tk_start : ∀ (cs : List Nat) (i s : Nat) (k : Bool), tk cs i [] s k = tk cs i [] 0 k
  | [], _, _, _ => rfl
  | c :: cs, i, s, k => by
    by_cases h : (spc c || k) = true
    · rw [show tk (c :: cs) i [] s k = emit [] s ++ ((if (par c && !nsk c k) = true then [([c], i)] else []) ++ tk cs (i + 1) [] s (nsk c k)) from if_pos h,
        show tk (c :: cs) i [] 0 k = emit [] 0 ++ ((if (par c && !nsk c k) = true then [([c], i)] else []) ++ tk cs (i + 1) [] 0 (nsk c k)) from if_pos h, tk_start cs (i + 1) s (nsk c k)]
      rfl
    · rw [show tk (c :: cs) i [] s k = tk cs (i + 1) [c] i k from if_neg h, show tk (c :: cs) i [] 0 k = tk cs (i + 1) [c] i k from if_neg h]
theorem G_start {cs : List Nat} {i s : Nat} {k : Bool} {bl : List (List D)} {top : List D} : G cs i [] s k bl top = G cs i [] 0 k bl top := by
  unfold G; rw [tk_start]
theorem C_gap : ∀ g ∈ [[], [32], [32, 32], [10], [32, 59, 32, 97, 32, 41, 32, 40, 10], [10, 10, 32], [59, 10]], ∀ (cs : List Nat) (i : Nat) (bl : List (List D)) (top : List D), C (g ++ cs) i bl top = C cs (i + g.length) bl top := by
  intro g hg cs i bl top
  simp only [List.mem_cons, List.not_mem_nil, or_false] at hg
  rcases hg with rfl | rfl | rfl | rfl | rfl | rfl | rfl <;> rfl
theorem C_open {cs : List Nat} {i : Nat} {bl : List (List D)} {top : List D} (h : bl.length + 2 ≤ 40) : C (40 :: cs) i bl top = C cs (i + 1) (top :: bl) [] := by
  show (match (if ([40] : List Nat) = [40] then (if 40 < bl.length + 2 then RS.er "deep" i else .ok (top :: bl) []) else _) with
    | .ok bl' top' => rfold (tk cs (i + 1) [] 0 false) bl' top'
    | r => r) = _
  rw [if_pos rfl, if_neg (by omega)]
  rfl
theorem C_deep {cs : List Nat} {i : Nat} {bl : List (List D)} {top : List D} (h : 40 < bl.length + 2) : C (40 :: cs) i bl top = .er "deep" i := by
  show (match (if ([40] : List Nat) = [40] then (if 40 < bl.length + 2 then RS.er "deep" i else .ok (top :: bl) []) else _) with
    | .ok bl' top' => rfold (tk cs (i + 1) [] 0 false) bl' top'
    | r => r) = _
  rw [if_pos rfl, if_pos h]
theorem C_close {cs : List Nat} {i : Nat} {bl : List (List D)} {top t : List D} : C (41 :: cs) i (t :: bl) top = C cs (i + 1) bl (t ++ [.tup top]) := rfl
theorem C_close0 {cs : List Nat} {i : Nat} {top : List D} : C (41 :: cs) i [] top = .er "close" i := rfl
theorem C_end {i : Nat} {bl : List (List D)} {top : List D} : C [10] i bl top = .ok bl top := rfl
/-- a word gathers -/
theorem tk_word : ∀ (u : List Nat) (cs : List Nat) (i s : Nat) (w : List Nat), (∀ c ∈ u, spc c = false) → w ≠ [] → tk (u ++ cs) i w s false = tk cs (i + u.length) (w ++ u) s false
  | [], cs, i, s, w, _, _ => by simp
  | c :: u, cs, i, s, w, h, hw => by
    have h1 : ¬ (spc c || false) = true := by rw [h c (List.mem_cons_self ..)]; simp
    rw [List.cons_append, show tk (c :: (u ++ cs)) i w s false = tk (u ++ cs) (i + 1) (w ++ [c]) (if w = [] then i else s) false from if_neg h1, if_neg hw, tk_word u cs (i + 1) s (w ++ [c]) (fun x hx => h x (List.mem_cons_of_mem _ hx)) (by simp)]
    rw [List.length_cons, show i + 1 + u.length = i + (u.length + 1) by omega, List.append_assoc]; rfl
theorem C_word {c0 : Nat} {u cs : List Nat} {i c : Nat} {bl : List (List D)} {top : List D} (h : ∀ x ∈ c0 :: u, spc x = false) (hc : spc c = true) :
    C ((c0 :: u) ++ c :: cs) i bl top = match rstep bl top (c0 :: u) i with
      | .ok bl' top' => C (c :: cs) (i + (c0 :: u).length) bl' top'
      | r => r := by
  have h1 : ¬ (spc c0 || false) = true := by rw [h c0 (List.mem_cons_self ..)]; simp
  have h2 : (spc c || false) = true := by rw [hc]; rfl
  unfold C G
  rw [List.cons_append, show tk (c0 :: (u ++ c :: cs)) i [] 0 false = tk (u ++ c :: cs) (i + 1) [c0] i false from if_neg h1, tk_word u (c :: cs) (i + 1) i [c0] (fun x hx => h x (List.mem_cons_of_mem _ hx)) (by simp)]
  rw [show tk (c :: cs) (i + 1 + u.length) ([c0] ++ u) i false = emit (c0 :: u) i ++ ((if (par c && !nsk c false) = true then [([c], i + 1 + u.length)] else []) ++ tk cs (i + 1 + u.length + 1) [] i (nsk c false)) from if_pos h2]
  rw [show emit (c0 :: u) i = [(c0 :: u, i)] from rfl, rfold_append, tk_start]
  show (match (match rstep bl top (c0 :: u) i with
    | .ok bl' top' => RS.ok bl' top'
    | r => r) with
    | .ok bl' top' => _
    | r => r) = _
  cases hr : rstep bl top (c0 :: u) i with
  | ok bl' top' =>
    show rfold _ bl' top' = rfold (tk (c :: cs) (i + (u.length + 1)) [] 0 false) bl' top'
    rw [show tk (c :: cs) (i + (u.length + 1)) [] 0 false = emit [] 0 ++ ((if (par c && !nsk c false) = true then [([c], i + (u.length + 1))] else []) ++ tk cs (i + (u.length + 1) + 1) [] 0 (nsk c false)) from if_pos h2]
    rw [show i + 1 + u.length = i + (u.length + 1) by omega]
    rfl
  | er _ _ => rfl
  | no => rfl
end K15
namespace K15
open PySem DL
/-- the atoms of the law: word, value -/
def atoms : List (List Nat × D) := [([97], .str (mkS' [97])), ([97, 110, 100], .str (mkS' [97, 110, 100])), ([61, 62], .str (mkS' [61, 62])), ([60, 61], .str (mkS' [60, 61])), ([120, 95, 49], .str (mkS' [120, 95, 49])),
  ([45], .str (mkS' [45])), ([97, 45, 98], .str (mkS' [97, 45, 98])), ([48], .int 0), ([55], .int 7), ([45, 49, 50], .int (-12)), ([57, 57, 57, 57, 57, 57, 57, 57, 57], .int 999999999), ([48, 120], .str (mkS' [48, 120])), ([45, 97], .str (mkS' [45, 97]))]
theorem atom_ok : ∀ q ∈ atoms, (∃ c u, q.1 = c :: u ∧ ∀ x ∈ c :: u, spc x = false) ∧ q.1.length ≤ 9 ∧ words.lookup q.1 = some (some q.2) ∧ q.1 ≠ [40] ∧ q.1 ≠ [41] ∧ PU q.2 := by
  intro q hq
  unfold atoms at hq
  simp only [List.mem_cons, List.not_mem_nil, or_false] at hq
  rcases hq with rfl | rfl | rfl | rfl | rfl | rfl | rfl | rfl | rfl | rfl | rfl | rfl | rfl <;>
    exact ⟨⟨_, _, rfl, by decide⟩, by decide, rfl, by decide, by decide, fun n => rfl⟩
theorem atom_step {q : List Nat × D} (hq : q ∈ atoms) {bl : List (List D)} {top : List D} {i : Nat} : rstep bl top q.1 i = .ok bl (top ++ [q.2]) := by
  obtain ⟨_, _, h1, h2, h3, _⟩ := atom_ok q hq
  unfold rstep
  rw [if_neg h2, if_neg h3, h1]
theorem C_atom {q : List Nat × D} (hq : q ∈ atoms) {cs : List Nat} {c i : Nat} {bl : List (List D)} {top : List D} (hc : spc c = true) : C (q.1 ++ c :: cs) i bl top = C (c :: cs) (i + q.1.length) bl (top ++ [q.2]) := by
  obtain ⟨⟨c0, u, e, hu⟩, _⟩ := atom_ok q hq
  have st := atom_step hq (bl := bl) (top := top) (i := i)
  rw [e] at st ⊢
  rw [C_word hu hc, st]
def gaps : List (List Nat) := [[32], [32, 32], [10], [32, 59, 32, 97, 32, 41, 32, 40, 10], [10, 10, 32]]
theorem gap_ok : ∀ g ∈ gaps, ∃ c u, g = c :: u ∧ spc c = true ∧ g.length ≤ 9 := by
  intro g hg
  unfold gaps at hg
  simp only [List.mem_cons, List.not_mem_nil, or_false] at hg
  rcases hg with rfl | rfl | rfl | rfl | rfl <;> exact ⟨_, _, rfl, by decide, by decide⟩
theorem gap_in {g : List Nat} (hg : g ∈ gaps) : g ∈ [[], [32], [32, 32], [10], [32, 59, 32, 97, 32, 41, 32, 40, 10], [10, 10, 32], [59, 10]] := by
  unfold gaps at hg
  simp only [List.mem_cons, List.not_mem_nil, or_false] at hg
  rcases hg with rfl | rfl | rfl | rfl | rfl <;> simp
def All2 (P : D → List Nat → Prop) : List D → List (List Nat) → Prop
  | [], [] => True
  | d :: ds, x :: xs => P d x ∧ All2 P ds xs
  | _, _ => False
/-- the loose texts of a thing -/
def Lo : Nat → D → List Nat → Prop
  | 0, t, x => ∃ q ∈ atoms, ∃ g ∈ gaps, t = q.2 ∧ x = g ++ (q.1 ++ g)
  | d + 1, t, x => (∃ q ∈ atoms, ∃ g ∈ gaps, t = q.2 ∧ x = g ++ (q.1 ++ g)) ∨
    ∃ ds xs p g e, t = .tup ds ∧ ds.length ≤ 3 ∧ All2 (Lo d) ds xs ∧ p ∈ [[], [32]] ∧ (g = [] ∨ g ∈ gaps) ∧ e ∈ [[], [59, 10]] ∧ x = p ++ (40 :: (xs.flatten ++ (g ++ (41 :: e))))
theorem C_lo0 {t : D} {x cs : List Nat} {i : Nat} {bl : List (List D)} {top : List D} (h : ∃ q ∈ atoms, ∃ g ∈ gaps, t = q.2 ∧ x = g ++ (q.1 ++ g)) : C (x ++ cs) i bl top = C cs (i + x.length) bl (top ++ [t]) := by
  obtain ⟨q, hq, g, hg, rfl, rfl⟩ := h
  obtain ⟨c, u, eg, hc, _⟩ := gap_ok g hg
  rw [List.append_assoc, C_gap g (gap_in hg), List.append_assoc]
  have key : C (q.1 ++ (g ++ cs)) (i + g.length) bl top = C (g ++ cs) (i + g.length + q.1.length) bl (top ++ [q.2]) := by
    rw [eg, List.cons_append]
    exact C_atom hq hc
  rw [key, C_gap g (gap_in hg)]
  congr 1
  simp; omega
mutual
theorem C_lo : ∀ (d : Nat) (t : D) (x cs : List Nat) (i : Nat) (bl : List (List D)) (top : List D), Lo d t x → bl.length + d ≤ 38 → C (x ++ cs) i bl top = C cs (i + x.length) bl (top ++ [t])
  | 0, t, x, cs, i, bl, top, h, hb => C_lo0 h
  | d + 1, t, x, cs, i, bl, top, h, hb => by
    rcases h with h | ⟨ds, xs, p, g, e, rfl, hl, ha, hp, hg, he, rfl⟩
    · exact C_lo0 h
    · have hp' : p ∈ [[], [32], [32, 32], [10], [32, 59, 32, 97, 32, 41, 32, 40, 10], [10, 10, 32], [59, 10]] := by
        simp only [List.mem_cons, List.not_mem_nil, or_false] at hp
        rcases hp with rfl | rfl <;> simp
      have he' : e ∈ [[], [32], [32, 32], [10], [32, 59, 32, 97, 32, 41, 32, 40, 10], [10, 10, 32], [59, 10]] := by
        simp only [List.mem_cons, List.not_mem_nil, or_false] at he
        rcases he with rfl | rfl <;> simp
      have hg' : g ∈ [[], [32], [32, 32], [10], [32, 59, 32, 97, 32, 41, 32, 40, 10], [10, 10, 32], [59, 10]] := by
        rcases hg with rfl | hg
        · simp
        · exact gap_in hg
      rw [List.append_assoc, C_gap p hp', List.cons_append, C_open (by omega), List.append_assoc, C_all d ds xs _ _ (top :: bl) [] ha (by rw [List.length_cons]; omega), List.append_assoc, C_gap g hg', List.cons_append, C_close, C_gap e he', List.nil_append]
      congr 1
      simp; omega
theorem C_all : ∀ (d : Nat) (ds : List D) (xs : List (List Nat)) (cs : List Nat) (i : Nat) (bl : List (List D)) (top : List D), All2 (Lo d) ds xs → bl.length + d ≤ 38 → C (xs.flatten ++ cs) i bl top = C cs (i + xs.flatten.length) bl (top ++ ds)
  | d, [], [], cs, i, bl, top, h, hb => by simp
  | d, t :: ds, x :: xs, cs, i, bl, top, ⟨h1, h2⟩, hb => by
    rw [List.flatten_cons, List.append_assoc, C_lo d t x _ i bl top h1 hb, C_all d ds xs cs _ bl _ h2 hb, List.append_assoc]
    congr 1
    simp; omega
  | d, [], _ :: _, _, _, _, _, h, _ => h.elim
  | d, _ :: _, [], _, _, _, _, h, _ => h.elim
end
def bnd : Nat → Nat
  | 0 => 27
  | d + 1 => 14 + 3 * bnd d
theorem bnd_le (d : Nat) : 27 ≤ bnd d := by
  induction d with
  | zero => exact Nat.le_refl _
  | succ d ih => show 27 ≤ 14 + 3 * bnd d; omega
theorem len_lo0 {t : D} {x : List Nat} (h : ∃ q ∈ atoms, ∃ g ∈ gaps, t = q.2 ∧ x = g ++ (q.1 ++ g)) : x.length ≤ 27 := by
  obtain ⟨q, hq, g, hg, rfl, rfl⟩ := h
  obtain ⟨c, u, eg, hc, hl⟩ := gap_ok g hg
  obtain ⟨_, h1, _⟩ := atom_ok q hq
  simp; omega
mutual
theorem len_lo : ∀ (d : Nat) (t : D) (x : List Nat), Lo d t x → x.length ≤ bnd d
  | 0, t, x, h => len_lo0 h
  | d + 1, t, x, h => by
    rcases h with h | ⟨ds, xs, p, g, e, rfl, hl, ha, hp, hg, he, rfl⟩
    · exact Nat.le_trans (len_lo0 h) (bnd_le _)
    · have h1 := len_all d ds xs ha
      have hp' : p.length ≤ 1 := by
        simp only [List.mem_cons, List.not_mem_nil, or_false] at hp
        rcases hp with rfl | rfl <;> simp
      have he' : e.length ≤ 2 := by
        simp only [List.mem_cons, List.not_mem_nil, or_false] at he
        rcases he with rfl | rfl <;> simp
      have hg' : g.length ≤ 9 := by
        rcases hg with rfl | hg
        · simp
        · obtain ⟨_, _, _, _, hl⟩ := gap_ok g hg; exact hl
      have h2 : ds.length * bnd d ≤ 3 * bnd d := Nat.mul_le_mul_right _ hl
      show _ ≤ 14 + 3 * bnd d
      simp only [List.length_append, List.length_cons]
      omega
theorem len_all : ∀ (d : Nat) (ds : List D) (xs : List (List Nat)), All2 (Lo d) ds xs → xs.flatten.length ≤ ds.length * bnd d
  | d, [], [], h => by simp
  | d, t :: ds, x :: xs, ⟨h1, h2⟩ => by
    have := len_lo d t x h1
    have := len_all d ds xs h2
    rw [List.flatten_cons, List.length_append, List.length_cons, Nat.succ_mul]; omega
  | d, [], _ :: _, h => h.elim
  | d, _ :: _, [], h => h.elim
end
end K15
namespace K15
open PySem DL
/-! shown texts -/
def jn : List (List Nat) → List Nat
  | [] => []
  | [p] => p
  | p :: q :: r => p ++ (32 :: jn (q :: r))
def Good : Nat → D → Prop
  | 0, t => ∃ q ∈ atoms, t = q.2
  | d + 1, t => (∃ q ∈ atoms, t = q.2) ∨ ∃ ds, t = .tup ds ∧ ds.length ≤ 3 ∧ ∀ e ∈ ds, Good d e
def Sh : Nat → D → List Nat → Prop
  | 0, t, x => ∃ q ∈ atoms, t = q.2 ∧ x = q.1
  | d + 1, t, x => (∃ q ∈ atoms, t = q.2 ∧ x = q.1) ∨ ∃ ds xs, t = .tup ds ∧ ds.length ≤ 3 ∧ All2 (Sh d) ds xs ∧ x = 40 :: (jn xs ++ [41])
theorem C_sh0 {t : D} {x cs : List Nat} {c i : Nat} {bl : List (List D)} {top : List D} (h : ∃ q ∈ atoms, t = q.2 ∧ x = q.1) (hc : spc c = true) : C (x ++ c :: cs) i bl top = C (c :: cs) (i + x.length) bl (top ++ [t]) := by
  obtain ⟨q, hq, rfl, rfl⟩ := h
  exact C_atom hq hc
mutual
theorem C_sh : ∀ (d : Nat) (t : D) (x cs : List Nat) (c i : Nat) (bl : List (List D)) (top : List D), Sh d t x → bl.length + d ≤ 38 → spc c = true → C (x ++ c :: cs) i bl top = C (c :: cs) (i + x.length) bl (top ++ [t])
  | 0, t, x, cs, c, i, bl, top, h, hb, hc => C_sh0 h hc
  | d + 1, t, x, cs, c, i, bl, top, h, hb, hc => by
    rcases h with h | ⟨ds, xs, rfl, hl, ha, rfl⟩
    · exact C_sh0 h hc
    · rw [List.cons_append, C_open (by omega), List.append_assoc]
      show C (jn xs ++ 41 :: (c :: cs)) _ _ _ = _
      rw [C_jn d ds xs (c :: cs) 41 _ (top :: bl) [] ha (by rw [List.length_cons]; omega) (by decide), C_close, List.nil_append]
      congr 1
      simp; omega
theorem C_jn : ∀ (d : Nat) (ds : List D) (xs : List (List Nat)) (cs : List Nat) (c i : Nat) (bl : List (List D)) (top : List D), All2 (Sh d) ds xs → bl.length + d ≤ 38 → spc c = true → C (jn xs ++ c :: cs) i bl top = C (c :: cs) (i + (jn xs).length) bl (top ++ ds)
  | d, [], [], cs, c, i, bl, top, h, hb, hc => by simp [jn]
  | d, [t], [x], cs, c, i, bl, top, ⟨h1, h2⟩, hb, hc => by
    show C (x ++ c :: cs) i bl top = C (c :: cs) (i + x.length) bl (top ++ [t])
    exact C_sh d t x cs c i bl top h1 hb hc
  | d, t :: t2 :: ds, x :: x2 :: xs, cs, c, i, bl, top, ⟨h1, h2⟩, hb, hc => by
    show C ((x ++ (32 :: jn (x2 :: xs))) ++ c :: cs) i bl top = _
    rw [List.append_assoc, List.cons_append, C_sh d t x _ 32 i bl top h1 hb (by decide)]
    rw [show (32 : Nat) :: (jn (x2 :: xs) ++ c :: cs) = [32] ++ (jn (x2 :: xs) ++ c :: cs) from rfl, C_gap [32] (by simp), C_jn d (t2 :: ds) (x2 :: xs) cs c _ bl _ h2 hb hc, List.append_assoc]
    show C (c :: cs) _ bl (top ++ t :: t2 :: ds) = C (c :: cs) (i + (x ++ (32 :: jn (x2 :: xs))).length) bl (top ++ t :: t2 :: ds)
    congr 1
    simp; omega
  | d, [], _ :: _, _, _, _, _, _, h, _, _ => h.elim
  | d, _ :: _, [], _, _, _, _, _, h, _, _ => h.elim
  | d, [_], _ :: _ :: _, _, _, _, _, _, h, _, _ => h.2.elim
  | d, _ :: _ :: _, [_], _, _, _, _, _, h, _, _ => h.2.elim
end
def sb : Nat → Nat
  | 0 => 9
  | d + 1 => 5 + 3 * sb d
theorem sb_le (d : Nat) : 9 ≤ sb d := by
  induction d with
  | zero => exact Nat.le_refl _
  | succ d ih => show 9 ≤ 5 + 3 * sb d; omega
mutual
theorem len_sh : ∀ (d : Nat) (t : D) (x : List Nat), Sh d t x → x.length ≤ sb d
  | 0, t, x, h => by
    obtain ⟨q, hq, rfl, rfl⟩ := h
    exact (atom_ok q hq).2.1
  | d + 1, t, x, h => by
    rcases h with ⟨q, hq, rfl, rfl⟩ | ⟨ds, xs, rfl, hl, ha, rfl⟩
    · exact Nat.le_trans (atom_ok q hq).2.1 (sb_le _)
    · have h1 := len_jn d ds xs ha
      have h2 : ds.length * (sb d + 1) ≤ 3 * (sb d + 1) := Nat.mul_le_mul_right _ hl
      show _ ≤ 5 + 3 * sb d
      simp only [List.length_append, List.length_cons, List.length_nil]
      omega
theorem len_jn : ∀ (d : Nat) (ds : List D) (xs : List (List Nat)), All2 (Sh d) ds xs → (jn xs).length ≤ ds.length * (sb d + 1)
  | d, [], [], h => by simp [jn]
  | d, [t], [x], ⟨h1, h2⟩ => by
    have := len_sh d t x h1
    show x.length ≤ 1 * (sb d + 1)
    omega
  | d, t :: t2 :: ds, x :: x2 :: xs, ⟨h1, h2⟩ => by
    have := len_sh d t x h1
    have := len_jn d (t2 :: ds) (x2 :: xs) h2
    show (x ++ (32 :: jn (x2 :: xs))).length ≤ (ds.length + 1 + 1) * (sb d + 1)
    rw [List.length_append, List.length_cons, Nat.succ_mul]
    rw [List.length_cons] at this
    omega
  | d, [], _ :: _, h => h.elim
  | d, _ :: _, [], h => h.elim
  | d, [_], _ :: _ :: _, h => h.2.elim
  | d, _ :: _ :: _, [_], h => h.2.elim
end
theorem All2.len {P : D → List Nat → Prop} : ∀ {ds : List D} {xs : List (List Nat)}, All2 P ds xs → ds.length = xs.length
  | [], [], _ => rfl
  | _ :: ds, _ :: xs, h => by rw [List.length_cons, List.length_cons, All2.len h.2]
  | [], _ :: _, h => h.elim
  | _ :: _, [], h => h.elim
/-- a comprehension whose parts are texts -/
theorem lc_all {P : D → List Nat → Prop} {j : Nat} {fe : DE} {δ : DEnv} : ∀ (ts : List D), (∀ t ∈ ts, ∃ x, P t x ∧ ∀ S, fe (δ.set j (some t)) S = .ok (.str (mkS' x)) S) → ∃ xs, All2 P ts xs ∧ ∀ S, dLcL (dgName j) dYes fe ts δ S = .ok (xs.map fun x => .str (mkS' x)) S
  | [], _ => ⟨[], trivial, fun _ => rfl⟩
  | t :: ts, h => by
    obtain ⟨x, h1, h2⟩ := h t (List.mem_cons_self ..)
    obtain ⟨xs, h3, h4⟩ := lc_all ts fun y hy => h y (List.mem_cons_of_mem _ hy)
    refine ⟨x :: xs, ⟨h1, h3⟩, fun S => ?_⟩
    show ((fe (δ.set j (some t)) S).nox.bind fun y S3 => (dLcL (dgName j) dYes fe ts δ S3).bind fun ys S4 => .ok (y :: ys) S4) = _
    rw [h2 S]
    show ((dLcL (dgName j) dYes fe ts δ S).bind fun ys S4 => .ok (D.str (mkS' x) :: ys) S4) = _
    rw [h4 S]
    rfl
theorem texts_map : ∀ xs : List (List Nat), texts (xs.map fun x => .str (mkS' x)) = some (xs.map mkS')
  | [] => rfl
  | x :: xs => by
    show (texts (xs.map fun x => .str (mkS' x))).map (mkS' x :: ·) = _
    rw [texts_map xs]; rfl
theorem mk_append (a b : List Nat) : mkS' a ++ mkS' b = mkS' (a ++ b) := by show (⟨a.toArray ++ b.toArray⟩ : Str) = _; simp
theorem join_sp : ∀ xs : List (List Nat), Txt.join (mkS' [32]) (xs.map mkS') = mkS' (jn xs) := by
  intro xs
  unfold Txt.join
  rw [StrLaws.glued_eq_join]
  induction xs with
  | nil => rfl
  | cons x xs ih =>
    cases xs with
    | nil => rfl
    | cons y ys =>
      show mkS' x ++ mkS' [32] ++ Str.join (mkS' [32]) ((y :: ys).map mkS') = _
      rw [ih, mk_append x [32], mk_append (x ++ [32])]
      exact congrArg mkS' (show (x ++ [32]) ++ jn (y :: ys) = x ++ (32 :: jn (y :: ys)) by rw [List.append_assoc]; rfl)
theorem join_no : ∀ xs : List (List Nat), Txt.join (mkS' []) (xs.map mkS') = mkS' xs.flatten := by
  intro xs
  unfold Txt.join
  rw [StrLaws.glued_eq_join]
  induction xs with
  | nil => rfl
  | cons x xs ih =>
    cases xs with
    | nil =>
      show mkS' x = mkS' [x].flatten
      rw [show [x].flatten = x by simp]
    | cons y ys =>
      show mkS' x ++ mkS' [] ++ Str.join (mkS' []) ((y :: ys).map mkS') = _
      rw [ih, mk_append x [], mk_append (x ++ [])]
      exact congrArg mkS' (by simp)
theorem sum_len (xs : List (List Nat)) : ((xs.map mkS').map fun y : Str => y.length).sum = xs.flatten.length := by
  induction xs with
  | nil => rfl
  | cons x xs ih => rw [List.map_cons, List.map_cons, List.sum_cons, ih, len_mk, List.flatten_cons, List.length_append]
theorem jn_len : ∀ xs : List (List Nat), xs.flatten.length ≤ (jn xs).length
  | [] => Nat.zero_le _
  | [x] => by simp [jn]
  | x :: y :: r => by
    have := jn_len (y :: r)
    show _ ≤ (x ++ (32 :: jn (y :: r))).length
    rw [List.flatten_cons, List.length_append, List.length_append, List.length_cons]; omega
theorem gJoin_sp {xs : List (List Nat)} {S : Store} (h : (jn xs).length + xs.length ≤ 16777216) : gJoin (.str (mkS' [32])) (.lst (xs.map fun x => .str (mkS' x))) S = .ok (.str (mkS' (jn xs))) S := by
  show (match texts (xs.map fun x => .str (mkS' x)) with
    | some ys => if (ys.map fun y : Str => y.length).sum + ys.length * (mkS' [32]).length ≤ 16777216 then R.ok (D.str (Txt.join (mkS' [32]) ys)) S else .bad
    | none => .bad) = _
  rw [texts_map]
  simp only []
  rw [if_pos, join_sp]
  have := jn_len xs
  rw [sum_len, List.length_map, len_mk]
  show xs.flatten.length + xs.length * 1 ≤ _
  omega
theorem gJoin_no {xs : List (List Nat)} {S : Store} (h : xs.flatten.length ≤ 16777216) : gJoin (.str (mkS' [])) (.lst (xs.map fun x => .str (mkS' x))) S = .ok (.str (mkS' xs.flatten)) S := by
  show (match texts (xs.map fun x => .str (mkS' x)) with
    | some ys => if (ys.map fun y : Str => y.length).sum + ys.length * (mkS' []).length ≤ 16777216 then R.ok (D.str (Txt.join (mkS' []) ys)) S else .bad
    | none => .bad) = _
  rw [texts_map]
  simp only []
  rw [if_pos, join_no]
  rw [sum_len, len_mk]
  show xs.flatten.length + _ * 0 ≤ _
  omega
/-- str of an atom -/
theorem atom_str : ∀ q ∈ atoms, ∀ S, gStr [q.2] S = .ok (.str (mkS' q.1)) S ∧ tyD S q.2 ≠ "" ∧ L2.kitB (tyD S q.2) "tuple" = some false := by
  intro q hq S
  unfold atoms at hq
  simp only [List.mem_cons, List.not_mem_nil, or_false] at hq
  rcases hq with rfl | rfl | rfl | rfl | rfl | rfl | rfl | rfl | rfl | rfl | rfl | rfl | rfl <;>
    exact ⟨by kernel_rfl, (show (_ : String) ≠ "" from by first | exact (show ("str" : String) ≠ "" from by decide) | exact (show ("int" : String) ≠ "" from by decide)), by first | exact (show L2.kitB "str" "tuple" = some false from by decide +kernel) | exact (show L2.kitB "int" "tuple" = some false from by decide +kernel)⟩
end K15
namespace K15
open PySem DL
theorem opn1 : PySem.Str.ofString "(" = mkS' [40] := opn
theorem spa : PySem.Str.ofString " " = mkS' [32] := by decide +kernel
theorem isi_no {T : String} {fa : DE} {δ : DEnv} {S : Store} {d : D} (h : fa δ S = .ok d S) (h1 : tyD S d ≠ "") (h2 : L2.kitB (tyD S d) T = some false) : dIsi T fa δ S = .ok (.bl false) S := by
  unfold dIsi
  rw [h]
  show (if tyD S d = "" then R.bad else match L2.kitB (tyD S d) T with
    | some k => R.ok (D.bl k) S
    | none => .bad) = _
  rw [if_neg h1, h2]
theorem isi_tup {fa : DE} {δ : DEnv} {S : Store} {ds : List D} (h : fa δ S = .ok (.tup ds) S) : dIsi "tuple" fa δ S = .ok (.bl true) S := by
  unfold dIsi
  rw [h]
  show (if ("tuple" : String) = "" then R.bad else match L2.kitB "tuple" "tuple" with
    | some k => R.ok (D.bl k) S
    | none => .bad) = _
  rw [if_neg (by decide), show L2.kitB "tuple" "tuple" = some true from by decide +kernel]
theorem gAdd_str {a b : List Nat} {S : Store} (h : a.length + b.length < 16777216) : gAdd (.str (mkS' a)) (.str (mkS' b)) S = .ok (.str (mkS' (a ++ b))) S := by
  rw [← mk_append]
  show (if _ then _ else _) = _
  rw [if_pos]
  first
    | exact lenOk_lt (by rw [len_mk, len_mk]; exact h)
    | exact lenOk_lt (by simpa using h)
theorem dM1_ok {g : D → D → Store → R D} {fo fa : DE} {δ : DEnv} {S S1 S2 : Store} {x y : D} (h1 : fo δ S = .ok x S1) (hs : isStrD x = true) (h2 : fa δ S1 = .ok y S2) : dM1 g fo fa δ S = g x y S2 := by
  unfold dM1
  rw [h1]
  show (if isStrD x = true then (fa δ S1).bind (fun y S2 => g x y S2) else .bad) = _
  rw [if_pos hs, h2]
  rfl
theorem shown0 {r : DM} {t : D} (h : ∃ q ∈ atoms, t = q.2) : ∃ x, (∃ q ∈ atoms, t = q.2 ∧ x = q.1) ∧ ∀ S, b_shown r [some t, none] S = .rt (.str (mkS' x)) S := by
  obtain ⟨q, hq, rfl⟩ := h
  refine ⟨q.1, ⟨q, hq, rfl, rfl⟩, fun S => ?_⟩
  obtain ⟨h1, h2, h3⟩ := atom_str q hq S
  have e := isi_no (T := "tuple") (fa := dVar 0) (δ := [some q.2, none]) (S := S) (d := q.2) rfl h2 h3
  unfold b_shown
  simp only [dIf, dOr, dAnd, dNot, dTest, dOp, dVar, dC, R.bind, R.thenF, List.getElem?_cons_succ, List.getElem?_cons_zero, dTru, dSeq, dSet, dExpr, dAppend, dTup, dCons, dNil, dNew, dLst, dOrV, dAndV, dNotV, dIfE, dAug, dNx, asB, dRet, dRetN, dCall, dFor, dAsg, toF, dgName, dgTup, dgCons, dgNil, dSl, doS, doN, List.set_cons_succ, List.set_cons_zero, Bool.false_eq_true, Bool.true_eq_false, if_true, if_false, ite_true, ite_false, Bool.not_true, Bool.not_false, List.length_cons, List.length_nil, e, tru_bl, h1]
theorem shown_ok : ∀ (d : Nat) (t : D), Good d t → ∀ n, d + 1 ≤ n → d ≤ 9 → ∃ x, Sh d t x ∧ ∀ S, f_shown n [t] S = .ok (.str (mkS' x)) S
  | 0, t, h, 0, hn, _ => by omega
  | 0, t, h, n + 1, hn, _ => by
    obtain ⟨x, h1, h2⟩ := shown0 (r := f_shown n) h
    exact ⟨x, h1, fun S => (runFn_rt (np := 1) (N := 2) rfl (h2 S)).trans settle_same⟩
  | d + 1, t, h, 0, hn, _ => by omega
  | d + 1, t, h, n + 1, hn, hd => by
    rcases h with h | ⟨ds, rfl, hl, hg⟩
    · obtain ⟨x, h1, h2⟩ := shown0 (r := f_shown n) h
      exact ⟨x, .inl h1, fun S => (runFn_rt (np := 1) (N := 2) rfl (h2 S)).trans settle_same⟩
    · obtain ⟨xs, h1, h2⟩ := lc_all (P := Sh d) (j := 1) (fe := dCall (fun ds S => if ds.length = 1 then f_shown n ds S else .bad) (dCons (dVar 1) dNil)) (δ := [some (.tup ds), none]) ds (fun e he => by
        obtain ⟨x, hx1, hx2⟩ := shown_ok d e (hg e he) n (by omega) (by omega)
        exact ⟨x, hx1, fun S => (show (if [e].length = 1 then f_shown n [e] S else .bad) = _ from (if_pos rfl).trans (hx2 S))⟩)
      have hj := len_jn d ds xs h1
      have hlx := h1.len
      have hs : sb d ≤ 1000000 := by
        have key : ∀ k ≤ 9, sb k ≤ 1000000 := by decide
        exact key d (by omega)
      have hm : ds.length * (sb d + 1) ≤ 3 * (sb d + 1) := Nat.mul_le_mul_right _ hl
      refine ⟨40 :: (jn xs ++ [41]), .inr ⟨ds, xs, rfl, hl, h1, rfl⟩, fun S => ?_⟩
      have h2 := h2 S
      have gj := gJoin_sp (xs := xs) (S := S) (by omega)
      have a1 : gAdd (.str (mkS' [40])) (.str (mkS' (jn xs))) S = .ok (.str (mkS' ([40] ++ jn xs))) S := gAdd_str (by simp; omega)
      have a2 : gAdd (.str (mkS' ([40] ++ jn xs))) (.str (mkS' [41])) S = .ok (.str (mkS' ([40] ++ jn xs ++ [41]))) S := gAdd_str (by simp; omega)
      have key : b_shown (f_shown n) [some (.tup ds), none] S = .rt (.str (mkS' (40 :: (jn xs ++ [41])))) S := by
        have e := isi_tup (fa := dVar 0) (δ := [some (.tup ds), none]) (S := S) (ds := ds) rfl
        have el : ∀ l : List D, l.length = xs.length → rLst l S = .ok (.lst l) S := fun l h => rLst_ok (by omega)
        have elc : dLc (diT (dVar 0)) (dgName 1) dYes (dCall (fun ds S => if ds.length = 1 then f_shown n ds S else .bad) (dCons (dVar 1) dNil)) [1] [some (.tup ds), none] S = .ok (.lst (xs.map fun x => .str (mkS' x))) S := by
          show (dLcL (dgName 1) dYes _ ds [some (.tup ds), none] S).bind rLst = _
          rw [h2]
          exact el _ (by rw [List.length_map])
        have ej : dM1 gJoin (dC (.str (PySem.Str.ofString " "))) (dLc (diT (dVar 0)) (dgName 1) dYes (dCall (fun ds S => if ds.length = 1 then f_shown n ds S else .bad) (dCons (dVar 1) dNil)) [1]) [some (.tup ds), none] S = .ok (.str (mkS' (jn xs))) S := by
          rw [dM1_ok (x := .str (PySem.Str.ofString " ")) rfl rfl elc, spa, gj]
        unfold b_shown
        simp only [dIf, dOr, dAnd, dNot, dTest, dOp, dVar, dC, R.bind, R.thenF, List.getElem?_cons_succ, List.getElem?_cons_zero, dTru, dSeq, dSet, dExpr, dAppend, dTup, dCons, dNil, dNew, dLst, dOrV, dAndV, dNotV, dIfE, dAug, dNx, asB, dRet, dRetN, dCall, dFor, dAsg, toF, dgName, dgTup, dgCons, dgNil, dSl, doS, doN, List.set_cons_succ, List.set_cons_zero, Bool.false_eq_true, Bool.true_eq_false, if_true, if_false, ite_true, ite_false, Bool.not_true, Bool.not_false, List.length_cons, List.length_nil, e, tru_bl, ej, opn, cls, a1, a2]
        rfl
      exact (runFn_rt (np := 1) (N := 2) rfl key).trans settle_same
theorem text_shown : ∀ n, f__law_text n = f_shown n
  | 0 => rfl
  | n + 1 => by
    show runFn 1 2 (b__law_text (f__law_text n)) = runFn 1 2 (b_shown (f_shown n))
    rw [text_shown n]
    rfl
end K15
namespace K15
open PySem DL
/-- the draws -/
def dr (ns : List Int) (p q sd : Int) : Store := [.lst [.lst (ns.map D.int), .int p, .int q, .int sd]]
def Dr (S : Store) : Prop := ∃ ns p q sd, S = dr ns p q sd ∧ 0 ≤ p ∧ 0 ≤ q ∧ 0 ≤ sd
section
variable {ns : List Int} {p q sd : Int} {v : D} {δ : DEnv}
theorem ix0 : gIx (.ref 0) (.int 0) (dr ns p q sd) = .ok (.lst (ns.map D.int)) (dr ns p q sd) := rfl
theorem ix1 : gIx (.ref 0) (.int 1) (dr ns p q sd) = .ok (.int p) (dr ns p q sd) := rfl
theorem ix2 : gIx (.ref 0) (.int 2) (dr ns p q sd) = .ok (.int q) (dr ns p q sd) := rfl
theorem ix3 : gIx (.ref 0) (.int 3) (dr ns p q sd) = .ok (.int sd) (dr ns p q sd) := rfl
theorem st1 {x : Int} : dgIx (dVar 0) (dC (.int 1)) (.int x) (some (.ref 0) :: δ) (dr ns p q sd) = .ok (some (.ref 0) :: δ) (dr ns x q sd) := rfl
theorem st2 {x : Int} : dgIx (dVar 0) (dC (.int 2)) (.int x) (some (.ref 0) :: δ) (dr ns p q sd) = .ok (some (.ref 0) :: δ) (dr ns p x sd) := rfl
theorem st3 {x : Int} : dgIx (dVar 0) (dC (.int 3)) (.int x) (some (.ref 0) :: δ) (dr ns p q sd) = .ok (some (.ref 0) :: δ) (dr ns p q x) := rfl
theorem len0 {S : Store} : gLen [.lst (ns.map D.int)] S = .ok (.int (ns.length : Int)) S := by
  show R.ok (D.int ((ns.map D.int).length : Int)) S = _
  rw [List.length_map]
theorem ixp {S : Store} (h0 : 0 ≤ p) (h1 : p < ns.length) : ∃ n, gIx (.lst (ns.map D.int)) (.int p) S = .ok (.int n) S := by
  have hx : L2.ixN (ns.map D.int).length p = some p.toNat := by
    unfold L2.ixN
    rw [List.length_map, if_pos h0, if_pos h1]
  have hl : p.toNat < ns.length := by omega
  refine ⟨ns[p.toNat], ?_⟩
  show (match L2.atI (ns.map D.int) p with
    | some d => R.ok d S
    | none => .bad) = _
  rw [show L2.atI (ns.map D.int) p = some (.int ns[p.toNat]) by
    unfold L2.atI
    rw [hx]
    show (ns.map D.int)[p.toNat]? = _
    rw [List.getElem?_map, List.getElem?_eq_getElem hl]; rfl]
theorem gInt_int {i : Int} {S : Store} : gInt [.int i] S = .ok (.int i) S := rfl
theorem gAbs_int {i : Int} {S : Store} : gAbs [.int i] S = .ok (.int (if i < 0 then -i else i)) S := rfl
theorem gAdd_int {i j : Int} {S : Store} : gAdd (.int i) (.int j) S = .ok (.int (i + j)) S := rfl
theorem gLt_int {i j : Int} {S : Store} : gLt (.int i) (.int j) S = .ok (.bl (decide (i < j))) S := rfl
theorem gPow18 {S : Store} : gPow (.int 10) (.int 18) S = .ok (.int 1000000000000000000) S := by kernel_rfl
theorem gMod_int {i j : Int} {S : Store} (h : 0 < j) : gMod (.int i) (.int j) S = .ok (.int (i % j)) S := by
  show (if decide (0 < j) = true then R.ok (D.int (i % j)) S else .bad) = _
  rw [if_pos (decide_eq_true h)]
theorem gFdiv_int {i j : Int} {S : Store} (h : 0 < j) (h2 : j < 1073741824) : gFdiv (.int i) (.int j) S = .ok (.int (i / j)) S := by
  show (if decide (0 < j ∧ j < 1073741824) = true then R.ok (D.int (i / j)) S else .bad) = _
  rw [if_pos (decide_eq_true ⟨h, h2⟩)]
theorem gMul_int {i j : Int} {S : Store} (h : -1000000000 < j ∧ j < 1000000000) : gMul (.int i) (.int j) S = .ok (.int (i * j)) S := by
  show (if decide ((-(2 ^ 64) < i ∧ i < 2 ^ 64) ∨ (-(2 ^ 64) < j ∧ j < 2 ^ 64)) = true then R.ok (D.int (i * j)) S else .bad) = _
  rw [if_pos (decide_eq_true (.inr ⟨by omega, by omega⟩))]
def takeB : DS := (dSeq (dIf (dTest (dOp gGt (dOp gIx (dVar 0) (dC (.int 2))) (dC (.int 0)))) (dSeq (dSet 3 (dOp gMod (dCall gInt (dCons (dOp gIx (dVar 0) (dC (.int 2))) dNil)) (dVar 1)))
      (dSeq (dAsg (dOp gFdiv (dCall gInt (dCons (dOp gIx (dVar 0) (dC (.int 2))) dNil)) (dVar 1)) (dgIx (dVar 0) (dC (.int 2))))
      (dRet (dVar 3)))) dNx)
    (dSeq (dAsg (dOp gMod (dCall gInt (dCons (dOp gAdd (dOp gMul (dOp gIx (dVar 0) (dC (.int 3))) (dC (.int 69621))) (dC (.int 7))) dNil)) (dC (.int 2147483647))) (dgIx (dVar 0) (dC (.int 3))))
    (dRet (dOp gMod (dCall gInt (dCons (dOp gFdiv (dOp gIx (dVar 0) (dC (.int 3))) (dC (.int 5))) dNil)) (dVar 1)))))
theorem takeB_ok {m : Int} {x : Option D} (h0 : 0 < m) (hm : m < 1073741824) (hp : 0 ≤ p) (hq : 0 ≤ q) (hs : 0 ≤ sd) :
    ∃ r S', takeB [some (.ref 0), some (.int m), x, none] (dr ns p q sd) = .rt (.int r) S' ∧ Dr S' ∧ 0 ≤ r ∧ r < m := by
  by_cases c : 0 < q
  · refine ⟨q % m, dr ns p (q / m) sd, ?_, ⟨ns, p, _, sd, rfl, hp, Int.ediv_nonneg hq (by omega), hs⟩, Int.emod_nonneg _ (by omega), Int.emod_lt_of_pos _ h0⟩
    unfold takeB
    simp only [dIf, dOr, dAnd, dNot, dTest, dOp, dVar, dC, R.bind, R.thenF, List.getElem?_cons_succ, List.getElem?_cons_zero, dTru, dSeq, dSet, dExpr, dAppend, dTup, dCons, dNil, dNew, dLst, dOrV, dAndV, dNotV, dIfE, dAug, dNx, asB, dRet, dRetN, dCall, dFor, dAsg, toF, dgName, dgTup, dgCons, dgNil, dSl, doS, doN, List.set_cons_succ, List.set_cons_zero, Bool.false_eq_true, Bool.true_eq_false, if_true, if_false, ite_true, ite_false, Bool.not_true, Bool.not_false, List.length_cons, List.length_nil, ix2, gGt_int, decide_eq_true c, gInt_int, gMod_int h0, gFdiv_int h0 hm, st2]
  · have c' : decide (0 < q) = false := decide_eq_false c
    have h5 : (0 : Int) < 2147483647 := by decide
    refine ⟨(sd * 69621 + 7) % 2147483647 / 5 % m, dr ns p q ((sd * 69621 + 7) % 2147483647), ?_, ⟨ns, p, q, _, rfl, hp, hq, Int.emod_nonneg _ (by decide)⟩, Int.emod_nonneg _ (by omega), Int.emod_lt_of_pos _ h0⟩
    have e1 : ∀ S, gMul (.int sd) (.int 69621) S = .ok (.int (sd * 69621)) S := fun S => gMul_int (by decide)
    have e2 : ∀ (i : Int) S, gMod (.int i) (.int 2147483647) S = .ok (.int (i % 2147483647)) S := fun i S => gMod_int h5
    have e3 : ∀ (i : Int) S, gFdiv (.int i) (.int 5) S = .ok (.int (i / 5)) S := fun i S => gFdiv_int (by decide) (by decide)
    unfold takeB
    simp only [dIf, dOr, dAnd, dNot, dTest, dOp, dVar, dC, R.bind, R.thenF, List.getElem?_cons_succ, List.getElem?_cons_zero, dTru, dSeq, dSet, dExpr, dAppend, dTup, dCons, dNil, dNew, dLst, dOrV, dAndV, dNotV, dIfE, dAug, dNx, asB, dRet, dRetN, dCall, dFor, dAsg, toF, dgName, dgTup, dgCons, dgNil, dSl, doS, doN, List.set_cons_succ, List.set_cons_zero, Bool.false_eq_true, Bool.true_eq_false, if_true, if_false, ite_true, ite_false, Bool.not_true, Bool.not_false, List.length_cons, List.length_nil, ix2, ix3, gGt_int, c', gInt_int, e1, gAdd_int, e2, e3, gMod_int h0, st3]
theorem take_ok {m : Int} (h0 : 0 < m) (hm : m < 1073741824) (hp : 0 ≤ p) (hq : 0 ≤ q) (hs : 0 ≤ sd) :
    ∃ r S', b__law_take [some (.ref 0), some (.int m), none, none] (dr ns p q sd) = .rt (.int r) S' ∧ Dr S' ∧ 0 ≤ r ∧ r < m := by
  have e30 : ∀ n : Int, (n == 0) = decide (n = 0) := fun n => rfl
  have fold : b__law_take = dSeq _ takeB := rfl
  rw [fold]
  by_cases c1 : q = 0 ∧ p < ns.length
  · obtain ⟨rfl, hp2⟩ := c1
    obtain ⟨n, hn⟩ := ixp (ns := ns) (p := p) (S := dr ns p 0 sd) hp hp2
    have c2 : decide (p < (ns.length : Int)) = true := decide_eq_true hp2
    have a0 : (0 : Int) ≤ (if n < 0 then -n else n) := by split <;> omega
    generalize ha : (if n < 0 then -n else n) = a at *
    by_cases c3 : a < 1000000000000000000
    · refine ⟨a % m, dr ns (p + 1) 0 sd, ?_, ⟨ns, p + 1, 0, sd, rfl, by omega, by omega, hs⟩, Int.emod_nonneg _ (by omega), Int.emod_lt_of_pos _ h0⟩
      simp only [dIf, dOr, dAnd, dNot, dTest, dOp, dVar, dC, R.bind, R.thenF, List.getElem?_cons_succ, List.getElem?_cons_zero, dTru, dSeq, dSet, dExpr, dAppend, dTup, dCons, dNil, dNew, dLst, dOrV, dAndV, dNotV, dIfE, dAug, dNx, asB, dRet, dRetN, dCall, dFor, dAsg, toF, dgName, dgTup, dgCons, dgNil, dSl, doS, doN, List.set_cons_succ, List.set_cons_zero, Bool.false_eq_true, Bool.true_eq_false, if_true, if_false, ite_true, ite_false, Bool.not_true, Bool.not_false, List.length_cons, List.length_nil, ix0, ix1, ix2, eq_int, len0, gLt_int, e30, decide_eq_true, c2, hn, gInt_int, gAbs_int, ha, st2, gAdd_int, st1, gPow18, decide_eq_true c3, gMod_int h0]
    · have c3' : decide (a < 1000000000000000000) = false := decide_eq_false c3
      obtain ⟨r, S', h1, h2, h3, h4⟩ := takeB_ok (ns := ns) (p := p + 1) (q := a) (sd := sd) (x := none) h0 hm (by omega) a0 hs
      refine ⟨r, S', ?_, h2, h3, h4⟩
      simp only [dIf, dOr, dAnd, dNot, dTest, dOp, dVar, dC, R.bind, R.thenF, List.getElem?_cons_succ, List.getElem?_cons_zero, dTru, dSeq, dSet, dExpr, dAppend, dTup, dCons, dNil, dNew, dLst, dOrV, dAndV, dNotV, dIfE, dAug, dNx, asB, dRet, dRetN, dCall, dFor, dAsg, toF, dgName, dgTup, dgCons, dgNil, dSl, doS, doN, List.set_cons_succ, List.set_cons_zero, Bool.false_eq_true, Bool.true_eq_false, if_true, if_false, ite_true, ite_false, Bool.not_true, Bool.not_false, List.length_cons, List.length_nil, ix0, ix1, ix2, eq_int, len0, gLt_int, e30, decide_eq_true, c2, hn, gInt_int, gAbs_int, ha, st2, gAdd_int, st1, gPow18, c3', h1]
  · obtain ⟨r, S', h1, h2, h3, h4⟩ := takeB_ok (ns := ns) (p := p) (q := q) (sd := sd) (x := none) h0 hm hp hq hs
    refine ⟨r, S', ?_, h2, h3, h4⟩
    by_cases c2 : q = 0
    · have c4 : decide (p < (ns.length : Int)) = false := decide_eq_false fun h => c1 ⟨c2, h⟩
      simp only [dIf, dOr, dAnd, dNot, dTest, dOp, dVar, dC, R.bind, R.thenF, List.getElem?_cons_succ, List.getElem?_cons_zero, dTru, dSeq, dSet, dExpr, dAppend, dTup, dCons, dNil, dNew, dLst, dOrV, dAndV, dNotV, dIfE, dAug, dNx, asB, dRet, dRetN, dCall, dFor, dAsg, toF, dgName, dgTup, dgCons, dgNil, dSl, doS, doN, List.set_cons_succ, List.set_cons_zero, Bool.false_eq_true, Bool.true_eq_false, if_true, if_false, ite_true, ite_false, Bool.not_true, Bool.not_false, List.length_cons, List.length_nil, ix0, ix1, ix2, eq_int, len0, gLt_int, e30, decide_eq_true c2, c4, h1]
    · simp only [dIf, dOr, dAnd, dNot, dTest, dOp, dVar, dC, R.bind, R.thenF, List.getElem?_cons_succ, List.getElem?_cons_zero, dTru, dSeq, dSet, dExpr, dAppend, dTup, dCons, dNil, dNew, dLst, dOrV, dAndV, dNotV, dIfE, dAug, dNx, asB, dRet, dRetN, dCall, dFor, dAsg, toF, dgName, dgTup, dgCons, dgNil, dSl, doS, doN, List.set_cons_succ, List.set_cons_zero, Bool.false_eq_true, Bool.true_eq_false, if_true, if_false, ite_true, ite_false, Bool.not_true, Bool.not_false, List.length_cons, List.length_nil, ix0, ix1, ix2, eq_int, len0, gLt_int, e30, decide_eq_false c2, h1]
end
theorem Dr.one {S : Store} (h : Dr S) : S.length = 1 := by obtain ⟨ns, p, q, sd, rfl, _⟩ := h; rfl
theorem settle_dr {S S' : Store} {d : D} (h : Dr S) (h' : Dr S') : settle S.length d S' = .ok d S' := by
  unfold DL.settle
  rw [if_pos (by rw [h.one, h'.one])]
theorem take_eq {S : Store} {m : Int} (h : Dr S) (h0 : 0 < m) (hm : m < 1073741824) : ∃ r S', f__law_take [.ref 0, .int m] S = .ok (.int r) S' ∧ Dr S' ∧ 0 ≤ r ∧ r < m := by
  obtain ⟨ns, p, q, sd, rfl, hp, hq, hs⟩ := id h
  obtain ⟨r, S', h1, h2, h3, h4⟩ := take_ok (ns := ns) h0 hm hp hq hs
  exact ⟨r, S', (runFn_rt (np := 2) (N := 4) rfl h1).trans (settle_dr h h2), h2, h3, h4⟩
theorem pick_eq {S : Store} {menu : List D} (h : Dr S) (h0 : menu ≠ []) (hm : menu.length < 1000) : ∃ v S', f__law_pick [.ref 0, .lst menu] S = .ok v S' ∧ Dr S' ∧ v ∈ menu := by
  have hl : 0 < menu.length := by cases menu with
    | nil => exact absurd rfl h0
    | cons _ _ => simp
  obtain ⟨r, S', h1, h2, h3, h4⟩ := take_eq (m := (menu.length : Int)) h (by omega) (by omega)
  have hr : r.toNat < menu.length := by omega
  have e1 : gLen [.lst menu] S = .ok (.int (menu.length : Int)) S := rfl
  have e2 : gIx (.lst menu) (.int r) S' = .ok menu[r.toNat] S' := by
    show (match L2.atI menu r with
      | some d => R.ok d S'
      | none => .bad) = _
    rw [show L2.atI menu r = some menu[r.toNat] by
      unfold L2.atI L2.ixN
      rw [if_pos h3, if_pos h4]
      exact List.getElem?_eq_getElem hr]
  have key : b__law_pick [some (.ref 0), some (.lst menu)] S = .rt menu[r.toNat] S' := by
    unfold b__law_pick
    simp only [dIf, dOr, dAnd, dNot, dTest, dOp, dVar, dC, R.bind, R.thenF, List.getElem?_cons_succ, List.getElem?_cons_zero, dTru, dSeq, dSet, dExpr, dAppend, dTup, dCons, dNil, dNew, dLst, dOrV, dAndV, dNotV, dIfE, dAug, dNx, asB, dRet, dRetN, dCall, dFor, dAsg, toF, dgName, dgTup, dgCons, dgNil, dSl, doS, doN, List.set_cons_succ, List.set_cons_zero, Bool.false_eq_true, Bool.true_eq_false, if_true, if_false, ite_true, ite_false, Bool.not_true, Bool.not_false, List.length_cons, List.length_nil, e1, h1, e2]
  exact ⟨_, S', (runFn_rt (np := 2) (N := 2) rfl key).trans (settle_dr h h2), h2, List.getElem_mem hr⟩
end K15
namespace K15
open PySem DL
/-! the script -/
theorem begin_loop (f : Option D) : ∀ (ns : List Int) (sd : Int) (c : Option D), 0 ≤ sd → ∃ sd' c', 0 ≤ sd' ∧ dForL (dgName 2) b__law_begin_f1 (ns.map D.int) [f, some (.int sd), c] [] = .nx [f, some (.int sd'), c'] []
  | [], sd, c, h => ⟨sd, c, h, rfl⟩
  | n :: ns, sd, c, h => by
    obtain ⟨sd', c', h1, h2⟩ := begin_loop f ns ((sd * 48271 + n % 2147483629 + 11) % 2147483647) (some (.int n)) (Int.emod_nonneg _ (by decide))
    refine ⟨sd', c', h1, ?_⟩
    have e1 : ∀ S, gMul (.int sd) (.int 48271) S = .ok (.int (sd * 48271)) S := fun S => gMul_int (by decide)
    have e2 : ∀ (i : Int) S, gMod (.int i) (.int 2147483647) S = .ok (.int (i % 2147483647)) S := fun i S => gMod_int (by decide)
    have e3 : ∀ (i : Int) S, gMod (.int i) (.int 2147483629) S = .ok (.int (i % 2147483629)) S := fun i S => gMod_int (by decide)
    have st : b__law_begin_f1 [f, some (.int sd), some (.int n)] [] = .nx [f, some (.int ((sd * 48271 + n % 2147483629 + 11) % 2147483647)), some (.int n)] [] := by
      unfold b__law_begin_f1
      simp only [dIf, dOr, dAnd, dNot, dTest, dOp, dVar, dC, R.bind, R.thenF, List.getElem?_cons_succ, List.getElem?_cons_zero, dTru, dSeq, dSet, dExpr, dAppend, dTup, dCons, dNil, dNew, dLst, dOrV, dAndV, dNotV, dIfE, dAug, dNx, asB, dRet, dRetN, dCall, dFor, dAsg, toF, dgName, dgTup, dgCons, dgNil, dSl, doS, doN, List.set_cons_succ, List.set_cons_zero, Bool.false_eq_true, Bool.true_eq_false, if_true, if_false, ite_true, ite_false, Bool.not_true, Bool.not_false, List.length_cons, List.length_nil, e1, gInt_int, e3, gAdd_int, e2]
    show (b__law_begin_f1 [f, some (.int sd), some (.int n)] []).turn _ = _
    rw [st]
    exact h2
theorem runFnK_rt {np N : Nat} {b : DS} {ds : List D} {S S' : Store} {d : D} (hl : ds.length = np) (h : b (ds.map some ++ List.replicate (N - ds.length) none) S = .rt d S') : runFnK np N b ds S = .ok d S' := by
  unfold runFnK
  rw [if_pos hl, h]
theorem begin_eq (ns : List Int) (hl : ns.length < 1000000) : ∃ sd, 0 ≤ sd ∧ f__law_begin [.lst (ns.map D.int)] [] = .ok (.ref 0) (dr ns 0 0 sd) := by
  obtain ⟨sd, c, h1, h2⟩ := begin_loop (some (.lst (ns.map D.int))) ns 5 none (by decide)
  refine ⟨sd, h1, ?_⟩
  have e1 : ∀ S, gList [.lst (ns.map D.int)] S = .ok (.lst (ns.map D.int)) S := fun S => by
    show (if lenOk (ns.map D.int).length = true then R.ok (D.lst (ns.map D.int)) S else .bad) = _
    rw [if_pos (lenOk_lt (by rw [List.length_map]; omega))]
  have z4 : ∀ a b c d S, rNew [a, b, c, d] S = .ok (.ref S.length) (S ++ [.lst [a, b, c, d]]) := fun a b c d S => rNew_ok (by simp)
  have key : b__law_begin [some (.lst (ns.map D.int)), none, none] [] = .rt (.ref 0) (dr ns 0 0 sd) := by
    unfold b__law_begin
    simp only [dIf, dOr, dAnd, dNot, dTest, dOp, dVar, dC, R.bind, R.thenF, List.getElem?_cons_succ, List.getElem?_cons_zero, dTru, dSeq, dSet, dExpr, dAppend, dTup, dCons, dNil, dNew, dLst, dOrV, dAndV, dNotV, dIfE, dAug, dNx, asB, dRet, dRetN, dCall, dFor, dAsg, toF, dgName, dgTup, dgCons, dgNil, dSl, doS, doN, List.set_cons_succ, List.set_cons_zero, Bool.false_eq_true, Bool.true_eq_false, if_true, if_false, ite_true, ite_false, Bool.not_true, Bool.not_false, List.length_cons, List.length_nil, diL, h2, e1, z4]
    rfl
  exact runFnK_rt (np := 1) (N := 3) rfl key
/-! things -/
def menuA : List D := atoms.map (·.2)
theorem lc_dr {P : D → Prop} {j : Nat} {fe : DE} {δ : DEnv} : ∀ (ts : List D), (∀ t ∈ ts, ∀ S, Dr S → ∃ v S', fe (δ.set j (some t)) S = .ok v S' ∧ Dr S' ∧ P v) → ∀ S, Dr S → ∃ vs S', dLcL (dgName j) dYes fe ts δ S = .ok vs S' ∧ Dr S' ∧ vs.length = ts.length ∧ ∀ v ∈ vs, P v
  | [], _, S, hS => ⟨[], S, rfl, hS, rfl, fun v hv => by cases hv⟩
  | t :: ts, h, S, hS => by
    obtain ⟨v, S1, h1, h2, h3⟩ := h t (List.mem_cons_self ..) S hS
    obtain ⟨vs, S2, h4, h5, h6, h7⟩ := lc_dr ts (fun y hy => h y (List.mem_cons_of_mem _ hy)) S1 h2
    refine ⟨v :: vs, S2, ?_, h5, by rw [List.length_cons, List.length_cons, h6], fun w hw => ?_⟩
    · show ((fe (δ.set j (some t)) S).nox.bind fun y S3 => (dLcL (dgName j) dYes fe ts δ S3).bind fun ys S4 => .ok (y :: ys) S4) = _
      rw [h1]
      show ((dLcL (dgName j) dYes fe ts δ S1).bind fun ys S4 => .ok (v :: ys) S4) = _
      rw [h4]
      rfl
    · rcases List.mem_cons.mp hw with e | hw
      · rw [e]; exact h3
      · exact h7 w hw
theorem Good.up : ∀ (d : Nat) (t : D), (∃ q ∈ atoms, t = q.2) → Good d t
  | 0, _, h => h
  | _ + 1, _, h => .inl h
theorem thing_ok : ∀ (n d : Nat) (S : Store), d + 1 ≤ n → Dr S → ∃ t S', f__law_thing n [.ref 0, .int (d : Int)] S = .ok t S' ∧ Dr S' ∧ Good d t
  | 0, d, S, h, _ => by omega
  | n + 1, d, S, h, hS => by
    obtain ⟨menu, S1, h1, h2, h3, h4⟩ := take_eq (m := 5) hS (by decide) (by decide)
    have eq0 : ∀ i : Int, (i == 0) = decide (i = 0) := fun i => rfl
    by_cases c : (d : Int) = 0 ∨ menu < 2
    · obtain ⟨v, S2, p1, p2, p3⟩ := pick_eq (menu := menuA) h2 (by decide) (by decide)
      have p1' : f__law_pick [.ref 0, .lst [.str (PySem.Str.ofString "a"), .str (PySem.Str.ofString "and"), .str (PySem.Str.ofString "=>"), .str (PySem.Str.ofString "<="), .str (PySem.Str.ofString "x_1"), .str (PySem.Str.ofString "-"), .str (PySem.Str.ofString "a-b"), .int 0, .int 7, .int (-12), .int 999999999, .str (PySem.Str.ofString "0x"), .str (PySem.Str.ofString "-a")]] S1 = .ok v S2 := by
        have em : [D.str (PySem.Str.ofString "a"), .str (PySem.Str.ofString "and"), .str (PySem.Str.ofString "=>"), .str (PySem.Str.ofString "<="), .str (PySem.Str.ofString "x_1"), .str (PySem.Str.ofString "-"), .str (PySem.Str.ofString "a-b"), .int 0, .int 7, .int (-12), .int 999999999, .str (PySem.Str.ofString "0x"), .str (PySem.Str.ofString "-a")] = menuA := by kernel_rfl
        rw [em]; exact p1
      have sub12 : ∀ S, gSub (.int 0) (.int 12) S = .ok (.int (-12)) S := fun S => rfl
      have rl : ∀ a0 a1 a2 a3 a4 a5 a6 a7 a8 a9 a10 a11 a12 S, rLst [a0, a1, a2, a3, a4, a5, a6, a7, a8, a9, a10, a11, a12] S = .ok (.lst [a0, a1, a2, a3, a4, a5, a6, a7, a8, a9, a10, a11, a12]) S := fun _ _ _ _ _ _ _ _ _ _ _ _ _ S => rLst_ok (by simp)
      have key : b__law_thing (f__law_thing n) [some (.ref 0), some (.int (d : Int)), none, none] S = .rt v S2 := by
        unfold b__law_thing
        by_cases c0 : (d : Int) = 0
        · simp only [dIf, dOr, dAnd, dNot, dTest, dOp, dVar, dC, R.bind, R.thenF, List.getElem?_cons_succ, List.getElem?_cons_zero, dTru, dSeq, dSet, dExpr, dAppend, dTup, dCons, dNil, dNew, dLst, dOrV, dAndV, dNotV, dIfE, dAug, dNx, asB, dRet, dRetN, dCall, dFor, dAsg, toF, dgName, dgTup, dgCons, dgNil, dSl, doS, doN, List.set_cons_succ, List.set_cons_zero, Bool.false_eq_true, Bool.true_eq_false, if_true, if_false, ite_true, ite_false, Bool.not_true, Bool.not_false, List.length_cons, List.length_nil, h1, eq_int, eq0, decide_eq_true c0, gLt_int, sub12, rl, p1']
        · have c1 : menu < 2 := c.resolve_left c0
          simp only [dIf, dOr, dAnd, dNot, dTest, dOp, dVar, dC, R.bind, R.thenF, List.getElem?_cons_succ, List.getElem?_cons_zero, dTru, dSeq, dSet, dExpr, dAppend, dTup, dCons, dNil, dNew, dLst, dOrV, dAndV, dNotV, dIfE, dAug, dNx, asB, dRet, dRetN, dCall, dFor, dAsg, toF, dgName, dgTup, dgCons, dgNil, dSl, doS, doN, List.set_cons_succ, List.set_cons_zero, Bool.false_eq_true, Bool.true_eq_false, if_true, if_false, ite_true, ite_false, Bool.not_true, Bool.not_false, List.length_cons, List.length_nil, h1, eq_int, eq0, decide_eq_false c0, gLt_int, decide_eq_true c1, sub12, rl, p1']
      refine ⟨v, S2, (runFn_rt (np := 2) (N := 4) rfl key).trans (settle_dr hS p2), p2, Good.up d v ?_⟩
      obtain ⟨q, hq, e⟩ := List.mem_map.mp p3
      exact ⟨q, hq, e.symm⟩
    · have c0 : ¬ (d : Int) = 0 := fun e => c (.inl e)
      have c1 : ¬ menu < 2 := fun e => c (.inr e)
      obtain ⟨d', rfl⟩ : ∃ d', d = d' + 1 := ⟨d - 1, by omega⟩
      obtain ⟨k, S2, k1, k2, k3, k4⟩ := take_eq (m := 4) h2 (by decide) (by decide)
      have ek : k = (k.toNat : Int) := by omega
      have es : ∀ S, gSub (.int ((d' + 1 : Nat) : Int)) (.int 1) S = .ok (.int (d' : Int)) S := fun S => by
        show R.ok (D.int (((d' + 1 : Nat) : Int) - 1)) S = _
        rw [show ((d' + 1 : Nat) : Int) - 1 = (d' : Int) by omega]
      obtain ⟨vs, S3, v1, v2, v3, v4⟩ := lc_dr (P := Good d') (j := 3) (fe := dCall (fun ds S => if ds.length = 2 then f__law_thing n ds S else .bad) (dCons (dVar 0) (dCons (dOp gSub (dVar 1) (dC (.int 1))) dNil))) (δ := [some (.ref 0), some (.int ((d' + 1 : Nat) : Int)), some (.int menu), none]) (nums 0 k.toNat) (fun t _ S hS => by
        obtain ⟨v, S', h1, h2, h3⟩ := thing_ok n d' S (by omega) hS
        refine ⟨v, S', ?_, h2, h3⟩
        simp only [dIf, dOr, dAnd, dNot, dTest, dOp, dVar, dC, R.bind, R.thenF, List.getElem?_cons_succ, List.getElem?_cons_zero, dTru, dSeq, dSet, dExpr, dAppend, dTup, dCons, dNil, dNew, dLst, dOrV, dAndV, dNotV, dIfE, dAug, dNx, asB, dRet, dRetN, dCall, dFor, dAsg, toF, dgName, dgTup, dgCons, dgNil, dSl, doS, doN, List.set_cons_succ, List.set_cons_zero, Bool.false_eq_true, Bool.true_eq_false, if_true, if_false, ite_true, ite_false, Bool.not_true, Bool.not_false, List.length_cons, List.length_nil, es, h1]) S2 k2
      rw [nums_len] at v3
      have rk : rgOk k = true := decide_eq_true ⟨by omega, by omega⟩
      have elc : dLc (diR1 (dCons (dCall (fun ds S => if ds.length = 2 then f__law_take ds S else .bad) (dCons (dVar 0) (dCons (dC (.int 4)) dNil))) dNil)) (dgName 3) dYes (dCall (fun ds S => if ds.length = 2 then f__law_thing n ds S else .bad) (dCons (dVar 0) (dCons (dOp gSub (dVar 1) (dC (.int 1))) dNil))) [3] [some (.ref 0), some (.int ((d' + 1 : Nat) : Int)), some (.int menu), none] S1 = .ok (.lst vs) S3 := by
        have ei : diR1 (dCons (dCall (fun ds S => if ds.length = 2 then f__law_take ds S else .bad) (dCons (dVar 0) (dCons (dC (.int 4)) dNil))) dNil) [some (.ref 0), some (.int ((d' + 1 : Nat) : Int)), some (.int menu), none] S1 = .ok (nums 0 k.toNat) S2 := by
          unfold diR1
          simp only [dIf, dOr, dAnd, dNot, dTest, dOp, dVar, dC, R.bind, R.thenF, List.getElem?_cons_succ, List.getElem?_cons_zero, dTru, dSeq, dSet, dExpr, dAppend, dTup, dCons, dNil, dNew, dLst, dOrV, dAndV, dNotV, dIfE, dAug, dNx, asB, dRet, dRetN, dCall, dFor, dAsg, toF, dgName, dgTup, dgCons, dgNil, dSl, doS, doN, List.set_cons_succ, List.set_cons_zero, Bool.false_eq_true, Bool.true_eq_false, if_true, if_false, ite_true, ite_false, Bool.not_true, Bool.not_false, List.length_cons, List.length_nil, k1, rk]
        unfold dLc
        rw [ei]
        show (dLcL (dgName 3) dYes _ (nums 0 k.toNat) [some (.ref 0), some (.int ((d' + 1 : Nat) : Int)), some (.int menu), none] S2).bind rLst = _
        rw [v1]
        exact rLst_ok (by rw [v3]; omega)
      have gt : gTuple [.lst vs] S3 = .ok (.tup vs) S3 := by
        show (if lenOk vs.length = true then R.ok (D.tup vs) S3 else .bad) = _
        rw [if_pos (lenOk_lt (by rw [v3]; omega))]
      have key : b__law_thing (f__law_thing n) [some (.ref 0), some (.int ((d' + 1 : Nat) : Int)), none, none] S = .rt (.tup vs) S3 := by
        unfold b__law_thing
        simp only [dIf, dOr, dAnd, dNot, dTest, dOp, dVar, dC, R.bind, R.thenF, List.getElem?_cons_succ, List.getElem?_cons_zero, dTru, dSeq, dSet, dExpr, dAppend, dTup, dCons, dNil, dNew, dLst, dOrV, dAndV, dNotV, dIfE, dAug, dNx, asB, dRet, dRetN, dCall, dFor, dAsg, toF, dgName, dgTup, dgCons, dgNil, dSl, doS, doN, List.set_cons_succ, List.set_cons_zero, Bool.false_eq_true, Bool.true_eq_false, if_true, if_false, ite_true, ite_false, Bool.not_true, Bool.not_false, List.length_cons, List.length_nil, h1, eq_int, eq0, decide_eq_false c0, gLt_int, decide_eq_false c1, elc, gt]
      exact ⟨.tup vs, S3, (runFn_rt (np := 2) (N := 4) rfl key).trans (settle_dr hS v2), v2, .inr ⟨vs, rfl, by rw [v3]; omega, v4⟩⟩
end K15
namespace K15
open PySem DL
theorem lc_dr2 {P : D → List Nat → Prop} {j : Nat} {fe : DE} {δ : DEnv} : ∀ (ts : List D), (∀ t ∈ ts, ∀ S, Dr S → ∃ x S', fe (δ.set j (some t)) S = .ok (.str (mkS' x)) S' ∧ Dr S' ∧ P t x) → ∀ S, Dr S → ∃ xs S', dLcL (dgName j) dYes fe ts δ S = .ok (xs.map fun x => .str (mkS' x)) S' ∧ Dr S' ∧ All2 P ts xs
  | [], _, S, hS => ⟨[], S, rfl, hS, trivial⟩
  | t :: ts, h, S, hS => by
    obtain ⟨v, S1, h1, h2, h3⟩ := h t (List.mem_cons_self ..) S hS
    obtain ⟨vs, S2, h4, h5, h6⟩ := lc_dr2 ts (fun y hy => h y (List.mem_cons_of_mem _ hy)) S1 h2
    refine ⟨v :: vs, S2, ?_, h5, h3, h6⟩
    show ((fe (δ.set j (some t)) S).nox.bind fun y S3 => (dLcL (dgName j) dYes fe ts δ S3).bind fun ys S4 => .ok (y :: ys) S4) = _
    rw [h1]
    show ((dLcL (dgName j) dYes fe ts δ S1).bind fun ys S4 => .ok (D.str (mkS' v) :: ys) S4) = _
    rw [h4]
    rfl
def gapMenu : List D := gaps.map fun g => .str (mkS' g)
theorem gap_menu : [D.str (PySem.Str.ofString " "), .str (PySem.Str.ofString "  "), .str (PySem.Str.ofString "\n"), .str (PySem.Str.ofString " ; a ) (\n"), .str (PySem.Str.ofString "\n\n ")] = gapMenu := by kernel_rfl
theorem semn : PySem.Str.ofString ";\n" = mkS' [59, 10] := by decide +kernel
theorem isi_atom {q : List Nat × D} (hq : q ∈ atoms) {fa : DE} {δ : DEnv} {S : Store} (h : fa δ S = .ok q.2 S) : dIsi "tuple" fa δ S = .ok (.bl false) S := by
  obtain ⟨_, h2, h3⟩ := atom_str q hq S
  exact isi_no h h2 h3
theorem loose0 {r : DM} {t : D} {S : Store} (hS : Dr S) (h : ∃ q ∈ atoms, t = q.2) : ∃ x S', (∃ q ∈ atoms, ∃ g ∈ gaps, t = q.2 ∧ x = g ++ (q.1 ++ g)) ∧ Dr S' ∧ b__law_loose r [some (.ref 0), some t, none, none] S = .rt (.str (mkS' x)) S' := by
  obtain ⟨q, hq, rfl⟩ := h
  obtain ⟨v, S1, p1, p2, p3⟩ := pick_eq (menu := gapMenu) hS (by decide) (by decide)
  obtain ⟨g, hg, rfl⟩ := List.mem_map.mp p3
  obtain ⟨_, _, _, _, hgl⟩ := gap_ok g hg
  obtain ⟨_, hql, _⟩ := atom_ok q hq
  obtain ⟨hst, _, _⟩ := atom_str q hq S1
  refine ⟨g ++ (q.1 ++ g), S1, ⟨q, hq, g, hg, rfl, rfl⟩, p2, ?_⟩
  rw [← gap_menu] at p1
  have rl : ∀ a b c d e S, rLst [a, b, c, d, e] S = .ok (.lst [a, b, c, d, e]) S := fun _ _ _ _ _ S => rLst_ok (by simp)
  have ei := isi_atom hq (fa := dVar 1) (δ := [some (.ref 0), some q.2, some (.str (mkS' g)), none]) (S := S1) rfl
  have a1 : gAdd (.str (mkS' g)) (.str (mkS' q.1)) S1 = .ok (.str (mkS' (g ++ q.1))) S1 := gAdd_str (by omega)
  have a2 : gAdd (.str (mkS' (g ++ q.1))) (.str (mkS' g)) S1 = .ok (.str (mkS' (g ++ q.1 ++ g))) S1 := gAdd_str (by rw [List.length_append]; omega)
  unfold b__law_loose
  simp only [dIf, dOr, dAnd, dNot, dTest, dOp, dVar, dC, R.bind, R.thenF, List.getElem?_cons_succ, List.getElem?_cons_zero, dTru, dSeq, dSet, dExpr, dAppend, dTup, dCons, dNil, dNew, dLst, dOrV, dAndV, dNotV, dIfE, dAug, dNx, asB, dRet, dRetN, dCall, dFor, dAsg, toF, dgName, dgTup, dgCons, dgNil, dSl, doS, doN, List.set_cons_succ, List.set_cons_zero, Bool.false_eq_true, Bool.true_eq_false, if_true, if_false, ite_true, ite_false, Bool.not_true, Bool.not_false, List.length_cons, List.length_nil, rl, p1, ei, tru_bl, hst, a1, a2, List.append_assoc]
theorem loose_ok : ∀ (n d : Nat) (t : D) (S : Store), d + 1 ≤ n → d ≤ 9 → Dr S → Good d t → ∃ x S', f__law_loose n [.ref 0, t] S = .ok (.str (mkS' x)) S' ∧ Dr S' ∧ Lo d t x
  | 0, d, t, S, h, _, _, _ => by omega
  | n + 1, 0, t, S, h, hd, hS, hg => by
    obtain ⟨x, S', h1, h2, h3⟩ := loose0 (r := f__law_loose n) hS hg
    exact ⟨x, S', (runFn_rt (np := 2) (N := 4) rfl h3).trans (settle_dr hS h2), h2, h1⟩
  | n + 1, d + 1, t, S, h, hd, hS, hg => by
    rcases hg with hg | ⟨ds, rfl, hl, hg⟩
    · obtain ⟨x, S', h1, h2, h3⟩ := loose0 (r := f__law_loose n) hS hg
      exact ⟨x, S', (runFn_rt (np := 2) (N := 4) rfl h3).trans (settle_dr hS h2), h2, .inl h1⟩
    · obtain ⟨v, S1, p1, p2, p3⟩ := pick_eq (menu := gapMenu) hS (by decide) (by decide)
      obtain ⟨g, hgg, rfl⟩ := List.mem_map.mp p3
      obtain ⟨_, _, _, _, hgl⟩ := gap_ok g hgg
      rw [← gap_menu] at p1
      obtain ⟨v2, S2, r1, r2, r3⟩ := pick_eq (menu := [D.str (PySem.Str.ofString ""), .str (PySem.Str.ofString " ")]) p2 (by simp) (by simp)
      obtain ⟨p, hp, rfl⟩ : ∃ p, p ∈ [[], [32]] ∧ v2 = .str (mkS' p) := by
        simp only [List.mem_cons, List.not_mem_nil, or_false] at r3
        rcases r3 with rfl | rfl
        · exact ⟨[], by simp, by rw [empt]⟩
        · exact ⟨[32], by simp, by rw [spa]⟩
      have hpl : p.length ≤ 1 := by
        simp only [List.mem_cons, List.not_mem_nil, or_false] at hp
        rcases hp with rfl | rfl <;> simp
      obtain ⟨xs, S3, x1, x2, x3⟩ := lc_dr2 (P := Lo d) (j := 3) (fe := dCall (fun ds S => if ds.length = 2 then f__law_loose n ds S else .bad) (dCons (dVar 0) (dCons (dVar 3) dNil))) (δ := [some (.ref 0), some (.tup ds), some (.str (mkS' g)), none]) ds (fun e he S hS => by
        obtain ⟨x, S', y1, y2, y3⟩ := loose_ok n d e S (by omega) (by omega) hS (hg e he)
        refine ⟨x, S', ?_, y2, y3⟩
        simp only [dIf, dOr, dAnd, dNot, dTest, dOp, dVar, dC, R.bind, R.thenF, List.getElem?_cons_succ, List.getElem?_cons_zero, dTru, dSeq, dSet, dExpr, dAppend, dTup, dCons, dNil, dNew, dLst, dOrV, dAndV, dNotV, dIfE, dAug, dNx, asB, dRet, dRetN, dCall, dFor, dAsg, toF, dgName, dgTup, dgCons, dgNil, dSl, doS, doN, List.set_cons_succ, List.set_cons_zero, Bool.false_eq_true, Bool.true_eq_false, if_true, if_false, ite_true, ite_false, Bool.not_true, Bool.not_false, List.length_cons, List.length_nil, y1]) S2 r2
      have hlen := len_all d ds xs x3
      have hb : bnd d ≤ 1000000 := by
        have key : ∀ k ≤ 9, bnd k ≤ 1000000 := by decide
        exact key d (by omega)
      have hm : ds.length * bnd d ≤ 3 * bnd d := Nat.mul_le_mul_right _ hl
      have hxl := x3.len
      obtain ⟨v4, S4, s1, s2, s3⟩ := pick_eq (menu := [D.str (PySem.Str.ofString ""), .str (mkS' g)]) x2 (by simp) (by simp)
      obtain ⟨g2, hg2, rfl⟩ : ∃ g2, (g2 = [] ∨ g2 ∈ gaps) ∧ v4 = .str (mkS' g2) := by
        simp only [List.mem_cons, List.not_mem_nil, or_false] at s3
        rcases s3 with rfl | rfl
        · exact ⟨[], .inl rfl, by rw [empt]⟩
        · exact ⟨g, .inr hgg, rfl⟩
      have hg2l : g2.length ≤ 9 := by
        rcases hg2 with rfl | h
        · simp
        · obtain ⟨_, _, _, _, hl⟩ := gap_ok g2 h; exact hl
      obtain ⟨v5, S5, t1, t2, t3⟩ := pick_eq (menu := [D.str (PySem.Str.ofString ""), .str (PySem.Str.ofString ";\n")]) s2 (by simp) (by simp)
      obtain ⟨e, he, rfl⟩ : ∃ p, p ∈ [[], [59, 10]] ∧ v5 = .str (mkS' p) := by
        simp only [List.mem_cons, List.not_mem_nil, or_false] at t3
        rcases t3 with rfl | rfl
        · exact ⟨[], by simp, by rw [empt]⟩
        · exact ⟨[59, 10], by simp, by rw [semn]⟩
      have hel : e.length ≤ 2 := by
        simp only [List.mem_cons, List.not_mem_nil, or_false] at he
        rcases he with rfl | rfl <;> simp
      have elc : dLc (diT (dVar 1)) (dgName 3) dYes (dCall (fun ds S => if ds.length = 2 then f__law_loose n ds S else .bad) (dCons (dVar 0) (dCons (dVar 3) dNil))) [3] [some (.ref 0), some (.tup ds), some (.str (mkS' g)), none] S2 = .ok (.lst (xs.map fun x => .str (mkS' x))) S3 := by
        show (dLcL (dgName 3) dYes _ ds [some (.ref 0), some (.tup ds), some (.str (mkS' g)), none] S2).bind rLst = _
        rw [x1]
        exact rLst_ok (by rw [List.length_map]; omega)
      have gj : gJoin (.str (mkS' [])) (.lst (xs.map fun x => .str (mkS' x))) S3 = .ok (.str (mkS' xs.flatten)) S3 := gJoin_no (by omega)
      have ej : dM1 gJoin (dC (.str (PySem.Str.ofString ""))) (dLc (diT (dVar 1)) (dgName 3) dYes (dCall (fun ds S => if ds.length = 2 then f__law_loose n ds S else .bad) (dCons (dVar 0) (dCons (dVar 3) dNil))) [3]) [some (.ref 0), some (.tup ds), some (.str (mkS' g)), none] S2 = .ok (.str (mkS' xs.flatten)) S3 := by
        rw [dM1_ok (x := .str (PySem.Str.ofString "")) rfl rfl elc, empt, gj]
      have ei := isi_tup (fa := dVar 1) (δ := [some (.ref 0), some (.tup ds), some (.str (mkS' g)), none]) (S := S1) (ds := ds) rfl
      have rl : ∀ a b c d e S, rLst [a, b, c, d, e] S = .ok (.lst [a, b, c, d, e]) S := fun _ _ _ _ _ S => rLst_ok (by simp)
      have rl2 : ∀ a b S, rLst [a, b] S = .ok (.lst [a, b]) S := fun _ _ S => rLst_ok (by simp)
      have a1 : ∀ S, gAdd (.str (mkS' p)) (.str (mkS' [40])) S = .ok (.str (mkS' (p ++ [40]))) S := fun S => gAdd_str (by simp; omega)
      have a2 : ∀ S, gAdd (.str (mkS' (p ++ [40]))) (.str (mkS' xs.flatten)) S = .ok (.str (mkS' (p ++ [40] ++ xs.flatten))) S := fun S => gAdd_str (by rw [List.length_append]; simp only [List.length_cons, List.length_nil]; omega)
      have a3 : ∀ S, gAdd (.str (mkS' (p ++ [40] ++ xs.flatten))) (.str (mkS' g2)) S = .ok (.str (mkS' (p ++ [40] ++ xs.flatten ++ g2))) S := fun S => gAdd_str (by rw [List.length_append, List.length_append]; simp only [List.length_cons, List.length_nil]; omega)
      have a4 : ∀ S, gAdd (.str (mkS' (p ++ [40] ++ xs.flatten ++ g2))) (.str (mkS' [41])) S = .ok (.str (mkS' (p ++ [40] ++ xs.flatten ++ g2 ++ [41]))) S := fun S => gAdd_str (by rw [List.length_append, List.length_append, List.length_append]; simp only [List.length_cons, List.length_nil]; omega)
      have a5 : ∀ S, gAdd (.str (mkS' (p ++ [40] ++ xs.flatten ++ g2 ++ [41]))) (.str (mkS' e)) S = .ok (.str (mkS' (p ++ [40] ++ xs.flatten ++ g2 ++ [41] ++ e))) S := fun S => gAdd_str (by rw [List.length_append, List.length_append, List.length_append, List.length_append]; simp only [List.length_cons, List.length_nil]; omega)
      have ex : p ++ [40] ++ xs.flatten ++ g2 ++ [41] ++ e = p ++ (40 :: (xs.flatten ++ (g2 ++ (41 :: e)))) := by simp
      have key : b__law_loose (f__law_loose n) [some (.ref 0), some (.tup ds), none, none] S = .rt (.str (mkS' (p ++ (40 :: (xs.flatten ++ (g2 ++ (41 :: e))))))) S5 := by
        rw [← ex]
        unfold b__law_loose
        simp only [dIf, dOr, dAnd, dNot, dTest, dOp, dVar, dC, R.bind, R.thenF, List.getElem?_cons_succ, List.getElem?_cons_zero, dTru, dSeq, dSet, dExpr, dAppend, dTup, dCons, dNil, dNew, dLst, dOrV, dAndV, dNotV, dIfE, dAug, dNx, asB, dRet, dRetN, dCall, dFor, dAsg, toF, dgName, dgTup, dgCons, dgNil, dSl, doS, doN, List.set_cons_succ, List.set_cons_zero, Bool.false_eq_true, Bool.true_eq_false, if_true, if_false, ite_true, ite_false, Bool.not_true, Bool.not_false, List.length_cons, List.length_nil, rl, p1, ei, tru_bl, rl2, r1, opn, a1, ej, a2, s1, a3, cls, a4, t1, a5]
      exact ⟨_, S5, (runFn_rt (np := 2) (N := 4) rfl key).trans (settle_dr hS t2), t2, .inr ⟨ds, xs, p, g2, e, rfl, hl, x3, hp, hg2, he, rfl⟩⟩
end K15
namespace K15
open PySem DL
theorem dr_sok {S : Store} (h : Dr S) : Sok S := by
  obtain ⟨ns, p, q, sd, rfl, _⟩ := h
  have hu : ∀ l : List Int, D.unders 1 (l.map D.int) = true := fun l => by
    induction l with
    | nil => rfl
    | cons a l ih => show (true && D.unders 1 (l.map D.int)) = true; rw [ih]; rfl
  show ((D.unders 1 (ns.map D.int) && true) && true) = true
  rw [hu]; rfl
theorem toks_C (x : List Nat) : rfold (toks x) [] [] = C (x ++ [10]) 0 [] [] := rfl
theorem read_ok {x : List Nat} {S : Store} {top : List D} (hs : Sok S) (hx : x.length ≤ 20000) (h : C (x ++ [10]) 0 [] [] = .ok [] top) : f_read [.str (mkS' x)] S = .ok (.tup top) S := by
  have e := read_eq hs hx
  rw [toks_C, h] at e
  have e : f_read [.str (mkS' x)] S = if ([] : List (List D)) = [] then .ok (.tup top) S else .exc (exT "open" x.length) S := e
  rw [e, if_pos rfl]
theorem read_open {x : List Nat} {S : Store} {top t : List D} {bl : List (List D)} (hs : Sok S) (hx : x.length ≤ 20000) (h : C (x ++ [10]) 0 [] [] = .ok (t :: bl) top) : f_read [.str (mkS' x)] S = .exc (exT "open" x.length) S := by
  have e := read_eq hs hx
  rw [toks_C, h] at e
  have e : f_read [.str (mkS' x)] S = if t :: bl = [] then .ok (.tup top) S else .exc (exT "open" x.length) S := e
  rw [e, if_neg (by simp)]
theorem read_er {x : List Nat} {S : Store} {code : Str} {p : Nat} (hs : Sok S) (hx : x.length ≤ 20000) (h : C (x ++ [10]) 0 [] [] = .er code p) : f_read [.str (mkS' x)] S = .exc (exT code p) S := by
  have e := read_eq hs hx
  rw [toks_C, h] at e
  exact e
theorem told_ok {x : Str} {S : Store} {v : D} (h : f_read [.str x] S = .ok v S) : f__law_told [.str x] S = .ok v S := by
  have key : b__law_told [some (.str x), none] S = .rt v S := by
    unfold b__law_told dTryR
    simp only [dIf, dOr, dAnd, dNot, dTest, dOp, dVar, dC, R.bind, R.thenF, List.getElem?_cons_succ, List.getElem?_cons_zero, dTru, dSeq, dSet, dExpr, dAppend, dTup, dCons, dNil, dNew, dLst, dOrV, dAndV, dNotV, dIfE, dAug, dNx, asB, dRet, dRetN, dCall, dFor, dAsg, toF, dgName, dgTup, dgCons, dgNil, dSl, doS, doN, List.set_cons_succ, List.set_cons_zero, Bool.false_eq_true, Bool.true_eq_false, if_true, if_false, ite_true, ite_false, Bool.not_true, Bool.not_false, List.length_cons, List.length_nil, h]
  exact (runFn_rt (np := 1) (N := 2) rfl key).trans settle_same
theorem told_er {x : Str} {S : Store} {code : Str} {p : Nat} (h : f_read [.str x] S = .exc (exT code p) S) : f__law_told [.str x] S = .ok (.tup [.str code, .int (p : Int)]) S := by
  have key : b__law_told [some (.str x), none] S = .rt (.tup [.str code, .int (p : Int)]) S := by
    unfold b__law_told dTryR
    simp only [dIf, dOr, dAnd, dNot, dTest, dOp, dVar, dC, R.bind, R.thenF, List.getElem?_cons_succ, List.getElem?_cons_zero, dTru, dSeq, dSet, dExpr, dAppend, dTup, dCons, dNil, dNew, dLst, dOrV, dAndV, dNotV, dIfE, dAug, dNx, asB, dRet, dRetN, dCall, dFor, dAsg, toF, dgName, dgTup, dgCons, dgNil, dSl, doS, doN, List.set_cons_succ, List.set_cons_zero, Bool.false_eq_true, Bool.true_eq_false, if_true, if_false, ite_true, ite_false, Bool.not_true, Bool.not_false, List.length_cons, List.length_nil, h]
    rfl
  exact (runFn_rt (np := 1) (N := 2) rfl key).trans settle_same
/-! == of things -/
theorem atom_py : ∀ q ∈ atoms, ∃ p, toPy q.2 = some p ∧ p.canLay0 = true ∧ p.depth = 0 := by
  intro q hq
  unfold atoms at hq
  simp only [List.mem_cons, List.not_mem_nil, or_false] at hq
  rcases hq with rfl | rfl | rfl | rfl | rfl | rfl | rfl | rfl | rfl | rfl | rfl | rfl | rfl <;>
    exact ⟨_, rfl, by decide +kernel, rfl⟩
theorem good_pys {d : Nat} (ih : ∀ t, Good d t → ∃ p, toPy t = some p ∧ p.canLay0 = true ∧ p.depth ≤ d) : ∀ ds : List D, (∀ e ∈ ds, Good d e) → ∃ ps, toPys ds = some ps ∧ PyData.canLayAll0 ps = true ∧ PyData.depthAll ps ≤ d
  | [], _ => ⟨[], rfl, rfl, Nat.zero_le _⟩
  | e :: ds, h => by
    obtain ⟨p, h1, h2, h3⟩ := ih e (h e (List.mem_cons_self ..))
    obtain ⟨ps, h4, h5, h6⟩ := good_pys ih ds fun x hx => h x (List.mem_cons_of_mem _ hx)
    refine ⟨p :: ps, ?_, ?_, ?_⟩
    · show (match toPy e, toPys ds with
        | some p, some ps => some (p :: ps)
        | _, _ => none) = _
      rw [h1, h4]
    · show (p.canLay0 && PyData.canLayAll0 ps) = true
      rw [h2, h5]; rfl
    · show max p.depth (PyData.depthAll ps) ≤ d
      omega
theorem good_py : ∀ (d : Nat) (t : D), Good d t → ∃ p, toPy t = some p ∧ p.canLay0 = true ∧ p.depth ≤ d
  | 0, t, h => by
    obtain ⟨q, hq, rfl⟩ := h
    obtain ⟨p, h1, h2, h3⟩ := atom_py q hq
    exact ⟨p, h1, h2, by omega⟩
  | d + 1, t, h => by
    rcases h with ⟨q, hq, rfl⟩ | ⟨ds, rfl, hl, hg⟩
    · obtain ⟨p, h1, h2, h3⟩ := atom_py q hq
      exact ⟨p, h1, h2, by omega⟩
    · obtain ⟨ps, h1, h2, h3⟩ := good_pys (good_py d) ds hg
      refine ⟨.tuple ps, ?_, h2, ?_⟩
      · show (toPys ds).map PyData.tuple = _
        rw [h1]; rfl
      · show PyData.depthAll ps + 1 ≤ d + 1
        omega
theorem eq_tup {n : Bool} {ds : List D} {ps : List PyData} {S : Store} (h1 : toPys ds = some ps) (h2 : PyData.canLayAll0 ps = true) (h3 : PyData.depthAll ps + 1 ≤ 64) : gEq n (.tup ds) (.tup ds) S = .ok (.bl (!n)) S := by
  show (match toPy (.tup ds), toPy (.tup ds) with
    | some p, some q => if (SeqAt.shaped p && SeqAt.shaped q) = true then R.ok (D.bl (if n then !PyData.eqv p q else PyData.eqv p q)) S else .bad
    | _, _ => .bad) = _
  have e : toPy (.tup ds) = some (.tuple ps) := by
    show (toPys ds).map PyData.tuple = _
    rw [h1]; rfl
  have sh : SeqAt.shaped (.tuple ps) = true := by
    unfold SeqAt.shaped
    rw [Bool.and_eq_true]
    exact ⟨h2, decide_eq_true h3⟩
  have er : PyData.eqv (.tuple ps) (.tuple ps) = true := SeqAt.eqv_refl _ h2
  rw [e]
  simp only [sh, Bool.and_self, if_true, er]
  cases n <;> rfl
/-- (code, place) == (code, place) -/
theorem eq_told {n : Bool} {code : Str} {p : Int} {S : Store} (h : (PyData.str code).canLay0 = true) : gEq n (.tup [.str code, .int p]) (.tup [.str code, .int p]) S = .ok (.bl (!n)) S :=
  eq_tup (ps := [.str code, .int p]) rfl (by show ((PyData.str code).canLay0 && ((PyData.int p).canLay0 && true)) = true; rw [h]; rfl) (by show max 0 (max 0 0) + 1 ≤ 64; decide)
/-! spaces -/
theorem C_sp : ∀ (n : Nat) (cs : List Nat) (i : Nat) (bl : List (List D)) (top : List D), C (List.replicate n 32 ++ cs) i bl top = C cs (i + n) bl top
  | 0, cs, i, bl, top => rfl
  | n + 1, cs, i, bl, top => by
    rw [List.replicate_succ, List.cons_append]
    rw [show (32 : Nat) :: (List.replicate n 32 ++ cs) = [32] ++ (List.replicate n 32 ++ cs) from rfl, C_gap [32] (by simp), C_sp n]
    congr 1
    simp; omega
theorem rep_one (c n : Nat) : repS (mkS' [c]) n = mkS' (List.replicate n c) := by
  show (⟨(List.replicate n ([c] : List Nat)).flatten.toArray⟩ : Str) = _
  congr 2
  induction n with
  | zero => rfl
  | succ n ih => rw [List.replicate_succ, List.flatten_cons, ih, List.replicate_succ]; rfl
theorem gRep_one {c n : Nat} {S : Store} (h : n < 16777216) : gRep (.str (mkS' [c])) (.int (n : Int)) S = .ok (.str (mkS' (List.replicate n c))) S := by
  show (if 0 ≤ (n : Int) ∧ (n : Int) < 1073741824 ∧ lenOk ((mkS' [c]).length * (n : Int).toNat) = true then R.ok (D.str (repS (mkS' [c]) (n : Int).toNat)) S else .bad) = _
  rw [if_pos ⟨by omega, by omega, lenOk_lt (by rw [len_mk]; simp; omega)⟩, Int.toNat_natCast, rep_one]
end K15
namespace K15
open PySem DL
theorem dSeq_nx {f g : DS} {δ δ' : DEnv} {S S' : Store} (h : f δ S = .nx δ' S') : dSeq f g δ S = g δ' S' := by unfold dSeq; rw [h]
/-- shown(thing) for each -/
theorem shown_all {d n : Nat} (hd : d ≤ 9) (hn : d + 1 ≤ n) : ∀ ts : List D, (∀ t ∈ ts, Good d t) → ∃ xs, All2 (fun t x => Sh d t x ∧ ∀ S, f_shown n [t] S = .ok (.str (mkS' x)) S) ts xs
  | [], _ => ⟨[], trivial⟩
  | t :: ts, h => by
    obtain ⟨x, h1, h2⟩ := shown_ok d t (h t (List.mem_cons_self ..)) n hn hd
    obtain ⟨xs, h3⟩ := shown_all hd hn ts fun y hy => h y (List.mem_cons_of_mem _ hy)
    exact ⟨x :: xs, ⟨h1, h2⟩, h3⟩
theorem All2.imp {P Q : D → List Nat → Prop} (h : ∀ t x, P t x → Q t x) : ∀ {ts : List D} {xs : List (List Nat)}, All2 P ts xs → All2 Q ts xs
  | [], [], _ => trivial
  | _ :: _, _ :: _, ⟨a, b⟩ => ⟨h _ _ a, All2.imp h b⟩
  | [], _ :: _, h => h.elim
  | _ :: _, [], h => h.elim
/-- a comprehension of known texts -/
theorem lc_known {j : Nat} {P : D → List Nat → Prop} {fe : DE} {δ : DEnv} (hf : ∀ t x S, P t x → fe (δ.set j (some t)) S = .ok (.str (mkS' x)) S) : ∀ {ts : List D} {xs : List (List Nat)}, All2 P ts xs → ∀ S, dLcL (dgName j) dYes fe ts δ S = .ok (xs.map fun x => .str (mkS' x)) S
  | [], [], _, S => rfl
  | t :: ts, x :: xs, ⟨a, b⟩, S => by
    show ((fe (δ.set j (some t)) S).nox.bind fun y S3 => (dLcL (dgName j) dYes fe ts δ S3).bind fun ys S4 => .ok (y :: ys) S4) = _
    rw [hf t x S a]
    show ((dLcL (dgName j) dYes fe ts δ S).bind fun ys S4 => .ok (D.str (mkS' x) :: ys) S4) = _
    rw [lc_known hf b S]
    rfl
  | [], _ :: _, h, _ => h.elim
  | _ :: _, [], h, _ => h.elim
theorem lc_false {j : Nat} {P : D → List Nat → Prop} {fe : DE} {δ : DEnv} (hf : ∀ t x S, P t x → fe (δ.set j (some t)) S = .ok (.bl false) S) : ∀ {ts : List D} {xs : List (List Nat)}, All2 P ts xs → ∀ S, dLcL (dgName j) dYes fe ts δ S = .ok (ts.map fun _ => .bl false) S
  | [], [], _, S => rfl
  | t :: ts, x :: xs, ⟨a, b⟩, S => by
    show ((fe (δ.set j (some t)) S).nox.bind fun y S3 => (dLcL (dgName j) dYes fe ts δ S3).bind fun ys S4 => .ok (y :: ys) S4) = _
    rw [hf t x S a]
    show ((dLcL (dgName j) dYes fe ts δ S).bind fun ys S4 => .ok (D.bl false :: ys) S4) = _
    rw [lc_false hf b S]
    rfl
  | [], _ :: _, h, _ => h.elim
  | _ :: _, [], h, _ => h.elim
theorem bools_false {α : Type} : ∀ ts : List α, bools (ts.map fun _ => D.bl false) = some (ts.map fun _ => false)
  | [] => rfl
  | t :: ts => by
    show (bools (ts.map fun _ => D.bl false)).map (false :: ·) = _
    rw [bools_false ts]; rfl
theorem any_map {α : Type} : ∀ ts : List α, (ts.map fun _ => false).any id = false
  | [] => rfl
  | t :: ts => by rw [List.map_cons, List.any_cons, any_map ts]; rfl
theorem any_false {α : Type} {S : Store} (ts : List α) : gAnyAll true [.lst (ts.map fun _ => .bl false)] S = .ok (.bl false) S := by
  show (match bools (ts.map fun _ => D.bl false) with
    | some bs => R.ok (D.bl (if true then bs.any id else bs.all id)) S
    | none => .bad) = _
  rw [bools_false]
  show R.ok (D.bl ((ts.map fun _ => false).any id)) S = _
  rw [any_map]
/-! the wrong texts -/
def wrongs : List (Str × Str × Nat) := [(")", "close", 0), ("(", "open", 1), ("(a (b)", "open", 6), (" 01", "number", 1), (" -0", "number", 1), (" 1234567890", "number", 1), (" (a 00 )) (", "number", 4), ("()) 01", "close", 2)]
theorem wrong_told {x : List Nat} {S : Store} {vs : List D} (hs : Sok S) (hx : x.length ≤ 10000) (h : ∀ cs, C (x ++ cs) 0 [] [] = C cs x.length [] vs) : ∀ q ∈ wrongs, ∃ w, q.1 = mkS' w ∧ w.length ≤ 11 ∧ f__law_told [.str (mkS' (x ++ w))] S = .ok (.tup [.str q.2.1, .int ((x.length + q.2.2 : Nat) : Int)]) S ∧ (PyData.str q.2.1).canLay0 = true := by
  intro q hq
  have key : ∀ w, C ((x ++ w) ++ [10]) 0 [] [] = C (w ++ [10]) x.length [] vs := fun w => by rw [List.append_assoc, h]
  have hl : ∀ w : List Nat, w.length ≤ 11 → (x ++ w).length ≤ 20000 := fun w hw => by rw [List.length_append]; omega
  unfold wrongs at hq
  simp only [List.mem_cons, List.not_mem_nil, or_false] at hq
  rcases hq with rfl | rfl | rfl | rfl | rfl | rfl | rfl | rfl
  · exact ⟨[41], by decide +kernel, by decide, told_er (read_er hs (hl _ (by decide)) ((key _).trans rfl)), by decide +kernel⟩
  · refine ⟨[40], by decide +kernel, by decide, (told_er (read_open (t := vs) (bl := []) (top := []) hs (hl _ (by decide)) ((key _).trans rfl))).trans ?_, by decide +kernel⟩
    rw [List.length_append]; rfl
  · refine ⟨[40, 97, 32, 40, 98, 41], by decide +kernel, by decide, (told_er (read_open (t := vs) (bl := []) (top := [.str (mkS' [97]), .tup [.str (mkS' [98])]]) hs (hl _ (by decide)) ((key _).trans rfl))).trans ?_, by decide +kernel⟩
    rw [List.length_append]; rfl
  · exact ⟨[32, 48, 49], by decide +kernel, by decide, told_er (read_er hs (hl _ (by decide)) ((key _).trans rfl)), by decide +kernel⟩
  · exact ⟨[32, 45, 48], by decide +kernel, by decide, told_er (read_er hs (hl _ (by decide)) ((key _).trans rfl)), by decide +kernel⟩
  · exact ⟨[32, 49, 50, 51, 52, 53, 54, 55, 56, 57, 48], by decide +kernel, by decide, told_er (read_er hs (hl _ (by decide)) ((key _).trans rfl)), by decide +kernel⟩
  · exact ⟨[32, 40, 97, 32, 48, 48, 32, 41, 41, 32, 40], by decide +kernel, by decide, told_er (read_er hs (hl _ (by decide)) ((key _).trans rfl)), by decide +kernel⟩
  · exact ⟨[40, 41, 41, 32, 48, 49], by decide +kernel, by decide, told_er (read_er hs (hl _ (by decide)) ((key _).trans rfl)), by decide +kernel⟩
end K15
namespace K15
open PySem DL
theorem eq_neg_tup {ds : List D} {ps : List PyData} {S : Store} (h1 : toPys ds = some ps) (h2 : PyData.canLayAll0 ps = true) (h3 : PyData.depthAll ps + 1 ≤ 64) : gEq true (.tup ds) (.tup ds) S = .ok (.bl false) S := eq_tup (n := true) h1 h2 h3
/-- one wrong text -/
theorem bad_step {a b c e f i j k : Option D} {m : Option D} {x : List Nat} {S : Store} {vs : List D} (hs : Sok S) (hx : x.length ≤ 10000) (h : ∀ cs, C (x ++ cs) 0 [] [] = C cs x.length [] vs) (q : Str × Str × Nat) (hq : q ∈ wrongs) :
    b_law_f1 [a, b, c, some (.str (mkS' x)), e, f, some (.str q.1), some (.tup [.str q.2.1, .int ((x.length + q.2.2 : Nat) : Int)]), i, j, k] S = .nx [a, b, c, some (.str (mkS' x)), e, f, some (.str q.1), some (.tup [.str q.2.1, .int ((x.length + q.2.2 : Nat) : Int)]), i, j, k] S := by
  obtain ⟨w, e1, e2, e3, e4⟩ := wrong_told hs hx h q hq
  have a1 : gAdd (.str (mkS' x)) (.str q.1) S = .ok (.str (mkS' (x ++ w))) S := by rw [e1]; exact gAdd_str (by omega)
  have g1 := eq_told (n := true) (p := ((x.length + q.2.2 : Nat) : Int)) (S := S) e4
  unfold b_law_f1
  simp only [dIf, dOr, dAnd, dNot, dTest, dOp, dVar, dC, R.bind, R.thenF, List.getElem?_cons_succ, List.getElem?_cons_zero, dTru, dSeq, dSet, dExpr, dAppend, dTup, dCons, dNil, dNew, dLst, dOrV, dAndV, dNotV, dIfE, dAug, dNx, asB, dRet, dRetN, dCall, dFor, dAsg, toF, dgName, dgTup, dgCons, dgNil, dSl, doS, doN, List.set_cons_succ, List.set_cons_zero, Bool.false_eq_true, Bool.true_eq_false, if_true, if_false, ite_true, ite_false, Bool.not_true, Bool.not_false, List.length_cons, List.length_nil, a1, e3, g1]
def badD (n : Nat) (q : Str × Str × Nat) : D := .tup [.str q.1, .tup [.str q.2.1, .int ((n + q.2.2 : Nat) : Int)]]
theorem bad_loop {a b c e f i j k : Option D} {x : List Nat} {S : Store} {vs : List D} (hs : Sok S) (hx : x.length ≤ 10000) (h : ∀ cs, C (x ++ cs) 0 [] [] = C cs x.length [] vs) : ∀ (l : List (Str × Str × Nat)), (∀ q ∈ l, q ∈ wrongs) → ∀ (m d : Option D), ∃ m' d', dForL (dgTup 2 (dgCons (dgName 6) (dgCons (dgName 7) dgNil))) b_law_f1 (l.map (badD x.length)) [a, b, c, some (.str (mkS' x)), e, f, m, d, i, j, k] S = .nx [a, b, c, some (.str (mkS' x)), e, f, m', d', i, j, k] S
  | [], _, m, d => ⟨m, d, rfl⟩
  | q :: l, hl, m, d => by
    obtain ⟨m', d', ih⟩ := bad_loop hs hx h l (fun y hy => hl y (List.mem_cons_of_mem _ hy)) (some (.str q.1)) (some (.tup [.str q.2.1, .int ((x.length + q.2.2 : Nat) : Int)]))
    refine ⟨m', d', ?_⟩
    show (b_law_f1 [a, b, c, some (.str (mkS' x)), e, f, some (.str q.1), some (.tup [.str q.2.1, .int ((x.length + q.2.2 : Nat) : Int)]), i, j, k] S).turn _ = _
    rw [bad_step (m := none) hs hx h q (hl q (List.mem_cons_self ..))]
    exact ih
/-! the last part: deep and long texts -/
def deepL : List Nat := List.replicate 39 40 ++ List.replicate 39 41
def deepV : Nat → D
  | 0 => .tup []
  | n + 1 => .tup [deepV n]
theorem deep_C : C (deepL ++ [10]) 0 [] [] = .ok [] [deepV 38] := by kernel_rfl
theorem deep2_C : C ((([97, 32, 40] ++ deepL) ++ [41]) ++ [10]) 0 [] [] = .er "deep" 41 := by kernel_rfl
/-- n spaces -/
def spL (n : Nat) : List Nat := List.replicate n 32
theorem spL_len (n : Nat) : (spL n).length = n := List.length_replicate
theorem sp_read {n : Nat} {S : Store} (hs : Sok S) (h : n ≤ 20000) : f_read [.str (mkS' (spL n))] S = .ok (.tup []) S :=
  read_ok hs (by rw [spL_len]; exact h) (by unfold spL; rw [C_sp]; rfl)
theorem sp_told {n : Nat} {S : Store} (h : 20000 < n) (h2 : n < 16777216) : f__law_told [.str (mkS' (spL n))] S = .ok (.tup [.str "long", .int 0]) S :=
  told_er (p := 0) (read_long (by rw [spL_len]; exact h) (by rw [spL_len]; exact h2))
theorem sp_rep {n : Nat} {S : Store} (h : n < 16777216) : gRep (.str (mkS' [32])) (.int (n : Int)) S = .ok (.str (mkS' (spL n))) S := gRep_one h
theorem sp1 {S : Store} : ∃ L, gRep (.str (mkS' [32])) (.int 20001) S = .ok (.str (mkS' L)) S ∧ f__law_told [.str (mkS' L)] S = .ok (.tup [.str "long", .int 0]) S :=
  ⟨spL 20001, sp_rep (n := 20001) (by decide), sp_told (by decide) (by decide)⟩
theorem sp2 {S : Store} (hs : Sok S) : ∃ L, gRep (.str (mkS' [32])) (.int 20000) S = .ok (.str (mkS' L)) S ∧ f_read [.str (mkS' L)] S = .ok (.tup []) S :=
  ⟨spL 20000, sp_rep (n := 20000) (by decide), sp_read hs (Nat.le_refl _)⟩
theorem dRet_ok {f : DE} {δ : DEnv} {S S' : Store} {d : D} (h : f δ S = .ok d S') : dRet f δ S = .rt d S' := by unfold dRet; rw [h]; rfl
theorem dAndV_tt {fa fb : DE} {δ : DEnv} {S S1 S2 : Store} {d : D} (h1 : fa δ S = .ok (.bl true) S1) (h2 : fb δ S1 = .ok d S2) : dAndV fa fb δ S = .ok d S2 := by
  unfold dAndV; rw [h1]
  show fb δ S1 = _
  exact h2
theorem dC_ok {d : D} {δ : DEnv} {S : Store} : dC d δ S = .ok d S := rfl
theorem dTup0_ok {δ : DEnv} {S : Store} : dTup dNil δ S = .ok (.tup []) S := by
  show rTup [] S = _
  exact rTup_ok (by simp)
theorem dOp_ok {g : D → D → Store → R D} {fa fb : DE} {δ : DEnv} {S S1 S2 : Store} {x y : D} {r : R D} (h1 : fa δ S = .ok x S1) (h2 : fb δ S1 = .ok y S2) (h3 : g x y S2 = r) : dOp g fa fb δ S = r := by
  unfold dOp; rw [h1]
  show (fb δ S1).bind _ = _
  rw [h2]
  exact h3
theorem dCall1_ok {m : DM} {fa : DE} {δ : DEnv} {S S1 : Store} {x : D} {r : R D} (h1 : fa δ S = .ok x S1) (h2 : m [x] S1 = r) : dCall (fun ds S => if ds.length = 1 then m ds S else .bad) (dCons fa dNil) δ S = r := by
  unfold dCall dCons; rw [h1]
  show (if [x].length = 1 then m [x] S1 else .bad) = _
  rw [show (if [x].length = 1 then m [x] S1 else R.bad) = m [x] S1 from if_pos rfl]
  exact h2
theorem last_part {a b c d e f g h i j k : Option D} {S : Store} (hs : Sok S) : (dSeq (dSet 8 (dOp gAdd (dOp gRep (dC (.str (PySem.Str.ofString "("))) (dC (.int 39))) (dOp gRep (dC (.str (PySem.Str.ofString ")"))) (dC (.int 39)))))
    (dSeq (dIf (dOr (dTru (dIsi "str" (dOp gIx (dCall (fun ds S => if ds.length = 1 then f__law_told ds S else .bad) (dCons (dVar 8) dNil)) (dC (.int 0))))) (dOr (dTest (dOp (gEq true) (dCall (fun ds S => if ds.length = 1 then f__law_told ds S else .bad) (dCons (dOp gAdd (dOp gAdd (dC (.str (PySem.Str.ofString "a ("))) (dVar 8)) (dC (.str (PySem.Str.ofString ")")))) dNil)) (dTup (dCons (dC (.str (PySem.Str.ofString "deep"))) (dCons (dC (.int 41)) dNil))))) (dTest (dOp (gEq true) (dCall (fun ds S => if ds.length = 1 then f__law_told ds S else .bad) (dCons (dOp gRep (dC (.str (PySem.Str.ofString " "))) (dC (.int 20001))) dNil)) (dTup (dCons (dC (.str (PySem.Str.ofString "long"))) (dCons (dC (.int 0)) dNil))))))) (dRet (dC (.bl false))) dNx)
    (dRet (dAndV (dOp (gEq false) (dCall (fun ds S => if ds.length = 1 then f_read ds S else .bad) (dCons (dOp gRep (dC (.str (PySem.Str.ofString " "))) (dC (.int 20000))) dNil)) (dTup dNil)) (dAndV (dOp (gEq false) (dCall (fun ds S => if ds.length = 1 then f_read ds S else .bad) (dCons (dC (.str (PySem.Str.ofString "; all ("))) dNil)) (dTup dNil)) (dOp (gEq false) (dCall (fun ds S => if ds.length = 1 then f_read ds S else .bad) (dCons (dC (.str (PySem.Str.ofString "(a;b\n c)"))) dNil)) (dTup (dCons (dTup (dCons (dC (.str (PySem.Str.ofString "a"))) (dCons (dC (.str (PySem.Str.ofString "c"))) dNil))) dNil))))))))
    [a, b, c, d, e, f, g, h, i, j, k] S = .rt (.bl true) S := by
  have r1 : ∀ c : Nat, gRep (.str (mkS' [c])) (.int 39) S = .ok (.str (mkS' (List.replicate 39 c))) S := fun c => gRep_one (n := 39) (by decide)
  obtain ⟨LL1, r2, t3⟩ := sp1 (S := S)
  obtain ⟨LL2, r3, w1⟩ := sp2 hs
  have a1 : gAdd (.str (mkS' (List.replicate 39 40))) (.str (mkS' (List.replicate 39 41))) S = .ok (.str (mkS' deepL)) S := gAdd_str (by decide)
  have t1 : f__law_told [.str (mkS' deepL)] S = .ok (.tup [deepV 38]) S := told_ok (read_ok hs (by decide) deep_C)
  have i1 : gIx (.tup [deepV 38]) (.int 0) S = .ok (deepV 38) S := rfl
  have a2 : gAdd (.str (mkS' [97, 32, 40])) (.str (mkS' deepL)) S = .ok (.str (mkS' ([97, 32, 40] ++ deepL))) S := gAdd_str (by decide)
  have a3 : gAdd (.str (mkS' ([97, 32, 40] ++ deepL))) (.str (mkS' [41])) S = .ok (.str (mkS' (([97, 32, 40] ++ deepL) ++ [41]))) S := gAdd_str (by decide)
  have t2 : f__law_told [.str (mkS' (([97, 32, 40] ++ deepL) ++ [41]))] S = .ok (.tup [.str "deep", .int 41]) S := told_er (read_er hs (by decide) deep2_C)
  have e1 : ∀ p : Int, gEq true (.tup [.str "deep", .int p]) (.tup [.str "deep", .int p]) S = .ok (.bl false) S := fun p => eq_told (n := true) (by decide +kernel)
  have e2 : ∀ p : Int, gEq true (.tup [.str "long", .int p]) (.tup [.str "long", .int p]) S = .ok (.bl false) S := fun p => eq_told (n := true) (by decide +kernel)
  have aop : PySem.Str.ofString "a (" = mkS' [97, 32, 40] := by decide +kernel
  have rt0 : ∀ S, rTup [] S = .ok (.tup []) S := fun S => rTup_ok (by simp)
  have rt1 : ∀ a S, rTup [a] S = .ok (.tup [a]) S := fun a S => rTup_ok (by simp)
  have rt2 : ∀ a b S, rTup [a, b] S = .ok (.tup [a, b]) S := fun a b S => rTup_ok (by simp)
  have s1 : PySem.Str.ofString "; all (" = mkS' [59, 32, 97, 108, 108, 32, 40] := by decide +kernel
  have s2 : PySem.Str.ofString "(a;b\n c)" = mkS' [40, 97, 59, 98, 10, 32, 99, 41] := by decide +kernel
  have s3 : PySem.Str.ofString "a" = mkS' [97] := by decide +kernel
  have s4 : PySem.Str.ofString "c" = mkS' [99] := by decide +kernel
  have w2 : f_read [.str (mkS' [59, 32, 97, 108, 108, 32, 40])] S = .ok (.tup []) S := read_ok hs (by decide) (by kernel_rfl)
  have w3 : f_read [.str (mkS' [40, 97, 59, 98, 10, 32, 99, 41])] S = .ok (.tup [.tup [.str (mkS' [97]), .str (mkS' [99])]]) S := read_ok hs (by decide) (by kernel_rfl)
  have q0 : gEq false (.tup []) (.tup []) S = .ok (.bl true) S := eq_tup (n := false) (ps := []) rfl rfl (by decide)
  have q1 : gEq false (.tup [.tup [.str (mkS' [97]), .str (mkS' [99])]]) (.tup [.tup [.str (mkS' [97]), .str (mkS' [99])]]) S = .ok (.bl true) S := eq_tup (n := false) (ps := [.tuple [.str (mkS' [97]), .str (mkS' [99])]]) rfl (by decide +kernel) (by decide +kernel)
  have isi : dIsi "str" (dOp gIx (dCall (fun ds S => if ds.length = 1 then f__law_told ds S else .bad) (dCons (dVar 8) dNil)) (dC (.int 0))) [a, b, c, d, e, f, g, h, some (.str (mkS' deepL)), j, k] S = .ok (.bl false) S := by
    have hi : dOp gIx (dCall (fun ds S => if ds.length = 1 then f__law_told ds S else .bad) (dCons (dVar 8) dNil)) (dC (.int 0)) [a, b, c, d, e, f, g, h, some (.str (mkS' deepL)), j, k] S = .ok (deepV 38) S := by
      simp only [dIf, dOr, dAnd, dNot, dTest, dOp, dVar, dC, R.bind, R.thenF, List.getElem?_cons_succ, List.getElem?_cons_zero, dTru, dSeq, dSet, dExpr, dAppend, dTup, dCons, dNil, dNew, dLst, dOrV, dAndV, dNotV, dIfE, dAug, dNx, asB, dRet, dRetN, dCall, dFor, dAsg, toF, dgName, dgTup, dgCons, dgNil, dSl, doS, doN, List.set_cons_succ, List.set_cons_zero, Bool.false_eq_true, Bool.true_eq_false, if_true, if_false, ite_true, ite_false, Bool.not_true, Bool.not_false, List.length_cons, List.length_nil, t1, i1]
    exact isi_no hi (show ("tuple" : String) ≠ "" by decide) (show L2.kitB "tuple" "str" = some false by decide +kernel)
  refine (dSeq_nx (δ' := [a, b, c, d, e, f, g, h, some (.str (mkS' deepL)), j, k]) (S' := S) ?_).trans ?_
  · simp only [dIf, dOr, dAnd, dNot, dTest, dOp, dVar, dC, R.bind, R.thenF, List.getElem?_cons_succ, List.getElem?_cons_zero, dTru, dSeq, dSet, dExpr, dAppend, dTup, dCons, dNil, dNew, dLst, dOrV, dAndV, dNotV, dIfE, dAug, dNx, asB, dRet, dRetN, dCall, dFor, dAsg, toF, dgName, dgTup, dgCons, dgNil, dSl, doS, doN, List.set_cons_succ, List.set_cons_zero, Bool.false_eq_true, Bool.true_eq_false, if_true, if_false, ite_true, ite_false, Bool.not_true, Bool.not_false, List.length_cons, List.length_nil, opn, cls, r1, a1]
  refine (dSeq_nx (δ' := [a, b, c, d, e, f, g, h, some (.str (mkS' deepL)), j, k]) (S' := S) ?_).trans ?_
  · simp only [dIf, dOr, dAnd, dNot, dTest, dOp, dVar, dC, R.bind, R.thenF, List.getElem?_cons_succ, List.getElem?_cons_zero, dTru, dSeq, dSet, dExpr, dAppend, dTup, dCons, dNil, dNew, dLst, dOrV, dAndV, dNotV, dIfE, dAug, dNx, asB, dRet, dRetN, dCall, dFor, dAsg, toF, dgName, dgTup, dgCons, dgNil, dSl, doS, doN, List.set_cons_succ, List.set_cons_zero, Bool.false_eq_true, Bool.true_eq_false, if_true, if_false, ite_true, ite_false, Bool.not_true, Bool.not_false, List.length_cons, List.length_nil, isi, tru_bl, aop, cls, spa, a2, a3, t2, rt2, e1, r2, t3, e2]
  · have hA : dOp (gEq false) (dCall (fun ds S => if ds.length = 1 then f_read ds S else .bad) (dCons (dOp gRep (dC (.str (PySem.Str.ofString " "))) (dC (.int 20000))) dNil)) (dTup dNil) [a, b, c, d, e, f, g, h, some (.str (mkS' deepL)), j, k] S = .ok (.bl true) S := by
      have r3' : gRep (.str (PySem.Str.ofString " ")) (.int 20000) S = .ok (.str (mkS' LL2)) S := by rw [spa]; exact r3
      exact dOp_ok (dCall1_ok (dOp_ok (x := .str (PySem.Str.ofString " ")) (y := .int 20000) (S1 := S) (S2 := S) (dC_ok) (dC_ok) r3') w1) (x := .tup []) (S1 := S) (y := .tup []) (S2 := S) (dTup0_ok) q0
    have hB : dOp (gEq false) (dCall (fun ds S => if ds.length = 1 then f_read ds S else .bad) (dCons (dC (.str (PySem.Str.ofString "; all ("))) dNil)) (dTup dNil) [a, b, c, d, e, f, g, h, some (.str (mkS' deepL)), j, k] S = .ok (.bl true) S := by
      simp only [dIf, dOr, dAnd, dNot, dTest, dOp, dVar, dC, R.bind, R.thenF, List.getElem?_cons_succ, List.getElem?_cons_zero, dTru, dSeq, dSet, dExpr, dAppend, dTup, dCons, dNil, dNew, dLst, dOrV, dAndV, dNotV, dIfE, dAug, dNx, asB, dRet, dRetN, dCall, dFor, dAsg, toF, dgName, dgTup, dgCons, dgNil, dSl, doS, doN, List.set_cons_succ, List.set_cons_zero, Bool.false_eq_true, Bool.true_eq_false, if_true, if_false, ite_true, ite_false, Bool.not_true, Bool.not_false, List.length_cons, List.length_nil, w2, rt0, q0, s1]
    have hC : dOp (gEq false) (dCall (fun ds S => if ds.length = 1 then f_read ds S else .bad) (dCons (dC (.str (PySem.Str.ofString "(a;b\n c)"))) dNil)) (dTup (dCons (dTup (dCons (dC (.str (PySem.Str.ofString "a"))) (dCons (dC (.str (PySem.Str.ofString "c"))) dNil))) dNil)) [a, b, c, d, e, f, g, h, some (.str (mkS' deepL)), j, k] S = .ok (.bl true) S := by
      simp only [dIf, dOr, dAnd, dNot, dTest, dOp, dVar, dC, R.bind, R.thenF, List.getElem?_cons_succ, List.getElem?_cons_zero, dTru, dSeq, dSet, dExpr, dAppend, dTup, dCons, dNil, dNew, dLst, dOrV, dAndV, dNotV, dIfE, dAug, dNx, asB, dRet, dRetN, dCall, dFor, dAsg, toF, dgName, dgTup, dgCons, dgNil, dSl, doS, doN, List.set_cons_succ, List.set_cons_zero, Bool.false_eq_true, Bool.true_eq_false, if_true, if_false, ite_true, ite_false, Bool.not_true, Bool.not_false, List.length_cons, List.length_nil, s2, w3, rt1, rt2, s3, s4, q1]
    exact dRet_ok (dAndV_tt hA (dAndV_tt hB hC))
end K15
namespace K15
open PySem DL
theorem dOr_ok {t u : DT} {δ : DEnv} {S : Store} {a b : Bool} (h1 : t δ S = .ok a S) (h2 : u δ S = .ok b S) : dOr t u δ S = .ok (a || b) S := by
  unfold dOr
  rw [h1]
  show (if a = true then R.ok true S else u δ S) = _
  cases a with
  | true => rfl
  | false => exact h2
theorem dIf_nx {c : DT} {A : DS} {δ δ1 : DEnv} {S : Store} {b : Bool} (h : c δ S = .ok b S) (hA : A δ S = .nx δ1 S) : dIf c A dNx δ S = .nx (if b = true then δ1 else δ) S := by
  unfold dIf
  rw [h]
  show (if b = true then A δ S else dNx δ S) = _
  cases b with
  | true => exact hA
  | false => rfl
theorem gEq_strs {a b : Str} {S : Store} : ∃ k, gEq false (.str a) (.str b) S = .ok (.bl k) S := ⟨_, rfl⟩
theorem gCount_str {a b : Str} {S : Store} : gCount (.str a) (.str b) S = .ok (.int (Txt.count a b)) S := rfl
theorem plain (ns : List Int) (hl : ns.length ≤ 63) : ∃ S', f_law [.lst (ns.map D.int)] [] = .ok (.bl true) S' := by
  refine ⟨[], ?_⟩
  obtain ⟨sd, hsd, hbeg⟩ := begin_eq ns (by omega)
  have d0 : Dr (dr ns 0 0 sd) := ⟨ns, 0, 0, sd, rfl, by omega, by omega, hsd⟩
  -- the things
  obtain ⟨k, S1, k1, k2, k3, k4⟩ := take_eq (m := 4) d0 (by decide) (by decide)
  have ek : k = (k.toNat : Int) := by omega
  obtain ⟨vs, S2, v1, v2, v3, v4⟩ := lc_dr (P := Good 4) (j := 9) (fe := dCall (fun ds S => if ds.length = 2 then f__law_thing 6 ds S else .bad) (dCons (dVar 1) (dCons (dC (.int 4)) dNil))) (δ := [some (.lst (ns.map D.int)), some (.ref 0), none, none, none, none, none, none, none, none, none]) (nums 0 k.toNat) (fun t _ S hS => by
    obtain ⟨v, S', h1, h2, h3⟩ := thing_ok 6 4 S (by decide) hS
    have h1 : f__law_thing 6 [.ref 0, .int 4] S = .ok v S' := h1
    refine ⟨v, S', ?_, h2, h3⟩
    simp only [dIf, dOr, dAnd, dNot, dTest, dOp, dVar, dC, R.bind, R.thenF, List.getElem?_cons_succ, List.getElem?_cons_zero, dTru, dSeq, dSet, dExpr, dAppend, dTup, dCons, dNil, dNew, dLst, dOrV, dAndV, dNotV, dIfE, dAug, dNx, asB, dRet, dRetN, dCall, dFor, dAsg, toF, dgName, dgTup, dgCons, dgNil, dSl, doS, doN, List.set_cons_succ, List.set_cons_zero, Bool.false_eq_true, Bool.true_eq_false, if_true, if_false, ite_true, ite_false, Bool.not_true, Bool.not_false, List.length_cons, List.length_nil, h1]) S1 k2
  rw [nums_len] at v3
  have rk : rgOk k = true := decide_eq_true ⟨by omega, by omega⟩
  have elc : dLc (diR1 (dCons (dCall (fun ds S => if ds.length = 2 then f__law_take ds S else .bad) (dCons (dVar 1) (dCons (dC (.int 4)) dNil))) dNil)) (dgName 9) dYes (dCall (fun ds S => if ds.length = 2 then f__law_thing 6 ds S else .bad) (dCons (dVar 1) (dCons (dC (.int 4)) dNil))) [9] [some (.lst (ns.map D.int)), some (.ref 0), none, none, none, none, none, none, none, none, none] (dr ns 0 0 sd) = .ok (.lst vs) S2 := by
    have ei : diR1 (dCons (dCall (fun ds S => if ds.length = 2 then f__law_take ds S else .bad) (dCons (dVar 1) (dCons (dC (.int 4)) dNil))) dNil) [some (.lst (ns.map D.int)), some (.ref 0), none, none, none, none, none, none, none, none, none] (dr ns 0 0 sd) = .ok (nums 0 k.toNat) S1 := by
      unfold diR1
      simp only [dIf, dOr, dAnd, dNot, dTest, dOp, dVar, dC, R.bind, R.thenF, List.getElem?_cons_succ, List.getElem?_cons_zero, dTru, dSeq, dSet, dExpr, dAppend, dTup, dCons, dNil, dNew, dLst, dOrV, dAndV, dNotV, dIfE, dAug, dNx, asB, dRet, dRetN, dCall, dFor, dAsg, toF, dgName, dgTup, dgCons, dgNil, dSl, doS, doN, List.set_cons_succ, List.set_cons_zero, Bool.false_eq_true, Bool.true_eq_false, if_true, if_false, ite_true, ite_false, Bool.not_true, Bool.not_false, List.length_cons, List.length_nil, k1, rk]
    unfold dLc
    rw [ei]
    show (dLcL (dgName 9) dYes _ (nums 0 k.toNat) [some (.lst (ns.map D.int)), some (.ref 0), none, none, none, none, none, none, none, none, none] S1).bind rLst = _
    rw [v1]
    exact rLst_ok (by rw [v3]; omega)
  have gt : gTuple [.lst vs] S2 = .ok (.tup vs) S2 := by
    show (if lenOk vs.length = true then R.ok (D.tup vs) S2 else .bad) = _
    rw [if_pos (lenOk_lt (by rw [v3]; omega))]
  have vl : vs.length ≤ 3 := by rw [v3]; omega
  -- the text
  obtain ⟨xs, S3, x1, x2, x3⟩ := lc_dr2 (P := Lo 4) (j := 10) (fe := dCall (fun ds S => if ds.length = 2 then f__law_loose 6 ds S else .bad) (dCons (dVar 1) (dCons (dVar 10) dNil))) (δ := [some (.lst (ns.map D.int)), some (.ref 0), some (.tup vs), none, none, none, none, none, none, none, none]) vs (fun t ht S hS => by
    obtain ⟨x, S', y1, y2, y3⟩ := loose_ok 6 4 t S (by decide) (by decide) hS (v4 t ht)
    refine ⟨x, S', ?_, y2, y3⟩
    simp only [dIf, dOr, dAnd, dNot, dTest, dOp, dVar, dC, R.bind, R.thenF, List.getElem?_cons_succ, List.getElem?_cons_zero, dTru, dSeq, dSet, dExpr, dAppend, dTup, dCons, dNil, dNew, dLst, dOrV, dAndV, dNotV, dIfE, dAug, dNx, asB, dRet, dRetN, dCall, dFor, dAsg, toF, dgName, dgTup, dgCons, dgNil, dSl, doS, doN, List.set_cons_succ, List.set_cons_zero, Bool.false_eq_true, Bool.true_eq_false, if_true, if_false, ite_true, ite_false, Bool.not_true, Bool.not_false, List.length_cons, List.length_nil, y1]) S2 v2
  have hlen := len_all 4 vs xs x3
  have hb : bnd 4 = 2747 := rfl
  have hx : xs.flatten.length ≤ 8241 := by
    have : vs.length * bnd 4 ≤ 3 * bnd 4 := Nat.mul_le_mul_right _ vl
    omega
  have hxl := x3.len
  have elc2 : dLc (diT (dVar 2)) (dgName 10) dYes (dCall (fun ds S => if ds.length = 2 then f__law_loose 6 ds S else .bad) (dCons (dVar 1) (dCons (dVar 10) dNil))) [10] [some (.lst (ns.map D.int)), some (.ref 0), some (.tup vs), none, none, none, none, none, none, none, none] S2 = .ok (.lst (xs.map fun x => .str (mkS' x))) S3 := by
    show (dLcL (dgName 10) dYes _ vs [some (.lst (ns.map D.int)), some (.ref 0), some (.tup vs), none, none, none, none, none, none, none, none] S2).bind rLst = _
    rw [x1]
    exact rLst_ok (by rw [List.length_map]; omega)
  have gj : gJoin (.str (mkS' [])) (.lst (xs.map fun x => .str (mkS' x))) S3 = .ok (.str (mkS' xs.flatten)) S3 := gJoin_no (by omega)
  have ej : dM1 gJoin (dC (.str (PySem.Str.ofString ""))) (dLc (diT (dVar 2)) (dgName 10) dYes (dCall (fun ds S => if ds.length = 2 then f__law_loose 6 ds S else .bad) (dCons (dVar 1) (dCons (dVar 10) dNil))) [10]) [some (.lst (ns.map D.int)), some (.ref 0), some (.tup vs), none, none, none, none, none, none, none, none] S2 = .ok (.str (mkS' xs.flatten)) S3 := by
    rw [dM1_ok (x := .str (PySem.Str.ofString "")) rfl rfl elc2, empt, gj]
  -- it reads as the things
  have hs : Sok S3 := dr_sok x2
  have hC : ∀ cs, C (xs.flatten ++ cs) 0 [] [] = C cs xs.flatten.length [] vs := fun cs => by
    rw [C_all 4 vs xs cs 0 [] [] x3 (by decide), Nat.zero_add, List.nil_append]
  have rd : f_read [.str (mkS' xs.flatten)] S3 = .ok (.tup vs) S3 := read_ok hs (by omega) (by rw [hC]; rfl)
  obtain ⟨ps, y1, y2, y3⟩ := good_pys (good_py 4) vs v4
  have e1 : gEq true (.tup vs) (.tup vs) S3 = .ok (.bl false) S3 := eq_neg_tup y1 y2 (by omega)
  -- shown
  obtain ⟨ys, z1⟩ := shown_all (d := 4) (n := 6) (by decide) (by decide) vs v4
  have z2 : All2 (Sh 4) vs ys := z1.imp fun t x h => h.1
  have hyl := z2.len
  have hj := len_jn 4 vs ys z2
  have hsb : sb 4 = 929 := rfl
  have hjl : (jn ys).length ≤ 2790 := by
    have : vs.length * (sb 4 + 1) ≤ 3 * (sb 4 + 1) := Nat.mul_le_mul_right _ vl
    omega
  have z3 : ∀ δ : DEnv, ∀ S, dLcL (dgName 10) dYes (dOp (gEq true) (dCall (fun ds S => if ds.length = 1 then f_shown 6 ds S else .bad) (dCons (dVar 10) dNil)) (dCall (fun ds S => if ds.length = 1 then f__law_text 6 ds S else .bad) (dCons (dVar 10) dNil))) vs [some (.lst (ns.map D.int)), some (.ref 0), some (.tup vs), some (.str (mkS' xs.flatten)), none, none, none, none, none, none, none] S = .ok (vs.map fun _ => .bl false) S := fun _ => lc_false (fun t x S h => by
    have h2 := h.2 S
    have h3 : f__law_text 6 [t] S = .ok (.str (mkS' x)) S := by rw [text_shown]; exact h2
    have g : ∀ y : Str, gEq true (.str y) (.str y) S = .ok (.bl false) S := fun y => by rw [eq_str]; simp
    simp only [dIf, dOr, dAnd, dNot, dTest, dOp, dVar, dC, R.bind, R.thenF, List.getElem?_cons_succ, List.getElem?_cons_zero, dTru, dSeq, dSet, dExpr, dAppend, dTup, dCons, dNil, dNew, dLst, dOrV, dAndV, dNotV, dIfE, dAug, dNx, asB, dRet, dRetN, dCall, dFor, dAsg, toF, dgName, dgTup, dgCons, dgNil, dSl, doS, doN, List.set_cons_succ, List.set_cons_zero, Bool.false_eq_true, Bool.true_eq_false, if_true, if_false, ite_true, ite_false, Bool.not_true, Bool.not_false, List.length_cons, List.length_nil, h2, h3, g]) z1
  have z4 : ∀ S, dLcL (dgName 10) dYes (dCall (fun ds S => if ds.length = 1 then f_shown 6 ds S else .bad) (dCons (dVar 10) dNil)) vs [some (.lst (ns.map D.int)), some (.ref 0), some (.tup vs), some (.str (mkS' xs.flatten)), none, none, none, none, none, none, none] S = .ok (ys.map fun x => .str (mkS' x)) S := lc_known (fun t x S h => by
    have h2 := h.2 S
    simp only [dIf, dOr, dAnd, dNot, dTest, dOp, dVar, dC, R.bind, R.thenF, List.getElem?_cons_succ, List.getElem?_cons_zero, dTru, dSeq, dSet, dExpr, dAppend, dTup, dCons, dNil, dNew, dLst, dOrV, dAndV, dNotV, dIfE, dAug, dNx, asB, dRet, dRetN, dCall, dFor, dAsg, toF, dgName, dgTup, dgCons, dgNil, dSl, doS, doN, List.set_cons_succ, List.set_cons_zero, Bool.false_eq_true, Bool.true_eq_false, if_true, if_false, ite_true, ite_false, Bool.not_true, Bool.not_false, List.length_cons, List.length_nil, h2]) z1
  have elc3 : dLc (diT (dVar 2)) (dgName 10) dYes (dOp (gEq true) (dCall (fun ds S => if ds.length = 1 then f_shown 6 ds S else .bad) (dCons (dVar 10) dNil)) (dCall (fun ds S => if ds.length = 1 then f__law_text 6 ds S else .bad) (dCons (dVar 10) dNil))) [10] [some (.lst (ns.map D.int)), some (.ref 0), some (.tup vs), some (.str (mkS' xs.flatten)), none, none, none, none, none, none, none] S3 = .ok (.lst (vs.map fun _ => .bl false)) S3 := by
    show (dLcL (dgName 10) dYes _ vs [some (.lst (ns.map D.int)), some (.ref 0), some (.tup vs), some (.str (mkS' xs.flatten)), none, none, none, none, none, none, none] S3).bind rLst = _
    rw [z3 []]
    exact rLst_ok (by rw [List.length_map]; omega)
  have elc4 : dLc (diT (dVar 2)) (dgName 10) dYes (dCall (fun ds S => if ds.length = 1 then f_shown 6 ds S else .bad) (dCons (dVar 10) dNil)) [10] [some (.lst (ns.map D.int)), some (.ref 0), some (.tup vs), some (.str (mkS' xs.flatten)), none, none, none, none, none, none, none] S3 = .ok (.lst (ys.map fun x => .str (mkS' x))) S3 := by
    show (dLcL (dgName 10) dYes _ vs [some (.lst (ns.map D.int)), some (.ref 0), some (.tup vs), some (.str (mkS' xs.flatten)), none, none, none, none, none, none, none] S3).bind rLst = _
    rw [z4]
    exact rLst_ok (by rw [List.length_map]; omega)
  have gj2 : gJoin (.str (mkS' [32])) (.lst (ys.map fun x => .str (mkS' x))) S3 = .ok (.str (mkS' (jn ys))) S3 := gJoin_sp (by omega)
  have ej2 : dM1 gJoin (dC (.str (PySem.Str.ofString " "))) (dLc (diT (dVar 2)) (dgName 10) dYes (dCall (fun ds S => if ds.length = 1 then f_shown 6 ds S else .bad) (dCons (dVar 10) dNil)) [10]) [some (.lst (ns.map D.int)), some (.ref 0), some (.tup vs), some (.str (mkS' xs.flatten)), none, none, none, none, none, none, none] S3 = .ok (.str (mkS' (jn ys))) S3 := by
    rw [dM1_ok (x := .str (PySem.Str.ofString " ")) rfl rfl elc4, spa, gj2]
  have rd2 : f_read [.str (mkS' (jn ys))] S3 = .ok (.tup vs) S3 := read_ok hs (by omega) (by
    rw [C_jn 4 vs ys [] 10 0 [] [] z2 (by decide) (by decide)]; rfl)
  -- the middle: wrong texts, or none
  have gl := gLen_str (x := xs.flatten) (S := S3) (by omega)
  obtain ⟨m', d', bl⟩ := bad_loop (a := some (.lst (ns.map D.int))) (b := some (.ref 0)) (c := some (.tup vs)) (e := some (.int (xs.flatten.length : Int))) (f := some (.lst (wrongs.map (badD xs.flatten.length)))) (i := none) (j := none) (k := none) hs (by omega) hC wrongs (fun q h => h) none none
  have key : b_law [some (.lst (ns.map D.int)), none, none, none, none, none, none, none, none, none, none] [] = .rt (.bl true) S3 := by
    unfold b_law
    refine (dSeq_nx (δ' := [some (.lst (ns.map D.int)), some (.ref 0), none, none, none, none, none, none, none, none, none]) (S' := dr ns 0 0 sd) ?_).trans ?_
    · simp only [dIf, dOr, dAnd, dNot, dTest, dOp, dVar, dC, R.bind, R.thenF, List.getElem?_cons_succ, List.getElem?_cons_zero, dTru, dSeq, dSet, dExpr, dAppend, dTup, dCons, dNil, dNew, dLst, dOrV, dAndV, dNotV, dIfE, dAug, dNx, asB, dRet, dRetN, dCall, dFor, dAsg, toF, dgName, dgTup, dgCons, dgNil, dSl, doS, doN, List.set_cons_succ, List.set_cons_zero, Bool.false_eq_true, Bool.true_eq_false, if_true, if_false, ite_true, ite_false, Bool.not_true, Bool.not_false, List.length_cons, List.length_nil, hbeg]
    refine (dSeq_nx (δ' := [some (.lst (ns.map D.int)), some (.ref 0), some (.tup vs), none, none, none, none, none, none, none, none]) (S' := S2) ?_).trans ?_
    · simp only [dIf, dOr, dAnd, dNot, dTest, dOp, dVar, dC, R.bind, R.thenF, List.getElem?_cons_succ, List.getElem?_cons_zero, dTru, dSeq, dSet, dExpr, dAppend, dTup, dCons, dNil, dNew, dLst, dOrV, dAndV, dNotV, dIfE, dAug, dNx, asB, dRet, dRetN, dCall, dFor, dAsg, toF, dgName, dgTup, dgCons, dgNil, dSl, doS, doN, List.set_cons_succ, List.set_cons_zero, Bool.false_eq_true, Bool.true_eq_false, if_true, if_false, ite_true, ite_false, Bool.not_true, Bool.not_false, List.length_cons, List.length_nil, elc, gt]
    refine (dSeq_nx (δ' := [some (.lst (ns.map D.int)), some (.ref 0), some (.tup vs), some (.str (mkS' xs.flatten)), none, none, none, none, none, none, none]) (S' := S3) ?_).trans ?_
    · simp only [dIf, dOr, dAnd, dNot, dTest, dOp, dVar, dC, R.bind, R.thenF, List.getElem?_cons_succ, List.getElem?_cons_zero, dTru, dSeq, dSet, dExpr, dAppend, dTup, dCons, dNil, dNew, dLst, dOrV, dAndV, dNotV, dIfE, dAug, dNx, asB, dRet, dRetN, dCall, dFor, dAsg, toF, dgName, dgTup, dgCons, dgNil, dSl, doS, doN, List.set_cons_succ, List.set_cons_zero, Bool.false_eq_true, Bool.true_eq_false, if_true, if_false, ite_true, ite_false, Bool.not_true, Bool.not_false, List.length_cons, List.length_nil, ej]
    refine (dSeq_nx (δ' := [some (.lst (ns.map D.int)), some (.ref 0), some (.tup vs), some (.str (mkS' xs.flatten)), none, none, none, none, none, none, none]) (S' := S3) ?_).trans ?_
    · simp only [dIf, dOr, dAnd, dNot, dTest, dOp, dVar, dC, R.bind, R.thenF, List.getElem?_cons_succ, List.getElem?_cons_zero, dTru, dSeq, dSet, dExpr, dAppend, dTup, dCons, dNil, dNew, dLst, dOrV, dAndV, dNotV, dIfE, dAug, dNx, asB, dRet, dRetN, dCall, dFor, dAsg, toF, dgName, dgTup, dgCons, dgNil, dSl, doS, doN, List.set_cons_succ, List.set_cons_zero, Bool.false_eq_true, Bool.true_eq_false, if_true, if_false, ite_true, ite_false, Bool.not_true, Bool.not_false, List.length_cons, List.length_nil, rd, e1, elc3, any_false, tru_bl, ej2, rd2]
    have n1 : PySem.Str.ofString ";" = mkS' [59] := semi
    have cut : ∀ z : Str, z.length < 16777216 → gSlS (.str z) (some (-1)) none S3 = .ok (.str (L2.cutS z (some (-1)) none)) S3 := fun z h => by
      show (if lenOk z.length = true then R.ok (D.str (L2.cutS z (some (-1)) none)) S3 else .bad) = _
      rw [if_pos (lenOk_lt h)]
    have cutx := cut (mkS' xs.flatten) (by rw [len_mk]; omega)
    have neg1 : gSub (.int 0) (.int 1) S3 = .ok (.int (-1)) S3 := rfl
    have eqf : ∀ a b : Str, gEq false (.str a) (.str b) S3 = .ok (.bl (decide (a = b))) S3 := fun a b => rfl
    have eqi : ∀ a b : Int, gEq false (.int a) (.int b) S3 = .ok (.bl (a == b)) S3 := fun a b => rfl
    have isd : ∀ z : Str, isStrD (.str z) = true := fun _ => rfl
    have rt2 : ∀ a b S, rTup [a, b] S = .ok (.tup [a, b]) S := fun a b S => rTup_ok (by simp)
    have rl8 : ∀ a b c d e f g h S, rLst [a, b, c, d, e, f, g, h] S = .ok (.lst [a, b, c, d, e, f, g, h]) S := fun _ _ _ _ _ _ _ _ S => rLst_ok (by simp)
    refine (dSeq_nx (dIf_nx (b := (Txt.count (mkS' xs.flatten) (PySem.Str.ofString ";") == 0) || (decide (L2.cutS (mkS' xs.flatten) (some (-1)) none = PySem.Str.ofString "\n") || decide (mkS' xs.flatten = PySem.Str.ofString ""))) (δ1 := [some (.lst (ns.map D.int)), some (.ref 0), some (.tup vs), some (.str (mkS' xs.flatten)), some (.int (xs.flatten.length : Int)), some (.lst (wrongs.map (badD xs.flatten.length))), m', d', none, none, none]) ?_ ?_)).trans ?_
    · refine dOr_ok ?_ (dOr_ok ?_ ?_)
      · simp only [dIf, dOr, dAnd, dNot, dTest, dOp, dVar, dC, R.bind, R.thenF, List.getElem?_cons_succ, List.getElem?_cons_zero, dTru, dSeq, dSet, dExpr, dAppend, dTup, dCons, dNil, dNew, dLst, dOrV, dAndV, dNotV, dIfE, dAug, dNx, asB, dRet, dRetN, dCall, dFor, dAsg, toF, dgName, dgTup, dgCons, dgNil, dSl, doS, doN, List.set_cons_succ, List.set_cons_zero, Bool.false_eq_true, Bool.true_eq_false, if_true, if_false, ite_true, ite_false, Bool.not_true, Bool.not_false, List.length_cons, List.length_nil, dM1, isd, gCount_str, eqi]
      · simp only [dIf, dOr, dAnd, dNot, dTest, dOp, dVar, dC, R.bind, R.thenF, List.getElem?_cons_succ, List.getElem?_cons_zero, dTru, dSeq, dSet, dExpr, dAppend, dTup, dCons, dNil, dNew, dLst, dOrV, dAndV, dNotV, dIfE, dAug, dNx, asB, dRet, dRetN, dCall, dFor, dAsg, toF, dgName, dgTup, dgCons, dgNil, dSl, doS, doN, List.set_cons_succ, List.set_cons_zero, Bool.false_eq_true, Bool.true_eq_false, if_true, if_false, ite_true, ite_false, Bool.not_true, Bool.not_false, List.length_cons, List.length_nil, neg1, cutx, eqf]
      · simp only [dIf, dOr, dAnd, dNot, dTest, dOp, dVar, dC, R.bind, R.thenF, List.getElem?_cons_succ, List.getElem?_cons_zero, dTru, dSeq, dSet, dExpr, dAppend, dTup, dCons, dNil, dNew, dLst, dOrV, dAndV, dNotV, dIfE, dAug, dNx, asB, dRet, dRetN, dCall, dFor, dAsg, toF, dgName, dgTup, dgCons, dgNil, dSl, doS, doN, List.set_cons_succ, List.set_cons_zero, Bool.false_eq_true, Bool.true_eq_false, if_true, if_false, ite_true, ite_false, Bool.not_true, Bool.not_false, List.length_cons, List.length_nil, eqf]
    · refine (dSeq_nx (δ' := [some (.lst (ns.map D.int)), some (.ref 0), some (.tup vs), some (.str (mkS' xs.flatten)), some (.int (xs.flatten.length : Int)), none, none, none, none, none, none]) (S' := S3) ?_).trans ?_
      · simp only [dIf, dOr, dAnd, dNot, dTest, dOp, dVar, dC, R.bind, R.thenF, List.getElem?_cons_succ, List.getElem?_cons_zero, dTru, dSeq, dSet, dExpr, dAppend, dTup, dCons, dNil, dNew, dLst, dOrV, dAndV, dNotV, dIfE, dAug, dNx, asB, dRet, dRetN, dCall, dFor, dAsg, toF, dgName, dgTup, dgCons, dgNil, dSl, doS, doN, List.set_cons_succ, List.set_cons_zero, Bool.false_eq_true, Bool.true_eq_false, if_true, if_false, ite_true, ite_false, Bool.not_true, Bool.not_false, List.length_cons, List.length_nil, gl]
      refine (dSeq_nx (δ' := [some (.lst (ns.map D.int)), some (.ref 0), some (.tup vs), some (.str (mkS' xs.flatten)), some (.int (xs.flatten.length : Int)), some (.lst (wrongs.map (badD xs.flatten.length))), none, none, none, none, none]) (S' := S3) ?_).trans ?_
      · simp only [dIf, dOr, dAnd, dNot, dTest, dOp, dVar, dC, R.bind, R.thenF, List.getElem?_cons_succ, List.getElem?_cons_zero, dTru, dSeq, dSet, dExpr, dAppend, dTup, dCons, dNil, dNew, dLst, dOrV, dAndV, dNotV, dIfE, dAug, dNx, asB, dRet, dRetN, dCall, dFor, dAsg, toF, dgName, dgTup, dgCons, dgNil, dSl, doS, doN, List.set_cons_succ, List.set_cons_zero, Bool.false_eq_true, Bool.true_eq_false, if_true, if_false, ite_true, ite_false, Bool.not_true, Bool.not_false, List.length_cons, List.length_nil, rt2, rl8, gAdd_int]
        rfl
      · simp only [dIf, dOr, dAnd, dNot, dTest, dOp, dVar, dC, R.bind, R.thenF, List.getElem?_cons_succ, List.getElem?_cons_zero, dTru, dSeq, dSet, dExpr, dAppend, dTup, dCons, dNil, dNew, dLst, dOrV, dAndV, dNotV, dIfE, dAug, dNx, asB, dRet, dRetN, dCall, dFor, dAsg, toF, dgName, dgTup, dgCons, dgNil, dSl, doS, doN, List.set_cons_succ, List.set_cons_zero, Bool.false_eq_true, Bool.true_eq_false, if_true, if_false, ite_true, ite_false, Bool.not_true, Bool.not_false, List.length_cons, List.length_nil, diL, bl]
    · split
      · exact last_part hs
      · exact last_part hs
  exact (runFn_rt (np := 1) (N := 11) rfl key).trans (settle_val (S := []) rfl rfl rfl rfl)
end K15
/-! k15: the head's facts -/
namespace K15
open PySem PySem.Spec L2 DL
def dOf (i : Nat) (x : Str) : He.DefD := ⟨(x, none), x, x, defArgs (top i), defBody (top i), defScope (top i), [], []⟩
def fn : List He.DefD := [dOf 6 "tokens", dOf 8 "whole_or_word", dOf 7 "read", dOf 9 "shown", dOf 11 "_law_take", dOf 12 "_law_pick", dOf 13 "_law_begin", dOf 14 "_law_text", dOf 15 "_law_thing", dOf 16 "_law_loose", dOf 17 "_law_told", dOf 18 "law"]
def fa : List He.Fa := [.glo "tokens", .glo "whole_or_word", .glo "read", .glo "shown", .glo "_law_take", .glo "_law_pick", .glo "_law_begin", .glo "_law_text", .glo "_law_thing", .glo "_law_loose", .glo "_law_told", .glo "law",
  .glo "TextError", .int "MOST_DEPTH" 40, .int "MOST_TEXT" 20000, .exm "TextError" "TextError" true,
  .free "abs", .free "all", .free "any", .free "enumerate", .free "int", .free "isinstance", .free "len", .free "list", .free "range", .free "str", .free "tuple", .free "super"]
def sS : SupD := ⟨"SolverError", "SolverError.__init__", clsSt (top 1) 0⟩
def sT : SupD := ⟨"TextError", "TextError.__init__", clsSt (top 2) 0⟩
def su : List SupD := [sS, sT]
abbrev aS (K : PySem.W.Frag) : Addr := He.ga K "SolverError"
abbrev aT (K : PySem.W.Frag) : Addr := He.ga K "TextError"
def ex (K : PySem.W.Frag) : Bool := exTB K (aT K) (aT K) (aS K) (sT.f K) (sS.f K) "place" && (supB PRG K (sS.f K) (aS K) "SolverError.__init__" && (supB PRG K (sT.f K) (aT K) "TextError.__init__" && (PySem.W.fnIn K (sS.f K) && (decide (PySem.W.typeIn K (.ref (sS.f K)) = some (.type "function")) && xfB K (aT K)))))
abbrev RowK : PySem.W.OpenRow := PySem.W.OpenLaw.row PySem.Challenge.rw_answerandproof_k15_texts_of_lists
def loose : List Str := ["SolverError", "TextError", "MOST_TEXT", "MOST_DEPTH", "tokens", "read", "whole_or_word", "shown", "_law_take", "_law_pick", "_law_begin", "_law_text", "_law_thing", "_law_loose", "_law_told"]
theorem run (w : World) : HandSHeadRun.RunEq RowK (PySem.W.view RowK.prog [18]) (hookO 5 fa fn su ex) (obO 5 fa fn su ex) 2000 loose w := by
  intro os
  kernel_rfl
section
variable {K : PySem.W.Frag} {mg : Str → Option Value}
theorem scS : NdefX.NScope ["self", "code", "__class__"] ["self", "code"] ["__class__"] (defScope sS.st) := NdefX.nscope_by (by decide +kernel)
theorem scT : NdefX.NScope ["self", "code", "place", "__class__"] ["self", "code", "place"] ["__class__"] (defScope sT.st) := NdefX.nscope_by (by decide +kernel)
theorem ok_S {w : World} {base : Heap} {D cda cc : Addr} {fd : FuncData} (S : SupF PRG K (sS.f K) D cda cc "__init__" sS.qual (defArgs sS.st) (defBody sS.st) (defScope sS.st) fd) (hm : mg "super" = none) :
    FnOk PRG w K mg base (L2.CX PRG w) 1 (sS.f K) fd ["self", "code"] (spS K D) :=
  fn_S (k := 0) S scS (by rfl) (by rfl) (by decide +kernel) hm (fun _ => rfl) (fun _ => rfl) (fun _ => ⟨_, rfl⟩)
theorem ok_T {w : World} {base : Heap} {D D0 cda cc : Addr} {fd fd0 : FuncData} (S : SupF PRG K (sT.f K) D cda cc "__init__" sT.qual (defArgs sT.st) (defBody sT.st) (defScope sT.st) fd) (hm : mg "super" = none)
    (F0 : FnOk PRG w K mg base (L2.CX PRG w) 1 (sS.f K) fd0 ["self", "code"] (spS K D0)) (b0 : Binds K fd0 ["self", "code"] []) (t0 : PySem.W.typeIn K (.ref (sS.f K)) = some (.type "function")) (i0 : PySem.W.fnIn K (sS.f K) = true) :
    FnOk PRG w K mg base (L2.CX PRG w) 2 (sT.f K) fd ["self", "code", "place"] (spT K D D0 (sS.f K) "place") :=
  fn_T (k := 1) S scT F0 b0 t0 i0 (by rfl) (by rfl) (by decide +kernel) hm (by decide) (by decide) (fun _ => rfl) (fun _ => rfl) (fun _ => ⟨_, rfl⟩)
theorem fx {h : Heap} (X : K.In h) (G : h.Ns mainGlobals mg) (c : SaysO fa fn su ex K) : ∃ F : Fx K mg, F.a_law = He.ga K "law" := by
  have ft := c.d
  have exx := c.ex
  unfold ex at exx
  obtain ⟨e1, exx⟩ := Bool.and_eq_true_iff.mp exx
  obtain ⟨e2, exx⟩ := Bool.and_eq_true_iff.mp exx
  obtain ⟨e3, exx⟩ := Bool.and_eq_true_iff.mp exx
  obtain ⟨e4, exx⟩ := Bool.and_eq_true_iff.mp exx
  obtain ⟨e5, e6⟩ := Bool.and_eq_true_iff.mp exx
  obtain ⟨cda0, cc0, fd0, S0, kV0, doc0, pm0, an0, ct0, q0⟩ := sup_ok (P := PRG) (d := sS) (D := aS K) (by kernel_rfl) (c.sup 0 rfl) e2
  obtain ⟨cda1, cc1, fd1, S1, kV1, doc1, pm1, an1, ct1, q1⟩ := sup_ok (P := PRG) (d := sT) (D := aT K) (by kernel_rfl) (c.sup 1 rfl) e3
  have hsuper : mg "super" = none := He.free_ok X G (ft.fact 27 (f := .free "super") rfl)
  have b0 : Binds K fd0 ["self", "code"] [] := sup_binds q0 fun us hl => match us, hl with | [_, _], _ => rfl
  have b1 : Binds K fd1 ["self", "code", "place"] [] := sup_binds q1 fun us hl => match us, hl with | [_, _, _], _ => rfl
  have gT : mg "TextError" = some (.ref (aT K)) := He.glo_ok X G (ft.fact 12 (f := .glo "TextError") rfl)
  have tT := exTB_ok e1
  have only : ∀ {y b}, sub_TextError y = some b → y = "TextError" ∧ b = true := fun {y b} h => by
    unfold sub_TextError at h
    split at h
    · rename_i e
      cases h
      exact ⟨e, rfl⟩
    · cases h
  have t0 := of_decide_eq_true e5
  obtain ⟨f0, F0⟩ := ft.def_ 0 (d := dOf 6 "tokens") rfl
  obtain ⟨f1, F1⟩ := ft.def_ 1 (d := dOf 8 "whole_or_word") rfl
  obtain ⟨f2, F2⟩ := ft.def_ 2 (d := dOf 7 "read") rfl
  obtain ⟨f3, F3⟩ := ft.def_ 3 (d := dOf 9 "shown") rfl
  obtain ⟨f4, F4⟩ := ft.def_ 4 (d := dOf 11 "_law_take") rfl
  obtain ⟨f5, F5⟩ := ft.def_ 5 (d := dOf 12 "_law_pick") rfl
  obtain ⟨f6, F6⟩ := ft.def_ 6 (d := dOf 13 "_law_begin") rfl
  obtain ⟨f7, F7⟩ := ft.def_ 7 (d := dOf 14 "_law_text") rfl
  obtain ⟨f8, F8⟩ := ft.def_ 8 (d := dOf 15 "_law_thing") rfl
  obtain ⟨f9, F9⟩ := ft.def_ 9 (d := dOf 16 "_law_loose") rfl
  obtain ⟨f10, F10⟩ := ft.def_ 10 (d := dOf 17 "_law_told") rfl
  obtain ⟨f11, F11⟩ := ft.def_ 11 (d := dOf 18 "law") rfl
  refine ⟨{
    a_tokens := _, fd_tokens := f0, F_tokens := He5.fun_of F0, g_tokens := He.glo_ok X G (ft.fact 0 (f := .glo "tokens") rfl)
    a_whole_or_word := _, fd_whole_or_word := f1, F_whole_or_word := He5.fun_of F1, g_whole_or_word := He.glo_ok X G (ft.fact 1 (f := .glo "whole_or_word") rfl)
    a_read := _, fd_read := f2, F_read := He5.fun_of F2, g_read := He.glo_ok X G (ft.fact 2 (f := .glo "read") rfl)
    a_shown := _, fd_shown := f3, F_shown := He5.fun_of F3, g_shown := He.glo_ok X G (ft.fact 3 (f := .glo "shown") rfl)
    a__law_take := _, fd__law_take := f4, F__law_take := He5.fun_of F4, g__law_take := He.glo_ok X G (ft.fact 4 (f := .glo "_law_take") rfl)
    a__law_pick := _, fd__law_pick := f5, F__law_pick := He5.fun_of F5, g__law_pick := He.glo_ok X G (ft.fact 5 (f := .glo "_law_pick") rfl)
    a__law_begin := _, fd__law_begin := f6, F__law_begin := He5.fun_of F6, g__law_begin := He.glo_ok X G (ft.fact 6 (f := .glo "_law_begin") rfl)
    a__law_text := _, fd__law_text := f7, F__law_text := He5.fun_of F7, g__law_text := He.glo_ok X G (ft.fact 7 (f := .glo "_law_text") rfl)
    a__law_thing := _, fd__law_thing := f8, F__law_thing := He5.fun_of F8, g__law_thing := He.glo_ok X G (ft.fact 8 (f := .glo "_law_thing") rfl)
    a__law_loose := _, fd__law_loose := f9, F__law_loose := He5.fun_of F9, g__law_loose := He.glo_ok X G (ft.fact 9 (f := .glo "_law_loose") rfl)
    a__law_told := _, fd__law_told := f10, F__law_told := He5.fun_of F10, g__law_told := He.glo_ok X G (ft.fact 10 (f := .glo "_law_told") rfl)
    a_law := _, fd_law := f11, F_law := He5.fun_of F11, g_law := He.glo_ok X G (ft.fact 11 (f := .glo "law") rfl)
    b_abs := He.free_ok X G (ft.fact 16 (f := .free "abs") rfl), b_all := He.free_ok X G (ft.fact 17 (f := .free "all") rfl), b_any := He.free_ok X G (ft.fact 18 (f := .free "any") rfl)
    b_enumerate := He.free_ok X G (ft.fact 19 (f := .free "enumerate") rfl), b_int := He.free_ok X G (ft.fact 20 (f := .free "int") rfl), b_isinstance := He.free_ok X G (ft.fact 21 (f := .free "isinstance") rfl)
    b_len := He.free_ok X G (ft.fact 22 (f := .free "len") rfl), b_list := He.free_ok X G (ft.fact 23 (f := .free "list") rfl), b_range := He.free_ok X G (ft.fact 24 (f := .free "range") rfl)
    b_str := He.free_ok X G (ft.fact 25 (f := .free "str") rfl), b_tuple := He.free_ok X G (ft.fact 26 (f := .free "tuple") rfl)
    c_MOST_DEPTH := He.int_ok X G (ft.fact 13 (f := .int "MOST_DEPTH" 40) rfl), c_MOST_TEXT := He.int_ok X G (ft.fact 14 (f := .int "MOST_TEXT" 20000) rfl)
    sol := aS K, d_TextError := aT K, a_TextError := aT K, aI_TextError := sT.f K, a0 := sS.f K, ifd_TextError := fd1, g_TextError := gT, t_TextError := tT, ib_TextError := b1
    i_TextError := fun w base => ok_T S1 hsuper (ok_S S0 hsuper) b0 t0 e4
    s_TextError := fun y b C h1 h2 => by
      obtain ⟨rfl, rfl⟩ := only h1
      rw [gT] at h2
      cases h2
      exact He.exm_ok (ft.fact 15 (f := .exm "TextError" "TextError" true) rfl)
    x_code := fun y C h1 h2 => by
      obtain ⟨rfl, _⟩ := only h1
      rw [gT] at h2
      cases h2
      exact ⟨xfB_ok e6, tT.noc⟩
    x_place := fun y C h1 h2 => by
      obtain ⟨rfl, _⟩ := only h1
      rw [gT] at h2
      cases h2
      exact ⟨xfB_ok e6, tT.non⟩ }, rfl⟩
end
end K15
/-! k15: the end -/
open PySem PySem.W PySem.Calls PyProof.Rows
theorem PySem.Challenge.cw_answerandproof_k15_texts_of_lists_holds : PySem.Challenge.rw_answerandproof_k15_texts_of_lists.Holds := by
  w_on; o_law
  refine HandSHeadRun.head_any (r := OpenLaw.row PySem.Challenge.rw_answerandproof_k15_texts_of_lists) (q := view (OpenLaw.row PySem.Challenge.rw_answerandproof_k15_texts_of_lists).prog [18]) (H := DL.hookO 5 K15.fa K15.fn K15.su K15.ex) (ob := DL.obO 5 K15.fa K15.fn K15.su K15.ex) (M := 2000) (loose := K15.loose) (d := HandSHeadRun.topDef (OpenLaw.row PySem.Challenge.rw_answerandproof_k15_texts_of_lists).prog 18) (kwd := []) DL.obO_eq
    (by kernel_rfl) (fun s => by kernel_rfl) K15.run (by kernel_rfl) (by kernel_rfl) (by kernel_rfl) (by rfl) (by first | assumption | decide +kernel) (by decide +kernel) ⟨rfl, rfl, rfl, rfl, rfl, by decide +kernel⟩ ?hw ?hc
  case hw => w_witness2
  case hc =>
    refine DL.walk_ofW (l := PySem.Challenge.rw_answerandproof_k15_texts_of_lists) (n := 63) (k := 9) (x := "script") rfl (by decide) (by kernel_rfl) ⟨rfl, by decide, by decide⟩ ?F
    intro w mg fa h Y G hmg0
    obtain ⟨K, KX, c⟩ := Y
    have hmg : mg ("law" : PySem.Str) = some (.ref fa) := by
      have e : (HandSHeadRun.topDef (OpenLaw.row PySem.Challenge.rw_answerandproof_k15_texts_of_lists).prog 18).name = ("law" : PySem.Str) := by kernel_rfl
      rw [← e]
      exact hmg0
    obtain ⟨F, eF⟩ := K15.fx KX G c
    have ea : F.a_law = fa := by
      have e := F.g_law.symm.trans hmg
      cases e
      rfl
    subst ea
    exact ⟨K, F.fd_law, DL.spOf ⟨K, mg⟩ 1 K15.f_law, KX, fun s u => DL.fun_binds F.F_law (ps := ["script"]) (fun _ _ _ _ _ _ us hl => match us, hl with | [_], _ => rfl) s [u] rfl, fun H a ns hl _ hS => by
      obtain ⟨S', e⟩ := K15.plain ns hl
      exact DL.law_sp c.nl hS e, fun base _ _ => (K15.ok_law F).ok⟩
