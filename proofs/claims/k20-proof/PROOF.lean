import PyProof.Rows.All
import Wide.All
import OpenK.AllK
import Wide.FinOn
import HandS.ForMost
import HandS.Exc
import HandS.WordsExc
import HandS.CallSlots
import HandS.TryOnly
import HandS.ExcCtx
import HandS.HotCalls
import HandS.RaiseFrom
import HandS.ExcIs
import HandS.DictComp
import HandS.TupLen
import HandS.TupMul
import HandS.IsInst
import HandS.ExcOwn
import KE.GoesMore
import HandS.RaiseMore
import KE.KExcSuper
import KE.KSuper
import HandS.ClsMeth
import HandS.ExcInit
import HandS.ExcField
import HandS.Nested
import HandS.HeadHook3
import KE.KDictOf
import KE.KStateDown
import HandS.Head0
import HandS.Head1
import HandS.Head2
import HandS.HeadHook1
import HandS.HeadHook2
import HandS.HeadHook4
import HandS.HeadNt
import HandS.HeadEnd
import PySem.Challenge.RW_answerandproof_k20_errors_and_their_clas
set_option Elab.async false
set_option linter.all false
set_option maxRecDepth 100000
set_option maxHeartbeats 0
/-! A layer of data over HandS: what a def computes, as a Lean function over trees and a store; and that the def does so. -/
namespace DL
open PySem PySem.Spec L2

inductive D where
  | non | bl (b : Bool) | int (i : Int) | str (x : Str) | ref (n : Nat) | tup (xs : List D) | lst (xs : List D) | opq
deriving Inhabited

inductive O where
  | lst (xs : List D)
  | dK (lk : Bool) (kvs : List (Key × D))
  | ins (c : Str) (fs : List (Str × D))
  | dT (kvs : List (List Key × D))
  | exn (c : Str)
deriving Inhabited
abbrev Store := List O
structure Ex where
  cls : Str
  fs : List (Str × D)
inductive R (α : Type) where
  | ok (a : α) (S : Store) | exc (x : Ex) (S : Store) | bad
abbrev DEnv := List (Option D)
abbrev DE := DEnv → Store → R D
abbrev DA := DEnv → Store → R (List D)
abbrev DT := DEnv → Store → R Bool
inductive F where
  | nx (δ : DEnv) (S : Store) | rt (d : D) (S : Store) | bk (δ : DEnv) (S : Store) | ct (δ : DEnv) (S : Store) | exc (x : Ex) (δ : DEnv) (S : Store) | bad
abbrev DS := DEnv → Store → F
abbrev DM := List D → Store → R D

/-! ### what a tree is in the heap -/
mutual
def VR (K : PySem.W.Frag) (ρ : List Addr) (H : Hp) : D → V → Prop
  | .non, v => v = .non
  | .bl b, v => v = .bl b
  | .int i, v => v = .int i
  | .str x, v => v = .str x
  | .opq, _ => True
  | .ref n, v => ∃ a, ρ[n]? = some a ∧ v = .ref a
  | .tup ds, v => ∃ a vs, v = .ref a ∧ H a = some (.tup vs) ∧ VRs K ρ H ds vs
  | .lst ds, v => ∃ a vs, v = .ref a ∧ Rd H a (.lst vs) ∧ a ∉ ρ ∧ VRs K ρ H ds vs
def VRs (K : PySem.W.Frag) (ρ : List Addr) (H : Hp) : List D → List V → Prop
  | [], vs => vs = []
  | d :: ds, vs => ∃ v ws, vs = v :: ws ∧ VR K ρ H d v ∧ VRs K ρ H ds ws
end

def KVR (K : PySem.W.Frag) (ρ : List Addr) (H : Hp) {κ : Type} : List (κ × D) → List (κ × V) → Prop
  | [], vs => vs = []
  | (k, d) :: ds, vs => ∃ v ws, vs = (k, v) :: ws ∧ VR K ρ H d v ∧ KVR K ρ H ds ws

/-- the world of a text: what is written, and what its names hold -/
structure Wd where
  K : PySem.W.Frag
  mg : Str → Option Value

def OR (Ω : Wd) (ρ : List Addr) (H : Hp) (a : Addr) : O → Prop
  | .lst ds => ∃ vs, H a = some (.lst vs) ∧ VRs Ω.K ρ H ds vs
  | .dK lk kvs => ∃ kv, KVR Ω.K ρ H kvs kv ∧ (lk = false → H a = some (.dK kv)) ∧ (lk = true → ∃ o, H a = some (.frz o (.dK kv)))
  | .ins c fs => ∃ C dx fv, Ω.mg c = some (.ref C) ∧ H a = some (.ins C dx fv) ∧ KVR Ω.K ρ H fs fv
  | .dT kvs => ∃ kv, KVR Ω.K ρ H kvs kv ∧ H a = some (.dT kv)
  | .exn c => ∃ C oe u, Ω.mg c = some (.ref C) ∧ H a = some (.frz oe (.ext u)) ∧ oe.cls = .ref C ∧ ∃ vs, oe.data = .fields vs

/-- what may stand at an address of the store -/
def Mv : Option HO → Prop
  | some (.lst _) => True
  | some (.dK _) => True
  | some (.frz _ (.dK _)) => True
  | some (.ins _ _ _) => True
  | some (.dT _) => True
  | some (.frz _ (.ext _)) => True
  | _ => False

structure Rel (Ω : Wd) (ρ : List Addr) (H : Hp) (S : Store) : Prop where
  len : ρ.length = S.length
  nd : ρ.Nodup
  ob : ∀ (n : Nat) (a : Addr) (o : O), ρ[n]? = some a → S[n]? = some o → OR Ω ρ H a o

def RelS (K : PySem.W.Frag) (ρ : List Addr) (H : Hp) : DEnv → St → Prop
  | [], σ => σ = []
  | d :: δ, σ => ∃ v σ', σ = v :: σ' ∧ (∀ x, d = some x → ∃ y, v = some y ∧ VR K ρ H x y) ∧ RelS K ρ H δ σ'

structure Step (ρ : List Addr) (H : Hp) (ρ' : List Addr) (H' : Hp) : Prop where
  pre : ρ <+: ρ'
  keep : ∀ a o, H a = some o → a ∉ ρ → H' a = some o
  new : ∀ a ∈ ρ', a ∉ ρ → H a = none
  frz : ∀ a o u, H a = some (.frz o u) → H' a = some (.frz o u)

/-- without the frozen ones -/
structure StepW (ρ : List Addr) (H : Hp) (ρ' : List Addr) (H' : Hp) : Prop where
  pre : ρ <+: ρ'
  keep : ∀ a o, H a = some o → a ∉ ρ → H' a = some o
  new : ∀ a ∈ ρ', a ∉ ρ → H a = none
theorem Step.w {ρ ρ' : List Addr} {H H' : Hp} (s : Step ρ H ρ' H') : StepW ρ H ρ' H' := ⟨s.pre, s.keep, s.new⟩

theorem Step.refl {ρ : List Addr} {H : Hp} : Step ρ H ρ H := ⟨List.prefix_rfl, fun _ _ h _ => h, fun _ h n => absurd h n, fun _ _ _ h => h⟩
theorem Step.trans {ρ ρ1 ρ2 : List Addr} {H H1 H2 : Hp} (a : Step ρ H ρ1 H1) (b : Step ρ1 H1 ρ2 H2) : Step ρ H ρ2 H2 where
  pre := a.pre.trans b.pre
  keep := fun x o h n => b.keep x o (a.keep x o h n) fun m => by
    have := a.new x m n
    rw [h] at this; cases this
  new := fun x m n => by
    by_cases h : x ∈ ρ1
    · exact a.new x h n
    · have h1 := b.new x m h
      cases e : H x with
      | none => rfl
      | some o => rw [a.keep x o e n] at h1; cases h1
  frz := fun x o u h => b.frz x o u (a.frz x o u h)

theorem OR.mv {Ω : Wd} {ρ : List Addr} {H : Hp} {a : Addr} {o : O} (h : OR Ω ρ H a o) : Mv (H a) := by
  cases o with
  | lst ds => obtain ⟨vs, e, _⟩ := h; rw [e]; trivial
  | dK lk kvs =>
    obtain ⟨kv, _, e1, e2⟩ := h
    cases lk with
    | false => rw [e1 rfl]; trivial
    | true => obtain ⟨o, e⟩ := e2 rfl; rw [e]; trivial
  | ins c fs => obtain ⟨C, dx, fv, _, e, _⟩ := h; rw [e]; trivial
  | dT kvs => obtain ⟨kv, _, e⟩ := h; rw [e]; trivial
  | exn c => obtain ⟨C, oe, u, _, e, _⟩ := h; rw [e]; trivial
theorem Rel.mv {Ω : Wd} {ρ : List Addr} {H : Hp} {S : Store} (r : Rel Ω ρ H S) {a : Addr} (h : a ∈ ρ) : Mv (H a) := by
  obtain ⟨n, hn⟩ := List.getElem?_of_mem h
  have hl : n < S.length := by rw [← r.len]; exact (List.getElem?_eq_some_iff.mp hn).1
  exact (r.ob n a S[n] hn (List.getElem?_eq_getElem hl)).mv

theorem Step.sqT {K : PySem.W.Frag} {ρ ρ' : List Addr} {H H' : Hp} (s : Step ρ H ρ' H') (m : ∀ a ∈ ρ, Mv (H a)) {a : Addr} {vs : List V} (h : SqT K H a vs) : SqT K H' a vs := by
  rcases h with (h | ⟨o, h⟩) | h
  · exact .inl (.inl (s.keep a _ h fun hm => by have := m a hm; rw [h] at this; exact this))
  · exact .inl (.inr ⟨o, s.keep a _ h fun hm => by have := m a hm; rw [h] at this; exact this⟩)
  · exact .inr h
theorem StepW.rd {ρ ρ' : List Addr} {H H' : Hp} (s : StepW ρ H ρ' H') {a : Addr} (ha : a ∉ ρ) {u : HO} (h : Rd H a u) : Rd H' a u := by
  rcases h with h | ⟨o, h⟩
  · exact .inl (s.keep a _ h ha)
  · exact .inr ⟨o, s.keep a _ h ha⟩
/-- an address that is read as a list stays out of the store -/
theorem StepW.out {ρ ρ' : List Addr} {H H' : Hp} (s : StepW ρ H ρ' H') {a : Addr} (ha : a ∉ ρ) {u : HO} (h : Rd H a u) : a ∉ ρ' := fun hm => by
  have n := s.new a hm ha
  rcases h with h | ⟨o, h⟩ <;> (rw [h] at n; cases n)
mutual
theorem VR.monoW {K : PySem.W.Frag} {ρ ρ' : List Addr} {H H' : Hp} (s : StepW ρ H ρ' H') (m : ∀ a ∈ ρ, Mv (H a)) : ∀ (d : D) (v : V), VR K ρ H d v → VR K ρ' H' d v
  | .non, v, h => h
  | .bl _, v, h => h
  | .int _, v, h => h
  | .str _, v, h => h
  | .opq, v, h => h
  | .ref n, v, ⟨a, e, h⟩ => ⟨a, by
      obtain ⟨t, rfl⟩ := s.pre
      rw [List.getElem?_append_left (List.getElem?_eq_some_iff.mp e).1]; exact e, h⟩
  | .tup ds, v, ⟨a, vs, e, h, r⟩ => ⟨a, vs, e, s.keep a _ h (fun hm => by have := m a hm; rw [h] at this; exact this), VRs.monoW s m ds vs r⟩
  | .lst ds, v, ⟨a, vs, e, h, n, r⟩ => ⟨a, vs, e, s.rd n h, s.out n h, VRs.monoW s m ds vs r⟩
theorem VRs.monoW {K : PySem.W.Frag} {ρ ρ' : List Addr} {H H' : Hp} (s : StepW ρ H ρ' H') (m : ∀ a ∈ ρ, Mv (H a)) : ∀ (ds : List D) (vs : List V), VRs K ρ H ds vs → VRs K ρ' H' ds vs
  | [], vs, h => h
  | d :: ds, vs, ⟨v, ws, e, h, r⟩ => ⟨v, ws, e, VR.monoW s m d v h, VRs.monoW s m ds ws r⟩
end
theorem Step.rd {ρ ρ' : List Addr} {H H' : Hp} (s : Step ρ H ρ' H') {a : Addr} (ha : a ∉ ρ) {u : HO} (h : Rd H a u) : Rd H' a u := s.w.rd ha h
theorem Step.out {ρ ρ' : List Addr} {H H' : Hp} (s : Step ρ H ρ' H') {a : Addr} (ha : a ∉ ρ) {u : HO} (h : Rd H a u) : a ∉ ρ' := s.w.out ha h
theorem VR.mono {K : PySem.W.Frag} {ρ ρ' : List Addr} {H H' : Hp} (s : Step ρ H ρ' H') (m : ∀ a ∈ ρ, Mv (H a)) (d : D) (v : V) (h : VR K ρ H d v) : VR K ρ' H' d v := VR.monoW s.w m d v h
theorem VRs.mono {K : PySem.W.Frag} {ρ ρ' : List Addr} {H H' : Hp} (s : Step ρ H ρ' H') (m : ∀ a ∈ ρ, Mv (H a)) (ds : List D) (vs : List V) (h : VRs K ρ H ds vs) : VRs K ρ' H' ds vs := VRs.monoW s.w m ds vs h
end DL
namespace DL
open PySem PySem.Spec L2

theorem Rel.vr {Ω : Wd} {ρ ρ' : List Addr} {H H' : Hp} {S : Store} (r : Rel Ω ρ H S) (s : Step ρ H ρ' H') {d : D} {v : V} (h : VR Ω.K ρ H d v) : VR Ω.K ρ' H' d v := VR.mono s (fun a m => r.mv m) d v h
theorem Rel.vrs {Ω : Wd} {ρ ρ' : List Addr} {H H' : Hp} {S : Store} (r : Rel Ω ρ H S) (s : Step ρ H ρ' H') {d : List D} {v : List V} (h : VRs Ω.K ρ H d v) : VRs Ω.K ρ' H' d v := VRs.mono s (fun a m => r.mv m) d v h
theorem KVR.monoW {K : PySem.W.Frag} {ρ ρ' : List Addr} {H H' : Hp} {κ : Type} (s : StepW ρ H ρ' H') (m : ∀ a ∈ ρ, Mv (H a)) : ∀ (ds : List (κ × D)) (vs : List (κ × V)), KVR K ρ H ds vs → KVR K ρ' H' ds vs
  | [], vs, h => h
  | (k, d) :: ds, vs, ⟨v, ws, e, h, r⟩ => ⟨v, ws, e, VR.monoW s m d v h, KVR.monoW s m ds ws r⟩
theorem KVR.mono {K : PySem.W.Frag} {ρ ρ' : List Addr} {H H' : Hp} {κ : Type} (s : Step ρ H ρ' H') (m : ∀ a ∈ ρ, Mv (H a)) (ds : List (κ × D)) (vs : List (κ × V)) (h : KVR K ρ H ds vs) : KVR K ρ' H' ds vs := KVR.monoW s.w m ds vs h
theorem Rel.kvr {Ω : Wd} {ρ ρ' : List Addr} {H H' : Hp} {S : Store} (r : Rel Ω ρ H S) (s : Step ρ H ρ' H') {κ : Type} {d : List (κ × D)} {v : List (κ × V)} (h : KVR Ω.K ρ H d v) : KVR Ω.K ρ' H' d v := KVR.mono s (fun a m => r.mv m) d v h
theorem RelS.mono {K : PySem.W.Frag} {ρ ρ' : List Addr} {H H' : Hp} (s : Step ρ H ρ' H') (m : ∀ a ∈ ρ, Mv (H a)) : ∀ (δ : DEnv) (σ : St), RelS K ρ H δ σ → RelS K ρ' H' δ σ
  | [], σ, h => h
  | d :: δ, σ, ⟨v, σ', e, h, r⟩ => ⟨v, σ', e, fun x hx => let ⟨y, e, q⟩ := h x hx; ⟨y, e, VR.mono s m x y q⟩, RelS.mono s m δ σ' r⟩
theorem Rel.rs {Ω : Wd} {ρ ρ' : List Addr} {H H' : Hp} {S : Store} (r : Rel Ω ρ H S) (s : Step ρ H ρ' H') {δ : DEnv} {σ : St} (h : RelS Ω.K ρ H δ σ) : RelS Ω.K ρ' H' δ σ := RelS.mono s (fun a m => r.mv m) δ σ h
theorem RelS.get {K : PySem.W.Frag} {ρ : List Addr} {H : Hp} : ∀ {δ : DEnv} {σ : St} {i : Nat} {d : D}, RelS K ρ H δ σ → δ[i]? = some (some d) → ∃ v, σ[i]? = some (some v) ∧ VR K ρ H d v
  | [], _, _, _, _, e => by simp at e
  | x :: δ, σ, 0, d, ⟨v, σ', e, h, r⟩, q => by
    simp at q; subst q
    obtain ⟨y, rfl, z⟩ := h d rfl
    exact ⟨y, by rw [e]; rfl, z⟩
  | x :: δ, σ, i + 1, d, ⟨v, σ', e, h, r⟩, q => by
    obtain ⟨y, z, w⟩ := RelS.get (i := i) r (by simpa using q)
    exact ⟨y, by rw [e]; simpa using z, w⟩
theorem RelS.set {K : PySem.W.Frag} {ρ : List Addr} {H : Hp} {d : D} {v : V} (hv : VR K ρ H d v) : ∀ {δ : DEnv} {σ : St} (i : Nat), RelS K ρ H δ σ → RelS K ρ H (δ.set i (some d)) (σ.set i (some v))
  | [], σ, i, h => by cases h; exact rfl
  | x :: δ, σ, 0, ⟨y, σ', e, h, r⟩ => by subst e; exact ⟨some v, σ', rfl, fun z hz => by cases hz; exact ⟨v, rfl, hv⟩, r⟩
  | x :: δ, σ, i + 1, ⟨y, σ', e, h, r⟩ => by subst e; exact ⟨y, σ'.set i (some v), rfl, h, RelS.set hv i r⟩
theorem RelS.wipe1 {K : PySem.W.Frag} {ρ : List Addr} {H : Hp} : ∀ {δ : DEnv} {σ : St} (i : Nat), RelS K ρ H δ σ → RelS K ρ H (δ.set i none) (σ.set i none)
  | [], σ, i, h => by cases h; exact rfl
  | x :: δ, σ, 0, ⟨y, σ', e, h, r⟩ => by subst e; exact ⟨none, σ', rfl, (fun z hz => by cases hz), r⟩
  | x :: δ, σ, i + 1, ⟨y, σ', e, h, r⟩ => by subst e; exact ⟨y, σ'.set i none, rfl, h, RelS.wipe1 i r⟩
theorem VRs.len {K : PySem.W.Frag} {ρ : List Addr} {H : Hp} : ∀ {ds : List D} {vs : List V}, VRs K ρ H ds vs → ds.length = vs.length
  | [], _, h => by cases h; rfl
  | d :: ds, _, ⟨v, ws, e, h, r⟩ => by subst e; simp [VRs.len r]
theorem VRs.get {K : PySem.W.Frag} {ρ : List Addr} {H : Hp} : ∀ {ds : List D} {vs : List V} {i : Nat} {d : D}, VRs K ρ H ds vs → ds[i]? = some d → ∃ v, vs[i]? = some v ∧ VR K ρ H d v
  | [], _, _, _, _, e => by simp at e
  | x :: ds, vs, 0, d, ⟨v, ws, e, h, r⟩, q => by simp at q; subst q; exact ⟨v, by rw [e]; rfl, h⟩
  | x :: ds, vs, i + 1, d, ⟨v, ws, e, h, r⟩, q => by
    obtain ⟨y, z, w⟩ := VRs.get (i := i) r (by simpa using q)
    exact ⟨y, by rw [e]; simpa using z, w⟩
theorem VRs.append {K : PySem.W.Frag} {ρ : List Addr} {H : Hp} : ∀ {ds es : List D} {vs ws : List V}, VRs K ρ H ds vs → VRs K ρ H es ws → VRs K ρ H (ds ++ es) (vs ++ ws)
  | [], _, _, _, h, g => by cases h; exact g
  | x :: ds, es, _, ws, ⟨v, us, e, h, r⟩, g => by subst e; exact ⟨v, us ++ ws, rfl, h, VRs.append r g⟩
theorem VRs.set {K : PySem.W.Frag} {ρ : List Addr} {H : Hp} {d : D} {v : V} (hv : VR K ρ H d v) : ∀ {ds : List D} {vs : List V} (i : Nat), VRs K ρ H ds vs → VRs K ρ H (ds.set i d) (vs.set i v)
  | [], _, _, h => by cases h; exact rfl
  | x :: ds, _, 0, ⟨y, ws, e, h, r⟩ => by subst e; exact ⟨v, ws, rfl, hv, r⟩
  | x :: ds, _, i + 1, ⟨y, ws, e, h, r⟩ => by subst e; exact ⟨y, ws.set i v, rfl, h, VRs.set hv i r⟩
theorem VRs.take {K : PySem.W.Frag} {ρ : List Addr} {H : Hp} : ∀ {ds : List D} {vs : List V} (n : Nat), VRs K ρ H ds vs → VRs K ρ H (ds.take n) (vs.take n)
  | [], _, _, h => by cases h; simp [VRs]
  | x :: ds, _, 0, _ => by simp [VRs]
  | x :: ds, _, n + 1, ⟨v, ws, e, h, r⟩ => by subst e; exact ⟨v, ws.take n, rfl, h, VRs.take n r⟩
theorem VRs.drop {K : PySem.W.Frag} {ρ : List Addr} {H : Hp} : ∀ {ds : List D} {vs : List V} (n : Nat), VRs K ρ H ds vs → VRs K ρ H (ds.drop n) (vs.drop n)
  | [], _, _, h => by cases h; simp [VRs]
  | x :: ds, _, 0, h => h
  | x :: ds, _, n + 1, ⟨v, ws, e, h, r⟩ => by subst e; exact VRs.drop n r

/-! ### lifts -/
def XR (Ω : Wd) (ρ : List Addr) (H : Hp) (x : Ex) (cls : Value) (dd : Option Addr) : Prop :=
  ∃ C d fv, Ω.mg x.cls = some (.ref C) ∧ cls = .ref C ∧ dd = some d ∧ H d = some (.xd fv) ∧ d ∉ ρ ∧ KVR Ω.K ρ H x.fs fv

def LG {α β : Type} (Ω : Wd) (W : WX) (P : List Addr → Hp → α → β → Prop) (r : R α) (ρ : List Addr) (H : Hp) (σ : St) (Q : β → Hp → Prop) : Prop := match r with
  | .ok d S' => ∀ ρ' v H', Step ρ H ρ' H' → Rel Ω ρ' H' S' → P ρ' H' d v → Q v H'
  | .exc x S' => ∀ ρ' cls dd H', Step ρ H ρ' H' → Rel Ω ρ' H' S' → XR Ω ρ' H' x cls dd → W cls dd σ H'
  | .bad => False
theorem LG.shift {α β : Type} {Ω : Wd} {W : WX} {P : List Addr → Hp → α → β → Prop} {r : R α} {ρ ρ1 : List Addr} {H H1 : Hp} {σ : St} {Q : β → Hp → Prop} (s : Step ρ H ρ1 H1) (h : LG Ω W P r ρ H σ Q) : LG Ω W P r ρ1 H1 σ Q := by
  cases r with
  | ok d S' => exact fun ρ' v H' t => h ρ' v H' (s.trans t)
  | exc x S' => exact fun ρ' c d H' t => h ρ' c d H' (s.trans t)
  | bad => exact h
def R.bind {α β : Type} (r : R α) (k : α → Store → R β) : R β := match r with
  | .ok a S => k a S
  | .exc x S => .exc x S
  | .bad => .bad
/-- a part is read, then the rest -/
theorem LG.bind {α β γ δ : Type} {Ω : Wd} {W : WX} {P : List Addr → Hp → α → γ → Prop} {P' : List Addr → Hp → β → δ → Prop} {r : R α} {k : α → Store → R β} {ρ : List Addr} {H : Hp} {σ : St} {Q : δ → Hp → Prop} {Q1 : γ → Hp → Prop}
    (h : LG Ω W P' (r.bind k) ρ H σ Q) (q : ∀ ρ1 x S1 v H1, Step ρ H ρ1 H1 → Rel Ω ρ1 H1 S1 → P ρ1 H1 x v → LG Ω W P' (k x S1) ρ1 H1 σ Q → Q1 v H1) : LG Ω W P r ρ H σ Q1 := by
  cases r with
  | ok d S' => exact fun ρ' v H' s t p => q ρ' d S' v H' s t p (LG.shift s h)
  | exc x S' => exact h
  | bad => exact h
abbrev PVR (Ω : Wd) : List Addr → Hp → D → V → Prop := fun ρ H d v => VR Ω.K ρ H d v
abbrev PVRs (Ω : Wd) : List Addr → Hp → List D → List V → Prop := fun ρ H d v => VRs Ω.K ρ H d v
abbrev PB : List Addr → Hp → Bool → Bool → Prop := fun _ _ b c => b = c
def LE (Ω : Wd) (W : WX) (f : DE) : TE := fun σ H Q => ∃ ρ δ S, Rel Ω ρ H S ∧ RelS Ω.K ρ H δ σ ∧ LG Ω W (PVR Ω) (f δ S) ρ H σ Q
def LA (Ω : Wd) (W : WX) (f : DA) : TA := fun σ H Q => ∃ ρ δ S, Rel Ω ρ H S ∧ RelS Ω.K ρ H δ σ ∧ LG Ω W (PVRs Ω) (f δ S) ρ H σ Q
def LT (Ω : Wd) (W : WX) (f : DT) : TT := fun σ H Q => ∃ ρ δ S, Rel Ω ρ H S ∧ RelS Ω.K ρ H δ σ ∧ LG Ω W PB (f δ S) ρ H σ Q
def LF (Ω : Wd) (W : WX) (r : F) (ρ : List Addr) (H : Hp) (E : Ends) : Prop := match r with
  | .nx δ' S' => ∀ ρ' σ' H', Step ρ H ρ' H' → Rel Ω ρ' H' S' → RelS Ω.K ρ' H' δ' σ' → E.nx σ' H'
  | .bk δ' S' => ∀ ρ' σ' H', Step ρ H ρ' H' → Rel Ω ρ' H' S' → RelS Ω.K ρ' H' δ' σ' → E.bk σ' H'
  | .ct δ' S' => ∀ ρ' σ' H', Step ρ H ρ' H' → Rel Ω ρ' H' S' → RelS Ω.K ρ' H' δ' σ' → E.ct σ' H'
  | .rt d S' => ∀ ρ' v H', Step ρ H ρ' H' → Rel Ω ρ' H' S' → VR Ω.K ρ' H' d v → E.rt v H'
  | .exc x δ' S' => ∀ ρ' cls dd σ' H', Step ρ H ρ' H' → Rel Ω ρ' H' S' → RelS Ω.K ρ' H' δ' σ' → XR Ω ρ' H' x cls dd → W cls dd σ' H'
  | .bad => False
theorem LF.shift {Ω : Wd} {W : WX} {r : F} {ρ ρ1 : List Addr} {H H1 : Hp} {E : Ends} (s : Step ρ H ρ1 H1) (h : LF Ω W r ρ H E) : LF Ω W r ρ1 H1 E := by
  cases r with
  | nx δ' S' => exact fun ρ' a b t => h ρ' a b (s.trans t)
  | bk δ' S' => exact fun ρ' a b t => h ρ' a b (s.trans t)
  | ct δ' S' => exact fun ρ' a b t => h ρ' a b (s.trans t)
  | rt δ' S' => exact fun ρ' a b t => h ρ' a b (s.trans t)
  | exc x δ' S' => exact fun ρ' a b c d t => h ρ' a b c d (s.trans t)
  | bad => exact h
def LS (Ω : Wd) (W : WX) (f : DS) : TS := fun E σ H => ∃ ρ δ S, Rel Ω ρ H S ∧ RelS Ω.K ρ H δ σ ∧ LF Ω W (f δ S) ρ H E
end DL
namespace DL
open PySem PySem.Spec L2
/-! ### a list that is being made is hidden meanwhile -/
def del (H : Hp) (p : Addr) : Hp := fun b => if b = p then none else H b
theorem del_same {H : Hp} {p : Addr} : del H p p = none := if_pos rfl
theorem del_ne {H : Hp} {p b : Addr} (h : b ≠ p) : del H p b = H b := if_neg h
theorem del_some {H : Hp} {p b : Addr} {o : HO} (h : del H p b = some o) : b ≠ p ∧ H b = some o := by
  unfold del at h
  split at h
  · cases h
  · exact ⟨by assumption, h⟩
theorem upd_del {H : Hp} {p : Addr} {o : HO} (h : H p = some o) : upd (del H p) p o = H := by
  funext b
  unfold upd del
  split
  · rename_i e; rw [e, h]
  · rfl
section
variable {X : Cx} {pins : List (Addr × Obj)} {σ : St} {H : Hp} {s : Shared} {p : Addr} {xs : List V}
theorem ObjOk.del {P : Program} {w : World} {h : Heap} (e : H p = some (.lst xs)) : ∀ {u : HO} {b : Addr}, ObjOk P w H h b u → ObjOk P w (del H p) h b u
  | .lst _, _, x => x
  | .tup _, _, x => x
  | .dK _, _, x => x
  | .dT kvs, _, ⟨a, b, ys, c, d⟩ => ⟨a, b, ys, L2.Paired.mapP c fun q r ⟨e1, e2, e3⟩ => ⟨e1, by rw [del_ne (fun z => by rw [z, e] at e2; cases e2)]; exact e2, e3⟩, d⟩
  | .set _ _, _, x => x
  | .ins C dx fs, _, ⟨a, b, c, d, f⟩ => ⟨by rw [del_ne (fun z => by rw [z, e] at a; cases a)]; exact a, b, c, d, f⟩
  | .own _, _, x => x
  | .xd _, _, x => x
  | .met _ _, _, x => x
  | .rng _ _, _, x => x
  | .frz o u, _, ⟨a, b⟩ => ⟨a, ObjOk.del e b⟩
  | .tbl _, _, x => x
  | .ext _, _, x => x
theorem ObjOk.track {P : Program} {w : World} {h : Heap} {o : HO} (e : H p = none) : ∀ {u : HO} {b : Addr}, ObjOk P w H h b u → ObjOk P w (upd H p o) h b u
  | .lst _, _, x => x
  | .tup _, _, x => x
  | .dK _, _, x => x
  | .dT kvs, _, ⟨a, b, ys, c, d⟩ => ⟨a, b, ys, L2.Paired.mapP c fun q r ⟨e1, e2, e3⟩ => ⟨e1, by rw [upd_ne (ne_of_none e2 e)]; exact e2, e3⟩, d⟩
  | .set _ _, _, x => x
  | .ins C dx fs, _, ⟨a, b, c, d, f⟩ => ⟨by rw [upd_ne (ne_of_none a e)]; exact a, b, c, d, f⟩
  | .own _, _, x => x
  | .xd _, _, x => x
  | .met _ _, _, x => x
  | .rng _ _, _, x => x
  | .frz o u, _, ⟨a, b⟩ => ⟨a, ObjOk.track e b⟩
  | .tbl _, _, x => x
  | .ext _, _, x => x
theorem inv_old (I : Inv X pins σ H s) {u : HO} (e : H p = some u) {o : Obj} (h : X.s_0.heap.get? p = some o) : X.H_0 p ≠ none ∨ p ∈ X.ex := by
  by_cases hx : p ∈ X.ex
  · exact .inr hx
  · exact .inl fun z => by have := I.base.free p o h z hx; rw [e] at this; cases this
/-- the list at p is not told, but pinned -/
theorem inv_hide (I : Inv X pins σ H s) (e : H p = some (.lst xs)) : ∃ o : Obj, Inv X ((p, o) :: pins) σ (del H p) s ∧ xs.length ≤ sizeLine ∧ ∃ (its : List Value) (n : Nat), Vals xs its ∧ o = { cls := .type "list", data := .seq its.toArray n } := by
  obtain ⟨hz, its, n, hv, ho⟩ := I.hok p _ e
  refine ⟨_, ?_, hz, its, n, hv, rfl⟩
  have np : p ≠ X.env.locals := fun z => by have := I.free; rw [← z, e] at this; cases this
  refine ⟨I.ok, I.os, I.bare, ?_, I.loc, I.cell, by rw [del_ne np.symm]; exact I.free, fun x c h => ?_, fun q hq => ?_, fun b u hb => ?_, I.len⟩
  · have B := I.base
    refine ⟨B.keep, B.slot, fun b o h1 h2 h3 => ?_, B.there, fun b ys h => ?_, fun b o u h => ?_, fun b ps h => ?_⟩
    · by_cases hb : b = p
      · rw [hb]; exact del_same
      · rw [del_ne hb]; exact B.free b o h1 h2 h3
    · have := B.tups b ys h
      rw [del_ne (fun z => by rw [z, e] at this; cases this)]; exact this
    · have := B.frzs b o u h
      rw [del_ne (fun z => by rw [z, e] at this; cases this)]; exact this
    · obtain ⟨m, this⟩ := B.tbls b ps h
      exact ⟨m, by rw [del_ne (fun z => by rw [z, e] at this; cases this)]; exact this⟩
  · have := I.freeC x c h
    rw [del_ne (fun z => by rw [z, e] at this; cases this)]; exact this
  · rcases List.mem_append.mp hq with hq | hq
    · obtain ⟨a, b, c⟩ := I.pin q (List.mem_append_left _ hq)
      exact ⟨a, by rw [del_ne (fun z => by rw [z, e] at b; cases b)]; exact b, c⟩
    · rcases List.mem_cons.mp hq with rfl | hq
      · refine ⟨ho, del_same, np, fun hm => ?_, fun v => by intro z; cases z⟩
        obtain ⟨_, o, ho', _⟩ := I.ok.funs.mem hm
        have := I.base.free p o ho' (I.ok.frf p hm) fun z => I.ok.exfs p z hm
        rw [e] at this; cases this
      · obtain ⟨a, b, c⟩ := I.pin q (List.mem_append_right _ hq)
        exact ⟨a, by rw [del_ne (fun z => by rw [z, e] at b; cases b)]; exact b, c⟩
  · obtain ⟨_, h2⟩ := del_some hb
    exact ObjOk.del e (I.hok b u h2)
theorem inv_unhide {o : Obj} {its : List Value} {n : Nat} (I : Inv X ((p, o) :: pins) σ H s) (old : ∀ o, X.s_0.heap.get? p = some o → X.H_0 p = none → p ∉ X.ex → False) (npin : ∀ q ∈ X.pn ++ pins, q.1 ≠ p) (hz : xs.length ≤ sizeLine) (hv : Vals xs its) (ho : o = { cls := .type "list", data := .seq its.toArray n }) :
    Inv X pins σ (upd H p (.lst xs)) s ∧ H p = none := by
  obtain ⟨g, e, np, nf, nc⟩ := I.pin (p, o) (List.mem_append_right _ List.mem_cons_self)
  have g : s.heap.get? p = some o := g
  have e : H p = none := e
  have np : p ≠ X.env.locals := np
  refine ⟨⟨I.ok, I.os, I.bare, ?_, I.loc, I.cell, by rw [upd_ne np.symm]; exact I.free, fun x c h => ?_, fun q hq => ?_, fun b u hb => ?_, I.len⟩, e⟩
  · have B := I.base
    refine ⟨B.keep, B.slot, fun b o h1 h2 h3 => ?_, B.there, fun b ys h => ?_, fun b o u h => ?_, fun b ps h => ?_⟩
    · by_cases hb : b = p
      · subst hb; exact (old o h1 h2 h3).elim
      · rw [upd_ne hb]; exact B.free b o h1 h2 h3
    · have := B.tups b ys h
      rw [upd_ne (ne_of_none this e)]; exact this
    · have := B.frzs b o u h
      rw [upd_ne (ne_of_none this e)]; exact this
    · obtain ⟨m, this⟩ := B.tbls b ps h
      exact ⟨m, by rw [upd_ne (ne_of_none this e)]; exact this⟩
  · have := I.freeC x c h
    rw [upd_ne (fun z => ?_)]; exact this
    obtain ⟨v, q⟩ := I.cell x c h
    obtain ⟨oc, h1, h2⟩ := q
    rw [z, g] at h1; cases h1
    exact nc _ h2
  · have hn := npin q hq
    have hq' : q ∈ X.pn ++ (p, o) :: pins := by
      rcases List.mem_append.mp hq with hq | hq
      · exact List.mem_append_left _ hq
      · exact List.mem_append_right _ (List.mem_cons_of_mem _ hq)
    obtain ⟨a, b, c⟩ := I.pin q hq'
    exact ⟨a, by rw [upd_ne hn]; exact b, c⟩
  · by_cases hb' : b = p
    · subst hb'
      rw [upd_same] at hb; cases hb
      exact ⟨hz, its, n, hv, by rw [g, ho]⟩
    · rw [upd_ne hb'] at hb
      exact ObjOk.track e (I.hok b u hb)
/-- what hiding asks of the place -/
theorem inv_place (I : Inv X pins σ H s) (e : H p = some (.lst xs)) : (∀ o, X.s_0.heap.get? p = some o → X.H_0 p = none → p ∉ X.ex → False) ∧ ∀ q ∈ X.pn ++ pins, q.1 ≠ p :=
  And.intro (fun o h1 h2 h3 => by
    have := I.base.free p o h1 h2 h3
    rw [e] at this; cases this) fun q hq z => by
    obtain ⟨_, b, _⟩ := I.pin q hq
    rw [z, e] at b; cases b
variable {e : Expr} {es : List Expr}
theorem pe_hide {t : TE} (h : PE X e t) : PE X e (fun σ H Q => ∃ p xs, H p = some (.lst xs) ∧ t σ (del H p) fun v H' => H' p = none → Q v (upd H' p (.lst xs))) :=
  ⟨fun pins s σ H Q I ⟨p, xs, e, q⟩ => by
    obtain ⟨o, I', hz, its, n, hv, ho⟩ := inv_hide I e
    obtain ⟨h1, h2⟩ := inv_place I e
    refine thn (h.run _ s σ _ _ I' q) fun u s' ⟨v, H', I2, r, q2⟩ => ?_
    obtain ⟨I3, e3⟩ := inv_unhide I2 h1 h2 hz hv ho
    exact ⟨v, _, I3, r, q2 e3⟩⟩
theorem pt_hide {t : TT} (h : PT X e t) : PT X e (fun σ H Q => ∃ p xs, H p = some (.lst xs) ∧ t σ (del H p) fun v H' => H' p = none → Q v (upd H' p (.lst xs))) :=
  ⟨fun pins s σ H Q I ⟨p, xs, e, q⟩ => by
    obtain ⟨o, I', hz, its, n, hv, ho⟩ := inv_hide I e
    obtain ⟨h1, h2⟩ := inv_place I e
    refine thn (h.run _ s σ _ _ I' q) fun u s' ⟨H', I2, q2⟩ => ?_
    obtain ⟨I3, e3⟩ := inv_unhide I2 h1 h2 hz hv ho
    exact ⟨_, I3, q2 e3⟩⟩
theorem pts_hide {t : TT} (h : PTs X es t) : PTs X es (fun σ H Q => ∃ p xs, H p = some (.lst xs) ∧ t σ (del H p) fun v H' => H' p = none → Q v (upd H' p (.lst xs))) :=
  ⟨fun pins s σ H Q I ⟨p, xs, e, q⟩ => by
    obtain ⟨o, I', hz, its, n, hv, ho⟩ := inv_hide I e
    obtain ⟨h1, h2⟩ := inv_place I e
    refine thn (h.run _ s σ _ _ I' q) fun u s' ⟨H', I2, q2⟩ => ?_
    obtain ⟨I3, e3⟩ := inv_unhide I2 h1 h2 hz hv ho
    exact ⟨_, I3, q2 e3⟩⟩
theorem pg_hide {t : TG} (h : PG X e t) : PG X e (fun v σ H Q => ∃ p xs, H p = some (.lst xs) ∧ t v σ (del H p) fun σ' H' => H' p = none → Q σ' (upd H' p (.lst xs))) :=
  ⟨fun pins s σ H v u Q I r ⟨p, xs, e, q⟩ => by
    obtain ⟨o, I', hz, its, n, hv, ho⟩ := inv_hide I e
    obtain ⟨h1, h2⟩ := inv_place I e
    refine thn (h.run _ s σ _ v u _ I' r q) fun _ s' ⟨σ', H', I2, q2⟩ => ?_
    obtain ⟨I3, e3⟩ := inv_unhide I2 h1 h2 hz hv ho
    exact ⟨σ', _, I3, q2 e3⟩⟩
end
end DL
namespace DL
open PySem PySem.Spec L2

theorem pe_imp {X : Cx} {e : Expr} {t t' : TE} (h : PE X e t) (q : ∀ σ H Q, t' σ H Q → t σ H Q) : PE X e t' := ⟨fun pins s σ H Q I a => h.run pins s σ H Q I (q σ H Q a)⟩
theorem pt_imp {X : Cx} {e : Expr} {t t' : TT} (h : PT X e t) (q : ∀ σ H Q, t' σ H Q → t σ H Q) : PT X e t' := ⟨fun pins s σ H Q I a => h.run pins s σ H Q I (q σ H Q a)⟩
theorem pw_imp {X : Cx} {e : Expr} {t t' : TT} (h : L2.PW X e t) (q : ∀ σ H Q, t' σ H Q → t σ H Q) : L2.PW X e t' := ⟨fun wh pins s σ H Q I a => h.run wh pins s σ H Q I (q σ H Q a)⟩
theorem pa_imp {X : Cx} {e : List Expr} {t t' : TA} (h : PA X e t) (q : ∀ σ H Q, t' σ H Q → t σ H Q) : PA X e t' := ⟨fun pos pins s σ H Q I a => h.run pos pins s σ H Q I (q σ H Q a)⟩
theorem ps_imp {X : Cx} {e : Stmt} {t t' : TS} (h : PS X e t) (q : ∀ E σ H, t' E σ H → t E σ H) : PS X e t' := ⟨fun pins s σ H E I a => h.run pins s σ H E I (q E σ H a)⟩
theorem pss_imp {X : Cx} {e : List Stmt} {t t' : TS} (h : PSs X e t) (q : ∀ E σ H, t' E σ H → t E σ H) : PSs X e t' := ⟨fun pins s σ H E I a => h.run pins s σ H E I (q E σ H a)⟩
abbrev om (X : Cx) : Wd := ⟨X.K, X.mg⟩
abbrev JE (X : Cx) (W : WX) (e : Expr) (f : DE) : Prop := PE X e (LE (om X) W f)
abbrev JT (X : Cx) (W : WX) (e : Expr) (f : DT) : Prop := PT X e (LT (om X) W f)
abbrev JW (X : Cx) (W : WX) (e : Expr) (f : DT) : Prop := L2.PW X e (LT (om X) W f)
abbrev JA (X : Cx) (W : WX) (e : List Expr) (f : DA) : Prop := PA X e (LA (om X) W f)
abbrev JS (X : Cx) (W : WX) (e : Stmt) (f : DS) : Prop := PS X e (LS (om X) W f)
abbrev JSs (X : Cx) (W : WX) (e : List Stmt) (f : DS) : Prop := PSs X e (LS (om X) W f)

section
variable {X : Cx} {W : WX} {pos : Pos} {a b c e : Expr} {es : List Expr} {fa fb fc : DE}

/-! ### names, constants -/
def dVar (i : Nat) : DE := fun δ S => match δ[i]? with
  | some (some d) => .ok d S
  | _ => .bad
theorem je_var (i : Nat) {x : Str} (hN : X.N[i]? = some x := by rfl) (hv : Vis X.env.scope x := by first | exact Or.inl rfl | exact Or.inr (Or.inl rfl) | exact Or.inr (Or.inr rfl)) (hd : (x == ("__debug__" : Str)) = false := by decide) (hcd : (x == ("__classdict__" : Str)) = false := by decide) :
    JE X W (.Name x pos) (dVar i) := by
  refine pe_imp (pe_var (i := i) hN hv hd hcd) fun σ H Q h => ?_
  obtain ⟨ρ, δ, S, r, rs, g⟩ := h
  unfold dVar at g
  split at g
  · rename_i d e
    obtain ⟨v, hv, q⟩ := rs.get e
    exact ⟨v, hv, g ρ v H .refl r q⟩
  · exact g.elim
def dC (d : D) : DE := fun _ S => .ok d S
theorem je_int {i : Int} {j} : JE X W (.Constant (.int i) j pos) (dC (.int i)) := pe_imp pe_int fun σ H Q ⟨ρ, δ, S, r, rs, g⟩ => g ρ _ H .refl r rfl
theorem je_str {i : Str} {j} : JE X W (.Constant (.str i) j pos) (dC (.str i)) := pe_imp pe_str fun σ H Q ⟨ρ, δ, S, r, rs, g⟩ => g ρ _ H .refl r rfl
theorem je_bl {i : Bool} {j} : JE X W (.Constant (.bool i) j pos) (dC (.bl i)) := pe_imp pe_bl fun σ H Q ⟨ρ, δ, S, r, rs, g⟩ => g ρ _ H .refl r rfl
theorem je_non {j} : JE X W (.Constant .none j pos) (dC .non) := pe_imp pe_non fun σ H Q ⟨ρ, δ, S, r, rs, g⟩ => g ρ _ H .refl r rfl

/-! ### two parts -/
def dOp (g : D → D → Store → R D) (fa fb : DE) : DE := fun δ S => (fa δ S).bind fun x S1 => (fb δ S1).bind fun y S2 => g x y S2
theorem LE.two {Ω : Wd} {g : D → D → Store → R D} {r : R2} {σ : St} {H : Hp} {Q : VK}
    (hs : ∀ ρ H S σ Q x y v u, Rel Ω ρ H S → VR Ω.K ρ H x v → VR Ω.K ρ H y u → LG Ω W (PVR Ω) (g x y S) ρ H σ Q → r v u H Q)
    (h : LE Ω W (dOp g fa fb) σ H Q) : tOp r (LE Ω W fa) (LE Ω W fb) σ H Q := by
  obtain ⟨ρ, δ, S, rl, rs, q⟩ := h
  refine ⟨ρ, δ, S, rl, rs, LG.bind q fun ρ1 x S1 v H1 s1 r1 p1 q1 => ?_⟩
  refine ⟨ρ1, δ, S1, r1, rl.rs s1 rs, LG.bind q1 fun ρ2 y S2 u H2 s2 r2 p2 q2 => ?_⟩
  exact hs ρ2 H2 S2 σ Q x y v u r2 (r1.vr s2 p1) p2 q2
def OpS (X : Cx) (W : WX) (g : D → D → Store → R D) (r : R2) : Prop :=
  ∀ ρ H S σ Q x y v u, Rel (om X) ρ H S → VR X.K ρ H x v → VR X.K ρ H y u → LG (om X) W (PVR (om X)) (g x y S) ρ H σ Q → r v u H Q
theorem je_op {op : Operator} {r : R2} {g : D → D → Store → R D} (ho : OpR X (binaryOp op) r) (hs : OpS X W g r) (ha : JE X W a fa) (hb : JE X W b fb) : JE X W (.BinOp a op b pos) (dOp g fa fb) :=
  pe_imp (pe_op ho ha hb) fun σ H Q h => LE.two hs h
theorem je_cmp {op : CmpOp} {r : R2} {g : D → D → Store → R D} (ho : OpR X (compareOp op) r) (hs : OpS X W g r) (ha : JE X W a fa) (hb : JE X W b fb) (hm : behindInMarks op b = false) : JE X W (.Compare a [op] [b] pos) (dOp g fa fb) :=
  pe_imp (pe_cmpR ho ha hb hm) fun σ H Q h => LE.two hs h
/-- a test of an expression that gives a truth value -/
def dTest (f : DE) : DT := fun δ S => (f δ S).bind fun x S1 => match x with
  | .bl k => .ok k S1
  | _ => .bad
theorem LT.test {Ω : Wd} {f : DE} {t : TE} {σ : St} {H : Hp} {Q : Bool → Hp → Prop} (ht : ∀ σ H Q, LE Ω W f σ H Q → t σ H Q) (h : LT Ω W (dTest f) σ H Q) : tTest t σ H Q := by
  obtain ⟨ρ, δ, S, rl, rs, q⟩ := h
  refine ht σ H _ ⟨ρ, δ, S, rl, rs, LG.bind q fun ρ1 x S1 v H1 s1 r1 p1 q1 => ?_⟩
  cases x with
  | bl k => cases p1; exact ⟨k, rfl, q1 ρ1 k H1 .refl r1 rfl⟩
  | _ => exact q1.elim
theorem jt_cmp {op : CmpOp} {r : R2} {g : D → D → Store → R D} (ho : OpR X (compareOp op) r) (hs : OpS X W g r) (ha : JE X W a fa) (hb : JE X W b fb) (hm : behindInMarks op b = false) : JT X W (.Compare a [op] [b] pos) (dTest (dOp g fa fb)) :=
  pt_imp (pt_cmpR ho ha hb hm) fun σ H Q h => LT.test (fun σ H Q h => LE.two hs h) h

/-! ### operators by values -/
def gI (C : Int → Int → Bool) (f : Int → Int → D) : D → D → Store → R D := fun x y S => match x, y with
  | .int i, .int j => if C i j then .ok (f i j) S else .bad
  | _, _ => .bad
theorem opS_I {C : Int → Int → Prop} {C' : Int → Int → Bool} {f : Int → Int → D} {g : Int → Int → V} (hf : ∀ K ρ H i j, VR K ρ H (f i j) (g i j)) (hc : ∀ i j, C' i j = true → C i j) : OpS X W (gI C' f) (rI C g) := by
  intro ρ H S σ Q x y v u r hx hy h
  cases x with
  | int i =>
    cases y with
    | int j =>
      cases hx; cases hy
      by_cases hc' : C' i j = true
      · have h' : LG (om X) W (PVR (om X)) (.ok (f i j) S) ρ H σ Q := by
          have e : gI C' f (.int i) (.int j) S = .ok (f i j) S := if_pos hc'
          rw [e] at h; exact h
        exact ⟨i, j, rfl, rfl, hc i j hc', h' ρ _ H .refl r (hf _ _ _ i j)⟩
      · have e : gI C' f (.int i) (.int j) S = .bad := if_neg hc'
        rw [e] at h; exact h.elim
    | _ => exact h.elim
  | _ => exact h.elim
theorem opS_I0 {f : Int → Int → D} {g : Int → Int → V} (hf : ∀ K ρ H i j, VR K ρ H (f i j) (g i j)) : OpS X W (gI (fun _ _ => true) f) (rI0 g) := by
  intro ρ H S σ Q x y v u r hx hy h
  cases x with
  | int i =>
    cases y with
    | int j => cases hx; cases hy; exact ⟨i, j, rfl, rfl, h ρ _ H .refl r (hf _ _ _ i j)⟩
    | _ => exact h.elim
  | _ => exact h.elim
end
end DL
namespace DL
open PySem PySem.Spec L2

section
variable {X : Cx} {W : WX} {pos : Pos} {a b c e : Expr} {es : List Expr} {fa fb fc : DE} {st : Stmt} {sts : List Stmt} {f g : DS}
/-! ### blocks -/
def dNx : DS := fun δ S => .nx δ S
def dSeq (f g : DS) : DS := fun δ S => match f δ S with
  | .nx δ' S' => g δ' S'
  | .rt d S' => .rt d S'
  | .bk δ' S' => .bk δ' S'
  | .ct δ' S' => .ct δ' S'
  | .exc x δ' S' => .exc x δ' S'
  | .bad => .bad
theorem jss_nil : JSs X W [] dNx := pss_imp pss_nil fun E σ H ⟨ρ, δ, S, r, rs, h⟩ => h ρ σ H .refl r rs
theorem jss_cons (h1 : JS X W st f) (h2 : JSs X W sts g) : JSs X W (st :: sts) (dSeq f g) := pss_imp (pss_cons h1 h2) fun E σ H ⟨ρ, δ, S, r, rs, h⟩ => by
  refine ⟨ρ, δ, S, r, rs, ?_⟩
  unfold dSeq at h
  cases e : f δ S with
  | nx δ' S' => rw [e] at h; exact fun ρ' σ' H' s r' rs' => ⟨ρ', δ', S', r', rs', LF.shift s h⟩
  | rt d S' => rw [e] at h; exact h
  | bk d S' => rw [e] at h; exact h
  | ct d S' => rw [e] at h; exact h
  | exc x d S' => rw [e] at h; exact h
  | bad => rw [e] at h; exact h
theorem jss_one (h1 : JS X W st f) : JSs X W [st] f := pss_imp (pss_one h1) fun E σ H h => h
theorem js_pass : JS X W (.Pass pos) dNx := ps_imp ps_pass fun E σ H ⟨ρ, δ, S, r, rs, h⟩ => h ρ σ H .refl r rs
/-- from an expression's result on -/
def R.thenF {α : Type} (r : R α) (δ : DEnv) (k : α → Store → F) : F := match r with
  | .ok d S => k d S
  | .exc x S => .exc x δ S
  | .bad => .bad
theorem LF.of {α β : Type} {Ω : Wd} {P : List Addr → Hp → α → β → Prop} {r : R α} {k : α → Store → F} {δ : DEnv} {S : Store} {ρ : List Addr} {H : Hp} {σ : St} {E : Ends} {Q : β → Hp → Prop} (rl : Rel Ω ρ H S) (rs : RelS Ω.K ρ H δ σ) (h : LF Ω W (r.thenF δ k) ρ H E)
    (q : ∀ ρ1 d S1 v H1, Step ρ H ρ1 H1 → Rel Ω ρ1 H1 S1 → P ρ1 H1 d v → RelS Ω.K ρ1 H1 δ σ → LF Ω W (k d S1) ρ1 H1 E → Q v H1) : LG Ω W P r ρ H σ Q := by
  cases r with
  | ok d S' => exact fun ρ' v H' s r' p => q ρ' d S' v H' s r' p (rl.rs s rs) (LF.shift s h)
  | exc x S' => exact fun ρ' c dd H' s r' x' => h ρ' c dd σ H' s r' (rl.rs s rs) x'
  | bad => exact h
def dExpr (f : DE) : DS := fun δ S => (f δ S).thenF δ fun _ S1 => .nx δ S1
theorem js_expr (he : JE X W e fa) (hs : swapsWith e none pos.line X.env = pure false := by rfl) : JS X W (.Expr e pos) (dExpr fa) := ps_imp (ps_expr he hs) fun E σ H ⟨ρ, δ, S, r, rs, h⟩ =>
  ⟨ρ, δ, S, r, rs, LF.of r rs h fun ρ1 d S1 v H1 s r1 p rs1 h1 => h1 ρ1 σ H1 .refl r1 rs1⟩
def dRet (f : DE) : DS := fun δ S => (f δ S).thenF δ fun d S1 => .rt d S1
theorem js_ret (he : JE X W e fa) : JS X W (.Return (some e) pos) (dRet fa) := ps_imp (ps_ret he) fun E σ H ⟨ρ, δ, S, r, rs, h⟩ =>
  ⟨ρ, δ, S, r, rs, LF.of r rs h fun ρ1 d S1 v H1 s r1 p rs1 h1 => h1 ρ1 v H1 .refl r1 p⟩
def dRetN : DS := fun δ S => .rt .non S
theorem js_retN : JS X W (.Return none pos) dRetN := ps_imp ps_retN fun E σ H ⟨ρ, δ, S, r, rs, h⟩ => h ρ _ H .refl r rfl
def dIf (t : DT) (f g : DS) : DS := fun δ S => (t δ S).thenF δ fun k S1 => if k = true then f δ S1 else g δ S1
theorem js_if {t : DT} {as bs : List Stmt} (hc : JT X W c t) (ha : JSs X W as f) (hb : JSs X W bs g) : JS X W (.If c as bs pos) (dIf t f g) := ps_imp (ps_if hc ha hb) fun E σ H ⟨ρ, δ, S, r, rs, h⟩ =>
  ⟨ρ, δ, S, r, rs, LF.of r rs h fun ρ1 d S1 v H1 s r1 p rs1 h1 => by
    cases p
    cases d with
    | true => exact ⟨ρ1, δ, S1, r1, rs1, h1⟩
    | false => exact ⟨ρ1, δ, S1, r1, rs1, h1⟩⟩
/-! ### targets -/
abbrev DG := D → DEnv → Store → R DEnv
abbrev DGs := List D → DEnv → Store → R DEnv
def LTo (Ω : Wd) (r : R DEnv) (ρ : List Addr) (H : Hp) (Q : St → Hp → Prop) : Prop := match r with
  | .ok δ' S' => ∀ ρ' σ' H', Step ρ H ρ' H' → Rel Ω ρ' H' S' → RelS Ω.K ρ' H' δ' σ' → Q σ' H'
  | _ => False
theorem LTo.shift {Ω : Wd} {r : R DEnv} {ρ ρ1 : List Addr} {H H1 : Hp} {Q : St → Hp → Prop} (s : Step ρ H ρ1 H1) (h : LTo Ω r ρ H Q) : LTo Ω r ρ1 H1 Q := by
  cases r with
  | ok δ' S' => exact fun ρ' a b t => h ρ' a b (s.trans t)
  | exc x S' => exact h
  | bad => exact h
def LTg (Ω : Wd) (g : DG) : TG := fun v σ H Q => ∃ ρ δ S d, Rel Ω ρ H S ∧ RelS Ω.K ρ H δ σ ∧ VR Ω.K ρ H d v ∧ LTo Ω (g d δ S) ρ H Q
def LTgs (Ω : Wd) (g : DGs) : TGs := fun v σ H Q => ∃ ρ δ S d, Rel Ω ρ H S ∧ RelS Ω.K ρ H δ σ ∧ VRs Ω.K ρ H d v ∧ LTo Ω (g d δ S) ρ H Q
abbrev JG (X : Cx) (e : Expr) (g : DG) : Prop := PG X e (LTg (om X) g)
abbrev JGs (X : Cx) (e : List Expr) (g : DGs) : Prop := PGs X e (LTgs (om X) g)
theorem pg_imp {t t' : TG} (h : PG X e t) (q : ∀ v σ H Q, t' v σ H Q → t v σ H Q) : PG X e t' := ⟨fun pins s σ H v u Q I r a => h.run pins s σ H v u Q I r (q v σ H Q a)⟩
theorem pgs_imp {t t' : TGs} (h : PGs X es t) (q : ∀ v σ H Q, t' v σ H Q → t v σ H Q) : PGs X es t' := ⟨fun pins s σ H v u Q I r a => h.run pins s σ H v u Q I r (q v σ H Q a)⟩
def dgName (i : Nat) : DG := fun d δ S => .ok (δ.set i (some d)) S
theorem jg_name (i : Nat) {x : Str} (hN : X.N.Nodup) (hi : X.N[i]? = some x := by rfl) (hx : Loc X.env.scope x := by first | exact Or.inl rfl | exact Or.inr rfl) (hf : X.fn x = true ∨ X.env.scope.names.lookup x = some .local := by first | exact .inl rfl | exact .inr rfl) : JG X (.Name x pos) (dgName i) :=
  pg_imp (pg_name hN hi hx hf) fun v σ H Q ⟨ρ, δ, S, d, r, rs, hv, h⟩ => h ρ _ H .refl r (rs.set hv i)
def dgNil : DGs := fun ds δ S => match ds with
  | [] => .ok δ S
  | _ => .bad
def dgCons (g : DG) (gs : DGs) : DGs := fun ds δ S => match ds with
  | d :: ds => (g d δ S).bind fun δ1 S1 => gs ds δ1 S1
  | [] => .bad
theorem jgs_nil : JGs X [] dgNil := pgs_imp pgs_nil fun v σ H Q ⟨ρ, δ, S, d, r, rs, hv, h⟩ => by
  cases d with
  | nil => cases hv; exact ⟨rfl, h ρ σ H .refl r rs⟩
  | cons x xs => exact h.elim
theorem jgs_cons {g : DG} {gs : DGs} (h1 : JG X e g) (h2 : JGs X es gs) (hs : (assignEach (e :: es) X.env).map (·.2) = assign e X.env :: (assignEach es X.env).map (·.2) := by rfl) : JGs X (e :: es) (dgCons g gs) := pgs_imp (pgs_cons h1 h2 hs) fun v σ H Q ⟨ρ, δ, S, d, r, rs, hv, h⟩ => by
  cases d with
  | nil => exact h.elim
  | cons x xs =>
    obtain ⟨y, ys, rfl, hy, hys⟩ := hv
    refine ⟨y, ys, rfl, ρ, δ, S, x, r, rs, hy, ?_⟩
    have h' : LTo (om X) ((g x δ S).bind fun δ1 S1 => gs xs δ1 S1) ρ H Q := h
    cases e1 : g x δ S with
    | ok δ1 S1 =>
      rw [e1] at h'
      exact fun ρ' σ' H' s r' rs' => ⟨ρ', δ1, S1, xs, r', rs', r.vrs s hys, LTo.shift s h'⟩
    | exc x S' => rw [e1] at h'; exact h'
    | bad => rw [e1] at h'; exact h'
def dgTup (n : Nat) (gs : DGs) : DG := fun d δ S => match d with
  | .tup ds => if ds.length = n then gs ds δ S else .bad
  | _ => .bad
theorem jg_tup {k : Nat} {n : Nat} {gs : DGs} (hc : X.calm = true) (h : JGs X es gs) (hl : (assignEach es X.env).length = n := by rfl) (hst : (assignEach es X.env).findIdx? (·.1) = none := by rfl) : JG X (.Tuple es k pos) (dgTup n gs) := pg_imp (pg_tup hc h hl hst) fun v σ H Q ⟨ρ, δ, S, d, r, rs, hv, h⟩ => by
  cases d with
  | tup ds =>
    obtain ⟨a, vs, rfl, hs, hvs⟩ := hv
    have h' : LTo (om X) (if ds.length = n then gs ds δ S else .bad) ρ H Q := h
    by_cases hn : ds.length = n
    · rw [if_pos hn] at h'
      exact ⟨a, vs, rfl, .of hs, by rw [← VRs.len hvs, hn], ρ, δ, S, ds, r, rs, hvs, h'⟩
    · rw [if_neg hn] at h'
      exact h'.elim
  | _ => exact h.elim
/-! ### stores -/
def toF (r : R DEnv) : F := match r with
  | .ok δ S => .nx δ S
  | _ => .bad
theorem LTo.of {r : R DEnv} {ρ : List Addr} {H : Hp} {E : Ends} (h : LF (om X) W (toF r) ρ H E) : LTo (om X) r ρ H E.nx := by
  cases r with
  | ok δ S => exact h
  | exc x S => exact h
  | bad => exact h
def dAsg (fe : DE) (g : DG) : DS := fun δ S => (fe δ S).thenF δ fun d S1 => toF (g d δ S1)
theorem js_asg {tg : Expr} {g : DG} (he : JE X W e fa) (hg : JG X tg g) (hs : swapsWithSole [tg] e pos.line X.env = pure false := by rfl) (hw : swappedStores [tg] e X.env = pure none := by rfl)
    (h1 : (assignEach [tg] X.env).map (·.2) = [assign tg X.env] := by rfl) : JS X W (.Assign [tg] e pos) (dAsg fa g) :=
  ps_imp (ps_asg he hg hs hw h1) fun E σ H ⟨ρ, δ, S, r, rs, h⟩ =>
    ⟨ρ, δ, S, r, rs, LF.of r rs h fun ρ1 d S1 v H1 s r1 p rs1 h1 => ⟨ρ1, δ, S1, d, r1, rs1, p, LTo.of h1⟩⟩
def dSet (i : Nat) (fe : DE) : DS := fun δ S => (fe δ S).thenF δ fun d S1 => .nx (δ.set i (some d)) S1
theorem js_set (i : Nat) {x : Str} {p : Pos} (hN : X.N.Nodup) (he : JE X W e fa) (hi : X.N[i]? = some x := by rfl) (hx : Loc X.env.scope x := by first | exact Or.inl rfl | exact Or.inr rfl)
    (hf : X.fn x = true ∨ X.env.scope.names.lookup x = some .local := by first | exact .inl rfl | exact .inr rfl) (hs : swapsWithSole [.Name x p] e pos.line X.env = pure false := by rfl) (hw : swappedStores [.Name x p] e X.env = pure none := by rfl) : JS X W (.Assign [.Name x p] e pos) (dSet i fa) :=
  ps_imp (ps_asg he (jg_name (pos := p) i hN hi hx hf) hs hw) fun E σ H ⟨ρ, δ, S, r, rs, h⟩ =>
    ⟨ρ, δ, S, r, rs, LF.of r rs h fun ρ1 d S1 v H1 s r1 p rs1 h1 => ⟨ρ1, δ, S1, d, r1, rs1, p, h1⟩⟩
/-! ### for over a value -/
/-- behind a turn -/
def F.turn (r : F) (k : DEnv → Store → F) : F := match r with
  | .nx δ S => k δ S
  | .ct δ S => k δ S
  | .bk δ S => .nx δ S
  | .rt d S => .rt d S
  | .exc x δ S => .exc x δ S
  | .bad => .bad
def toK (r : R DEnv) (k : DEnv → Store → F) : F := match r with
  | .ok δ S => k δ S
  | _ => .bad
def dForL (tg : DG) (b : DS) : List D → DS
  | [], δ, S => .nx δ S
  | x :: xs, δ, S => toK (tg x δ S) fun δ1 S1 => (b δ1 S1).turn fun δ2 S2 => dForL tg b xs δ2 S2
theorem LF.turn' {r : F} {k : DEnv → Store → F} {ρ : List Addr} {H : Hp} {E : Ends} {N : St → Hp → Prop} (h : LF (om X) W (r.turn k) ρ H E)
    (hN : ∀ ρ' σ' H' δ' S', Step ρ H ρ' H' → Rel (om X) ρ' H' S' → RelS X.K ρ' H' δ' σ' → LF (om X) W (k δ' S') ρ' H' E → N σ' H') : LF (om X) W r ρ H { E with nx := N, ct := N, bk := E.nx } := by
  cases r with
  | nx δ2 S2 => exact fun ρ2 σ2 H2 s2 r2 rs2 => hN ρ2 σ2 H2 δ2 S2 s2 r2 rs2 (LF.shift (r := k δ2 S2) s2 h)
  | ct δ2 S2 => exact fun ρ2 σ2 H2 s2 r2 rs2 => hN ρ2 σ2 H2 δ2 S2 s2 r2 rs2 (LF.shift (r := k δ2 S2) s2 h)
  | bk δ2 S2 => exact h
  | rt d S2 => exact h
  | exc y δ2 S2 => exact h
  | bad => exact h
/-- one turn and the turns behind it -/
theorem LF.turn {tg : DG} {b : DS} {x : D} {xs : List D} {δ : DEnv} {S : Store} {ρ : List Addr} {H : Hp} {σ : St} {E : Ends} {v : V} {N : St → Hp → Prop} (r : Rel (om X) ρ H S) (rs : RelS X.K ρ H δ σ) (hv : VR X.K ρ H x v)
    (h : LF (om X) W (dForL tg b (x :: xs) δ S) ρ H E) (hN : ∀ ρ' σ' H' δ' S', Step ρ H ρ' H' → Rel (om X) ρ' H' S' → RelS X.K ρ' H' δ' σ' → LF (om X) W (dForL tg b xs δ' S') ρ' H' E → N σ' H') :
    LTg (om X) tg v σ H fun σ2 H2 => LS (om X) W b { E with nx := N, ct := N, bk := E.nx } σ2 H2 := by
  refine ⟨ρ, δ, S, x, r, rs, hv, ?_⟩
  have h0 : LF (om X) W (toK (tg x δ S) fun δ1 S1 => (b δ1 S1).turn fun δ2 S2 => dForL tg b xs δ2 S2) ρ H E := h
  cases e1 : tg x δ S with
  | ok δ1 S1 =>
    rw [e1] at h0
    exact fun ρ1 σ1 H1 s1 r1 rs1 => ⟨ρ1, δ1, S1, r1, rs1, LF.turn' (LF.shift (r := (b δ1 S1).turn _) s1 h0) fun ρ' σ' H' δ' S' s r' rs' h' => hN ρ' σ' H' δ' S' (s1.trans s) r' rs' h'⟩
  | exc x S' => rw [e1] at h0; exact h0
  | bad => rw [e1] at h0; exact h0
def Sub (G H : Hp) : Prop := ∀ a o, G a = some o → H a = some o
/-- the items that a walk gives, whatever is done meanwhile (G: what is told of the heap) -/
structure Walk (Ω : Wd) (J : It) (xs : List D) (ρ : List Addr) (H : Hp) : Prop where
  go : ∀ (i : Nat) (ρ' : List Addr) (G H' : Hp), Step ρ H ρ' G → Sub G H' → i < xs.length → J.go i H'
  stop : ∀ (ρ' : List Addr) (G H' : Hp), Step ρ H ρ' G → Sub G H' → J.stop xs.length H'
  yld : ∀ (i : Nat) (d : D) (v : V) (ρ' : List Addr) (G H' H'' : Hp) (S' : Store), Step ρ H ρ' G → Rel Ω ρ' G S' → Sub G H' → xs[i]? = some d → J.yld i H' v H'' →
    ∃ G'', Step ρ' G ρ' G'' ∧ Rel Ω ρ' G'' S' ∧ VR Ω.K ρ' G'' d v ∧ (∀ a, G a = H' a → G'' a = H'' a) ∧ ∀ a, H' a ≠ none → H'' a = H' a ∧ G'' a = G a
abbrev PWk (Ω : Wd) : List Addr → Hp → List D → It → Prop := fun ρ H xs J => Walk Ω J xs ρ H
def LI (Ω : Wd) (W : WX) (f : DA) : TI := fun σ H R => ∃ ρ δ S, Rel Ω ρ H S ∧ RelS Ω.K ρ H δ σ ∧ LG Ω W (PWk Ω) (f δ S) ρ H σ R
abbrev JI (X : Cx) (W : WX) (tg iter : Expr) (f : DA) : Prop := PI X tg iter (LI (om X) W f)
theorem pi_imp {tg iter : Expr} {t t' : TI} (h : PI X tg iter t) (q : ∀ σ H R, t' σ H R → t σ H R) : PI X tg iter t' := ⟨fun pins s σ H R I a => h.run pins s σ H R I (q σ H R a)⟩
theorem for_vals {J : It} {tg : DG} {b : DS} {E : Ends} {xs : List D} {δ : DEnv} {S : Store} {ρ : List Addr} {H : Hp} {σ : St} (r : Rel (om X) ρ H S) (rs : RelS X.K ρ H δ σ) (wk : Walk (om X) J xs ρ H)
    (h : LF (om X) W (dForL tg b xs δ S) ρ H E) :
    ∃ Wv : Nat → Nat → St → Hp → Prop, (∃ m, Wv 0 m σ H) ∧ ∀ i m σ H, Wv i m σ H →
      (J.stop i H ∧ E.nx σ H) ∨ (J.go i H ∧ ∃ N : St → Hp → Prop, (∀ σ' H', N σ' H' → ∃ m', m' < m ∧ Wv (i + 1) m' σ' H') ∧ ∀ x H', J.yld i H x H' → LTg (om X) tg x σ H' fun σ2 H2 => LS (om X) W b { E with nx := N, ct := N, bk := E.nx } σ2 H2) := by
  refine ⟨fun i m σ' H' => m = xs.length - i ∧ i ≤ xs.length ∧ ∃ ρ' δ' S', Step ρ H ρ' H' ∧ Rel (om X) ρ' H' S' ∧ RelS X.K ρ' H' δ' σ' ∧ LF (om X) W (dForL tg b (xs.drop i) δ' S') ρ' H' E, ⟨xs.length, by simp, Nat.zero_le _, ρ, δ, S, .refl, r, rs, h⟩, ?_⟩
  rintro i m σ' H' ⟨rfl, hi, ρ', δ', S', s, r', rs', h'⟩
  by_cases hlt : i < xs.length
  · refine .inr ⟨wk.go i ρ' H' H' s (fun _ _ q => q) hlt, fun σ2 H2 => i + 1 ≤ xs.length ∧ ∃ ρ2 δ2 S2, Step ρ H ρ2 H2 ∧ Rel (om X) ρ2 H2 S2 ∧ RelS X.K ρ2 H2 δ2 σ2 ∧ LF (om X) W (dForL tg b (xs.drop (i + 1)) δ2 S2) ρ2 H2 E, fun σ2 H2 q => ⟨xs.length - (i + 1), by omega, rfl, q⟩, fun x H'' y => ?_⟩
    obtain ⟨G, s1, r1, hv, eG, _⟩ := wk.yld i xs[i] x ρ' H' H' H'' S' s r' (fun _ _ q => q) (List.getElem?_eq_getElem hlt) y
    obtain rfl : G = H'' := funext fun a => eG a rfl
    rw [List.drop_eq_getElem_cons hlt] at h'
    exact LF.turn r1 (r'.rs s1 rs') hv (LF.shift s1 h') fun ρ2 σ2 H2 δ2 S2 s2 r2 rs2 h2 => ⟨hlt, ρ2, δ2, S2, (s.trans s1).trans s2, r2, rs2, h2⟩
  · have e : i = xs.length := by omega
    subst e
    rw [List.drop_length] at h'
    exact .inl ⟨wk.stop ρ' H' H' s (fun _ _ q => q), h' ρ' σ' H' .refl r' rs'⟩
def dFor (fi : DA) (tg : DG) (b : DS) : DS := fun δ S => (fi δ S).thenF δ fun xs S1 => dForL tg b xs δ S1
theorem js_for {iter tg : Expr} {body : List Stmt} {gt : DG} {fi : DA} (hc : X.calm = true) (hp : PassesOwn (model X.prog X.w) X.A X.env X.xe) (hi : JI X W tg iter fi) (hg : JG X tg gt) (hb : JSs X W body f)
    (hs : ∀ x, foldedSetIterable iter X.env x = pure x := by intro _; rfl) : JS X W (.For tg iter body [] pos) (dFor fi gt f) :=
  ps_imp (ps_for hp hc hi hg hb hs) fun E σ H ⟨ρ, δ, S, r, rs, h⟩ =>
    ⟨ρ, δ, S, r, rs, LF.of r rs h fun ρ1 xs S1 J H1 s r1 wk rs1 h1 => for_vals r1 rs1 wk h1⟩
end
end DL
namespace DL
open PySem PySem.Spec L2

theorem OR.monoW {Ω : Wd} {ρ ρ' : List Addr} {H H' : Hp} (s : StepW ρ H ρ' H') (m : ∀ a ∈ ρ, Mv (H a)) {b : Addr} (e : H' b = H b) : ∀ {x : O}, OR Ω ρ H b x → OR Ω ρ' H' b x
  | .lst ds, ⟨vs, h, r⟩ => ⟨vs, by rw [e, h], VRs.monoW s m ds vs r⟩
  | .dK lk kvs, ⟨kv, r, h1, h2⟩ => ⟨kv, KVR.monoW s m kvs kv r, fun q => by rw [e, h1 q], fun q => by obtain ⟨o, h⟩ := h2 q; exact ⟨o, by rw [e, h]⟩⟩
  | .ins c fs, ⟨C, dx, fv, hc, h, r⟩ => ⟨C, dx, fv, hc, by rw [e, h], KVR.monoW s m fs fv r⟩
  | .dT kvs, ⟨kv, r, h⟩ => ⟨kv, KVR.monoW s m kvs kv r, by rw [e, h]⟩
  | .exn c, ⟨C, oe, u, hc, h, r⟩ => ⟨C, oe, u, hc, by rw [e, h], r⟩
theorem OR.mono {Ω : Wd} {ρ ρ' : List Addr} {H H' : Hp} (s : Step ρ H ρ' H') (m : ∀ a ∈ ρ, Mv (H a)) {b : Addr} (e : H' b = H b) {x : O} (h : OR Ω ρ H b x) : OR Ω ρ' H' b x := OR.monoW s.w m e h
theorem Rel.notin {Ω : Wd} {ρ : List Addr} {H : Hp} {S : Store} (r : Rel Ω ρ H S) {p : Addr} (h : H p = none) : p ∉ ρ := fun m => by
  have := r.mv m
  rw [h] at this; exact this
theorem Step.fresh {ρ : List Addr} {H : Hp} {p : Addr} {o : HO} (h : H p = none) : Step ρ H ρ (upd H p o) :=
  ⟨List.prefix_rfl, fun a u e _ => by rw [upd_ne (ne_of_none e h)]; exact e, fun _ m n => absurd m n, fun a o' u e => by rw [upd_ne (ne_of_none e h)]; exact e⟩
theorem Rel.fresh {Ω : Wd} {ρ : List Addr} {H : Hp} {S : Store} (r : Rel Ω ρ H S) {p : Addr} {o : HO} (h : H p = none) : Rel Ω ρ (upd H p o) S :=
  ⟨r.len, r.nd, fun n a x e1 e2 => (r.ob n a x e1 e2).mono (.fresh h) (fun a m => r.mv m) (upd_ne fun q => r.notin h (by rw [← q]; exact List.mem_of_getElem? e1))⟩
theorem Step.alloc {ρ : List Addr} {H : Hp} {p : Addr} {o : HO} (h : H p = none) : Step ρ H (ρ ++ [p]) (upd H p o) :=
  ⟨⟨[p], rfl⟩, fun a u e _ => by rw [upd_ne (ne_of_none e h)]; exact e, fun a m n => by
    rcases List.mem_append.mp m with m | m
    · exact absurd m n
    · rw [List.mem_singleton.mp m]; exact h, fun a o' u e => by rw [upd_ne (ne_of_none e h)]; exact e⟩
theorem Rel.alloc {Ω : Wd} {ρ : List Addr} {H : Hp} {S : Store} (r : Rel Ω ρ H S) {p : Addr} {o : HO} {x : O} (h : H p = none) (ob : OR Ω (ρ ++ [p]) (upd H p o) p x) : Rel Ω (ρ ++ [p]) (upd H p o) (S ++ [x]) := by
  refine ⟨by simp [r.len], ?_, fun n a y e1 e2 => ?_⟩
  · rw [List.nodup_append]
    exact ⟨r.nd, by simp, fun a m b hb q => r.notin h (by rw [← List.mem_singleton.mp hb, ← q]; exact m)⟩
  · by_cases hn : n < ρ.length
    · rw [List.getElem?_append_left hn] at e1
      rw [List.getElem?_append_left (by rw [← r.len]; exact hn)] at e2
      exact (r.ob n a y e1 e2).mono (.alloc h) (fun a m => r.mv m) (upd_ne fun q => r.notin h (by rw [← q]; exact List.mem_of_getElem? e1))
    · have hl : n < ρ.length + 1 := by have := (List.getElem?_eq_some_iff.mp e1).1; simpa using this
      have e : n = ρ.length := by omega
      subst e
      rw [List.getElem?_append_right (Nat.le_refl _)] at e1
      rw [List.getElem?_append_right (by rw [r.len]; exact Nat.le_refl _)] at e2
      rw [r.len] at e2
      simp at e1 e2
      subst e1; subst e2
      exact ob
theorem Step.write {ρ : List Addr} {H : Hp} {p : Addr} {o x : HO} (h : p ∈ ρ) (hx : H p = some x) (hz : ∀ o u, x ≠ .frz o u := by intro _ _ z; cases z) : Step ρ H ρ (upd H p o) :=
  ⟨List.prefix_rfl, fun a u e n => by rw [upd_ne (fun q => n (by rw [q]; exact h))]; exact e, fun _ m n => absurd m n, fun a o' u e => by rw [upd_ne (fun q => by rw [q, hx] at e; cases e; exact hz _ _ rfl)]; exact e⟩
theorem Rel.write {Ω : Wd} {ρ : List Addr} {H : Hp} {S : Store} (r : Rel Ω ρ H S) {p : Addr} {n : Nat} {o u : HO} {x : O} (h : ρ[n]? = some p) (hx : H p = some u) (ob : OR Ω ρ (upd H p o) p x) (hz : ∀ o v, u ≠ .frz o v := by intro _ _ z; cases z) : Rel Ω ρ (upd H p o) (S.set n x) := by
  have hm := List.mem_of_getElem? h
  refine ⟨by simp [r.len], r.nd, fun k a y e1 e2 => ?_⟩
  by_cases hk : k = n
  · subst hk
    rw [h] at e1; cases e1
    have hl : k < S.length := by rw [← r.len]; exact (List.getElem?_eq_some_iff.mp h).1
    rw [List.getElem?_set_self hl] at e2
    cases e2
    exact ob
  · rw [List.getElem?_set_ne (fun q => hk q.symm)] at e2
    refine (r.ob k a y e1 e2).mono (.write hm hx hz) (fun a m => r.mv m) (upd_ne fun q => hk ?_)
    subst q
    exact (List.getElem?_inj (List.getElem?_eq_some_iff.mp e1).1 r.nd).mp (e1.trans h.symm)

section
variable {X : Cx} {W : WX} {pos : Pos} {a b c e : Expr} {es : List Expr} {fa fb fc : DE} {fs : DA} {f g : DS}
/-! ### walks over lists and tuples told as values -/
theorem Sub.rd {G H : Hp} (s : Sub G H) {a : Addr} {u : HO} (h : Rd G a u) : Rd H a u := by
  rcases h with h | ⟨o, h⟩
  · exact .inl (s a _ h)
  · exact .inr ⟨o, s a _ h⟩
theorem Sub.sqT {K : PySem.W.Frag} {G H : Hp} (s : Sub G H) {a : Addr} {vs : List V} (h : SqT K G a vs) : SqT K H a vs := by
  rcases h with h | h
  · exact .inl (s.rd h)
  · exact .inr h
theorem Walk.list {Ω : Wd} {a : Addr} {xs : List D} {vs : List V} {ρ : List Addr} {H : Hp} {S : Store} (r : Rel Ω ρ H S) (hr : Rd H a (.lst vs)) (hn : a ∉ ρ) (hv : VRs Ω.K ρ H xs vs) : Walk Ω (Itl Ω.K a) xs ρ H where
  go := fun i ρ' G H' s sb hi => by
    have hl := VRs.len hv
    exact ⟨vs, vs[i], .inl (sb.rd (s.rd hn hr)), by simp [show i < vs.length by omega]⟩
  stop := fun ρ' G H' s sb => ⟨vs, .inl (sb.rd (s.rd hn hr)), by rw [VRs.len hv]; exact Nat.le_refl _⟩
  yld := fun i d v ρ' G H' H'' S' s r' sb e y => by
    obtain ⟨rfl, y⟩ := y
    obtain ⟨u, h1, h2⟩ := VRs.get hv e
    have h3 := y vs (.inl (sb.rd (s.rd hn hr)))
    rw [h1] at h3; cases h3
    exact ⟨G, .refl, r', r.vr s h2, fun a q => q, fun a q => ⟨rfl, rfl⟩⟩
theorem Walk.tup {Ω : Wd} {a : Addr} {xs : List D} {vs : List V} {ρ : List Addr} {H : Hp} {S : Store} (r : Rel Ω ρ H S) (hr : SqT Ω.K H a vs) (hv : VRs Ω.K ρ H xs vs) : Walk Ω (Itt Ω.K a) xs ρ H where
  go := fun i ρ' G H' s sb hi => by
    have hl := VRs.len hv
    exact ⟨vs, vs[i], sb.sqT (s.sqT (fun a m => r.mv m) hr), by simp [show i < vs.length by omega]⟩
  stop := fun ρ' G H' s sb => ⟨vs, sb.sqT (s.sqT (fun a m => r.mv m) hr), by rw [VRs.len hv]; exact Nat.le_refl _⟩
  yld := fun i d v ρ' G H' H'' S' s r' sb e y => by
    obtain ⟨rfl, y⟩ := y
    obtain ⟨u, h1, h2⟩ := VRs.get hv e
    have h3 := y vs (sb.sqT (s.sqT (fun a m => r.mv m) hr))
    rw [h1] at h3; cases h3
    exact ⟨G, .refl, r', r.vr s h2, fun a q => q, fun a q => ⟨rfl, rfl⟩⟩
def diL (fe : DE) : DA := fun δ S => (fe δ S).bind fun d S1 => match d with
  | .lst xs => .ok xs S1
  | _ => .bad
def diT (fe : DE) : DA := fun δ S => (fe δ S).bind fun d S1 => match d with
  | .tup xs => .ok xs S1
  | _ => .bad
theorem ji_list {iter tg : Expr} (hi : JE X W iter fa) : JI X W tg iter (diL fa) := pi_imp (pi_list hi) fun σ H R ⟨ρ, δ, S, r, rs, h⟩ =>
  ⟨ρ, δ, S, r, rs, LG.bind h fun ρ1 d S1 v H1 s1 r1 p1 q1 => by
    cases d with
    | lst xs =>
      obtain ⟨a, vs, rfl, hr, hn, hv⟩ := p1
      exact ⟨a, rfl, ⟨vs, .inl hr⟩, q1 ρ1 _ H1 .refl r1 (.list r1 hr hn hv)⟩
    | _ => exact q1.elim⟩
theorem ji_tup {iter tg : Expr} (hi : JE X W iter fa) : JI X W tg iter (diT fa) := pi_imp (pi_tup hi) fun σ H R ⟨ρ, δ, S, r, rs, h⟩ =>
  ⟨ρ, δ, S, r, rs, LG.bind h fun ρ1 d S1 v H1 s1 r1 p1 q1 => by
    cases d with
    | tup xs =>
      obtain ⟨a, vs, rfl, hr, hv⟩ := p1
      exact ⟨a, rfl, ⟨vs, .of hr⟩, q1 ρ1 _ H1 .refl r1 (.tup r1 (.of hr) hv)⟩
    | _ => exact q1.elim⟩
/-! ### arguments, displays -/
def dNil : DA := fun _ S => .ok [] S
def dCons (fa : DE) (fs : DA) : DA := fun δ S => (fa δ S).bind fun x S1 => (fs δ S1).bind fun xs S2 => .ok (x :: xs) S2
theorem ja_nil : JA X W [] dNil := pa_imp pa_nil fun σ H Q ⟨ρ, δ, S, r, rs, h⟩ => h ρ [] H .refl r rfl
theorem ja_cons (ha : JE X W e fa) (hr : JA X W es fs) (hs : starEach (e :: es) X.env = (false, eval e X.env) :: starEach es X.env := by rfl) : JA X W (e :: es) (dCons fa fs) :=
  pa_imp (pa_cons ha hr hs) fun σ H Q ⟨ρ, δ, S, r, rs, h⟩ => by
    refine ⟨ρ, δ, S, r, rs, LG.bind h fun ρ1 x S1 v H1 s1 r1 p1 q1 => ⟨ρ1, δ, S1, r1, r.rs s1 rs, LG.bind q1 fun ρ2 xs S2 vs H2 s2 r2 p2 q2 => ?_⟩⟩
    exact q2 ρ2 _ H2 .refl r2 ⟨v, vs, rfl, r1.vr s2 p1, p2⟩
def lenOk (n : Nat) : Bool := decide (n ≤ sizeLine)
theorem lenOk_of {n : Nat} (h : lenOk n = true) : n ≤ sizeLine := of_decide_eq_true h
def rTup (ds : List D) (S : Store) : R D := if lenOk ds.length = true then .ok (.tup ds) S else .bad
def rLst (ds : List D) (S : Store) : R D := if lenOk ds.length = true then .ok (.lst ds) S else .bad
def rNew (ds : List D) (S : Store) : R D := if lenOk ds.length = true then .ok (.ref S.length) (S ++ [.lst ds]) else .bad
section
variable {Ω : Wd} {ρ : List Addr} {H : Hp} {S : Store} {σ : St} {Q : VK} {ds : List D} {vs : List V}
theorem LG.tup (r : Rel Ω ρ H S) (hv : VRs Ω.K ρ H ds vs) (h : LG Ω W (PVR Ω) (rTup ds S) ρ H σ Q) : vs.length ≤ sizeLine ∧ ∀ p, H p = none → Q (.ref p) (upd H p (.tup vs)) := by
  by_cases hl : lenOk ds.length = true
  · rw [show rTup ds S = .ok (.tup ds) S from if_pos hl] at h
    refine ⟨by rw [← VRs.len hv]; exact lenOk_of hl, fun p hp => h ρ _ _ (.fresh hp) (r.fresh hp) ⟨p, vs, rfl, upd_same, r.vrs (.fresh hp) hv⟩⟩
  · rw [show rTup ds S = .bad from if_neg hl] at h
    exact h.elim
theorem LG.lst (r : Rel Ω ρ H S) (hv : VRs Ω.K ρ H ds vs) (h : LG Ω W (PVR Ω) (rLst ds S) ρ H σ Q) : vs.length ≤ sizeLine ∧ ∀ p, H p = none → Q (.ref p) (upd H p (.lst vs)) := by
  by_cases hl : lenOk ds.length = true
  · rw [show rLst ds S = .ok (.lst ds) S from if_pos hl] at h
    refine ⟨by rw [← VRs.len hv]; exact lenOk_of hl, fun p hp => h ρ _ _ (.fresh hp) (r.fresh hp) ⟨p, vs, rfl, .inl upd_same, r.notin hp, r.vrs (.fresh hp) hv⟩⟩
  · rw [show rLst ds S = .bad from if_neg hl] at h
    exact h.elim
theorem LG.new (r : Rel Ω ρ H S) (hv : VRs Ω.K ρ H ds vs) (h : LG Ω W (PVR Ω) (rNew ds S) ρ H σ Q) : vs.length ≤ sizeLine ∧ ∀ p, H p = none → Q (.ref p) (upd H p (.lst vs)) := by
  by_cases hl : lenOk ds.length = true
  · rw [show rNew ds S = .ok (.ref S.length) (S ++ [.lst ds]) from if_pos hl] at h
    refine ⟨by rw [← VRs.len hv]; exact lenOk_of hl, fun p hp => h (ρ ++ [p]) _ _ (.alloc hp) (r.alloc hp ⟨vs, upd_same, r.vrs (.alloc hp) hv⟩) ⟨p, by rw [← r.len]; simp, rfl⟩⟩
  · rw [show rNew ds S = .bad from if_neg hl] at h
    exact h.elim
end
def dTup (fs : DA) : DE := fun δ S => (fs δ S).bind rTup
def dLst (fs : DA) : DE := fun δ S => (fs δ S).bind rLst
def dNew (fs : DA) : DE := fun δ S => (fs δ S).bind rNew
theorem je_tup {x1} (h : JA X W es fs) : JE X W (.Tuple es x1 pos) (dTup fs) := pe_imp (pe_tup h) fun σ H Q ⟨ρ, δ, S, r, rs, h⟩ =>
  ⟨ρ, δ, S, r, rs, LG.bind h fun ρ1 x S1 v H1 s1 r1 p1 q1 => LG.tup r1 p1 q1⟩
theorem je_lst (h : JA X W es fs) : JE X W (.List es pos) (dLst fs) := pe_imp (pe_lst h) fun σ H Q ⟨ρ, δ, S, r, rs, h⟩ =>
  ⟨ρ, δ, S, r, rs, LG.bind h fun ρ1 x S1 v H1 s1 r1 p1 q1 => LG.lst r1 p1 q1⟩
theorem je_new (h : JA X W es fs) : JE X W (.List es pos) (dNew fs) := pe_imp (pe_lst h) fun σ H Q ⟨ρ, δ, S, r, rs, h⟩ =>
  ⟨ρ, δ, S, r, rs, LG.bind h fun ρ1 x S1 v H1 s1 r1 p1 q1 => LG.new r1 p1 q1⟩
end
end DL
namespace DL
open PySem PySem.Spec L2

/-! ### data as the library's data -/
mutual
def toPy : D → Option PyData
  | .non => some .none
  | .bl b => some (.bool b)
  | .int i => some (.int i)
  | .str x => some (.str x)
  | .ref _ => none
  | .opq => none
  | .tup ds => (toPys ds).map .tuple
  | .lst ds => (toPys ds).map .list
def toPys : List D → Option (List PyData)
  | [] => some []
  | d :: ds => match toPy d, toPys ds with
    | some p, some ps => some (p :: ps)
    | _, _ => none
end
mutual
theorem dp_of {K : PySem.W.Frag} {ρ : List Addr} {H : Hp} : ∀ (d : D) (p : PyData) (v : V), toPy d = some p → VR K ρ H d v → Dp K H v p
  | .non, p, v, e, h => by cases e; cases h; exact .non
  | .bl b, p, v, e, h => by cases e; cases h; exact .bl b
  | .int b, p, v, e, h => by cases e; cases h; exact .int b
  | .str b, p, v, e, h => by cases e; cases h; exact .str b
  | .ref n, p, v, e, h => by cases e
  | .opq, p, v, e, h => by cases e
  | .tup ds, p, v, e, ⟨a, vs, hv, hs, hr⟩ => by
    subst hv
    simp only [toPy, Option.map_eq_some_iff] at e
    obtain ⟨ps, e1, rfl⟩ := e
    exact .tup (.of hs) (dps_of ds ps vs e1 hr)
  | .lst ds, p, v, e, ⟨a, vs, hv, hs, hn, hr⟩ => by
    subst hv
    simp only [toPy, Option.map_eq_some_iff] at e
    obtain ⟨ps, e1, rfl⟩ := e
    exact .lst (.inl hs) (dps_of ds ps vs e1 hr)
theorem dps_of {K : PySem.W.Frag} {ρ : List Addr} {H : Hp} : ∀ (ds : List D) (ps : List PyData) (vs : List V), toPys ds = some ps → VRs K ρ H ds vs → DpAll K H vs ps
  | [], ps, vs, e, h => by cases e; cases h; exact .nil
  | d :: ds, ps, vs, e, ⟨v, ws, hv, h, r⟩ => by
    subst hv
    simp only [toPys] at e
    cases e1 : toPy d with
    | none => rw [e1] at e; cases e
    | some p =>
      cases e2 : toPys ds with
      | none => rw [e1, e2] at e; cases e
      | some qs =>
        rw [e1, e2] at e
        cases e
        exact .cons (dp_of d p v e1 h) (dps_of ds qs ws e2 r)
end
section
variable {X : Cx} {W : WX} {pos : Pos} {a b c e : Expr} {es : List Expr} {fa fb fc : DE} {fs : DA} {f g : DS}
/-! ### == -/
def scalD : D → D → Option Bool
  | .non, .non => some true
  | .bl x, .bl y => some (x == y)
  | .int x, .int y => some (x == y)
  | .str x, .str y => some (decide (x = y))
  | _, _ => none
theorem scalD_ok {K : PySem.W.Frag} {ρ : List Addr} {H : Hp} {x y : D} {v u : V} {k : Bool} (h : scalD x y = some k) (hx : VR K ρ H x v) (hy : VR K ρ H y u) : scal v u = true ∧ decide (v = u) = k := by
  cases x <;> cases y <;> simp only [scalD, Option.some.injEq] at h <;> first | (cases h; done) | skip
  · cases hx; cases hy; exact ⟨rfl, by rw [← h]; rfl⟩
  · cases hx; cases hy; exact ⟨rfl, by rw [dec_bl]; exact h⟩
  · cases hx; cases hy; exact ⟨rfl, by rw [dec_int]; exact h⟩
  · cases hx; cases hy; exact ⟨rfl, by rw [← h]; simp⟩
def gEq (n : Bool) : D → D → Store → R D := fun x y S => match scalD x y with
  | some k => .ok (.bl (if n then !k else k)) S
  | none => match toPy x, toPy y with
    | some p, some q => if (SeqAt.shaped p && SeqAt.shaped q) = true then .ok (.bl (if n then !PyData.eqv p q else PyData.eqv p q)) S else .bad
    | _, _ => .bad
theorem opS_eq (n : Bool) (hu : X.A.units + 64 < cLine) : OpS X W (gEq n) (fun x y H Q => (if n then rNe else rEq) x y H Q ∨ (if n then rNeD X.K else rEqD X.K) x y H Q) := by
  intro ρ H S σ Q x y v u r hx hy h
  unfold gEq at h
  cases e : scalD x y with
  | some k =>
    rw [e] at h
    obtain ⟨h1, h2⟩ := scalD_ok e hx hy
    left
    cases n with
    | true => exact ⟨h1, by rw [h2]; exact h ρ _ H .refl r rfl⟩
    | false => exact ⟨h1, by rw [h2]; exact h ρ _ H .refl r rfl⟩
  | none =>
    rw [e] at h
    cases e1 : toPy x with
    | none => rw [e1] at h; exact h.elim
    | some p =>
      cases e2 : toPy y with
      | none => rw [e1, e2] at h; exact h.elim
      | some q =>
        rw [e1, e2] at h
        have h' : LG (om X) W (PVR (om X)) (if (SeqAt.shaped p && SeqAt.shaped q) = true then R.ok (D.bl (if n then !PyData.eqv p q else PyData.eqv p q)) S else R.bad) ρ H σ Q := h
        by_cases hc : (SeqAt.shaped p && SeqAt.shaped q) = true
        · rw [if_pos hc] at h'
          rw [Bool.and_eq_true] at hc
          right
          cases n with
          | true => exact ⟨p, q, dp_of x p v e1 hx, dp_of y q u e2 hy, hc.1, hc.2, h' ρ _ H .refl r rfl⟩
          | false => exact ⟨p, q, dp_of x p v e1 hx, dp_of y q u e2 hy, hc.1, hc.2, h' ρ _ H .refl r rfl⟩
        · rw [if_neg hc] at h'
          exact h'.elim
theorem opR_eq (hu : X.A.units + 64 < cLine) : OpR X (compareOp .Eq) (fun x y H Q => (if false then rNe else rEq) x y H Q ∨ (if false then rNeD X.K else rEqD X.K) x y H Q) := op_eq.or (op_eqD hu)
theorem opR_ne (hu : X.A.units + 64 < cLine) : OpR X (compareOp .NotEq) (fun x y H Q => (if true then rNe else rEq) x y H Q ∨ (if true then rNeD X.K else rEqD X.K) x y H Q) := op_ne.or (op_neD hu)
theorem je_eq (hu : X.A.units + 64 < cLine) (ha : JE X W a fa) (hb : JE X W b fb) : JE X W (.Compare a [.Eq] [b] pos) (dOp (gEq false) fa fb) := je_cmp (opR_eq hu) (opS_eq false hu) ha hb (nomark _)
theorem je_ne (hu : X.A.units + 64 < cLine) (ha : JE X W a fa) (hb : JE X W b fb) : JE X W (.Compare a [.NotEq] [b] pos) (dOp (gEq true) fa fb) := je_cmp (opR_ne hu) (opS_eq true hu) ha hb (nomark _)
theorem jt_eq (hu : X.A.units + 64 < cLine) (ha : JE X W a fa) (hb : JE X W b fb) : JT X W (.Compare a [.Eq] [b] pos) (dTest (dOp (gEq false) fa fb)) := jt_cmp (opR_eq hu) (opS_eq false hu) ha hb (nomark _)
theorem jt_ne (hu : X.A.units + 64 < cLine) (ha : JE X W a fa) (hb : JE X W b fb) : JT X W (.Compare a [.NotEq] [b] pos) (dTest (dOp (gEq true) fa fb)) := jt_cmp (opR_ne hu) (opS_eq true hu) ha hb (nomark _)
/-! ### <, <=, >, >= of ints -/
def gLt := gI (fun _ _ => true) fun i j => .bl (decide (i < j))
def gLe := gI (fun _ _ => true) fun i j => .bl (decide (i ≤ j))
def gGt := gI (fun _ _ => true) fun i j => .bl (decide (j < i))
def gGe := gI (fun _ _ => true) fun i j => .bl (decide (j ≤ i))
theorem je_lt (ha : JE X W a fa) (hb : JE X W b fb) : JE X W (.Compare a [.Lt] [b] pos) (dOp gLt fa fb) := je_cmp op_lt (opS_I0 fun _ _ _ _ _ => rfl) ha hb (nomark _)
theorem je_le (ha : JE X W a fa) (hb : JE X W b fb) : JE X W (.Compare a [.LtE] [b] pos) (dOp gLe fa fb) := je_cmp op_le (opS_I0 fun _ _ _ _ _ => rfl) ha hb (nomark _)
theorem je_gt (ha : JE X W a fa) (hb : JE X W b fb) : JE X W (.Compare a [.Gt] [b] pos) (dOp gGt fa fb) := je_cmp op_gt (opS_I0 fun _ _ _ _ _ => rfl) ha hb (nomark _)
theorem je_ge (ha : JE X W a fa) (hb : JE X W b fb) : JE X W (.Compare a [.GtE] [b] pos) (dOp gGe fa fb) := je_cmp op_ge (opS_I0 fun _ _ _ _ _ => rfl) ha hb (nomark _)
theorem jt_lt (ha : JE X W a fa) (hb : JE X W b fb) : JT X W (.Compare a [.Lt] [b] pos) (dTest (dOp gLt fa fb)) := jt_cmp op_lt (opS_I0 fun _ _ _ _ _ => rfl) ha hb (nomark _)
theorem jt_le (ha : JE X W a fa) (hb : JE X W b fb) : JT X W (.Compare a [.LtE] [b] pos) (dTest (dOp gLe fa fb)) := jt_cmp op_le (opS_I0 fun _ _ _ _ _ => rfl) ha hb (nomark _)
theorem jt_gt (ha : JE X W a fa) (hb : JE X W b fb) : JT X W (.Compare a [.Gt] [b] pos) (dTest (dOp gGt fa fb)) := jt_cmp op_gt (opS_I0 fun _ _ _ _ _ => rfl) ha hb (nomark _)
theorem jt_ge (ha : JE X W a fa) (hb : JE X W b fb) : JT X W (.Compare a [.GtE] [b] pos) (dTest (dOp gGe fa fb)) := jt_cmp op_ge (opS_I0 fun _ _ _ _ _ => rfl) ha hb (nomark _)
/-! ### a sign in a text -/
def gInS (n : Bool) : D → D → Store → R D := fun x y S => match x, y with
  | .str ⟨c⟩, .str z => if c.size = 1 then .ok (.bl (if n then !decide (c.getD 0 0 ∈ z.cps.toList) else decide (c.getD 0 0 ∈ z.cps.toList))) S else .bad
  | _, _ => .bad
theorem opS_inS : OpS X W (gInS false) (fun x y H Q => ∃ (c : Nat) (z : Str), x = .str ⟨#[c]⟩ ∧ y = .str z ∧ Q (.bl (decide (c ∈ z.cps.toList))) H) := by
  intro ρ H S σ Q x y v u r hx hy h
  cases x with
  | str w =>
    cases y with
    | str z =>
      obtain ⟨c⟩ := w
      cases hx; cases hy
      have h' : LG (om X) W (PVR (om X)) (if c.size = 1 then R.ok (D.bl (decide (c.getD 0 0 ∈ z.cps.toList))) S else R.bad) ρ H σ Q := h
      by_cases hc : c.size = 1
      · rw [if_pos hc] at h'
        obtain ⟨l⟩ := c
        match l, hc with
        | [k], _ => exact ⟨k, z, rfl, rfl, h' ρ _ H .refl r rfl⟩
      · rw [if_neg hc] at h'
        exact h'.elim
    | _ => exact h.elim
  | _ => exact h.elim
theorem je_inS (ha : JE X W a fa) (hb : JE X W b fb) (hm : behindInMarks .In b = false := by rfl) : JE X W (.Compare a [.In] [b] pos) (dOp (gInS false) fa fb) := je_cmp op_in_sign opS_inS ha hb hm
theorem jt_inS (ha : JE X W a fa) (hb : JE X W b fb) (hm : behindInMarks .In b = false := by rfl) : JT X W (.Compare a [.In] [b] pos) (dTest (dOp (gInS false) fa fb)) := jt_cmp op_in_sign opS_inS ha hb hm
/-! ### and, or, not -/
def dAnd (t u : DT) : DT := fun δ S => (t δ S).bind fun k S1 => if k = true then u δ S1 else .ok false S1
def dOr (t u : DT) : DT := fun δ S => (t δ S).bind fun k S1 => if k = true then .ok true S1 else u δ S1
def dNot (t : DT) : DT := fun δ S => (t δ S).bind fun k S1 => .ok (!k) S1
section
variable {t u : DT}
theorem jw_and1 (ha : JT X W a t) : JW X W (.BoolOp .And [a] pos) t := pw_imp (pw_and1 ha) fun σ H Q h => h
theorem jw_or1 (ha : JT X W a t) : JW X W (.BoolOp .Or [a] pos) t := pw_imp (pw_or1 ha) fun σ H Q h => h
theorem jw_and (ha : JT X W a t) (hb : JW X W (.BoolOp .And (b :: es) pos) u) : JW X W (.BoolOp .And (a :: b :: es) pos) (dAnd t u) := pw_imp (pw_and ha hb) fun σ H Q ⟨ρ, δ, S, r, rs, h⟩ =>
  ⟨ρ, δ, S, r, rs, LG.bind h fun ρ1 k S1 v H1 s1 r1 p1 q1 => by
    cases p1
    cases k with
    | true => exact ⟨ρ1, δ, S1, r1, r.rs s1 rs, q1⟩
    | false => exact q1 ρ1 _ H1 .refl r1 rfl⟩
theorem jw_or (ha : JT X W a t) (hb : JW X W (.BoolOp .Or (b :: es) pos) u) : JW X W (.BoolOp .Or (a :: b :: es) pos) (dOr t u) := pw_imp (pw_or ha hb) fun σ H Q ⟨ρ, δ, S, r, rs, h⟩ =>
  ⟨ρ, δ, S, r, rs, LG.bind h fun ρ1 k S1 v H1 s1 r1 p1 q1 => by
    cases p1
    cases k with
    | true => exact q1 ρ1 _ H1 .refl r1 rfl
    | false => exact ⟨ρ1, δ, S1, r1, r.rs s1 rs, q1⟩⟩
theorem jt_w (h : JW X W e t) : JT X W e t := h.pt
theorem jt_not (ha : JT X W a t) : JT X W (.UnaryOp .Not a pos) (dNot t) := pt_imp (pt_not ha) fun σ H Q ⟨ρ, δ, S, r, rs, h⟩ =>
  ⟨ρ, δ, S, r, rs, LG.bind h fun ρ1 k S1 v H1 s1 r1 p1 q1 => by cases p1; exact q1 ρ1 _ H1 .refl r1 rfl⟩
theorem jt_val (ha : JE X W a fa) : JT X W a (dTest fa) → True := fun _ => trivial
def dIfE (t : DT) (fa fb : DE) : DE := fun δ S => (t δ S).bind fun k S1 => if k = true then fa δ S1 else fb δ S1
theorem je_ifE (hc : JT X W c t) (ha : JE X W a fa) (hb : JE X W b fb) : JE X W (.IfExp c a b pos) (dIfE t fa fb) := pe_imp (pe_ifExp hc ha hb) fun σ H Q ⟨ρ, δ, S, r, rs, h⟩ =>
  ⟨ρ, δ, S, r, rs, LG.bind h fun ρ1 k S1 v H1 s1 r1 p1 q1 => by
    cases p1
    cases k with
    | true => exact ⟨ρ1, δ, S1, r1, r.rs s1 rs, q1⟩
    | false => exact ⟨ρ1, δ, S1, r1, r.rs s1 rs, q1⟩⟩
end
/-- and, or, not as values: truth values all -/
def asB (d : D) (k : Bool → R D) : R D := match d with
  | .bl b => k b
  | _ => .bad
def dAndV (fa fb : DE) : DE := fun δ S => (fa δ S).bind fun x S1 => asB x fun k => if k = true then fb δ S1 else .ok (.bl false) S1
def dOrV (fa fb : DE) : DE := fun δ S => (fa δ S).bind fun x S1 => asB x fun k => if k = true then .ok (.bl true) S1 else fb δ S1
def dNotV (fa : DE) : DE := fun δ S => (fa δ S).bind fun x S1 => asB x fun k => .ok (.bl (!k)) S1
theorem je_one {op} (h : JE X W a fa) : JE X W (.BoolOp op [a] pos) fa := pe_imp (pe_one h) fun σ H Q h => h
theorem je_and (ha : JE X W a fa) (hb : JE X W (.BoolOp .And (b :: es) pos) fb) : JE X W (.BoolOp .And (a :: b :: es) pos) (dAndV fa fb) := pe_imp (pe_and ha hb) fun σ H Q ⟨ρ, δ, S, r, rs, h⟩ =>
  ⟨ρ, δ, S, r, rs, LG.bind h fun ρ1 x S1 v H1 s1 r1 p1 q1 => by
    cases x with
    | bl k =>
      cases p1
      cases k with
      | true => exact ⟨true, rfl, ρ1, δ, S1, r1, r.rs s1 rs, q1⟩
      | false => exact ⟨false, rfl, q1 ρ1 _ H1 .refl r1 rfl⟩
    | _ => exact q1.elim⟩
theorem je_or (ha : JE X W a fa) (hb : JE X W (.BoolOp .Or (b :: es) pos) fb) : JE X W (.BoolOp .Or (a :: b :: es) pos) (dOrV fa fb) := pe_imp (pe_or ha hb) fun σ H Q ⟨ρ, δ, S, r, rs, h⟩ =>
  ⟨ρ, δ, S, r, rs, LG.bind h fun ρ1 x S1 v H1 s1 r1 p1 q1 => by
    cases x with
    | bl k =>
      cases p1
      cases k with
      | true => exact ⟨true, rfl, q1 ρ1 _ H1 .refl r1 rfl⟩
      | false => exact ⟨false, rfl, ρ1, δ, S1, r1, r.rs s1 rs, q1⟩
    | _ => exact q1.elim⟩
theorem je_not (ha : JE X W a fa) : JE X W (.UnaryOp .Not a pos) (dNotV fa) := pe_imp (pe_not ha) fun σ H Q ⟨ρ, δ, S, r, rs, h⟩ =>
  ⟨ρ, δ, S, r, rs, LG.bind h fun ρ1 x S1 v H1 s1 r1 p1 q1 => by
    cases x with
    | bl k => cases p1; exact ⟨k, rfl, q1 ρ1 _ H1 .refl r1 rfl⟩
    | _ => exact q1.elim⟩
/-- the truth of a value -/
def truD : D → Option Bool
  | .non => some false
  | .bl b => some b
  | .int i => some (i != 0)
  | .str y => if lenOk y.length = true then some ((y.length : Int) != 0) else none
  | .tup xs => some !xs.isEmpty
  | .lst xs => some !xs.isEmpty
  | .ref _ => none
  | .opq => none
theorem isEmpty_vrs {K : PySem.W.Frag} {ρ : List Addr} {H : Hp} : ∀ {ds : List D} {vs : List V}, VRs K ρ H ds vs → ds.isEmpty = vs.isEmpty
  | [], _, h => by cases h; rfl
  | d :: ds, _, ⟨v, ws, e, h, r⟩ => by subst e; rfl
theorem truD_ok {K : PySem.W.Frag} {ρ : List Addr} {H : Hp} {x : D} {v : V} {k : Bool} (h : truD x = some k) (hx : VR K ρ H x v) : TruV K v H k := by
  cases x with
  | non => cases hx; cases h; exact rfl
  | bl b => cases hx; cases h; exact rfl
  | int i => cases hx; cases h; exact rfl
  | str y =>
    cases hx
    have h' : (if lenOk y.length = true then some ((y.length : Int) != 0) else none) = some k := h
    by_cases hl : lenOk y.length = true
    · rw [if_pos hl] at h'; cases h'; exact ⟨lenOk_of hl, rfl⟩
    · rw [if_neg hl] at h'; cases h'
  | ref n => cases h
  | opq => cases h
  | tup ds =>
    obtain ⟨a, vs, rfl, hs, hr⟩ := hx
    cases h
    exact .inr (.inl ⟨vs, .of hs, by rw [isEmpty_vrs hr]⟩)
  | lst ds =>
    obtain ⟨a, vs, rfl, hs, hn, hr⟩ := hx
    cases h
    exact .inl ⟨vs, .inl hs, by rw [isEmpty_vrs hr]⟩
def dTru (fa : DE) : DT := fun δ S => (fa δ S).bind fun x S1 => match truD x with
  | some k => .ok k S1
  | none => .bad
theorem jt_tru (ha : JE X W a fa) (he : ∀ whole, isTrue a X.env whole = (do let v ← whole; standAt a.pos; holding [v] (truthy v)) := by intro _; rfl) : JT X W a (dTru fa) := pt_imp (pt_truth ha he) fun σ H Q ⟨ρ, δ, S, r, rs, h⟩ =>
  ⟨ρ, δ, S, r, rs, LG.bind h fun ρ1 x S1 v H1 s1 r1 p1 q1 => by
    cases e : truD x with
    | some k => rw [e] at q1; exact ⟨k, truD_ok e p1, q1 ρ1 _ H1 .refl r1 rfl⟩
    | none => rw [e] at q1; exact q1.elim⟩
end
end DL
namespace DL
open PySem PySem.Spec L2

section
variable {X : Cx} {W : WX} {pos p apos cpos : Pos} {a b c e o : Expr} {es : List Expr} {fa fb fc fo : DE} {fs : DA} {f g : DS} {x : Str}
theorem dec_of {P : Prop} [d : Decidable P] {C : Prop} (h : decide P = true) (e : P = C := by rfl) : C := e ▸ of_decide_eq_true h
/-! ### sums, products -/
def gAdd : D → D → Store → R D := fun x y S => match x, y with
  | .int i, .int j => .ok (.int (i + j)) S
  | .str i, .str j => if lenOk (i.length + j.length) = true then .ok (.str (i ++ j)) S else .bad
  | _, _ => .bad
def rAdd2 : R2 := fun x y H Q => (∃ i j, x = .int i ∧ y = .int j ∧ Q (.int (i + j)) H) ∨ (∃ i j, x = .str i ∧ y = .str j ∧ i.length + j.length ≤ sizeLine ∧ Q (.str (i ++ j)) H)
theorem opS_add : OpS X W gAdd rAdd2 := by
  intro ρ H S σ Q x y v u r hx hy h
  cases x with
  | int i =>
    cases y with
    | int j => cases hx; cases hy; exact .inl ⟨i, j, rfl, rfl, h ρ _ H .refl r rfl⟩
    | _ => exact h.elim
  | str i =>
    cases y with
    | str j =>
      cases hx; cases hy
      have h' : LG (om X) W (PVR (om X)) (if lenOk (i.length + j.length) = true then R.ok (D.str (i ++ j)) S else R.bad) ρ H σ Q := h
      by_cases hl : lenOk (i.length + j.length) = true
      · rw [if_pos hl] at h'; exact .inr ⟨i, j, rfl, rfl, lenOk_of hl, h' ρ _ H .refl r rfl⟩
      · rw [if_neg hl] at h'; exact h'.elim
    | _ => exact h.elim
  | _ => exact h.elim
theorem opR_add : OpR X (binaryOp .Add) rAdd2 := op_add.or op_add_str
theorem opR_iadd : OpR X (inplaceOp .Add) rAdd2 := iop_add.or iop_add_str
theorem je_add (ha : JE X W a fa) (hb : JE X W b fb) : JE X W (.BinOp a .Add b pos) (dOp gAdd fa fb) := je_op opR_add opS_add ha hb
def gSub := gI (fun _ _ => true) fun i j => .int (i - j)
theorem je_sub (ha : JE X W a fa) (hb : JE X W b fb) : JE X W (.BinOp a .Sub b pos) (dOp gSub fa fb) := je_op op_sub (opS_I0 fun _ _ _ _ _ => rfl) ha hb
def gMul := gI (fun i j => decide ((-(2 ^ 64) < i ∧ i < 2 ^ 64) ∨ (-(2 ^ 64) < j ∧ j < 2 ^ 64))) fun i j => .int (i * j)
theorem je_mul (ha : JE X W a fa) (hb : JE X W b fb) : JE X W (.BinOp a .Mult b pos) (dOp gMul fa fb) := je_op op_mul (opS_I (fun _ _ _ _ _ => rfl) fun _ _ h => dec_of h) ha hb
def gMod := gI (fun _ j => decide (0 < j)) fun i j => .int (i % j)
theorem je_mod (ha : JE X W a fa) (hb : JE X W b fb) : JE X W (.BinOp a .Mod b pos) (dOp gMod fa fb) := je_op op_mod (opS_I (fun _ _ _ _ _ => rfl) fun _ _ h => dec_of h) ha hb
def gFdiv := gI (fun _ j => decide (0 < j ∧ j < 1073741824)) fun i j => .int (i / j)
theorem je_fdiv (ha : JE X W a fa) (hb : JE X W b fb) : JE X W (.BinOp a .FloorDiv b pos) (dOp gFdiv fa fb) := je_op op_fdiv (opS_I (fun _ _ _ _ _ => rfl) fun _ _ h => dec_of h) ha hb
def gPow := gI (fun i j => decide (0 ≤ j ∧ j ≤ 1000000 ∧ i.natAbs < 2 ^ 64)) fun i j => .int (i ^ j.toNat)
theorem je_pow (ha : JE X W a fa) (hb : JE X W b fb) : JE X W (.BinOp a .Pow b pos) (dOp gPow fa fb) := je_op op_pow (opS_I (fun _ _ _ _ _ => rfl) fun _ _ h => dec_of h) ha hb
theorem je_neg (ha : JE X W a fa) : JE X W (.UnaryOp .USub a pos) (dOp (fun x _ => gSub (.int 0) x) fa (dC .non)) := pe_imp (pe_un un_neg ha) fun σ H Q ⟨ρ, δ, S, r, rs, h⟩ =>
  ⟨ρ, δ, S, r, rs, LG.bind h fun ρ1 x S1 v H1 s1 r1 p1 q1 => by
    have q2 : LG (om X) W (PVR (om X)) (gSub (.int 0) x S1) ρ1 H1 σ Q := q1
    cases x with
    | int i =>
      cases p1
      have q3 : LG (om X) W (PVR (om X)) (.ok (.int (0 - i)) S1) ρ1 H1 σ Q := q2
      exact ⟨i, rfl, by have := q3 ρ1 (.int (-i)) H1 .refl r1 (by show V.int (-i) = V.int (0 - i); rw [Int.zero_sub]); exact this⟩
    | _ => exact q2.elim⟩
/-- str * int -/
def gRepS : D → D → Store → R D := fun x y S => match x, y with
  | .str i, .int j => if 0 ≤ j ∧ lenOk (i.length * j.toNat) = true then .ok (.str ⟨(List.replicate j.toNat i.cps.toList).flatten.toArray⟩) S else .bad
  | _, _ => .bad
/-! ### x += e -/
def dAug (i : Nat) (g : D → D → Store → R D) (fe : DE) : DS := fun δ S => match δ[i]? with
  | some (some x) => (fe δ S).thenF δ fun y S1 => (g x y S1).thenF δ fun z S2 => .nx (δ.set i (some z)) S2
  | _ => .bad
theorem js_aug (i : Nat) {px : Pos} {op : Operator} {r : R2} {g : D → D → Store → R D} (ho : OpR X (inplaceOp op) r) (hs : OpS X W g r) (hN : X.N.Nodup) (he : JE X W e fa) (hi : X.N[i]? = some x := by rfl) (hx : Loc X.env.scope x := by first | exact Or.inl rfl | exact Or.inr rfl)
    (hf : X.fn x = true ∨ X.env.scope.names.lookup x = some .local := by first | exact .inl rfl | exact .inr rfl) : JS X W (.AugAssign (.Name x px) op e pos) (dAug i g fa) :=
  ps_imp (ps_aug (i := i) (ti := r) hN hi hx he (fun pins s σ H x y v u Q I hv rx ry q => augR ho I hv rx ry q) hf) fun E σ H ⟨ρ, δ, S, r, rs, h⟩ => by
    unfold dAug at h
    split at h
    · rename_i d ed
      obtain ⟨v, hv, q⟩ := rs.get ed
      refine ⟨v, hv, ρ, δ, S, r, rs, LF.of r rs h fun ρ1 y S1 u H1 s1 r1 p1 rs1 h1 => ?_⟩
      exact hs ρ1 H1 S1 σ _ d y v u r1 (r.vr s1 q) p1 (LF.of r1 rs1 h1 fun ρ2 z S2 w H2 s2 r2 p2 rs2 h2 => h2 ρ2 _ H2 .refl r2 (rs2.set p2 i))
    · exact h.elim
end
end DL
namespace DL
open PySem PySem.Spec L2

theorem Rel.lstAt {Ω : Wd} {ρ : List Addr} {H : Hp} {S : Store} {n : Nat} {v : V} {ds : List D} (r : Rel Ω ρ H S) (h : VR Ω.K ρ H (.ref n) v) (e : S[n]? = some (.lst ds)) : ∃ a vs, v = .ref a ∧ ρ[n]? = some a ∧ H a = some (.lst vs) ∧ VRs Ω.K ρ H ds vs := by
  obtain ⟨a, h1, rfl⟩ := h
  obtain ⟨vs, h2, h3⟩ := r.ob n a _ h1 e
  exact ⟨a, vs, rfl, h1, h2, h3⟩
theorem atI_vrs {K : PySem.W.Frag} {ρ : List Addr} {H : Hp} {ds : List D} {vs : List V} {i : Int} {d : D} (h : VRs K ρ H ds vs) (e : atI ds i = some d) : ∃ v, atI vs i = some v ∧ VR K ρ H d v := by
  unfold atI at e ⊢
  rw [← VRs.len h]
  cases q : ixN ds.length i with
  | none => rw [q] at e; cases e
  | some j => rw [q] at e; exact VRs.get h e
section
variable {X : Cx} {W : WX} {pos p apos cpos : Pos} {a b c e o : Expr} {es : List Expr} {fa fb fc fo : DE} {fs : DA} {f g : DS} {x : Str}
/-! ### places -/
def items (S : Store) : D → Option (List D)
  | .tup ds => some ds
  | .lst ds => some ds
  | .ref n => match S[n]? with
    | some (.lst ds) => some ds
    | _ => none
  | _ => none
def gIx : D → D → Store → R D := fun x y S => match y with
  | .int i => match x with
    | .str z => if lenOk z.length = true then match atI z.cps.toList i with
        | some c => .ok (.str ⟨#[c]⟩) S
        | none => .bad
      else .bad
    | x => match items S x with
      | some ds => match atI ds i with
        | some d => .ok d S
        | none => .bad
      | none => .bad
  | _ => .bad
theorem items_ok {Ω : Wd} {ρ : List Addr} {H : Hp} {S : Store} {x : D} {v : V} {ds : List D} (r : Rel Ω ρ H S) (hx : VR Ω.K ρ H x v) (e : items S x = some ds) : ∃ a vs, v = .ref a ∧ (SqL Ω.K H a vs ∨ SqT Ω.K H a vs) ∧ VRs Ω.K ρ H ds vs := by
  cases x with
  | tup xs => cases e; obtain ⟨a, vs, rfl, h, q⟩ := hx; exact ⟨a, vs, rfl, .inr (.of h), q⟩
  | lst xs => cases e; obtain ⟨a, vs, rfl, h, n, q⟩ := hx; exact ⟨a, vs, rfl, .inl (.inl h), q⟩
  | ref n =>
    have e' : (match S[n]? with | some (O.lst ds) => some ds | _ => none) = some ds := e
    cases q : S[n]? with
    | none => rw [q] at e'; cases e'
    | some o =>
      rw [q] at e'
      cases o with
      | lst es => cases e'; obtain ⟨a, vs, rfl, _, h1, h2⟩ := r.lstAt hx q; exact ⟨a, vs, rfl, .inl (.of h1), h2⟩
      | _ => cases e'
  | _ => cases e
theorem opS_ix : OpS X W gIx (rIx X.K) := by
  intro ρ H S σ Q x y v u r hx hy h
  cases y with
  | int i =>
    cases hy
    have key : ∀ ds, items S x = some ds → (match atI ds i with | some d => R.ok d S | none => R.bad) = gIx x (.int i) S → rIx X.K v (.int i) H Q := fun ds e eq => by
      rw [← eq] at h
      obtain ⟨p, vs, rfl, hq, hv⟩ := items_ok r hx e
      cases e2 : atI ds i with
      | none => rw [e2] at h; exact h.elim
      | some d =>
        rw [e2] at h
        obtain ⟨w, h1, h2⟩ := atI_vrs hv e2
        rcases hq with hq | hq
        · exact .inl ⟨p, vs, i, w, rfl, rfl, hq, h1, h ρ w H .refl r h2⟩
        · exact .inr (.inl ⟨p, vs, i, w, rfl, rfl, hq, h1, h ρ w H .refl r h2⟩)
    have bad : items S x = none → (∀ z, x ≠ .str z) → rIx X.K v (.int i) H Q := fun e nz => by
      have : gIx x (.int i) S = .bad := by
        unfold gIx
        cases x with
        | str z => exact absurd rfl (nz z)
        | _ => simp [e]
      rw [this] at h
      exact h.elim
    cases x with
    | str z =>
      cases hx
      have h' : LG (om X) W (PVR (om X)) (if lenOk z.length = true then (match atI z.cps.toList i with | some c => R.ok (D.str ⟨#[c]⟩) S | none => R.bad) else R.bad) ρ H σ Q := h
      by_cases hl : lenOk z.length = true
      · rw [if_pos hl] at h'
        cases e2 : atI z.cps.toList i with
        | none => rw [e2] at h'; exact h'.elim
        | some c => rw [e2] at h'; exact .inr (.inr ⟨z, i, c, rfl, rfl, lenOk_of hl, e2, h' ρ _ H .refl r rfl⟩)
      · rw [if_neg hl] at h'; exact h'.elim
    | tup xs => exact key xs rfl rfl
    | lst xs => exact key xs rfl rfl
    | ref n =>
      cases e : items S (.ref n) with
      | none => exact bad e fun z q => by cases q
      | some ds => exact key ds e (by show _ = (match items S (.ref n) with | some ds => _ | none => _); rw [e])
    | non => exact bad rfl fun z q => by cases q
    | bl k => exact bad rfl fun z q => by cases q
    | int k => exact bad rfl fun z q => by cases q
    | opq => exact bad rfl fun z q => by cases q
  | _ => exact h.elim
theorem je_ix (ha : JE X W a fa) (hb : JE X W b fb) (hs : PlainIx b := by intro _ _; rfl) : JE X W (.Subscript a b pos) (dOp gIx fa fb) := pe_imp (pe_ix ix_seq ha hb hs) fun σ H Q h => LE.two opS_ix h
/-- xs[i] = v of a list of the store -/
def sIx (o i v : D) (S : Store) : Option Store := match o, i with
  | .ref n, .int k => match S[n]? with
    | some (.lst ds) => match ixN ds.length k with
      | some j => some (S.set n (.lst (ds.set j v)))
      | none => none
    | _ => none
  | _, _ => none
def dgIx (fo fi : DE) : DG := fun d δ S => (fo δ S).bind fun o S1 => (fi δ S1).bind fun i S2 => match sIx o i d S2 with
  | some S3 => .ok δ S3
  | none => .bad
theorem LTo.part {Ω : Wd} {f : DE} {k : D → Store → R DEnv} {δ : DEnv} {S : Store} {ρ : List Addr} {H : Hp} {σ : St} {Q : St → Hp → Prop} {Q1 : VK} (rl : Rel Ω ρ H S) (rs : RelS Ω.K ρ H δ σ) (h : LTo Ω ((f δ S).bind k) ρ H Q)
    (q : ∀ ρ1 d S1 v H1, Step ρ H ρ1 H1 → Rel Ω ρ1 H1 S1 → VR Ω.K ρ1 H1 d v → RelS Ω.K ρ1 H1 δ σ → LTo Ω (k d S1) ρ1 H1 Q → Q1 v H1) : LE Ω W f σ H Q1 := by
  refine ⟨ρ, δ, S, rl, rs, ?_⟩
  cases e : f δ S with
  | ok d S' => rw [e] at h; exact fun ρ' v H' s r' p => q ρ' d S' v H' s r' p (rl.rs s rs) (LTo.shift s h)
  | exc x S' => rw [e] at h; exact h.elim
  | bad => rw [e] at h; exact h
theorem jg_ix (ho : JE X W o fo) (hi : JE X W a fa) (ha : ∀ v, assign (.Subscript o a pos) X.env v = (do let ov ← holding [v] (eval o X.env); let iv ← holding [v, ov] (eval a X.env); standAt pos; holding [v, ov, iv] (setItem ov iv v); release [v, ov, iv] []) := by intro _; rfl) : JG X (.Subscript o a pos) (dgIx fo fa) := pg_imp (pg_sub ho hi set_list ha) fun v σ H Q ⟨ρ, δ, S, d, r, rs, hv, h⟩ => by
  refine LTo.part r rs h fun ρ1 x S1 w H1 s1 r1 p1 rs1 h1 => LTo.part r1 rs1 h1 fun ρ2 y S2 u H2 s2 r2 p2 rs2 h2 => ?_
  cases x with
  | ref n =>
    cases y with
    | int k =>
      cases p2
      cases e : S2[n]? with
      | none => rw [show sIx (.ref n) (.int k) d S2 = none by unfold sIx; simp only [e]] at h2; exact h2.elim
      | some ob =>
        cases ob with
        | lst ds =>
          cases e2 : ixN ds.length k with
          | none => rw [show sIx (.ref n) (.int k) d S2 = none by unfold sIx; simp only [e, e2]] at h2; exact h2.elim
          | some j =>
            rw [show sIx (.ref n) (.int k) d S2 = some (S2.set n (.lst (ds.set j d))) by unfold sIx; simp only [e, e2]] at h2
            obtain ⟨q, vs, rfl, hq, hh, hvs⟩ := r2.lstAt (r1.vr s2 p1) e
            have hm := List.mem_of_getElem? hq
            have st : Step ρ2 H2 ρ2 (upd H2 q (.lst (vs.set j v))) := .write hm hh
            have hd := (r.vr (s1.trans s2) hv)
            refine ⟨q, vs, k, j, rfl, rfl, hh, by rw [← VRs.len hvs]; exact e2, h2 ρ2 σ _ st (r2.write hq hh ⟨_, upd_same, r2.vrs st (VRs.set hd j hvs)⟩) (r2.rs st rs2)⟩
        | _ => rw [show sIx (.ref n) (.int k) d S2 = none by unfold sIx; simp only [e]] at h2; exact h2.elim
    | _ => exact h2.elim
  | _ => exact h2.elim
/-! ### built-in functions by name -/
def CallS (X : Cx) (W : WX) (g : List D → Store → R D) (r : List V → Hp → VK → Prop) : Prop :=
  ∀ ρ H S σ Q xs vs, Rel (om X) ρ H S → VRs X.K ρ H xs vs → LG (om X) W (PVR (om X)) (g xs S) ρ H σ Q → r vs H Q
def dCall (g : List D → Store → R D) (fs : DA) : DE := fun δ S => (fs δ S).bind g
variable {id : String} {r : List V → Hp → VK → Prop} {g' : List D → Store → R D}
theorem je_callB (hc : CallR X (.builtin id) r) (hs : CallS X W g' r) (hg : Gl X x) (hm : X.mg x = none) (hv : bootBuiltins x = some (.builtin id)) (ha : JA X W (e :: es) fs) (hn : x ≠ "__name__" := by decide) (hdb : (x == ("__debug__" : Str)) = false := by decide)
    (he : starEach (e :: es) X.env = (false, eval e X.env) :: starEach es X.env := by rfl) (hpl : (backTo pos (starEach es X.env)).any (·.1) = false := by rfl) : JE X W (.Call (.Name x p) (e :: es) [] pos) (dCall g' fs) :=
  pe_imp (pe_callB hc hg hm hv ha hn hdb he hpl) fun σ H Q ⟨ρ, δ, S, rl, rs, h⟩ => ⟨ρ, δ, S, rl, rs, LG.bind h fun ρ1 x S1 v H1 s1 r1 p1 q1 => hs ρ1 H1 S1 σ Q x v r1 p1 q1⟩
theorem je_callT {T : String} (hc : CallR X (.type T) r) (hs : CallS X W g' r) (hg : Gl X x) (hm : X.mg x = none) (hv : bootBuiltins x = some (.type T)) (ha : JA X W (e :: es) fs) (hn : x ≠ "__name__" := by decide) (hdb : (x == ("__debug__" : Str)) = false := by decide)
    (he : starEach (e :: es) X.env = (false, eval e X.env) :: starEach es X.env := by rfl) (hpl : (backTo pos (starEach es X.env)).any (·.1) = false := by rfl) : JE X W (.Call (.Name x p) (e :: es) [] pos) (dCall g' fs) :=
  pe_imp (pe_callTy hc hg hm hv ha hn hdb he hpl) fun σ H Q ⟨ρ, δ, S, rl, rs, h⟩ => ⟨ρ, δ, S, rl, rs, LG.bind h fun ρ1 x S1 v H1 s1 r1 p1 q1 => hs ρ1 H1 S1 σ Q x v r1 p1 q1⟩
/-- what a function of one value asks -/
theorem vrs1 {K : PySem.W.Frag} {ρ : List Addr} {H : Hp} {d : D} {vs : List V} (h : VRs K ρ H [d] vs) : ∃ v, vs = [v] ∧ VR K ρ H d v := by
  obtain ⟨v, ws, rfl, h1, h2⟩ := h; cases h2; exact ⟨v, rfl, h1⟩
theorem vrs2 {K : PySem.W.Frag} {ρ : List Addr} {H : Hp} {d d' : D} {vs : List V} (h : VRs K ρ H [d, d'] vs) : ∃ v u, vs = [v, u] ∧ VR K ρ H d v ∧ VR K ρ H d' u := by
  obtain ⟨v, ws, rfl, h1, h2⟩ := h
  obtain ⟨u, rfl, h3⟩ := vrs1 h2
  exact ⟨v, u, rfl, h1, h3⟩
def gLen : List D → Store → R D := fun xs S => match xs with
  | [.str z] => if lenOk z.length = true then .ok (.int z.length) S else .bad
  | [x] => match items S x with
    | some ds => .ok (.int ds.length) S
    | none => .bad
  | _ => .bad
theorem cr_len : CallR X (.builtin "len") (fun xs H Q => ∃ x n, xs = [x] ∧ LenV X.K x H n ∧ Q (.int n) H) := call_len
theorem callS_len : CallS X W gLen (fun xs H Q => (∃ z, xs = [.str z] ∧ z.length ≤ sizeLine ∧ Q (.int z.length) H) ∨ ∃ p ys, xs = [.ref p] ∧ (SqL X.K H p ys ∨ SqT X.K H p ys) ∧ Q (.int ys.length) H) := by
  intro ρ H S σ Q xs vs r hx h
  match xs with
  | [] => exact h.elim
  | [x] =>
    obtain ⟨v, rfl, hv⟩ := vrs1 hx
    by_cases hz : ∃ z, x = .str z
    · obtain ⟨z, rfl⟩ := hz
      cases hv
      have h' : LG (om X) W (PVR (om X)) (if lenOk z.length = true then R.ok (D.int z.length) S else R.bad) ρ H σ Q := h
      by_cases hl : lenOk z.length = true
      · rw [if_pos hl] at h'; exact .inl ⟨z, rfl, lenOk_of hl, h' ρ _ H .refl r rfl⟩
      · rw [if_neg hl] at h'; exact h'.elim
    · have eq : gLen [x] S = (match items S x with | some ds => .ok (.int ds.length) S | none => .bad) := by
        unfold gLen
        cases x with
        | str z => exact absurd ⟨z, rfl⟩ hz
        | _ => rfl
      rw [eq] at h
      cases e : items S x with
      | none => rw [e] at h; exact h.elim
      | some ds =>
        rw [e] at h
        obtain ⟨p, vs, rfl, hq, hvs⟩ := items_ok r hv e
        exact .inr ⟨p, vs, rfl, hq, h ρ _ H .refl r (by show V.int _ = V.int _; rw [VRs.len hvs])⟩
  | x :: y :: t =>
    rw [show gLen (x :: y :: t) S = .bad by unfold gLen; cases x <;> rfl] at h
    exact h.elim
end
end DL
namespace DL
open PySem PySem.Spec L2

/-- nothing is let out -/
abbrev W0 : WX := fun _ _ _ _ => False
def R.nox {α : Type} (r : R α) : R α := match r with
  | .ok a S => .ok a S
  | _ => .bad
def wipeD (δ : DEnv) : List Nat → DEnv
  | [] => δ
  | v :: vs => (wipeD δ vs).set v none
theorem RelS.wipe {K : PySem.W.Frag} {ρ : List Addr} {H : Hp} {δ : DEnv} {σ : St} (h : RelS K ρ H δ σ) : ∀ vs : List Nat, RelS K ρ H (wipeD δ vs) (wipe σ vs)
  | [] => h
  | v :: vs => (RelS.wipe h vs).wipe1 v
theorem LE.nox {Ω : Wd} {f : DE} {δ : DEnv} {S : Store} {ρ : List Addr} {H : Hp} {σ : St} {Q : VK} {k : D → Store → R D} {Q' : VK} {σ' : St} {W : WX} (rl : Rel Ω ρ H S) (rs : RelS Ω.K ρ H δ σ) (h : LG Ω W (PVR Ω) ((f δ S).nox.bind k) ρ H σ' Q')
    (q : ∀ ρ1 x S1 v H1, Step ρ H ρ1 H1 → Rel Ω ρ1 H1 S1 → VR Ω.K ρ1 H1 x v → LG Ω W (PVR Ω) (k x S1) ρ1 H1 σ' Q' → Q v H1) : LE Ω W0 f σ H Q := by
  refine ⟨ρ, δ, S, rl, rs, ?_⟩
  cases e : f δ S with
  | ok d S' => rw [e] at h; exact fun ρ' v H' s r p => q ρ' d S' v H' s r p (LG.shift s h)
  | exc x S' => rw [e] at h; exact h.elim
  | bad => rw [e] at h; exact h.elim
section
variable {X : Cx} {W : WX} {pos p apos cpos : Pos} {a b c e o : Expr} {es : List Expr} {fa fb fc fo : DE} {fs : DA} {f g : DS} {x : Str}
/-! ### list comprehensions -/
def dLcL (tg : DG) (t : DT) (fe : DE) : List D → DEnv → Store → R (List D)
  | [], _, S => .ok [] S
  | x :: xs, δ, S => match tg x δ S with
    | .ok δ1 S1 => (t δ1 S1).nox.bind fun k S2 => if k = true then (fe δ1 S2).nox.bind fun y S3 => (dLcL tg t fe xs δ S3).bind fun ys S4 => .ok (y :: ys) S4 else dLcL tg t fe xs δ S2
    | _ => .bad
theorem R.nox_exc {α : Type} {r : R α} {x : Ex} {S : Store} : r.nox ≠ .exc x S := by cases r <;> intro h <;> cases h
theorem dLcL_nox {tg : DG} {t : DT} {fe : DE} : ∀ (xs : List D) (δ : DEnv) (S : Store) (y : Ex) (S' : Store), dLcL tg t fe xs δ S ≠ .exc y S'
  | [], δ, S, y, S' => by intro h; cases h
  | x :: xs, δ, S, y, S' => by
    unfold dLcL
    cases tg x δ S with
    | ok δ1 S1 =>
      show (t δ1 S1).nox.bind _ ≠ _
      cases t δ1 S1 with
      | ok k S2 =>
        cases k with
        | false => exact dLcL_nox xs δ S2 y S'
        | true =>
          show (fe δ1 S2).nox.bind _ ≠ _
          cases fe δ1 S2 with
          | ok z S3 =>
            show (dLcL tg t fe xs δ S3).bind _ ≠ _
            cases e : dLcL tg t fe xs δ S3 with
            | ok w S4 => intro h; cases h
            | exc a b => exact absurd e (dLcL_nox xs δ S3 a b)
            | bad => intro h; cases h
          | exc a b => intro h; cases h
          | bad => intro h; cases h
      | exc a b => intro h; cases h
      | bad => intro h; cases h
    | exc a b => intro h; cases h
    | bad => intro h; cases h
def dLc (fi : DA) (tg : DG) (t : DT) (fe : DE) (own : List Nat) : DE := fun δ S => (fi δ S).bind fun xs S1 => (dLcL tg t fe xs (wipeD δ own) S1).bind rLst
def dYes : DT := fun _ S => .ok true S
theorem R.bind_bind {α β γ : Type} (r : R α) (k : α → Store → R β) (l : β → Store → R γ) : (r.bind k).bind l = r.bind fun a S => (k a S).bind l := by cases r <;> rfl
/-! targets of a comprehension: its own slots alone are written -/
theorem wipe_get {σ : St} {i : Nat} : ∀ {vs : List Nat}, (wipe σ vs)[i]? = if i ∈ vs then (if i < σ.length then some none else none) else σ[i]?
  | [] => by simp [wipe]
  | v :: vs => by
    unfold wipe
    rw [List.getElem?_set, wipe_get (vs := vs), wipe_length]
    by_cases h : v = i
    · subst h; simp
    · rw [if_neg h]
      have : (i ∈ v :: vs) ↔ i ∈ vs := by simp [Ne.symm h]
      by_cases h2 : i ∈ vs
      · rw [if_pos h2, if_pos (this.mpr h2)]
      · rw [if_neg h2, if_neg (fun q => h2 (this.mp q))]
theorem wipe_set {σ : St} {i : Nat} {v : Option V} {vs : List Nat} (h : i ∈ vs) : wipe (σ.set i v) vs = wipe σ vs := by
  apply List.ext_getElem?
  intro k
  rw [wipe_get, wipe_get, List.length_set]
  by_cases hk : k ∈ vs
  · rw [if_pos hk, if_pos hk]
  · rw [if_neg hk, if_neg hk, List.getElem?_set_ne (fun q => hk (by rw [← q]; exact h))]
theorem wipe_wipe {σ : St} {vs : List Nat} : wipe (wipe σ vs) vs = wipe σ vs := by
  apply List.ext_getElem?
  intro k
  rw [wipe_get (σ := wipe σ vs), wipe_length]
  by_cases hk : k ∈ vs
  · rw [if_pos hk, wipe_get, if_pos hk]
  · rw [if_neg hk]
def LTow (Ω : Wd) (vs : List Nat) (σ : St) (r : R DEnv) (ρ : List Addr) (H : Hp) (Q : St → Hp → Prop) : Prop := match r with
  | .ok δ' S' => ∀ ρ' σ' H', Step ρ H ρ' H' → Rel Ω ρ' H' S' → RelS Ω.K ρ' H' δ' σ' → wipe σ' vs = wipe σ vs → Q σ' H'
  | _ => False
theorem LTow.shift {Ω : Wd} {vs : List Nat} {σ : St} {r : R DEnv} {ρ ρ1 : List Addr} {H H1 : Hp} {Q : St → Hp → Prop} (s : Step ρ H ρ1 H1) (h : LTow Ω vs σ r ρ H Q) : LTow Ω vs σ r ρ1 H1 Q := by
  cases r with
  | ok δ' S' => exact fun ρ' a b t => h ρ' a b (s.trans t)
  | exc x S' => exact h
  | bad => exact h
theorem LTow.slots {Ω : Wd} {vs : List Nat} {σ σ1 : St} {r : R DEnv} {ρ : List Addr} {H : Hp} {Q : St → Hp → Prop} (e : wipe σ1 vs = wipe σ vs) (h : LTow Ω vs σ r ρ H Q) : LTow Ω vs σ1 r ρ H Q := by
  cases r with
  | ok δ' S' => exact fun ρ' a b t r' rs' e' => h ρ' a b t r' rs' (e'.trans e)
  | exc x S' => exact h
  | bad => exact h
def LTgw (Ω : Wd) (vs : List Nat) (g : DG) : TG := fun v σ H Q => ∃ ρ δ S d, Rel Ω ρ H S ∧ RelS Ω.K ρ H δ σ ∧ VR Ω.K ρ H d v ∧ LTow Ω vs σ (g d δ S) ρ H Q
def LTgsw (Ω : Wd) (vs : List Nat) (g : DGs) : TGs := fun v σ H Q => ∃ ρ δ S d, Rel Ω ρ H S ∧ RelS Ω.K ρ H δ σ ∧ VRs Ω.K ρ H d v ∧ LTow Ω vs σ (g d δ S) ρ H Q
abbrev JGw (X : Cx) (vs : List Nat) (e : Expr) (g : DG) : Prop := PG X e (LTgw (om X) vs g)
abbrev JGsw (X : Cx) (vs : List Nat) (e : List Expr) (g : DGs) : Prop := PGs X e (LTgsw (om X) vs g)
theorem jgw_name (i : Nat) {vs : List Nat} {x : Str} (hN : X.N.Nodup) (hm : i ∈ vs := by decide) (hi : X.N[i]? = some x := by rfl) (hx : Loc X.env.scope x := by first | exact Or.inl rfl | exact Or.inr rfl) (hf : X.fn x = true ∨ X.env.scope.names.lookup x = some .local := by first | exact .inl rfl | exact .inr rfl) : JGw X vs (.Name x pos) (dgName i) :=
  pg_imp (pg_name hN hi hx hf) fun v σ H Q ⟨ρ, δ, S, d, r, rs, hv, h⟩ => h ρ _ H .refl r (rs.set hv i) (wipe_set hm)
theorem jgsw_nil {vs : List Nat} : JGsw X vs [] dgNil := pgs_imp pgs_nil fun v σ H Q ⟨ρ, δ, S, d, r, rs, hv, h⟩ => by
  cases d with
  | nil => cases hv; exact ⟨rfl, h ρ σ H .refl r rs rfl⟩
  | cons x xs => exact h.elim
theorem jgsw_cons {vs : List Nat} {g : DG} {gs : DGs} (h1 : JGw X vs e g) (h2 : JGsw X vs es gs) (hs : (assignEach (e :: es) X.env).map (·.2) = assign e X.env :: (assignEach es X.env).map (·.2) := by rfl) : JGsw X vs (e :: es) (dgCons g gs) := pgs_imp (pgs_cons h1 h2 hs) fun v σ H Q ⟨ρ, δ, S, d, r, rs, hv, h⟩ => by
  cases d with
  | nil => exact h.elim
  | cons x xs =>
    obtain ⟨y, ys, rfl, hy, hys⟩ := hv
    refine ⟨y, ys, rfl, ρ, δ, S, x, r, rs, hy, ?_⟩
    have h' : LTow (om X) vs σ ((g x δ S).bind fun δ1 S1 => gs xs δ1 S1) ρ H Q := h
    cases e1 : g x δ S with
    | ok δ1 S1 =>
      rw [e1] at h'
      exact fun ρ' σ' H' s r' rs' e' => ⟨ρ', δ1, S1, xs, r', rs', r.vrs s hys, LTow.slots e' (LTow.shift s h')⟩
    | exc x S' => rw [e1] at h'; exact h'
    | bad => rw [e1] at h'; exact h'
theorem jgw_tup {vs : List Nat} {k : Nat} {n : Nat} {gs : DGs} (hc : X.calm = true) (h : JGsw X vs es gs) (hl : (assignEach es X.env).length = n := by rfl) (hst : (assignEach es X.env).findIdx? (·.1) = none := by rfl) : JGw X vs (.Tuple es k pos) (dgTup n gs) := pg_imp (pg_tup hc h hl hst) fun v σ H Q ⟨ρ, δ, S, d, r, rs, hv, h⟩ => by
  cases d with
  | tup ds =>
    obtain ⟨a, vs', rfl, hs, hvs⟩ := hv
    have h' : LTow (om X) vs σ (if ds.length = n then gs ds δ S else .bad) ρ H Q := h
    by_cases hn : ds.length = n
    · rw [if_pos hn] at h'
      exact ⟨a, vs', rfl, .of hs, by rw [← VRs.len hvs, hn], ρ, δ, S, ds, r, rs, hvs, h'⟩
    · rw [if_neg hn] at h'
      exact h'.elim
  | _ => exact h.elim
theorem del_upd {H : Hp} {p : Addr} {o : HO} (h : H p = none) : del (upd H p o) p = H := by
  funext b
  by_cases e : b = p
  · rw [e, del_same, h]
  · rw [del_ne e, upd_ne e]
theorem Sub.del {H : Hp} {p : Addr} : Sub (del H p) H := fun a o h => (del_some h).2
/-- the state between two turns: D is the list that is made -/
def LcAt (Ω : Wd) (W : WX) (ρ1 : List Addr) (H1 : Hp) (p : Addr) (rest : Store → R (List D)) (σ : St) (Q : VK) (H : Hp) : Prop :=
  ∃ ρ' S' ys ws, H p = some (.lst ws) ∧ Step ρ1 H1 ρ' (del H p) ∧ Rel Ω ρ' (del H p) S' ∧ VRs Ω.K ρ' (del H p) ys ws ∧ LG Ω W (PVR Ω) ((rest S').bind fun zs S2 => rLst (ys ++ zs) S2) ρ' (del H p) σ Q
abbrev hE (t : TE) : TE := fun σ H Q => ∃ p xs, H p = some (.lst xs) ∧ t σ (del H p) fun v H' => H' p = none → Q v (upd H' p (.lst xs))
abbrev hT (t : TT) : TT := fun σ H Q => ∃ p xs, H p = some (.lst xs) ∧ t σ (del H p) fun v H' => H' p = none → Q v (upd H' p (.lst xs))
abbrev hG (t : TG) : TG := fun v σ H Q => ∃ p xs, H p = some (.lst xs) ∧ t v σ (del H p) fun σ' H' => H' p = none → Q σ' (upd H' p (.lst xs))
theorem LE.lc {fi : DA} {gt : DG} {t : DT} {vs : List Nat} {σ : St} {H : Hp} {Q : VK} (h : LE (om X) W (dLc fi gt t fa vs) σ H Q) : tLc (LI (om X) W fi) (hG (LTgw (om X) vs gt)) (hT (LT (om X) W0 t)) (hE (LE (om X) W0 fa)) vs σ H Q := by
  obtain ⟨ρ, δ, S, r, rs, h⟩ := h
  refine ⟨ρ, δ, S, r, rs, LG.bind h fun ρ1 xs S1 J H1 s1 r1 wk q1 p hp => ?_⟩
  have rsw : RelS X.K ρ1 H1 (wipeD δ vs) (wipe σ vs) := (r.rs s1 rs).wipe _
  refine ⟨fun i m Hc => m = xs.length - i ∧ i ≤ xs.length ∧ LcAt (om X) W ρ1 H1 p (dLcL gt t fa (xs.drop i) (wipeD δ vs)) σ Q Hc, ⟨xs.length, by simp, Nat.zero_le _, ρ1, S1, [], [], upd_same, by rw [del_upd hp]; exact .refl, by rw [del_upd hp]; exact r1, rfl, by rw [del_upd hp]; exact q1⟩, ?_⟩
  rintro i m Hc ⟨rfl, hi, ρ', S', ys, ws, hD, st, rl, hys, q⟩
  have hDn : (del Hc p) p = none := del_same
  by_cases hlt : i < xs.length
  · refine .inr ⟨wk.go i ρ' (del Hc p) Hc st .del hlt, fun H' => i + 1 ≤ xs.length ∧ LcAt (om X) W ρ1 H1 p (dLcL gt t fa (xs.drop (i + 1)) (wipeD δ vs)) σ Q H', fun H' z => ⟨xs.length - (i + 1), by omega, rfl, z⟩, fun x H'' y => ?_⟩
    obtain ⟨G, sG, rG, vG, eG, kG⟩ := wk.yld i xs[i] x ρ' (del Hc p) Hc H'' S' st rl .del (List.getElem?_eq_getElem hlt) y
    obtain ⟨eD, eD2⟩ := kG p (by rw [hD]; intro z; cases z)
    have hG : G = del H'' p := funext fun a => by
      by_cases ha : a = p
      · rw [ha, eD2, hDn, del_same]
      · rw [eG a (del_ne ha), del_ne ha]
    subst hG
    rw [List.drop_eq_getElem_cons hlt] at q
    have q0 : LG (om X) W (PVR (om X)) ((dLcL gt t fa (xs[i] :: xs.drop (i + 1)) (wipeD δ vs) S').bind fun zs S2 => rLst (ys ++ zs) S2) ρ' (del H'' p) σ Q := LG.shift sG q
    refine ⟨p, ws, eD.trans hD, ρ', wipeD δ vs, S', xs[i], rG, rl.rs sG (r1.rs st rsw), vG, ?_⟩
    unfold dLcL at q0
    cases e1 : gt xs[i] (wipeD δ vs) S' with
    | exc a b => rw [e1] at q0; exact q0.elim
    | bad => rw [e1] at q0; exact q0.elim
    | ok δ1 S2 =>
      rw [e1] at q0
      refine fun ρ2 σ2 H2 s2 r2 rs2 ew hn2 => ⟨by rw [ew, wipe_wipe], p, ws, upd_same, ?_⟩
      rw [del_upd hn2]
      refine ⟨ρ2, δ1, S2, r2, rs2, ?_⟩
      have q1 : LG (om X) W (PVR (om X)) (((t δ1 S2).nox.bind fun k S3 => if k = true then (fa δ1 S3).nox.bind fun y S4 => (dLcL gt t fa (xs.drop (i + 1)) (wipeD δ vs) S4).bind fun ys S5 => .ok (y :: ys) S5 else dLcL gt t fa (xs.drop (i + 1)) (wipeD δ vs) S3).bind fun zs S6 => rLst (ys ++ zs) S6) ρ2 H2 σ Q := LG.shift s2 q0
      cases e2 : t δ1 S2 with
      | exc a b => rw [e2] at q1; exact q1.elim
      | bad => rw [e2] at q1; exact q1.elim
      | ok k S3 =>
        rw [e2] at q1
        refine fun ρ3 b H3 s3 r3 eb hn3 => ?_
        cases eb
        have q2 := LG.shift s3 q1
        have st3 : Step ρ1 H1 ρ3 H3 := ((st.trans sG).trans s2).trans s3
        have hys3 : VRs X.K ρ3 H3 ys ws := r2.vrs s3 (rG.vrs s2 (rl.vrs sG hys))
        cases k with
        | false =>
          rw [if_neg (by intro z; cases z)]
          refine ⟨hlt, ρ3, S3, ys, ws, upd_same, ?_⟩
          rw [del_upd hn3]
          exact ⟨st3, r3, hys3, q2⟩
        | true =>
          rw [if_pos rfl]
          refine ⟨p, ws, upd_same, ?_⟩
          rw [del_upd hn3]
          have q3 : LG (om X) W (PVR (om X)) ((fa δ1 S3).nox.bind fun y S4 => (dLcL gt t fa (xs.drop (i + 1)) (wipeD δ vs) S4).bind fun zs S5 => rLst (ys ++ y :: zs) S5) ρ3 H3 σ Q := by
            have e4 : (((fa δ1 S3).nox.bind fun y S3 => (dLcL gt t fa (xs.drop (i + 1)) (wipeD δ vs) S3).bind fun ys S4 => R.ok (y :: ys) S4).bind fun zs S2 => rLst (ys ++ zs) S2) = ((fa δ1 S3).nox.bind fun y S4 => (dLcL gt t fa (xs.drop (i + 1)) (wipeD δ vs) S4).bind fun zs S5 => rLst (ys ++ y :: zs) S5) := by
              rw [R.bind_bind]
              congr 1; funext y S4
              rw [R.bind_bind]
              rfl
            rw [← e4]; exact q2
          refine LE.nox r3 (r2.rs s3 rs2) q3 fun ρ4 y S4 v H4 s4 r4 p4 q4 hn4 => ?_
          have hlen : ws.length < sizeLine := by
            cases e5 : dLcL gt t fa (xs.drop (i + 1)) (wipeD δ vs) S4 with
            | exc a b => exact absurd e5 (dLcL_nox _ _ _ _ _)
            | bad => rw [e5] at q4; exact q4.elim
            | ok zs S5 =>
              rw [e5] at q4
              have q5 : LG (om X) W (PVR (om X)) (rLst (ys ++ y :: zs) S5) ρ4 H4 σ Q := q4
              by_cases hl : lenOk (ys ++ y :: zs).length = true
              · have := lenOk_of hl
                rw [← VRs.len hys]
                simp at this; omega
              · rw [show rLst (ys ++ y :: zs) S5 = .bad from if_neg hl] at q5
                exact q5.elim
          refine ⟨ws, upd_same, hlen, hlt, ρ4, S4, ys ++ [y], ws ++ [v], upd_same, ?_⟩
          rw [upd_upd, del_upd hn4]
          refine ⟨st3.trans s4, r4, VRs.append (r3.vrs s4 hys3) ⟨v, [], rfl, p4, rfl⟩, ?_⟩
          simpa using q4
  · have e : i = xs.length := by omega
    subst e
    rw [List.drop_length] at q
    have q' : LG (om X) W (PVR (om X)) (rLst (ys ++ []) S') ρ' (del Hc p) σ Q := q
    rw [List.append_nil] at q'
    refine .inl ⟨wk.stop ρ' (del Hc p) Hc st .del, ?_⟩
    have := (LG.lst rl hys q').2 p hDn
    rw [upd_del hD] at this
    exact this
theorem je_lc {elt tg iter : Expr} {ifs : List Expr} {scope : Scope} {own : List (Str × Nat)} {fi : DA} {gt : DG} {t : DT} (hc : X.calm = true) (hN : X.N.Nodup) (hi : JI X W tg iter fi) (ok : BlkOk X.N X.env.scope scope own)
    (hg : ∀ (s : Shared) (H : Hp) (C : Addr) (cl : List (Str × Addr)) (fp : List Addr), PG (X.blk s H scope (compEnvC scope cl C X.env) fp) tg (LTgw (om X) (own.map (·.2)) gt))
    (ht : ∀ (s : Shared) (H : Hp) (C : Addr) (cl : List (Str × Addr)) (fp : List Addr), PTs (X.blk s H scope (compEnvC scope cl C X.env) fp) ifs (LT (om X) W0 t))
    (he : ∀ (s : Shared) (H : Hp) (C : Addr) (cl : List (Str × Addr)) (fp : List Addr), PE (X.blk s H scope (compEnvC scope cl C X.env) fp) elt (LE (om X) W0 fa)) (hs : ∀ x, foldedSetIterable iter X.env x = pure x := by intro _; rfl) :
    JE X W (.ListComp elt [⟨tg, iter, ifs, 0⟩] scope pos) (dLc fi gt t fa (own.map (·.2))) := by
  exact pe_imp (pe_lc hc hN hi ok (fun s H C cl fp => pg_hide (hg s H C cl fp)) (fun s H C cl fp => pts_hide (ht s H C cl fp)) (fun s H C cl fp => pe_hide (he s H C cl fp)) hs) fun σ H Q h => LE.lc h
end
end DL
namespace DL
open PySem PySem.Spec L2

mutual
def D.under (n : Nat) : D → Bool
  | .ref k => decide (k < n)
  | .tup ds => D.unders n ds
  | .lst ds => D.unders n ds
  | _ => true
def D.unders (n : Nat) : List D → Bool
  | [] => true
  | d :: ds => D.under n d && D.unders n ds
end
def underF (n : Nat) {κ : Type} : List (κ × D) → Bool
  | [] => true
  | (_, d) :: r => d.under n && underF n r
def O.under (n : Nat) : O → Bool
  | .lst ds => D.unders n ds
  | .dK _ kvs => underF n kvs
  | .ins _ fs => underF n fs
  | .dT kvs => underF n kvs
  | .exn _ => true
section
variable {K : PySem.W.Frag} {ρ ρ' : List Addr} {H : Hp}
mutual
theorem VR.shrink (hp : ρ <+: ρ') : ∀ (d : D) (v : V), D.under ρ.length d = true → VR K ρ' H d v → VR K ρ H d v
  | .non, v, b, h => h
  | .bl _, v, b, h => h
  | .int _, v, b, h => h
  | .str _, v, b, h => h
  | .opq, v, b, h => h
  | .ref k, v, b, ⟨a, e, h⟩ => ⟨a, by
      have hk : k < ρ.length := of_decide_eq_true b
      obtain ⟨t, rfl⟩ := hp
      rw [List.getElem?_append_left hk] at e; exact e, h⟩
  | .tup ds, v, b, ⟨a, vs, e, h, r⟩ => ⟨a, vs, e, h, VRs.shrink hp ds vs b r⟩
  | .lst ds, v, b, ⟨a, vs, e, h, n, r⟩ => ⟨a, vs, e, h, fun m => n (hp.subset m), VRs.shrink hp ds vs b r⟩
theorem VRs.shrink (hp : ρ <+: ρ') : ∀ (ds : List D) (vs : List V), D.unders ρ.length ds = true → VRs K ρ' H ds vs → VRs K ρ H ds vs
  | [], vs, b, h => h
  | d :: ds, vs, b, ⟨v, ws, e, h, r⟩ => by
    have b' : (D.under ρ.length d && D.unders ρ.length ds) = true := b
    rw [Bool.and_eq_true] at b'
    exact ⟨v, ws, e, VR.shrink hp d v b'.1 h, VRs.shrink hp ds ws b'.2 r⟩
end
theorem KVR.shrink (hp : ρ <+: ρ') {κ : Type} : ∀ (ds : List (κ × D)) (vs : List (κ × V)), underF ρ.length ds = true → KVR K ρ' H ds vs → KVR K ρ H ds vs
  | [], vs, b, h => h
  | (k, d) :: ds, vs, b, ⟨v, ws, e, h, r⟩ => by
    have b' : (D.under ρ.length d && underF ρ.length ds) = true := b
    rw [Bool.and_eq_true] at b'
    exact ⟨v, ws, e, VR.shrink hp d v b'.1 h, KVR.shrink hp ds ws b'.2 r⟩
theorem OR.shrink {Ω : Wd} (hp : ρ <+: ρ') {a : Addr} : ∀ (o : O), O.under ρ.length o = true → OR Ω ρ' H a o → OR Ω ρ H a o
  | .lst ds, b, ⟨vs, h, r⟩ => ⟨vs, h, VRs.shrink hp ds vs b r⟩
  | .dK lk kvs, b, ⟨kv, r, h⟩ => ⟨kv, KVR.shrink hp kvs kv b r, h⟩
  | .ins c fs, b, ⟨C, dx, fv, hc, h, r⟩ => ⟨C, dx, fv, hc, h, KVR.shrink hp fs fv b r⟩
  | .dT kvs, b, ⟨kv, r, h⟩ => ⟨kv, KVR.shrink hp kvs kv b r, h⟩
  | .exn c, b, h => h
theorem Rel.shrink {Ω : Wd} {S' : Store} (hp : ρ <+: ρ') (r : Rel Ω ρ' H S') (b : (S'.take ρ.length).all (O.under ρ.length) = true) : Rel Ω ρ H (S'.take ρ.length) := by
  have hl : ρ.length ≤ S'.length := by rw [← r.len]; exact hp.length_le
  refine ⟨by rw [List.length_take]; omega, hp.sublist.nodup r.nd, fun n a o e1 e2 => ?_⟩
  have hn : n < ρ.length := (List.getElem?_eq_some_iff.mp e1).1
  have e2' : S'[n]? = some o := by rw [List.getElem?_take_of_lt hn] at e2; exact e2
  have e1' : ρ'[n]? = some a := by
    obtain ⟨t, rfl⟩ := hp
    rw [List.getElem?_append_left hn]; exact e1
  exact OR.shrink hp o (List.all_eq_true.mp b o (List.mem_of_getElem? e2)) (r.ob n a o e1' e2')
theorem Step.shrink {H0 : Hp} (s : Step ρ H0 ρ' H) : Step ρ H0 ρ H := ⟨List.prefix_rfl, s.keep, fun _ m n => absurd m n, s.frz⟩
end
/-- a list made within is handed out as a value -/
def freeze (n : Nat) (S : Store) (d : D) : D := match d with
  | .ref k => if k < n then d else match S[k]? with
    | some (.lst xs) => .lst xs
    | _ => d
  | _ => d
/-- behind a def: its own objects are forgotten where nothing points at them -/
def settle (n : Nat) (d : D) (S' : Store) : R D := if S'.length = n then .ok d S' else
  if ((freeze n S' d).under n && (S'.take n).all (O.under n)) = true then .ok (freeze n S' d) (S'.take n) else .ok d S'
def settleX (n : Nat) (x : Ex) (S' : Store) : R D := if S'.length = n then .exc x S' else
  if (underF n x.fs && (S'.take n).all (O.under n)) = true then .exc x (S'.take n) else .exc x S'
theorem freeze_ok {Ω : Wd} {ρ ρ' : List Addr} {H : Hp} {S : Store} {d : D} {v : V} (hp : ρ <+: ρ') (r : Rel Ω ρ' H S) (b : (freeze ρ.length S d).under ρ.length = true) (h : VR Ω.K ρ' H d v) : VR Ω.K ρ H (freeze ρ.length S d) v := by
  cases d with
  | ref k =>
    by_cases hk : k < ρ.length
    · have e : freeze ρ.length S (.ref k) = .ref k := if_pos hk
      rw [e] at b ⊢
      exact VR.shrink hp _ v b h
    · have e : freeze ρ.length S (.ref k) = (match S[k]? with | some (.lst xs) => .lst xs | _ => .ref k) := if_neg hk
      rw [e] at b ⊢
      cases q : S[k]? with
      | none => rw [q] at b; exact absurd (of_decide_eq_true b) hk
      | some o =>
        rw [q] at b
        cases o with
        | lst xs =>
          obtain ⟨a, vs, rfl, h1, h2, h3⟩ := r.lstAt h q
          refine ⟨a, vs, rfl, .inl h2, fun m => ?_, VRs.shrink hp xs vs b h3⟩
          obtain ⟨j, hj⟩ := List.getElem?_of_mem m
          obtain ⟨t, rfl⟩ := hp
          have hj' : (ρ ++ t)[j]? = some a := by rw [List.getElem?_append_left (List.getElem?_eq_some_iff.mp hj).1]; exact hj
          have := (List.getElem?_inj (List.getElem?_eq_some_iff.mp hj').1 r.nd).mp (hj'.trans h1.symm)
          have := (List.getElem?_eq_some_iff.mp hj).1
          omega
        | _ => exact absurd (of_decide_eq_true b) hk
  | tup ds => exact VR.shrink hp _ v b h
  | lst ds => exact VR.shrink hp _ v b h
  | non => exact h
  | bl _ => exact h
  | int _ => exact h
  | str _ => exact h
  | opq => exact h
/-- a def: np parameters, N names, its body -/
def runFn (np N : Nat) (b : DS) : DM := fun ds S => if ds.length = np then match b (ds.map some ++ List.replicate (N - ds.length) none) S with
  | .nx _ S' => settle S.length .non S'
  | .rt d S' => settle S.length d S'
  | .exc x _ S' => settleX S.length x S'
  | _ => .bad
  else .bad
def spOf (Ω : Wd) (np : Nat) (m : DM) : Sp := fun vs H Q E => ∃ ρ ds S, Rel Ω ρ H S ∧ VRs Ω.K ρ H ds vs ∧ ds.length = np ∧ LG Ω (fun cls dd _ H' => E cls dd H') (PVR Ω) (m ds S) ρ H [] Q
theorem LG.settle {Ω : Wd} {W : WX} {ρ ρ' : List Addr} {H H' : Hp} {S' : Store} {d : D} {v : V} {σ : St} {Q : VK} (s : Step ρ H ρ' H') (r : Rel Ω ρ' H' S') (h : VR Ω.K ρ' H' d v) (q : LG Ω W (PVR Ω) (settle ρ.length d S') ρ H σ Q) : Q v H' := by
  unfold DL.settle at q
  by_cases e : S'.length = ρ.length
  · rw [if_pos e] at q; exact q ρ' v H' s r h
  · rw [if_neg e] at q
    by_cases b : ((freeze ρ.length S' d).under ρ.length && (S'.take ρ.length).all (O.under ρ.length)) = true
    · rw [if_pos b] at q
      rw [Bool.and_eq_true] at b
      exact q ρ v H' s.shrink (r.shrink s.pre b.2) (freeze_ok s.pre r b.1 h)
    · rw [if_neg b] at q; exact q ρ' v H' s r h
theorem LG.settleX {Ω : Wd} {W : WX} {ρ ρ' : List Addr} {H H' : Hp} {S' : Store} {x : Ex} {cls : Value} {dd : Option Addr} {σ : St} {Q : VK} (s : Step ρ H ρ' H') (r : Rel Ω ρ' H' S') (h : XR Ω ρ' H' x cls dd) (q : LG Ω W (PVR Ω) (settleX ρ.length x S') ρ H σ Q) : W cls dd σ H' := by
  unfold DL.settleX at q
  by_cases e : S'.length = ρ.length
  · rw [if_pos e] at q; exact q ρ' cls dd H' s r h
  · rw [if_neg e] at q
    by_cases b : (underF ρ.length x.fs && (S'.take ρ.length).all (O.under ρ.length)) = true
    · rw [if_pos b] at q
      rw [Bool.and_eq_true] at b
      obtain ⟨C, d, fv, h1, h2, h3, h4, h5, h6⟩ := h
      exact q ρ cls dd H' s.shrink (r.shrink s.pre b.2) ⟨C, d, fv, h1, h2, h3, h4, fun m => h5 (s.pre.subset m), KVR.shrink s.pre x.fs fv b.1 h6⟩
    · rw [if_neg b] at q; exact q ρ' cls dd H' s r h
theorem RelS.blank {K : PySem.W.Frag} {ρ : List Addr} {H : Hp} : ∀ n : Nat, RelS K ρ H (List.replicate n none) (List.replicate n none)
  | 0 => rfl
  | n + 1 => ⟨none, List.replicate n none, rfl, (fun x h => by cases h), RelS.blank n⟩
theorem RelS.start {K : PySem.W.Frag} {ρ : List Addr} {H : Hp} {n : Nat} : ∀ {ds : List D} {vs : List V}, VRs K ρ H ds vs → RelS K ρ H (ds.map some ++ List.replicate n none) (vs.map some ++ List.replicate n none)
  | [], _, h => by cases h; exact RelS.blank n
  | d :: ds, _, ⟨v, ws, e, h, r⟩ => by
    subst e
    exact ⟨some v, _, rfl, fun x hx => ⟨v, rfl, by cases hx; exact h⟩, RelS.start r⟩
section
variable {P : Program} {w : World} {K : PySem.W.Frag} {mg : Str → Option Value} {base : Heap}
/-- a def of the text, what leaves it keeps an empty context -/
theorem Fun.okN {x qual : Str} {st : Stmt} {f : Addr} {fd : FuncData} {N ps : List Str} {k : Nat} {sp : Sp} (F : Fun K x qual st f fd) (S : FnScope N ps (defScope st)) (len : ∀ vs H Q E, sp vs H Q E → vs.length = ps.length)
    (hbody : ∀ (cdv : Value) (A : Around) (outer : List Env) (s : Shared) (H : Hp) (vs : List V) (Q : VK) (E : XK), Room k (A.deeper (PyProof.Rows.envOfC qual (defScope st) s.heap.objs.size f cdv)) → sp vs H Q E →
      ∃ t, PSs (cxOf (L2N.CX P w) P w K mg base N qual (defScope st) f cdv A outer s H E) (defBody st) t ∧ t { nx := fun _ H' => Q .non H', rt := Q } (L2.start N vs) H) : FnOk P w K mg base (L2N.CX P w) (k + 1) f fd ps sp := by
  obtain ⟨oc, od, kV, doc, pm, an, cdv, ct, osl, rfl, lk, hcd⟩ := F.ex
  exact fn_of lk hcd S len fun A outer s H vs Q E hr hsp => hbody cdv A outer s H vs Q E hr hsp
/-- a def does what its body's words say -/
theorem fn_ok {x qual : Str} {st : Stmt} {f : Addr} {fd : FuncData} {N ps : List Str} {k : Nat} {b : DS} {np n : Nat} (F : Fun K x qual st f fd) (sc : FnScope N ps (defScope st)) (hp : ps.length = np) (hn : N.length = n)
    (hbody : ∀ (X : Cx) (W : WX), X.K = K → X.mg = mg → X.prog = P → X.w = w → X.base = base → X.N = N → X.env.scope = defScope st → X.fn = (fun _ => true) → X.calm = true → X.stack = X.env :: X.outer → X.env.frame = some X.env.locals → X.ex = [] → Room k X.A → L2N.Takes X W → PassesOwn (model X.prog X.w) X.A X.env X.xe → JSs X W (defBody st) b) :
    FnOk P w K mg base (L2N.CX P w) (k + 1) f fd ps (spOf ⟨K, mg⟩ np (runFn np n b)) := by
  refine Fun.okN F sc (fun vs H Q E h => ?_) (fun cdv A outer s H vs Q E hr h => ?_)
  · obtain ⟨ρ, ds, S, r, hv, hl, _⟩ := h
    rw [← VRs.len hv, hl, hp]
  · obtain ⟨ρ, ds, S, r, hv, hl, q⟩ := h
    refine ⟨_, hbody (cxOf (L2N.CX P w) P w K mg base N qual (defScope st) f cdv A outer s H E) (fun cls d _ H => E cls d H) rfl rfl rfl rfl rfl rfl rfl rfl rfl rfl rfl rfl hr (L2N.takes_of rfl rfl rfl rfl) (passes_of rfl), ?_⟩
    refine ⟨ρ, ds.map some ++ List.replicate (n - ds.length) none, S, r, ?_, ?_⟩
    · have e : n - ds.length = N.length - vs.length := by rw [hn, VRs.len hv]
      rw [e]
      exact RelS.start hv
    · unfold runFn at q
      rw [if_pos hl] at q
      rw [← r.len] at q
      cases e : b (ds.map some ++ List.replicate (n - ds.length) none) S with
      | nx δ S' => rw [e] at q; exact fun ρ' σ' H' s' r' rs' => LG.settle s' r' (d := .non) (v := .non) rfl q
      | rt d S' => rw [e] at q; exact fun ρ' v H' s' r' hv' => LG.settle s' r' hv' q
      | exc x δ S' => rw [e] at q; exact fun ρ' cls dd σ' H' s' r' rs' hx => LG.settleX s' r' hx q
      | bk δ S' => rw [e] at q; exact q.elim
      | ct δ S' => rw [e] at q; exact q.elim
      | bad => rw [e] at q; exact q.elim
/-- nothing is said -/
theorem fn_bad {f : Addr} {fd : FuncData} {ps : List Str} {k np : Nat} {Ω : Wd} : FnOk P w K mg base (L2N.CX P w) k f fd ps (spOf Ω np fun _ _ => .bad) :=
  ⟨fun vs H Q E ⟨ρ, ds, S, r, hv, hl, q⟩ => q.elim, fun A outer s H args us vs Q E hr he hb hv ⟨ρ, ds, S, r, hv', hl, q⟩ => q.elim⟩
end
section
variable {X : Cx} {W : WX} {pos p apos cpos : Pos} {a b c e o : Expr} {es : List Expr} {fa fb fc fo : DE} {fs : DA} {f g : DS} {x : Str}
theorem je_call {k : Nat} {fn : Addr} {fd : FuncData} {ps : List Str} {np : Nat} {m : DM} (F : FnOk X.prog X.w X.K X.mg X.base (L2N.CX X.prog X.w) k fn fd ps (spOf (om X) np m)) (hr : Room k X.A) (hm : X.mg x = some (.ref fn)) (hk : PySem.W.keepIn X.K (.ref fn) = true) (hb : Binds X.K fd ps [])
    (tk : L2N.Takes X W) (ha : JA X W (e :: es) fs) (hl : ps.length = np) (hg : Gl X x) (hdb : (x == ("__debug__" : Str)) = false := by decide) (he : starEach (e :: es) X.env = (false, eval e X.env) :: starEach es X.env := by rfl) (hpl : (backTo pos (starEach es X.env)).any (·.1) = false := by rfl) :
    JE X W (.Call (.Name x p) (e :: es) [] pos) (dCall (fun ds S => if ds.length = np then m ds S else .bad) fs) :=
  pe_imp (pe_callSD (E := fun σ cls dd H => W cls dd σ H) F hr hg hm hk hb .nil (fun σ => L2N.passAt tk σ) ha hdb he hpl) fun σ H Q ⟨ρ, δ, S, rl, rs, h⟩ => by
    refine ⟨ρ, δ, S, rl, rs, LG.bind h fun ρ1 ds S1 vs H1 s1 r1 p1 q1 => ?_⟩
    rw [List.append_nil]
    by_cases hn : ds.length = np
    · rw [if_pos hn] at q1
      refine ⟨ρ1, ds, S1, r1, p1, hn, ?_⟩
      cases e : m ds S1 with
      | ok d S' => rw [e] at q1; exact q1
      | exc y S' => rw [e] at q1; exact q1
      | bad => rw [e] at q1; exact q1.elim
    · rw [if_neg hn] at q1; exact q1.elim
end
end DL
namespace DL
open PySem PySem.Spec L2

section
variable {X : Cx} {W : WX} {pos p p2 apos cpos : Pos} {a b c e o : Expr} {es : List Expr} {fa fb fc fo : DE} {fs : DA} {f g : DS} {x : Str}
theorem CallR.or {f : Value} {r r' : List V → Hp → VK → Prop} (h : CallR X f r) (h' : CallR X f r') : CallR X f (fun xs H Q => r xs H Q ∨ r' xs H Q) := by
  intro pins s σ H xs us Q I rv q
  rcases q with q | q
  · exact h pins s σ H xs us Q I rv q
  · exact h' pins s σ H xs us Q I rv q
theorem callR_len : CallR X (.builtin "len") (fun xs H Q => (∃ z, xs = [.str z] ∧ z.length ≤ sizeLine ∧ Q (.int z.length) H) ∨ ∃ p ys, xs = [.ref p] ∧ (SqL X.K H p ys ∨ SqT X.K H p ys) ∧ Q (.int ys.length) H) := CallR.or call_len_str call_len_seq
theorem je_len (hm : X.mg "len" = none) (ha : JA X W (e :: es) fs) (he : starEach (e :: es) X.env = (false, eval e X.env) :: starEach es X.env := by rfl) (hpl : (backTo pos (starEach es X.env)).any (·.1) = false := by rfl) (hg : Gl X "len" := by rfl) :
    JE X W (.Call (.Name "len" p) (e :: es) [] pos) (dCall gLen fs) := je_callB callR_len callS_len hg hm boot_len ha (by decide) (by decide) he hpl
/-! abs, int, str -/
def gAbs : DM := fun xs S => match xs with
  | [.int i] => .ok (.int (if i < 0 then -i else i)) S
  | _ => .bad
theorem bad1 {xs : List D} (h : ∀ x, xs ≠ [x]) {g : DM} {S : Store} (hg : ∀ xs, (∀ x, xs ≠ [x]) → g xs S = .bad) : g xs S = .bad := hg xs h
theorem callS_abs : CallS X W gAbs (fun xs H Q => ∃ i, xs = [.int i] ∧ Q (.int (if i < 0 then -i else i)) H) := by
  intro ρ H S σ Q xs vs r hx h
  match xs with
  | [.int i] => obtain ⟨v, rfl, hv⟩ := vrs1 hx; cases hv; exact ⟨i, rfl, h ρ _ H .refl r rfl⟩
  | [] => exact h.elim
  | [.non] => exact h.elim
  | [.bl _] => exact h.elim
  | [.str _] => exact h.elim
  | [.ref _] => exact h.elim
  | [.opq] => exact h.elim
  | [.tup _] => exact h.elim
  | [.lst _] => exact h.elim
  | a :: b :: t =>
    rw [show gAbs (a :: b :: t) S = .bad by unfold gAbs; cases a <;> rfl] at h
    exact h.elim
theorem je_abs (hm : X.mg "abs" = none) (ha : JA X W (e :: es) fs) (he : starEach (e :: es) X.env = (false, eval e X.env) :: starEach es X.env := by rfl) (hpl : (backTo pos (starEach es X.env)).any (·.1) = false := by rfl) (hg : Gl X "abs" := by rfl) :
    JE X W (.Call (.Name "abs" p) (e :: es) [] pos) (dCall gAbs fs) := je_callB call_abs callS_abs hg hm (by decide +kernel) ha (by decide) (by decide) he hpl
def gInt : DM := fun xs S => match xs with
  | [.int i] => .ok (.int i) S
  | [.bl k] => .ok (.int (if k then 1 else 0)) S
  | [.str z] => match PySem.intText? z with
    | some n => if z.length ≤ 640 then .ok (.int n) S else .bad
    | none => .bad
  | _ => .bad
theorem callS_int : CallS X W gInt (fun xs H Q => ((∃ i, xs = [.int i] ∧ Q (.int i) H) ∨ ∃ k, xs = [.bl k] ∧ Q (.int (if k then 1 else 0)) H) ∨ ∃ a n, xs = [.str a] ∧ PySem.intText? a = some n ∧ a.length ≤ 640 ∧ Q (.int n) H) := by
  intro ρ H S σ Q xs vs r hx h
  match xs with
  | [.int i] => obtain ⟨v, rfl, hv⟩ := vrs1 hx; cases hv; exact .inl (.inl ⟨i, rfl, h ρ _ H .refl r rfl⟩)
  | [.bl i] => obtain ⟨v, rfl, hv⟩ := vrs1 hx; cases hv; exact .inl (.inr ⟨i, rfl, h ρ _ H .refl r rfl⟩)
  | [.str z] =>
    obtain ⟨v, rfl, hv⟩ := vrs1 hx; cases hv
    have h' : LG (om X) W (PVR (om X)) (match PySem.intText? z with | some n => if z.length ≤ 640 then .ok (.int n) S else .bad | none => .bad) ρ H σ Q := h
    cases q : PySem.intText? z with
    | none => rw [q] at h'; exact h'.elim
    | some n =>
      rw [q] at h'
      have h2 : LG (om X) W (PVR (om X)) (if z.length ≤ 640 then .ok (.int n) S else .bad) ρ H σ Q := h'
      by_cases hl : z.length ≤ 640
      · rw [if_pos hl] at h2; exact .inr ⟨z, n, rfl, q, hl, h2 ρ _ H .refl r rfl⟩
      · rw [if_neg hl] at h2; exact h2.elim
  | [] => exact h.elim
  | [.non] => exact h.elim
  | [.ref _] => exact h.elim
  | [.opq] => exact h.elim
  | [.tup _] => exact h.elim
  | [.lst _] => exact h.elim
  | a :: b :: t =>
    rw [show gInt (a :: b :: t) S = .bad by unfold gInt; cases a <;> rfl] at h
    exact h.elim
theorem je_intF (hm : X.mg "int" = none) (ha : JA X W (e :: es) fs) (he : starEach (e :: es) X.env = (false, eval e X.env) :: starEach es X.env := by rfl) (hpl : (backTo pos (starEach es X.env)).any (·.1) = false := by rfl) (hg : Gl X "int" := by rfl) :
    JE X W (.Call (.Name "int" p) (e :: es) [] pos) (dCall gInt fs) := je_callT (CallR.or call_int1 call_int_str) callS_int hg hm (by decide +kernel) ha (by decide) (by decide) he hpl
/-! list, tuple of what is told as a value -/
def gList : DM := fun xs S => match xs with
  | [x] => match items S x with
    | some ds => if lenOk ds.length = true then .ok (.lst ds) S else .bad
    | none => .bad
  | _ => .bad
def gTuple : DM := fun xs S => match xs with
  | [.tup ds] => .ok (.tup ds) S
  | [x] => match items S x with
    | some ds => if lenOk ds.length = true then .ok (.tup ds) S else .bad
    | none => .bad
  | _ => .bad
theorem callS_list : CallS X W gList (fun xs H Q => ∃ p ys, xs = [.ref p] ∧ (SqL X.K H p ys ∨ SqT X.K H p ys) ∧ ∀ l, H l = none → Q (.ref l) (upd H l (.lst ys))) := by
  intro ρ H S σ Q xs vs r hx h
  match xs with
  | [] => exact h.elim
  | a :: b :: t => exact h.elim
  | [x] =>
    obtain ⟨v, rfl, hv⟩ := vrs1 hx
    have h' : LG (om X) W (PVR (om X)) (match items S x with | some ds => rLst ds S | none => .bad) ρ H σ Q := h
    cases q : items S x with
    | none => rw [q] at h'; exact h'.elim
    | some ds =>
      rw [q] at h'
      obtain ⟨a, ws, rfl, hq, hw⟩ := items_ok r hv q
      exact ⟨a, ws, rfl, hq, (LG.lst r hw h').2⟩
theorem callS_tuple : CallS X W gTuple (fun xs H Q => ∃ p ys, xs = [.ref p] ∧ ((SqL X.K H p ys ∧ ∀ l, H l = none → Q (.ref l) (upd H l (.tup ys))) ∨ (SqT X.K H p ys ∧ Q (.ref p) H))) := by
  intro ρ H S σ Q xs vs r hx h
  match xs with
  | [] => exact h.elim
  | a :: b :: t =>
    rw [show gTuple (a :: b :: t) S = .bad by unfold gTuple; cases a <;> rfl] at h
    exact h.elim
  | [.tup ds] =>
    obtain ⟨v, rfl, hv⟩ := vrs1 hx
    obtain ⟨a, ws, rfl, hq, hw⟩ := id hv
    exact ⟨a, ws, rfl, .inr ⟨.of hq, h ρ _ H .refl r hv⟩⟩
  | [.lst ds] =>
    obtain ⟨v, rfl, hv⟩ := vrs1 hx
    obtain ⟨a, ws, rfl, hq, hn, hw⟩ := id hv
    exact ⟨a, ws, rfl, .inl ⟨.inl hq, (LG.tup r hw h).2⟩⟩
  | [.ref n] =>
    obtain ⟨v, rfl, hv⟩ := vrs1 hx
    have h' : LG (om X) W (PVR (om X)) (match items S (.ref n) with | some ds => rTup ds S | none => .bad) ρ H σ Q := h
    cases q : S[n]? with
    | none => rw [show items S (.ref n) = none by simp only [items, q]] at h'; exact h'.elim
    | some ob =>
      cases ob with
      | lst ds =>
        rw [show items S (.ref n) = some ds by simp only [items, q]] at h'
        obtain ⟨a, ws, rfl, _, hq, hw⟩ := r.lstAt hv q
        exact ⟨a, ws, rfl, .inl ⟨.of hq, (LG.tup r hw h').2⟩⟩
      | _ => rw [show items S (.ref n) = none by simp only [items, q]] at h'; exact h'.elim
  | [.non] => exact h.elim
  | [.bl _] => exact h.elim
  | [.int _] => exact h.elim
  | [.str _] => exact h.elim
theorem je_list (hm : X.mg "list" = none) (ha : JA X W (e :: es) fs) (he : starEach (e :: es) X.env = (false, eval e X.env) :: starEach es X.env := by rfl) (hpl : (backTo pos (starEach es X.env)).any (·.1) = false := by rfl) (hg : Gl X "list" := by rfl) :
    JE X W (.Call (.Name "list" p) (e :: es) [] pos) (dCall gList fs) := je_callT call_list_of callS_list hg hm (by decide +kernel) ha (by decide) (by decide) he hpl
theorem je_tuple (hm : X.mg "tuple" = none) (ha : JA X W (e :: es) fs) (he : starEach (e :: es) X.env = (false, eval e X.env) :: starEach es X.env := by rfl) (hpl : (backTo pos (starEach es X.env)).any (·.1) = false := by rfl) (hg : Gl X "tuple" := by rfl) :
    JE X W (.Call (.Name "tuple" p) (e :: es) [] pos) (dCall gTuple fs) := je_callT call_tuple_of callS_tuple hg hm (by decide +kernel) ha (by decide) (by decide) he hpl
/-! any, all of a list of truth values -/
def bools : List D → Option (List Bool)
  | [] => some []
  | .bl b :: ds => (bools ds).map (b :: ·)
  | _ => none
theorem bools_ok {K : PySem.W.Frag} {ρ : List Addr} {H : Hp} : ∀ {ds : List D} {bs : List Bool} {vs : List V}, bools ds = some bs → VRs K ρ H ds vs → vs = bs.map V.bl
  | [], bs, vs, e, h => by cases e; cases h; rfl
  | .bl b :: ds, bs, vs, e, ⟨v, ws, q, h, r⟩ => by
    have e' : (bools ds).map (b :: ·) = some bs := e
    rw [Option.map_eq_some_iff] at e'
    obtain ⟨cs, e1, rfl⟩ := e'
    cases h
    rw [q, bools_ok e1 r]; rfl
  | .non :: _, _, _, e, _ => by cases e
  | .int _ :: _, _, _, e, _ => by cases e
  | .str _ :: _, _, _, e, _ => by cases e
  | .ref _ :: _, _, _, e, _ => by cases e
  | .tup _ :: _, _, _, e, _ => by cases e
  | .lst _ :: _, _, _, e, _ => by cases e
def gAnyAll (any : Bool) : DM := fun xs S => match xs with
  | [.lst ds] => match bools ds with
    | some bs => .ok (.bl (if any then bs.any id else bs.all id)) S
    | none => .bad
  | _ => .bad
theorem callS_any (k : Bool) : CallS X W (gAnyAll k) (fun vs H Q => ∃ (a : Addr) (bs : List Bool), vs = [V.ref a] ∧ SqL X.K H a (bs.map V.bl) ∧ Q (.bl (if k then bs.any id else bs.all id)) H) := by
  intro ρ H S σ Q xs vs r hx h
  match xs with
  | [.lst ds] =>
    obtain ⟨v, rfl, hv⟩ := vrs1 hx
    obtain ⟨a, ws, rfl, hq, hn, hw⟩ := id hv
    have h' : LG (om X) W (PVR (om X)) (match bools ds with | some bs => .ok (.bl (if k then bs.any id else bs.all id)) S | none => .bad) ρ H σ Q := h
    cases q : bools ds with
    | none => rw [q] at h'; exact h'.elim
    | some bs =>
      rw [q] at h'
      rw [bools_ok q hw] at hq
      exact ⟨a, bs, rfl, .inl hq, h' ρ _ H .refl r rfl⟩
  | [] => exact h.elim
  | [.non] => exact h.elim
  | [.bl _] => exact h.elim
  | [.int _] => exact h.elim
  | [.str _] => exact h.elim
  | [.ref _] => exact h.elim
  | [.opq] => exact h.elim
  | [.tup _] => exact h.elim
  | a :: b :: t =>
    rw [show gAnyAll k (a :: b :: t) S = .bad by unfold gAnyAll; cases a <;> rfl] at h
    exact h.elim
theorem je_any (hc : X.calm = true) (hm : X.mg "any" = none) (ha : JA X W (e :: es) fs) (he : starEach (e :: es) X.env = (false, eval e X.env) :: starEach es X.env := by rfl) (hpl : (backTo pos (starEach es X.env)).any (·.1) = false := by rfl) (hg : Gl X "any" := by rfl) :
    JE X W (.Call (.Name "any" p) (e :: es) [] pos) (dCall (gAnyAll true) fs) := je_callB (cr_any hc) (callS_any true) hg hm (by decide +kernel) ha (by decide) (by decide) he hpl
theorem je_all (hc : X.calm = true) (hm : X.mg "all" = none) (ha : JA X W (e :: es) fs) (he : starEach (e :: es) X.env = (false, eval e X.env) :: starEach es X.env := by rfl) (hpl : (backTo pos (starEach es X.env)).any (·.1) = false := by rfl) (hg : Gl X "all" := by rfl) :
    JE X W (.Call (.Name "all" p) (e :: es) [] pos) (dCall (gAnyAll false) fs) := je_callB (cr_all hc) (callS_any false) hg hm (by decide +kernel) ha (by decide) (by decide) he hpl
end
end DL
namespace DL
open PySem PySem.Spec L2 PyProof.Rows

/-! ### enumerate(text): the place and the sign, in a new pair -/
def Ites (x : Str) : It :=
  ⟨fun i _ => i < x.cps.size, fun i H v H' => ∃ T c, v = .ref T ∧ H T = none ∧ H' = upd H T (.tup [.int (i : Nat), .str ⟨#[c]⟩]) ∧ x.cps[i]? = some c, fun i _ => x.cps.size ≤ i⟩
theorem turn_enumS {P : Program} {w : World} {K : PySem.W.Frag} {elts : List Expr} {kk : Nat} {tpos : Pos} (x : Str) (t : Tok) (e it : Addr) :
    Turn P w K (.Tuple elts kk tpos) (Ites x) [e, it] e (fun i h => (∃ old, IsEnum h e it ((i : Nat) : Int) old) ∧ h.IsStrIter it (strIterType x) x t i ∧ e ≠ it ∧ i ≤ x.cps.size) where
  mem := by simp
  obj := fun i h st b hb => by
    obtain ⟨⟨old, he⟩, ⟨o, ho, hc, hd⟩, _⟩ := st
    have e' : b = e ∨ b = it := by simpa using hb
    rcases e' with z | z
    · rw [z]; exact ⟨_, he, fun v q => nomatch q⟩
    · rw [z]; exact ⟨o, ho, fun v q => by rw [hd] at q; cases q⟩
  keep := fun i h h' st k => by
    obtain ⟨⟨old, he⟩, ⟨o, ho, hr⟩, hne, hle⟩ := st
    exact ⟨⟨old, k e (by simp) _ he⟩, ⟨o, k it (by simp) o ho, hr⟩, hne, hle⟩
  item := by
    intro X hP hw hK hc i pins s σ H E I hf st hg
    subst hP hw hK
    obtain ⟨⟨old, he⟩, hit, hne, hle⟩ := st
    have D := Draws.text (prog := X.prog) (w := X.w) (A := X.A.in1) (show X.A.in1.handled = none from I.ok.hd hc) it x t
    have hel : e < s.heap.objs.size := Heap.lt_size he
    have hil : it < s.heap.objs.size := by obtain ⟨_, q, _⟩ := hit; exact Heap.lt_size q
    refine wpAny_pyNext_enum_itemD D he hit hg hne (by simpa using hne) fun y h' tk hy ho hit' hT hsz hk => ?_
    obtain ⟨c, u, hcx, rfl⟩ := hy
    refine ⟨_, rfl, wpAny_letOwnedTupleGo_enum (s := { s with heap := h', toks := tk + 1 }) ho fun h'' he' sb => ?_⟩
    have hT2 : h''.get? s.heap.objs.size = some { cls := .type "tuple", data := .seq #[.int i tk, .str ⟨#[c]⟩ u] } := (sb.2 _ (Nat.ne_of_gt hel)).trans hT
    have new : ObjOk X.prog X.w (upd H s.heap.objs.size (.tup [.int (i : Nat), .str ⟨#[c]⟩])) h'' s.heap.objs.size (.tup [.int (i : Nat), .str ⟨#[c]⟩]) :=
      ⟨by show 2 ≤ sizeLine; decide, [.int i tk, .str ⟨#[c]⟩ u], .cons ⟨_, rfl⟩ (.cons ⟨_, rfl⟩ .nil), ⟨_, hT2, rfl, _, rfl⟩⟩
    have I1 : Inv X pins σ (upd H s.heap.objs.size (.tup [.int (i : Nat), .str ⟨#[c]⟩])) { s with heap := h'', toks := tk + 1 } :=
      I.turnedNew (ch := [e, it]) (fun b ob hb q => (sb.2 b (fun z => hb (by simp [z]))).trans (hk b ob (fun z => hb (by simp [z])) (fun z => hb (by simp [z])) q)) hf (Nat.le_refl _) new
    refine ⟨.ref s.heap.objs.size, _, I1, rfl, ⟨_, c, rfl, I.hok.fresh (Nat.le_refl _), rfl, hcx⟩, ⟨⟨.str ⟨#[c]⟩ u, ?_⟩, ?_, hne, hg⟩, fun b hb => ?_⟩
    · have e1 : ((i + 1 : Nat) : Int) = (i : Int) + 1 := by omega
      rw [e1]; exact he'
    · obtain ⟨o, ho', hr⟩ := hit'
      exact ⟨o, (sb.2 it (Ne.symm hne)).trans ho', hr⟩
    · have hb' : b < s.heap.objs.size := by
        have e' : b = e ∨ b = it := by simpa using hb
        rcases e' with z | z
        · rw [z]; exact hel
        · rw [z]; exact hil
      rw [upd_ne (Nat.ne_of_lt hb')]
      exact (hf b hb).1
  done := by
    intro X hP hw hK hc i pins s σ H E I hf st hg
    subst hP hw hK
    obtain ⟨⟨old, he⟩, hit, hne, hle⟩ := st
    have hi : i = x.cps.size := Nat.le_antisymm hle hg
    subst hi
    have D := Draws.text (prog := X.prog) (w := X.w) (A := X.A.in1) (show X.A.in1.handled = none from I.ok.hd hc) it x t
    obtain ⟨f0, f1, f2, f3, f4, f5⟩ := hf it (by simp)
    exact wpAny_pyNext_enum_endD D he hit fun h' eb => ⟨rfl, I.turned (t' := s.toks) (fun b o hb q => eb b o hb q) f0 f1 f3 f4 f5⟩
  self := fun A i s Q E st h => let ⟨⟨_, he⟩, _⟩ := st; wpAny_pyIter_enum he h
section
variable {X : Cx} {W : WX} {pos p p2 apos cpos : Pos} {a b c e o : Expr} {es : List Expr} {fa fb fc fo : DE} {fs : DA} {f g : DS} {x : Str}
def iEnumS (ta : TA) : TI := fun σ H R => ta σ H fun vs H1 => ∃ x, vs = [.str x] ∧ R (Ites x) H1
theorem pi_enumS {ta : TA} {tpos : Pos} {elts : List Expr} {kk : Nat} (hg : Gl X "enumerate") (hm : X.mg "enumerate" = none) (ha : PA X [e] ta) (hs : starEach [e] X.env = [(false, eval e X.env)] := by rfl) :
    PI X (.Tuple elts kk tpos) (.Call (.Name "enumerate" p) [e] [] pos) (iEnumS ta) := by
  refine ⟨fun pins s σ H R I h => ?_⟩
  refine Call_ (ld_blt I hg hm boot_enumerate (PyProof.Rows.callWith_type1 (thn (ha.run pos pins s σ H _ I h) fun us s1 ⟨vs, H1, I1, r1, q1⟩ => ?_) hs rfl))
  obtain ⟨x, ex, q⟩ := q1
  subst ex
  obtain ⟨u, rfl, r⟩ := vals1 r1
  obtain ⟨t, rfl⟩ := r
  refine call_enumerate_str fun h' he hit hsz hk => wpAny_pyIter_enum he ?_
  have I2 : Inv X pins σ H1 { s1 with heap := h' } := I1.kept (t' := s1.toks) hk
  refine ⟨s1.heap.objs.size + 1, [s1.heap.objs.size + 1, s1.heap.objs.size], _, _, H1, rfl, I2, turn_enumS x t (s1.heap.objs.size + 1) s1.heap.objs.size, ⟨⟨.none, he⟩, hit, Nat.succ_ne_self _, Nat.zero_le _⟩, fun b hb => ?_, q⟩
  have e' : b = s1.heap.objs.size + 1 ∨ b = s1.heap.objs.size := by simpa using hb
  have hle : s1.heap.objs.size ≤ b := by
    rcases e' with z | z
    · rw [z]; exact Nat.le_add_right _ _
    · rw [z]; exact Nat.le_refl _
  exact I1.fpOk hle (I1.hok.fresh hle)
/-- the pairs of a text's places and signs -/
def signs (i : Nat) : List Nat → List D
  | [] => []
  | c :: cs => .tup [.int i, .str ⟨#[c]⟩] :: signs (i + 1) cs
theorem signs_get : ∀ (cs : List Nat) (k i : Nat), (signs k cs)[i]? = (cs[i]?).map fun c => D.tup [.int ((k + i : Nat) : Int), .str ⟨#[c]⟩]
  | [], _, _ => by simp [signs]
  | c :: cs, k, 0 => by simp [signs]
  | c :: cs, k, i + 1 => by
    show (signs (k + 1) cs)[i]? = _
    rw [signs_get cs (k + 1) i, List.getElem?_cons_succ, show k + 1 + i = k + (i + 1) by omega]
theorem signs_len : ∀ (cs : List Nat) (k : Nat), (signs k cs).length = cs.length
  | [], _ => rfl
  | c :: cs, k => by show (signs (k + 1) cs).length + 1 = _; rw [signs_len cs (k + 1)]; rfl
theorem Walk.enumS {Ω : Wd} {x : Str} {ρ : List Addr} {H : Hp} : Walk Ω (Ites x) (signs 0 x.cps.toList) ρ H where
  go := fun i ρ' G H' s sb hi => by rw [signs_len] at hi; show i < x.cps.size; simpa using hi
  stop := fun ρ' G H' s sb => by rw [signs_len]; exact Nat.le_of_eq (by simp)
  yld := fun i d v ρ' G H' H'' S' s r' sb e y => by
    obtain ⟨T, c, rfl, hT, rfl, hc⟩ := y
    have hG : G T = none := by
      cases q : G T with
      | none => rfl
      | some o => rw [sb T o q] at hT; cases hT
    rw [signs_get, Nat.zero_add, show x.cps.toList[i]? = x.cps[i]? by simp, hc] at e
    cases e
    refine ⟨upd G T (.tup [.int (i : Nat), .str ⟨#[c]⟩]), .fresh hG, r'.fresh hG, ⟨T, _, rfl, upd_same, ⟨_, _, rfl, rfl, ⟨_, _, rfl, rfl, rfl⟩⟩⟩, fun a q => ?_, fun a q => ?_⟩
    · by_cases ha : a = T
      · rw [ha, upd_same, upd_same]
      · rw [upd_ne ha, upd_ne ha, q]
    · have ha : a ≠ T := fun z => q (by rw [z]; exact hT)
      exact ⟨upd_ne ha, upd_ne ha⟩
def diEnumS (fs : DA) : DA := fun δ S => (fs δ S).bind fun ds S1 => match ds with
  | [.str z] => .ok (signs 0 z.cps.toList) S1
  | _ => .bad
theorem ji_enumS {elts : List Expr} {kk : Nat} {tpos : Pos} (hm : X.mg "enumerate" = none) (ha : JA X W [e] fs) (hs : starEach [e] X.env = [(false, eval e X.env)] := by rfl) (hg : Gl X "enumerate" := by rfl) : JI X W (.Tuple elts kk tpos) (.Call (.Name "enumerate" p) [e] [] pos) (diEnumS fs) :=
  pi_imp (pi_enumS hg hm ha hs) fun σ H R ⟨ρ, δ, S, r, rs, h⟩ => ⟨ρ, δ, S, r, rs, LG.bind h fun ρ1 ds S1 vs H1 s1 r1 p1 q1 => by
    match ds with
    | [.str z] =>
      obtain ⟨v, rfl, hv⟩ := vrs1 p1
      cases hv
      exact ⟨z, rfl, q1 ρ1 _ H1 .refl r1 .enumS⟩
    | [] => exact q1.elim
    | [.non] => exact q1.elim
    | [.bl _] => exact q1.elim
    | [.int _] => exact q1.elim
    | [.ref _] => exact q1.elim
    | [.opq] => exact q1.elim
    | [.tup _] => exact q1.elim
    | [.lst _] => exact q1.elim
    | a :: b :: t => cases a <;> exact q1.elim⟩
/-- a text sign by sign -/
def sgn : List Nat → List D := List.map fun c => .str ⟨#[c]⟩
theorem Walk.str {Ω : Wd} {x : Str} {ρ : List Addr} {H : Hp} : Walk Ω (Its x) (sgn x.cps.toList) ρ H where
  go := fun i ρ' G H' s sb hi => by unfold sgn at hi; rw [List.length_map] at hi; show i < x.cps.size; simpa using hi
  stop := fun ρ' G H' s sb => by unfold sgn; rw [List.length_map]; exact Nat.le_of_eq (by simp)
  yld := fun i d v ρ' G H' H'' S' s r' sb e y => by
    obtain ⟨rfl, c, hc, rfl⟩ := y
    unfold sgn at e
    rw [List.getElem?_map, show x.cps.toList[i]? = x.cps[i]? by simp, hc] at e
    cases e
    exact ⟨G, .refl, r', rfl, fun a q => q, fun a q => ⟨rfl, rfl⟩⟩
def diS (fe : DE) : DA := fun δ S => (fe δ S).bind fun d S1 => match d with
  | .str z => .ok (sgn z.cps.toList) S1
  | _ => .bad
theorem ji_str {iter tg : Expr} (hi : JE X W iter fa) : JI X W tg iter (diS fa) := pi_imp (pi_str hi) fun σ H R ⟨ρ, δ, S, r, rs, h⟩ =>
  ⟨ρ, δ, S, r, rs, LG.bind h fun ρ1 d S1 v H1 s1 r1 p1 q1 => by
    cases d with
    | str z => cases p1; exact ⟨z, rfl, q1 ρ1 _ H1 .refl r1 .str⟩
    | _ => exact q1.elim⟩
/-- range(n) -/
def nums (lo : Int) : Nat → List D
  | 0 => []
  | n + 1 => .int lo :: nums (lo + 1) n
theorem nums_len : ∀ (n : Nat) (lo : Int), (nums lo n).length = n
  | 0, _ => rfl
  | n + 1, lo => by show (nums (lo + 1) n).length + 1 = _; rw [nums_len n]
theorem nums_get : ∀ (n : Nat) (lo : Int) (i : Nat), i < n → (nums lo n)[i]? = some (.int (lo + i))
  | 0, _, _, h => by omega
  | n + 1, lo, 0, h => by simp [nums]
  | n + 1, lo, i + 1, h => by
    show (nums (lo + 1) n)[i]? = _
    rw [nums_get n (lo + 1) i (by omega)]
    congr 2; omega
theorem Walk.range {Ω : Wd} {lo : Int} {n : Nat} {ρ : List Addr} {H : Hp} : Walk Ω (Itr lo n) (nums lo n) ρ H where
  go := fun i ρ' G H' s sb hi => by rw [nums_len] at hi; exact hi
  stop := fun ρ' G H' s sb => by rw [nums_len]; exact Nat.le_refl _
  yld := fun i d v ρ' G H' H'' S' s r' sb e y => by
    obtain ⟨rfl, rfl⟩ := y
    have hi : i < n := by have := (List.getElem?_eq_some_iff.mp e).1; rw [nums_len] at this; exact this
    rw [nums_get n lo i hi] at e
    cases e
    exact ⟨G, .refl, r', rfl, fun a q => q, fun a q => ⟨rfl, rfl⟩⟩
def rgOk (i : Int) : Bool := decide (-(2 ^ 62) ≤ i ∧ i < 2 ^ 62)
def diR1 (fs : DA) : DA := fun δ S => (fs δ S).bind fun ds S1 => match ds with
  | [.int j] => if rgOk j = true then .ok (nums 0 j.toNat) S1 else .bad
  | _ => .bad
theorem ji_range1 {tg : Expr} (hm : X.mg "range" = none) (ha : JA X W [e] fs) (hs : starEach [e] X.env = [(false, eval e X.env)] := by rfl) (hg : Gl X "range" := by rfl) : JI X W tg (.Call (.Name "range" p) [e] [] pos) (diR1 fs) :=
  pi_imp (pi_range1 hg hm ha hs) fun σ H R ⟨ρ, δ, S, r, rs, h⟩ => ⟨ρ, δ, S, r, rs, LG.bind h fun ρ1 ds S1 vs H1 s1 r1 p1 q1 => by
    match ds with
    | [.int j] =>
      obtain ⟨v, rfl, hv⟩ := vrs1 p1
      cases hv
      have q2 : LG (om X) W (PWk (om X)) (if rgOk j = true then .ok (nums 0 j.toNat) S1 else .bad) ρ1 H1 σ R := q1
      by_cases hj : rgOk j = true
      · rw [if_pos hj] at q2
        obtain ⟨h1, h2⟩ := of_decide_eq_true hj
        exact ⟨j, rfl, h1, h2, q2 ρ1 _ H1 .refl r1 .range⟩
      · rw [if_neg hj] at q2; exact q2.elim
    | [] => exact q1.elim
    | [.non] => exact q1.elim
    | [.bl _] => exact q1.elim
    | [.str _] => exact q1.elim
    | [.ref _] => exact q1.elim
    | [.opq] => exact q1.elim
    | [.tup _] => exact q1.elim
    | [.lst _] => exact q1.elim
    | a :: b :: t => cases a <;> exact q1.elim⟩
end
end DL
namespace DL
open PySem PySem.Spec L2

section
variable {X : Cx} {W : WX} {pos p p2 p3 apos cpos : Pos} {a b c e o : Expr} {es : List Expr} {fa fb fc fo : DE} {fs : DA} {f g : DS} {x : Str}
/-- one value in, whatever it is -/
theorem LE.one {Ω : Wd} {f : DE} {k : D → Store → R D} {σ : St} {H : Hp} {Q Q1 : VK} (h : LE Ω W (fun δ S => (f δ S).bind k) σ H Q)
    (q : ∀ ρ1 d S1 v H1, Rel Ω ρ1 H1 S1 → VR Ω.K ρ1 H1 d v → LG Ω W (PVR Ω) (k d S1) ρ1 H1 σ Q → Q1 v H1) : LE Ω W f σ H Q1 := by
  obtain ⟨ρ, δ, S, r, rs, h⟩ := h
  exact ⟨ρ, δ, S, r, rs, LG.bind h fun ρ1 d S1 v H1 s1 r1 p1 q1 => q ρ1 d S1 v H1 r1 p1 q1⟩
/-! ### a constant of the text -/
theorem je_glob {v : V} {u : Value} {d : D} (hm : X.mg x = some u) (r : RelV v u) (hd : ∀ ρ H, VR X.K ρ H d v) (hg : Gl X x := by rfl) (hdb : (x == ("__debug__" : Str)) = false := by decide) : JE X W (.Name x pos) (dC d) :=
  pe_imp (pe_glob hg hm r hdb) fun σ H Q ⟨ρ, δ, S, rl, rs, h⟩ => h ρ v H .refl rl (hd ρ H)
/-! ### isinstance(x, T), T a built-in class -/
def tyD (S : Store) : D → String
  | .non => "NoneType"
  | .bl _ => "bool"
  | .int _ => "int"
  | .str _ => "str"
  | .tup _ => "tuple"
  | .lst _ => "list"
  | .opq => ""
  | .ref n => match S[n]? with
    | some (.lst _) => "list"
    | some (.dK _ _) => "dict"
    | _ => ""
theorem tyD_ok {Ω : Wd} {ρ : List Addr} {H : Hp} {S : Store} {d : D} {v : V} (r : Rel Ω ρ H S) (h : VR Ω.K ρ H d v) (hn : tyD S d ≠ "") : TyX Ω.K H v (.type (tyD S d)) := by
  cases d with
  | non => cases h; exact .base .non
  | bl b => cases h; exact .base (.bl b)
  | int b => cases h; exact .base (.int b)
  | str b => cases h; exact .base (.str b)
  | opq => exact absurd rfl hn
  | tup ds =>
    obtain ⟨a, vs, rfl, hs, _⟩ := h
    exact .base (.tup hs)
  | lst ds =>
    obtain ⟨a, vs, rfl, hs, _⟩ := h
    rcases hs with hs | ⟨o, hs⟩
    · exact .base (.lst hs)
    · exact .base (.frz hs)
  | ref n =>
    cases q : S[n]? with
    | none => exact absurd (by simp only [tyD, q]) hn
    | some o =>
      obtain ⟨a, h1, rfl⟩ := h
      have ob := r.ob n a o h1 q
      cases o with
      | lst ds =>
        obtain ⟨vs, h2, _⟩ := ob
        rw [show tyD S (.ref n) = "list" by simp only [tyD, q]]
        exact .base (.lst h2)
      | dK lk kvs =>
        obtain ⟨kv, _, h2, h3⟩ := ob
        rw [show tyD S (.ref n) = "dict" by simp only [tyD, q]]
        cases lk with
        | false => exact .base (.dK (h2 rfl))
        | true => obtain ⟨o, h4⟩ := h3 rfl; exact .fDict h4
      | ins c fs => exact absurd (by simp only [tyD, q]) hn
      | dT kvs => exact absurd (by simp only [tyD, q]) hn
      | exn c => exact absurd (by simp only [tyD, q]) hn
def dIsi (T : String) (fa : DE) : DE := fun δ S => (fa δ S).bind fun d S1 => if tyD S1 d = "" then .bad else match kitB (tyD S1 d) T with
  | some k => .ok (.bl k) S1
  | none => .bad
theorem je_isi (T : String) (hm : X.mg "isinstance" = none) (hT : X.mg x = none) (hv : bootBuiltins x = some (.type T)) (ha : JE X W e fa) (hg : Gl X "isinstance" := by rfl) (hgT : Gl X x := by rfl) (hn : x ≠ "__name__" := by decide) (hd : (x == ("__debug__" : Str)) = false := by decide)
    (hs : starEach (e :: [.Name x p2]) X.env = (false, eval e X.env) :: starEach [.Name x p2] X.env := by rfl) (hs2 : starEach [.Name x p2] X.env = (false, eval (.Name x p2) X.env) :: starEach [] X.env := by rfl) (hpl : (backTo pos (starEach [.Name x p2] X.env)).any (·.1) = false := by rfl) :
    JE X W (.Call (.Name "isinstance" p) [e, .Name x p2] [] pos) (dIsi T fa) :=
  pe_imp (pe_callB call_isi hg hm (by decide +kernel) (pa_cons ha (pa_cons (pe_bltn hgT hT hv (show RelV (.ty T) (.type T) from rfl) hn hd) pa_nil hs2) hs) (by decide) (by decide) hs hpl) fun σ H Q h => by
    refine LE.one h fun ρ1 d S1 v H1 r1 p1 q1 => ?_
    refine ⟨v, .ty T, .type (tyD S1 d), .type T, ?_⟩
    by_cases hn : tyD S1 d = ""
    · rw [if_pos hn] at q1; exact q1.elim
    · rw [if_neg hn] at q1
      cases k : kitB (tyD S1 d) T with
      | none => rw [k] at q1; exact q1.elim
      | some t => rw [k] at q1; exact ⟨t, rfl, .ty T, tyD_ok r1 p1 hn, kit_ty k, q1 ρ1 _ H1 .refl r1 rfl⟩
/-! ### str(x) of an int, of a text -/
def gStr : DM := fun xs S => match xs with
  | [.int i] => if i.natAbs.log2 < 1920 then .ok (.str (toString i)) S else .bad
  | [.str z] => .ok (.str z) S
  | _ => .bad
theorem callS_str : CallS X W gStr (fun xs H Q => (∃ i, xs = [.int i] ∧ i.natAbs.log2 < 1920 ∧ Q (.str (toString i)) H) ∨ ∃ a, xs = [.str a] ∧ Q (.str a) H) := by
  intro ρ H S σ Q xs vs r hx h
  match xs with
  | [.int i] =>
    obtain ⟨v, rfl, hv⟩ := vrs1 hx; cases hv
    have h' : LG (om X) W (PVR (om X)) (if i.natAbs.log2 < 1920 then .ok (.str (toString i)) S else .bad) ρ H σ Q := h
    by_cases hl : i.natAbs.log2 < 1920
    · rw [if_pos hl] at h'; exact .inl ⟨i, rfl, hl, h' ρ _ H .refl r rfl⟩
    · rw [if_neg hl] at h'; exact h'.elim
  | [.str z] => obtain ⟨v, rfl, hv⟩ := vrs1 hx; cases hv; exact .inr ⟨z, rfl, h ρ _ H .refl r rfl⟩
  | [] => exact h.elim
  | [.non] => exact h.elim
  | [.bl _] => exact h.elim
  | [.ref _] => exact h.elim
  | [.opq] => exact h.elim
  | [.tup _] => exact h.elim
  | [.lst _] => exact h.elim
  | a :: b :: t =>
    rw [show gStr (a :: b :: t) S = .bad by unfold gStr; cases a <;> rfl] at h
    exact h.elim
theorem je_strF (hm : X.mg "str" = none) (ha : JA X W (e :: es) fs) (he : starEach (e :: es) X.env = (false, eval e X.env) :: starEach es X.env := by rfl) (hpl : (backTo pos (starEach es X.env)).any (·.1) = false := by rfl) (hg : Gl X "str" := by rfl) :
    JE X W (.Call (.Name "str" p) (e :: es) [] pos) (dCall gStr fs) := je_callT (CallR.or call_str_int SkE.call_str_str) callS_str hg hm (by decide +kernel) ha (by decide) (by decide) he hpl
/-! ### methods of texts -/
def isStrD : D → Bool
  | .str _ => true
  | _ => false
/-- a method of a text with one argument: the text is known ahead of the argument -/
def dM1 (g : D → D → Store → R D) (fo fa : DE) : DE := fun δ S => (fo δ S).bind fun x S1 => if isStrD x = true then (fa δ S1).bind fun y S2 => g x y S2 else .bad
theorem LE.m1 {Ω : Wd} {g : D → D → Store → R D} {r : V → List V → Hp → VK → Prop} {σ : St} {H : Hp} {Q : VK}
    (hs : ∀ ρ H S σ Q z y u, Rel Ω ρ H S → VR Ω.K ρ H y u → LG Ω W (PVR Ω) (g (.str z) y S) ρ H σ Q → r (.str z) [u] H Q)
    (h : LE Ω W (dM1 g fo fa) σ H Q) : tM1 r (LE Ω W fo) (LE Ω W fa) σ H Q := by
  obtain ⟨ρ, δ, S, rl, rs, q⟩ := h
  refine ⟨ρ, δ, S, rl, rs, LG.bind q fun ρ1 x S1 v H1 s1 r1 p1 q1 => ?_⟩
  cases x with
  | str a =>
    cases p1
    rw [if_pos (show isStrD (.str a) = true from rfl)] at q1
    exact ⟨⟨a, rfl⟩, ρ1, δ, S1, r1, rl.rs s1 rs, LG.bind q1 fun ρ2 y S2 u H2 s2 r2 p2 q2 => hs ρ2 H2 S2 σ Q a y u r2 p2 q2⟩
  | _ => exact q1.elim
def texts : List D → Option (List Str)
  | [] => some []
  | .str b :: ds => (texts ds).map (b :: ·)
  | _ => none
theorem texts_ok {K : PySem.W.Frag} {ρ : List Addr} {H : Hp} : ∀ {ds : List D} {bs : List Str} {vs : List V}, texts ds = some bs → VRs K ρ H ds vs → vs = bs.map V.str
  | [], bs, vs, e, h => by cases e; cases h; rfl
  | .str b :: ds, bs, vs, e, ⟨v, ws, q, h, r⟩ => by
    have e' : (texts ds).map (b :: ·) = some bs := e
    rw [Option.map_eq_some_iff] at e'
    obtain ⟨cs, e1, rfl⟩ := e'
    cases h
    rw [q, texts_ok e1 r]; rfl
  | .non :: _, _, _, e, _ => by cases e
  | .int _ :: _, _, _, e, _ => by cases e
  | .bl _ :: _, _, _, e, _ => by cases e
  | .ref _ :: _, _, _, e, _ => by cases e
  | .tup _ :: _, _, _, e, _ => by cases e
  | .lst _ :: _, _, _, e, _ => by cases e
def gJoin : D → D → Store → R D := fun x y S => match x, y with
  | .str a, .lst ds => match texts ds with
    | some ys => if (ys.map (·.length)).sum + ys.length * a.length ≤ 16777216 then .ok (.str (Txt.join a ys)) S else .bad
    | none => .bad
  | _, _ => .bad
theorem je_join (ho : JE X W o fo) (ha : JE X W e fa) (hs : starEach [e] X.env = [(false, eval e X.env)] := by rfl) (hbase : attributeBase o "join" X.env (eval o X.env) = eval o X.env := by rfl) (hline : (apos.endLine == pos.line) = true := by rfl) :
    JE X W (.Call (.Attribute o "join" apos) [e] [] pos) (dM1 gJoin fo fa) := pe_imp (pe_join ho ha hs hbase hline) fun σ H Q h => by
  refine LE.m1 (fun ρ2 H2 S2 σ Q a y u r2 p2 q2 => ?_) h
  cases y with
  | lst ds =>
    obtain ⟨t, ws, rfl, hq, hn, hw⟩ := p2
    have q3 : LG (om X) W (PVR (om X)) (match texts ds with | some ys => if (ys.map (·.length)).sum + ys.length * a.length ≤ 16777216 then .ok (.str (Txt.join a ys)) S2 else .bad | none => .bad) ρ2 H2 σ Q := q2
    cases es : texts ds with
    | none => rw [es] at q3; exact q3.elim
    | some ys =>
      rw [es] at q3
      have q4 : LG (om X) W (PVR (om X)) (if (ys.map (·.length)).sum + ys.length * a.length ≤ 16777216 then .ok (.str (Txt.join a ys)) S2 else .bad) ρ2 H2 σ Q := q3
      by_cases hl : (ys.map (·.length)).sum + ys.length * a.length ≤ 16777216
      · rw [if_pos hl] at q4
        rw [texts_ok es hw] at hq
        exact ⟨a, t, ys, rfl, rfl, .inl (.inl hq), hl, q4 ρ2 _ H2 .refl r2 rfl⟩
      · rw [if_neg hl] at q4; exact q4.elim
  | _ => exact q2.elim
def gCount : D → D → Store → R D := fun x y S => match x, y with
  | .str a, .str b => .ok (.int (Txt.count a b)) S
  | _, _ => .bad
theorem je_count (ho : JE X W o fo) (ha : JE X W e fa) (hs : starEach [e] X.env = [(false, eval e X.env)] := by rfl) (hbase : attributeBase o "count" X.env (eval o X.env) = eval o X.env := by rfl) (hline : (apos.endLine == pos.line) = true := by rfl) :
    JE X W (.Call (.Attribute o "count" apos) [e] [] pos) (dM1 gCount fo fa) := pe_imp (pe_m1 PySem.F.slot_str_count PySem.F.type_str_count mt_count ho ha hs hbase hline) fun σ H Q h => by
  refine LE.m1 (fun ρ2 H2 S2 σ Q a y u r2 p2 q2 => ?_) h
  cases y with
  | str b => cases p2; exact ⟨a, b, rfl, rfl, q2 ρ2 _ H2 .refl r2 rfl⟩
  | _ => exact q2.elim
/-! ### slices -/
abbrev DO := DEnv → Store → R (Option Int)
abbrev PEq {α : Type} : List Addr → Hp → α → α → Prop := fun _ _ b c => b = c
def LO (Ω : Wd) (W : WX) (f : DO) : TO := fun σ H Q => ∃ ρ δ S, Rel Ω ρ H S ∧ RelS Ω.K ρ H δ σ ∧ LG Ω W PEq (f δ S) ρ H σ Q
abbrev JO (X : Cx) (W : WX) (e : Option Expr) (f : DO) : Prop := PO X e (LO (om X) W f)
theorem po_imp {oe : Option Expr} {t t' : TO} (h : PO X oe t) (q : ∀ σ H Q, t' σ H Q → t σ H Q) : PO X oe t' := ⟨fun pins s σ H Q I a => h.run pins s σ H Q I (q σ H Q a)⟩
def doN : DO := fun _ S => .ok none S
def doS (fa : DE) : DO := fun δ S => (fa δ S).bind fun d S1 => match d with
  | .int i => .ok (some i) S1
  | _ => .bad
theorem jo_none : JO X W none doN := po_imp po_none fun σ H Q ⟨ρ, δ, S, r, rs, h⟩ => h ρ _ H .refl r rfl
theorem jo_some (ha : JE X W e fa) : JO X W (some e) (doS fa) := po_imp (po_some ha) fun σ H Q ⟨ρ, δ, S, r, rs, h⟩ =>
  ⟨ρ, δ, S, r, rs, LG.bind h fun ρ1 d S1 v H1 s1 r1 p1 q1 => by
    cases d with
    | int i => cases p1; exact ⟨i, rfl, q1 ρ1 _ H1 .refl r1 rfl⟩
    | _ => exact q1.elim⟩
def dSl (g : D → Option Int → Option Int → Store → R D) (fe : DE) (lo hi : DO) : DE := fun δ S => (fe δ S).bind fun x S1 => (lo δ S1).bind fun l S2 => (hi δ S2).bind fun u S3 => g x l u S3
def gSlS : D → Option Int → Option Int → Store → R D := fun x l u S => match x with
  | .str z => if lenOk z.length = true then .ok (.str (cutS z l u)) S else .bad
  | _ => .bad
variable {lo hi : Option Expr} {fl fh : DO}
theorem LE.sl {Ω : Wd} {g : D → Option Int → Option Int → Store → R D} {r : V → Option Int → Option Int → Hp → VK → Prop} {σ : St} {H : Hp} {Q : VK}
    (hs : ∀ ρ H S σ Q x v l u, Rel Ω ρ H S → VR Ω.K ρ H x v → LG Ω W (PVR Ω) (g x l u S) ρ H σ Q → r v l u H Q)
    (h : LE Ω W (dSl g fa fl fh) σ H Q) : tSl r (LE Ω W fa) (LO Ω W fl) (LO Ω W fh) σ H Q := by
  obtain ⟨ρ, δ, S, rl, rs, q⟩ := h
  refine ⟨ρ, δ, S, rl, rs, LG.bind q fun ρ1 x S1 v H1 s1 r1 p1 q1 => ?_⟩
  refine ⟨ρ1, δ, S1, r1, rl.rs s1 rs, LG.bind q1 fun ρ2 l S2 l' H2 s2 r2 p2 q2 => ?_⟩
  refine ⟨ρ2, δ, S2, r2, r1.rs s2 (rl.rs s1 rs), LG.bind q2 fun ρ3 u S3 u' H3 s3 r3 p3 q3 => ?_⟩
  cases p2; cases p3
  exact hs ρ3 H3 S3 σ Q x v l u r3 (r2.vr s3 (r1.vr s2 p1)) q3
theorem je_slS (he : JE X W e fa) (hl : JO X W lo fl) (hu : JO X W hi fh) : JE X W (.Subscript e (.Slice lo hi none p2) pos) (dSl gSlS fa fl fh) := pe_imp (pe_slice sl_str he hl hu) fun σ H Q h =>
  LE.sl (fun ρ H S σ Q x v l u r hx q => by
    cases x with
    | str z =>
      cases hx
      have q' : LG (om X) W (PVR (om X)) (if lenOk z.length = true then .ok (.str (cutS z l u)) S else .bad) ρ H σ Q := q
      by_cases hz : lenOk z.length = true
      · rw [if_pos hz] at q'; exact ⟨z, rfl, lenOk_of hz, q' ρ _ H .refl r rfl⟩
      · rw [if_neg hz] at q'; exact q'.elim
    | _ => exact q.elim) h
/-! ### xs.append(x), xs.pop() -/
def gAppend (x y : D) (S : Store) : R D := match x with
  | .ref n => match S[n]? with
    | some (.lst xs) => if xs.length < sizeLine then .ok .non (S.set n (.lst (xs ++ [y]))) else .bad
    | _ => .bad
  | _ => .bad
/-- the list is known ahead of the argument -/
def isLstD (S : Store) : D → Bool
  | .ref n => match S[n]? with
    | some (.lst _) => true
    | _ => false
  | _ => false
theorem isLstD_of {S : Store} {x : D} (h : isLstD S x = true) : ∃ n ds, x = .ref n ∧ S[n]? = some (.lst ds) := by
  cases x with
  | ref n =>
    cases q : S[n]? with
    | none => simp only [isLstD, q] at h; cases h
    | some o =>
      cases o with
      | lst ds => exact ⟨n, ds, rfl, q⟩
      | _ => simp only [isLstD, q] at h; cases h
  | _ => cases h
def dAppend (fo fa : DE) : DE := fun δ S => (fo δ S).bind fun x S1 => if isLstD S1 x = true then (fa δ S1).bind fun y S2 => gAppend x y S2 else .bad
theorem je_append (ho : JE X W o fo) (ha : JE X W e fa) (hbase : attributeBase o "append" X.env (eval o X.env) = eval o X.env := by rfl)
    (hfew : ((backTo cpos (starEach [e] X.env)).all (fun x => !x.1) && (backToKw cpos (keywordEach [] X.env)).all (fun x => x.1.isSome)
      && decide ([e].length + ([] : List Keyword).length + (if ([] : List Keyword).isEmpty then 0 else 1) < 30)) = true := by rfl)
    (hline : (apos.endLine == cpos.line) = true := by rfl) (hs : starEach [e] X.env = (false, eval e X.env) :: starEach [] X.env := by rfl) (hplain : (backTo cpos (starEach [] X.env)).any (·.1) = false := by rfl) :
    JE X W (.Call (.Attribute o "append" apos) [e] [] cpos) (dAppend fo fa) := pe_imp (pe_bm PySem.F.plainAttrs_list PySem.F.slot_list_append PySem.F.type_list_append mt_append ho (pa_cons ha pa_nil hs) hbase hfew hline hs hplain) fun σ H Q ⟨ρ, δ, S, r, rs, h⟩ => by
  refine ⟨ρ, δ, S, r, rs, LG.bind h fun ρ1 x S1 v H1 s1 r1 p1 q1 => ?_⟩
  by_cases hl : isLstD S1 x = true
  · rw [if_pos hl] at q1
    obtain ⟨n, ds, rfl, en⟩ := isLstD_of hl
    obtain ⟨a1, ws, rfl, _, h1, _⟩ := r1.lstAt p1 en
    refine ⟨.inl ⟨rfl, ws, .of h1⟩, ρ1, δ, S1, r1, r.rs s1 rs, LG.bind q1 fun ρ2 y S2 u H2 s2 r2 p2 q2 => ?_⟩
    cases e2 : S2[n]? with
    | none => rw [show gAppend (.ref n) y S2 = .bad by simp only [gAppend, e2]] at q2; exact q2.elim
    | some ob =>
      cases ob with
      | dK _ _ => rw [show gAppend (.ref n) y S2 = .bad by simp only [gAppend, e2]] at q2; exact q2.elim
      | ins _ _ => rw [show gAppend (.ref n) y S2 = .bad by simp only [gAppend, e2]] at q2; exact q2.elim
      | dT _ => rw [show gAppend (.ref n) y S2 = .bad by simp only [gAppend, e2]] at q2; exact q2.elim
      | exn _ => rw [show gAppend (.ref n) y S2 = .bad by simp only [gAppend, e2]] at q2; exact q2.elim
      | lst es =>
        obtain ⟨a2, us, ea, hn, h2, hus⟩ := r2.lstAt (r1.vr s2 p1) e2
        cases ea
        rw [show gAppend (.ref n) y S2 = (if es.length < sizeLine then .ok .non (S2.set n (.lst (es ++ [y]))) else .bad) by simp only [gAppend, e2]] at q2
        by_cases hlt : es.length < sizeLine
        · rw [if_pos hlt] at q2
          have hm := List.mem_of_getElem? hn
          have st : Step ρ2 H2 ρ2 (upd H2 a1 (.lst (us ++ [u]))) := .write hm h2
          exact ⟨a1, us, u, rfl, rfl, h2, by rw [← VRs.len hus]; exact hlt, q2 ρ2 .non _ st (r2.write hn h2 ⟨_, upd_same, VRs.append (r2.vrs st hus) ⟨u, [], rfl, r2.vr st p2, rfl⟩⟩) rfl⟩
        · rw [if_neg hlt] at q2; exact q2.elim
  · rw [if_neg hl] at q1; exact q1.elim
def gPop (x : D) (S : Store) : R D := match x with
  | .ref n => match S[n]? with
    | some (.lst xs) => match xs[xs.length - 1]? with
      | some y => .ok y (S.set n (.lst xs.dropLast))
      | none => .bad
    | _ => .bad
  | _ => .bad
theorem VRs.dropLast {K : PySem.W.Frag} {ρ : List Addr} {H : Hp} {ds : List D} {vs : List V} (h : VRs K ρ H ds vs) : VRs K ρ H ds.dropLast vs.dropLast := by
  rw [List.dropLast_eq_take, List.dropLast_eq_take, VRs.len h]
  exact VRs.take _ h
theorem je_pop (ho : JE X W o fo) (hbase : attributeBase o "pop" X.env (eval o X.env) = eval o X.env := by rfl) (hline : (apos.endLine == cpos.line) = true := by rfl) : JE X W (.Call (.Attribute o "pop" apos) [] [] cpos) (fun δ S => (fo δ S).bind gPop) :=
  pe_imp (pe_bm0 PySem.F.plainAttrs_list PySem.F.slot_list_pop PySem.F.type_list_pop mt_pop ho hbase hline) fun σ H Q h => LE.one h fun ρ1 x S1 v H1 r1 p1 q1 => by
    cases x with
    | ref n =>
      cases e2 : S1[n]? with
      | none => rw [show gPop (.ref n) S1 = .bad by simp only [gPop, e2]] at q1; exact q1.elim
      | some ob =>
        cases ob with
        | dK _ _ => rw [show gPop (.ref n) S1 = .bad by simp only [gPop, e2]] at q1; exact q1.elim
        | ins _ _ => rw [show gPop (.ref n) S1 = .bad by simp only [gPop, e2]] at q1; exact q1.elim
        | dT _ => rw [show gPop (.ref n) S1 = .bad by simp only [gPop, e2]] at q1; exact q1.elim
        | exn _ => rw [show gPop (.ref n) S1 = .bad by simp only [gPop, e2]] at q1; exact q1.elim
        | lst xs =>
          obtain ⟨a1, us, rfl, hn, h2, hus⟩ := r1.lstAt p1 e2
          cases e3 : xs[xs.length - 1]? with
          | none => rw [show gPop (.ref n) S1 = .bad by simp only [gPop, e2, e3]] at q1; exact q1.elim
          | some y =>
            rw [show gPop (.ref n) S1 = .ok y (S1.set n (.lst xs.dropLast)) by simp only [gPop, e2, e3]] at q1
            obtain ⟨u, hu1, hu2⟩ := VRs.get hus e3
            have hm := List.mem_of_getElem? hn
            have st : Step ρ1 H1 ρ1 (upd H1 a1 (.lst us.dropLast)) := .write hm h2
            exact ⟨.inl ⟨rfl, us, .of h2⟩, a1, us, u, rfl, rfl, h2, by rw [← VRs.len hus]; exact hu1, q1 ρ1 u _ st (r1.write hn h2 ⟨_, upd_same, r1.vrs st hus.dropLast⟩) (r1.vr st hu2)⟩
    | _ => exact q1.elim
end
end DL
/-! an own exception whose __init__ begins with super().__init__(code) -/
namespace DL
open PySem PySem.Spec L2

/-- what is told of a method that says super() -/
structure SupF (P : Program) (K : PySem.W.Frag) (f D cda cc : Addr) (name qual : Str) (params : Arguments) (body : List Stmt) (scope : Scope) (fd : FuncData) : Prop where
  fn : ∃ dV kV doc pm an ct oc od osl, fd = PySem.W.ksFn name qual params body scope dV kV doc pm an (.ref cda) ct cc ∧ K.lookup f = some ⟨oc, od, .func fd, osl⟩
  ci : PySem.W.codeIn K (.ref cda) qual = true
  code : ∃ ccl cdd vs ccs file tf, K.lookup cda = some ⟨ccl, cdd, .fields vs, ccs⟩ ∧ vs[2]? = some (.str file tf) ∧ ((P.main.file : Str) == file) = true
  cell : ∃ cl cld csl, K.lookup cc = some ⟨cl, cld, .cell (some (.ref D)), csl⟩
  cls : (PySem.W.clsIn K D).isSome = true
  top : (P.main.scope.names.lookup ("super" : Str)).isSome = false
  st : PySem.W.nsIn K cStatics "thirdparty.any" = some none

section
variable {X : Cx} {pins : List (Addr × Obj)} {σ : L2.St} {H : Hp} {s : Shared} {a C D f cda cc so u : Addr} {A : Around} {E : Value → Shared → Prop}
theorem exc_inst {d : Option Addr} (I : Inv X pins σ H s) (e : H a = some (exo a C none)) : ∃ t1 : Addr, PySem.W.InstAt s.heap a (PySem.W.excObj C t1 none .none) C none := by
  obtain ⟨t1, ho⟩ := exo_at I.hok e
  exact ⟨t1, ho, rfl, rfl, trivial⟩

theorem sup_node {name qual : Str} {params : Arguments} {body bd : List Stmt} {scope : Scope} {fd : FuncData} {p0 p1 : Pos} {attr : Str} {whole : Sem Value} {L : Addr} {ar : Arg} {Q : Value → Shared → Prop}
    (S : SupF X.prog X.K f D cda cc name qual params body scope fd) (hX : X.env = PySem.W.ksEnv qual scope L f (.ref cda) cc) (I : Inv X pins σ H s) (e : H a = some (exo a C none))
    (h0 : X.N[0]? = some ar.arg) (hs : σ[0]? = some (some (.ref a))) (hp : (params.posonlyargs ++ params.args).head? = some ar)
    (hsub : PySem.W.mroIn X.K C (.ref D) = some true) (hm : X.mg "super" = none) (hat : (attr == ("__class__" : Str)) = false)
    (hks : scope.names.lookup ("super" : Str) = some .globalImplicit) (hkc : scope.names.lookup ("__class__" : Str) = some .free) (hka : scope.names.lookup ar.arg = some .local) (hk : scope.kind = .function)
    (h : ∀ s', s'.heap.get? s.heap.objs.size = some (PySem.W.ks_superObj D a C) → Inv X ((s.heap.objs.size, PySem.W.ks_superObj D a C) :: pins) σ H s' → Q (.ref s.heap.objs.size) s') :
    _root_.PySem.wpAt (model X.prog X.w) A (.func bd X.env) (attributeBase (.Call (.Name "super" p0) [] [] p1) attr X.env whole) Q E s := by
  obtain ⟨dV, kV, doc, pm, an, ct, oc, od, osl, hfd, hf⟩ := S.fn
  obtain ⟨ccl, cdd, vs, ccs, file, tf, hcode, hvs, hfile⟩ := S.code
  obtain ⟨cl, cld, csl, hcell⟩ := S.cell
  obtain ⟨cdD, hD⟩ := Option.isSome_iff_exists.mp S.cls
  have XK : X.K.In s.heap := I.kIn
  obtain ⟨t1, J⟩ := exc_inst (d := none) I e
  have glob := I.mod.glob.keeps I.bk
  obtain ⟨mb, hb1, hb2⟩ := I.mod.blt
  have hb := hb1.keeps I.bk
  have hself : ∃ m, s.heap.Ns X.env.locals m ∧ m ar.arg = some (.ref a) := by
    obtain ⟨m, hn, hl⟩ := I.loc
    obtain ⟨u, r, l⟩ := hl 0 ar.arg (.ref a) h0 hs (.inl (by rw [hX]; exact hka))
    obtain rfl : u = Value.ref a := r
    rcases l with ⟨_, q⟩ | ⟨q, _⟩
    · exact ⟨m, hn, q⟩
    · have z : X.env.kindOf ar.arg = some .local := by rw [hX]; exact hka
      rw [z] at q
      rcases q with q | q <;> cases q
  obtain ⟨m, hn, hv⟩ := hself
  obtain ⟨oD, hD1, hD2⟩ : ∃ oD, s.heap.get? D = some oD ∧ oD.data = .cls cdD := by
    unfold PySem.W.clsIn at hD
    split at hD
    · rename_i c d cd' sl ho
      cases hD
      exact ⟨_, XK _ _ ho, rfl⟩
    · cases hD
  have fin : ∀ h', h'.get? s.heap.objs.size = some (PySem.W.ks_superObj D a C) → (∀ b o, s.heap.get? b = some o → h'.get? b = some o) → Q (.ref s.heap.objs.size) { s with heap := h' } := fun h' q k =>
    h _ q (ClX.pin_new (t' := s.toks) I k (Nat.le_refl _) q (fun v z => nomatch z))
  rw [hX] at hn ⊢
  obtain ⟨hh, g, d, t, os⟩ := s
  subst hfd
  refine ks_wpAt_super_base (env := PySem.W.ksEnv qual scope L f (.ref cda) cc) hks hkc hat rfl (XK _ _ hf) rfl hp rfl (XK _ _ hcode) rfl hvs hfile S.top ?_
  refine PySem.W.ks_loadName_global hk hks (Calls.loadGlobal_builtin (env := PySem.W.ksEnv qual scope L f (.ref cda) cc) glob hm hb ((hb2 _ (by decide)).trans (by kernel_rfl)) ⟨rfl, ?_⟩)
  refine wpAny_loadName_free hk hkc rfl ⟨_, XK _ _ hcell, rfl⟩ ?_
  refine wpAny_loadName_local hk hka hn hv ?_
  refine ks_wpAny_isType_cls hD1 hD2 ⟨rfl, ?_⟩
  refine ks_wpAny_call_super hD1 hD2 J.at_ J.cls (fun c e => ?_) (PySem.W.looks_mroIn XK hsub) (fun h' e k => ?_)
  · have := J.no
    unfold PySem.W.notCls at this
    rw [e] at this
    exact Bool.noConfusion this
  · exact fin h' e k

/-- ValueError.__init__ bound to the exception, called: nothing of it is told -/
theorem call_mw {us : List Value} {Q : Value → Shared → Prop} (T : OexC X.K C) (I : Inv X pins σ H s) (e : H a = some (exo a C none)) (hu : s.heap.get? u = some (PySem.W.kxs_mw "ValueError.__init__" a)) (hl : us.length ≤ sizeLine)
    (h : ∀ s', Inv X pins σ H s' → Q .none s') : wpAny (model X.prog X.w) A (call (.ref u) us) Q E s := by
  obtain ⟨nm, q, N, bs, bm, sn, sub, ab, col, dd, k0, k1, k2, k3, k5, hC, hbm⟩ := T.cls
  obtain ⟨t1, ho⟩ := exo_at I.hok e
  have hC' := I.kIn _ _ hC
  have fin : ∀ h' t2, (∀ b o, b ≠ a → s.heap.get? b = some o → h'.get? b = some o) → h'.get? a = some (PySem.W.excObj C t2 none .none) → Q .none { s with heap := h' } := fun h' t2 k hx => by
    have J := I.write (t' := s.toks) (x := a) (e := a) (o := exo a C none) (by rw [e]; exact True.intro) (.inl rfl) k ⟨_, hx⟩ (exo_ok hx)
    have eu : upd H a (exo a C none) = H := by
      funext b
      by_cases hb : b = a
      · rw [hb, upd_same, e]
      · rw [upd_ne hb]
    rw [eu] at J
    exact h _ J
  obtain ⟨hh, g, d, tk, os⟩ := s
  refine wpAny_call (codeAny_of_tree ?_)
  show wpAny _ A.in1 (callAny (.ref u) ⟨us, []⟩) _ _ _
  simp only [callAny]
  refine wpAny_bind (wpAny_load hu ?_)
  simp only [PySem.W.kxs_mw, show (Value.type "method-wrapper" == Value.type "method" || Value.type "method-wrapper" == Value.type "builtin_function_or_method" || Value.type "method-wrapper" == Value.type "method-wrapper") = true by decide, if_true]
  refine PySem.W.KFB.if_so (by decide) ?_
  refine wpAny_bind (PySem.W.check_bound_init PySem.F.excBase_ValueError.toExcCallFacts hC' ho rfl ?_)
  refine wpAny_bind (wpAny_pure (wpAny_pure ?_))
  refine ⟨PySem.plainId_quiet PySem.F.excBase_ValueError.init.plain _, codeAny_builtin PySem.F.excBase_ValueError.initEntry ?_⟩
  exact PySem.W.exc_init_tree (cls := .ref C) (t0 := t1) (dv := none) (c2 := .none) (c3 := .none) (b4 := .bool false) ho hl fun h' k hx _ => fin h' _ k hx

/-- where super().m leads: along the class's ways, behind D -/
theorem sup_cls {v : Value} (h : PySem.W.ks_superIn X.K C D "__init__" = some (some v)) : ∃ cd, PySem.W.clsIn X.K C = some cd ∧ PySem.W.alongIn X.K "__init__" ((cd.mro.dropWhile (· != .ref D)).drop 1) = some (some v) := by
  unfold PySem.W.ks_superIn at h
  cases hc : PySem.W.clsIn X.K C with
  | none => rw [hc] at h; cases h
  | some cd => rw [hc] at h; exact ⟨cd, rfl, h⟩

section
variable {pos apos : Pos} {x : Expr} {es : List Expr} {ta : TA} {pl : Sem Bool}
/-- super().__init__(x, ..), ValueError's -/
theorem sup_base {name qual : Str} {params : Arguments} {body bd : List Stmt} {scope : Scope} {fd : FuncData} {p0 p1 : Pos} {L : Addr} {ar : Arg} {Q : L2.St → Hp → Prop} {R : Value → Shared → Prop}
    (S : SupF X.prog X.K f D cda cc name qual params body scope fd) (hX : X.env = PySem.W.ksEnv qual scope L f (.ref cda) cc) (I : Inv X pins σ H s) (T : OexC X.K C) (e : H a = some (exo a C none))
    (h0 : X.N[0]? = some ar.arg) (hs : σ[0]? = some (some (.ref a))) (hp : (params.posonlyargs ++ params.args).head? = some ar)
    (hsub : PySem.W.mroIn X.K C (.ref D) = some true) (hm : X.mg "super" = none)
    (hks : scope.names.lookup ("super" : Str) = some .globalImplicit) (hkc : scope.names.lookup ("__class__" : Str) = some .free) (hka : scope.names.lookup ar.arg = some .local) (hk : scope.kind = .function)
    (hn : PySem.W.ks_superIn X.K C D "__init__" = some (some (.builtin "ValueError.__init__"))) (hv : PySem.W.subIn X.K (.ref C) (.type "ValueError") = some true)
    (ha : PA X (x :: es) ta) (hta : ta σ H fun vs H' => vs.length ≤ 1000 ∧ H' = H)
    (h : ∀ s', Inv X pins σ H s' → R .none s')
    (ht : eval (.Call (.Attribute (.Call (.Name "super" p0) [] [] p1) "__init__" apos) (x :: es) [] pos) X.env = (do
      let ov ← attributeBase (.Call (.Name "super" p0) [] [] p1) "__init__" X.env (eval (.Call (.Name "super" p0) [] [] p1) X.env)
      standAt apos.atName
      let (f, first) ← holding [ov] (getMethod ov "__init__" pl)
      callWith pos f first (backTo pos (starEach (x :: es) X.env)) []))
    (he : starEach (x :: es) X.env = (false, eval x X.env) :: starEach es X.env) (hpl : (backTo pos (starEach es X.env)).any (·.1) = false) :
    _root_.PySem.wpAt (model X.prog X.w) X.A (.func bd X.env) (eval (.Call (.Attribute (.Call (.Name "super" p0) [] [] p1) "__init__" apos) (x :: es) [] pos) X.env) R X.xe s := by
  refine ks_wpAt_MethodCall (pl := pl) (sup_node S hX I e h0 hs hp hsub hm (by decide) hks hkc hka hk fun s1 hso I1 => ?_) ht
  obtain ⟨t1, J⟩ := exc_inst (d := none) (ClX.unpin I1) e
  obtain ⟨cd, hc, hal⟩ := sup_cls hn
  have XK := I1.kIn
  have hI : PySem.W.Looks (model X.prog X.w) s1.heap (isInstance (.ref a) (.type "ValueError")) true := J.type.andThen (PySem.W.looks_subIn XK hv)
  have hC : PySem.W.Looks (model X.prog X.w) s1.heap (mroOf (.ref C)) cd.mro := (PySem.W.looks_clsIn XK hc).andThen .now
  have go : ∀ s2, s2.heap.get? s1.heap.objs.size = some (PySem.W.kxs_mw "ValueError.__init__" a) → Inv X ((s1.heap.objs.size, PySem.W.kxs_mw "ValueError.__init__" a) :: pins) σ H s2 →
      wpAny (model X.prog X.w) X.A (callWith pos (.ref s1.heap.objs.size) [] (backTo pos (starEach (x :: es) X.env)) []) R X.xe s2 := fun s2 _ I2 => by
    have g := fun (Q : Value → Shared → Prop) (h : wpAny (model X.prog X.w) X.A (spliced (backTo pos (starEach (x :: es) X.env))) (fun vs s₁ => PySem.W.KxsAt "ValueError.__init__" s1.heap.objs.size a s₁.heap ∧ wpAny (model X.prog X.w) X.A (call (.ref s1.heap.objs.size) vs) Q X.xe s₁) X.xe s2) =>
      show wpAny (model X.prog X.w) X.A (callWith pos (.ref s1.heap.objs.size) [] (backTo pos (starEach (x :: es) X.env)) []) Q X.xe s2 from by
        rw [he] at h ⊢
        refine PySem.W.kxs_callWith (i := "ValueError.__init__") (x := a) (by show (false || (backTo pos (starEach es X.env)).any (·.1)) = false; rw [hpl]; rfl) ?_
        exact PySem.Calls.evalArgs_plain h
    refine g R (thn (ha.run pos _ s2 σ H _ I2 hta) fun us s3 ⟨vs, H2, I3, rv, hlen, eH⟩ => ?_)
    subst eH
    refine ⟨ClX.pin_at I3, call_mw T (ClX.unpin I3) e (ClX.pin_at I3) (by rw [← Paired.length rv, sizeLine_eq]; omega) fun s' I4 => h s' I4⟩
  have kont : ∀ h' t', (∀ b o, s1.heap.get? b = some o → h'.get? b = some o) → h'.get? s1.heap.objs.size = some (PySem.W.kxs_mw "ValueError.__init__" a) →
      wpAny (model X.prog X.w) X.A (callWith pos (.ref s1.heap.objs.size) [] (backTo pos (starEach (x :: es) X.env)) []) R X.xe { s1 with heap := h', toks := t' } := fun h' t' k q =>
    go _ q (ClX.pin_new (ClX.unpin I1) k (Nat.le_refl _) q (fun v z => nomatch z))
  obtain ⟨hh, g, d, tk, os⟩ := s1
  refine PySem.W.kxs_getMethod PySem.W.kxs_ValueError hso (PySem.W.looks_opaque XK S.st) hC rfl XK hal hI (PySem.W.ks_ne XK J hc) (by decide) ?_
  exact kont _ _ (fun _ _ z => Heap.get?_push_of_some _ z) (Heap.get?_push_at rfl rfl)
end
end
end DL
namespace DL
open PySem PySem.Spec L2
section
variable {X : Cx} {pins : List (Addr × Obj)} {σ : L2.St} {H : Hp} {s : Shared} {a C D f cda cc so u f2 : Addr} {A : Around} {E : Value → Shared → Prop}
variable {pos apos : Pos} {x : Expr} {es : List Expr} {ta : TA} {pl : Sem Bool}
/-- super().__init__(x, ..), an own one -/
theorem sup_own {name qual : Str} {params : Arguments} {body bd : List Stmt} {scope : Scope} {fd fd2 : FuncData} {p0 p1 : Pos} {L : Addr} {ar : Arg} {Q : Hp → Prop} {R : Value → Shared → Prop} {k : Nat} {ps : List Str} {sp : Sp} {vs : List V} {us0 : List Value}
    (S : SupF X.prog X.K f D cda cc name qual params body scope fd) (hX : X.env = PySem.W.ksEnv qual scope L f (.ref cda) cc) (I : Inv X pins σ H s) (T : OexC X.K C) (e : H a = some (exo a C none))
    (h0 : X.N[0]? = some ar.arg) (hs : σ[0]? = some (some (.ref a))) (hp : (params.posonlyargs ++ params.args).head? = some ar)
    (hsub : PySem.W.mroIn X.K C (.ref D) = some true) (hm : X.mg "super" = none)
    (hks : scope.names.lookup ("super" : Str) = some .globalImplicit) (hkc : scope.names.lookup ("__class__" : Str) = some .free) (hka : scope.names.lookup ar.arg = some .local) (hk : scope.kind = .function)
    (hn : PySem.W.ks_superIn X.K C D "__init__" = some (some (.ref f2))) (ht2 : PySem.W.typeIn X.K (.ref f2) = some (.type "function")) (hf2 : PySem.W.fnIn X.K f2 = true)
    (F2 : FnOk X.prog X.w X.K X.mg X.base (L2N.CX X.prog X.w) k f2 fd2 ps sp) (hr : Room k X.A) (hb2 : Binds X.K fd2 ps []) (hx : Passes (L2N.CX X.prog X.w) X (fun _ _ _ => False))
    (ha : PA X (x :: es) ta) (hta : ta σ H fun ws H' => ws = vs ∧ H' = H) (hsp : sp (.ref a :: vs) H (fun _ H' => Q H') (fun _ _ _ => False))
    (h : ∀ u s' H', Inv X pins σ H' s' → Q H' → R u s')
    (ht : eval (.Call (.Attribute (.Call (.Name "super" p0) [] [] p1) "__init__" apos) (x :: es) [] pos) X.env = (do
      let ov ← attributeBase (.Call (.Name "super" p0) [] [] p1) "__init__" X.env (eval (.Call (.Name "super" p0) [] [] p1) X.env)
      standAt apos.atName
      let (f, first) ← holding [ov] (getMethod ov "__init__" pl)
      callWith pos f first (backTo pos (starEach (x :: es) X.env)) []))
    (he : starEach (x :: es) X.env = (false, eval x X.env) :: starEach es X.env) (hpl : (backTo pos (starEach es X.env)).any (·.1) = false) :
    _root_.PySem.wpAt (model X.prog X.w) X.A (.func bd X.env) (eval (.Call (.Attribute (.Call (.Name "super" p0) [] [] p1) "__init__" apos) (x :: es) [] pos) X.env) R X.xe s := by
  refine ks_wpAt_MethodCall (pl := pl) (sup_node S hX I e h0 hs hp hsub hm (by decide) hks hkc hka hk fun s1 hso I1 => ?_) ht
  obtain ⟨t1, J⟩ := exc_inst (d := none) (ClX.unpin I1) e
  obtain ⟨cd, hc, hal⟩ := sup_cls hn
  have XK := I1.kIn
  have hC : PySem.W.Looks (model X.prog X.w) s1.heap (mroOf (.ref C)) cd.mro := (PySem.W.looks_clsIn XK hc).andThen .now
  obtain ⟨of, hof, hofc⟩ : ∃ of, s1.heap.get? f2 = some of ∧ of.cls = .type "function" := by
    have ht' : (X.K.lookup f2).map (·.cls) = some (.type "function") := ht2
    cases z : X.K.lookup f2 with
    | none => rw [z] at ht'; cases ht'
    | some of => rw [z] at ht'; exact ⟨of, XK _ _ z, Option.some.inj ht'⟩
  have go : ∀ s2, X.base.get? s1.heap.objs.size = none → Inv X ((s1.heap.objs.size, PySem.W.methodObj (.ref f2) (.ref a)) :: pins) σ H s2 →
      wpAny (model X.prog X.w) X.A (callWith pos (.ref s1.heap.objs.size) [] (backTo pos (starEach (x :: es) X.env)) []) R X.xe s2 := fun s2 hbn I2 => by
    refine ClX.callwith_cm I2 hbn hf2 (thn (ha.run pos _ s2 σ H _ I2 hta) fun us s3 ⟨vs', H2, I3, rv, ev, eH⟩ => ⟨⟨ClX.pin_at I3, I3.kIn⟩, ?_⟩) he hpl
    subst ev eH
    have hl : (Value.ref a :: us).length = ps.length := by
      have q := F2.len _ _ _ _ hsp
      rw [← q, List.length_cons, List.length_cons, ← Paired.length rv]
    have b := hb2 s3 (Value.ref a :: us) I3.kIn (by rw [List.append_nil]; exact hl)
    rw [List.append_nil] at b
    refine wpAny_call (PySem.W.method_call (ClX.pin_at I3) (codeAny_mono (F2.run X.A X.stack s3 H2 ⟨.ref a :: us, []⟩ (.ref a :: us) (.ref a :: vs') _ _ hr I3.env0 b (.cons rfl rv) hsp) fun r s' hq => ?_))
    cases r with
    | error er => exact hx _ σ H2 _ er s' I3 hq
    | ok fl =>
      cases fl with
      | ret u =>
        obtain ⟨v, H', I4, r4, q4⟩ := I3.after hq
        exact h u s' H' (ClX.unpin I4) q4
      | next => exact False.elim hq
      | brk => exact False.elim hq
      | cont => exact False.elim hq
  have kont : ∀ h' t', (∀ b o, s1.heap.get? b = some o → h'.get? b = some o) → h'.get? s1.heap.objs.size = some (PySem.W.methodObj (.ref f2) (.ref a)) →
      wpAny (model X.prog X.w) X.A (callWith pos (.ref s1.heap.objs.size) [] (backTo pos (starEach (x :: es) X.env)) []) R X.xe { s1 with heap := h', toks := t' } := fun h' t' k q =>
    go _ (ClX.base_none I1 (Nat.le_refl _)) (ClX.pin_new (ClX.unpin I1) k (Nat.le_refl _) q (fun v z => nomatch z))
  obtain ⟨hh, g, d, tk, os⟩ := s1
  refine ks_wpAny_getMethod_super hso (PySem.W.looks_opaque XK S.st) hC rfl XK hal hof hofc (PySem.W.ks_ne XK J hc) (by decide) ?_
  exact kont _ _ (fun _ _ z => Heap.get?_push_of_some _ z) (Heap.get?_push_at rfl rfl)
end
/-! ### a method that says super(): by its first line and the rest -/
def nfOf (name qual : Str) (params : Arguments) (body : List Stmt) (scope : Scope) (cda cc : Addr) : NdefX.NF := ⟨name, qual, params, body, scope, [("__class__", cc)], cda⟩
section
variable {P : Program} {w : World} {K : PySem.W.Frag} {mg : Str → Option Value} {base : Heap} {CX : CXT} {k : Nat} {f D cda cc : Addr} {name qual : Str} {params : Arguments} {st1 : Stmt} {rest : List Stmt} {scope : Scope} {fd : FuncData} {N ps : List Str} {sp : Sp}
abbrev supX (CX : CXT) (P : Program) (w : World) (K : PySem.W.Frag) (mg : Str → Option Value) (base : Heap) (N : List Str) (name qual : Str) (params : Arguments) (body : List Stmt) (scope : Scope) (cda cc f : Addr) (A : Around) (outer : List Env) (s : Shared) (H : Hp) (E : XK) : Cx :=
  NdefX.ncx CX P w K mg base N (nfOf name qual params body scope cda cc) f A outer s H E
theorem fn_sup (S : SupF P K f D cda cc name qual params (st1 :: rest) scope fd) (sc : NdefX.NScope N ps ["__class__"] scope) (len : ∀ vs H Q E, sp vs H Q E → vs.length = ps.length)
    (hbody : ∀ (A : Around) (outer : List Env) (s : Shared) (H : Hp) (vs : List V) (Q : VK) (E : XK), Room k (A.deeper (PySem.W.ksEnv qual scope s.heap.objs.size f (.ref cda) cc)) → sp vs H Q E →
      ∃ t : TS, (∀ s1, Inv (supX CX P w K mg base N name qual params (st1 :: rest) scope cda cc f A outer s H E) [] (NdefX.startF N vs [none]) H s1 →
          _root_.PySem.wpAt (model P w) (A.deeper (PySem.W.ksEnv qual scope s.heap.objs.size f (.ref cda) cc)) (.func (st1 :: rest) (PySem.W.ksEnv qual scope s.heap.objs.size f (.ref cda) cc)) (exec st1 (PySem.W.ksEnv qual scope s.heap.objs.size f (.ref cda) cc))
            (fun fl s' => fl = .next ∧ ∃ σ' H', Inv (supX CX P w K mg base N name qual params (st1 :: rest) scope cda cc f A outer s H E) [] σ' H' s' ∧ t { nx := fun _ H' => Q .non H', rt := Q } σ' H')
            (supX CX P w K mg base N name qual params (st1 :: rest) scope cda cc f A outer s H E).xe s1) ∧
        PSs (supX CX P w K mg base N name qual params (st1 :: rest) scope cda cc f A outer s H E) rest t) :
    FnOk P w K mg base CX (k + 1) f fd ps sp := by
  refine ⟨len, fun A outer s H args us vs Q E hr e0 hb r hsp => ?_⟩
  obtain ⟨dV, kV, doc, pm, an, ct, oc, od, osl, hfd, lk⟩ := S.fn
  subst hfd
  have hl := len _ _ _ _ hsp
  have KX : K.In s.heap := e0.mod.kin.keeps fun b o e => (e0.bs b o e).1
  have lim : s.heap.NoLimit := e0.mod.nolimit.keeps fun b o e => (e0.bs b o e).1
  obtain ⟨cl, cld, csl, hcell⟩ := S.cell
  obtain ⟨t, h1, hrest⟩ := hbody A outer s H vs Q E (hr.deeper _) hsp
  refine ks_codeAny_call_defAt (fd := PySem.W.ksFn name qual params (st1 :: rest) scope dV kV doc pm an (.ref cda) ct cc) (body := st1 :: rest) (binds := ps.zip us) hr.depth (KX _ _ lk) rfl lim (PySem.W.codeRec_of KX S.ci) rfl hb (fun y hy => sc.nocell y hy) (fun y hy => sc.par y.1 (List.of_mem_zip hy).1) (fun h₁ hns kp => ?_) sc.co sc.gen sc.kind
  have I : Inv (supX CX P w K mg base N name qual params (st1 :: rest) scope cda cc f A outer s H E) [] (NdefX.startF N vs [none]) H { s with heap := h₁, toks := s.toks + (ps.zip us).length } := by
    refine NdefX.inv_startN (fr := ["__class__"]) sc hr.hd e0 hl r ⟨rfl, fun y c hy => ?_, fun y z c hy hz => ?_, fun i y hi => ?_⟩ hns kp
    · have hy : List.lookup y [(("__class__" : Str), cc)] = some c := hy
      have e : c = cc := by
        simp only [List.lookup] at hy
        split at hy
        · exact (Option.some.inj hy).symm
        · cases hy
      subst e
      have q := e0.bs _ _ (e0.mod.kin _ _ hcell)
      exact ⟨q.2, some (.ref D), _, q.1, rfl⟩
    · have key : ∀ {y}, List.lookup y [(("__class__" : Str), cc)] = some c → y = "__class__" := fun {y} hy => by
        simp only [List.lookup] at hy
        split at hy
        · rename_i q
          exact beq_iff_eq.mp q
        · cases hy
      rw [key hy, key hz]
    · cases i with
      | zero =>
        have e : y = "__class__" := (Option.some.inj hi).symm
        subst e
        exact ⟨cc, by show List.lookup ("__class__" : Str) [(("__class__" : Str), cc)] = some cc; simp [List.lookup], fun v hv => by cases hv⟩
      | succ i => simp at hi
  refine ks_wpAt_execs_cons (ks_wpAt_mono (h1 _ I) (fun fl s' hs => ?_) fun e s' hs => hs)
  obtain ⟨rfl, σ', H', J, q⟩ := hs
  refine wpAt_of_wpAny (wpAny_mono (hrest.run [] s' σ' H' _ J q) (fun fl s' hs => ?_) fun e s' hs => hs)
  have fin : ∀ {σ' : L2.St} {H' : Hp} {v : V} {u : Value}, Inv (supX CX P w K mg base N name qual params (st1 :: rest) scope cda cc f A outer s H E) [] σ' H' s' → RelV v u → Q v H' → CE outer P w H s Q u s' :=
    fun {σ' H' v u} J rv q => ⟨v, H', J.os, J.bare, J.base, J.hok, rv, q⟩
  cases fl with
  | ret u =>
    obtain ⟨v, σ', H', J, rv, q⟩ := hs
    exact fin J rv q
  | next =>
    obtain ⟨σ', H', J, q⟩ := hs
    exact fin (v := V.non) (u := Value.none) J rfl q
  | brk =>
    obtain ⟨_, _, _, q⟩ := hs
    exact False.elim q
  | cont =>
    obtain ⟨_, _, _, q⟩ := hs
    exact False.elim q
end
end DL
namespace DL
open PySem PySem.Spec L2
theorem takes_no {X : Cx} : L2N.Takes X (fun _ _ _ _ => False) := fun _ _ ⟨_, _, _, _, _, _, _, _, _, _, _, _, _, _, _, _, w⟩ => w.elim
/-- C below D: what super() within D's method finds for C's instances -/
structure SupC (K : PySem.W.Frag) (C D : Addr) (v : Value) : Prop where
  sub : PySem.W.mroIn K C (.ref D) = some true
  nx : PySem.W.ks_superIn K C D "__init__" = some (some v)
def excS (H : Hp) (a C dx : Addr) (fs : List (Str × V)) : Hp := upd (upd H dx (exd dx fs)) a (exo a C (some dx))
/-- __init__(self, code): super().__init__(code); self.code = code -/
def spS (K : PySem.W.Frag) (D : Addr) : Sp := fun vs H Q _ => ∃ (a C : Addr) (c : V), vs = [.ref a, c] ∧ OexC K C ∧ H a = some (exo a C none) ∧ SupC K C D (.builtin "ValueError.__init__") ∧ PySem.W.subIn K (.ref C) (.type "ValueError") = some true ∧
  PySem.W.findIn K (.ref C) "code" = some none ∧ ∀ dx, H dx = none → dx ≠ a → Q .non (excS H a C dx [("code", c)])
/-- __init__(self, code, n): super().__init__(code); self.n = n -/
def spT (K : PySem.W.Frag) (D D0 f0 : Addr) (n : Str) : Sp := fun vs H Q _ => ∃ (a C : Addr) (c p : V), vs = [.ref a, c, p] ∧ OexC K C ∧ H a = some (exo a C none) ∧ SupC K C D (.ref f0) ∧ SupC K C D0 (.builtin "ValueError.__init__") ∧ PySem.W.subIn K (.ref C) (.type "ValueError") = some true ∧
  PySem.W.findIn K (.ref C) "code" = some none ∧ PySem.W.findIn K (.ref C) n = some none ∧ ∀ dx, H dx = none → dx ≠ a → Q .non (excS H a C dx [(n, p), ("code", c)])
section
variable {P : Program} {w : World} {K : PySem.W.Frag} {mg : Str → Option Value} {base : Heap} {k : Nat} {f D D0 f0 cda cc : Addr} {name qual : Str} {params : Arguments} {scope : Scope} {fd fd0 : FuncData} {p0 p1 p2 p3 p4 p5 p6 p7 p8 p9 : Pos} {a0 a1 a2 : Arg} {n : Str}
abbrev supE (p0 p1 p2 p3 p4 : Pos) : Expr := .Call (.Attribute (.Call (.Name "super" p0) [] [] p1) "__init__" p2) [.Name "code" p3] [] p4
abbrev bodyS (n : Str) (p0 p1 p2 p3 p4 p5 p6 p7 p8 p9 : Pos) : List Stmt := [.Expr (supE p0 p1 p2 p3 p4) p5, .Assign [.Attribute (.Name "self" p6) n p7] (.Name n p8) p9]
theorem exc_upd {H : Hp} {a C dx : Addr} {fs gs : List (Str × V)} (h : dx ≠ a) : upd (excS H a C dx fs) dx (exd dx gs) = excS H a C dx gs := by
  funext b
  unfold excS
  by_cases hb : b = dx
  · subst hb
    rw [upd_same, upd_ne h, upd_same]
  · rw [upd_ne hb]
    by_cases ha : b = a
    · subst ha
      rw [upd_same, upd_same]
    · rw [upd_ne ha, upd_ne ha, upd_ne hb, upd_ne hb]
theorem fn_S (S : SupF P K f D cda cc name qual params (bodyS "code" p0 p1 p2 p3 p4 p5 p6 p7 p8 p9) scope fd) (sc : NdefX.NScope ["self", "code", "__class__"] ["self", "code"] ["__class__"] scope)
    (hp : (params.posonlyargs ++ params.args).head? = some a0) (ha0 : a0.arg = "self") (hsu : scope.names.lookup ("super" : Str) = some .globalImplicit) (hm : mg "super" = none)
    (hs : ∀ env : Env, swapsWith (supE p0 p1 p2 p3 p4) none p5.line env = pure false) (hs2 : ∀ env : Env, swapsWith (.Name "code" p8) (some (.Attribute (.Name "self" p6) "code" p7)) p9.line env = pure false)
    (ht : ∀ env : Env, ∃ pl, eval (supE p0 p1 p2 p3 p4) env = (do
      let ov ← attributeBase (.Call (.Name "super" p0) [] [] p1) "__init__" env (eval (.Call (.Name "super" p0) [] [] p1) env)
      standAt p2.atName
      let (f, first) ← holding [ov] (getMethod ov "__init__" pl)
      callWith p4 f first (backTo p4 (starEach [.Name "code" p3] env)) [])) :
    FnOk P w K mg base (L2N.CX P w) (k + 1) f fd ["self", "code"] (spS K D) := by
  refine fn_sup S sc (fun vs H Q E h => ?_) (fun A outer s H vs Q E hr h => ?_)
  · obtain ⟨a, C, c, rfl, _⟩ := h
    rfl
  · obtain ⟨a, C, c, rfl, T, ea, sC, sV, fc, q⟩ := h
    have kS : scope.names.lookup a0.arg = some .local := by rw [ha0]; exact sc.par _ (by simp)
    have kC : scope.names.lookup ("code" : Str) = some .local := sc.par _ (by simp)
    have kX : scope.names.lookup ("__class__" : Str) = some .free := sc.frk _ (by simp)
    refine ⟨tOst K "code" (tVar 0) (tVar 1), fun s1 I => ?_, pss_one (ps_ost (pe_var (i := 0) rfl (.inl (by show scope.names.lookup ("self" : Str) = _; rw [← ha0]; exact kS))) (pe_var (i := 1) rfl (.inl kC)) (hs2 _))⟩
    obtain ⟨pl, ht⟩ := ht (PySem.W.ksEnv qual scope s.heap.objs.size f (.ref cda) cc)
    refine ks_wpAt_Expr_any ?_ (by show interactive (PySem.W.ksEnv qual scope s.heap.objs.size f (.ref cda) cc) = false; unfold interactive; rw [show (PySem.W.ksEnv qual scope s.heap.objs.size f (.ref cda) cc).scope.kind = .function from sc.kind]; rfl) (hs _)
    refine sup_base (X := supX (L2N.CX P w) P w K mg base ["self", "code", "__class__"] name qual params (bodyS "code" p0 p1 p2 p3 p4 p5 p6 p7 p8 p9) scope cda cc f A outer s H E) (ta := tCons (tVar 1) tNil) (Q := fun _ _ => True) (ar := a0) (L := s.heap.objs.size) S rfl I T ea (by rw [ha0]; rfl) rfl hp sC.sub hm hsu kX kS sc.kind sC.nx sV
      (pa_cons (pe_var (i := 1) rfl (.inl kC)) pa_nil) ⟨c, rfl, by show 1 ≤ 1000; omega, rfl⟩ (fun s' I' => ⟨rfl, _, _, I', ?_⟩) ht rfl rfl
    exact ⟨c, rfl, .ref a, rfl, a, C, rfl, T, fc, .inl ⟨ea, q⟩⟩
theorem fn_T (S : SupF P K f D cda cc name qual params (bodyS n p0 p1 p2 p3 p4 p5 p6 p7 p8 p9) scope fd) (sc : NdefX.NScope ["self", "code", n, "__class__"] ["self", "code", n] ["__class__"] scope)
    (F0 : FnOk P w K mg base (L2N.CX P w) k f0 fd0 ["self", "code"] (spS K D0)) (b0 : Binds K fd0 ["self", "code"] []) (t0 : PySem.W.typeIn K (.ref f0) = some (.type "function")) (i0 : PySem.W.fnIn K f0 = true)
    (hp : (params.posonlyargs ++ params.args).head? = some a0) (ha0 : a0.arg = "self") (hsu : scope.names.lookup ("super" : Str) = some .globalImplicit) (hm : mg "super" = none)
    (hn : (n == ("__debug__" : Str)) = false) (hn2 : (n == ("__classdict__" : Str)) = false)
    (hs : ∀ env : Env, swapsWith (supE p0 p1 p2 p3 p4) none p5.line env = pure false) (hs2 : ∀ env : Env, swapsWith (.Name n p8) (some (.Attribute (.Name "self" p6) n p7)) p9.line env = pure false)
    (ht : ∀ env : Env, ∃ pl, eval (supE p0 p1 p2 p3 p4) env = (do
      let ov ← attributeBase (.Call (.Name "super" p0) [] [] p1) "__init__" env (eval (.Call (.Name "super" p0) [] [] p1) env)
      standAt p2.atName
      let (f, first) ← holding [ov] (getMethod ov "__init__" pl)
      callWith p4 f first (backTo p4 (starEach [.Name "code" p3] env)) [])) :
    FnOk P w K mg base (L2N.CX P w) (k + 1) f fd ["self", "code", n] (spT K D D0 f0 n) := by
  refine fn_sup S sc (fun vs H Q E h => ?_) (fun A outer s H vs Q E hr h => ?_)
  · obtain ⟨a, C, c, p, rfl, _⟩ := h
    rfl
  · obtain ⟨a, C, c, p, rfl, T, ea, sC, sC0, sV, fc, fn, q⟩ := h
    have kS : scope.names.lookup a0.arg = some .local := by rw [ha0]; exact sc.par _ (by simp)
    have kC : scope.names.lookup ("code" : Str) = some .local := sc.par _ (by simp)
    have kN : scope.names.lookup n = some .local := sc.par _ (by simp)
    have kX : scope.names.lookup ("__class__" : Str) = some .free := sc.frk _ (by simp)
    refine ⟨tOst K n (tVar 0) (tVar 2), fun s1 I => ?_, pss_one (ps_ost (pe_var (i := 0) rfl (.inl (by show scope.names.lookup ("self" : Str) = _; rw [← ha0]; exact kS))) (pe_var (i := 2) rfl (.inl kN) hn hn2) (hs2 _))⟩
    obtain ⟨pl, ht⟩ := ht (PySem.W.ksEnv qual scope s.heap.objs.size f (.ref cda) cc)
    refine ks_wpAt_Expr_any ?_ (by show interactive (PySem.W.ksEnv qual scope s.heap.objs.size f (.ref cda) cc) = false; unfold interactive; rw [show (PySem.W.ksEnv qual scope s.heap.objs.size f (.ref cda) cc).scope.kind = .function from sc.kind]; rfl) (hs _)
    refine sup_own (X := supX (L2N.CX P w) P w K mg base ["self", "code", n, "__class__"] name qual params (bodyS n p0 p1 p2 p3 p4 p5 p6 p7 p8 p9) scope cda cc f A outer s H E) (ta := tCons (tVar 1) tNil) (vs := [c]) (us0 := [])
      (Q := fun H' => ∃ dx, H dx = none ∧ dx ≠ a ∧ H' = excS H a C dx [("code", c)]) (ar := a0) (L := s.heap.objs.size) S rfl I T ea (by rw [ha0]; rfl) rfl hp sC.sub hm hsu kX kS sc.kind sC.nx t0 i0 F0 hr b0
      (L2N.passes_call (W := fun _ _ _ _ => False) takes_no fun _ _ _ _ z => z.elim)
      (pa_cons (pe_var (i := 1) rfl (.inl kC)) pa_nil) ⟨c, rfl, rfl, rfl⟩ ⟨a, C, c, rfl, T, ea, sC0, sV, fc, fun dx h1 h2 => ⟨dx, h1, h2, rfl⟩⟩ (fun u s' H' I' ⟨dx, h1, h2, eH⟩ => ⟨rfl, _, _, I', ?_⟩) ht rfl rfl
    subst eH
    refine ⟨p, rfl, .ref a, rfl, a, C, rfl, T, fn, .inr ⟨dx, [("code", c)], ?_, ?_, by show 1 ≤ 900; omega, ?_⟩⟩
    · exact upd_same
    · unfold excS
      rw [upd_ne h2, upd_same]
    · rw [exc_upd h2]
      exact q dx h1 h2
end
end DL
/-! raise of own exceptions -/
namespace DL
open PySem PySem.Spec L2
def dRaise (x : Str) (mk : List D → Option (List (Str × D))) (fs : DA) : DS := fun δ S => (fs δ S).thenF δ fun ds S1 => match mk ds with
  | some l => .exc ⟨x, l⟩ δ S1
  | none => .bad
def mkS : List D → Option (List (Str × D)) := fun ds => match ds with
  | [c] => some [("code", c)]
  | _ => none
def mkT (n : Str) : List D → Option (List (Str × D)) := fun ds => match ds with
  | [c, p] => some [(n, p), ("code", c)]
  | _ => none
/-- an own class over SolverError, whose __init__ is SolverError's -/
structure ExS (K : PySem.W.Frag) (C D fI : Addr) : Prop where
  oex : OexC K C
  ini : PySem.W.findIn K (.ref C) "__init__" = some (some (.ref fI))
  ty : PySem.W.typeIn K (.ref fI) = some (.type "function")
  sup : SupC K C D (.builtin "ValueError.__init__")
  ve : PySem.W.subIn K (.ref C) (.type "ValueError") = some true
  noc : PySem.W.findIn K (.ref C) "code" = some none
/-- .. with an own __init__ and one more field -/
structure ExT (K : PySem.W.Frag) (C D D0 fI f0 : Addr) (n : Str) : Prop where
  oex : OexC K C
  ini : PySem.W.findIn K (.ref C) "__init__" = some (some (.ref fI))
  ty : PySem.W.typeIn K (.ref fI) = some (.type "function")
  sup : SupC K C D (.ref f0)
  sup0 : SupC K C D0 (.builtin "ValueError.__init__")
  ve : PySem.W.subIn K (.ref C) (.type "ValueError") = some true
  noc : PySem.W.findIn K (.ref C) "code" = some none
  non : PySem.W.findIn K (.ref C) n = some none
section
variable {Ω : Wd} {ρ : List Addr} {H : Hp} {S : Store}
/-- an exception's dict is laid beside the store -/
theorem Rel.xd {dx : Addr} {fv : List (Str × V)} (r : Rel Ω ρ H S) (n : H dx = none) : Step ρ H ρ (upd H dx (.xd fv)) ∧ Rel Ω ρ (upd H dx (.xd fv)) S ∧ dx ∉ ρ := by
  have nm : dx ∉ ρ := fun m => by
    have := r.mv m
    rw [n] at this
    exact this
  have st : Step ρ H ρ (upd H dx (.xd fv)) := ⟨List.prefix_rfl, fun a o e _ => by rw [upd_ne (fun z => by rw [z, n] at e; cases e)]; exact e, fun a m q => absurd m q, fun a o u e => by rw [upd_ne (fun z => by rw [z, n] at e; cases e)]; exact e⟩
  refine ⟨st, ⟨r.len, r.nd, fun i a o e1 e2 => ?_⟩, nm⟩
  have q := r.ob i a o e1 e2
  have ha : a ≠ dx := fun z => nm (z ▸ List.mem_of_getElem? e1)
  cases o with
  | lst ds => obtain ⟨vs, e, z⟩ := q; exact ⟨vs, by rw [upd_ne ha]; exact e, r.vrs st z⟩
  | dK lk kvs => obtain ⟨kv, z, e1, e2⟩ := q; exact ⟨kv, r.kvr st z, fun l => by rw [upd_ne ha]; exact e1 l, fun l => by rw [upd_ne ha]; exact e2 l⟩
  | ins c fs => obtain ⟨C, d, fv, h1, h2, z⟩ := q; exact ⟨C, d, fv, h1, by rw [upd_ne ha]; exact h2, r.kvr st z⟩
  | dT kvs => obtain ⟨kv, z, e⟩ := q; exact ⟨kv, r.kvr st z, by rw [upd_ne ha]; exact e⟩
  | exn c => obtain ⟨C, oe, u, h1, h2, z⟩ := q; exact ⟨C, oe, u, h1, by rw [upd_ne ha]; exact h2, z⟩
theorem exc_end {a C dx : Addr} {fs : List (Str × V)} (na : H a = none) (hd : dx ≠ a) : upd (L2.del (excS (upd H a (exo a C none)) a C dx fs) a) dx (.xd fs) = upd H dx (.xd fs) := by
  funext b
  by_cases hb : b = dx
  · rw [hb, upd_same, upd_same]
  · rw [upd_ne hb, upd_ne hb]
    by_cases ha : b = a
    · rw [ha, L2.del_same, na]
    · rw [L2.del_ne ha]
      unfold excS
      rw [upd_ne ha, upd_ne hb, upd_ne ha]
end
/-! ### an own exception is made, its context is None (as HandS.ExcInit's pmk_oex, for HandS.ExcCtx's PMk) -/
section
variable {X : Cx}
theorem mk_endN {pins : List (Addr × Obj)} {σ : L2.St} {H1 H2 : Hp} {Q : XK} {hp hp2 h2 : Heap} {g1 g2 : Array GenState} {d1 d2 : Drawn} {t1 t2 : Nat} {os1 os2 : OsState} {a C d : Addr} {fs : List (Str × V)} (T : Raises X (.ref C)) (I1 : Inv X pins σ H1 ⟨hp, g1, d1, t1, os1⟩)
    (ha : hp.objs.size ≤ a) (k : ∀ b o, hp.get? b = some o → hp2.get? b = some o) (un : Un (frs X.stack) [] (upd H1 a (exo a C none)) H2 hp2 h2) (hok : HOk X.prog X.w H2 h2) (ho : os2 = os1) (hb : PyProof.Rows.AllBare g2)
    (ea : H2 a = some (exo a C (some d))) (ed : H2 d = some (exd d fs)) (hd1 : H1 d = none) (q : Q (.ref C) (some d) (upd (L2.del H2 a) d (.xd fs))) : L2N.MkP X pins σ Q (.ref a) ⟨h2, g2, d2, t2, os2⟩ := by
  obtain ⟨t0, G, J, kG, ge, hoe, na⟩ := mk_end0 (d2 := d2) (t2 := t2) I1 ha k un hok ho hb ea ed hd1
  exact ⟨a, _, _, ⟨G, g2, d2, t2, os2⟩, _, .ref C, some d, rfl, J, kG, ge, hoe, ⟨rfl, rfl, fun vs e => by cases e; rfl⟩, rfl, rfl, na, rfl, hb, T, q⟩
theorem pmk_oexN {CX : CXT} {x : Str} {e : Expr} {es : List Expr} {ta : TA} {p pos : Pos} {C fI : Addr} {k : Nat} {fd : FuncData} {ps : List Str} {sp : Sp} (T : OexC X.K C) (iC : PySem.W.findIn X.K (.ref C) "__init__" = some (some (.ref fI))) (tI : PySem.W.typeIn X.K (.ref fI) = some (.type "function"))
    (F1 : FnOk X.prog X.w X.K X.mg X.base CX k fI fd ps sp) (hr : Room (k + 1) X.A) (hb : Binds X.K fd ps []) (hx : Passes CX X (fun _ _ _ => False)) (hg : Gl X x) (hm : X.mg x = some (.ref C)) (ha : PA X (e :: es) ta)
    (hdb : (x == ("__debug__" : Str)) = false := by decide) (he : starEach (e :: es) X.env = (false, eval e X.env) :: starEach es X.env := by rfl) (hpl : (backTo pos (starEach es X.env)).any (·.1) = false := by rfl) :
    L2N.PMk X (.Call (.Name x p) (e :: es) [] pos) (tMkO C sp [] ta) := by
  intro pins s σ H Q I h
  obtain ⟨nm, q, N, bs, bm, sn, sub, ab, col, dd, k0, k1, k2, k3, k5, hC, hbm⟩ := T.cls
  refine wpAny_Call_Name_kw (ld_glob I hg hm ?_ hdb)
  refine PySem.W.callWith_K (h₀ := X.base) I.ok.mod.kin T.kC (thn (ha.run pos pins s σ H _ I h) fun us s1 ⟨vs, H1, I1, r1, hz, q1⟩ => ⟨I1.kIn, ?_⟩) he hpl
  show wpAny _ _ (call (.ref C) us) _ _ _
  obtain ⟨hp, g, dr, tk, os⟩ := s1
  have hsz : hp.objs.size ≤ hp.objs.size + 1 := Nat.le_succ _
  have hn : H1 (hp.objs.size + 1) = none := I1.hok.fresh hsz
  have hq := q1 (hp.objs.size + 1) hn
  have kk : ∀ b o, hp.get? b = some o → ((hp.push (PySem.W.kdv_tup us)).push (PySem.HandSPX.excO C hp.objs.size)).get? b = some o := fun b o e => Heap.get?_push_of_some _ (Heap.get?_push_of_some _ e)
  have hget : ((hp.push (PySem.W.kdv_tup us)).push (PySem.HandSPX.excO C hp.objs.size)).get? (hp.objs.size + 1) = some (PySem.HandSPX.excO C hp.objs.size) := by heap_get
  have I2 := I1.laid (t' := tk) (a := hp.objs.size + 1) (o := exo (hp.objs.size + 1) C none) (h' := (hp.push (PySem.W.kdv_tup us)).push (PySem.HandSPX.excO C hp.objs.size)) kk hsz (exo_ok hget)
  have r2 : Vals (V.ref (hp.objs.size + 1) :: (vs ++ [])) (Value.ref (hp.objs.size + 1) :: (us ++ [])) := .cons rfl (r1.append .nil)
  have hl : (Value.ref (hp.objs.size + 1) :: us ++ []).length = ps.length := by
    have e := r2.length
    rw [F1.len _ _ _ _ hq] at e
    exact e.symm
  have hus : us.length ≤ sizeLine := by
    rw [← Paired.length r1, sizeLine_eq]
    omega
  have b2 := hb _ (Value.ref (hp.objs.size + 1) :: us) I2.kIn hl
  rw [List.cons_append] at b2
  refine wpAny_call (PySem.HandSPX.call_own F.excBase_ValueError (fun Y => PySem.HandSPX.refsVE_contains Y bm hbm) (I1.kIn _ _ hC) (PySem.W.looks_findIn I1.kIn iC) (fun self => PySem.W.bind_fn I1.kIn self tI) hus
    (codeAny_mono (F1.run _ X.stack _ _ ⟨Value.ref (hp.objs.size + 1) :: us, []⟩ (Value.ref (hp.objs.size + 1) :: (us ++ [])) _ _ (fun _ _ _ => False) (hr.make C us []) (I2.env0.make C us []) b2 r2 hq) fun r s' hq' => ?_))
  match r, hq' with
  | .error er, hq' => exact hx pins σ _ _ er s' I2 hq'
  | .ok (.ret u), hq' =>
    obtain ⟨v, H2, os2, bare2, un2, hok2, rv, ev, d, fs, ea, ed, hd1, q2⟩ := hq'
    subst ev
    exact ⟨rv, mk_endN (raises_own T.exC T.tyC) I1 hsz kk un2 hok2 os2 bare2 ea ed hd1 q2⟩
  | .ok .next, hq' => exact False.elim hq'
  | .ok .brk, hq' => exact False.elim hq'
  | .ok .cont, hq' => exact False.elim hq'
end
section
variable {X : Cx} {W : WX} {p pos pos' : Pos} {e : Expr} {es : List Expr} {fs : DA} {x n : Str} {C D D0 fI f0 : Addr} {fd : FuncData} {k : Nat}
theorem js_raiseS (T : ExS X.K C D fI) (F1 : FnOk X.prog X.w X.K X.mg X.base (L2N.CX X.prog X.w) k fI fd ["self", "code"] (spS X.K D)) (hr : Room (k + 1) X.A) (hb : Binds X.K fd ["self", "code"] []) (hm : X.mg x = some (.ref C))
    (hc : X.calm = true) (tk : L2N.Takes X W) (ha : JA X W (e :: es) fs) (hg : Gl X x := by rfl)
    (hdb : (x == ("__debug__" : Str)) = false := by decide) (he : starEach (e :: es) X.env = (false, eval e X.env) :: starEach es X.env := by rfl) (hpl : (backTo pos (starEach es X.env)).any (·.1) = false := by rfl) :
    JS X W (.Raise (some (.Call (.Name x p) (e :: es) [] pos)) none pos') (dRaise x mkS fs) := by
  refine ps_imp (L2N.ps_raise hc tk (pmk_oexN T.oex T.ini T.ty F1 hr hb (L2N.passes_call (W := fun _ _ _ _ => False) takes_no fun _ _ _ _ z => z.elim) hg hm ha hdb he hpl)) fun E σ H ⟨ρ, δ, S, r, rs, h⟩ => ?_
  refine ⟨ρ, δ, S, r, rs, LF.of r rs h fun ρ1 ds S1 vs H1 s r1 p rs1 h1 => ?_⟩
  match ds, p, h1 with
  | [c], ⟨v, _, ev, hv, en⟩, h1 =>
    subst ev
    cases en
    refine ⟨by show 1 ≤ 1000; omega, fun a na => ⟨a, C, v, rfl, T.oex, upd_same, T.sup, T.ve, T.noc, fun dx hd hda => ⟨rfl, dx, [("code", v)], upd_same, ?_, ?_, ?_⟩⟩⟩
    · unfold excS; rw [upd_ne hda, upd_same]
    · rw [upd_ne hda] at hd; exact hd
    · rw [exc_end na hda]
      have nd : H1 dx = none := by rw [upd_ne hda] at hd; exact hd
      obtain ⟨st, r2, nm⟩ := r1.xd (fv := [("code", v)]) nd
      exact h1 ρ1 _ _ σ _ st r2 (r1.rs st rs1) ⟨C, dx, _, hm, rfl, rfl, upd_same, nm, v, [], rfl, r1.vr st hv, rfl⟩
  | [], _, h1 => exact h1.elim
  | _ :: _ :: _, _, h1 => exact h1.elim
theorem js_raiseT (T : ExT X.K C D D0 fI f0 n) (F1 : FnOk X.prog X.w X.K X.mg X.base (L2N.CX X.prog X.w) k fI fd ["self", "code", n] (spT X.K D D0 f0 n)) (hr : Room (k + 1) X.A) (hb : Binds X.K fd ["self", "code", n] []) (hm : X.mg x = some (.ref C))
    (hc : X.calm = true) (tk : L2N.Takes X W) (ha : JA X W (e :: es) fs) (hg : Gl X x := by rfl)
    (hdb : (x == ("__debug__" : Str)) = false := by decide) (he : starEach (e :: es) X.env = (false, eval e X.env) :: starEach es X.env := by rfl) (hpl : (backTo pos (starEach es X.env)).any (·.1) = false := by rfl) :
    JS X W (.Raise (some (.Call (.Name x p) (e :: es) [] pos)) none pos') (dRaise x (mkT n) fs) := by
  refine ps_imp (L2N.ps_raise hc tk (pmk_oexN T.oex T.ini T.ty F1 hr hb (L2N.passes_call (W := fun _ _ _ _ => False) takes_no fun _ _ _ _ z => z.elim) hg hm ha hdb he hpl)) fun E σ H ⟨ρ, δ, S, r, rs, h⟩ => ?_
  refine ⟨ρ, δ, S, r, rs, LF.of r rs h fun ρ1 ds S1 vs H1 s r1 p rs1 h1 => ?_⟩
  match ds, p, h1 with
  | [c, q], ⟨v, _, ev, hv, u, _, eu, hu, en⟩, h1 =>
    subst ev
    subst eu
    cases en
    refine ⟨by show 2 ≤ 1000; omega, fun a na => ⟨a, C, v, u, rfl, T.oex, upd_same, T.sup, T.sup0, T.ve, T.noc, T.non, fun dx hd hda => ⟨rfl, dx, [(n, u), ("code", v)], upd_same, ?_, ?_, ?_⟩⟩⟩
    · unfold excS; rw [upd_ne hda, upd_same]
    · rw [upd_ne hda] at hd; exact hd
    · rw [exc_end na hda]
      have nd : H1 dx = none := by rw [upd_ne hda] at hd; exact hd
      obtain ⟨st, r2, nm⟩ := r1.xd (fv := [(n, u), ("code", v)]) nd
      exact h1 ρ1 _ _ σ _ st r2 (r1.rs st rs1) ⟨C, dx, _, hm, rfl, rfl, upd_same, nm, u, [("code", v)], rfl, r1.vr st hu, v, [], rfl, r1.vr st hv, rfl⟩
  | [], _, h1 => exact h1.elim
  | [_], _, h1 => exact h1.elim
  | _ :: _ :: _ :: _, _, h1 => exact h1.elim
end
end DL
/-! try: .. except C as n: return e, e over the exception's fields -/
namespace DL
open PySem PySem.Spec L2
theorem XR.mono {Ω : Wd} {ρ ρ' : List Addr} {H H' : Hp} {S : Store} {x : Ex} {cls : Value} {dd : Option Addr} (r : Rel Ω ρ H S) (s : Step ρ H ρ' H') (h : XR Ω ρ H x cls dd) : XR Ω ρ' H' x cls dd := by
  obtain ⟨C, d, fv, h1, h2, h3, h4, h5, h6⟩ := h
  refine ⟨C, d, fv, h1, h2, h3, s.keep _ _ h4 h5, fun m => ?_, r.kvr s h6⟩
  have := s.new d m h5
  rw [h4] at this
  cases this
def LX (Ω : Wd) (i : Nat) (a : Addr) (cls : Value) (d : Option Addr) (x : Ex) (f : DE) : TE := fun σ H Q => ∃ ρ δ S, Rel Ω ρ H S ∧ RelS Ω.K ρ H δ σ ∧ σ[i]? = some (some (.ref a)) ∧ XR Ω ρ H x cls d ∧ LG Ω (fun _ _ _ _ => False) (PVR Ω) (f δ S) ρ H σ Q
abbrev JX (X : Cx) (i : Nat) (a : Addr) (cls : Value) (d : Option Addr) (x : Ex) (e : Expr) (f : DE) : Prop := PE X e (LX (om X) i a cls d x f)
def LXA (Ω : Wd) (i : Nat) (a : Addr) (cls : Value) (d : Option Addr) (x : Ex) (f : DA) : TA := fun σ H Q => ∃ ρ δ S, Rel Ω ρ H S ∧ RelS Ω.K ρ H δ σ ∧ σ[i]? = some (some (.ref a)) ∧ XR Ω ρ H x cls d ∧ LG Ω (fun _ _ _ _ => False) (PVRs Ω) (f δ S) ρ H σ Q
abbrev JXA (X : Cx) (i : Nat) (a : Addr) (cls : Value) (d : Option Addr) (x : Ex) (e : List Expr) (f : DA) : Prop := PA X e (LXA (om X) i a cls d x f)
/-- what the classes that the clause takes must tell of a field -/
def XFld (K : PySem.W.Frag) (mg : Str → Option Value) (sub : Str → Option Bool) (n : Str) : Prop := ∀ c C, sub c = some true → mg c = some (.ref C) → XfC K C ∧ PySem.W.findIn K (.ref C) n = some none
def dXf (x : Ex) (n : Str) : DE := fun δ S => match x.fs.lookup n with
  | some v => .ok v S
  | none => .bad
theorem KVR.lookup {K : PySem.W.Frag} {ρ : List Addr} {H : Hp} {n : Str} {v : D} : ∀ {ds : List (Str × D)} {vs : List (Str × V)}, KVR K ρ H ds vs → ds.lookup n = some v → ∃ u, vs.lookup n = some u ∧ VR K ρ H v u
  | [], _, h, e => by cases e
  | (k, d) :: ds, _, ⟨u, ws, ew, hu, r⟩, e => by
    subst ew
    rw [List.lookup_cons] at e
    by_cases hk : (n == k) = true
    · rw [hk] at e
      cases e
      exact ⟨u, by rw [List.lookup_cons, hk], hu⟩
    · rw [Bool.not_eq_true] at hk
      rw [hk] at e
      obtain ⟨z, h1, h2⟩ := KVR.lookup r e
      exact ⟨z, by rw [List.lookup_cons, hk]; exact h1, h2⟩
section
variable {X : Cx} {i : Nat} {a : Addr} {cls : Value} {d : Option Addr} {x : Ex} {e e1 e2 : Expr} {f f1 f2 : DE} {oe : Obj} {pn : List (Addr × Obj)} {sub : Str → Option Bool} {pos p0 : Pos} {n fl : Str}
theorem jx_fld (hx : XFld X.K X.mg sub fl) (hs : sub x.cls = some true) (hz : L2N.Zn cls d oe) (hf : ∃ vs, oe.data = .fields vs) (hN : X.N[i]? = some n) (hv : Vis X.env.scope n) (hd : (n == ("__debug__" : Str)) = false := by decide) (hcd : (n == ("__classdict__" : Str)) = false := by decide)
    (hb : attributeBase (.Name n p0) fl X.env (eval (.Name n p0) X.env) = eval (.Name n p0) X.env := by rfl) : JX (X.suite a ((a, oe) :: pn)) i a cls d x (.Attribute (.Name n p0) fl pos) (dXf x fl) := by
  obtain ⟨cn, fs⟩ := x
  by_cases hC : ∃ C, X.mg cn = some (.ref C)
  · obtain ⟨C, hC⟩ := hC
    obtain ⟨h1, h2⟩ := hx cn C hs hC
    refine pe_imp (pe_xf h1 h2 hz.zc hf (pe_var (X := X.suite a ((a, oe) :: pn)) (i := i) hN hv hd hcd) hb) fun σ H Q ⟨ρ, δ, S, r, rs, ei, xr, q⟩ => ?_
    obtain ⟨C', dd, fv, g1, g2, g3, g4, g5, g6⟩ := xr
    have g1 : X.mg cn = some (.ref C') := g1
    rw [hC] at g1
    cases g1
    unfold dXf at q
    split at q
    · rename_i v hl
      obtain ⟨u, hu, hv⟩ := KVR.lookup g6 hl
      exact ⟨.ref a, ei, rfl, g2, dd, fv, u, g3, g4, hu, q ρ u H .refl r hv⟩
    · exact q.elim
  · refine ⟨fun pins s σ H Q I ⟨ρ, δ, S, r, rs, ei, xr, q⟩ => ?_⟩
    obtain ⟨C', dd, fv, g1, _⟩ := xr
    exact absurd ⟨C', g1⟩ hC
theorem jx_of (h : JE X (fun _ _ _ _ => False) e f) : JX X i a cls d x e f := pe_imp h fun σ H Q ⟨ρ, δ, S, r, rs, _, _, q⟩ => ⟨ρ, δ, S, r, rs, q⟩
theorem jx_op {op : Operator} {r : R2} {g : D → D → Store → R D} (ho : OpR X (binaryOp op) r) (hs : OpS X (fun _ _ _ _ => False) g r) (ha : JX X i a cls d x e1 f1) (hb : JX X i a cls d x e2 f2) : JX X i a cls d x (.BinOp e1 op e2 pos) (dOp g f1 f2) :=
  pe_imp (pe_op ho ha hb) fun σ H Q ⟨ρ, δ, S, rl, rs, ei, xr, q⟩ => by
    refine ⟨ρ, δ, S, rl, rs, ei, xr, LG.bind q fun ρ1 x S1 v H1 s1 r1 p1 q1 => ?_⟩
    refine ⟨ρ1, δ, S1, r1, rl.rs s1 rs, ei, xr.mono rl s1, LG.bind q1 fun ρ2 y S2 u H2 s2 r2 p2 q2 => ?_⟩
    exact hs ρ2 H2 S2 σ Q _ y v u r2 (r1.vr s2 p1) p2 q2
theorem jxa_nil : JXA X i a cls d x [] dNil := pa_imp pa_nil fun σ H Q ⟨ρ, δ, S, r, rs, _, _, h⟩ => h ρ [] H .refl r rfl
theorem jxa_cons {es : List Expr} {fs : DA} (ha : JX X i a cls d x e f) (hr : JXA X i a cls d x es fs) (hs : starEach (e :: es) X.env = (false, eval e X.env) :: starEach es X.env := by rfl) : JXA X i a cls d x (e :: es) (dCons f fs) :=
  pa_imp (pa_cons ha hr hs) fun σ H Q ⟨ρ, δ, S, r, rs, ei, xr, h⟩ => by
    refine ⟨ρ, δ, S, r, rs, ei, xr, LG.bind h fun ρ1 x S1 v H1 s1 r1 p1 q1 => ⟨ρ1, δ, S1, r1, r.rs s1 rs, ei, xr.mono r s1, LG.bind q1 fun ρ2 xs S2 vs H2 s2 r2 p2 q2 => ?_⟩⟩
    exact q2 ρ2 _ H2 .refl r2 ⟨v, vs, rfl, r1.vr s2 p1, p2⟩
theorem jx_tup {es : List Expr} {fs : DA} {x1} (h : JXA X i a cls d x es fs) : JX X i a cls d x (.Tuple es x1 pos) (dTup fs) := pe_imp (pe_tup h) fun σ H Q ⟨ρ, δ, S, r, rs, ei, xr, h⟩ =>
  ⟨ρ, δ, S, r, rs, ei, xr, LG.bind h fun ρ1 x S1 v H1 s1 r1 p1 q1 => LG.tup r1 p1 q1⟩
end
/-- try: body / except C as n: return e -/
def dTryR (sub : Str → Option Bool) (i : Nat) (f : DS) (g : Ex → DE) : DS := fun δ S => match f δ S with
  | .exc x δ' S' => (match sub x.cls with
    | some true => if i < δ'.length then (match g x (δ'.set i none) S' with
      | .ok v S2 => .rt v S2
      | _ => .bad) else .bad
    | some false => .exc x δ' S'
    | none => .bad)
  | r => r
/-- which classes the clause takes -/
def SubOk (K : PySem.W.Frag) (mg : Str → Option Value) (sub : Str → Option Bool) (c : Value) : Prop := ∀ y b C, sub y = some b → mg y = some (.ref C) → PySem.W.exmOne K (.ref C) c = some b
theorem RelS.skip {K : PySem.W.Frag} {ρ : List Addr} {H : Hp} {v : Option V} : ∀ {δ : DEnv} {σ : L2.St} (i : Nat), RelS K ρ H δ σ → RelS K ρ H (δ.set i none) (σ.set i v)
  | [], σ, i, h => by cases h; exact rfl
  | x :: δ, σ, 0, ⟨y, σ', e, h, r⟩ => by subst e; exact ⟨v, σ', rfl, (fun z hz => by cases hz), r⟩
  | x :: δ, σ, i + 1, ⟨y, σ', e, h, r⟩ => by subst e; exact ⟨y, σ'.set i v, rfl, h, RelS.skip i r⟩
theorem RelS.length {K : PySem.W.Frag} {ρ : List Addr} {H : Hp} : ∀ {δ : DEnv} {σ : L2.St}, RelS K ρ H δ σ → δ.length = σ.length
  | [], σ, h => by cases h; rfl
  | x :: δ, σ, ⟨y, σ', e, h, r⟩ => by subst e; simp [RelS.length r]
section
variable {X : Cx} {W : WX} {x n : Str} {c : Value} {i : Nat} {body : List Stmt} {e : Expr} {np pos pos' pos2 : Pos} {sub : Str → Option Bool} {f : DS} {g : Ex → DE}
theorem js_tryR (hs : X.stack = X.env :: X.outer) (hf : X.env.frame = some X.env.locals) (hc : Names X x c) (hsub : SubOk X.K X.mg sub c) (hN : X.N.Nodup) (hi : X.N[i]? = some n) (hln : X.env.kindOf n = some .local) (tk : L2N.Takes X W)
    (hb : ∀ (W : WX) (pn : List (Addr × Obj)) (xe : Value → Shared → Prop), L2N.Takes (X.tr pn xe) W → PassesOwn (model X.prog X.w) X.A X.env xe → JSs (X.tr pn xe) W body f)
    (hsu : ∀ (y : Ex) (a : Addr) (oe : Obj) (cls : Value) (d : Option Addr) (pn : List (Addr × Obj)), sub y.cls = some true → L2N.Zn cls d oe → (∃ vs, oe.data = .fields vs) → JX (X.suite a ((a, oe) :: pn)) i a cls d y e (g y)) :
    JS X W (.Try body [.ExceptHandler (some (.Name x np)) (some n) [.Return (some e) pos2] pos'] [] [] pos) (dTryR sub i f g) := by
  refine ps_imp (L2N.ps_try_as (Wout := W) (tb := fun W => LS (om X) W f) (ts := fun a cls d => fun D σ H => ∃ y : Ex, sub y.cls = some true ∧ LX (om X) i a cls d y (g y) σ H fun v H' => D.rt v H') hs hf hN hi hln hc tk (fun W pn xe t p => hb W pn xe t p) (fun a oe cls d pn hz hv => ?_)) fun E σ H h => ?_
  · refine pss_one ⟨fun pins s σ H D I ⟨y, hy, q⟩ => ?_⟩
    exact (ps_ret (hsu y a oe cls d pn hy hz hv)).run pins s σ H D I q
  · obtain ⟨ρ, δ, S, r, rs, h⟩ := h
    refine ⟨ρ, δ, S, r, rs, ?_⟩
    unfold dTryR at h
    cases e : f δ S with
    | nx δ' S' => rw [e] at h; exact h
    | bk δ' S' => rw [e] at h; exact h
    | ct δ' S' => rw [e] at h; exact h
    | rt d S' => rw [e] at h; exact h
    | bad => rw [e] at h; exact h
    | exc y δ' S' =>
      rw [e] at h
      intro ρ' cls dd σ' H' s' r' rs' xr
      obtain ⟨C, d, fv, g1, g2, g3, g4⟩ := id xr
      subst g2
      have h : LF (om X) W (match sub y.cls with
        | some true => if i < δ'.length then (match g y (δ'.set i none) S' with
          | .ok v S2 => .rt v S2
          | _ => .bad) else .bad
        | some false => .exc y δ' S'
        | none => .bad) ρ H E := h
      cases q : sub y.cls with
      | none => rw [q] at h; exact h.elim
      | some b =>
        rw [q] at h
        refine ⟨b, hsub y.cls b C q g1, fun hb a na => ?_, fun hb => ?_⟩
        · subst hb
          have h : LF (om X) W (if i < δ'.length then (match g y (δ'.set i none) S' with
            | .ok v S2 => .rt v S2
            | _ => .bad) else .bad) ρ H E := h
          by_cases hld : i < δ'.length
          rotate_left
          · rw [if_neg hld] at h; exact h.elim
          rw [if_pos hld] at h
          have hl : i < σ'.length := by rw [← RelS.length rs']; exact hld
          refine ⟨y, q, ρ', δ'.set i none, S', r', RelS.skip i rs', by rw [List.getElem?_set_self hl], xr, ?_⟩
          have h : LF (om X) W (match g y (δ'.set i none) S' with
            | .ok v S2 => .rt v S2
            | _ => .bad) ρ H E := h
          cases q2 : g y (δ'.set i none) S' with
          | ok v S2 => rw [q2] at h; exact fun ρ2 u H2 s2 r2 hv => h ρ2 u H2 (s'.trans s2) r2 hv
          | exc _ _ => rw [q2] at h; exact h.elim
          | bad => rw [q2] at h; exact h.elim
        · subst hb
          exact h ρ' _ dd σ' H' s' r' rs' xr
end
end DL
namespace DL
open PySem PySem.Spec L2
/-! ### str * int -/
def repS (i : Str) (n : Nat) : Str := ⟨(List.replicate n i.cps.toList).flatten.toArray⟩
def rRepS : R2 := fun x y H Q => ∃ i j, x = .str i ∧ y = .int j ∧ 0 ≤ j ∧ i.length * j.toNat ≤ sizeLine ∧ j < 1073741824 ∧ Q (.str (repS i j.toNat)) H
theorem rep_fold (a : List (Array Nat)) : ∀ (b : Array Nat), (a.foldl (· ++ ·) b).toList = b.toList ++ (a.map Array.toList).flatten := by
  induction a with
  | nil => intro b; simp
  | cons x l ih => intro b; rw [List.foldl_cons, ih]; simp
theorem rep_eq (i : Str) (n : Nat) : (⟨(List.replicate n i.cps).foldl (· ++ ·) #[]⟩ : Str) = repS i n := by
  unfold repS
  congr 1
  apply Array.ext'
  rw [rep_fold]
  simp
theorem rep_len (i : Str) (n : Nat) : (repS i n).length = i.length * n := by
  show (List.replicate n i.cps.toList).flatten.toArray.size = i.cps.size * n
  simp [Nat.mul_comm]
section
variable {X : Cx} {W : WX} {pos p : Pos} {a b : Expr} {fa fb : DE}
theorem op_repS : OpR X (binaryOp .Mult) rRepS := by
  intro pins s σ H x y u v Q I rx ry h
  obtain ⟨i, j, rfl, rfl, h0, hl, hj, hq⟩ := h
  obtain ⟨t1, rfl⟩ := rx
  obtain ⟨t2, rfl⟩ := ry
  have e63 : (2 : Int) ^ 63 = 9223372036854775808 := by decide
  have fin : ∀ (z : Str) tk n, z = repS i j.toNat → EP X pins σ Q (Value.str z tk) { s with toks := n } := fun z tk n hz => by
    subst hz
    exact ⟨.str (repS i j.toNat), H, I.tok _, ⟨tk, rfl⟩, hq⟩
  have sl : sizeLine = 16777216 := sizeLine_eq
  refine P.mul_str ?_ (fun h1 h2 => ?_) (fun h1 h2 => ?_) ?_
  · rw [e63]
    rw [decide_eq_false (by omega), decide_eq_false (by omega)]; rfl
  · have jp : 0 < j := by omega
    have key : (i.length : Int) * j ≤ 2 ^ 63 - 1 := by
      have q : i.length * j.toNat ≤ 16777216 := by rw [← sl]; exact hl
      have q2 : ((i.length * j.toNat : Nat) : Int) ≤ 16777216 := Int.ofNat_le.mpr q
      rw [Int.natCast_mul, Int.toNat_of_nonneg h0] at q2
      rw [e63]; omega
    have := (Int.le_ediv_iff_mul_le jp).mpr key
    omega
  · have q : ¬ (i.length * j.toNat > sizeLine) := by omega
    show decide (i.length * j.toNat > sizeLine) = false
    exact decide_eq_false q
  · by_cases h1 : j < 1
    · rw [if_pos h1]
      have ej : j = 0 := by omega
      subst ej
      exact ⟨by decide, fin _ _ _ (by unfold repS; rfl)⟩
    · rw [if_neg h1]
      by_cases h2 : (j == 1 || i.length == 0) = true
      · rw [if_pos h2]
        have ez : i = repS i j.toNat := by
          rw [Bool.or_eq_true, beq_iff_eq, beq_iff_eq] at h2
          rcases h2 with h2 | h2
          · subst h2
            obtain ⟨c⟩ := i
            simp [repS]
          · obtain ⟨c⟩ := i
            have h2 : c.size = 0 := h2
            have hc : c = #[] := Array.eq_empty_of_size_eq_zero h2
            subst hc
            unfold repS
            simp
        exact fin _ _ s.toks ez
      · rw [if_neg h2]
        refine ⟨?_, fin _ _ _ (rep_eq i j.toNat)⟩
        rw [rep_eq, rep_len]; exact hl
def gRep : D → D → Store → R D := fun x y S => match x, y with
  | .str i, .int j => if 0 ≤ j ∧ j < 1073741824 ∧ lenOk (i.length * j.toNat) = true then .ok (.str (repS i j.toNat)) S else .bad
  | _, _ => .bad
theorem opS_rep : OpS X W gRep rRepS := by
  intro ρ H S σ Q x y v u r hx hy h
  cases x with
  | str i =>
    cases y with
    | int j =>
      cases hx; cases hy
      have h' : LG (om X) W (PVR (om X)) (if 0 ≤ j ∧ j < 1073741824 ∧ lenOk (i.length * j.toNat) = true then R.ok (D.str (repS i j.toNat)) S else R.bad) ρ H σ Q := h
      by_cases c : 0 ≤ j ∧ j < 1073741824 ∧ lenOk (i.length * j.toNat) = true
      · rw [if_pos c] at h'
        exact ⟨i, j, rfl, rfl, c.1, lenOk_of c.2.2, c.2.1, h' ρ _ H .refl r rfl⟩
      · rw [if_neg c] at h'; exact h'.elim
    | _ => exact h.elim
  | _ => cases y <;> exact h.elim
theorem je_rep (ha : JE X W a fa) (hb : JE X W b fb) : JE X W (.BinOp a .Mult b pos) (dOp gRep fa fb) := je_op op_repS opS_rep ha hb
end
/-! ### a def whose new objects stay in the store -/
def runFnK (np N : Nat) (b : DS) : DM := fun ds S => if ds.length = np then match b (ds.map some ++ List.replicate (N - ds.length) none) S with
  | .nx _ S' => .ok .non S'
  | .rt d S' => .ok d S'
  | .exc x _ S' => .exc x S'
  | _ => .bad
  else .bad
section
variable {P : Program} {w : World} {K : PySem.W.Frag} {mg : Str → Option Value} {base : Heap}
theorem fn_okK {x qual : Str} {st : Stmt} {f : Addr} {fd : FuncData} {N ps : List Str} {k : Nat} {b : DS} {np n : Nat} (F : Fun K x qual st f fd) (sc : FnScope N ps (defScope st)) (hp : ps.length = np) (hn : N.length = n)
    (hbody : ∀ (X : Cx) (W : WX), X.K = K → X.mg = mg → X.prog = P → X.w = w → X.base = base → X.N = N → X.env.scope = defScope st → X.fn = (fun _ => true) → X.calm = true → X.stack = X.env :: X.outer → X.env.frame = some X.env.locals → X.ex = [] → Room k X.A → L2N.Takes X W → PassesOwn (model X.prog X.w) X.A X.env X.xe → JSs X W (defBody st) b) :
    FnOk P w K mg base (L2N.CX P w) (k + 1) f fd ps (spOf ⟨K, mg⟩ np (runFnK np n b)) := by
  refine Fun.okN F sc (fun vs H Q E h => ?_) (fun cdv A outer s H vs Q E hr h => ?_)
  · obtain ⟨ρ, ds, S, r, hv, hl, _⟩ := h
    rw [← VRs.len hv, hl, hp]
  · obtain ⟨ρ, ds, S, r, hv, hl, q⟩ := h
    refine ⟨_, hbody (cxOf (L2N.CX P w) P w K mg base N qual (defScope st) f cdv A outer s H E) (fun cls d _ H => E cls d H) rfl rfl rfl rfl rfl rfl rfl rfl rfl rfl rfl rfl hr (L2N.takes_of rfl rfl rfl rfl) (passes_of rfl), ?_⟩
    refine ⟨ρ, ds.map some ++ List.replicate (n - ds.length) none, S, r, ?_, ?_⟩
    · have e : n - ds.length = N.length - vs.length := by rw [hn, VRs.len hv]
      rw [e]
      exact RelS.start hv
    · unfold runFnK at q
      rw [if_pos hl] at q
      cases e : b (ds.map some ++ List.replicate (n - ds.length) none) S with
      | nx δ S' => rw [e] at q; exact fun ρ' σ' H' s' r' rs' => q ρ' .non H' s' r' rfl
      | rt d S' => rw [e] at q; exact fun ρ' v H' s' r' hv' => q ρ' v H' s' r' hv'
      | exc x δ S' => rw [e] at q; exact fun ρ' cls dd σ' H' s' r' rs' hx => q ρ' cls dd H' s' r' hx
      | bk δ S' => rw [e] at q; exact q.elim
      | ct δ S' => rw [e] at q; exact q.elim
      | bad => rw [e] at q; exact q.elim
end
end DL
namespace DL
open PySem PySem.Spec L2
section
variable {X : Cx} {W : WX} {pos : Pos} {c : Expr} {t : DT} {x : Str} {i : Int}
theorem jts_nil : PTs X [] (LT (om X) W dYes) := by
  have h := pts_nil (X := X)
  exact ⟨fun pins s σ H Q I ⟨ρ, δ, S, r, rs, q⟩ => h.run pins s σ H Q I (q ρ true H .refl r rfl)⟩
theorem jts_one (h : JT X W c t) : PTs X [c] (LT (om X) W t) := pts_one h
/-- a module's whole number -/
theorem je_gint (hm : ∃ t, X.mg x = some (.int i t)) (hg : Gl X x := by rfl) (hdb : (x == ("__debug__" : Str)) = false := by decide) : JE X W (.Name x pos) (dC (.int i)) := by
  obtain ⟨t, hm⟩ := hm
  exact je_glob (v := .int i) hm ⟨t, rfl⟩ (fun _ _ => rfl) hg hdb
end
/-- the promise of a def of this text -/
structure Pr (P : Program) (w : World) (K : PySem.W.Frag) (mg : Str → Option Value) (base : Heap) (k : Nat) (x : Str) (a : Addr) (fd : FuncData) (ps : List Str) (np : Nat) (m : DM) : Prop where
  ok : FnOk P w K mg base (L2N.CX P w) k a fd ps (spOf ⟨K, mg⟩ np m)
  g : mg x = some (.ref a)
  kp : PySem.W.keepIn K (.ref a) = true
  b : Binds K fd ps []
  l : ps.length = np
section
variable {X : Cx} {W : WX} {pos p : Pos} {e : Expr} {es : List Expr} {fs : DA} {x : Str} {k j : Nat} {a : Addr} {fd : FuncData} {ps : List Str} {np : Nat} {m : DM}
theorem je_fn (F : Pr X.prog X.w X.K X.mg X.base k x a fd ps np m) (hr : Room j X.A) (tk : L2N.Takes X W) (ha : JA X W (e :: es) fs) (hk : k ≤ j := by decide) (hg : Gl X x := by rfl) (hdb : (x == ("__debug__" : Str)) = false := by decide) (he : starEach (e :: es) X.env = (false, eval e X.env) :: starEach es X.env := by rfl) (hpl : (backTo pos (starEach es X.env)).any (·.1) = false := by rfl) :
    JE X W (.Call (.Name x p) (e :: es) [] pos) (dCall (fun ds S => if ds.length = np then m ds S else .bad) fs) :=
  je_call (F.ok.mono hk) hr F.g F.kp F.b tk ha F.l hg hdb he hpl
end
end DL
/-! evaluating a meaning -/
namespace DL
open PySem L2
theorem lenOk_lt {n : Nat} (h : n < 16777216) : lenOk n = true := by
  unfold lenOk; rw [sizeLine_eq]; exact decide_eq_true (by omega)
theorem rTup_ok {ds : List D} {S : Store} (h : ds.length < 16777216) : rTup ds S = .ok (.tup ds) S := if_pos (lenOk_lt h)
theorem rLst_ok {ds : List D} {S : Store} (h : ds.length < 16777216) : rLst ds S = .ok (.lst ds) S := if_pos (lenOk_lt h)
theorem rNew_ok {ds : List D} {S : Store} (h : ds.length < 16777216) : rNew ds S = .ok (.ref S.length) (S ++ [.lst ds]) := if_pos (lenOk_lt h)
abbrev mkS' (l : List Nat) : Str := ⟨l.toArray⟩
theorem len_mk (w : List Nat) : (mkS' w).length = w.length := by show w.toArray.size = _; simp
theorem tru_mk {w : List Nat} (h : w.length < 16777216) : truD (.str (mkS' w)) = some (!decide (w = [])) := by
  show (if lenOk (mkS' w).length = true then some (((mkS' w).length : Int) != 0) else none) = _
  rw [len_mk, if_pos (lenOk_lt h)]
  cases w with
  | nil => rfl
  | cons c w =>
    have e : (((c :: w).length : Int) != 0) = true := by
      rw [bne_iff_ne]; intro z; rw [List.length_cons] at z; omega
    rw [e]; simp
theorem tru_bl {k : Bool} : truD (.bl k) = some k := rfl
theorem append_eq {m : Nat} {S : Store} {fd : List D} {y : D} (hS : S[m]? = some (.lst fd)) (hf : fd.length < 16777216) : gAppend (.ref m) y S = .ok .non (S.set m (.lst (fd ++ [y]))) := by
  simp only [gAppend, hS]
  rw [if_pos (by rw [sizeLine_eq]; exact hf)]
theorem isl {m : Nat} {S : Store} {fd : List D} (hS : S[m]? = some (.lst fd)) : isLstD S (.ref m) = true := by simp only [isLstD, hS]
theorem set_at {m : Nat} {S : Store} {o o' : O} (hS : S[m]? = some o) : (S.set m o')[m]? = some o' := by
  rw [List.getElem?_set_self (List.getElem?_eq_some_iff.mp hS).1]
theorem eq_str {n : Bool} {a b : Str} {S : Store} : gEq n (.str a) (.str b) S = .ok (.bl (if n then !decide (a = b) else decide (a = b))) S := rfl
theorem eq_int {n : Bool} {a b : Int} {S : Store} : gEq n (.int a) (.int b) S = .ok (.bl (if n then !(a == b) else (a == b))) S := rfl
theorem mk_inj {a b : List Nat} : mkS' a = mkS' b ↔ a = b := by
  constructor
  · intro h
    have := congrArg (fun z : Str => z.cps.toList) h
    simpa using this
  · intro h; rw [h]
end DL
namespace DL
open PySem L2
def Sok (S : Store) : Prop := S.all (O.under S.length) = true
theorem settle_same {S : Store} {d : D} : settle S.length d S = .ok d S := if_pos rfl
theorem settle_lst {S S' : Store} {fd : List D} (hs : Sok S) (ht : S'.take S.length = S) (hm : ∃ k, S.length ≤ k ∧ S'[k]? = some (.lst fd) ∧ d = .ref k) (hl : S'.length ≠ S.length) (hu : D.unders S.length fd = true) : settle S.length d S' = .ok (.lst fd) S := by
  obtain ⟨k, hk, hg, rfl⟩ := hm
  have e : freeze S.length S' (.ref k) = .lst fd := by
    show (if k < S.length then D.ref k else match S'[k]? with
      | some (O.lst xs) => .lst xs
      | _ => .ref k) = _
    rw [if_neg (by omega), hg]
  unfold settle
  rw [if_neg hl, e, ht]
  rw [if_pos]
  show ((D.lst fd).under S.length && S.all (O.under S.length)) = true
  rw [show (D.lst fd).under S.length = D.unders S.length fd from rfl, hu, hs]; rfl
theorem settle_val {S S' : Store} {d : D} (hs : Sok S) (ht : S'.take S.length = S) (hd : freeze S.length S' d = d) (hu : d.under S.length = true) : settle S.length d S' = .ok d S := by
  by_cases hl : S'.length = S.length
  · have : S' = S := by rw [← ht, ← hl, List.take_length]
    rw [this]; exact settle_same
  · unfold settle
    rw [if_neg hl, hd, ht, if_pos]
    rw [hu, hs]; rfl
theorem settleX_val {S S' : Store} {x : Ex} (hs : Sok S) (ht : S'.take S.length = S) (hu : underF S.length x.fs = true) : settleX S.length x S' = .exc x S := by
  by_cases hl : S'.length = S.length
  · have : S' = S := by rw [← ht, ← hl, List.take_length]
    rw [this]; unfold settleX; rw [if_pos rfl]
  · unfold settleX
    rw [if_neg hl, ht, if_pos]
    rw [hu, hs]; rfl
end DL
namespace DL
theorem runFn_rt {np N : Nat} {b : DS} {ds : List D} {S S' : Store} {d : D} (hl : ds.length = np) (h : b (ds.map some ++ List.replicate (N - ds.length) none) S = .rt d S') : runFn np N b ds S = settle S.length d S' := by
  unfold runFn
  rw [if_pos hl, h]
theorem runFn_exc {np N : Nat} {b : DS} {ds : List D} {S S' : Store} {x : Ex} {δ : DEnv} (hl : ds.length = np) (h : b (ds.map some ++ List.replicate (N - ds.length) none) S = .exc x δ S') : runFn np N b ds S = settleX S.length x S' := by
  unfold runFn
  rw [if_pos hl, h]
end DL
namespace DL
mutual
theorem under_mono {n m : Nat} (h : n ≤ m) : ∀ d : D, D.under n d = true → D.under m d = true
  | .non, _ => rfl
  | .bl _, _ => rfl
  | .int _, _ => rfl
  | .str _, _ => rfl
  | .opq, _ => rfl
  | .ref k, e => decide_eq_true (Nat.lt_of_lt_of_le (of_decide_eq_true e) h)
  | .tup ds, e => unders_mono h ds e
  | .lst ds, e => unders_mono h ds e
theorem unders_mono {n m : Nat} (h : n ≤ m) : ∀ ds : List D, D.unders n ds = true → D.unders m ds = true
  | [], _ => rfl
  | d :: ds, e => by
    have e' : (d.under n && D.unders n ds) = true := e
    obtain ⟨e1, e2⟩ := Bool.and_eq_true_iff.mp e'
    show (d.under m && D.unders m ds) = true
    rw [under_mono h d e1, unders_mono h ds e2]; rfl
end
theorem underF_mono {κ : Type} {n m : Nat} (h : n ≤ m) : ∀ ds : List (κ × D), underF n ds = true → underF m ds = true
  | [], _ => rfl
  | (k, d) :: ds, e => by
    have e' : (d.under n && underF n ds) = true := e
    obtain ⟨e1, e2⟩ := Bool.and_eq_true_iff.mp e'
    show (d.under m && underF m ds) = true
    rw [under_mono h d e1, underF_mono h ds e2]; rfl
theorem ounder_mono {n m : Nat} (h : n ≤ m) : ∀ o : O, O.under n o = true → O.under m o = true
  | .lst ds, e => unders_mono h ds e
  | .dK _ ds, e => underF_mono h ds e
  | .ins _ ds, e => underF_mono h ds e
  | .dT ds, e => underF_mono h ds e
  | .exn _, _ => rfl
theorem Sok.app {S : Store} {o : O} (h : Sok S) (ho : O.under (S.length + 1) o = true) : Sok (S ++ [o]) := by
  unfold Sok at h ⊢
  rw [List.all_append, List.length_append]
  show (S.all (O.under (S.length + 1)) && [o].all (O.under (S.length + 1))) = true
  rw [Bool.and_eq_true]
  refine ⟨List.all_eq_true.mpr fun x hx => ounder_mono (Nat.le_succ _) x (List.all_eq_true.mp h x hx), ?_⟩
  rw [List.all_cons, List.all_nil, ho]; rfl
end DL
/-! instances: fields, methods, making -/
namespace DL
open PySem PySem.Spec L2
/-- what the class named c tells: a plain class -/
structure Kl (K : PySem.W.Frag) (mg : Str → Option Value) (c : Str) (C : Addr) : Prop where
  g : mg c = some (.ref C)
  cl : Cls K C
def putD (f : Str) (v : D) : List (Str × D) → List (Str × D)
  | [] => [(f, v)]
  | (g, x) :: r => if g = f then (g, v) :: r else (g, x) :: putD f v r
theorem KVR.put {K : PySem.W.Frag} {ρ : List Addr} {H : Hp} {f : Str} {d : D} {v : V} (hv : VR K ρ H d v) : ∀ {ds : List (Str × D)} {vs : List (Str × V)}, KVR K ρ H ds vs → KVR K ρ H (putD f d ds) (putF f v vs)
  | [], _, h => by cases h; exact ⟨v, [], rfl, hv, rfl⟩
  | (g, x) :: ds, _, ⟨u, ws, ew, hu, r⟩ => by
    subst ew
    by_cases hg : g = f
    · have e1 : putD f d ((g, x) :: ds) = (g, d) :: ds := if_pos hg
      have e2 : putF f v ((g, u) :: ws) = (g, v) :: ws := if_pos hg
      rw [e1, e2]
      exact ⟨v, ws, rfl, hv, r⟩
    · have e1 : putD f d ((g, x) :: ds) = (g, x) :: putD f d ds := if_neg hg
      have e2 : putF f v ((g, u) :: ws) = (g, u) :: putF f v ws := if_neg hg
      rw [e1, e2]
      exact ⟨u, putF f v ws, rfl, hu, KVR.put hv r⟩
theorem KVR.len {κ : Type} {K : PySem.W.Frag} {ρ : List Addr} {H : Hp} : ∀ {ds : List (κ × D)} {vs : List (κ × V)}, KVR K ρ H ds vs → ds.length = vs.length
  | [], _, h => by cases h; rfl
  | (k, d) :: ds, _, ⟨v, ws, e, h, r⟩ => by subst e; simp [KVR.len r]
theorem KVR.none {K : PySem.W.Frag} {ρ : List Addr} {H : Hp} {n : Str} : ∀ {ds : List (Str × D)} {vs : List (Str × V)}, KVR K ρ H ds vs → ds.lookup n = none → vs.lookup n = none
  | [], _, h, e => by cases h; rfl
  | (k, d) :: ds, _, ⟨u, ws, ew, hu, r⟩, e => by
    subst ew
    rw [List.lookup_cons] at e ⊢
    by_cases hk : (n == k) = true
    · rw [hk] at e; cases e
    · rw [Bool.not_eq_true] at hk
      rw [hk] at e ⊢
      exact KVR.none r e
def insAt (S : Store) : D → Option (Nat × Str × List (Str × D))
  | .ref n => match S[n]? with
    | some (.ins c fs) => some (n, c, fs)
    | _ => none
  | _ => none
theorem insAt_ok {Ω : Wd} {ρ : List Addr} {H : Hp} {S : Store} {d : D} {v : V} {n : Nat} {c : Str} {fs : List (Str × D)} (r : Rel Ω ρ H S) (h : VR Ω.K ρ H d v) (e : insAt S d = some (n, c, fs)) :
    d = .ref n ∧ S[n]? = some (.ins c fs) ∧ ∃ a C dx fv, v = .ref a ∧ ρ[n]? = some a ∧ Ω.mg c = some (.ref C) ∧ H a = some (.ins C dx fv) ∧ KVR Ω.K ρ H fs fv := by
  cases d with
  | ref k =>
    have e' : (match S[k]? with | some (O.ins c fs) => some (k, c, fs) | _ => none) = some (n, c, fs) := e
    cases q : S[k]? with
    | none => rw [q] at e'; cases e'
    | some o =>
      rw [q] at e'
      cases o with
      | ins c' fs' =>
        cases e'
        obtain ⟨a, h1, rfl⟩ := h
        have ob : OR Ω ρ H a (.ins c fs) := r.ob _ a _ h1 q
        obtain ⟨C, dx, fv, g1, g2, g3⟩ := ob
        exact ⟨rfl, q, a, C, dx, fv, rfl, h1, g1, g2, g3⟩
      | _ => cases e'
  | _ => cases e
section
variable {X : Cx} {W : WX} {pos pos' p apos : Pos} {o e : Expr} {es : List Expr} {fa fo : DE} {fs : DA} {f m c x : Str} {C : Addr}
def dFld (c f : Str) (fo : DE) : DE := fun δ S => (fo δ S).bind fun d S1 => match insAt S1 d with
  | some (_, c', fs) => if c' = c then (match fs.lookup f with
    | some v => .ok v S1
    | none => .bad) else .bad
  | none => .bad
/-- o.f -/
theorem je_fld (k : Kl X.K X.mg c C) (hf : NoAttr X.K C f) (ho : JE X W o fo) (hb : attributeBase o f X.env (eval o X.env) = eval o X.env := by rfl) : JE X W (.Attribute o f pos) (dFld c f fo) := pe_imp (pe_fld ho hb) fun σ H Q ⟨ρ, δ, S, r, rs, h⟩ => by
  refine ⟨ρ, δ, S, r, rs, LG.bind h fun ρ1 d S1 v H1 s1 r1 p1 q1 => ?_⟩
  cases q : insAt S1 d with
  | none => rw [q] at q1; exact q1.elim
  | some t =>
    obtain ⟨n, c', fl⟩ := t
    rw [q] at q1
    obtain ⟨rfl, _, a, C', dx, fv, rfl, _, g1, g2, g3⟩ := insAt_ok r1 p1 q
    replace q1 : LG (om X) W (PVR (om X)) (if c' = c then (match fl.lookup f with | some v => R.ok v S1 | none => .bad) else .bad) ρ1 H1 σ Q := q1
    by_cases hc : c' = c
    · rw [if_pos hc] at q1
      subst hc
      have g1 : X.mg c' = some (.ref C') := g1
      rw [k.g] at g1
      cases g1
      cases e : fl.lookup f with
      | none => rw [e] at q1; exact q1.elim
      | some v =>
        rw [e] at q1
        obtain ⟨u, hu, hv⟩ := KVR.lookup g3 e
        exact ⟨a, C, dx, fv, u, rfl, g2, k.cl, hf, hu, q1 ρ1 u H1 .refl r1 hv⟩
    · rw [if_neg hc] at q1; exact q1.elim
def dSetF (c f : Str) (fo fe : DE) : DS := fun δ S => (fe δ S).thenF δ fun v S1 => (fo δ S1).thenF δ fun d S2 => match insAt S2 d with
  | some (n, c', fl) => if c' = c ∧ fl.length < 900 then .nx δ (S2.set n (.ins c (putD f v fl))) else .bad
  | none => .bad
/-- o.f = e -/
theorem js_fld (k : Kl X.K X.mg c C) (hf : NoAttr X.K C f) (ho : JE X W o fo) (he : JE X W e fa) (hs : swapsWith e (some (.Attribute o f pos')) pos.line X.env = pure false := by rfl) : JS X W (.Assign [.Attribute o f pos'] e pos) (dSetF c f fo fa) := ps_imp (ps_fld ho he hs) fun E σ H ⟨ρ, δ, S, r, rs, h⟩ => by
  refine ⟨ρ, δ, S, r, rs, LF.of r rs h fun ρ1 y S1 v H1 s1 r1 p1 rs1 h1 => ⟨ρ1, δ, S1, r1, rs1, LF.of r1 rs1 h1 fun ρ2 d S2 u H2 s2 r2 p2 rs2 h2 => ?_⟩⟩
  cases q : insAt S2 d with
  | none => rw [q] at h2; exact h2.elim
  | some t =>
    obtain ⟨n, c', fl⟩ := t
    rw [q] at h2
    obtain ⟨rfl, hS, a, C', dx, fv, rfl, hr, g1, g2, g3⟩ := insAt_ok r2 p2 q
    replace h2 : LF (om X) W (if c' = c ∧ fl.length < 900 then F.nx δ (S2.set n (.ins c (putD f y fl))) else .bad) ρ2 H2 E := h2
    by_cases hc : c' = c ∧ fl.length < 900
    · rw [if_pos hc] at h2
      obtain ⟨hc, hl⟩ := hc
      subst hc
      have g1 : X.mg c' = some (.ref C') := g1
      rw [k.g] at g1
      cases g1
      have hm := List.mem_of_getElem? hr
      have st : Step ρ2 H2 ρ2 (upd H2 a (.ins C dx (putF f v fv))) := .write hm g2
      have hv2 : VR X.K ρ2 (upd H2 a (.ins C dx (putF f v fv))) y v := r2.vr st (r1.vr s2 p1)
      refine ⟨a, C, dx, fv, rfl, g2, k.cl, hf, by rw [← g3.len]; omega, h2 ρ2 σ _ st (r2.write hr g2 ⟨C, dx, putF f v fv, k.g, upd_same, KVR.put hv2 (r2.kvr st g3)⟩) (r2.rs st rs2)⟩
    · rw [if_neg hc] at h2; exact h2.elim
/-! ### methods -/
/-- the promise of a method -/
structure Pm (P : Program) (w : World) (K : PySem.W.Frag) (mg : Str → Option Value) (base : Heap) (k : Nat) (C : Addr) (m : Str) (a : Addr) (fd : FuncData) (ps : List Str) (np : Nat) (g : DM) : Prop where
  ok : FnOk P w K mg base (L2N.CX P w) k a fd ps (spOf ⟨K, mg⟩ np g)
  me : Meth K C m a
  b : Binds K fd ps []
  l : ps.length = np
def dMeth (c m : Str) (np : Nat) (g : DM) (fo : DE) (fs : DA) : DE := fun δ S => (fo δ S).bind fun d S1 => match insAt S1 d with
  | some (n, c', fl) => if c' = c ∧ fl.lookup m = none then (fs δ S1).bind fun ds S2 => if ds.length + 1 = np then g (.ref n :: ds) S2 else .bad else .bad
  | none => .bad
theorem LE.meth {k : Kl X.K X.mg c C} {a0 : Addr} {fd : FuncData} {ps : List Str} {np j i : Nat} {g : DM} {σ : L2.St} {H : Hp} {Q : VK} (F : Pm X.prog X.w X.K X.mg X.base j C m a0 fd ps np g) (h : LE (om X) W (dMeth c m np g fo fs) σ H Q) :
    LE (om X) W fo σ H fun x H1 => ∃ a dx fl, x = .ref a ∧ H1 a = some (.ins C dx fl) ∧ fl.lookup m = none ∧ LA (om X) W fs σ H1 fun vs H2 => spOf (om X) np g (x :: vs) H2 Q (WE W σ) := by
  obtain ⟨ρ, δ, S, r, rs, h⟩ := h
  refine ⟨ρ, δ, S, r, rs, LG.bind h fun ρ1 d S1 v H1 s1 r1 p1 q1 => ?_⟩
  cases q : insAt S1 d with
  | none => rw [q] at q1; exact q1.elim
  | some t =>
    obtain ⟨n, c', fl⟩ := t
    rw [q] at q1
    obtain ⟨rfl, hS, a, C', dx, fv, rfl, hr, g1, g2, g3⟩ := insAt_ok r1 p1 q
    replace q1 : LG (om X) W (PVR (om X)) (if c' = c ∧ fl.lookup m = none then (fs δ S1).bind fun ds S2 => if ds.length + 1 = np then g (.ref n :: ds) S2 else .bad else .bad) ρ1 H1 σ Q := q1
    by_cases hc : c' = c ∧ fl.lookup m = none
    · rw [if_pos hc] at q1
      obtain ⟨hc, hl⟩ := hc
      subst hc
      have g1 : X.mg c' = some (.ref C') := g1
      rw [k.g] at g1
      cases g1
      refine ⟨a, dx, fv, rfl, g2, KVR.none g3 hl, ρ1, δ, S1, r1, r.rs s1 rs, LG.bind q1 fun ρ2 ds S2 vs H2 s2 r2 p2 q2 => ?_⟩
      by_cases hn : ds.length + 1 = np
      · rw [if_pos hn] at q2
        refine ⟨ρ2, .ref n :: ds, S2, r2, ⟨.ref a, vs, rfl, r1.vr s2 p1, p2⟩, hn, ?_⟩
        cases e : g (.ref n :: ds) S2 with
        | ok d S' => rw [e] at q2; exact q2
        | exc y S' => rw [e] at q2; exact q2
        | bad => rw [e] at q2; exact q2.elim
      · rw [if_neg hn] at q2; exact q2.elim
    · rw [if_neg hc] at q1; exact q1.elim
/-- o.m(e, ..) -/
theorem je_meth {a0 : Addr} {fd : FuncData} {ps : List Str} {np j i : Nat} {g : DM} {pl : Sem Bool} (k : Kl X.K X.mg c C) (F : Pm X.prog X.w X.K X.mg X.base i C m a0 fd ps np g) (hr : Room j X.A) (tk : L2N.Takes X W) (ho : JE X W o fo) (ha : JA X W (e :: es) fs) (hk : i ≤ j := by decide)
    (hst : starEach (e :: es) X.env = (false, eval e X.env) :: starEach es X.env := by rfl) (hpl : (backTo pos (starEach es X.env)).any (·.1) = false := by rfl)
    (ht : eval (.Call (.Attribute o m apos) (e :: es) [] pos) X.env = (do
      let ov ← eval o X.env
      standAt apos.atName
      let (f, first) ← holding [ov] (getMethod ov m pl)
      callWith pos f first (backTo pos (starEach (e :: es) X.env)) (backToKw pos (keywordEach [] X.env))) := by rfl) :
    JE X W (.Call (.Attribute o m apos) (e :: es) [] pos) (dMeth c m np g fo fs) := by
  refine ⟨fun pins s σ H Q I h => ?_⟩
  have h := LE.meth (k := k) (i := i) F h
  refine PySem.W.methodCall_KW (pl := pl) (thn (ho.run pins s σ H _ I h) fun u s1 ⟨x, H1, I1, rx, a, dx, fl, ex, ea, l, q⟩ => ?_) ht
  subst ex
  obtain rfl : u = Value.ref a := rx
  refine getmeth_ok I1 ea k.cl F.me l ?_
  refine PySem.W.callWith_K (first := [.ref a]) (h₀ := X.base) I.ok.mod.kin F.me.kp (thn (ha.run pos pins s1 σ H1 _ I1 q) fun us s2 ⟨vs, H2, I2, r, q2⟩ => ⟨I2.kIn, ?_⟩) hst hpl
  exact run_fnSD (dvs := []) (ds := []) (E := WE W) (us := .ref a :: us) (vs := .ref a :: vs) (F.ok.mono hk) hr F.b .nil (L2N.passAt tk σ) I2 (.cons rfl r) (by rw [List.append_nil]; exact q2)
/-- o.m() -/
theorem je_meth0 {a0 : Addr} {fd : FuncData} {ps : List Str} {np j i : Nat} {g : DM} {pl : Sem Bool} (k : Kl X.K X.mg c C) (F : Pm X.prog X.w X.K X.mg X.base i C m a0 fd ps np g) (hr : Room j X.A) (tk : L2N.Takes X W) (ho : JE X W o fo) (hk : i ≤ j := by decide)
    (ht : eval (.Call (.Attribute o m apos) [] [] pos) X.env = (do
      let ov ← eval o X.env
      standAt apos.atName
      let (f, first) ← holding [ov] (getMethod ov m pl)
      callWith pos f first (backTo pos (starEach [] X.env)) (backToKw pos (keywordEach [] X.env))) := by rfl) :
    JE X W (.Call (.Attribute o m apos) [] [] pos) (dMeth c m np g fo dNil) := by
  refine ⟨fun pins s σ H Q I h => ?_⟩
  have h := LE.meth (k := k) (i := i) F h
  refine PySem.W.methodCall_KW (pl := pl) (thn (ho.run pins s σ H _ I h) fun u s1 ⟨x, H1, I1, rx, a, dx, fl, ex, ea, l, q⟩ => ?_) ht
  subst ex
  obtain rfl : u = Value.ref a := rx
  refine getmeth_ok I1 ea k.cl F.me l ?_
  obtain ⟨ρ, δ, S, r, rs, q⟩ := q
  have q2 : spOf (om X) np g [.ref a] H1 Q (WE W σ) := q ρ [] H1 .refl r rfl
  exact PySem.W.callWith_K0 (first := [.ref a]) I1.kIn F.me.kp (run_fnSD (dvs := []) (ds := []) (E := WE W) (us := [.ref a]) (vs := [.ref a]) (F.ok.mono hk) hr F.b .nil (L2N.passAt tk σ) I1 (.cons rfl .nil) (by rw [List.append_nil]; exact q2))
end
end DL
/-! making instances -/
namespace DL
open PySem PySem.Spec L2
section
variable {X : Cx} {CX : CXT} {k : Nat} {f C : Addr} {fd : FuncData} {ps : List Str} {sp : Sp} {dvs : List V} {ds : List Value} {E : XK}
theorem run_makeSD {pins : List (Addr × Obj)} {σ : L2.St} {H : Hp} {s : Shared} {Q : VK} {us : List Value} {vs : List V} (M : Mk X.K C f) (F : FnOk X.prog X.w X.K X.mg X.base CX k f fd ps sp) (hr : Room (k + 1) X.A) (hb : Binds X.K fd ps ds) (hd : Vals dvs ds)
    (hx : PassesAt CX X σ E) (I : Inv X pins σ H s) (r : Vals vs us)
    (h : ∀ x dx, H x = none → H dx = none → dx ≠ x → sp (.ref x :: (vs ++ dvs)) (upd (upd H dx (.own x)) x (.ins C dx [])) (fun v H2 => v = .non ∧ Q (.ref x) H2) E) :
    wpAny (model X.prog X.w) X.A (call (.ref C) us) (EP X pins σ Q) X.xe s := by
  have hq := h (s.heap.objs.size + 1) s.heap.objs.size (I.hok.fresh (Nat.le_succ _)) (I.hok.fresh (Nat.le_refl _)) (Nat.ne_of_lt (Nat.lt_succ_self _))
  have I2 := Inv.made (C := C) I
  have r2 : Vals (V.ref (s.heap.objs.size + 1) :: (vs ++ dvs)) (Value.ref (s.heap.objs.size + 1) :: (us ++ ds)) := .cons rfl (r.append hd)
  have hl : (Value.ref (s.heap.objs.size + 1) :: us ++ ds).length = ps.length := by
    have e := r2.length
    rw [F.len _ _ _ _ hq] at e
    exact e.symm
  refine wpAny_call (make_map (f := f) I.kIn M.makes M.init (beq_iff_eq.mp M.fn) (codeAny_mono (F.run _ X.stack _ _ ⟨Value.ref (s.heap.objs.size + 1) :: us, []⟩ (Value.ref (s.heap.objs.size + 1) :: (us ++ ds)) _ _ E (hr.make C us [])
    (I2.env0.make C us []) (hb _ (Value.ref (s.heap.objs.size + 1) :: us) I2.kIn hl) r2 hq) fun r s' hq' => ?_))
  cases r with
  | error e => exact hx pins _ _ e s' I2 hq'
  | ok fl =>
    cases fl with
    | ret u =>
      obtain ⟨v, H', I3, rv, ev, q3⟩ := I2.after hq'
      subst ev
      exact ⟨rv, ⟨V.ref (s.heap.objs.size + 1), H', I3, rfl, q3⟩⟩
    | next => exact False.elim hq'
    | brk => exact False.elim hq'
    | cont => exact False.elim hq'
end
section
variable {X : Cx} {W : WX} {pos p : Pos} {e : Expr} {es : List Expr} {fs : DA} {c x : Str} {C : Addr}
def dMake (c : Str) (np : Nat) (g : DM) (fs : DA) : DE := fun δ S => (fs δ S).bind fun ds S1 => if ds.length + 1 = np then (match g (.ref S1.length :: ds) (S1 ++ [.ins c []]) with
  | .ok .non S2 => .ok (.ref S1.length) S2
  | .ok _ _ => .bad
  | .exc y S2 => .exc y S2
  | .bad => .bad) else .bad
/-- the promise of a class with its __init__ -/
structure Pk (P : Program) (w : World) (K : PySem.W.Frag) (mg : Str → Option Value) (base : Heap) (k : Nat) (C a : Addr) (fd : FuncData) (ps : List Str) (np : Nat) (g : DM) : Prop where
  ok : FnOk P w K mg base (L2N.CX P w) k a fd ps (spOf ⟨K, mg⟩ np g)
  me : Mk K C a
  b : Binds K fd ps []
theorem LG.make {ρ : List Addr} {H : Hp} {S : Store} {σ : L2.St} {Q : VK} {np : Nat} {g : DM} {ds : List D} {vs : List V} (k : Kl X.K X.mg c C) (r : Rel (om X) ρ H S) (q : VRs X.K ρ H ds vs)
    (h : LG (om X) W (PVR (om X)) (if ds.length + 1 = np then (match g (.ref S.length :: ds) (S ++ [.ins c []]) with
      | .ok .non S2 => R.ok (.ref S.length) S2
      | .ok _ _ => .bad
      | .exc y S2 => .exc y S2
      | .bad => .bad) else .bad) ρ H σ Q) (a dx : Addr) (ha : H a = none) (hd : H dx = none) (hn : dx ≠ a) :
    spOf (om X) np g (.ref a :: (vs ++ [])) (upd (upd H dx (.own a)) a (.ins C dx [])) (fun v H2 => v = .non ∧ Q (.ref a) H2) (WE W σ) := by
  by_cases hl : ds.length + 1 = np
  · rw [if_pos hl] at h
    have s1 : Step ρ H ρ (upd H dx (.own a)) := .fresh hd
    have r1 : Rel (om X) ρ (upd H dx (.own a)) S := r.fresh hd
    have ha1 : upd H dx (.own a) a = none := by rw [upd_ne hn.symm]; exact ha
    have s2 : Step ρ (upd H dx (.own a)) (ρ ++ [a]) (upd (upd H dx (.own a)) a (.ins C dx [])) := .alloc ha1
    have r2 : Rel (om X) (ρ ++ [a]) (upd (upd H dx (.own a)) a (.ins C dx [])) (S ++ [.ins c []]) := r1.alloc ha1 ⟨C, dx, [], k.g, upd_same, rfl⟩
    have hx : (ρ ++ [a])[S.length]? = some a := by rw [← r.len]; simp
    rw [List.append_nil]
    refine ⟨ρ ++ [a], .ref S.length :: ds, S ++ [.ins c []], r2, ⟨.ref a, vs, rfl, ⟨a, hx, rfl⟩, r1.vrs s2 (r.vrs s1 q)⟩, hl, ?_⟩
    cases e : g (.ref S.length :: ds) (S ++ [.ins c []]) with
    | ok d S' =>
      rw [e] at h
      cases d with
      | non =>
        intro ρ3 v H3 s3 r3 p3
        refine ⟨p3, h ρ3 (.ref a) H3 ((s1.trans s2).trans s3) r3 ⟨a, ?_, rfl⟩⟩
        obtain ⟨t, ht⟩ := s3.pre
        rw [← ht, List.getElem?_append_left (by simp [r.len])]
        exact hx
      | _ => exact h.elim
    | exc y S' =>
      rw [e] at h
      exact fun ρ3 cls dd H3 s3 => h ρ3 cls dd H3 ((s1.trans s2).trans s3)
    | bad => rw [e] at h; exact h.elim
  · rw [if_neg hl] at h; exact h.elim
/-- C(e, ..) -/
theorem je_make {a0 : Addr} {fd : FuncData} {ps : List Str} {np j i : Nat} {g : DM} (k : Kl X.K X.mg c C) (F : Pk X.prog X.w X.K X.mg X.base i C a0 fd ps np g) (hr : Room (j + 1) X.A) (tk : L2N.Takes X W) (hg : Gl X c) (ha : JA X W (e :: es) fs) (hk : i ≤ j := by decide)
    (hdb : (c == ("__debug__" : Str)) = false := by decide) (he : starEach (e :: es) X.env = (false, eval e X.env) :: starEach es X.env := by rfl) (hpl : (backTo pos (starEach es X.env)).any (·.1) = false := by rfl) :
    JE X W (.Call (.Name c p) (e :: es) [] pos) (dMake c np g fs) := by
  refine ⟨fun pins s σ H Q I ⟨ρ, δ, S, r, rs, h⟩ => ?_⟩
  refine wpAny_Call_Name_kw (ld_glob I hg k.g ?_ hdb)
  refine PySem.W.callWith_K (h₀ := X.base) I.ok.mod.kin F.me.kp (thn (ha.run pos pins s σ H _ I ⟨ρ, δ, S, r, rs, LG.bind h fun ρ1 ds S1 vs H1 s1 r1 p1 q1 => LG.make k r1 p1 q1⟩) fun us s1 ⟨vs, H1, I1, r, q⟩ => ⟨I1.kIn, ?_⟩) he hpl
  exact run_makeSD (dvs := []) (ds := []) (E := WE W σ) F.me (F.ok.mono hk) hr F.b .nil (L2N.passAt tk σ) I1 r q
/-- C() -/
theorem je_make0 {a0 : Addr} {fd : FuncData} {ps : List Str} {np j i : Nat} {g : DM} (k : Kl X.K X.mg c C) (F : Pk X.prog X.w X.K X.mg X.base i C a0 fd ps np g) (hr : Room (j + 1) X.A) (tk : L2N.Takes X W) (hg : Gl X c) (hk : i ≤ j := by decide)
    (hdb : (c == ("__debug__" : Str)) = false := by decide) :
    JE X W (.Call (.Name c p) [] [] pos) (dMake c np g dNil) := by
  refine ⟨fun pins s σ H Q I ⟨ρ, δ, S, r, rs, h⟩ => ?_⟩
  refine wpAny_Call_Name_kw (ld_glob I hg k.g ?_ hdb)
  exact PySem.W.callWith_K0 I.kIn F.me.kp (run_makeSD (dvs := []) (ds := []) (E := WE W σ) (us := []) (vs := []) F.me (F.ok.mono hk) hr F.b .nil (L2N.passAt tk σ) I .nil (LG.make (ds := []) (vs := []) k r rfl h))
end
end DL
/-! dicts of the store -/
namespace DL
open PySem PySem.Spec L2
/-! ### keys -/
def keyD : D → Option Key
  | .int i => some (.inl i)
  | .str x => some (.inr x)
  | _ => none
def keyV : Key → D
  | .inl i => .int i
  | .inr x => .str x
def keysD : List D → Option (List Key)
  | [] => some []
  | d :: ds => match keyD d, keysD ds with
    | some k, some ks => some (k :: ks)
    | _, _ => none
theorem keyD_ok {K : PySem.W.Frag} {ρ : List Addr} {H : Hp} {d : D} {v : V} {k : Key} (h : VR K ρ H d v) (e : keyD d = some k) : v = kV k := by
  cases d with
  | int i => cases e; cases h; rfl
  | str i => cases e; cases h; rfl
  | _ => cases e
theorem keyV_ok {K : PySem.W.Frag} {ρ : List Addr} {H : Hp} (k : Key) : VR K ρ H (keyV k) (kV k) := by
  cases k with
  | inl i => exact rfl
  | inr x => exact rfl
theorem keysD_ok {K : PySem.W.Frag} {ρ : List Addr} {H : Hp} : ∀ {ds : List D} {vs : List V} {ks : List Key}, VRs K ρ H ds vs → keysD ds = some ks → vs = ks.map kV
  | [], vs, ks, h, e => by cases e; cases h; rfl
  | d :: ds, vs, ks, ⟨v, ws, ev, hv, r⟩, e => by
    subst ev
    simp only [keysD] at e
    cases e1 : keyD d with
    | none => rw [e1] at e; cases e
    | some k =>
      cases e2 : keysD ds with
      | none => rw [e1, e2] at e; cases e
      | some js =>
        rw [e1, e2] at e
        cases e
        rw [keyD_ok hv e1, keysD_ok r e2]
        rfl
/-! ### tables -/
section
variable {κ : Type} [DecidableEq κ]
def lkD : List (κ × D) → κ → Option D
  | [], _ => none
  | p :: r, k => if p.1 = k then some p.2 else lkD r k
def putKD (kvs : List (κ × D)) (k : κ) (v : D) : List (κ × D) :=
  if (kvs.any fun kv => decide (kv.1 = k)) = true then kvs.map (fun kv => if kv.1 = k then (kv.1, v) else kv) else kvs ++ [(k, v)]
/-- what is looked up on both sides -/
def LkR (K : PySem.W.Frag) (ρ : List Addr) (H : Hp) : Option D → Option V → Prop
  | none, o => o = none
  | some d, o => ∃ v, o = some v ∧ VR K ρ H d v
theorem KVR.val {K : PySem.W.Frag} {ρ : List Addr} {H : Hp} {k : κ} : ∀ {ds : List (κ × D)} {vs : List (κ × V)}, KVR K ρ H ds vs → LkR K ρ H (lkD ds k) (valV vs k)
  | [], _, h => by cases h; exact rfl
  | (j, d) :: ds, _, ⟨v, ws, e, h, r⟩ => by
    subst e
    by_cases hj : j = k
    · rw [show lkD ((j, d) :: ds) k = some d from if_pos hj, valV_pos (p := (j, v)) hj]
      exact ⟨v, rfl, h⟩
    · rw [show lkD ((j, d) :: ds) k = lkD ds k from if_neg hj, valV_neg (p := (j, v)) hj]
      exact KVR.val r
theorem KVR.any {K : PySem.W.Frag} {ρ : List Addr} {H : Hp} {k : κ} : ∀ {ds : List (κ × D)} {vs : List (κ × V)}, KVR K ρ H ds vs → (ds.any fun kv => decide (kv.1 = k)) = vs.any fun kv => decide (kv.1 = k)
  | [], _, h => by cases h; rfl
  | (j, d) :: ds, _, ⟨v, ws, e, h, r⟩ => by
    subst e
    rw [List.any_cons, List.any_cons, KVR.any r]
theorem KVR.repl {K : PySem.W.Frag} {ρ : List Addr} {H : Hp} {k : κ} {x : D} {y : V} (hy : VR K ρ H x y) : ∀ {ds : List (κ × D)} {vs : List (κ × V)}, KVR K ρ H ds vs →
    KVR K ρ H (ds.map fun kv => if kv.1 = k then (kv.1, x) else kv) (vs.map fun kv => if kv.1 = k then (kv.1, y) else kv)
  | [], _, h => by cases h; exact rfl
  | (j, d) :: ds, _, ⟨v, ws, e, h, r⟩ => by
    subst e
    rw [List.map_cons, List.map_cons]
    by_cases hj : j = k
    · rw [if_pos hj, if_pos hj]; exact ⟨y, _, rfl, hy, KVR.repl hy r⟩
    · rw [if_neg hj, if_neg hj]; exact ⟨v, _, rfl, h, KVR.repl hy r⟩
theorem KVR.snoc {K : PySem.W.Frag} {ρ : List Addr} {H : Hp} {k : κ} {x : D} {y : V} (hy : VR K ρ H x y) : ∀ {ds : List (κ × D)} {vs : List (κ × V)}, KVR K ρ H ds vs → KVR K ρ H (ds ++ [(k, x)]) (vs ++ [(k, y)])
  | [], _, h => by cases h; exact ⟨y, [], rfl, hy, rfl⟩
  | (j, d) :: ds, _, ⟨v, ws, e, h, r⟩ => by subst e; exact ⟨v, ws ++ [(k, y)], rfl, h, KVR.snoc hy r⟩
theorem KVR.putK {K : PySem.W.Frag} {ρ : List Addr} {H : Hp} {k : κ} {x : D} {y : V} (hy : VR K ρ H x y) {ds : List (κ × D)} {vs : List (κ × V)} (h : KVR K ρ H ds vs) : KVR K ρ H (putKD ds k x) (L2.putK vs k y) := by
  unfold putKD L2.putK
  rw [← h.any]
  by_cases a : (ds.any fun kv => decide (kv.1 = k)) = true
  · rw [if_pos a, if_pos a]; exact h.repl hy
  · rw [if_neg a, if_neg a]; exact h.snoc hy
end
/-! ### d[k], k in d, d[k] = v -/
def dictGet (S : Store) : D → D → Option (Option D)
  | .ref n, y => match S[n]? with
    | some (.dK _ kvs) => (match keyD y with
      | some k => some (lkD kvs k)
      | none => none)
    | some (.dT kvs) => (match y with
      | .tup ds => (match keysD ds with
        | some k => some (lkD kvs k)
        | none => none)
      | _ => none)
    | _ => none
  | _, _ => none
theorem dictGet_ok {Ω : Wd} {ρ : List Addr} {H : Hp} {S : Store} {d y : D} {v u : V} {o : Option D} (r : Rel Ω ρ H S) (hd : VR Ω.K ρ H d v) (hy : VR Ω.K ρ H y u) (e : dictGet S d y = some o) :
    ∃ a o', v = .ref a ∧ DGet H a u o' ∧ LkR Ω.K ρ H o o' := by
  cases d with
  | ref n =>
    obtain ⟨a, h1, rfl⟩ := hd
    cases q : S[n]? with
    | none => simp only [dictGet, q] at e; cases e
    | some ob =>
      have hob := r.ob n a ob h1 q
      cases ob with
      | dK lk kvs =>
        obtain ⟨kv, hk, g1, g2⟩ := hob
        simp only [dictGet, q] at e
        cases e1 : keyD y with
        | none => rw [e1] at e; cases e
        | some k =>
          rw [e1] at e
          cases e
          have := keyD_ok hy e1
          subst this
          refine ⟨a, valV kv k, rfl, ?_, hk.val⟩
          cases lk with
          | false => exact .k (g1 rfl)
          | true => obtain ⟨od, g3⟩ := g2 rfl; exact .inl ⟨kv, k, .inr ⟨od, g3⟩, rfl, rfl⟩
      | dT kvs =>
        obtain ⟨kv, hk, g1⟩ := hob
        simp only [dictGet, q] at e
        cases y with
        | tup ds =>
          obtain ⟨b, vs, rfl, hb, hvs⟩ := hy
          replace e : (match keysD ds with | some k => some (lkD kvs k) | none => none) = some o := e
          cases e1 : keysD ds with
          | none => rw [e1] at e; cases e
          | some k =>
            rw [e1] at e
            cases e
            have := keysD_ok hvs e1
            subst this
            exact ⟨a, valV kv k, rfl, .t g1 hb, hk.val⟩
        | _ => cases e
      | _ => simp only [dictGet, q] at e; cases e
  | _ => simp only [dictGet] at e; cases e
def dictPut (S : Store) : D → D → D → Option Store
  | .ref n, y, x => match S[n]? with
    | some (.dK false kvs) => (match keyD y with
      | some k => if lenOk (kvs.length + 1) = true then some (S.set n (.dK false (putKD kvs k x))) else none
      | none => none)
    | some (.dT kvs) => (match y with
      | .tup ds => (match keysD ds with
        | some k => if lenOk (kvs.length + 1) = true then some (S.set n (.dT (putKD kvs k x))) else none
        | none => none)
      | _ => none)
    | _ => none
  | _, _, _ => none
theorem dictPut_ok {Ω : Wd} {ρ : List Addr} {H : Hp} {S S' : Store} {d y x : D} {v u z : V} (r : Rel Ω ρ H S) (hd : VR Ω.K ρ H d v) (hy : VR Ω.K ρ H y u) (hx : VR Ω.K ρ H x z) (e : dictPut S d y x = some S') :
    ∃ a H', v = .ref a ∧ DPut H a u z H' ∧ Step ρ H ρ H' ∧ Rel Ω ρ H' S' := by
  cases d with
  | ref n =>
    obtain ⟨a, h1, rfl⟩ := hd
    have hm := List.mem_of_getElem? h1
    cases q : S[n]? with
    | none => simp only [dictPut, q] at e; cases e
    | some ob =>
      have hob := r.ob n a ob h1 q
      cases ob with
      | dK lk kvs =>
        obtain ⟨kv, hk, g1, g2⟩ := hob
        cases lk with
        | true => simp only [dictPut, q] at e; cases e
        | false =>
          simp only [dictPut, q] at e
          cases e1 : keyD y with
          | none => rw [e1] at e; cases e
          | some k =>
            rw [e1] at e
            replace e : (if lenOk (kvs.length + 1) = true then some (S.set n (.dK false (putKD kvs k x))) else none) = some S' := e
            by_cases hl : lenOk (kvs.length + 1) = true
            · rw [if_pos hl] at e
              cases e
              have := keyD_ok hy e1
              subst this
              have hz : kv.length < sizeLine := by rw [← hk.len]; exact lenOk_of hl
              have st : Step ρ H ρ (upd H a (.dK (L2.putK kv k z))) := .write hm (g1 rfl)
              exact ⟨a, _, rfl, .k (g1 rfl) hz, st, r.write h1 (g1 rfl) ⟨_, (r.kvr st hk).putK (r.vr st hx), fun _ => upd_same, fun q => by cases q⟩⟩
            · rw [if_neg hl] at e; cases e
      | dT kvs =>
        obtain ⟨kv, hk, g1⟩ := hob
        simp only [dictPut, q] at e
        cases y with
        | tup ds =>
          obtain ⟨b, vs, rfl, hb, hvs⟩ := hy
          replace e : (match keysD ds with | some k => if lenOk (kvs.length + 1) = true then some (S.set n (.dT (putKD kvs k x))) else none | none => none) = some S' := e
          cases e1 : keysD ds with
          | none => rw [e1] at e; cases e
          | some k =>
            rw [e1] at e
            replace e : (if lenOk (kvs.length + 1) = true then some (S.set n (.dT (putKD kvs k x))) else none) = some S' := e
            by_cases hl : lenOk (kvs.length + 1) = true
            · rw [if_pos hl] at e
              cases e
              have := keysD_ok hvs e1
              subst this
              have hz : kv.length < sizeLine := by rw [← hk.len]; exact lenOk_of hl
              have st : Step ρ H ρ (upd H a (.dT (L2.putK kv k z))) := .write hm g1
              exact ⟨a, _, rfl, .t g1 hb hz, st, r.write h1 g1 ⟨_, (r.kvr st hk).putK (r.vr st hx), upd_same⟩⟩
            · rw [if_neg hl] at e; cases e
        | _ => cases e
      | _ => simp only [dictPut, q] at e; cases e
  | _ => simp only [dictPut] at e; cases e
section
variable {X : Cx} {W : WX} {pos pos' : Pos} {o i e : Expr} {fo fi fv fe : DE}
def dDGet (fo fi : DE) : DE := fun δ S => (fo δ S).bind fun d S1 => (fi δ S1).bind fun y S2 => match dictGet S2 d y with
  | some (some v) => .ok v S2
  | _ => .bad
/-- d[y] -/
theorem je_dget (hu : X.A.units + 1 < cLine) (ho : JE X W o fo) (hi : JE X W i fi) (hs : NoSl i := by intro _ _; rfl) : JE X W (.Subscript o i pos) (dDGet fo fi) := pe_imp (pe_dget hu ho hi hs) fun σ H Q ⟨ρ, δ, S, r, rs, h⟩ => by
  refine ⟨ρ, δ, S, r, rs, LG.bind h fun ρ1 d S1 v H1 s1 r1 p1 q1 => ⟨ρ1, δ, S1, r1, r.rs s1 rs, LG.bind q1 fun ρ2 y S2 u H2 s2 r2 p2 q2 => ?_⟩⟩
  cases q : dictGet S2 d y with
  | none => rw [q] at q2; exact q2.elim
  | some ov =>
    rw [q] at q2
    obtain ⟨a, o', rfl, g, lk⟩ := dictGet_ok r2 (r1.vr s2 p1) p2 q
    cases ov with
    | none => exact q2.elim
    | some x =>
      obtain ⟨w, rfl, hw⟩ := lk
      exact ⟨a, w, rfl, g, q2 ρ2 w H2 .refl r2 hw⟩
def dDIn (n : Bool) (fi fo : DE) : DE := fun δ S => (fi δ S).bind fun y S1 => (fo δ S1).bind fun d S2 => match dictGet S2 d y with
  | some r => .ok (.bl (if n = true then !r.isSome else r.isSome)) S2
  | none => .bad
theorem LkR.some_eq {K : PySem.W.Frag} {ρ : List Addr} {H : Hp} {a : Option D} {b : Option V} (h : LkR K ρ H a b) : a.isSome = b.isSome := by
  cases a with
  | none => rw [show b = none from h]; rfl
  | some d => obtain ⟨v, rfl, _⟩ := h; rfl
theorem pc_jdin (hu : X.A.units + 1 < cLine) (hi : JE X W i fi) (ho : JE X W o fo) : PC X .In i o (LE (om X) W (dDIn false fi fo)) := ⟨fun pins s σ H Q I ⟨ρ, δ, S, r, rs, h⟩ => (pc_din hu hi ho).run pins s σ H Q I (by
  refine ⟨ρ, δ, S, r, rs, LG.bind h fun ρ1 y S1 u H1 s1 r1 p1 q1 => ⟨ρ1, δ, S1, r1, r.rs s1 rs, LG.bind q1 fun ρ2 d S2 v H2 s2 r2 p2 q2 => ?_⟩⟩
  cases q : dictGet S2 d y with
  | none => rw [q] at q2; exact q2.elim
  | some ov =>
    rw [q] at q2
    obtain ⟨a, o', rfl, g, lk⟩ := dictGet_ok r2 p2 (r1.vr s2 p1) q
    exact ⟨a, o', rfl, g, q2 ρ2 _ H2 .refl r2 (by rw [lk.some_eq]; rfl)⟩)⟩
theorem pc_jdnin (hu : X.A.units + 1 < cLine) (hi : JE X W i fi) (ho : JE X W o fo) : PC X .NotIn i o (LE (om X) W (dDIn true fi fo)) := ⟨fun pins s σ H Q I ⟨ρ, δ, S, r, rs, h⟩ => (pc_dnotin hu hi ho).run pins s σ H Q I (by
  refine ⟨ρ, δ, S, r, rs, LG.bind h fun ρ1 y S1 u H1 s1 r1 p1 q1 => ⟨ρ1, δ, S1, r1, r.rs s1 rs, LG.bind q1 fun ρ2 d S2 v H2 s2 r2 p2 q2 => ?_⟩⟩
  cases q : dictGet S2 d y with
  | none => rw [q] at q2; exact q2.elim
  | some ov =>
    rw [q] at q2
    obtain ⟨a, o', rfl, g, lk⟩ := dictGet_ok r2 p2 (r1.vr s2 p1) q
    exact ⟨a, o', rfl, g, q2 ρ2 _ H2 .refl r2 (by rw [lk.some_eq]; rfl)⟩)⟩
/-- i in d -/
theorem je_din (hu : X.A.units + 1 < cLine) (hi : JE X W i fi) (ho : JE X W o fo) (hm : behindInMarks .In o = false := by first | exact nobehind _ (by decide) (by decide) | rfl) : JE X W (.Compare i [.In] [o] pos) (dDIn false fi fo) := pe_cmp (pc_jdin hu hi ho) hm
theorem je_dnin (hu : X.A.units + 1 < cLine) (hi : JE X W i fi) (ho : JE X W o fo) (hm : behindInMarks .NotIn o = false := by first | exact nobehind _ (by decide) (by decide) | rfl) : JE X W (.Compare i [.NotIn] [o] pos) (dDIn true fi fo) := pe_cmp (pc_jdnin hu hi ho) hm
def dDPut (fo fi fv : DE) : DS := fun δ S => (fv δ S).thenF δ fun x S1 => (fo δ S1).thenF δ fun d S2 => (fi δ S2).thenF δ fun y S3 => match dictPut S3 d y x with
  | some S4 => .nx δ S4
  | none => .bad
/-- d[i] = e -/
theorem js_dput (hu : X.A.units + 1 < cLine) (ho : JE X W o fo) (hi : JE X W i fi) (hv : JE X W e fv) (hs : swapsWith e (some (.Subscript o i pos')) pos.line X.env = pure false := by rfl) : JS X W (.Assign [.Subscript o i pos'] e pos) (dDPut fo fi fv) := ps_imp (ps_dput hu ho hi hv hs) fun E σ H ⟨ρ, δ, S, r, rs, h⟩ => by
  refine ⟨ρ, δ, S, r, rs, LF.of r rs h fun ρ1 x S1 z H1 s1 r1 p1 rs1 h1 => ⟨ρ1, δ, S1, r1, rs1, LF.of r1 rs1 h1 fun ρ2 d S2 v H2 s2 r2 p2 rs2 h2 => ⟨ρ2, δ, S2, r2, rs2, LF.of r2 rs2 h2 fun ρ3 y S3 u H3 s3 r3 p3 rs3 h3 => ?_⟩⟩⟩
  cases q : dictPut S3 d y x with
  | none => rw [q] at h3; exact h3.elim
  | some S4 =>
    rw [q] at h3
    obtain ⟨a, H4, rfl, dp, st, r4⟩ := dictPut_ok r3 (r2.vr s3 p2) p3 (r1.vr (s2.trans s3) p1) q
    exact ⟨a, H4, rfl, dp, h3 ρ3 σ H4 st r4 (r3.rs st rs3)⟩
def dDNew (t : Bool) : DE := fun _ S => .ok (.ref S.length) (S ++ [if t = true then .dT [] else .dK false []])
/-- {} -/
theorem je_dnew (t : Bool) : JE X W (.Dict [] [] pos) (dDNew t) := by
  have hx : ∀ {ρ : List Addr} {S : Store} {p : Addr} {Ω : Wd} {H : Hp}, Rel Ω ρ H S → (ρ ++ [p])[S.length]? = some p := fun {ρ S p Ω H} r => by rw [← r.len]; simp
  cases t with
  | false => exact pe_imp pe_dnewK fun σ H Q ⟨ρ, δ, S, r, rs, h⟩ p hp => h (ρ ++ [p]) (.ref p) _ (.alloc hp) (r.alloc (x := .dK false []) hp ⟨[], rfl, fun _ => upd_same, fun q => by cases q⟩) ⟨p, hx r, rfl⟩
  | true => exact pe_imp pe_dnewT fun σ H Q ⟨ρ, δ, S, r, rs, h⟩ p hp => h (ρ ++ [p]) (.ref p) _ (.alloc hp) (r.alloc (x := .dT []) hp ⟨[], rfl, upd_same⟩) ⟨p, hx r, rfl⟩
end
end DL
/-! enumerate(tuple) -/
namespace PySem
open Sem (wp)
open AutoSeq1 (wpAny_loadPart')
theorem meets_enumerate_newT (l : Addr) (items : Array Value) (n : Nat) (dct : Option Addr) (sl : Array (Option Value)) :
    Meets (Builtin.«enumerate.__new__» ⟨[.type "enumerate", .ref l], []⟩) (fun _ R s => s.heap.get? l = some { cls := .type "tuple", dict := dct, data := .seq items n, slots := sl } ∧
      R (.ok (.ret (.ref (s.heap.push { cls := .type "tuple_iterator", data := .fields #[.ref l, .int 0 0] }).objs.size)))
        { s with heap := (s.heap.push { cls := .type "tuple_iterator", data := .fields #[.ref l, .int 0 0] }).push { cls := .type "enumerate", data := .fields #[.none, .bool false, .ref s.heap.objs.size, rawInt 0, .none, .none] } }) :=
  .of_wp fun prog w A R s h => by
    obtain ⟨hp, g, d, tk, os⟩ := s; obtain ⟨hl, h⟩ := h
    have hsub := sub_enumerate
    have hL : Heap.IsTuple (Shared.heap ⟨hp, g, d, tk, os⟩) l items := ⟨_, hl, rfl, n, rfl⟩
    wp_walk using wpAny_loadPart' hl
    refine wpAny_stack_any fun st => wpAny_pure ?_
    split
    · rename_i c _ _ _ _ _
      cases (c == Value.type "enumerate")
      · wp_walk using wpAny_loadPart' hl, wpAny_pyIter_tuple hL
        exact ⟨_, rfl, h⟩
      · wp_walk using wpAny_loadPart' hl, wpAny_pyIter_tuple hL
        exact ⟨_, rfl, h⟩
    · wp_walk using wpAny_loadPart' hl, wpAny_pyIter_tuple hL
      exact ⟨_, rfl, h⟩
section
variable {prog : Program} {w : World} {A : Around} {E : Value → Shared → Prop} {s : Shared}
theorem call_enumerate_tuple {l : Addr} {items : Array Value} {Q : Value → Shared → Prop} (hL : s.heap.IsTuple l items)
    (h : ∀ h', IsEnum h' (s.heap.objs.size + 1) s.heap.objs.size 0 .none → h'.IsTupleIter s.heap.objs.size l 0 → h'.objs.size = s.heap.objs.size + 2 →
      (∀ b o, s.heap.get? b = some o → h'.get? b = some o) → Q (.ref (s.heap.objs.size + 1)) { s with heap := h' }) :
    wpAny (model prog w) A (call (.type "enumerate") [.ref l]) Q E s := by
  obtain ⟨⟨c, dct, dt, sl⟩, hl, hc, n, hd⟩ := hL
  replace hc : c = .type "tuple" := hc
  replace hd : dt = .seq items n := hd
  subst hc hd
  refine callType_new F.called_enumerate (by decide) (F.typeCall_enumerate_1 _) (F.newCall_enumerate_1 _) (fun obj => F.args_object_init_2 obj _) F.entry_enumerate_new
    (meets_enumerate_newT l items n dct sl) ⟨hl, ?_⟩
  have hz : (s.heap.push { cls := .type "tuple_iterator", data := .fields #[.ref l, .int 0 0] }).objs.size = s.heap.objs.size + 1 := Heap.size_push ..
  show _ ∧ _
  rw [hz]
  have he : IsEnum ((s.heap.push { cls := .type "tuple_iterator", data := .fields #[.ref l, .int 0 0] }).push
      { cls := .type "enumerate", data := .fields #[.none, .bool false, .ref s.heap.objs.size, rawInt 0, .none, .none] }) (s.heap.objs.size + 1) s.heap.objs.size 0 .none := by
    have := Heap.get?_push_size (s.heap.push { cls := .type "tuple_iterator", data := .fields #[.ref l, .int 0 0] })
      (o := { cls := .type "enumerate", data := .fields #[.none, .bool false, .ref s.heap.objs.size, rawInt 0, .none, .none] }) rfl
    rw [hz] at this; exact this
  refine ⟨⟨_, he, rfl⟩, h _ he ⟨_, Heap.get?_push_of_some _ (Heap.get?_push_size _ rfl), rfl, rfl⟩ (by rw [Heap.size_push, hz]) fun b o x => Heap.get?_push_of_some _ (Heap.get?_push_of_some _ x)⟩
end
end PySem
namespace DL
open PySem PySem.Spec L2 PyProof.Rows
def IteT (K : PySem.W.Frag) (a : Addr) : It :=
  ⟨fun i H => ∃ (xs : List V) (x : V), SqT K H a xs ∧ xs[i]? = some x, fun i H v H' => ∃ T x, v = .ref T ∧ H T = none ∧ H' = upd H T (.tup [.int (i : Nat), x]) ∧ ∀ xs, SqT K H a xs → xs[i]? = some x, fun i H => ∃ xs : List V, SqT K H a xs ∧ xs.length = i⟩
theorem turn_enumT {P : Program} {w : World} {K : PySem.W.Frag} {elts : List Expr} {kk : Nat} {tpos : Pos} (a e it : Addr) :
    Turn P w K (.Tuple elts kk tpos) (IteT K a) [e, it] e (fun i h => (∃ old, IsEnum h e it ((i : Nat) : Int) old) ∧ h.IsTupleIter it a i ∧ e ≠ it) where
  mem := by simp
  obj := fun i h st b hb => by
    obtain ⟨⟨old, he⟩, ⟨o, ho, hc, hd⟩, _⟩ := st
    have e' : b = e ∨ b = it := by simpa using hb
    rcases e' with z | z
    · rw [z]; exact ⟨_, he, fun v q => nomatch q⟩
    · rw [z]; exact ⟨o, ho, fun v q => by rw [hd] at q; cases q⟩
  keep := fun i h h' st k => let ⟨⟨old, he⟩, hi, hne⟩ := st; ⟨⟨old, k e (by simp) _ he⟩, hi.at fun o q => k it (by simp) o q, hne⟩
  item := by
    intro X hP hw hK hc i pins s σ H E I hf st hg
    subst hP hw hK
    obtain ⟨⟨old, he⟩, hit, hne⟩ := st
    obtain ⟨xs, x, hq, hx⟩ := hg
    obtain ⟨its, rv, p, hz⟩ := I.tuple hq
    have hl := rv.length
    obtain ⟨u, hu, ru⟩ := rv.get hx
    have hT : s.heap.IsTuple a its.toArray := p
    have hae : a ≠ e := fun z => by
      obtain ⟨o, ho, hoc, _⟩ := hT
      rw [z] at ho
      have ho' := ho.symm.trans he
      cases ho'
      have hoc' : Value.type "enumerate" = Value.type "tuple" := hoc
      exact absurd hoc' (by decide)
    have hai : a ≠ it := fun z => by
      obtain ⟨o, ho, hoc, _⟩ := hT
      obtain ⟨o2, ho2, hoc2, _⟩ := hit
      rw [z] at ho
      have ho' := ho.symm.trans ho2
      cases ho'
      rw [hoc] at hoc2
      exact absurd hoc2 (by decide)
    have hlt : i < its.toArray.size := by rw [List.size_toArray]; exact (List.getElem?_eq_some_iff.mp hu).1
    have D := Draws.tuple (prog := X.prog) (w := X.w) (A := X.A.in1) (show X.A.in1.handled = none from I.ok.hd hc) it a hai its.toArray
    have hel : e < s.heap.objs.size := Heap.lt_size he
    have hil : it < s.heap.objs.size := by obtain ⟨_, q, _⟩ := hit; exact Heap.lt_size q
    refine wpAny_pyNext_enum_itemD D he ⟨hit, hT⟩ hlt hne (by simp [hne, Ne.symm hae]) fun y h' tk hy ho hit' hT' hsz hk => ?_
    have hy' : y = u := by
      have : its.toArray[i]? = some y := hy
      rw [List.getElem?_toArray, hu] at this
      exact (Option.some.inj this).symm
    subst hy'
    refine ⟨_, rfl, wpAny_letOwnedTupleGo_enum (s := { s with heap := h', toks := tk + 1 }) ho fun h'' he' sb => ?_⟩
    have hT2 : h''.get? s.heap.objs.size = some { cls := .type "tuple", data := .seq #[.int i tk, y] } := (sb.2 _ (Nat.ne_of_gt hel)).trans hT'
    have new : ObjOk X.prog X.w (upd H s.heap.objs.size (.tup [.int (i : Nat), x])) h'' s.heap.objs.size (.tup [.int (i : Nat), x]) :=
      ⟨by show 2 ≤ sizeLine; decide, [.int i tk, y], .cons ⟨_, rfl⟩ (.cons ru .nil), ⟨_, hT2, rfl, _, rfl⟩⟩
    have I1 : Inv X pins σ (upd H s.heap.objs.size (.tup [.int (i : Nat), x])) { s with heap := h'', toks := tk + 1 } :=
      I.turnedNew (ch := [e, it]) (fun b ob hb q => (sb.2 b (fun z => hb (by simp [z]))).trans (hk b ob (fun z => hb (by simp [z])) (fun z => hb (by simp [z])) q)) hf (Nat.le_refl _) new
    refine ⟨.ref s.heap.objs.size, _, I1, rfl, ⟨_, x, rfl, I.hok.fresh (Nat.le_refl _), rfl, fun ys hy => by rw [I.tuple_inj hy hq]; exact hx⟩, ⟨⟨y, ?_⟩, hit'.1.at fun o q => (sb.2 it (Ne.symm hne)).trans q, hne⟩, fun b hb => ?_⟩
    · have e1 : ((i + 1 : Nat) : Int) = (i : Int) + 1 := by omega
      rw [e1]; exact he'
    · have hb' : b < s.heap.objs.size := by
        have e' : b = e ∨ b = it := by simpa using hb
        rcases e' with z | z
        · rw [z]; exact hel
        · rw [z]; exact hil
      rw [upd_ne (Nat.ne_of_lt hb')]
      exact (hf b hb).1
  done := by
    intro X hP hw hK hc i pins s σ H E I hf st hg
    subst hP hw hK
    obtain ⟨⟨old, he⟩, hit, hne⟩ := st
    obtain ⟨xs, hq, hx⟩ := hg
    obtain ⟨its, rv, p, hz⟩ := I.tuple hq
    have hl := rv.length
    have hT : s.heap.IsTuple a its.toArray := p
    have hai : a ≠ it := fun z => by
      obtain ⟨o, ho, hoc, _⟩ := hT
      obtain ⟨o2, ho2, hoc2, _⟩ := hit
      rw [z] at ho
      have ho' := ho.symm.trans ho2
      cases ho'
      rw [hoc] at hoc2
      exact absurd hoc2 (by decide)
    have hsz : its.toArray.size = i := by rw [List.size_toArray, ← hl, hx]
    subst hsz
    have D := Draws.tuple (prog := X.prog) (w := X.w) (A := X.A.in1) (show X.A.in1.handled = none from I.ok.hd hc) it a hai its.toArray
    obtain ⟨f0, f1, f2, f3, f4, f5⟩ := hf it (by simp)
    exact wpAny_pyNext_enum_endD D he ⟨hit, hT⟩ fun h' eb => ⟨rfl, I.turned (t' := s.toks) (fun b o hb q => eb b o hb q) f0 f1 f3 f4 f5⟩
  self := fun A i s Q E st h => let ⟨⟨_, he⟩, _⟩ := st; wpAny_pyIter_enum he h
section
variable {X : Cx} {W : WX} {pos p p2 apos cpos : Pos} {a b c e o : Expr} {es : List Expr} {fa fb fc fo : DE} {fs : DA} {f g : DS} {x : Str}
def iEnumT (K : PySem.W.Frag) (ta : TA) : TI := fun σ H R => ta σ H fun vs H1 => ∃ a xs, vs = [.ref a] ∧ SqT K H1 a xs ∧ R (IteT K a) H1
theorem pi_enumT {ta : TA} {tpos : Pos} {elts : List Expr} {kk : Nat} (hg : Gl X "enumerate") (hm : X.mg "enumerate" = none) (ha : PA X [e] ta) (hs : starEach [e] X.env = [(false, eval e X.env)] := by rfl) :
    PI X (.Tuple elts kk tpos) (.Call (.Name "enumerate" p) [e] [] pos) (iEnumT X.K ta) := by
  refine ⟨fun pins s σ H R I h => ?_⟩
  refine Call_ (ld_blt I hg hm boot_enumerate (PyProof.Rows.callWith_type1 (thn (ha.run pos pins s σ H _ I h) fun us s1 ⟨vs, H1, I1, r1, q1⟩ => ?_) hs rfl))
  obtain ⟨a, xs, ex, hq, q⟩ := q1
  subst ex
  obtain ⟨u, rfl, r⟩ := vals1 r1
  obtain rfl : u = Value.ref a := r
  obtain ⟨its, rv, p', hz⟩ := I1.tuple hq
  refine call_enumerate_tuple (show s1.heap.IsTuple a its.toArray from p') fun h' he hit hsz hk => wpAny_pyIter_enum he ?_
  have I2 : Inv X pins σ H1 { s1 with heap := h' } := I1.kept (t' := s1.toks) hk
  refine ⟨s1.heap.objs.size + 1, [s1.heap.objs.size + 1, s1.heap.objs.size], _, _, H1, rfl, I2, turn_enumT a (s1.heap.objs.size + 1) s1.heap.objs.size, ⟨⟨.none, he⟩, hit, Nat.succ_ne_self _⟩, fun b hb => ?_, q⟩
  have e' : b = s1.heap.objs.size + 1 ∨ b = s1.heap.objs.size := by simpa using hb
  have hle : s1.heap.objs.size ≤ b := by
    rcases e' with z | z
    · rw [z]; exact Nat.le_add_right _ _
    · rw [z]; exact Nat.le_refl _
  exact I1.fpOk hle (I1.hok.fresh hle)
def pairsD (i : Nat) : List D → List D
  | [] => []
  | d :: ds => .tup [.int i, d] :: pairsD (i + 1) ds
theorem pairsD_get : ∀ (cs : List D) (k i : Nat), (pairsD k cs)[i]? = (cs[i]?).map fun c => D.tup [.int ((k + i : Nat) : Int), c]
  | [], _, _ => by simp [pairsD]
  | c :: cs, k, 0 => by simp [pairsD]
  | c :: cs, k, i + 1 => by
    show (pairsD (k + 1) cs)[i]? = _
    rw [pairsD_get cs (k + 1) i, List.getElem?_cons_succ, show k + 1 + i = k + (i + 1) by omega]
theorem pairsD_len : ∀ (cs : List D) (k : Nat), (pairsD k cs).length = cs.length
  | [], _ => rfl
  | c :: cs, k => by show (pairsD (k + 1) cs).length + 1 = _; rw [pairsD_len cs (k + 1)]; rfl
theorem Walk.enumT {Ω : Wd} {a : Addr} {xs : List D} {vs : List V} {ρ : List Addr} {H : Hp} {S : Store} (r : Rel Ω ρ H S) (hr : SqT Ω.K H a vs) (hv : VRs Ω.K ρ H xs vs) : Walk Ω (IteT Ω.K a) (pairsD 0 xs) ρ H where
  go := fun i ρ' G H' s sb hi => by
    rw [pairsD_len, hv.len] at hi
    exact ⟨vs, vs[i], sb.sqT (s.sqT (fun a m => r.mv m) hr), List.getElem?_eq_getElem hi⟩
  stop := fun ρ' G H' s sb => ⟨vs, sb.sqT (s.sqT (fun a m => r.mv m) hr), by rw [pairsD_len, hv.len]⟩
  yld := fun i d v ρ' G H' H'' S' s r' sb e y => by
    obtain ⟨T, x, rfl, hT, rfl, hx⟩ := y
    have hG : G T = none := by
      cases q : G T with
      | none => rfl
      | some o => rw [sb T o q] at hT; cases hT
    rw [pairsD_get, Nat.zero_add] at e
    obtain ⟨c, hc, rfl⟩ := Option.map_eq_some_iff.mp e
    obtain ⟨w, hw, hvw⟩ := VRs.get (r.vrs s hv) hc
    have hxw := hx vs (sb.sqT (s.sqT (fun a m => r.mv m) hr))
    rw [hw] at hxw
    cases hxw
    have st : Step ρ' G ρ' (upd G T (.tup [.int (i : Nat), x])) := .fresh hG
    refine ⟨upd G T (.tup [.int (i : Nat), x]), st, r'.fresh hG, ⟨T, _, rfl, upd_same, ⟨_, _, rfl, rfl, ⟨_, _, rfl, r'.vr st hvw, rfl⟩⟩⟩, fun a q => ?_, fun a q => ?_⟩
    · by_cases ha : a = T
      · rw [ha, upd_same, upd_same]
      · rw [upd_ne ha, upd_ne ha, q]
    · have ha : a ≠ T := fun z => q (by rw [z]; exact hT)
      exact ⟨upd_ne ha, upd_ne ha⟩
def diEnumT (fa : DE) : DA := fun δ S => (fa δ S).bind fun d S1 => match d with
  | .tup ds => .ok (pairsD 0 ds) S1
  | _ => .bad
theorem ji_enumT {elts : List Expr} {kk : Nat} {tpos : Pos} (hm : X.mg "enumerate" = none) (ha : JE X W e fa) (hs : starEach [e] X.env = [(false, eval e X.env)] := by rfl) (hg : Gl X "enumerate" := by rfl) : JI X W (.Tuple elts kk tpos) (.Call (.Name "enumerate" p) [e] [] pos) (diEnumT fa) :=
  pi_imp (pi_enumT hg hm (ja_cons ha ja_nil (by rw [hs]; rfl)) hs) fun σ H R ⟨ρ, δ, S, r, rs, h⟩ => by
    refine ⟨ρ, δ, S, r, rs, ?_⟩
    show LG (om X) W (PVRs (om X)) ((fa δ S).bind fun x S1 => (dNil δ S1).bind fun xs S2 => .ok (x :: xs) S2) ρ H σ _
    have h' : LG (om X) W (PWk (om X)) ((fa δ S).bind fun d S1 => match d with | .tup ds => .ok (pairsD 0 ds) S1 | _ => .bad) ρ H σ R := h
    cases q : fa δ S with
    | ok d S1 =>
      rw [q] at h'
      intro ρ' vs H' s' r' pv
      obtain ⟨v, ws, rfl, hv, hw⟩ := pv
      cases hw
      cases d with
      | tup ds =>
        obtain ⟨b, us, rfl, hb, hus⟩ := hv
        exact ⟨b, us, rfl, .of hb, h' ρ' _ H' s' r' (.enumT r' (.of hb) hus)⟩
      | _ => exact h'.elim
    | exc x S1 => rw [q] at h'; exact h'
    | bad => rw [q] at h'; exact h'
end
end DL
/-! walks over a dict's keys; dicts made by a comprehension -/
namespace DL
open PySem PySem.Spec L2 PyProof.Rows
/-! ### a dict is locked while an expression reads it -/
def dLk (i : Nat) (f : DE) : DE := fun δ S => match δ[i]? with
  | some (some (.ref n)) => (match S[n]? with
    | some (.dK false kvs) => (match f δ (S.set n (.dK true kvs)) with
      | .ok v S' => .ok v (S'.set n (.dK false kvs))
      | _ => .bad)
    | _ => .bad)
  | _ => .bad
theorem Rel.unlock {Ω : Wd} {ρ : List Addr} {H : Hp} {S : Store} {n : Nat} {a : Addr} {od : Obj} {kvs : List (Key × D)} {kv : List (Key × V)} (r : Rel Ω ρ H S) (h : ρ[n]? = some a) (e : H a = some (.frz od (.dK kv))) (hk : KVR Ω.K ρ H kvs kv) :
    StepW ρ H ρ (upd H a (.dK kv)) ∧ Rel Ω ρ (upd H a (.dK kv)) (S.set n (.dK false kvs)) := by
  have hm := List.mem_of_getElem? h
  have st : StepW ρ H ρ (upd H a (.dK kv)) := ⟨List.prefix_rfl, fun b u q nm => by rw [upd_ne (fun z => nm (by rw [z]; exact hm))]; exact q, fun _ m n => absurd m n⟩
  refine ⟨st, by simp [r.len], r.nd, fun k b y e1 e2 => ?_⟩
  by_cases hkn : k = n
  · subst hkn
    rw [h] at e1; cases e1
    have hl : k < S.length := by rw [← r.len]; exact (List.getElem?_eq_some_iff.mp h).1
    rw [List.getElem?_set_self hl] at e2
    cases e2
    exact ⟨kv, KVR.monoW st (fun a m => r.mv m) kvs kv hk, fun _ => upd_same, fun q => by cases q⟩
  · rw [List.getElem?_set_ne (fun q => hkn q.symm)] at e2
    refine (r.ob k b y e1 e2).monoW st (fun a m => r.mv m) (upd_ne fun q => hkn ?_)
    subst q
    exact (List.getElem?_inj (List.getElem?_eq_some_iff.mp e1).1 r.nd).mp (e1.trans h.symm)
section
variable {X : Cx} {W : WX} {pos p : Pos} {e : Expr} {f fa : DE} {i : Nat}
theorem je_lk (i : Nat) (h : JE X W0 e f) : JE X W e (dLk i f) := pe_imp (pe_lock h) fun σ H Q ⟨ρ, δ, S, r, rs, q⟩ => by
  unfold dLk at q
  split at q
  · rename_i n hi
    obtain ⟨v, hv, a, h1, rfl⟩ := rs.get hi
    split at q
    · rename_i kvs hS
      have ob : OR (om X) ρ H a (.dK false kvs) := r.ob n a _ h1 hS
      obtain ⟨kv, hk, g1, _⟩ := ob
      have g1 := g1 rfl
      have hm := List.mem_of_getElem? h1
      refine ⟨a, .dK kv, g1, trivial, fun od => ?_⟩
      have st : Step ρ H ρ (upd H a (.frz od (.dK kv))) := .write hm g1
      have r1 : Rel (om X) ρ (upd H a (.frz od (.dK kv))) (S.set n (.dK true kvs)) := r.write h1 g1 ⟨kv, r.kvr st hk, (fun q => by cases q), (fun _ => ⟨od, upd_same⟩)⟩
      refine ⟨ρ, δ, S.set n (.dK true kvs), r1, r.rs st rs, ?_⟩
      cases e1 : f δ (S.set n (.dK true kvs)) with
      | ok d S' =>
        rw [e1] at q
        intro ρ2 u H2 s2 r2 hu
        have h2 : ρ2[n]? = some a := by
          obtain ⟨t, rfl⟩ := s2.pre
          rw [List.getElem?_append_left (List.getElem?_eq_some_iff.mp h1).1]; exact h1
        have g2 : H2 a = some (.frz od (.dK kv)) := s2.frz _ _ _ upd_same
        obtain ⟨sw, r3⟩ := r2.unlock h2 g2 (r1.kvr s2 (r.kvr st hk))
        refine ⟨g2, q ρ2 u _ ?_ r3 (VR.monoW sw (fun a m => r2.mv m) d u hu)⟩
        have ha : ∀ {b : Addr} {o : HO}, b ∉ ρ → b ≠ a := fun nb z => nb (by rw [z]; exact hm)
        refine ⟨s2.pre, fun b o hb nb => ?_, fun b mb nb => ?_, fun b o w hb => ?_⟩
        · have hba : b ≠ a := fun z => nb (by rw [z]; exact hm)
          rw [upd_ne hba]
          exact s2.keep b o (by rw [upd_ne hba]; exact hb) nb
        · have hba : b ≠ a := fun z => nb (by rw [z]; exact hm)
          have := s2.new b mb nb
          rw [upd_ne hba] at this
          exact this
        · have hba : b ≠ a := fun z => by rw [z, g1] at hb; cases hb
          rw [upd_ne hba]
          exact s2.frz b o w (by rw [upd_ne hba]; exact hb)
      | exc x S' => rw [e1] at q; exact q.elim
      | bad => rw [e1] at q; exact q.elim
    · exact q.elim
  · exact q.elim
theorem KVR.get {κ : Type} {K : PySem.W.Frag} {ρ : List Addr} {H : Hp} : ∀ {ds : List (κ × D)} {vs : List (κ × V)} {i : Nat} {k : κ} {d : D}, KVR K ρ H ds vs → ds[i]? = some (k, d) → ∃ v, vs[i]? = some (k, v) ∧ VR K ρ H d v
  | [], _, _, _, _, _, e => by simp at e
  | (j, x) :: ds, vs, 0, k, d, ⟨v, ws, e, h, r⟩, q => by simp at q; obtain ⟨rfl, rfl⟩ := q; exact ⟨v, by rw [e]; rfl, h⟩
  | (j, x) :: ds, vs, i + 1, k, d, ⟨v, ws, e, h, r⟩, q => by
    obtain ⟨y, z, w⟩ := KVR.get (i := i) r (by simpa using q)
    exact ⟨y, by rw [e]; simpa using z, w⟩
theorem Walk.keys {Ω : Wd} {a : Addr} {od : Obj} {kvs : List (Key × D)} {kv : List (Key × V)} {ρ : List Addr} {H : Hp} {S : Store} (r : Rel Ω ρ H S) (he : H a = some (.frz od (.dK kv))) (hk : KVR Ω.K ρ H kvs kv) : Walk Ω (Itk a od kv) (kvs.map fun q => keyV q.1) ρ H where
  go := fun i ρ' G H' s sb hi => by
    rw [List.length_map, hk.len] at hi
    exact ⟨sb _ _ (s.frz _ _ _ he), hi⟩
  stop := fun ρ' G H' s sb => ⟨sb _ _ (s.frz _ _ _ he), by rw [List.length_map, hk.len]; exact Nat.le_refl _⟩
  yld := fun i d v ρ' G H' H'' S' s r' sb e y => by
    obtain ⟨rfl, k, w, hw, rfl⟩ := y
    rw [List.getElem?_map] at e
    obtain ⟨⟨j, x⟩, hc, rfl⟩ := Option.map_eq_some_iff.mp e
    obtain ⟨w', hw', _⟩ := hk.get hc
    rw [hw] at hw'
    cases hw'
    exact ⟨G, .refl, r', keyV_ok k, fun a q => q, fun a q => ⟨rfl, rfl⟩⟩
def diKeys (fa : DE) : DA := fun δ S => (fa δ S).bind fun d S1 => match d with
  | .ref n => (match S1[n]? with
    | some (.dK true kvs) => .ok (kvs.map fun q => keyV q.1) S1
    | _ => .bad)
  | _ => .bad
theorem ji_keys {tg : Expr} (ha : JE X W e fa) : JI X W tg e (diKeys fa) := pi_imp (pi_keys ha) fun σ H R ⟨ρ, δ, S, r, rs, h⟩ => by
  refine ⟨ρ, δ, S, r, rs, LG.bind h fun ρ1 d S1 v H1 s1 r1 p1 q1 => ?_⟩
  cases d with
  | ref n =>
    obtain ⟨a, h1, rfl⟩ := p1
    replace q1 : LG (om X) W (PWk (om X)) (match S1[n]? with | some (.dK true kvs) => .ok (kvs.map fun q => keyV q.1) S1 | _ => .bad) ρ1 H1 σ R := q1
    split at q1
    · rename_i kvs hS
      have ob : OR (om X) ρ1 H1 a (.dK true kvs) := r1.ob n a _ h1 hS
      obtain ⟨kv, hk, _, g2⟩ := ob
      obtain ⟨od, g2⟩ := g2 rfl
      exact ⟨a, od, rfl, .inl ⟨kv, g2, q1 ρ1 _ H1 .refl r1 (.keys r1 g2 hk)⟩⟩
    · exact q1.elim
  | _ => exact q1.elim
end
/-! ### {k: v for ..}, the keys ints, texts or flat tuples: written after HandS.DictComp's dc_core, with DPut -/
theorem d_dictSetP {X : Cx} {pins : List (Addr × Obj)} {σ : L2.St} {H H' : Hp} {s : Shared} {E : Value → Shared → Prop} {a : Addr} {y v : V} {u r : Value} {Q : Unit → Shared → Prop} (hu : X.A.units + 1 < cLine) (I : Inv X pins σ H s) (g : DPut H a y v H')
    (ry : RelV y u) (rv : RelV v r) (h : ∀ s', Inv X pins σ H' s' → Q () s') : wpAny (model X.prog X.w) X.A (dictSet a u r) Q E s := by
  rcases g with ⟨kvs, k, e, ey, l, eH⟩ | ⟨kvs, k, b, e, ey, eb, l, eH⟩
  · subst ey eH
    exact d_dictSet I e l ry rv h
  · subst ey eH
    cases (show u = Value.ref b from ry)
    obtain ⟨z, hd, xs, rel, dd⟩ := dt_of I.hok e
    have hz : xs.length ≤ sizeLine := by rw [← Paired.length rel]; exact z
    have hl : (L2.putK kvs k v).length ≤ sizeLine := by have := length_putK kvs k v; omega
    refine wpAny_dictSet_heap (hsz := hz) (show X.A.units < cLine by omega) (key_of I.hok eb) dd fun h' dd' hs => h _ ?_
    obtain ⟨q, es, ep, hq, h2, h3, h4, _, h5⟩ := dd'
    refine d_write I (by rw [e]; exact True.intro) hs ⟨q, hq⟩ ⟨hl, hd, _, (rel.put k eb rv).keeps fun c ys ec => ?_, q, es, ep, hq, h2, h3, h4, h5⟩
    rw [upd_ne (ne_of ec e (fun z => nomatch z))]
    exact ec
def dic0 (t : Bool) : HO := if t = true then .dT [] else .dK []
theorem dic0_ok {P : Program} {w : World} {H : Hp} (t : Bool) (h : Heap) (hb : sysModules < h.objs.size) : ObjOk P w H (h.push { cls := .type "dict", data := .dict #[] }) h.objs.size (dic0 t) := by
  cases t with
  | false => exact dk_empty h hb
  | true => exact dt_empty h hb
def tDcG (t : Bool) (wi : TI) (g : TG) (tt : TT) (tk tv : TE) (vs : List Nat) : TE := fun σ H Q => wi σ H fun J H1 => ∀ D, H1 D = none → ∃ W : Nat → Nat → Hp → Prop, (∃ m, W 0 m (upd H1 D (dic0 t))) ∧ ∀ i m H, W i m H →
  (J.stop i H ∧ Q (.ref D) H) ∨ (J.go i H ∧ ∃ Nx : Hp → Prop, (∀ H', Nx H' → ∃ m', m' < m ∧ W (i + 1) m' H') ∧ ∀ x H', J.yld i H x H' → g x (wipe σ vs) H' fun σ2 H2 => wipe σ2 vs = wipe σ vs ∧ tt σ2 H2 fun b H3 =>
    if b = true then tk σ2 H3 fun y H4 => tv σ2 H4 fun z H5 => ∃ H6, DPut H5 D y z H6 ∧ Nx H6 else Nx H3)
section
variable {X : Cx}
theorem pe_dcG {t : Bool} {kx vx tg iter : Expr} {ifs : List Expr} {scope : Scope} {own : List (Str × Nat)} {pos : Pos} {wi : TI} {g : TG} {tt : TT} {tk tv : TE} (hu : X.A.units + 1 < cLine) (hc : X.calm = true) (hN : X.N.Nodup) (hi : PI X tg iter wi) (ok : BlkOk X.N X.env.scope scope own)
    (hg : ∀ (s : Shared) (H : Hp) (C : Addr) (cl : List (Str × Addr)) (fp : List Addr), PG (X.blk s H scope (compEnvC scope cl C X.env) fp) tg g) (ht : ∀ (s : Shared) (H : Hp) (C : Addr) (cl : List (Str × Addr)) (fp : List Addr), PTs (X.blk s H scope (compEnvC scope cl C X.env) fp) ifs tt)
    (hk : ∀ (s : Shared) (H : Hp) (C : Addr) (cl : List (Str × Addr)) (fp : List Addr), PE (X.blk s H scope (compEnvC scope cl C X.env) fp) kx tk)
    (he : ∀ (s : Shared) (H : Hp) (C : Addr) (cl : List (Str × Addr)) (fp : List Addr), PE (X.blk s H scope (compEnvC scope cl C X.env) fp) vx tv) (hs : ∀ x, foldedSetIterable iter X.env x = pure x := by intro _; rfl) :
    PE X (.DictComp kx vx [⟨tg, iter, ifs, 0⟩] scope pos) (tDcG t wi g tt tk tv (own.map (·.2))) := by
  refine ⟨fun pins s σ H Q I h => ?_⟩
  rw [arm_eval_DictComp]
  have hfree : ∀ y ∈ scope.names, y.2 = .free → ∃ c, X.env.cells.lookup y.1 = some c := fun y hy e => by
    rcases ok.free y hy e with k | k
    · exact I.ok.has _ (.inl k)
    · exact I.ok.has _ (.inr k)
  refine wpAny_comprehension_free rfl hs (closure_ok hfree) ok.kind (fun y hy e => by rw [ok.uniq y hy, e]) (thn (hi.run pins s σ H _ I h) fun xv s1 hx => thn hx fun itv s2 h2 => ?_)
  obtain ⟨it, fp, tn, J, H2, e, I2, T, st2, f2, q⟩ := h2
  subst e
  refine wpAny_newObj_type (newEnv_comp ?_)
  generalize hD : s2.heap.objs.size = D
  have hDn : H2 D = none := I2.hok.fresh (Nat.le_of_eq hD)
  obtain ⟨W, ⟨m0, w0⟩, turn⟩ := q D hDn
  generalize hs3 : ({ s2 with heap := s2.heap.push { cls := .type "dict", data := .dict #[] } } : Shared) = s3
  have h3 : s3.heap = s2.heap.push { cls := .type "dict", data := .dict #[] } := by rw [← hs3]
  generalize hH3 : upd H2 D (dic0 t) = H3 at w0
  have I3 : Inv X pins σ H3 s3 := by
    rw [← hs3, ← hH3]
    refine I2.laid (t' := s2.toks) (fun b o e => Heap.get?_push_of_some _ e) (Nat.le_of_eq hD) ?_
    rw [← hD]
    exact dic0_ok t s2.heap I2.big
  have f3 : ∀ b ∈ fp, FpOk X pins H3 b ∧ b < s3.heap.objs.size := fun b hb => by
    obtain ⟨o, e, _⟩ := T.obj _ _ st2 b hb
    have hlt : b < s2.heap.objs.size := Heap.lt_size e
    refine ⟨⟨?_, (f2 b hb).2⟩, by rw [h3, Heap.size_push]; exact Nat.lt_succ_of_lt hlt⟩
    rw [← hH3, upd_ne (by rw [← hD]; exact Nat.ne_of_lt hlt)]
    exact (f2 b hb).1
  have st3 : tn 0 s3.heap := T.keep _ _ _ st2 fun b _ o e => by rw [h3]; exact Heap.get?_push_of_some _ e
  have I4 := block_start I3 ok hN f3
  have nfp : ∀ b ∈ fp, H3 b = none := fun b hb => (f3 b hb).1.1
  show codeAny _ _ (.compStart (.DictComp kx vx [⟨tg, iter, ifs, 0⟩] scope pos) 0 (.ref it) (.ref D) (compEnvC scope (cellsFrom (s3.heap.objs.size + 1) scope.names (cloFrom X.env.cells scope.names [])) s3.heap.objs.size X.env)) (compPost (model X.prog X.w) X.A X.xe none (EP X pins σ Q) (.ref D) s3.heap.objs.size) { s3 with heap := pushCells (s3.heap.push { cls := .type "dict", data := .dict #[] }) scope.names }
  generalize hcl : cellsFrom (s3.heap.objs.size + 1) scope.names (cloFrom X.env.cells scope.names []) = cl at I4 ⊢
  have pg := hg s3 H3 s3.heap.objs.size cl fp
  have pt := ht s3 H3 s3.heap.objs.size cl fp
  have pk := hk s3 H3 s3.heap.objs.size cl fp
  have pe := he s3 H3 s3.heap.objs.size cl fp
  generalize hce : compEnvC scope cl s3.heap.objs.size X.env = ce at I4 pg pt pk pe ⊢
  have cL : ce.locals = s3.heap.objs.size := by subst hce; rfl
  generalize hs4 : ({ s3 with heap := pushCells (s3.heap.push { cls := .type "dict", data := .dict #[] }) scope.names } : Shared) = s4 at I4 ⊢
  have st4 : tn 0 s4.heap := T.keep _ _ _ st3 fun b _ o e => by rw [← hs4]; exact pushCells_keeps _ _ _ _ (Heap.get?_push_of_some _ e)
  have stat : ∀ {σ' : L2.St} {H' : Hp} {s' : Shared}, Inv (X.blk s3 H3 scope ce fp) [] σ' H' s' → (∀ b ∈ fp, H' b = none) → ∀ b ∈ fp, FpOk (X.blk s3 H3 scope ce fp) [] H' b := fun {σ' H' s'} I' hn b hb =>
    ⟨hn b hb, (I'.ok.exf b hb).1, I'.ok.exfs b hb, .inl hb, fun x c e => (I'.ok.exf b hb).2 x c e, fun p hp => absurd (show p ∈ ([] : List (Addr × Obj)) ++ [] from hp) (by simp)⟩
  have loop : codeAny (model X.prog X.w) X.A (.compLoop (.DictComp kx vx [⟨tg, iter, ifs, 0⟩] scope pos) 0 (.ref it) (.ref D) ce) (compPost (model X.prog X.w) X.A X.xe none (EP X pins σ Q) (.ref D) s3.heap.objs.size) s4 := by
    refine compLoop_anyD (fun n s' => ∃ i H', Inv (X.blk s3 H3 scope ce fp) [] (wipe σ (own.map (·.2))) H' s' ∧ tn i s'.heap ∧ (∀ b ∈ fp, H' b = none) ∧ W i n H') ?_ m0 ⟨0, H3, I4, st4, nfp, w0⟩
    rintro n s5 ⟨i, H5, I5, st5, n5, w5⟩
    rcases turn i n H5 w5 with ⟨stop, qq⟩ | ⟨go, Nx, hNx, step⟩
    · have td := T.done (X.blk s3 H3 scope ce fp) rfl rfl rfl hc i [] s5 _ H5 (fun _ _ => False) I5 (stat I5 n5) st5 stop
      refine thnF td fun r s6 ⟨hr, I6⟩ => ?_
      subst hr
      have I7 : Inv X pins σ H5 s6 := I3.call' (ch := fp) I6.os I6.base I6.hok I6.bare fun b hb => ⟨(f3 b hb).1.2.2.2.1, (f3 b hb).1.2.1, (f3 b hb).1.2.2.2.2.1, (f3 b hb).1.2.2.2.2.2⟩
      have nC : H5 s3.heap.objs.size = none := by rw [← cL]; exact I6.free
      obtain ⟨m, hn, _⟩ := I6.loc
      have hn : s6.heap.Ns ce.locals m := hn
      rw [cL] at hn
      obtain ⟨f0, f1, f2', f3', f4, f5⟩ : FpOk X pins H5 s3.heap.objs.size := I3.fpOk (Nat.le_refl _) nC
      exact ⟨m, hn, fun h'' sb => ⟨.ref D, H5, I7.turned (t' := s6.toks) (fun b o hb e => (sb.2 b hb).trans e) f0 f1 f3' f4 f5, rfl, qq⟩⟩
    · have ti := T.item (X.blk s3 H3 scope ce fp) rfl rfl rfl hc i [] s5 _ H5 (fun _ _ => False) I5 (stat I5 n5) st5 go
      refine thnF ti fun r s6 ⟨u, hr, h6⟩ => ?_
      subst hr
      refine thnF h6 fun _ s7 ⟨x, H7, I7, r7, y7, st7, n7⟩ => ?_
      have I7' := I7.pinned (stat I7 n7) (T.obj _ _ st7)
      refine thnF (pg.run _ s7 _ H7 x u _ I7' r7 (step x H7 y7)) fun _ s8 ⟨σ8, H8, I8, hw8, q8⟩ => ?_
      refine thnF (pt.run _ s8 σ8 H8 _ I8 q8) fun b s9 ⟨H9, I9, q9⟩ => ?_
      have fin : ∀ {s' : Shared} {H' : Hp}, Inv (X.blk s3 H3 scope ce fp) ([] ++ pinsAt fp s7.heap) σ8 H' s' → Nx H' → ∃ m, m < n ∧ ∃ i H', Inv (X.blk s3 H3 scope ce fp) [] (wipe σ (own.map (·.2))) H' s' ∧ tn i s'.heap ∧ (∀ b ∈ fp, H' b = none) ∧ W i m H' := fun {s' H'} I' nx => by
        obtain ⟨m', hm, w'⟩ := hNx H' nx
        have pin' : ∀ b ∈ fp, ∀ o, s7.heap.get? b = some o → s'.heap.get? b = some o ∧ H' b = none := fun b hb o e =>
          let z := I'.pin (b, o) (List.mem_append_right _ (List.mem_append_right _ (mem_pinsAt hb e)))
          ⟨z.1, z.2.1⟩
        have hl : (wipe σ (own.map (·.2))).length = σ8.length := by rw [← hw8, wipe_length]
        refine ⟨m', hm, i + 1, H', (I'.unpinned (pins := [])).weak hl (fun j v e => ?_), T.keep _ _ _ st7 fun b hb o e => (pin' b hb o e).1, fun b hb => ?_, w'⟩
        · rw [← hw8] at e
          exact (wipe_some e).1
        · obtain ⟨o, e, _⟩ := T.obj _ _ st7 b hb
          exact (pin' b hb o e).2
      cases b with
      | false =>
        simp only [Bool.false_eq_true, if_false] at q9 ⊢
        exact fin I9 q9
      | true =>
        simp only [if_true] at q9 ⊢
        refine thnF (pk.run _ s9 σ8 H9 _ I9 q9) fun z s10 ⟨yk, H10, I10, r10, q10⟩ => ?_
        refine thnF (pe.run _ s10 σ8 H10 _ I10 q10) fun z2 s11 ⟨yv, H11, I11, r11, H12, dp, nx⟩ => ?_
        exact d_dictSetP (X := X.blk s3 H3 scope ce fp) hu I11 dp r10 r11 fun s12 I12 => fin I12 nx
  exact codeAny_compStart_dict loop (T.self X.A 0 _ _ _ st4 loop)
end
end DL
/-! dict comprehensions as words; while; chains; tuple * int; len of dicts; what nothing is said of -/
namespace DL
open PySem PySem.Spec L2
def dDcL (tg : DG) (t : DT) (fk fv : DE) (n : Nat) : List D → DEnv → Store → R D
  | [], _, S => .ok (.ref n) S
  | x :: xs, δ, S => match tg x δ S with
    | .ok δ1 S1 => (t δ1 S1).nox.bind fun b S2 => if b = true then (fk δ1 S2).nox.bind fun y S3 => (fv δ1 S3).nox.bind fun z S4 => (match dictPut S4 (.ref n) y z with
        | some S5 => dDcL tg t fk fv n xs δ S5
        | none => .bad) else dDcL tg t fk fv n xs δ S2
    | _ => .bad
def dDc (k : Bool) (fi : DA) (tg : DG) (t : DT) (fk fv : DE) (own : List Nat) : DE := fun δ S => (fi δ S).bind fun xs S1 => dDcL tg t fk fv S1.length xs (wipeD δ own) (S1 ++ [if k = true then .dT [] else .dK false []])
def DcAt (Ω : Wd) (W : WX) (ρ1 : List Addr) (H1 : Hp) (n : Nat) (p : Addr) (rest : Store → R D) (σ : L2.St) (Q : VK) (H : Hp) : Prop :=
  ∃ ρ' S', Step ρ1 H1 ρ' H ∧ Rel Ω ρ' H S' ∧ ρ'[n]? = some p ∧ LG Ω W (PVR Ω) (rest S') ρ' H σ Q
theorem Step.at {ρ ρ' : List Addr} {H H' : Hp} (s : Step ρ H ρ' H') {n : Nat} {a : Addr} (h : ρ[n]? = some a) : ρ'[n]? = some a := by
  obtain ⟨t, rfl⟩ := s.pre
  rw [List.getElem?_append_left (List.getElem?_eq_some_iff.mp h).1]; exact h
section
variable {X : Cx} {W : WX} {pos p apos cpos : Pos} {a b c e o : Expr} {es : List Expr} {fa fb fc fo fk fv : DE} {fs : DA} {f g : DS} {x : Str}
theorem je_dc (k : Bool) {kx vx tg iter : Expr} {ifs : List Expr} {scope : Scope} {own : List (Str × Nat)} {fi : DA} {gt : DG} {t : DT} (hu : X.A.units + 1 < cLine) (hc : X.calm = true) (hN : X.N.Nodup) (hi : JI X W tg iter fi) (ok : BlkOk X.N X.env.scope scope own)
    (hg : ∀ (s : Shared) (H : Hp) (C : Addr) (cl : List (Str × Addr)) (fp : List Addr), PG (X.blk s H scope (compEnvC scope cl C X.env) fp) tg (LTgw (om X) (own.map (·.2)) gt))
    (ht : ∀ (s : Shared) (H : Hp) (C : Addr) (cl : List (Str × Addr)) (fp : List Addr), PTs (X.blk s H scope (compEnvC scope cl C X.env) fp) ifs (LT (om X) W0 t))
    (hk : ∀ (s : Shared) (H : Hp) (C : Addr) (cl : List (Str × Addr)) (fp : List Addr), PE (X.blk s H scope (compEnvC scope cl C X.env) fp) kx (LE (om X) W0 fk))
    (he : ∀ (s : Shared) (H : Hp) (C : Addr) (cl : List (Str × Addr)) (fp : List Addr), PE (X.blk s H scope (compEnvC scope cl C X.env) fp) vx (LE (om X) W0 fv)) (hs : ∀ x, foldedSetIterable iter X.env x = pure x := by intro _; rfl) :
    JE X W (.DictComp kx vx [⟨tg, iter, ifs, 0⟩] scope pos) (dDc k fi gt t fk fv (own.map (·.2))) := by
  refine pe_imp (pe_dcG (t := k) hu hc hN hi ok hg ht hk he hs) fun σ H Q ⟨ρ, δ, S, r, rs, h⟩ => ?_
  refine ⟨ρ, δ, S, r, rs, LG.bind h fun ρ1 xs S1 J H1 s1 r1 wk q1 D hD => ?_⟩
  have rsw : RelS X.K ρ1 H1 (wipeD δ (own.map (·.2))) (wipe σ (own.map (·.2))) := (r.rs s1 rs).wipe _
  have st0 : Step ρ1 H1 (ρ1 ++ [D]) (upd H1 D (dic0 k)) := .alloc hD
  have rl0 : Rel (om X) (ρ1 ++ [D]) (upd H1 D (dic0 k)) (S1 ++ [if k = true then .dT [] else .dK false []]) := by
    cases k with
    | false => exact r1.alloc (x := .dK false []) hD ⟨[], rfl, fun _ => upd_same, fun q => by cases q⟩
    | true => exact r1.alloc (x := .dT []) hD ⟨[], rfl, upd_same⟩
  refine ⟨fun i m Hc => m = xs.length - i ∧ i ≤ xs.length ∧ DcAt (om X) W ρ1 H1 S1.length D (dDcL gt t fk fv S1.length (xs.drop i) (wipeD δ (own.map (·.2)))) σ Q Hc, ⟨xs.length, by simp, Nat.zero_le _, ρ1 ++ [D], _, st0, rl0, by rw [← r1.len]; simp, LG.shift st0 q1⟩, ?_⟩
  rintro i m Hc ⟨rfl, hi, ρ', S', st, rl, hn, q⟩
  by_cases hlt : i < xs.length
  · refine .inr ⟨wk.go i ρ' Hc Hc st (fun _ _ q => q) hlt, fun H' => i + 1 ≤ xs.length ∧ DcAt (om X) W ρ1 H1 S1.length D (dDcL gt t fk fv S1.length (xs.drop (i + 1)) (wipeD δ (own.map (·.2)))) σ Q H', fun H' z => ⟨xs.length - (i + 1), by omega, rfl, z⟩, fun x H'' y => ?_⟩
    obtain ⟨G, sG, rG, vG, eG, _⟩ := wk.yld i xs[i] x ρ' Hc Hc H'' S' st rl (fun _ _ q => q) (List.getElem?_eq_getElem hlt) y
    obtain rfl : G = H'' := funext fun a => eG a rfl
    rw [List.drop_eq_getElem_cons hlt] at q
    have q0 : LG (om X) W (PVR (om X)) (dDcL gt t fk fv S1.length (xs[i] :: xs.drop (i + 1)) (wipeD δ (own.map (·.2))) S') ρ' G σ Q := LG.shift sG q
    refine ⟨ρ', wipeD δ (own.map (·.2)), S', xs[i], rG, rl.rs sG (r1.rs st rsw), vG, ?_⟩
    unfold dDcL at q0
    cases e1 : gt xs[i] (wipeD δ (own.map (·.2))) S' with
    | exc a b => rw [e1] at q0; exact q0.elim
    | bad => rw [e1] at q0; exact q0.elim
    | ok δ1 S2 =>
      rw [e1] at q0
      refine fun ρ2 σ2 H2 s2 r2 rs2 ew => ⟨by rw [ew, wipe_wipe], ρ2, δ1, S2, r2, rs2, ?_⟩
      have q1 : LG (om X) W (PVR (om X)) ((t δ1 S2).nox.bind fun b S2 => if b = true then (fk δ1 S2).nox.bind fun y S3 => (fv δ1 S3).nox.bind fun z S4 => (match dictPut S4 (.ref S1.length) y z with
        | some S5 => dDcL gt t fk fv S1.length (xs.drop (i + 1)) (wipeD δ (own.map (·.2))) S5
        | none => .bad) else dDcL gt t fk fv S1.length (xs.drop (i + 1)) (wipeD δ (own.map (·.2))) S2) ρ2 H2 σ Q := LG.shift s2 q0
      cases e2 : t δ1 S2 with
      | exc a b => rw [e2] at q1; exact q1.elim
      | bad => rw [e2] at q1; exact q1.elim
      | ok kk S3 =>
        rw [e2] at q1
        refine fun ρ3 b H3 s3 r3 eb => ?_
        cases eb
        have q2 := LG.shift s3 q1
        have st3 : Step ρ1 H1 ρ3 H3 := ((st.trans sG).trans s2).trans s3
        have hn3 : ρ3[S1.length]? = some D := ((sG.trans s2).trans s3).at hn
        cases kk with
        | false =>
          rw [if_neg (by intro z; cases z)]
          exact ⟨hlt, ρ3, S3, st3, r3, hn3, q2⟩
        | true =>
          rw [if_pos rfl]
          have q3 : LG (om X) W (PVR (om X)) ((fk δ1 S3).nox.bind fun y S3 => (fv δ1 S3).nox.bind fun z S4 => (match dictPut S4 (.ref S1.length) y z with
            | some S5 => dDcL gt t fk fv S1.length (xs.drop (i + 1)) (wipeD δ (own.map (·.2))) S5
            | none => .bad)) ρ3 H3 σ Q := q2
          refine LE.nox r3 (r2.rs s3 rs2) q3 fun ρ4 y S4 v H4 s4 r4 p4 q4 => ?_
          refine LE.nox r4 (r3.rs s4 (r2.rs s3 rs2)) q4 fun ρ5 z S5 u H5 s5 r5 p5 q5 => ?_
          have hn5 : ρ5[S1.length]? = some D := (s4.trans s5).at hn3
          cases e5 : dictPut S5 (.ref S1.length) y z with
          | none => rw [e5] at q5; exact q5.elim
          | some S6 =>
            rw [e5] at q5
            obtain ⟨a, H6, ea, dp, s6, r6⟩ := dictPut_ok r5 (d := .ref S1.length) (v := .ref D) ⟨D, hn5, rfl⟩ (r4.vr s5 p4) p5 e5
            cases ea
            exact ⟨H6, dp, hlt, ρ5, S6, ((st3.trans s4).trans s5).trans s6, r6, hn5, LG.shift s6 q5⟩
  · have e : i = xs.length := by omega
    subst e
    rw [List.drop_length] at q
    exact .inl ⟨wk.stop ρ' Hc Hc st (fun _ _ q => q), q ρ' (.ref D) Hc .refl rl ⟨D, hn, rfl⟩⟩
/-! ### while -/
def dWhile (t : DT) (b : DS) : Nat → DS
  | 0, _, _ => .bad
  | n + 1, δ, S => (t δ S).thenF δ fun k S1 => if k = true then (b δ S1).turn fun δ2 S2 => dWhile t b n δ2 S2 else .nx δ S1
theorem js_while (n : Nat) {t : DT} {body : List Stmt} (hp : PassesOwn (model X.prog X.w) X.A X.env X.xe) (hc : JT X W c t) (hb : JSs X W body f) : JS X W (.While c body [] pos) (dWhile t f n) :=
  ps_imp (ps_while hp hc hb) fun E σ H ⟨ρ, δ, S, r, rs, h⟩ => by
    refine ⟨fun m σ H => ∃ ρ δ S, Rel (om X) ρ H S ∧ RelS X.K ρ H δ σ ∧ LF (om X) W (dWhile t f m δ S) ρ H E, ⟨n, ρ, δ, S, r, rs, h⟩, ?_⟩
    rintro m σ1 H1 ⟨ρ1, δ1, S1, r1, rs1, h1⟩
    cases m with
    | zero => exact h1.elim
    | succ m =>
      refine ⟨ρ1, δ1, S1, r1, rs1, LF.of r1 rs1 h1 fun ρ2 d S2 v H2 s2 r2 p2 rs2 h2 => ?_⟩
      cases p2
      cases d with
      | false => exact h2 ρ2 σ1 H2 .refl r2 rs2
      | true =>
        rw [if_pos rfl]
        exact ⟨fun σ' H' => ∃ ρ δ S, Rel (om X) ρ H' S ∧ RelS X.K ρ H' δ σ' ∧ LF (om X) W (dWhile t f m δ S) ρ H' E, fun σ' H' q => ⟨m, Nat.lt_succ_self _, q⟩,
          ρ2, δ1, S2, r2, rs2, LF.turn' h2 fun ρ' σ' H' δ' S' s' r' rs' h' => ⟨ρ', δ', S', r', rs', h'⟩⟩
/-! ### a < b < c -/
def dChain (g g' : D → D → Store → R D) (fa fb fc : DE) : DE := fun δ S => (fa δ S).bind fun x S1 => (fb δ S1).bind fun y S2 => (g x y S2).bind fun z S3 => match z with
  | .bl k => if k = true then (fc δ S3).bind fun u S4 => g' y u S4 else .ok (.bl false) S3
  | _ => .bad
theorem LE.chain {g g' : D → D → Store → R D} {r r' : R2} (hs : OpS X W g r) (hs' : OpS X W g' r') {σ : L2.St} {H : Hp} {Q : VK} (h : LE (om X) W (dChain g g' fa fb fc) σ H Q) : tChain r r' (LE (om X) W fa) (LE (om X) W fb) (LE (om X) W fc) σ H Q := by
  obtain ⟨ρ, δ, S, rl, rs, h⟩ := h
  refine ⟨ρ, δ, S, rl, rs, LG.bind h fun ρ1 x S1 v H1 s1 r1 p1 q1 => ?_⟩
  refine ⟨ρ1, δ, S1, r1, rl.rs s1 rs, LG.bind q1 fun ρ2 y S2 u H2 s2 r2 p2 q2 => ?_⟩
  refine hs ρ2 H2 S2 σ _ x y v u r2 (r1.vr s2 p1) p2 (LG.bind q2 fun ρ3 z S3 w H3 s3 r3 p3 q3 => ?_)
  cases z with
  | bl k =>
    cases p3
    refine ⟨k, rfl, ?_⟩
    replace q3 : LG (om X) W (PVR (om X)) (if k = true then (fc δ S3).bind fun u S4 => g' y u S4 else .ok (.bl false) S3) ρ3 H3 σ Q := q3
    cases k with
    | false => exact q3 ρ3 _ H3 .refl r3 rfl
    | true =>
      exact ⟨ρ3, δ, S3, r3, r2.rs s3 (r1.rs s2 (rl.rs s1 rs)), LG.bind q3 fun ρ4 t S4 w4 H4 s4 r4 p4 q4 => hs' ρ4 H4 S4 σ Q y t u w4 r4 (r2.vr (s3.trans s4) p2) p4 q4⟩
  | _ => exact q3.elim
theorem je_chain {op op' : CmpOp} {g g' : D → D → Store → R D} {r r' : R2} (ho : OpR X (compareOp op) r) (ho' : OpR X (compareOp op') r') (hs : OpS X W g r) (hs' : OpS X W g' r') (ha : JE X W a fa) (hb : JE X W b fb) (hc : JE X W c fc)
    (hm : lastMarks [op, op'] [b, c] = false := by with_unfolding_all rfl) : JE X W (.Compare a [op, op'] [b, c] pos) (dChain g g' fa fb fc) := pe_imp (pe_chain ho ho' ha hb hc hm) fun σ H Q h => LE.chain hs hs' h
theorem je_lele (ha : JE X W a fa) (hb : JE X W b fb) (hc : JE X W c fc) (hm : lastMarks [.LtE, .LtE] [b, c] = false := by with_unfolding_all rfl) : JE X W (.Compare a [.LtE, .LtE] [b, c] pos) (dChain gLe gLe fa fb fc) :=
  je_chain op_le op_le (opS_I0 fun _ _ _ _ _ => rfl) (opS_I0 fun _ _ _ _ _ => rfl) ha hb hc hm
theorem je_ltle (ha : JE X W a fa) (hb : JE X W b fb) (hc : JE X W c fc) (hm : lastMarks [.Lt, .LtE] [b, c] = false := by with_unfolding_all rfl) : JE X W (.Compare a [.Lt, .LtE] [b, c] pos) (dChain gLt gLe fa fb fc) :=
  je_chain op_lt op_le (opS_I0 fun _ _ _ _ _ => rfl) (opS_I0 fun _ _ _ _ _ => rfl) ha hb hc hm
end
end DL
/-! tests of dicts and chains; len of dicts; tuple * int; dict(D) of a written dict; what nothing is said of -/
namespace L2
open PySem PySem.Spec PyProof.Rows
theorem tuple_mul1 (l : Addr) (items : Array Value) (n : Nat) (dd : Option Addr) (sl : Array (Option Value)) (u : Tok) :
    Meets (Builtin.«tuple.__mul__» ⟨[.ref l, .int 1 u], []⟩) (fun _ R s => s.heap.get? l = some { cls := .type "tuple", dict := dd, data := .seq items n, slots := sl } ∧ R (.ok (.ret (Value.ref l))) s) :=
  .of_wp fun prog w A R s h => by
    obtain ⟨hp, g, d, tk, os⟩ := s
    obtain ⟨hl, h⟩ := h
    have f1 := AutoSeq1.idx_int
    have c0 : (decide ((1 : Int) < -(2 ^ 63)) || decide ((1 : Int) ≥ 2 ^ 63)) = false := by decide
    have c1 : (items.isEmpty || (1 : Int) == 1) = true := by cases items.isEmpty <;> rfl
    wp_walk using AutoSeq1.wpAny_loadPart' hl
    repeat (first
      | (refine wpAny_ite_false (decide_eq_false (by rw [c0]; exact Bool.false_ne_true)) ?_; wp_walk using AutoSeq1.wpAny_loadPart' hl)
      | (refine wpAny_ite_true (decide_eq_true c1) ?_; wp_walk using AutoSeq1.wpAny_loadPart' hl))
    exact ⟨_, rfl, h⟩
def rRepT1 (K : PySem.W.Frag) : R2 := fun x y H Q => ∃ l xs, x = .ref l ∧ y = .int 1 ∧ SqT K H l xs ∧ Q (.ref l) H
theorem op_repT1 {X : Cx} : OpR X (binaryOp .Mult) (rRepT1 X.K) := by
  intro pins s σ H x y v u Q I rx ry h
  obtain ⟨l, xs, rfl, rfl, hT, q⟩ := h
  cases rx
  obtain ⟨t, rfl⟩ := ry
  obtain ⟨its, r, ⟨⟨cls, dd, data, sl⟩, ho, hc, n, hd⟩, hs⟩ := I.tuple hT
  simp only at hc hd
  subst hc hd
  exact wpAny_binaryOp_repeat_ref (T := "tuple") (U := "int") (by decide) ⟨_, ho, rfl⟩ (fun s' => typeIs_int s' 1 t) noFill_tuple_mul F.fills_int_mul F.slot_int_rmul repeat_tuple F.slot_int_index.lookup
    (call_meets F.slot_int_rmul (typeIs_int s 1 t) F.entry_int_rmul (F.args_int_rmul_2 _ _) (int_rmul_tuple 1 t l its.toArray n dd sl)
      ⟨ho, rfl, ⟨_, ho, rfl⟩, call_meets F.slot_tuple_mul ⟨_, ho, rfl⟩ F.entry_tuple_mul (F.args_tuple_mul_2 _ _) (tuple_mul1 l its.toArray n dd sl t) ⟨ho, .ref l, H, I, rfl, q⟩⟩)
end L2
namespace DL
open PySem PySem.Spec L2
theorem VRs.flat {K : PySem.W.Frag} {ρ : List Addr} {H : Hp} {ds : List D} {vs : List V} (h : VRs K ρ H ds vs) : ∀ n : Nat, VRs K ρ H (List.replicate n ds).flatten (List.replicate n vs).flatten
  | 0 => rfl
  | n + 1 => by rw [List.replicate_succ, List.replicate_succ, List.flatten_cons, List.flatten_cons]; exact h.append (VRs.flat h n)
section
variable {X : Cx} {W : WX} {pos p p2 apos cpos : Pos} {a b c e o : Expr} {es : List Expr} {fa fb fc fo fi : DE} {fs : DA} {f g : DS} {x : Str} {st : Stmt}
/-! ### tuple * int -/
def gRepT : D → D → Store → R D := fun x y S => match x, y with
  | .tup ds, .int k => if k = 1 then .ok x S else if decide (ds ≠ [] ∧ 2 ≤ k ∧ k ≤ 1000 ∧ ds.length ≤ 1000) = true then .ok (.tup (List.replicate k.toNat ds).flatten) S else .bad
  | _, _ => .bad
theorem opS_repT : OpS X W gRepT (fun x y H Q => rRepT1 X.K x y H Q ∨ rRepT X.K x y H Q) := by
  intro ρ H S σ Q x y v u r hx hy h
  cases x with
  | tup ds =>
    cases y with
    | int k =>
      cases hy
      obtain ⟨l, vs, rfl, hl, hvs⟩ := hx
      replace h : LG (om X) W (PVR (om X)) (if k = 1 then R.ok (.tup ds) S else if decide (ds ≠ [] ∧ 2 ≤ k ∧ k ≤ 1000 ∧ ds.length ≤ 1000) = true then .ok (.tup (List.replicate k.toNat ds).flatten) S else .bad) ρ H σ Q := h
      by_cases h1 : k = 1
      · subst h1
        rw [if_pos rfl] at h
        exact .inl ⟨l, vs, rfl, rfl, .of hl, h ρ _ H .refl r ⟨l, vs, rfl, hl, hvs⟩⟩
      · rw [if_neg h1] at h
        by_cases h2 : decide (ds ≠ [] ∧ 2 ≤ k ∧ k ≤ 1000 ∧ ds.length ≤ 1000) = true
        · rw [if_pos h2] at h
          obtain ⟨n0, n1, n2, n3⟩ := of_decide_eq_true h2
          refine .inr ⟨l, k, vs, rfl, rfl, .of hl, fun z => n0 (List.eq_nil_of_length_eq_zero (by rw [hvs.len, z]; rfl)), n1, n2, by rw [← hvs.len]; exact n3, fun p hp => h ρ _ _ (.fresh hp) (r.fresh hp) ⟨p, _, rfl, upd_same, ?_⟩⟩
          exact r.vrs (.fresh hp) (hvs.flat k.toNat)
        · rw [if_neg h2] at h; exact h.elim
    | _ => exact h.elim
  | _ => exact h.elim
theorem je_repT (ha : JE X W a fa) (hb : JE X W b fb) : JE X W (.BinOp a .Mult b pos) (dOp gRepT fa fb) := je_op (op_repT1.or op_repT) opS_repT ha hb
/-! ### len of a dict -/
def gLenD : DM := fun xs S => match xs with
  | [.ref n] => (match S[n]? with
    | some (.dK false kvs) => .ok (.int kvs.length) S
    | some (.dT kvs) => .ok (.int kvs.length) S
    | _ => .bad)
  | _ => .bad
theorem callR_lenD : CallR X (.builtin "len") (fun xs H Q => (∃ a kvs, xs = [V.ref a] ∧ H a = some (.dK kvs) ∧ Q (.int kvs.length) H) ∨ rLenT xs H Q) := CallR.or (by
  intro pins s σ H xs us Q I r h
  obtain ⟨a, kvs, rfl, ha, q⟩ := h
  obtain ⟨u, rfl, ru⟩ := vals1 r
  cases ru
  exact d_len I (.inl ha) fun t s' I' => ⟨.int kvs.length, H, I', ⟨t, rfl⟩, q⟩) call_len_dT
theorem callS_lenD : CallS X W gLenD (fun xs H Q => (∃ a kvs, xs = [V.ref a] ∧ H a = some (.dK kvs) ∧ Q (.int kvs.length) H) ∨ rLenT xs H Q) := by
  intro ρ H S σ Q xs vs r hx h
  unfold gLenD at h
  split at h
  · rename_i n
    obtain ⟨v, rfl, a, h1, rfl⟩ := vrs1 hx
    split at h
    · rename_i kvs hS
      have ob : OR (om X) ρ H a (.dK false kvs) := r.ob n a _ h1 hS
      obtain ⟨kv, hk, g1, _⟩ := ob
      exact .inl ⟨a, kv, rfl, g1 rfl, h ρ _ H .refl r (by show V.int _ = V.int _; rw [hk.len])⟩
    · rename_i kvs hS
      have ob : OR (om X) ρ H a (.dT kvs) := r.ob n a _ h1 hS
      obtain ⟨kv, hk, g1⟩ := ob
      exact .inr ⟨a, kv, rfl, g1, h ρ _ H .refl r (by show V.int _ = V.int _; rw [hk.len])⟩
    · exact h.elim
  · exact h.elim
theorem je_lenD (hm : X.mg "len" = none) (ha : JA X W (e :: es) fs) (he : starEach (e :: es) X.env = (false, eval e X.env) :: starEach es X.env := by rfl) (hpl : (backTo pos (starEach es X.env)).any (·.1) = false := by rfl) (hg : Gl X "len" := by rfl) :
    JE X W (.Call (.Name "len" p) (e :: es) [] pos) (dCall gLenD fs) := je_callB callR_lenD callS_lenD hg hm boot_len ha (by decide) (by decide) he hpl
/-! ### tests -/
theorem jt_din (hu : X.A.units + 1 < cLine) (hi : JE X W e fi) (ho : JE X W o fo) (hm : behindInMarks .In o = false := by first | exact nobehind _ (by decide) (by decide) | rfl) : JT X W (.Compare e [.In] [o] pos) (dTest (dDIn false fi fo)) :=
  pt_imp (pt_cmp (pc_jdin hu hi ho) hm) fun σ H Q h => LT.test (fun σ H Q h => h) h
theorem jt_dnin (hu : X.A.units + 1 < cLine) (hi : JE X W e fi) (ho : JE X W o fo) (hm : behindInMarks .NotIn o = false := by first | exact nobehind _ (by decide) (by decide) | rfl) : JT X W (.Compare e [.NotIn] [o] pos) (dTest (dDIn true fi fo)) :=
  pt_imp (pt_cmp (pc_jdnin hu hi ho) hm) fun σ H Q h => LT.test (fun σ H Q h => h) h
theorem jt_lele (ha : JE X W a fa) (hb : JE X W b fb) (hc : JE X W c fc) (hm : lastMarks [.LtE, .LtE] [b, c] = false := by with_unfolding_all rfl) : JT X W (.Compare a [.LtE, .LtE] [b, c] pos) (dTest (dChain gLe gLe fa fb fc)) :=
  pt_imp (pt_chain op_le op_le ha hb hc hm) fun σ H Q h => LT.test (fun σ H Q h => LE.chain (g := gLe) (g' := gLe) (opS_I0 fun _ _ _ _ _ => rfl) (opS_I0 fun _ _ _ _ _ => rfl) h) h
theorem jt_ltle (ha : JE X W a fa) (hb : JE X W b fb) (hc : JE X W c fc) (hm : lastMarks [.Lt, .LtE] [b, c] = false := by with_unfolding_all rfl) : JT X W (.Compare a [.Lt, .LtE] [b, c] pos) (dTest (dChain gLt gLe fa fb fc)) :=
  pt_imp (pt_chain op_lt op_le ha hb hc hm) fun σ H Q h => LT.test (fun σ H Q h => LE.chain (g := gLt) (g' := gLe) (opS_I0 fun _ _ _ _ _ => rfl) (opS_I0 fun _ _ _ _ _ => rfl) h) h
/-! ### nothing is said -/
def dBad : DE := fun _ _ => .bad
def tBad : DT := fun _ _ => .bad
def sBad : DS := fun _ _ => .bad
theorem je_bad : JE X W e dBad := ⟨fun pins s σ H Q I ⟨_, _, _, _, _, h⟩ => h.elim⟩
theorem jt_bad : JT X W e tBad := ⟨fun pins s σ H Q I ⟨_, _, _, _, _, h⟩ => h.elim⟩
theorem js_bad : JS X W st sBad := ⟨fun pins s σ H D I ⟨_, _, _, _, _, h⟩ => h.elim⟩
/-! ### dict(D), D a written dict: what comes of it is not told -/
/-- x is a written dict with the keys ks -/
structure DicW (K : PySem.W.Frag) (mg : Str → Option Value) (w : World) (x : Str) (a : Addr) (es : Array DictEntry) (n : Nat) (ks : List Str) : Prop where
  g : mg x = some (.ref a)
  k : K.lookup a = some ⟨.type "dict", none, .dict es n, #[]⟩
  l : (a == sysModules) = false
  keys : es.toList.map He.keyOf = He.keysIn w.params ks
  nd : ks.Nodup
  z : ks.length ≤ 1000
theorem pairs_keys {P : Program} {w : World} : ∀ {l : List DictEntry} {ks : List Str}, l.map He.keyOf = He.keysIn w.params ks → Pairs (strKind P w) l (ks.zip (l.map (·.val))) ∧ (∀ e ∈ l, ∃ k, (strKind P w).is k e.key = true ∧ e.hash = (strKind P w).hash k) ∧ (ks.zip (l.map (·.val))).map (·.1) = ks
  | [], [], _ => ⟨.nil, fun _ h => (nomatch h), rfl⟩
  | [], _ :: _, h => by cases h
  | _ :: _, [], h => by cases h
  | e :: l, k :: ks, h => by
    have h1 : He.keyOf e :: l.map He.keyOf = some (k, PyData.keyHash w.params k) :: He.keysIn w.params ks := h
    injection h1 with h2 h3
    obtain ⟨i1, i2, i3⟩ := pairs_keys (P := P) h3
    have key : (strKind P w).is k e.key = true ∧ e.hash = (strKind P w).hash k := by
      unfold He.keyOf at h2
      split at h2
      · rename_i x t q
        have h4 := Option.some.inj h2
        obtain ⟨h5, h6⟩ := Prod.mk.inj h4
        subst h5
        rw [q]
        exact ⟨strKind_is P w x t, h6⟩
      · cases h2
    refine ⟨.cons key.1 rfl i1, fun d hd => ?_, ?_⟩
    · rcases List.mem_cons.mp hd with rfl | hd
      · exact ⟨k, key⟩
      · exact i2 d hd
    · show k :: (ks.zip (l.map (·.val))).map (·.1) = _
      rw [i3]
theorem DicW.dictOf {P : Program} {K : PySem.W.Frag} {mg : Str → Option Value} {w : World} {h : Heap} {x : Str} {a : Addr} {es : Array DictEntry} {n : Nat} {ks : List Str} (T : DicW K mg w x a es n ks) (k : K.In h) : h.DictOf (strKind P w) a (ks.zip (es.toList.map (·.val))) := by
  obtain ⟨h1, h2, h3⟩ := pairs_keys (P := P) T.keys
  exact ⟨_, es, n, k _ _ T.k, ⟨rfl, rfl, rfl⟩, rfl, fun e he => h2 e (Array.mem_toList_iff.mpr he), h1, by rw [h3]; exact T.nd⟩
theorem je_dictW {d : Str} {ad : Addr} {n : Nat} {dEs : Array DictEntry} {ks : List Str} (T : DicW X.K X.mg X.w d ad dEs n ks) (hm : X.mg "dict" = none) (hg : Gl X "dict" := by rfl) (hgd : Gl X d := by rfl) (hdb : (d == ("__debug__" : Str)) = false := by decide)
    (he : starEach [.Name d p2] X.env = (false, eval (.Name d p2) X.env) :: starEach [] X.env := by rfl) (hpl : (backTo pos (starEach [] X.env)).any (·.1) = false := by rfl) :
    JE X W (.Call (.Name "dict" p) [.Name d p2] [] pos) (dC .opq) := by
  have hc : CallR X (.type "dict") (fun xs H Q => xs = [V.ref ad] ∧ ∀ q, Q (.ref q) H) := by
    intro pins s σ H xs us Q I r h
    obtain ⟨rfl, q⟩ := h
    obtain ⟨u, rfl, ru⟩ := vals1 r
    cases ru
    have hz : (ks.zip (dEs.toList.map (·.val))).length ≤ sizeLine := by
      have : (ks.zip (dEs.toList.map (·.val))).length ≤ ks.length := by rw [List.length_zip]; exact Nat.min_le_left _ _
      have := T.z
      rw [sizeLine_eq]; omega
    refine kt_call_dict T.l (T.dictOf (P := X.prog) I.kIn) hz fun h' dd hs => ⟨.ref s.heap.objs.size, H, I.kept (t' := s.toks) fun b o e => ?_, rfl, q _⟩
    exact (hs.2 b (Nat.ne_of_lt (Heap.lt_size e))).trans (Heap.get?_push_of_some _ e)
  exact pe_imp (pe_callTy hc hg hm (by decide +kernel) (pa_cons (pe_glob (v := .ref ad) hgd T.g rfl hdb) pa_nil he) (by decide) (by decide) he hpl) fun σ H Q ⟨ρ, δ, S, r, rs, h⟩ => ⟨rfl, fun q => h ρ (.ref q) H .refl r trivial⟩
end
end DL
/-! list comprehensions over a range while an exception is handled: written after HandS.Comp's lc_core, with HandS.HotCalls' turns -/
namespace DL
open PySem PySem.Spec L2 PyProof.Rows
abbrev blkH (X : Cx) (s : Shared) (H : Hp) (scope : Scope) (cenv : Env) (fp : List Addr) : Cx := { X.blk s H scope cenv fp with pn := X.pn }
theorem inv_blkH {X : Cx} {pins : List (Addr × Obj)} {σ σ' : L2.St} {H : Hp} {s s' : Shared} {scope : Scope} {ce : Env} {fp : List Addr} (I : Inv X pins σ H s) (J : Inv (X.blk s H scope ce fp) [] σ' H s') (hl : s.heap.objs.size ≤ ce.locals) (hk : ∀ b o, s.heap.get? b = some o → s'.heap.get? b = some o) :
    Inv (blkH X s H scope ce fp) [] σ' H s' := by
  have k := J.ok
  refine ⟨⟨k.mod, k.kind, k.glob, k.blt, k.above, k.inj, k.has, k.cab, k.hd, k.frames, k.stk, k.exf, k.bs, k.bsz, k.noex, k.exfs, k.funs, k.frf⟩, J.os, J.bare, J.base, J.loc, J.cell, J.free, J.freeC, fun q hq => ?_, J.hok, J.len⟩
  have hq' : q ∈ X.pn ++ pins := by
    have : q ∈ X.pn := by simpa using (show q ∈ X.pn ++ ([] : List (Addr × Obj)) from hq)
    exact List.mem_append_left _ this
  obtain ⟨h1, h2, h3, h4, h5⟩ := I.pin q hq'
  have hlt : q.1 < s.heap.objs.size := Heap.lt_size h1
  exact ⟨hk _ _ h1, h2, Nat.ne_of_lt (Nat.lt_of_lt_of_le hlt hl), fun hm => (List.mem_cons.mp (I.stkSub q.1 hm)).elim h3 h4, h5⟩
section
variable {X : Cx}
theorem pe_lcH {elt tg iter : Expr} {ifs : List Expr} {scope : Scope} {own : List (Str × Nat)} {pos : Pos} {wi : TI} {g : TG} {tt : TT} {te : TE} (hc : L2H.HotC X) (hN : X.N.Nodup) (hi : L2H.PIH X tg iter wi) (ok : BlkOk X.N X.env.scope scope own)
    (hg : ∀ (s : Shared) (H : Hp) (C : Addr) (cl : List (Str × Addr)) (fp : List Addr), PG (blkH X s H scope (compEnvC scope cl C X.env) fp) tg g) (ht : ∀ (s : Shared) (H : Hp) (C : Addr) (cl : List (Str × Addr)) (fp : List Addr), PTs (blkH X s H scope (compEnvC scope cl C X.env) fp) ifs tt)
    (he : ∀ (s : Shared) (H : Hp) (C : Addr) (cl : List (Str × Addr)) (fp : List Addr), PE (blkH X s H scope (compEnvC scope cl C X.env) fp) elt te) (hs : ∀ x, foldedSetIterable iter X.env x = pure x := by intro _; rfl) :
    PE X (.ListComp elt [⟨tg, iter, ifs, 0⟩] scope pos) (tLc wi g tt te (own.map (·.2))) := by
  refine ⟨fun pins s σ H Q I h => ?_⟩
  rw [eval_ListComp]
  have hfree : ∀ y ∈ scope.names, y.2 = .free → ∃ c, X.env.cells.lookup y.1 = some c := fun y hy e => by
    rcases ok.free y hy e with k | k
    · exact I.ok.has _ (.inl k)
    · exact I.ok.has _ (.inr k)
  refine wpAny_comprehension_free rfl hs (closure_ok hfree) ok.kind (fun y hy e => by rw [ok.uniq y hy, e]) (thn (hi.run pins s σ H _ I h) fun xv s1 hx => thn hx fun itv s2 h2 => ?_)
  obtain ⟨it, fp, tn, J, H2, e, I2, T, st2, f2, q⟩ := h2
  subst e
  refine wpAny_newObj_type (newEnv_comp ?_) (by show 0 ≤ sizeLine; decide)
  generalize hD : s2.heap.objs.size = D
  have hDn : H2 D = none := I2.hok.fresh (Nat.le_of_eq hD)
  obtain ⟨W, ⟨m0, w0⟩, turn⟩ := q D hDn
  generalize hs3 : ({ s2 with heap := s2.heap.push { cls := .type "list", data := .seq ([] : List Value).toArray } } : Shared) = s3
  have h3 : s3.heap = s2.heap.push { cls := .type "list", data := .seq ([] : List Value).toArray } := by rw [← hs3]
  generalize hH3 : upd H2 D (.lst []) = H3 at w0
  have I3 : Inv X pins σ H3 s3 := by
    rw [← hs3, ← hH3]
    refine I2.laid (t' := s2.toks) (fun b o e => Heap.get?_push_of_some _ e) (Nat.le_of_eq hD) ⟨Nat.zero_le _, [], 0, .nil, ?_⟩
    rw [← hD]
    exact Heap.get?_push_size _ rfl
  have f3 : ∀ b ∈ fp, FpOk X pins H3 b ∧ b < s3.heap.objs.size := fun b hb => by
    obtain ⟨o, e, _⟩ := T.obj _ _ st2 b hb
    have hlt : b < s2.heap.objs.size := Heap.lt_size e
    refine ⟨⟨?_, (f2 b hb).2⟩, by rw [h3, Heap.size_push]; exact Nat.lt_succ_of_lt hlt⟩
    rw [← hH3, upd_ne (by rw [← hD]; exact Nat.ne_of_lt hlt)]
    exact (f2 b hb).1
  have st3 : tn 0 s3.heap := T.keep _ _ _ st2 fun b _ o e => by rw [h3]; exact Heap.get?_push_of_some _ e
  have I4' := block_start I3 ok hN f3
  have nfp : ∀ b ∈ fp, H3 b = none := fun b hb => (f3 b hb).1.1
  show codeAny _ _ (.compStart (.ListComp elt [⟨tg, iter, ifs, 0⟩] scope pos) 0 (.ref it) (.ref D) (compEnvC scope (cellsFrom (s3.heap.objs.size + 1) scope.names (cloFrom X.env.cells scope.names [])) s3.heap.objs.size X.env)) (compPost (model X.prog X.w) X.A X.xe none (EP X pins σ Q) (.ref D) s3.heap.objs.size) { s3 with heap := pushCells (s3.heap.push { cls := .type "dict", data := .dict #[] }) scope.names }
  generalize hcl : cellsFrom (s3.heap.objs.size + 1) scope.names (cloFrom X.env.cells scope.names []) = cl at I4' ⊢
  have pg := hg s3 H3 s3.heap.objs.size cl fp
  have pt := ht s3 H3 s3.heap.objs.size cl fp
  have pe := he s3 H3 s3.heap.objs.size cl fp
  generalize hce : compEnvC scope cl s3.heap.objs.size X.env = ce at I4' pg pt pe ⊢
  have cL : ce.locals = s3.heap.objs.size := by subst hce; rfl
  generalize hs4 : ({ s3 with heap := pushCells (s3.heap.push { cls := .type "dict", data := .dict #[] }) scope.names } : Shared) = s4 at I4' ⊢
  have k34 : ∀ b o, s3.heap.get? b = some o → s4.heap.get? b = some o := fun b o e => by rw [← hs4]; exact pushCells_keeps _ _ _ _ (Heap.get?_push_of_some _ e)
  have I4 : Inv (blkH X s3 H3 scope ce fp) [] (wipe σ (own.map (·.2))) H3 s4 := inv_blkH I3 I4' (Nat.le_of_eq cL.symm) k34
  have hc' : L2H.HotC (blkH X s3 H3 scope ce fp) := hc
  have st4 : tn 0 s4.heap := T.keep _ _ _ st3 fun b _ o e => k34 b o e
  have stat : ∀ {σ' : L2.St} {H' : Hp} {s' : Shared}, Inv (blkH X s3 H3 scope ce fp) [] σ' H' s' → (∀ b ∈ fp, H' b = none) → ∀ b ∈ fp, FpOk (blkH X s3 H3 scope ce fp) [] H' b := fun {σ' H' s'} I' hn b hb =>
    ⟨hn b hb, (I'.ok.exf b hb).1, I'.ok.exfs b hb, .inl hb, fun x c e => (I'.ok.exf b hb).2 x c e, fun p hp => (f3 b hb).1.2.2.2.2.2 p (by
      have : p ∈ X.pn := by simpa using (show p ∈ X.pn ++ ([] : List (Addr × Obj)) from hp)
      exact List.mem_append_left _ this)⟩
  have loop : codeAny (model X.prog X.w) X.A (.compLoop (.ListComp elt [⟨tg, iter, ifs, 0⟩] scope pos) 0 (.ref it) (.ref D) ce) (compPost (model X.prog X.w) X.A X.xe none (EP X pins σ Q) (.ref D) s3.heap.objs.size) s4 := by
    refine compLoop_any (fun n s' => ∃ i H', Inv (blkH X s3 H3 scope ce fp) [] (wipe σ (own.map (·.2))) H' s' ∧ tn i s'.heap ∧ (∀ b ∈ fp, H' b = none) ∧ W i n H') ?_ m0 ⟨0, H3, I4, st4, nfp, w0⟩
    rintro n s5 ⟨i, H5, I5, st5, n5, w5⟩
    rcases turn i n H5 w5 with ⟨stop, qq⟩ | ⟨go, Nx, hNx, step⟩
    · have td := T.done (blkH X s3 H3 scope ce fp) rfl rfl rfl hc' i [] s5 _ H5 (fun _ _ => False) I5 (stat I5 n5) st5 stop
      refine thnF td fun r s6 ⟨hr, I6⟩ => ?_
      subst hr
      have I7 : Inv X pins σ H5 s6 := I3.call' (ch := fp) I6.os I6.base I6.hok I6.bare fun b hb => ⟨(f3 b hb).1.2.2.2.1, (f3 b hb).1.2.1, (f3 b hb).1.2.2.2.2.1, (f3 b hb).1.2.2.2.2.2⟩
      have nC : H5 s3.heap.objs.size = none := by rw [← cL]; exact I6.free
      obtain ⟨m, hn, _⟩ := I6.loc
      have hn : s6.heap.Ns ce.locals m := hn
      rw [cL] at hn
      obtain ⟨f0, f1, f2', f3', f4, f5⟩ : FpOk X pins H5 s3.heap.objs.size := I3.fpOk (Nat.le_refl _) nC
      exact ⟨m, hn, fun h'' sb => ⟨.ref D, H5, I7.turned (t' := s6.toks) (fun b o hb e => (sb.2 b hb).trans e) f0 f1 f3' f4 f5, rfl, qq⟩⟩
    · have ti := T.item (blkH X s3 H3 scope ce fp) rfl rfl rfl hc' i [] s5 _ H5 (fun _ _ => False) I5 (stat I5 n5) st5 go
      refine thnF ti fun r s6 ⟨u, hr, h6⟩ => ?_
      subst hr
      refine thnF h6 fun _ s7 ⟨x, H7, I7, r7, y7, st7, n7⟩ => ?_
      have I7' := I7.pinned (stat I7 n7) (T.obj _ _ st7)
      refine thnF (pg.run _ s7 _ H7 x u _ I7' r7 (step x H7 y7)) fun _ s8 ⟨σ8, H8, I8, hw8, q8⟩ => ?_
      refine thnF (pt.run _ s8 σ8 H8 _ I8 q8) fun b s9 ⟨H9, I9, q9⟩ => ?_
      have fin : ∀ {s' : Shared} {H' : Hp}, Inv (blkH X s3 H3 scope ce fp) ([] ++ pinsAt fp s7.heap) σ8 H' s' → Nx H' → ∃ m, m < n ∧ ∃ i H', Inv (blkH X s3 H3 scope ce fp) [] (wipe σ (own.map (·.2))) H' s' ∧ tn i s'.heap ∧ (∀ b ∈ fp, H' b = none) ∧ W i m H' := fun {s' H'} I' nx => by
        obtain ⟨m', hm, w'⟩ := hNx H' nx
        have pin' : ∀ b ∈ fp, ∀ o, s7.heap.get? b = some o → s'.heap.get? b = some o ∧ H' b = none := fun b hb o e =>
          let z := I'.pin (b, o) (List.mem_append_right _ (List.mem_append_right _ (mem_pinsAt hb e)))
          ⟨z.1, z.2.1⟩
        have hl : (wipe σ (own.map (·.2))).length = σ8.length := by rw [← hw8, wipe_length]
        refine ⟨m', hm, i + 1, H', (I'.unpinned (pins := [])).weak hl (fun j v e => ?_), T.keep _ _ _ st7 fun b hb o e => (pin' b hb o e).1, fun b hb => ?_, w'⟩
        · rw [← hw8] at e
          exact (wipe_some e).1
        · obtain ⟨o, e, _⟩ := T.obj _ _ st7 b hb
          exact (pin' b hb o e).2
      cases b with
      | false =>
        simp only [Bool.false_eq_true, if_false] at q9 ⊢
        exact fin I9 q9
      | true =>
        simp only [if_true] at q9 ⊢
        refine thnF (pe.run _ s9 σ8 H9 _ I9 q9) fun z s10 ⟨yv, H10, I10, r10, acc, hD10, hz10, nx⟩ => ?_
        exact app_ok (X := blkH X s3 H3 scope ce fp) I10 hD10 hz10 r10 fun s11 I11 => fin I11 nx
  exact codeAny_compStart_list loop (T.self X.A 0 _ _ _ st4 loop)
end
end DL
/-! isinstance of a caught error with own fields (written after HandS.ExcIs, for any dict) -/
namespace PySem.W
open PySem PySem.Spec PySem.Calls PyProof.Rows
section
variable {prog : Program} {w : World} {A : Around} {E : Value → Shared → Prop} {s : Shared} {K : Frag} {x D : Addr} {ox : Obj} {od : Option Obj}
theorem findObj_dataD {C : Addr} {name : Str} {a g : Value} (hc : (clsIn K C).isSome = true) (ha : findIn K (.ref C) name = some (some a)) (hg : specialIn K a "__get__" = some (some g)) (ht : takesIn K a = some true) : findObj K C od name = some (.bind g a) := by
  obtain ⟨cd, hc⟩ := Option.isSome_iff_exists.mp hc
  unfold findObj
  rw [hc, Option.bind_some, ha, Option.bind_some]
  simp [hg, ht]
theorem kin_classD {Q : Option Value → Shared → Prop} (hga : findIn K (.ref D) "__getattribute__" = some (some (.builtin "BaseException.__getattribute__"))) (hgt : findIn K (.ref D) "__getattr__" = some none) (hsub : subIn K (.ref D) (.type "BaseException") = some true)
    (hdct : hasDictIn K D = true) (ha : findIn K (.ref D) "__class__" = some (some (.builtin "object.__class__")))
    (hn : specialIn K (.builtin "object.__class__") "__get__" = some (some (.builtin "getset_descriptor.__get__"))) (htk : takesIn K (.builtin "object.__class__") = some true) (hm : mroIn K D (.type "object") = some true)
    (X : K.In s.heap) (I : InstAt s.heap x ox D od) (h : Q (some (.ref D)) { s with toks := s.toks + 1 }) : wpAny (model prog w) A (getAttr? (.ref x) "__class__") Q E s := by
  have hf : findObj K D od "__class__" = some (.bind (.builtin "getset_descriptor.__get__") (.builtin "object.__class__")) := findObj_dataD (by obtain ⟨cd, hc, _⟩ := any_some hdct; rw [hc]; rfl) ha hn htk
  obtain ⟨hp, g, d, t, os⟩ := s
  have L0 := I.type (M := model prog w)
  have L1 := looks_findIn (M := model prog w) X hga
  have L2 := looks_findIn (M := model prog w) X hgt
  have L3 := looks_find (M := model prog w) X I hf
  have sub : Looks (model prog w) hp (isInstance (.ref x) (.type "BaseException")) true := L0.andThen (looks_subIn X hsub)
  have hx0 : (false && onTheHeap (Value.builtin "BaseException.__getattribute__")) = false := rfl
  have hx2 : (Value.builtin "BaseException.__getattribute__" == Value.builtin "object.__getattribute__") = false := by decide +kernel
  have hx1 : (onTheHeap (Value.ref D) && Value.builtin "BaseException.__getattribute__" == Value.builtin "object.__getattribute__") = false := by rw [hx2]; rfl
  unfold getAttr? getAttrBy? getAttrBy
  refine wpAny_bind (wpAny_mkText (wpAny_bind (wpAny_attempt (wpAny_holding (wpAny_bind (L0.at (wpAny_bind (L1.at ?_))))))))
  show wpAny _ _ (if (onTheHeap (Value.ref D) && Value.builtin "BaseException.__getattribute__" == Value.builtin "object.__getattribute__") = true then _ else _) _ _ _
  rw [hx1, if_neg Bool.false_ne_true]
  unfold getAttrByItsOwn hookBefore
  refine wpAny_bind ?_
  rw [if_pos (show onTheHeap (Value.ref D) = true from rfl)]
  refine L2.at ?_
  refine wpAny_bind (wpAny_attempt (wpAny_holding ?_))
  unfold callGetattribute
  rw [hx0, if_neg Bool.false_ne_true]
  unfold boundAndCalled
  rw [PySem.F.excAttr_ValueError.ga.bind (.ref x)]
  refine wpAny_bind (wpAny_pure ?_)
  show wpAny _ _ (call (.builtin "BaseException.__getattribute__") [.ref x, .str "__class__" t]) _ _ _
  refine wpAny_call (codeAny_call_builtin PySem.F.excAttr_ValueError.ga.plain PySem.F.entry_bexc_ga ?_)
  refine @check_slot (model prog w) _ _ ⟨hp, g, d, t + 1, os⟩ "BaseException.__getattribute__" "BaseException" "__getattribute__" (.ref x) [.str "__class__" t] [] _ (by decide +kernel) (by decide +kernel) sub (PySem.F.args_bexc_ga (.ref x) (.str "__class__" t)) ?_
  unfold Builtin.«object.__getattribute__»
  refine wpAny_bind (wpAny_of_eq (a := ((Value.ref x : Value), [Value.str "__class__" t])) (by first | rfl | (simp only [slotArgs]; rfl)) ?_)
  refine wpAny_bind (wpAny_pure (wpAny_bind (L0.at (wpAny_bind (L3.at ?_)))))
  show wpAny _ _ (holding [Value.builtin "object.__class__"] (call (.builtin "getset_descriptor.__get__") [.builtin "object.__class__", .ref x, .ref D]) >>= ret) _ _ _
  refine wpAny_bind (wpAny_holding (wpAny_call (class_get (s := ⟨hp, g, d, t + 1, os⟩) (ox := ox) (od := od) X I hm ?_)))
  refine wpAny_pure ?_
  show wpAny _ _ (handedOut (.ref D)) _ _ _
  rw [handedOut_of (v := .ref D) rfl]
  first
    | exact wpAny_pure (wpAny_pure h)
    | exact wpAny_pure h
    | exact wpAny_pure (wpAny_bind (wpAny_pure (wpAny_pure h)))
theorem kitx_excD (hga : findIn K (.ref D) "__getattribute__" = some (some (.builtin "BaseException.__getattribute__"))) (hgt : findIn K (.ref D) "__getattr__" = some none) (hsub : subIn K (.ref D) (.type "BaseException") = some true) (hdct : hasDictIn K D = true) (ha : findIn K (.ref D) "__class__" = some (some (.builtin "object.__class__")))
    (hn : specialIn K (.builtin "object.__class__") "__get__" = some (some (.builtin "getset_descriptor.__get__"))) (htk : takesIn K (.builtin "object.__class__") = some true) (hm : mroIn K D (.type "object") = some true) :
    KitX K (.ref x) (.ref D) (fun h => InstAt h x ox D od) where
  ty := fun _ _ _ I => I.type
  it := fun _ _ X _ => by
    obtain ⟨cdD, hcD, _⟩ := any_some hdct
    unfold clsIn at hcD
    split at hcD
    · rename_i c' d' cd' sl' ho
      intro A' Q' E' s' k q
      unfold isType loadHead
      exact wpAny_bind (wpAny_loadPart (k _ _ (X _ _ ho)) (wpAny_pure q))
    · cases hcD
  ne := fun h tp dd its n sl X htp => by
    obtain ⟨cdD, hcD, _⟩ := any_some hdct
    refine Bool.eq_false_iff.mpr fun q => ?_
    have e : D = tp := Value.ref.inj (beq_iff_eq.mp q)
    subst e
    unfold clsIn at hcD
    split at hcD
    · rename_i c' d' cd' sl' ho
      have z := (X _ _ ho).symm.trans htp
      cases z
    · cases hcD
  ca := fun X I k => kin_classD hga hgt hsub hdct ha hn htk hm X I k
end
end PySem.W
namespace DL
open PySem PySem.Spec L2 PyProof.Rows
/-- isinstance(e, c), e the exception that is pinned -/
def rIsX (K : PySem.W.Frag) (C a : Addr) (d : Option Addr) : List V → Hp → VK → Prop := fun xs H Q => ∃ (c : V) (cv : Value) (b : Bool) (dx : Addr) (fs : List (Str × V)), xs = [.ref a, c] ∧ (∀ u, RelV c u → u = cv) ∧ PySem.W.kitOne K (.ref C) cv = some b ∧ d = some dx ∧ H dx = some (.xd fs) ∧ Q (.bl b) H
theorem call_isX {X : Cx} {a C : Addr} {oe : Obj} {d : Option Addr} (T : ExcC X.K C) (hm : (a, oe) ∈ X.pn) (hz : L2N.Zn (.ref C) d oe) (hf : ∃ vs, oe.data = .fields vs) : CallR X (.builtin "isinstance") (rIsX X.K C a d) := by
  intro pins s σ H xs us Q I r h
  obtain ⟨c, cv, b, dx, fs, rfl, hcv, e, rfl, hx, q⟩ := h
  cases r with
  | cons rx rr =>
    cases rr with
    | cons rt rr =>
      cases rr
      cases rx
      have ec := hcv _ rt
      subst ec
      obtain ⟨hget, _⟩ := I.pin (a, oe) (List.mem_append_left _ hm)
      obtain ⟨vs, hv⟩ := hf
      have ho : ObjOk X.prog X.w H s.heap dx (.xd fs) := I.hok dx _ hx
      obtain ⟨mA, hns, hr⟩ := ho
      obtain ⟨od, hod, hl⟩ := lookIn_ns hns
      have J : PySem.W.InstAt s.heap a oe C (some od) := ⟨hget, hz.1, by unfold PySem.W.notCls; rw [hv] <;> rfl, by rw [hz.2.1]; exact hod⟩
      exact PySem.W.kia_one (PySem.W.kitx_excD T.hg T.hk T.hs T.hd T.ha T.hn T.ht T.hm) I.kIn J e (fun z => nomatch z) fun tk => ⟨.bl b, H, I.kept (t' := tk) fun _ _ z => z, rfl, q⟩
/-- what is known of isinstance(e, c) for the classes of a clause -/
def IsTab (K : PySem.W.Frag) (mg : Str → Option Value) (tab : Str → Option Bool) (cv : Value) : Prop := ∀ y b C, tab y = some b → mg y = some (.ref C) → ExcC K C ∧ PySem.W.kitOne K (.ref C) cv = some b
def dIsX (tab : Str → Option Bool) (x : Ex) : DE := fun _ S => match tab x.cls with
  | some b => .ok (.bl b) S
  | none => .bad
section
variable {X : Cx} {i : Nat} {a : Addr} {cls : Value} {d : Option Addr} {x : Ex} {e e1 e2 b c : Expr} {es : List Expr} {f f1 f2 : DE} {t u : DT} {oe : Obj} {pn : List (Addr × Obj)} {sub tab : Str → Option Bool} {pos p0 p : Pos} {n fl : Str} {cv : Value} {v : V}
theorem jx_isx (hk : IsTab X.K X.mg tab cv) (hm : (a, oe) ∈ X.pn) (hz : L2N.Zn cls d oe) (hf : ∃ vs, oe.data = .fields vs) (hi : X.mg "isinstance" = none) (h2 : PE X e2 (tC v)) (hv : ∀ w, RelV v w → w = cv) (hN : X.N[i]? = some n) (hvi : Vis X.env.scope n)
    (hd : (n == ("__debug__" : Str)) = false := by decide) (hcd : (n == ("__classdict__" : Str)) = false := by decide) (hg : Gl X "isinstance" := by rfl)
    (hs : starEach (.Name n p0 :: [e2]) X.env = (false, eval (.Name n p0) X.env) :: starEach [e2] X.env := by rfl) (hs2 : starEach [e2] X.env = (false, eval e2 X.env) :: starEach [] X.env := by rfl) (hpl : (backTo pos (starEach [e2] X.env)).any (·.1) = false := by rfl) :
    JX X i a cls d x (.Call (.Name "isinstance" p) [.Name n p0, e2] [] pos) (dIsX tab x) := by
  refine ⟨fun pins s σ H Q I ⟨ρ, δ, S, r, rs, ei, xr, q⟩ => ?_⟩
  obtain ⟨C, dd, fv, g1, g2, g3, g4, g5, g6⟩ := xr
  unfold dIsX at q
  split at q
  · rename_i k hk'
    obtain ⟨T, hkit⟩ := hk x.cls k C hk' g1
    subst g2
    exact (pe_callB (call_isX T hm hz hf) hg hi (by decide +kernel) (pa_cons (pe_var (X := X) (i := i) hN hvi hd hcd) (pa_cons h2 pa_nil hs2) hs) (by decide) (by decide) hs hpl).run pins s σ H Q I
      ⟨.ref a, ei, v, cv, k, dd, fv, rfl, hv, hkit, g3, g4, q ρ (.bl k) H .refl r rfl⟩
  · exact q.elim
end
end DL
/-! an except suite that goes on; a def that is called from it with the caught error -/
namespace DL
open PySem PySem.Spec L2 PyProof.Rows
def LXT (Ω : Wd) (i : Nat) (a : Addr) (cls : Value) (d : Option Addr) (x : Ex) (t : DT) : TT := fun σ H Q => ∃ ρ δ S, Rel Ω ρ H S ∧ RelS Ω.K ρ H δ σ ∧ σ[i]? = some (some (.ref a)) ∧ XR Ω ρ H x cls d ∧ LG Ω W0 PB (t δ S) ρ H σ Q
abbrev JXT (X : Cx) (i : Nat) (a : Addr) (cls : Value) (d : Option Addr) (x : Ex) (e : Expr) (t : DT) : Prop := PT X e (LXT (om X) i a cls d x t)
abbrev JXW (X : Cx) (i : Nat) (a : Addr) (cls : Value) (d : Option Addr) (x : Ex) (e : Expr) (t : DT) : Prop := PW X e (LXT (om X) i a cls d x t)
/-- behind a statement of the suite: the error stays in its slot -/
def LXF (Ω : Wd) (i : Nat) (a : Addr) (r : F) (ρ : List Addr) (H : Hp) (E : Ends) : Prop := match r with
  | .nx δ' S' => ∀ ρ' σ' H', Step ρ H ρ' H' → Rel Ω ρ' H' S' → RelS Ω.K ρ' H' δ' σ' → σ'[i]? = some (some (.ref a)) → E.nx σ' H'
  | .rt d S' => ∀ ρ' v H', Step ρ H ρ' H' → Rel Ω ρ' H' S' → VR Ω.K ρ' H' d v → E.rt v H'
  | _ => False
theorem LXF.shift {Ω : Wd} {i : Nat} {a : Addr} {r : F} {ρ ρ1 : List Addr} {H H1 : Hp} {E : Ends} (s : Step ρ H ρ1 H1) (h : LXF Ω i a r ρ H E) : LXF Ω i a r ρ1 H1 E := by
  cases r with
  | nx δ' S' => exact fun ρ' σ' H' t => h ρ' σ' H' (s.trans t)
  | rt d S' => exact fun ρ' v H' t => h ρ' v H' (s.trans t)
  | _ => exact h
def LXS (Ω : Wd) (i : Nat) (a : Addr) (cls : Value) (d : Option Addr) (x : Ex) (f : DS) : TS := fun E σ H => ∃ ρ δ S, Rel Ω ρ H S ∧ RelS Ω.K ρ H δ σ ∧ σ[i]? = some (some (.ref a)) ∧ XR Ω ρ H x cls d ∧ LXF Ω i a (f δ S) ρ H E
abbrev JXS (X : Cx) (i : Nat) (a : Addr) (cls : Value) (d : Option Addr) (x : Ex) (s : Stmt) (f : DS) : Prop := PS X s (LXS (om X) i a cls d x f)
abbrev JXSs (X : Cx) (i : Nat) (a : Addr) (cls : Value) (d : Option Addr) (x : Ex) (s : List Stmt) (f : DS) : Prop := PSs X s (LXS (om X) i a cls d x f)
theorem LXF.of {α β : Type} {Ω : Wd} {i : Nat} {a : Addr} {P : List Addr → Hp → α → β → Prop} {r : R α} {k : α → Store → F} {δ : DEnv} {ρ : List Addr} {H : Hp} {σ : L2.St} {E : Ends} {Q : β → Hp → Prop} (h : LXF Ω i a (r.thenF δ k) ρ H E)
    (q : ∀ ρ1 d S1 v H1, Step ρ H ρ1 H1 → Rel Ω ρ1 H1 S1 → P ρ1 H1 d v → LXF Ω i a (k d S1) ρ1 H1 E → Q v H1) : LG Ω W0 P r ρ H σ Q := by
  cases r with
  | ok d S' => exact fun ρ' v H' s r' p => q ρ' d S' v H' s r' p (LXF.shift s h)
  | exc x S' => exact h.elim
  | bad => exact h
section
variable {X : Cx} {i : Nat} {a : Addr} {cls : Value} {d : Option Addr} {x : Ex} {e e1 e2 b c : Expr} {es : List Expr} {f f1 f2 : DE} {t u : DT} {fs : DA} {st : Stmt} {sts as bs : List Stmt} {g g1 g2 : DS} {oe : Obj} {pn : List (Addr × Obj)} {pos p0 p pos' : Pos} {n fl : Str}
/-! ### tests -/
theorem jxt_of (h : JT X W0 e t) : JXT X i a cls d x e t := pt_imp h fun σ H Q ⟨ρ, δ, S, r, rs, _, _, q⟩ => ⟨ρ, δ, S, r, rs, q⟩
theorem jxw_and1 (ha : JXT X i a cls d x b t) : JXW X i a cls d x (.BoolOp .And [b] pos) t := pw_imp (pw_and1 ha) fun σ H Q h => h
theorem jxw_or1 (ha : JXT X i a cls d x b t) : JXW X i a cls d x (.BoolOp .Or [b] pos) t := pw_imp (pw_or1 ha) fun σ H Q h => h
theorem jxw_and (ha : JXT X i a cls d x b t) (hb : JXW X i a cls d x (.BoolOp .And (c :: es) pos) u) : JXW X i a cls d x (.BoolOp .And (b :: c :: es) pos) (dAnd t u) := pw_imp (pw_and ha hb) fun σ H Q ⟨ρ, δ, S, r, rs, ei, xr, h⟩ =>
  ⟨ρ, δ, S, r, rs, ei, xr, LG.bind h fun ρ1 k S1 v H1 s1 r1 p1 q1 => by
    cases p1
    cases k with
    | true => exact ⟨ρ1, δ, S1, r1, r.rs s1 rs, ei, xr.mono r s1, q1⟩
    | false => exact q1 ρ1 false H1 .refl r1 rfl⟩
theorem jxw_or (ha : JXT X i a cls d x b t) (hb : JXW X i a cls d x (.BoolOp .Or (c :: es) pos) u) : JXW X i a cls d x (.BoolOp .Or (b :: c :: es) pos) (dOr t u) := pw_imp (pw_or ha hb) fun σ H Q ⟨ρ, δ, S, r, rs, ei, xr, h⟩ =>
  ⟨ρ, δ, S, r, rs, ei, xr, LG.bind h fun ρ1 k S1 v H1 s1 r1 p1 q1 => by
    cases p1
    cases k with
    | true => exact q1 ρ1 true H1 .refl r1 rfl
    | false => exact ⟨ρ1, δ, S1, r1, r.rs s1 rs, ei, xr.mono r s1, q1⟩⟩
theorem jxt_w (h : JXW X i a cls d x e t) : JXT X i a cls d x e t := h.pt
theorem jxt_not (ha : JXT X i a cls d x b t) : JXT X i a cls d x (.UnaryOp .Not b pos) (dNot t) := pt_imp (pt_not ha) fun σ H Q ⟨ρ, δ, S, r, rs, ei, xr, h⟩ =>
  ⟨ρ, δ, S, r, rs, ei, xr, LG.bind h fun ρ1 k S1 v H1 s1 r1 p1 q1 => by cases p1; exact q1 ρ1 (!k) H1 .refl r1 rfl⟩
theorem jxt_cmp {op : CmpOp} {r : R2} {gg : D → D → Store → R D} (ho : OpR X (compareOp op) r) (hs : OpS X W0 gg r) (ha : JX X i a cls d x e1 f1) (hb : JX X i a cls d x e2 f2) (hm : behindInMarks op e2 = false) : JXT X i a cls d x (.Compare e1 [op] [e2] pos) (dTest (dOp gg f1 f2)) :=
  pt_imp (pt_cmpR ho ha hb hm) fun σ H Q ⟨ρ, δ, S, rl, rs, ei, xr, q⟩ => by
    have q : LG (om X) W0 PB (((f1 δ S).bind fun x S1 => (f2 δ S1).bind fun y S2 => gg x y S2).bind fun x S1 => match x with | .bl k => .ok k S1 | _ => .bad) ρ H σ Q := q
    rw [R.bind_bind] at q
    refine ⟨ρ, δ, S, rl, rs, ei, xr, LG.bind q fun ρ1 y S1 v H1 s1 r1 p1 q1 => ?_⟩
    rw [R.bind_bind] at q1
    refine ⟨ρ1, δ, S1, r1, rl.rs s1 rs, ei, xr.mono rl s1, LG.bind q1 fun ρ2 z S2 w H2 s2 r2 p2 q2 => ?_⟩
    refine hs ρ2 H2 S2 σ _ y z v w r2 (r1.vr s2 p1) p2 (LG.bind q2 fun ρ3 k S3 vk H3 s3 r3 p3 q3 => ?_)
    cases k with
    | bl k => cases p3; exact ⟨k, rfl, q3 ρ3 k H3 .refl r3 rfl⟩
    | _ => exact q3.elim
theorem jxt_ne (hu : X.A.units + 64 < cLine) (ha : JX X i a cls d x e1 f1) (hb : JX X i a cls d x e2 f2) : JXT X i a cls d x (.Compare e1 [.NotEq] [e2] pos) (dTest (dOp (gEq true) f1 f2)) := jxt_cmp (opR_ne hu) (opS_eq true hu) ha hb (nomark _)
theorem jxt_eq (hu : X.A.units + 64 < cLine) (ha : JX X i a cls d x e1 f1) (hb : JX X i a cls d x e2 f2) : JXT X i a cls d x (.Compare e1 [.Eq] [e2] pos) (dTest (dOp (gEq false) f1 f2)) := jxt_cmp (opR_eq hu) (opS_eq false hu) ha hb (nomark _)
theorem jxt_tru (ha : JX X i a cls d x b f) (he : ∀ whole, isTrue b X.env whole = (do let v ← whole; standAt b.pos; holding [v] (truthy v)) := by intro _; rfl) : JXT X i a cls d x b (dTru f) := pt_imp (pt_truth ha he) fun σ H Q ⟨ρ, δ, S, r, rs, ei, xr, h⟩ =>
  ⟨ρ, δ, S, r, rs, ei, xr, LG.bind h fun ρ1 x S1 v H1 s1 r1 p1 q1 => by
    cases e : truD x with
    | some k => rw [e] at q1; exact ⟨k, truD_ok e p1, q1 ρ1 _ H1 .refl r1 rfl⟩
    | none => rw [e] at q1; exact q1.elim⟩
theorem jx_lst {es : List Expr} {fs : DA} (h : JXA X i a cls d x es fs) : JX X i a cls d x (.List es pos) (dLst fs) := pe_imp (pe_lst h) fun σ H Q ⟨ρ, δ, S, r, rs, ei, xr, h⟩ =>
  ⟨ρ, δ, S, r, rs, ei, xr, LG.bind h fun ρ1 x S1 v H1 s1 r1 p1 q1 => LG.lst r1 p1 q1⟩
/-! ### statements -/
theorem jxss_nil : JXSs X i a cls d x [] dNx := pss_imp pss_nil fun E σ H ⟨ρ, δ, S, r, rs, ei, xr, h⟩ => h ρ σ H .refl r rs ei
theorem jxss_cons (h1 : JXS X i a cls d x st g1) (h2 : JXSs X i a cls d x sts g2) : JXSs X i a cls d x (st :: sts) (dSeq g1 g2) := pss_imp (pss_cons h1 h2) fun E σ H ⟨ρ, δ, S, r, rs, ei, xr, h⟩ => by
  refine ⟨ρ, δ, S, r, rs, ei, xr, ?_⟩
  unfold dSeq at h
  cases e : g1 δ S with
  | nx δ' S' => rw [e] at h; exact fun ρ' σ' H' s r' rs' ei' => ⟨ρ', δ', S', r', rs', ei', xr.mono r s, LXF.shift s h⟩
  | rt d S' => rw [e] at h; exact h
  | bk d S' => rw [e] at h; exact h.elim
  | ct d S' => rw [e] at h; exact h.elim
  | exc x d S' => rw [e] at h; exact h.elim
  | bad => rw [e] at h; exact h.elim
theorem jxss_one (h1 : JXS X i a cls d x st g) : JXSs X i a cls d x [st] g := pss_imp (pss_one h1) fun E σ H h => h
theorem jxs_ret (he : JX X i a cls d x e f) : JXS X i a cls d x (.Return (some e) pos) (dRet f) := ps_imp (ps_ret he) fun E σ H ⟨ρ, δ, S, r, rs, ei, xr, h⟩ =>
  ⟨ρ, δ, S, r, rs, ei, xr, LXF.of h fun ρ1 d S1 v H1 s r1 p h1 => h1 ρ1 v H1 .refl r1 p⟩
theorem jxs_if (hc : JXT X i a cls d x c t) (ha : JXSs X i a cls d x as g1) (hb : JXSs X i a cls d x bs g2) : JXS X i a cls d x (.If c as bs pos) (dIf t g1 g2) := ps_imp (ps_if hc ha hb) fun E σ H ⟨ρ, δ, S, r, rs, ei, xr, h⟩ =>
  ⟨ρ, δ, S, r, rs, ei, xr, LXF.of h fun ρ1 k S1 v H1 s r1 p h1 => by
    cases p
    cases k with
    | true => exact ⟨ρ1, δ, S1, r1, r.rs s rs, ei, xr.mono r s, h1⟩
    | false => exact ⟨ρ1, δ, S1, r1, r.rs s rs, ei, xr.mono r s, h1⟩⟩
theorem jxs_set (j : Nat) {y : Str} {py : Pos} (hN : X.N.Nodup) (he : JX X i a cls d x e f) (hne : i ≠ j) (hj : X.N[j]? = some y := by rfl) (hx : Loc X.env.scope y := by first | exact Or.inl rfl | exact Or.inr rfl)
    (hf : X.fn y = true ∨ X.env.scope.names.lookup y = some .local := by first | exact .inl rfl | exact .inr rfl) (hs : swapsWithSole [.Name y py] e pos.line X.env = pure false := by rfl) (hw : swappedStores [.Name y py] e X.env = pure none := by rfl) : JXS X i a cls d x (.Assign [.Name y py] e pos) (dSet j f) :=
  ps_imp (ps_asg he (pg_name (pos := py) hN hj hx hf) hs hw) fun E σ H ⟨ρ, δ, S, r, rs, ei, xr, h⟩ =>
    ⟨ρ, δ, S, r, rs, ei, xr, LXF.of h fun ρ1 k S1 v H1 s r1 p h1 => h1 ρ1 _ H1 .refl r1 ((r.rs s rs).set p j) (by rw [List.getElem?_set_ne (fun z => hne z.symm)]; exact ei)⟩
end
end DL
namespace DL
open PySem PySem.Spec L2 PyProof.Rows
/-! ### try: body / except C as n: suite -/
def dTryS (sub : Str → Option Bool) (i : Nat) (f : DS) (g : Ex → DS) : DS := fun δ S => match f δ S with
  | .exc x δ' S' => (match sub x.cls with
    | some true => if i < δ'.length then (match g x (δ'.set i none) S' with
      | .nx δ2 S2 => .nx (δ2.set i none) S2
      | .rt v S2 => .rt v S2
      | _ => .bad) else .bad
    | some false => .exc x δ' S'
    | none => .bad)
  | r => r
section
variable {X : Cx} {W : WX} {x n : Str} {c : Value} {i : Nat} {body suite : List Stmt} {b₀ : Stmt} {e : Expr} {np pos pos' pos2 : Pos} {sub : Str → Option Bool} {f : DS} {g : Ex → DS}
theorem js_tryS (hs : X.stack = X.env :: X.outer) (hf : X.env.frame = some X.env.locals) (hc : Names X x c) (hsub : SubOk X.K X.mg sub c) (hN : X.N.Nodup) (hi : X.N[i]? = some n) (hln : X.env.kindOf n = some .local) (tk : L2N.Takes X W)
    (hb : ∀ (W : WX) (pn : List (Addr × Obj)) (xe : Value → Shared → Prop), L2N.Takes (X.tr pn xe) W → PassesOwn (model X.prog X.w) X.A X.env xe → JSs (X.tr pn xe) W body f)
    (hsu : ∀ (y : Ex) (a : Addr) (oe : Obj) (cls : Value) (d : Option Addr) (pn : List (Addr × Obj)), sub y.cls = some true → L2N.Zn cls d oe → (∃ vs, oe.data = .fields vs) → JXSs (X.suite a ((a, oe) :: pn)) i a cls d y (b₀ :: suite) (g y)) :
    JS X W (.Try body [.ExceptHandler (some (.Name x np)) (some n) (b₀ :: suite) pos'] [] [] pos) (dTryS sub i f g) := by
  refine ps_imp (L2N.ps_try_as (Wout := W) (tb := fun W => LS (om X) W f) (ts := fun a cls d => fun D σ H => ∃ y : Ex, sub y.cls = some true ∧ LXS (om X) i a cls d y (g y) D σ H) hs hf hN hi hln hc tk (fun W pn xe t p => hb W pn xe t p) (fun a oe cls d pn hz hv => ?_)) fun E σ H h => ?_
  · exact ⟨fun pins s σ H D I ⟨y, hy, q⟩ => (hsu y a oe cls d pn hy hz hv).run pins s σ H D I q⟩
  · obtain ⟨ρ, δ, S, r, rs, h⟩ := h
    refine ⟨ρ, δ, S, r, rs, ?_⟩
    unfold dTryS at h
    cases e : f δ S with
    | nx δ' S' => rw [e] at h; exact h
    | bk δ' S' => rw [e] at h; exact h
    | ct δ' S' => rw [e] at h; exact h
    | rt d S' => rw [e] at h; exact h
    | bad => rw [e] at h; exact h
    | exc y δ' S' =>
      rw [e] at h
      intro ρ' cls dd σ' H' s' r' rs' xr
      obtain ⟨C, d, fv, g1, g2, g3, g4⟩ := id xr
      subst g2
      have h : LF (om X) W (match sub y.cls with
        | some true => if i < δ'.length then (match g y (δ'.set i none) S' with
          | .nx δ2 S2 => .nx (δ2.set i none) S2
          | .rt v S2 => .rt v S2
          | _ => .bad) else .bad
        | some false => .exc y δ' S'
        | none => .bad) ρ H E := h
      cases q : sub y.cls with
      | none => rw [q] at h; exact h.elim
      | some b =>
        rw [q] at h
        refine ⟨b, hsub y.cls b C q g1, fun hb a na => ?_, fun hb => ?_⟩
        · subst hb
          have h : LF (om X) W (if i < δ'.length then (match g y (δ'.set i none) S' with
            | .nx δ2 S2 => .nx (δ2.set i none) S2
            | .rt v S2 => .rt v S2
            | _ => .bad) else .bad) ρ H E := h
          by_cases hld : i < δ'.length
          rotate_left
          · rw [if_neg hld] at h; exact h.elim
          rw [if_pos hld] at h
          have hl : i < σ'.length := by rw [← RelS.length rs']; exact hld
          refine ⟨y, q, ρ', δ'.set i none, S', r', RelS.skip i rs', by rw [List.getElem?_set_self hl], xr, ?_⟩
          have h : LF (om X) W (match g y (δ'.set i none) S' with
            | .nx δ2 S2 => .nx (δ2.set i none) S2
            | .rt v S2 => .rt v S2
            | _ => .bad) ρ H E := h
          cases q2 : g y (δ'.set i none) S' with
          | nx δ2 S2 => rw [q2] at h; exact fun ρ2 σ2 H2 s2 r2 rs2 _ => h ρ2 (σ2.set i none) H2 (s'.trans s2) r2 (rs2.wipe1 i)
          | rt v S2 => rw [q2] at h; exact fun ρ2 u H2 s2 r2 hv => h ρ2 u H2 (s'.trans s2) r2 hv
          | bk _ _ => rw [q2] at h; exact h.elim
          | ct _ _ => rw [q2] at h; exact h.elim
          | exc _ _ _ => rw [q2] at h; exact h.elim
          | bad => rw [q2] at h; exact h.elim
        · subst hb
          exact h ρ' _ dd σ' H' s' r' rs' xr
end
/-! ### a def called from the suite with the caught error alone -/
structure FnP (P : Program) (w : World) (K : PySem.W.Frag) (mg : Str → Option Value) (base : Heap) (CX : CXT) (k : Nat) (f : Addr) (fd : FuncData) (ps : List Str) (p : Addr × Obj) (sp : Sp) : Prop where
  len : ∀ vs H Q E, sp vs H Q E → vs.length = ps.length
  run : ∀ (A : Around) (outer : List Env) (s : Shared) (H : Hp) (args : Args) (us : List Value) (vs : List V) (Q : VK) (E : XK), L2H.RoomH k A → L2H.Hot1 A p → L2H.PinOk outer H s p → Env0 P w K mg base A outer s H → BindsTo s fd args (ps.zip us) → Vals vs us → sp vs H Q E →
    codeAny (model P w) A (.call (.ref f) args) (CR CX outer P w H s Q E) s
section
variable {P : Program} {w : World} {K : PySem.W.Frag} {mg : Str → Option Value} {base : Heap}
theorem fn_ofP {CX : CXT} {k : Nat} {f : Addr} {name qual : Str} {params : Arguments} {body : List Stmt} {scope : Scope} {dV kV doc pm cdv ct oc : Value} {an od : Option Addr}
    {osl : Array (Option Value)} {N ps : List Str} {p : Addr × Obj} {sp : Sp} (lk : K.lookup f = some ⟨oc, od, .func (PySem.W.fnOf name qual params body scope dV kV doc pm an cdv ct), osl⟩) (hcd : PySem.W.codeIn K cdv qual = true) (S : FnScope N ps scope)
    (len : ∀ vs H Q E, sp vs H Q E → vs.length = ps.length)
    (hbody : ∀ (A : Around) (outer : List Env) (s : Shared) (H : Hp) (vs : List V) (Q : VK) (E : XK), L2H.Hot1 A p → L2H.RoomH k (A.deeper (envOfC qual scope s.heap.objs.size f cdv)) → sp vs H Q E →
      ∃ t, PSs (L2H.cxH CX P w K mg base N qual scope f cdv A outer s H E p) body t ∧ t { nx := fun _ H' => Q .non H', rt := Q } (L2.start N vs) H) :
    FnP P w K mg base CX (k + 1) f (PySem.W.fnOf name qual params body scope dV kV doc pm an cdv ct) ps p sp := by
  refine ⟨len, fun A outer s H args us vs Q E hr hot hpin e0 hb r hsp => ?_⟩
  have hl := len _ _ _ _ hsp
  have KX : K.In s.heap := e0.mod.kin.keeps fun b o e => (e0.bs b o e).1
  have lim : s.heap.NoLimit := e0.mod.nolimit.keeps fun b o e => (e0.bs b o e).1
  have hkind : ∀ y ∈ ps.zip us, scope.names.lookup y.1 = some .local ∨ (scope.names.lookup y.1 = some .cell ∧ ((cellsFrom (s.heap.objs.size + 1) scope.names []).lookup y.1).isSome = true) := fun ⟨n, v⟩ hy => by
    rcases S.par n (List.of_mem_zip hy).1 with q | q
    · exact .inl q
    · exact .inr ⟨q, PySem.W.cellsFrom_some _ _ _ (.inl q)⟩
  refine codeAny_call_function hr.depth (KX _ _ lk) rfl S.co S.gen rfl (PySem.W.codeRec_of KX hcd) (hb _ _ _ _ ?_)
  refine wpAny_newFunctionEnv_cells S.kind hkind fun env he s1 x => ?_
  subst he
  refine ⟨lim.keeps x.toInCall.keep, codeAny_func ?_⟩
  obtain ⟨t, ht, hq⟩ := hbody A outer s H vs Q E hot (hr.deeper _) hsp
  have I : Inv (L2H.cxH CX P w K mg base N qual scope f cdv A outer s H E p) [] (L2.start N vs) H s1 := L2H.inv_startH S hpin e0 hl r x
  refine wpAny_mono (ht.run [] s1 (L2.start N vs) H _ I hq) (fun fl s' hs => ?_) fun e s' hs => hs
  have fin : ∀ {σ' : L2.St} {H' : Hp} {v : V} {u : Value}, Inv (L2H.cxH CX P w K mg base N qual scope f cdv A outer s H E p) [] σ' H' s' → RelV v u → Q v H' → CE outer P w H s Q u s' :=
    fun {σ' H' v u} J rv q => ⟨v, H', J.os, J.bare, J.base, J.hok, rv, q⟩
  cases fl with
  | ret u =>
    obtain ⟨v, σ', H', J, rv, q⟩ := hs
    exact fin J rv q
  | next =>
    obtain ⟨σ', H', J, q⟩ := hs
    exact fin (v := V.non) (u := Value.none) J rfl q
  | brk =>
    obtain ⟨_, _, _, q⟩ := hs
    exact False.elim q
  | cont =>
    obtain ⟨_, _, _, q⟩ := hs
    exact False.elim q
def spP (Ω : Wd) (p : Addr × Obj) (m : Ex → Store → R D) : Sp := fun vs H Q E => ∃ ρ S x cls d, Rel Ω ρ H S ∧ vs = [.ref p.1] ∧ XR Ω ρ H x cls d ∧ L2N.Zn cls d p.2 ∧ (∃ fs, p.2.data = .fields fs) ∧ LG Ω W0 (PVR Ω) (m x S) ρ H [] Q
def runP (n : Nat) (b : DS) (S : Store) : R D := match b (List.replicate n none) S with
  | .nx _ S' => settle S.length .non S'
  | .rt d S' => settle S.length d S'
  | _ => .bad
theorem fn_okP {x qual : Str} {st : Stmt} {f : Addr} {fd : FuncData} {N ps : List Str} {k n : Nat} {m : Ex → DS} (F : Fun K x qual st f fd) (sc : FnScope N ps (defScope st)) (hp : ps.length = 1) (hn : N.length = n + 1)
    (hbody : ∀ (X : Cx) (y : Ex) (a : Addr) (oe : Obj) (cls : Value) (d : Option Addr), X.K = K → X.mg = mg → X.prog = P → X.w = w → X.base = base → X.N = N → X.env.scope = defScope st → X.fn = (fun _ => true) → X.pn = [(a, oe)] → L2H.HotC X → L2H.RoomH k X.A → L2N.Zn cls d oe → (∃ fs, oe.data = .fields fs) → JXSs X 0 a cls d y (defBody st) (m y))
    (p : Addr × Obj) : FnP P w K mg base (L2N.CX P w) (k + 1) f fd ps p (spP ⟨K, mg⟩ p (fun y => runP (n + 1) (m y))) := by
  obtain ⟨oc, od, kV, doc, pm, an, cdv, ct, osl, rfl, lk, hcd⟩ := F.ex
  refine fn_ofP lk hcd sc (fun vs H Q E h => ?_) (fun A outer s H vs Q E hot hr h => ?_)
  · obtain ⟨ρ, S, y, cls, d, r, rfl, _⟩ := h
    rw [hp]; rfl
  · obtain ⟨a, oe⟩ := p
    obtain ⟨ρ, S, y, cls, d, r, rfl, xr, hz, hf, q⟩ := h
    refine ⟨_, hbody (L2H.cxH (L2N.CX P w) P w K mg base N qual (defScope st) f cdv A outer s H E (a, oe)) y a oe cls d rfl rfl rfl rfl rfl rfl rfl rfl rfl ⟨(a, oe), hot, List.mem_cons_self⟩ hr hz hf, ?_⟩
    have e0 : L2.start N [V.ref a] = some (.ref a) :: List.replicate n none := by
      unfold L2.start
      rw [hn]
      rfl
    refine ⟨ρ, List.replicate (n + 1) none, S, r, ?_, by rw [e0]; rfl, xr, ?_⟩
    · rw [e0]
      exact ⟨some (.ref a), _, rfl, (fun z hz => by cases hz), RelS.blank n⟩
    · replace q : LG (⟨K, mg⟩ : Wd) W0 (PVR ⟨K, mg⟩) (match m y (List.replicate (n + 1) none) S with
        | .nx _ S' => settle S.length .non S'
        | .rt d S' => settle S.length d S'
        | _ => .bad) ρ H [] Q := q
      rw [← r.len] at q
      cases e : m y (List.replicate (n + 1) none) S with
      | nx δ S' => rw [e] at q; exact fun ρ' σ' H' s' r' rs' _ => LG.settle s' r' (d := .non) (v := .non) rfl q
      | rt v S' => rw [e] at q; exact fun ρ' v H' s' r' hv' => LG.settle s' r' hv' q
      | exc x δ S' => rw [e] at q; exact q.elim
      | bk δ S' => rw [e] at q; exact q.elim
      | ct δ S' => rw [e] at q; exact q.elim
      | bad => rw [e] at q; exact q.elim
end
/-- the promise of such a def -/
structure PrP (P : Program) (w : World) (K : PySem.W.Frag) (mg : Str → Option Value) (base : Heap) (k : Nat) (x : Str) (a : Addr) (fd : FuncData) (ps : List Str) (m : Ex → Store → R D) : Prop where
  ok : ∀ p, FnP P w K mg base (L2N.CX P w) k a fd ps p (spP ⟨K, mg⟩ p m)
  g : mg x = some (.ref a)
  kp : PySem.W.keepIn K (.ref a) = true
  b : Binds K fd ps []
section
variable {X : Cx} {W : WX} {i k j : Nat} {a af : Addr} {fd : FuncData} {ps : List Str} {cls : Value} {d : Option Addr} {y : Ex} {m : Ex → Store → R D} {oe : Obj} {x n : Str} {p p0 pos : Pos} {e : Expr} {fa : DE} {fs : DA} {tg : Expr}
theorem jx_callP (F : PrP X.prog X.w X.K X.mg X.base k x af fd ps m) (hr : L2H.RoomH j X.A) (hk : k ≤ j := by decide) (hh : X.A.handled = some (.ref a)) (hm : (a, oe) ∈ X.pn) (hz : L2N.Zn cls d oe) (hf : ∃ vs, oe.data = .fields vs) (hN : X.N[i]? = some n) (hvi : Vis X.env.scope n)
    (hd : (n == ("__debug__" : Str)) = false := by decide) (hcd : (n == ("__classdict__" : Str)) = false := by decide) (hg : Gl X x := by rfl) (hdb : (x == ("__debug__" : Str)) = false := by decide)
    (hs : starEach (.Name n p0 :: []) X.env = (false, eval (.Name n p0) X.env) :: starEach [] X.env := by rfl) (hpl : (backTo pos (starEach [] X.env)).any (·.1) = false := by rfl) :
    JX X i a cls d y (.Call (.Name x p) [.Name n p0] [] pos) (fun _ S => m y S) := by
  refine ⟨fun pins s σ H Q I ⟨ρ, δ, S, r, rs, ei, xr, q⟩ => ?_⟩
  refine wpAny_Call_Name_kw (ld_glob I hg F.g ?_ hdb)
  have ha : PA X [.Name n p0] (tCons (tVar i) tNil) := pa_cons (pe_var (X := X) (i := i) hN hvi hd hcd) pa_nil hs
  refine PySem.W.callWith_K (h₀ := X.base) I.ok.mod.kin F.kp (thn (ha.run pos pins s σ H (fun vs H1 => vs = [V.ref a] ∧ H1 = H) I ⟨.ref a, ei, rfl, rfl⟩) fun us s1 ⟨vs, H1, I1, rv, ev, eH⟩ => ⟨I1.kIn, ?_⟩) hs hpl
  subst ev
  rw [eH] at I1
  have hsp : spP (om X) (a, oe) m [.ref a] H Q (fun _ _ _ => False) := ⟨ρ, S, y, cls, d, r, rfl, xr, hz, hf, q⟩
  have FF := F.ok (a, oe)
  have hl : us.length = ps.length := by rw [← rv.length]; exact FF.len _ _ _ _ hsp
  have b := F.b s1 us I1.kIn (by rw [List.append_nil]; exact hl)
  rw [List.append_nil] at b
  have P1 := I1.pin (a, oe) (List.mem_append_left _ hm)
  have hpin : L2H.PinOk X.stack H s1 (a, oe) := ⟨P1.1, P1.2.1, fun hmm => (List.mem_cons.mp (I1.stkSub a hmm)).elim P1.2.2.1 P1.2.2.2.1, P1.2.2.2.2⟩
  have hot : L2H.Hot1 X.A (a, oe) := ⟨hh, by obtain ⟨vs, hv⟩ := hf; exact ⟨vs, hv, hz.2.2 vs hv⟩⟩
  show wpAny _ _ (call (.ref af) us) _ _ _
  refine wpAny_call (codeAny_mono (FF.run X.A X.stack s1 H ⟨us, []⟩ us [.ref a] Q (fun _ _ _ => False) (hr.mono hk) hot hpin I1.env0 b rv hsp) fun r s' hq => ?_)
  match r, hq with
  | .error er, hq => obtain ⟨_, _, _, _, _, _, _, _, _, _, _, _, h⟩ := hq; exact h.elim
  | .ok (.ret u), hq => exact I1.after hq
  | .ok .next, hq => exact False.elim hq
  | .ok .brk, hq => exact False.elim hq
  | .ok .cont, hq => exact False.elim hq
/-! ### comprehensions there -/
theorem LI.range1 {σ : L2.St} {H : Hp} {Q : It → Hp → Prop} (h : LI (om X) W (diR1 fs) σ H Q) : iRng1 (LA (om X) W fs) σ H Q := by
  obtain ⟨ρ, δ, S, r, rs, h⟩ := h
  exact ⟨ρ, δ, S, r, rs, LG.bind h fun ρ1 ds S1 vs H1 s1 r1 p1 q1 => by
    split at q1
    · rename_i j
      obtain ⟨v, rfl, hv⟩ := vrs1 p1
      cases hv
      by_cases hj : rgOk j = true
      · rw [if_pos hj] at q1
        obtain ⟨h1, h2⟩ := of_decide_eq_true hj
        exact ⟨j, rfl, h1, h2, q1 ρ1 _ H1 .refl r1 .range⟩
      · rw [if_neg hj] at q1; exact q1.elim
    · exact q1.elim⟩
abbrev JIH (X : Cx) (W : WX) (tg iter : Expr) (f : DA) : Prop := L2H.PIH X tg iter (LI (om X) W f)
theorem jih_range1 (hm : X.mg "range" = none) (ha : JA X W [e] fs) (hs : starEach [e] X.env = [(false, eval e X.env)] := by rfl) (hg : Gl X "range" := by rfl) : JIH X W tg (.Call (.Name "range" p) [e] [] pos) (diR1 fs) :=
  ⟨fun pins s σ H R I h => (L2H.pi_range1H hg hm ha hs).run pins s σ H R I (LI.range1 h)⟩
theorem je_lcH {elt tg iter : Expr} {ifs : List Expr} {scope : Scope} {own : List (Str × Nat)} {fi : DA} {gt : DG} {t : DT} (hc : L2H.HotC X) (hN : X.N.Nodup) (hi : JIH X W tg iter fi) (ok : BlkOk X.N X.env.scope scope own)
    (hg : ∀ (s : Shared) (H : Hp) (C : Addr) (cl : List (Str × Addr)) (fp : List Addr), PG (blkH X s H scope (compEnvC scope cl C X.env) fp) tg (LTgw (om X) (own.map (·.2)) gt))
    (ht : ∀ (s : Shared) (H : Hp) (C : Addr) (cl : List (Str × Addr)) (fp : List Addr), PTs (blkH X s H scope (compEnvC scope cl C X.env) fp) ifs (LT (om X) W0 t))
    (he : ∀ (s : Shared) (H : Hp) (C : Addr) (cl : List (Str × Addr)) (fp : List Addr), PE (blkH X s H scope (compEnvC scope cl C X.env) fp) elt (LE (om X) W0 fa)) (hs : ∀ x, foldedSetIterable iter X.env x = pure x := by intro _; rfl) :
    JE X W (.ListComp elt [⟨tg, iter, ifs, 0⟩] scope pos) (dLc fi gt t fa (own.map (·.2))) :=
  pe_imp (pe_lcH hc hN hi ok (fun s H C cl fp => pg_hide (hg s H C cl fp)) (fun s H C cl fp => pts_hide (ht s H C cl fp)) (fun s H C cl fp => pe_hide (he s H C cl fp)) hs) fun σ H Q h => LE.lc h
end
end DL
/-! for over a list of the store, as it stands at each turn -/
namespace DL
open PySem PySem.Spec L2 PyProof.Rows
def dForRL (n : Nat) (tg : DG) (b : DS) : Nat → Nat → DS
  | 0, _, _, _ => .bad
  | k + 1, i, δ, S => match S[n]? with
    | some (.lst xs) => (match xs[i]? with
      | some x => toK (tg x δ S) fun δ1 S1 => (b δ1 S1).turn fun δ2 S2 => dForRL n tg b k (i + 1) δ2 S2
      | none => .nx δ S)
    | _ => .bad
def dForR (k : Nat) (fe : DE) (tg : DG) (b : DS) : DS := fun δ S => (fe δ S).thenF δ fun d S1 => match d with
  | .ref n => dForRL n tg b k 0 δ S1
  | _ => .bad
section
variable {X : Cx} {W : WX} {pos : Pos} {iter tg : Expr} {body : List Stmt} {fe : DE} {gt : DG} {f : DS}
theorem js_forR (k : Nat) (hc : X.calm = true) (hp : PassesOwn (model X.prog X.w) X.A X.env X.xe) (he : JE X W iter fe) (hg : JG X tg gt) (hb : JSs X W body f)
    (hs : ∀ x, foldedSetIterable iter X.env x = pure x := by intro _; rfl) : JS X W (.For tg iter body [] pos) (dForR k fe gt f) :=
  ps_imp (ps_for hp hc (pi_list he) hg hb hs) fun E σ H ⟨ρ, δ, S, r, rs, h⟩ => by
    refine ⟨ρ, δ, S, r, rs, LF.of r rs h fun ρ1 d S1 v H1 s1 r1 p1 rs1 h1 => ?_⟩
    cases d with
    | ref n =>
      obtain ⟨a, e1, rfl⟩ := p1
      replace h1 : LF (om X) W (dForRL n gt f k 0 δ S1) ρ1 H1 E := h1
      have hq : ∃ xs, SqL X.K H1 a xs := by
        cases k with
        | zero => exact h1.elim
        | succ k =>
          unfold dForRL at h1
          split at h1
          · rename_i xs hS
            have ob : OR (om X) ρ1 H1 a (.lst xs) := r1.ob n a _ e1 hS
            obtain ⟨vs, hv, _⟩ := ob
            exact ⟨vs, .of hv⟩
          · exact h1.elim
      refine ⟨a, rfl, hq, fun i m σ H => ∃ ρ δ S, Rel (om X) ρ H S ∧ RelS X.K ρ H δ σ ∧ ρ[n]? = some a ∧ LF (om X) W (dForRL n gt f m i δ S) ρ H E, ⟨k, ρ1, δ, S1, r1, rs1, e1, h1⟩, ?_⟩
      rintro i m σ2 H2 ⟨ρ2, δ2, S2, r2, rs2, e2, h2⟩
      cases m with
      | zero => exact h2.elim
      | succ m =>
        unfold dForRL at h2
        split at h2
        · rename_i xs hS
          have ob : OR (om X) ρ2 H2 a (.lst xs) := r2.ob n a _ e2 hS
          obtain ⟨vs, hv, hvs⟩ := ob
          cases ex : xs[i]? with
          | none =>
            rw [ex] at h2
            refine .inl ⟨⟨vs, .of hv, ?_⟩, h2 ρ2 σ2 H2 .refl r2 rs2⟩
            rw [← VRs.len hvs]
            exact List.getElem?_eq_none_iff.mp ex
          | some x =>
            rw [ex] at h2
            obtain ⟨u, hu, hxu⟩ := VRs.get hvs ex
            refine .inr ⟨⟨vs, u, .of hv, hu⟩, fun σ' H' => ∃ ρ δ S, Rel (om X) ρ H' S ∧ RelS X.K ρ H' δ σ' ∧ ρ[n]? = some a ∧ LF (om X) W (dForRL n gt f m (i + 1) δ S) ρ H' E, fun σ' H' q => ⟨m, Nat.lt_succ_self _, q⟩, fun y H' hy => ?_⟩
            obtain ⟨rfl, hy⟩ := hy
            have ey := hy vs (.of hv)
            rw [hu] at ey
            cases ey
            refine ⟨ρ2, δ2, S2, x, r2, rs2, hxu, ?_⟩
            replace h2 : LF (om X) W (toK (gt x δ2 S2) fun δ1 S1 => (f δ1 S1).turn fun δ2 S2 => dForRL n gt f m (i + 1) δ2 S2) ρ2 H' E := h2
            cases eg : gt x δ2 S2 with
            | ok δ3 S3 =>
              rw [eg] at h2
              exact fun ρ3 σ3 H3 s3 r3 rs3 => ⟨ρ3, δ3, S3, r3, rs3, LF.turn' (LF.shift (r := (f δ3 S3).turn _) s3 h2) fun ρ4 σ4 H4 δ4 S4 s4 r4 rs4 h4 => ⟨ρ4, δ4, S4, r4, rs4, (s3.trans s4).at e2, h4⟩⟩
            | exc y S' => rw [eg] at h2; exact h2
            | bad => rw [eg] at h2; exact h2
        · exact h2.elim
    | _ => exact h1.elim
end
end DL
/-! the head's Hook: HeadHook2's facts, a Bool of one's own over the part told, the methods that say super(); the class statics are in the part. -/
namespace DL
open PySem PySem.Spec L2
/-! ### exception classes by Booleans -/
def oexM (C : Addr) (mro : List Value) (l : List (Option Value)) : Bool := match mro, l with
  | .ref C' :: bm, [_, _, _, _, some (.builtin n), _] => decide (C' = C) && (decide (n = "ValueError.__new__") && PySem.HandSPX.refsVE bm)
  | _, _ => false
theorem oexM_ok {C : Addr} {mro : List Value} {l : List (Option Value)} (h : oexM C mro l = true) : ∃ bm k0 k1 k2 k3 k5, mro = .ref C :: bm ∧ l = [k0, k1, k2, k3, some (.builtin "ValueError.__new__"), k5] ∧ PySem.HandSPX.refsVE bm = true := by
  unfold oexM at h
  split at h
  · obtain ⟨b1, h1⟩ := Bool.and_eq_true_iff.mp h
    obtain ⟨b2, b3⟩ := Bool.and_eq_true_iff.mp h1
    have b1 := of_decide_eq_true b1
    have b2 := of_decide_eq_true b2
    subst b1 b2
    exact ⟨_, _, _, _, _, _, rfl, rfl, b3⟩
  · cases h
def oexB (K : PySem.W.Frag) (C : Addr) : Bool := (match K.lookup C with
  | some ⟨.type t, _, .cls cd, sl⟩ => decide (t = "type") && (cd.hasDict && (!cd.hasDel && oexM C cd.mro sl.toList))
  | _ => false) && (He.eqO (PySem.W.findIn K (.ref C) "__setattr__") (some (some (.builtin "object.__setattr__"))) &&
    (decide (PySem.W.subIn K (.ref C) (.type "BaseException") = some true) && (decide (PySem.W.typeIn K (.ref C) = some (.type "type")) && PySem.W.keepIn K (.ref C))))
theorem oexB_ok {K : PySem.W.Frag} {C : Addr} (h : oexB K C = true) : OexC K C := by
  obtain ⟨h1, h⟩ := Bool.and_eq_true_iff.mp h
  obtain ⟨h2, h⟩ := Bool.and_eq_true_iff.mp h
  obtain ⟨h3, h⟩ := Bool.and_eq_true_iff.mp h
  obtain ⟨h4, h5⟩ := Bool.and_eq_true_iff.mp h
  refine ⟨?_, He.eqO_ok h2, of_decide_eq_true h3, of_decide_eq_true h4, h5⟩
  cases q : K.lookup C with
  | none => rw [q] at h1; cases h1
  | some o =>
    obtain ⟨oc, od, dt, sl⟩ := o
    rw [q] at h1
    cases oc with
    | type t =>
      cases dt with
      | cls cd =>
        obtain ⟨nm, bs, mro, ns, qn, hd, sn, sub, ab, col, del⟩ := cd
        have g1 : (decide (t = "type") && (hd && (!del && oexM C mro sl.toList))) = true := h1
        obtain ⟨a1, g2⟩ := Bool.and_eq_true_iff.mp g1
        obtain ⟨a2, g3⟩ := Bool.and_eq_true_iff.mp g2
        obtain ⟨a3, g4⟩ := Bool.and_eq_true_iff.mp g3
        have a1 := of_decide_eq_true a1
        obtain ⟨bm, k0, k1, k2, k3, k5, em, es, b3⟩ := oexM_ok g4
        subst a1
        subst a2
        have a3 : del = false := by cases del <;> first | rfl | cases a3
        subst a3
        subst em
        have hsl : sl = #[k0, k1, k2, k3, some (.builtin "ValueError.__new__"), k5] := by
          obtain ⟨l⟩ := sl
          simp only at es
          rw [es]
        subst hsl
        exact ⟨nm, qn, ns, bs, bm, sn, sub, ab, col, od, k0, k1, k2, k3, k5, rfl, b3⟩
      | _ => cases h1
    | _ => cases dt <;> cases h1
def supcB (K : PySem.W.Frag) (C D : Addr) (v : Value) : Bool := decide (PySem.W.mroIn K C (.ref D) = some true) && He.eqO (PySem.W.ks_superIn K C D "__init__") (some (some v))
theorem supcB_ok {K : PySem.W.Frag} {C D : Addr} {v : Value} (h : supcB K C D v = true) : SupC K C D v := by
  obtain ⟨h1, h2⟩ := Bool.and_eq_true_iff.mp h
  exact ⟨of_decide_eq_true h1, He.eqO_ok h2⟩
def exSB (K : PySem.W.Frag) (C D fI : Addr) : Bool := oexB K C && (He.eqO (PySem.W.findIn K (.ref C) "__init__") (some (some (.ref fI))) && (decide (PySem.W.typeIn K (.ref fI) = some (.type "function")) && (supcB K C D (.builtin "ValueError.__init__") &&
  (decide (PySem.W.subIn K (.ref C) (.type "ValueError") = some true) && He.eqO (PySem.W.findIn K (.ref C) "code") (some none)))))
theorem exSB_ok {K : PySem.W.Frag} {C D fI : Addr} (h : exSB K C D fI = true) : ExS K C D fI := by
  obtain ⟨h1, h⟩ := Bool.and_eq_true_iff.mp h
  obtain ⟨h2, h⟩ := Bool.and_eq_true_iff.mp h
  obtain ⟨h3, h⟩ := Bool.and_eq_true_iff.mp h
  obtain ⟨h4, h⟩ := Bool.and_eq_true_iff.mp h
  obtain ⟨h5, h6⟩ := Bool.and_eq_true_iff.mp h
  exact ⟨oexB_ok h1, He.eqO_ok h2, of_decide_eq_true h3, supcB_ok h4, of_decide_eq_true h5, He.eqO_ok h6⟩
def exTB (K : PySem.W.Frag) (C D D0 fI f0 : Addr) (n : Str) : Bool := oexB K C && (He.eqO (PySem.W.findIn K (.ref C) "__init__") (some (some (.ref fI))) && (decide (PySem.W.typeIn K (.ref fI) = some (.type "function")) && (supcB K C D (.ref f0) && (supcB K C D0 (.builtin "ValueError.__init__") &&
  (decide (PySem.W.subIn K (.ref C) (.type "ValueError") = some true) && (He.eqO (PySem.W.findIn K (.ref C) "code") (some none) && He.eqO (PySem.W.findIn K (.ref C) n) (some none)))))))
theorem exTB_ok {K : PySem.W.Frag} {C D D0 fI f0 : Addr} {n : Str} (h : exTB K C D D0 fI f0 n = true) : ExT K C D D0 fI f0 n := by
  obtain ⟨h1, h⟩ := Bool.and_eq_true_iff.mp h
  obtain ⟨h2, h⟩ := Bool.and_eq_true_iff.mp h
  obtain ⟨h3, h⟩ := Bool.and_eq_true_iff.mp h
  obtain ⟨h4, h⟩ := Bool.and_eq_true_iff.mp h
  obtain ⟨h5, h⟩ := Bool.and_eq_true_iff.mp h
  obtain ⟨h6, h⟩ := Bool.and_eq_true_iff.mp h
  obtain ⟨h7, h8⟩ := Bool.and_eq_true_iff.mp h
  exact ⟨oexB_ok h1, He.eqO_ok h2, of_decide_eq_true h3, supcB_ok h4, supcB_ok h5, of_decide_eq_true h6, He.eqO_ok h7, He.eqO_ok h8⟩
/-! ### methods that say super() -/
structure SupD where
  cls : Str
  qual : Str
  st : Stmt
/-- the i-th statement of a class's body -/
def clsSt (s : Stmt) (i : Nat) : Stmt := match s with
  | .ClassDef _ _ _ b _ _ _ _ _ _ _ => b.getD i (.Pass ⟨0, 0, 0, 0⟩)
  | _ => .Pass ⟨0, 0, 0, 0⟩
def SupD.f (K : PySem.W.Frag) (d : SupD) : Addr := He.ma K (He.ga K d.cls) "__init__"
abbrev FnU : Type := Option (Str × Str × Arguments × FuncBody × Scope × Addr × List Str × Addr)
def supW (K : PySem.W.Frag) (f : Addr) : FnU := match K.lookup f with
  | some ⟨_, _, .func fd, _⟩ => some (fd.name, fd.qualname, fd.params, fd.body, fd.scope, fd.globals, fd.closure.map (·.1), fd.builtins)
  | _ => none
def SupD.val (d : SupD) : FnU := some ("__init__", d.qual, defArgs d.st, .stmts (defBody d.st), defScope d.st, mainGlobals, ["__class__"], builtinsNs)
def noneB : Value → Bool
  | .none => true
  | _ => false
def codeFile (P : Program) : Option Obj → Bool
  | some ⟨_, _, .fields vs, _⟩ => (match vs[2]? with
    | some (Value.str file _) => ((P.main.file : Str) == file)
    | _ => false)
  | _ => false
def cellIs (D : Addr) : Option Obj → Bool
  | some ⟨_, _, .cell (some (.ref D')), _⟩ => decide (D' = D)
  | _ => false
def supM (P : Program) (K : PySem.W.Frag) (D : Addr) (qual : Str) (cl : List (Str × Addr)) (code dV : Value) : Bool := match cl, code with
  | [(_, cc)], .ref cda => PySem.W.codeIn K (.ref cda) qual && (noneB dV && (codeFile P (K.lookup cda) && cellIs D (K.lookup cc)))
  | _, _ => false
def supB (P : Program) (K : PySem.W.Frag) (f D : Addr) (qual : Str) : Bool := (match K.lookup f with
  | some ⟨_, _, .func fd, _⟩ => supM P K D qual fd.closure fd.code fd.defaults
  | _ => false) && ((PySem.W.clsIn K D).isSome && He.eqO (PySem.W.nsIn K cStatics "thirdparty.any") (some none))
theorem codeFile_ok {P : Program} {o : Option Obj} (h : codeFile P o = true) : ∃ ccl cdd vs ccs file tf, o = some ⟨ccl, cdd, .fields vs, ccs⟩ ∧ vs[2]? = some (.str file tf) ∧ ((P.main.file : Str) == file) = true := by
  unfold codeFile at h
  split at h
  · split at h
    · rename_i q
      exact ⟨_, _, _, _, _, _, rfl, q, h⟩
    · cases h
  · cases h
theorem cellIs_ok {D : Addr} {o : Option Obj} (h : cellIs D o = true) : ∃ cl cld csl, o = some ⟨cl, cld, .cell (some (.ref D)), csl⟩ := by
  unfold cellIs at h
  split at h
  · have e := of_decide_eq_true h
    subst e
    exact ⟨_, _, _, rfl⟩
  · cases h
theorem supM_ok {P : Program} {K : PySem.W.Frag} {D : Addr} {qual : Str} {cl : List (Str × Addr)} {code dV : Value} (h : supM P K D qual cl code dV = true) : ∃ y cc cda, cl = [(y, cc)] ∧ code = .ref cda ∧ dV = .none ∧ PySem.W.codeIn K (.ref cda) qual = true ∧ codeFile P (K.lookup cda) = true ∧ cellIs D (K.lookup cc) = true := by
  unfold supM at h
  split at h
  · obtain ⟨a1, h1⟩ := Bool.and_eq_true_iff.mp h
    obtain ⟨a2, h1⟩ := Bool.and_eq_true_iff.mp h1
    obtain ⟨a3, a4⟩ := Bool.and_eq_true_iff.mp h1
    have en : dV = .none := by
      cases dV <;> first | rfl | exact Bool.noConfusion a2
    exact ⟨_, _, _, rfl, rfl, en, a1, a3, a4⟩
  · cases h
theorem sup_ok {P : Program} {K : PySem.W.Frag} {d : SupD} {D : Addr} (ht : (P.main.scope.names.lookup ("super" : Str)).isSome = false) (e : supW K (d.f K) = d.val) (h : supB P K (d.f K) D d.qual = true) :
    ∃ cda cc fd, SupF P K (d.f K) D cda cc "__init__" d.qual (defArgs d.st) (defBody d.st) (defScope d.st) fd ∧ ∃ kV doc pm an ct, fd = PySem.W.ksFn "__init__" d.qual (defArgs d.st) (defBody d.st) (defScope d.st) .none kV doc pm an (.ref cda) ct cc := by
  obtain ⟨h1, h⟩ := Bool.and_eq_true_iff.mp h
  obtain ⟨h2, h3⟩ := Bool.and_eq_true_iff.mp h
  unfold supW at e
  cases q : K.lookup (d.f K) with
  | none => rw [q] at h1; cases h1
  | some o =>
    obtain ⟨oc, od, dt, osl⟩ := o
    rw [q] at h1 e
    cases dt with
    | func fd =>
      obtain ⟨n1, n2, n3, n4, n5, n6, n7, n8, n9, n10, n11, n12, n13, n14, n15⟩ := fd
      have e2 : (some (n1, n2, n3, n4, n5, n6, n7.map (·.1), n15) : FnU) = (some (("__init__" : Str), d.qual, defArgs d.st, FuncBody.stmts (defBody d.st), defScope d.st, mainGlobals, [("__class__" : Str)], builtinsNs) : FnU) := e
      simp only [Option.some.injEq, Prod.mk.injEq] at e2
      obtain ⟨g1, g2, g3, g4, g5, g6, g7, g8⟩ := e2
      subst g1 g2 g3 g4 g5 g6 g8
      have h1 : supM P K D d.qual n7 n13 n8 = true := h1
      obtain ⟨y, cc, cda, e7, e13, e8, a1, a3, a4⟩ := supM_ok h1
      subst e7 e13 e8
      have ey : y = "__class__" := by simpa using g7
      subst ey
      exact ⟨cda, cc, _, ⟨⟨_, _, _, _, _, _, _, _, _, rfl, q⟩, a1, codeFile_ok a3, cellIs_ok a4, h2, ht, He.eqO_ok h3⟩, _, _, _, _, _, rfl⟩
    | _ => cases h1
theorem sup_binds {K : PySem.W.Frag} {fd : FuncData} {name qual : Str} {params : Arguments} {body : List Stmt} {scope : Scope} {ps : List Str} {kV doc pm ct : Value} {an : Option Addr} {cda cc : Addr} (e : fd = PySem.W.ksFn name qual params body scope .none kV doc pm an (.ref cda) ct cc)
    (h : ∀ us : List Value, us.length = ps.length → bindArgs (PySem.W.ksFn name qual params body scope .none kV doc pm an (.ref cda) ct cc) ⟨us, []⟩ = pure (ps.zip us)) : Binds K fd ps [] := by
  subst e
  exact .all h
/-! ### the Hook -/
def asO (n : Nat) (g : Addr → Option Obj) : List Addr := PySem.cStatics :: He.asD g n
def isLst (o : Obj) : Bool := match o.cls with
  | .type c => decide (c = "list")
  | _ => false
/-- no list is in the part: the script is not -/
def frO (n : Nat) (g : Addr → Option Obj) : PySem.W.Frag := (He.frG g (asO n g)).filter fun q => !isLst q.2
theorem frO_mem {n : Nat} {g : Addr → Option Obj} {a : Addr} {o : Obj} (h : (frO n g).lookup a = some o) : g a = some o ∧ isLst o = false := by
  have m := He.lookup_mem h
  unfold frO at m
  obtain ⟨h1, h2⟩ := List.mem_filter.mp m
  refine ⟨He.frG_mem h1, ?_⟩
  have h2 : (!isLst o) = true := h2
  cases q : isLst o with
  | false => rfl
  | true => rw [q] at h2; cases h2
theorem frO_in {n : Nat} {h : Heap} : (frO n h.get?).In h := fun _ _ e => (frO_mem e).1
theorem not_lst {o : Obj} (h : isLst o = false) : o.cls ≠ .type "list" := fun e => by
  unfold isLst at h
  rw [e] at h
  cases h
abbrev AlO : Type := He.AlD × Bool × List FnU
def obsO (fa : List He.Fa) (fn : List He.DefD) (su : List SupD) (ex : PySem.W.Frag → Bool) (K : PySem.W.Frag) : AlO := (He.obsD fa fn K, ex K, su.map fun d => supW K (d.f K))
def valO (fn : List He.DefD) (su : List SupD) : AlO := (He.valD fn, true, su.map SupD.val)
structure SaysO (fa : List He.Fa) (fn : List He.DefD) (su : List SupD) (ex : PySem.W.Frag → Bool) (K : PySem.W.Frag) : Prop where
  d : He.SaysD fa fn K
  ex : ex K = true
  su : (su.map fun d => supW K (d.f K)) = su.map SupD.val
  nl : ∀ a o, K.lookup a = some o → o.cls ≠ .type "list"
def hookO (n : Nat) (fa : List He.Fa) (fn : List He.DefD) (su : List SupD) (ex : PySem.W.Frag → Bool) : PySem.W.Hook where
  α := AlO
  obs := fun s => obsO fa fn su ex (frO n s.heap.get?)
  val := fun _ => valO fn su
  says := fun _ h => ∃ K : PySem.W.Frag, K.In h ∧ SaysO fa fn su ex K
  of := fun _ _ e => ⟨_, frO_in, ⟨congrArg (fun z : AlO => z.1) e, congrArg (fun z : AlO => z.2.1) e, congrArg (fun z : AlO => z.2.2) e, fun _ _ l => not_lst (frO_mem l).2⟩⟩
  keeps := fun _ _ _ ⟨K, hK, c⟩ k => ⟨K, PySem.W.Frag.In.keeps hK k, c⟩
def obO (n : Nat) (fa : List He.Fa) (fn : List He.DefD) (su : List SupD) (ex : PySem.W.Frag → Bool) (s : PySem.W.SharedT) : AlO := obsO fa fn su ex (frO n (HandSHeadRun.getT s))
theorem obO_eq {n : Nat} {fa : List He.Fa} {fn : List He.DefD} {su : List SupD} {ex : PySem.W.Frag → Bool} (s : PySem.W.SharedT) : obO n fa fn su ex s = (hookO n fa fn su ex).obs s.abs := by
  have e : HandSHeadRun.getT s = s.abs.heap.get? := funext fun a => HandSHeadRun.getT_eq s a
  show obsO fa fn su ex (frO n (HandSHeadRun.getT s)) = _
  rw [e] <;> rfl
theorem SaysO.sup {fa : List He.Fa} {fn : List He.DefD} {su : List SupD} {ex : PySem.W.Frag → Bool} {K : PySem.W.Frag} (c : SaysO fa fn su ex K) (i : Nat) {d : SupD} (h : su[i]? = some d := by rfl) : supW K (d.f K) = d.val := by
  have e2 : (su.map fun d => supW K (d.f K))[i]? = (su.map SupD.val)[i]? := by rw [c.su]
  rw [List.getElem?_map, List.getElem?_map, h] at e2
  exact Option.some.inj e2
/-- the script, as a tree -/
theorem script_vr {K : PySem.W.Frag} {H : Hp} {a : Addr} {ns : List Int} (nl : ∀ a o, K.lookup a = some o → o.cls ≠ .type "list") (h : SqL K H a (ns.map V.int)) : VRs K [] H [.lst (ns.map D.int)] [.ref a] := by
  rcases h with h | ⟨o, its, n, h1, h2, _⟩
  · refine ⟨.ref a, [], rfl, ⟨a, ns.map V.int, rfl, h, by simp, ?_⟩, rfl⟩
    clear h
    induction ns with
    | nil => rfl
    | cons n ns ih => exact ⟨.int n, ns.map V.int, rfl, rfl, ih⟩
  · exact absurd h2 (nl _ _ h1)
theorem Rel.none {Ω : Wd} {H : Hp} : Rel Ω [] H [] := ⟨rfl, List.nodup_nil, fun n a o e => by simp at e⟩
/-- a law's promise, by its meaning -/
theorem law_sp {Ω : Wd} {H : Hp} {a : Addr} {ns : List Int} {m : DM} {S' : Store} (nl : ∀ a o, Ω.K.lookup a = some o → o.cls ≠ .type "list") (h : SqL Ω.K H a (ns.map V.int)) (hm : m [.lst (ns.map D.int)] [] = .ok (.bl true) S') :
    spOf Ω 1 m [.ref a] H (fun v _ => v = .bl true) fun _ _ _ => False := by
  refine ⟨[], [.lst (ns.map D.int)], [], .none, script_vr nl h, rfl, ?_⟩
  rw [hm]
  exact fun ρ' v H' s r hv => hv
theorem cx_no {P : Program} {w : World} {o : List Env} {H : Hp} {s s' : Shared} {e : Value} (h : L2N.CX P w o H s (fun _ _ _ => False) e s') : False := by
  unfold L2N.CX at h
  obtain ⟨a, B, H', cls, d, h⟩ := h
  exact h.2.2.2.2.2.2.2
/-- a law: F gives the written part, the function object, the promise over every base -/
theorem walk_ofW {l : PySem.W.OpenLaw} {n k : Nat} {q : Program} {loose : List Str} {XP : (Str → Option Value) → Heap → Prop} {YP : World → Heap → Prop} {d : DefRec} {x : Str}
    (hn : l.most = some n) (hn2 : n ≤ sizeLine) (hdf : d.params.defaults = []) (hr : Room k callerA)
    (F : ∀ (w : World) (mg : Str → Option Value) (fa : Addr) (h : Heap), YP w h → h.Ns mainGlobals mg → mg d.name = some (.ref fa) →
      ∃ (K : PySem.W.Frag) (fd : FuncData) (sp : Sp), K.In h ∧ (∀ (s : Shared) (u : Value), BindsTo s fd ⟨[u], []⟩ [(x, u)]) ∧
        (∀ (H : Hp) (a : Addr) (ns : List Int), ns.length ≤ n → Only H → SqL K H a (ns.map V.int) → sp [.ref a] H (fun v _ => v = .bl true) fun _ _ _ => False) ∧
        ∀ base : Heap, K.In base → base.Ns mainGlobals mg → FnOk l.prog w K mg base (L2N.CX l.prog w) k fa fd [x] sp) :
    PySem.W.WalkO q loose XP YP l.row.toRowW d [] (fun f vs => PySem.call f vs) := by
  refine Att.attach_call hn hdf fun w s₀ s₁ mg mb fa o pm cd doc a vs ns G Y ho hd hcd hmg hobj hints hlen hg => ?_
  obtain ⟨K, fd, sp, KX, hb, hsp, hF⟩ := F w mg fa _ Y G.T.g hmg
  exact law_call KX G.T.g G.T.b G.T.builtins G.T.nolimit hg hobj hints (Nat.le_trans hlen hn2) hr hF hb (fun H hO hS => hsp H a ns hlen hO hS) fun H e s' => cx_no
theorem fun_binds {K : PySem.W.Frag} {x qual : Str} {st : Stmt} {f : Addr} {fd : FuncData} {ps : List Str} (F : Fun K x qual st f fd)
    (h : ∀ (kV doc pm : Value) (an : Option Addr) (cdv ct : Value) (us : List Value), us.length = ps.length → bindArgs (PySem.W.fnOf x qual (defArgs st) (defBody st) (defScope st) .none kV doc pm an cdv ct) ⟨us, []⟩ = pure (ps.zip us)) (s : Shared) (us : List Value) (hl : us.length = ps.length) : BindsTo s fd ⟨us, []⟩ (ps.zip us) := by
  obtain ⟨oc, od, kV, doc, pm, an, cdv, ct, osl, rfl, lk, hcd⟩ := F.ex
  exact .of_eq (h kV doc pm an cdv ct us hl)
end DL
/-! the head's Hook, and written dicts; booleans for caught errors -/
namespace DL
open PySem PySem.Spec L2
theorem dicW_es {K : PySem.W.Frag} {w : World} {a : Addr} {ks : List Str} (h : He.dicW K a = some (He.keysIn w.params ks)) : ∃ es n, K.lookup a = some ⟨.type "dict", none, .dict es n, #[]⟩ ∧ es.toList.map He.keyOf = He.keysIn w.params ks ∧ (a == sysModules) = false := by
  unfold He.dicW at h
  split at h
  · rename_i c es n sl q
    split at h
    · rename_i z
      obtain ⟨z1, z2⟩ := Bool.and_eq_true_iff.mp z
      obtain ⟨z3, z4⟩ := Bool.and_eq_true_iff.mp z2
      have e1 : c = "dict" := of_decide_eq_true z1
      have e2 : sl = #[] := Array.isEmpty_iff.mp z3
      subst e1 e2
      refine ⟨es, n, q, Option.some.inj h, ?_⟩
      cases y : a == sysModules with
      | false => rfl
      | true => rw [y] at z4; cases z4
    · cases h
  · cases h
/-! ### the part that is looked at: what some names of the module reach -/
def rootsN (g : Addr → Option Obj) (xs : List Str) : List Addr := match g mainGlobals with
  | some ⟨_, _, .dict es _, _⟩ => es.toList.flatMap fun e => (match e.key with
    | .str x _ => (match decide (x ∈ xs) with
      | true => He.refV e.val
      | false => [])
    | _ => [])
  | _ => []
def growN (g : Addr → Option Obj) : Nat → List Addr → List Addr
  | 0, as => as
  | n + 1, as => growN g n (He.growD g as)
def asN (n : Nat) (xs : List Str) (g : Addr → Option Obj) : List Addr := mainGlobals :: PySem.cStatics :: growN g n (rootsN g xs)
def frA (as : (Addr → Option Obj) → List Addr) (g : Addr → Option Obj) : PySem.W.Frag := (He.frG g (as g)).filter fun q => !isLst q.2
theorem frA_mem {as : (Addr → Option Obj) → List Addr} {g : Addr → Option Obj} {a : Addr} {o : Obj} (h : (frA as g).lookup a = some o) : g a = some o ∧ isLst o = false := by
  have m := He.lookup_mem h
  unfold frA at m
  obtain ⟨h1, h2⟩ := List.mem_filter.mp m
  refine ⟨He.frG_mem h1, ?_⟩
  have h2 : (!isLst o) = true := h2
  cases q : isLst o with
  | false => rfl
  | true => rw [q] at h2; cases h2
theorem frA_in {as : (Addr → Option Obj) → List Addr} {h : Heap} : (frA as h.get?).In h := fun _ _ e => (frA_mem e).1
/-- told to the end, then looked at -/
def forceK {α : Type} : PySem.W.Frag → (PySem.W.Frag → α) → α
  | [], k => k []
  | (a, o) :: r, k => HandSHeadRun.frNat a fun a => (match o with
    | ⟨c, d, x, l⟩ => forceK r fun r => k ((a, ⟨c, d, x, l⟩) :: r))
theorem forceK_eq {α : Type} : ∀ (K : PySem.W.Frag) (k : PySem.W.Frag → α), forceK K k = k K
  | [], k => rfl
  | (a, o) :: r, k => by
    obtain ⟨c, d, x, l⟩ := o
    show HandSHeadRun.frNat a (fun a => forceK r fun r => k ((a, ⟨c, d, x, l⟩) :: r)) = _
    rw [HandSHeadRun.frNat_eq, forceK_eq r]
abbrev AlU : Type := AlO × List (Option (List (Option (Str × Int))))
def obsU (fa : List He.Fa) (fn : List He.DefD) (su : List SupD) (ex : PySem.W.Frag → Bool) (ts : List He.Tab) (K : PySem.W.Frag) : AlU := (obsO fa fn su ex K, ts.map fun t => He.dicW K (t.1 K))
def valU (fn : List He.DefD) (su : List SupD) (ts : List He.Tab) (w : World) : AlU := (valO fn su, ts.map fun t => some (He.keysIn w.params t.2))
structure SaysU (fa : List He.Fa) (fn : List He.DefD) (su : List SupD) (ex : PySem.W.Frag → Bool) (ts : List He.Tab) (w : World) (K : PySem.W.Frag) : Prop where
  o : SaysO fa fn su ex K
  tb : (ts.map fun t => He.dicW K (t.1 K)) = ts.map fun t => some (He.keysIn w.params t.2)
def hookU (as : (Addr → Option Obj) → List Addr) (fa : List He.Fa) (fn : List He.DefD) (su : List SupD) (ex : PySem.W.Frag → Bool) (ts : List He.Tab) : PySem.W.Hook where
  α := AlU
  obs := fun s => obsU fa fn su ex ts (frA as s.heap.get?)
  val := fun w => valU fn su ts w
  says := fun w h => ∃ K : PySem.W.Frag, K.In h ∧ SaysU fa fn su ex ts w K
  of := fun _ _ e => ⟨_, frA_in, ⟨⟨congrArg (fun z : AlU => z.1.1) e, congrArg (fun z : AlU => z.1.2.1) e, congrArg (fun z : AlU => z.1.2.2) e, fun _ _ l => not_lst (frA_mem l).2⟩, congrArg (fun z : AlU => z.2) e⟩⟩
  keeps := fun _ _ _ ⟨K, hK, c⟩ k => ⟨K, PySem.W.Frag.In.keeps hK k, c⟩
def obU (as : (Addr → Option Obj) → List Addr) (fa : List He.Fa) (fn : List He.DefD) (su : List SupD) (ex : PySem.W.Frag → Bool) (ts : List He.Tab) (s : PySem.W.SharedT) : AlU := forceK (frA as (HandSHeadRun.getT s)) (obsU fa fn su ex ts)
theorem obU_eq {as : (Addr → Option Obj) → List Addr} {fa : List He.Fa} {fn : List He.DefD} {su : List SupD} {ex : PySem.W.Frag → Bool} {ts : List He.Tab} (s : PySem.W.SharedT) : obU as fa fn su ex ts s = (hookU as fa fn su ex ts).obs s.abs := by
  have e : HandSHeadRun.getT s = s.abs.heap.get? := funext fun a => HandSHeadRun.getT_eq s a
  unfold obU
  rw [forceK_eq, e]
  rfl
theorem SaysU.dic {fa : List He.Fa} {fn : List He.DefD} {su : List SupD} {ex : PySem.W.Frag → Bool} {ts : List He.Tab} {w : World} {K : PySem.W.Frag} (c : SaysU fa fn su ex ts w K) (i : Nat) {t : He.Tab} (h : ts[i]? = some t := by rfl) :
    ∃ es n, K.lookup (t.1 K) = some ⟨.type "dict", none, .dict es n, #[]⟩ ∧ es.toList.map He.keyOf = He.keysIn w.params t.2 ∧ (t.1 K == sysModules) = false := by
  have e2 : (ts.map fun t => He.dicW K (t.1 K))[i]? = (ts.map fun t => some (He.keysIn w.params t.2))[i]? := by rw [c.tb]
  rw [List.getElem?_map, List.getElem?_map, h] at e2
  exact dicW_es (Option.some.inj e2)
/-! ### caught errors -/
def excB (K : PySem.W.Frag) (C : Addr) : Bool := He.eqO (PySem.W.findIn K (.ref C) "__getattribute__") (some (some (.builtin "BaseException.__getattribute__"))) && (He.eqO (PySem.W.findIn K (.ref C) "__getattr__") (some none) && (decide (PySem.W.subIn K (.ref C) (.type "BaseException") = some true) &&
  (PySem.W.hasDictIn K C && (He.eqO (PySem.W.findIn K (.ref C) "__class__") (some (some (.builtin "object.__class__"))) && (He.eqO (PySem.W.specialIn K (.builtin "object.__class__") "__get__") (some (some (.builtin "getset_descriptor.__get__"))) &&
  (decide (PySem.W.takesIn K (.builtin "object.__class__") = some true) && decide (PySem.W.mroIn K C (.type "object") = some true)))))))
theorem excB_ok {K : PySem.W.Frag} {C : Addr} (h : excB K C = true) : ExcC K C := by
  obtain ⟨h1, h⟩ := Bool.and_eq_true_iff.mp h
  obtain ⟨h2, h⟩ := Bool.and_eq_true_iff.mp h
  obtain ⟨h3, h⟩ := Bool.and_eq_true_iff.mp h
  obtain ⟨h4, h⟩ := Bool.and_eq_true_iff.mp h
  obtain ⟨h5, h⟩ := Bool.and_eq_true_iff.mp h
  obtain ⟨h6, h⟩ := Bool.and_eq_true_iff.mp h
  obtain ⟨h7, h8⟩ := Bool.and_eq_true_iff.mp h
  exact ⟨He.eqO_ok h1, He.eqO_ok h2, of_decide_eq_true h3, h4, He.eqO_ok h5, He.eqO_ok h6, of_decide_eq_true h7, of_decide_eq_true h8⟩
end DL
/-! the meanings of the defs of k20 -/
namespace K20
open PySem DL
def own : List Str := ["TextError", "TermError", "CommandError", "ProofError"]
def sub_SolverError : Str → Option Bool := fun c => if c ∈ own then some true else none
def is_ValueError : Str → Option Bool := sub_SolverError
def is_TextError : Str → Option Bool := fun c => if c ∈ own then some (decide (c = ("TextError" : Str))) else none
def is_TermError : Str → Option Bool := fun c => if c ∈ own then some (decide (c = ("TermError" : Str))) else none
def is_CommandError : Str → Option Bool := fun c => if c ∈ own then some (decide (c = ("CommandError" : Str))) else none
def is_ProofError : Str → Option Bool := fun c => if c ∈ own then some (decide (c = ("ProofError" : Str))) else none
def b_tokens_f1 : DS := (dIf (dOr (dTest (dOp (gInS false) (dVar 6) (dC (.str (PySem.Str.ofString " \n();"))))) (dTru (dVar 4))) (dSeq (dIf (dTru (dVar 2)) (dSeq (dExpr (dAppend (dVar 1) (dTup (dCons (dVar 2) (dCons (dVar 3) dNil)))))
          (dSet 2 (dC (.str (PySem.Str.ofString ""))))) dNx)
        (dSeq (dSet 4 (dOrV (dOp (gEq false) (dVar 6) (dC (.str (PySem.Str.ofString ";")))) (dAndV (dVar 4) (dOp (gEq true) (dVar 6) (dC (.str (PySem.Str.ofString "\n")))))))
        (dIf (dAnd (dTest (dOp (gInS false) (dVar 6) (dC (.str (PySem.Str.ofString "()"))))) (dNot (dTru (dVar 4)))) (dExpr (dAppend (dVar 1) (dTup (dCons (dVar 6) (dCons (dVar 5) dNil))))) dNx))) (dSeq (dSet 3 (dIfE (dTru (dVar 2)) (dVar 3) (dVar 5)))
        (dAug 2 gAdd (dVar 6))))

def b_tokens : DS := (dSeq (dAsg (dTup (dCons (dNew dNil) (dCons (dC (.str (PySem.Str.ofString ""))) (dCons (dC (.int 0)) (dCons (dC (.bl false)) dNil))))) (dgTup 4 (dgCons (dgName 1) (dgCons (dgName 2) (dgCons (dgName 3) (dgCons (dgName 4) dgNil))))))
    (dSeq (dFor (diEnumS (dCons (dOp gAdd (dVar 0) (dC (.str (PySem.Str.ofString "\n")))) dNil)) (dgTup 2 (dgCons (dgName 5) (dgCons (dgName 6) dgNil))) b_tokens_f1)
    (dRet (dVar 1))))
def f_tokens : DM := runFnK 1 7 b_tokens

def b_whole_or_word : DS := (dSeq (dSet 2 (dIfE (dTest (dOp (gEq false) (dOp gIx (dVar 0) (dC (.int 0))) (dC (.str (PySem.Str.ofString "-"))))) (dSl gSlS (dVar 0) (doS (dC (.int 1))) doN) (dVar 0)))
    (dSeq (dIf (dAnd (dTest (dOp (gEq true) (dVar 2) (dC (.str (PySem.Str.ofString ""))))) (dTru (dCall (gAnyAll false) (dCons (dLc (diS (dVar 2)) (dgName 3) dYes (dOp (gInS false) (dVar 3) (dC (.str (PySem.Str.ofString "0123456789")))) [3]) dNil)))) (dSeq (dIf (dOr (dTest (dOp gGt (dCall gLen (dCons (dVar 2) dNil)) (dC (.int 9)))) (dOr (dAnd (dTest (dOp gGt (dCall gLen (dCons (dVar 2) dNil)) (dC (.int 1)))) (dTest (dOp (gEq false) (dOp gIx (dVar 2) (dC (.int 0))) (dC (.str (PySem.Str.ofString "0")))))) (dTest (dOp (gEq false) (dVar 0) (dC (.str (PySem.Str.ofString "-0"))))))) (dRaise "TextError" (mkT "place") (dCons (dC (.str (PySem.Str.ofString "number"))) (dCons (dVar 1) dNil))) dNx)
      (dRet (dCall gInt (dCons (dVar 0) dNil)))) dNx)
    (dRet (dVar 0))))
def f_whole_or_word : DM := runFnK 2 4 b_whole_or_word

def b_read_f1 : DS := (dIf (dTest (dOp (gEq false) (dVar 2) (dC (.str (PySem.Str.ofString "("))))) (dSeq (dExpr (dAppend (dVar 1) (dNew dNil)))
        (dIf (dTest (dOp gGt (dCall gLen (dCons (dVar 1) dNil)) (dC (.int 40)))) (dRaise "TextError" (mkT "place") (dCons (dC (.str (PySem.Str.ofString "deep"))) (dCons (dVar 3) dNil))) dNx)) (dIf (dTest (dOp (gEq false) (dVar 2) (dC (.str (PySem.Str.ofString ")"))))) (dSeq (dIf (dTest (dOp (gEq false) (dCall gLen (dCons (dVar 1) dNil)) (dC (.int 1)))) (dRaise "TextError" (mkT "place") (dCons (dC (.str (PySem.Str.ofString "close"))) (dCons (dVar 3) dNil))) dNx)
          (dSeq (dSet 4 (dCall gTuple (dCons (fun δ S => ((dVar 1) δ S).bind gPop) dNil)))
          (dExpr (dAppend (dOp gIx (dVar 1) (dOp (fun x _ => gSub (.int 0) x) (dC (.int 1)) (dC .non))) (dVar 4))))) (dExpr (dAppend (dOp gIx (dVar 1) (dOp (fun x _ => gSub (.int 0) x) (dC (.int 1)) (dC .non))) (dCall (fun ds S => if ds.length = 2 then f_whole_or_word ds S else .bad) (dCons (dVar 2) (dCons (dVar 3) dNil)))))))

def b_read : DS := (dSeq (dIf (dTest (dOp gGt (dCall gLen (dCons (dVar 0) dNil)) (dC (.int 20000)))) (dRaise "TextError" (mkT "place") (dCons (dC (.str (PySem.Str.ofString "long"))) (dCons (dC (.int 0)) dNil))) dNx)
    (dSeq (dSet 1 (dNew (dCons (dNew dNil) dNil)))
    (dSeq (dForR 100000 (dCall (fun ds S => if ds.length = 1 then f_tokens ds S else .bad) (dCons (dVar 0) dNil)) (dgTup 2 (dgCons (dgName 2) (dgCons (dgName 3) dgNil))) b_read_f1)
    (dSeq (dIf (dTest (dOp gGt (dCall gLen (dCons (dVar 1) dNil)) (dC (.int 1)))) (dRaise "TextError" (mkT "place") (dCons (dC (.str (PySem.Str.ofString "open"))) (dCons (dCall gLen (dCons (dVar 0) dNil)) dNil))) dNx)
    (dRet (dCall gTuple (dCons (dOp gIx (dVar 1) (dC (.int 0))) dNil)))))))
def f_read : DM := runFnK 1 5 b_read

def b_is_integer : DS := (dRet (dAndV (dIsi "int" (dVar 0)) (dNotV (dIsi "bool" (dVar 0)))))
def f_is_integer : DM := runFnK 1 1 b_is_integer

def b_is_name : DS := (dSeq (dIf (dOr (dNot (dTru (dIsi "str" (dVar 0)))) (dOr (dNot (dTest (dChain gLe gLe (dC (.int 1)) (dCall gLen (dCons (dVar 0) dNil)) (dC (.int 20))))) (dOr tBad tBad))) (dRet (dC (.bl false))) dNx)
    sBad)
def f_is_name : DM := runFnK 1 2 b_is_name

def b_declared : DS := (dSeq (dIf (dNot (dTru (dCall (fun ds S => if ds.length = 1 then f_is_name ds S else .bad) (dCons (dVar 1) dNil)))) (dRaise "TermError" mkS (dCons (dC (.str (PySem.Str.ofString "name"))) dNil)) dNx)
    (dSeq (dIf (dTest (dOp (gInS false) (dVar 1) (dVar 0))) (dRaise "TermError" mkS (dCons (dC (.str (PySem.Str.ofString "twice"))) dNil)) dNx)
    (dSeq (dIf (dAnd (dTest (dOp (gEq false) (dOp gIx (dVar 2) (dC (.int 0))) (dC (.str (PySem.Str.ofString "int"))))) (dNot (dAnd (dTest (dOp gLe (dOp gIx (dVar 2) (dC (.int 1))) (dOp gIx (dVar 2) (dC (.int 2))))) (dAnd tBad tBad)))) (dRaise "TermError" mkS (dCons (dC (.str (PySem.Str.ofString "range"))) dNil)) dNx)
    (dSeq (dIf (dAnd (dTest (dOp (gEq false) (dOp gIx (dVar 2) (dC (.int 0))) (dC (.str (PySem.Str.ofString "word"))))) (dNot tBad)) (dRaise "TermError" mkS (dCons (dC (.str (PySem.Str.ofString "width"))) dNil)) dNx)
    (dSeq (dIf (dOr tBad (dAnd (dTest (dOp (gEq false) (dOp gIx (dVar 2) (dC (.int 0))) (dC (.str (PySem.Str.ofString "fun"))))) (dNot (dTru (dOp gIx (dVar 2) (dC (.int 1))))))) (dRaise "TermError" mkS (dCons (dC (.str (PySem.Str.ofString "sort"))) dNil)) dNx)
    sBad)))))
def f_declared : DM := runFnK 3 4 b_declared

def b_Gates___init__ : DS := (dSeq (dSetF "Gates" "table" (dVar 0) (dNew dNil))
    (dSetF "Gates" "numbers" (dVar 0) (dDNew true)))
def f_Gates___init__ : DM := runFnK 1 1 b_Gates___init__

def b_Gates_named : DS := (dSeq (dIf (dTest (dDIn true (dVar 1) (dFld "Gates" "numbers" (dVar 0)))) (dSeq (dExpr (dAppend (dFld "Gates" "table" (dVar 0)) (dVar 1)))
      (dDPut (dFld "Gates" "numbers" (dVar 0)) (dVar 1) (dCall gLen (dCons (dFld "Gates" "table" (dVar 0)) dNil)))) dNx)
    (dRet (dDGet (dFld "Gates" "numbers" (dVar 0)) (dVar 1))))
def f_Gates_named : DM := runFnK 2 2 b_Gates_named

def b_need_proofs : DS := (dIf (dNot (dTru (dVar 0))) (dRaise "ProofError" (mkT "step") (dCons (dVar 1) (dCons (dVar 2) dNil))) dNx)
def f_need_proofs : DM := runFnK 3 3 b_need_proofs

def b_unit_closure_f1 : DS := (dIf (dNot (dTru (dCall (gAnyAll true) (dCons (dLc (diL (dVar 4)) (dgName 7) dYes (dDIn false (dVar 7) (dVar 2)) [7]) dNil)))) (dSeq sBad
          (dSeq (dIf (dNot (dTru (dVar 5))) (dRet (dC (.bl true))) dNx)
          (dIf (dTest (dOp (gEq false) (dCall gLen (dCons (dVar 5) dNil)) (dC (.int 1)))) (dSeq (dDPut (dVar 2) (dOp gIx (dVar 5) (dC (.int 0))) (dC (.bl true)))
            (dSet 3 (dC (.bl true)))) dNx))) dNx)

def b_unit_closure : DS := (dSeq (dSet 2 (dDc false (diL (dVar 1)) (dgName 6) dYes (dVar 6) (dC (.bl true)) [6]))
    (dSeq (dIf (dTru (dCall (gAnyAll true) (dCons (dLk 2 (dLc (diKeys (dVar 2)) (dgName 6) dYes (dDIn false (dOp (fun x _ => gSub (.int 0) x) (dVar 6) (dC .non)) (dVar 2)) [6])) dNil))) (dRet (dC (.bl true))) dNx)
    (dSeq (dSet 3 (dC (.bl true)))
    (dSeq (dWhile (dTru (dVar 3)) (dSeq (dSet 3 (dC (.bl false)))
      (dFor (diL (dVar 0)) (dgName 4) b_unit_closure_f1)) 1000)
    (dRet (dC (.bl false)))))))
def f_unit_closure : DM := runFnK 2 8 b_unit_closure

def b_holds : DS := (dSeq (dIf (dTest (dOp (gEq false) (dOp gIx (dVar 5) (dC (.int 0))) (dC (.str (PySem.Str.ofString "gate"))))) (dSeq (dSet 6 (dOp gIx (dVar 5) (dC (.int 1))))
      (dSeq sBad
      (dRet (dCall (gAnyAll true) (dCons (dLc (diL (dVar 7)) (dgName 15) dYes (dCall (gAnyAll false) (dCons (dLc (diL (dVar 15)) (dgName 16) dYes (dOp (gInS false) (dVar 16) (dVar 4)) [16]) dNil)) [15]) dNil))))) dNx)
    (dSeq (dIf (dTest (dOp (gEq false) (dOp gIx (dVar 5) (dC (.int 0))) (dC (.str (PySem.Str.ofString "assert"))))) (dSeq (dAsg (dOp gIx (dVar 1) (dOp gIx (dVar 5) (dC (.int 1)))) (dgTup 2 (dgCons (dgName 8) (dgCons (dgName 9) dgNil))))
      (dSeq (dSet 10 (dCall gLen (dCons (dFld "Gates" "table" (dVar 2)) dNil)))
      (dSeq sBad
      (dRet (dAndV (dOp (gEq false) (dCall gLen (dCons (dFld "Gates" "table" (dVar 2)) dNil)) (dVar 10)) (dAndV (dOp (gInS false) (dOp (fun x _ => gSub (.int 0) x) (dVar 8) (dC .non)) (dVar 4)) (dOp (gInS false) (dVar 11) (dVar 4)))))))) dNx)
    (dSeq (dIf (dTest (dOp (gEq false) (dOp gIx (dVar 5) (dC (.int 0))) (dC (.str (PySem.Str.ofString "rup"))))) (dRet (dCall (fun ds S => if ds.length = 2 then f_unit_closure ds S else .bad) (dCons (dVar 3) (dCons (dLc (diT (dVar 4)) (dgName 16) dYes (dOp (fun x _ => gSub (.int 0) x) (dVar 16) (dC .non)) [16]) dNil)))) dNx)
    (dSeq (dIf (dTest (dOp (gEq false) (dOp gIx (dVar 5) (dC (.int 0))) (dC (.str (PySem.Str.ofString "linear"))))) (dSeq sBad
      (dSeq (dIf (dNot (dTru (dCall (gAnyAll false) (dCons (dLc (diL (dVar 12)) (dgName 11) dYes (dOp (gInS false) (dOp (fun x _ => gSub (.int 0) x) (dVar 11) (dC .non)) (dVar 4)) [11]) dNil)))) (dRet (dC (.bl false))) dNx)
      (dSeq (dIf (dNot (dTru (dCall (gAnyAll false) (dCons (dLc (diL (dVar 12)) (dgName 11) dYes (dOp (gEq false) (dOp gIx (dOp gIx (dFld "Gates" "table" (dVar 2)) (dOp gSub (dCall gAbs (dCons (dVar 11) dNil)) (dC (.int 1)))) (dC (.int 0))) (dC (.str (PySem.Str.ofString "le")))) [11]) dNil)))) (dRet (dC (.bl false))) dNx)
      sBad))) dNx)
    (dSeq (dIf (dTest (dOp (gEq false) (dOp gIx (dVar 5) (dC (.int 0))) (dC (.str (PySem.Str.ofString "equal"))))) (dSeq sBad
      (dSeq sBad
      sBad)) dNx)
    (dSeq (dIf tBad sBad dNx)
    (dRet (dC (.bl false)))))))))
def f_holds : DM := runFnK 6 19 b_holds

def b_check_proof_f1 : DS := (dSeq (dExpr (dCall (fun ds S => if ds.length = 3 then f_need_proofs ds S else .bad) (dCons (dCall (gAnyAll false) (dCons (dLc (diT (dVar 8)) (dgName 11) dYes (dAndV (dCall (fun ds S => if ds.length = 1 then f_is_integer ds S else .bad) (dCons (dVar 11) dNil)) (dChain gLt gLe (dC (.int 0)) (dCall gAbs (dCons (dVar 11) dNil)) (dCall gLen (dCons (dVar 2) dNil)))) [11]) dNil)) (dCons (dC (.str (PySem.Str.ofString "literal"))) (dCons (dVar 7) dNil)))))
      (dSeq (dExpr (dCall (fun ds S => if ds.length = 3 then f_need_proofs ds S else .bad) (dCons (dCall (fun ds S => if ds.length = 6 then f_holds ds S else .bad) (dCons (dVar 0) (dCons (dVar 1) (dCons (dVar 5) (dCons (dVar 6) (dCons (dVar 8) (dCons (dVar 9) dNil))))))) (dCons (dOp gIx (dVar 9) (dC (.int 0))) (dCons (dVar 7) dNil)))))
      (dExpr (dAppend (dVar 6) (dVar 8)))))

def b_check_proof : DS := (dSeq (dSet 5 (dMake "Gates" 1 f_Gates___init__ dNil))
    (dSeq (dSetF "Gates" "table" (dVar 5) (dCall gList (dCons (dVar 2) dNil)))
    (dSeq (dSetF "Gates" "numbers" (dVar 5) (dDc true (diEnumT (dVar 2)) (dgTup 2 (dgCons (dgName 7) (dgCons (dgName 10) dgNil))) dYes (dVar 10) (dOp gAdd (dVar 7) (dC (.int 1))) [7, 10]))
    (dSeq (dExpr (dCall (fun ds S => if ds.length = 3 then f_need_proofs ds S else .bad) (dCons (dOp (gEq false) (dCall gLenD (dCons (dFld "Gates" "numbers" (dVar 5)) dNil)) (dCall gLen (dCons (dVar 2) dNil))) (dCons (dC (.str (PySem.Str.ofString "table"))) (dCons (dOp (fun x _ => gSub (.int 0) x) (dC (.int 1)) (dC .non)) dNil)))))
    (dSeq (dSet 6 (dLst dNil))
    (dSeq (dFor (diEnumT (dVar 3)) (dgTup 2 (dgCons (dgName 7) (dgCons (dgTup 2 (dgCons (dgName 8) (dgCons (dgName 9) dgNil))) dgNil))) b_check_proof_f1)
    (dSeq (dExpr (dCall (fun ds S => if ds.length = 3 then f_need_proofs ds S else .bad) (dCons (dCall (gAnyAll true) (dCons (dLc (diL (dVar 6)) (dgName 8) dYes (dCall (gAnyAll false) (dCons (dLc (diT (dVar 8)) (dgName 11) dYes (dOp (gInS false) (dVar 11) (dVar 4)) [11]) dNil)) [8]) dNil)) (dCons (dC (.str (PySem.Str.ofString "goal"))) (dCons (dCall gLen (dCons (dVar 3) dNil)) dNil)))))
    (dRet (dC (.bl true))))))))))
def f_check_proof : DM := runFnK 5 12 b_check_proof

def b_Engine___init__ : DS := (dSeq (dSetF "Engine" "names" (dVar 0) (dVar 1))
    (dSeq (dSetF "Engine" "gates" (dVar 0) (dVar 2))
    (dSeq (dSetF "Engine" "options" (dVar 0) (dC .opq))
    (dSeq (dSetF "Engine" "steps" (dVar 0) (dLst dNil))
    (dSeq (dSetF "Engine" "clauses" (dVar 0) (dLst dNil))
    (dSeq (dSetF "Engine" "learned" (dVar 0) (dDNew false))
    (dSeq (dSetF "Engine" "watches" (dVar 0) (dDNew false))
    (dSeq (dSetF "Engine" "truths" (dVar 0) (dLst (dCons (dC (.int 0)) dNil)))
    (dSeq (dSetF "Engine" "levels" (dVar 0) (dLst (dCons (dC (.int 0)) dNil)))
    (dSeq (dSetF "Engine" "reasons" (dVar 0) (dLst (dCons (dC .non) dNil)))
    (dSeq (dSetF "Engine" "heat" (dVar 0) (dLst (dCons (dC (.int 0)) dNil)))
    (dSeq (dSetF "Engine" "trail" (dVar 0) (dLst dNil))
    (dSeq (dSetF "Engine" "marks" (dVar 0) (dLst dNil))
    (dSeq (dSetF "Engine" "head" (dVar 0) (dC (.int 0)))
    (dSeq (dSetF "Engine" "tied" (dVar 0) (dC (.int 0)))
    (dSeq (dSetF "Engine" "broken" (dVar 0) (dC (.bl false)))
    (dSeq (dSetF "Engine" "point" (dVar 0) (dDNew false))
    (dSeq (dSetF "Engine" "bounds" (dVar 0) (dDNew false))
    (dSeq (dSetF "Engine" "equal_key" (dVar 0) (dC .non))
    (dSeq (dSetF "Engine" "equal_names" (dVar 0) (dDNew false))
    (dSeq (dSetF "Engine" "room" (dVar 0) (dC (.int 0)))
    (dSetF "Engine" "pause" (dVar 0) (dC (.int 0))))))))))))))))))))))))
def f_Engine___init__ : DM := runFnK 3 3 b_Engine___init__

def b_Session___init__ : DS := (dSeq (dSetF "Session" "names" (dVar 0) (dDNew false))
    (dSeq (dSetF "Session" "gates" (dVar 0) (dMake "Gates" 1 f_Gates___init__ dNil))
    (dSeq (dSetF "Session" "engine" (dVar 0) (dMake "Engine" 3 f_Engine___init__ (dCons (dFld "Session" "names" (dVar 0)) (dCons (dFld "Session" "gates" (dVar 0)) dNil))))
    (dSeq (dSetF "Session" "asserted" (dVar 0) (dLst dNil))
    (dSeq (dSetF "Session" "levels" (dVar 0) (dLst (dCons (dLst (dCons (dMeth "Gates" "named" 2 f_Gates_named (dFld "Session" "gates" (dVar 0)) (dCons (dTup (dCons (dC (.str (PySem.Str.ofString "level"))) (dCons (dC (.int 0)) dNil))) dNil)) (dCons (dC (.int 0)) dNil))) dNil)))
    (dSeq (dSetF "Session" "last" (dVar 0) (dC .non))
    (dSetF "Session" "seen" (dVar 0) (dC (.int 0)))))))))
def f_Session___init__ : DM := runFnK 1 1 b_Session___init__

def b_Session_declare : DS := (dSeq (dSetF "Session" "names" (dVar 0) (dCall (fun ds S => if ds.length = 3 then f_declared ds S else .bad) (dCons (dFld "Session" "names" (dVar 0)) (dCons (dVar 1) (dCons (dVar 2) dNil)))))
    (dSetF "Engine" "names" (dFld "Session" "engine" (dVar 0)) (dFld "Session" "names" (dVar 0))))
def f_Session_declare : DM := runFnK 3 3 b_Session_declare

def b_Session_pop : DS := (dSeq (dIf (dTest (dOp (gEq false) (dCall gLen (dCons (dFld "Session" "levels" (dVar 0)) dNil)) (dC (.int 1)))) (dRaise "CommandError" mkS (dCons (dC (.str (PySem.Str.ofString "level"))) dNil)) dNx)
    (dSeq (dExpr (fun δ S => ((dFld "Session" "levels" (dVar 0)) δ S).bind gPop))
    (dSetF "Session" "last" (dVar 0) (dC .non))))
def f_Session_pop : DM := runFnK 1 1 b_Session_pop

def b__law_begin_f1 : DS := (dSet 1 (dOp gMod (dOp gAdd (dOp gAdd (dOp gMul (dVar 1) (dC (.int 48271))) (dOp gMod (dCall gInt (dCons (dVar 2) dNil)) (dC (.int 2147483629)))) (dC (.int 11))) (dC (.int 2147483647))))

def b__law_begin : DS := (dSeq (dSet 1 (dC (.int 5)))
    (dSeq (dFor (diL (dVar 0)) (dgName 2) b__law_begin_f1)
    (dRet (dNew (dCons (dCall gList (dCons (dVar 0) dNil)) (dCons (dC (.int 0)) (dCons (dC (.int 0)) (dCons (dVar 1) dNil))))))))
def f__law_begin : DM := runFnK 1 3 b__law_begin

def b__law_take : DS := (dSeq (dIf (dAnd (dTest (dOp (gEq false) (dOp gIx (dVar 0) (dC (.int 2))) (dC (.int 0)))) (dTest (dOp gLt (dOp gIx (dVar 0) (dC (.int 1))) (dCall gLen (dCons (dOp gIx (dVar 0) (dC (.int 0))) dNil))))) (dSeq (dAsg (dCall gAbs (dCons (dCall gInt (dCons (dOp gIx (dOp gIx (dVar 0) (dC (.int 0))) (dOp gIx (dVar 0) (dC (.int 1)))) dNil)) dNil)) (dgIx (dVar 0) (dC (.int 2))))
      (dSeq (dAsg (dOp gAdd (dOp gIx (dVar 0) (dC (.int 1))) (dC (.int 1))) (dgIx (dVar 0) (dC (.int 1))))
      (dIf (dTest (dOp gLt (dOp gIx (dVar 0) (dC (.int 2))) (dOp gPow (dC (.int 10)) (dC (.int 18))))) (dSeq (dSet 2 (dCall gInt (dCons (dOp gIx (dVar 0) (dC (.int 2))) dNil)))
        (dSeq (dAsg (dC (.int 0)) (dgIx (dVar 0) (dC (.int 2))))
        (dRet (dOp gMod (dVar 2) (dVar 1))))) dNx))) dNx)
    (dSeq (dIf (dTest (dOp gGt (dOp gIx (dVar 0) (dC (.int 2))) (dC (.int 0)))) (dSeq (dSet 3 (dOp gMod (dCall gInt (dCons (dOp gIx (dVar 0) (dC (.int 2))) dNil)) (dVar 1)))
      (dSeq (dAsg (dOp gFdiv (dCall gInt (dCons (dOp gIx (dVar 0) (dC (.int 2))) dNil)) (dVar 1)) (dgIx (dVar 0) (dC (.int 2))))
      (dRet (dVar 3)))) dNx)
    (dSeq (dAsg (dOp gMod (dCall gInt (dCons (dOp gAdd (dOp gMul (dOp gIx (dVar 0) (dC (.int 3))) (dC (.int 69621))) (dC (.int 7))) dNil)) (dC (.int 2147483647))) (dgIx (dVar 0) (dC (.int 3))))
    (dRet (dOp gMod (dCall gInt (dCons (dOp gFdiv (dOp gIx (dVar 0) (dC (.int 3))) (dC (.int 5))) dNil)) (dVar 1))))))
def f__law_take : DM := runFn 2 4 b__law_take

def b__law_do : DS := (dSeq (dIf (dTest (dOp (gEq false) (dVar 1) (dC (.int 0)))) (dRet (dCall (fun ds S => if ds.length = 1 then f_read ds S else .bad) (dCons (dOp gAdd (dOp gRep (dC (.str (PySem.Str.ofString " "))) (dVar 0)) (dC (.str (PySem.Str.ofString ")")))) dNil))) dNx)
    (dSeq (dIf (dTest (dOp (gEq false) (dVar 1) (dC (.int 1)))) (dRet (dMeth "Session" "declare" 3 f_Session_declare (dMake "Session" 1 f_Session___init__ dNil) (dCons (dOp gRep (dC (.str (PySem.Str.ofString "n"))) (dOp gAdd (dC (.int 20)) (dVar 0))) (dCons (dTup (dCons (dC (.str (PySem.Str.ofString "bool"))) dNil)) dNil)))) dNx)
    (dSeq (dIf (dTest (dOp (gEq false) (dVar 1) (dC (.int 2)))) (dRet (dMeth "Session" "pop" 1 f_Session_pop (dMake "Session" 1 f_Session___init__ dNil) dNil)) dNx)
    (dRet (dCall (fun ds S => if ds.length = 5 then f_check_proof ds S else .bad) (dCons (dDNew false) (dCons (dTup dNil) (dCons (dTup (dCons (dTup (dCons (dC (.str (PySem.Str.ofString "bool"))) (dCons (dC (.str (PySem.Str.ofString "p"))) dNil))) dNil)) (dCons (dOp gRepT (dTup (dCons (dTup (dCons (dTup (dCons (dC (.int 1)) dNil)) (dCons (dTup (dCons (dC (.str (PySem.Str.ofString "rup"))) dNil)) dNil))) dNil)) (dVar 0)) (dCons (dTup dNil) dNil))))))))))
def f__law_do : DM := runFnK 2 2 b__law_do

def b__law_kinds (x : Ex) : DS := (dSeq (dSet 1 (dLst (dCons (dIsX is_TextError x) (dCons (dIsX is_TermError x) (dCons (dIsX is_CommandError x) (dCons (dIsX is_ProofError x) dNil))))))
    (dRet (dLc (diR1 (dCons (dC (.int 4)) dNil)) (dgName 2) (dTru (dOp gIx (dVar 1) (dVar 2))) (dVar 2) [2])))
def f__law_kinds (x : Ex) : Store → R D := runP 3 (b__law_kinds x)

def b_law_f1 : DS := (dTryS sub_SolverError 5 (dSeq (dExpr (dCall (fun ds S => if ds.length = 2 then f__law_do ds S else .bad) (dCons (dVar 3) (dCons (dVar 4) dNil))))
        (dRet (dC (.bl false)))) (fun x => (dSeq (dIf (dOr (dNot (dTru (dIsX is_ValueError x))) (dOr (dTest (dOp (gEq true) (fun _ S => f__law_kinds x S) (dLst (dCons (dVar 4) dNil)))) (dTest (dOp (gEq true) (dXf x "code") (dOp gIx (dVar 2) (dVar 4)))))) (dRet (dC (.bl false))) dNx)
        (dIf (dOr (dAnd (dTest (dOp (gEq false) (dVar 4) (dC (.int 0)))) (dTest (dOp (gEq true) (dXf x "place") (dVar 3)))) (dAnd (dTest (dOp (gEq false) (dVar 4) (dC (.int 3)))) (dTest (dOp (gEq true) (dXf x "step") (dC (.int 0)))))) (dRet (dC (.bl false))) dNx))))

def b_law : DS := (dSeq (dSet 1 (dCall (fun ds S => if ds.length = 1 then f__law_begin ds S else .bad) (dCons (dVar 0) dNil)))
    (dSeq (dSet 2 (dLst (dCons (dC (.str (PySem.Str.ofString "close"))) (dCons (dC (.str (PySem.Str.ofString "name"))) (dCons (dC (.str (PySem.Str.ofString "level"))) (dCons (dC (.str (PySem.Str.ofString "rup"))) dNil))))))
    (dSeq (dSet 3 (dOp gAdd (dC (.int 1)) (dCall (fun ds S => if ds.length = 2 then f__law_take ds S else .bad) (dCons (dVar 1) (dCons (dC (.int 4)) dNil)))))
    (dSeq (dFor (diR1 (dCons (dC (.int 4)) dNil)) (dgName 4) b_law_f1)
    (dRet (dC (.bl true)))))))
def f_law : DM := runFnK 1 6 b_law

end K20
/-! k20, the plain law: the draws (as for k15) -/
namespace K20
open PySem DL
theorem gGt_int {a b : Int} {S : Store} : gGt (.int a) (.int b) S = .ok (.bl (decide (b < a))) S := rfl
/-- the draws -/
def dr (ns : List Int) (p q sd : Int) : Store := [.lst [.lst (ns.map D.int), .int p, .int q, .int sd]]
def Dr (S : Store) : Prop := ∃ ns p q sd, S = dr ns p q sd ∧ 0 ≤ p ∧ 0 ≤ q ∧ 0 ≤ sd
section
variable {ns : List Int} {p q sd : Int} {v : D} {δ : DEnv}
theorem ix0 : gIx (.ref 0) (.int 0) (dr ns p q sd) = .ok (.lst (ns.map D.int)) (dr ns p q sd) := rfl
theorem ix1 : gIx (.ref 0) (.int 1) (dr ns p q sd) = .ok (.int p) (dr ns p q sd) := rfl
theorem ix2 : gIx (.ref 0) (.int 2) (dr ns p q sd) = .ok (.int q) (dr ns p q sd) := rfl
theorem ix3 : gIx (.ref 0) (.int 3) (dr ns p q sd) = .ok (.int sd) (dr ns p q sd) := rfl
theorem st1 {x : Int} : dgIx (dVar 0) (dC (.int 1)) (.int x) (some (.ref 0) :: δ) (dr ns p q sd) = .ok (some (.ref 0) :: δ) (dr ns x q sd) := rfl
theorem st2 {x : Int} : dgIx (dVar 0) (dC (.int 2)) (.int x) (some (.ref 0) :: δ) (dr ns p q sd) = .ok (some (.ref 0) :: δ) (dr ns p x sd) := rfl
theorem st3 {x : Int} : dgIx (dVar 0) (dC (.int 3)) (.int x) (some (.ref 0) :: δ) (dr ns p q sd) = .ok (some (.ref 0) :: δ) (dr ns p q x) := rfl
theorem len0 {S : Store} : gLen [.lst (ns.map D.int)] S = .ok (.int (ns.length : Int)) S := by
  show R.ok (D.int ((ns.map D.int).length : Int)) S = _
  rw [List.length_map]
theorem ixp {S : Store} (h0 : 0 ≤ p) (h1 : p < ns.length) : ∃ n, gIx (.lst (ns.map D.int)) (.int p) S = .ok (.int n) S := by
  have hx : L2.ixN (ns.map D.int).length p = some p.toNat := by
    unfold L2.ixN
    rw [List.length_map, if_pos h0, if_pos h1]
  have hl : p.toNat < ns.length := by omega
  refine ⟨ns[p.toNat], ?_⟩
  show (match L2.atI (ns.map D.int) p with
    | some d => R.ok d S
    | none => .bad) = _
  rw [show L2.atI (ns.map D.int) p = some (.int ns[p.toNat]) by
    unfold L2.atI
    rw [hx]
    show (ns.map D.int)[p.toNat]? = _
    rw [List.getElem?_map, List.getElem?_eq_getElem hl]; rfl]
theorem gInt_int {i : Int} {S : Store} : gInt [.int i] S = .ok (.int i) S := rfl
theorem gAbs_int {i : Int} {S : Store} : gAbs [.int i] S = .ok (.int (if i < 0 then -i else i)) S := rfl
theorem gAdd_int {i j : Int} {S : Store} : gAdd (.int i) (.int j) S = .ok (.int (i + j)) S := rfl
theorem gLt_int {i j : Int} {S : Store} : gLt (.int i) (.int j) S = .ok (.bl (decide (i < j))) S := rfl
theorem gPow18 {S : Store} : gPow (.int 10) (.int 18) S = .ok (.int 1000000000000000000) S := by kernel_rfl
theorem gMod_int {i j : Int} {S : Store} (h : 0 < j) : gMod (.int i) (.int j) S = .ok (.int (i % j)) S := by
  show (if decide (0 < j) = true then R.ok (D.int (i % j)) S else .bad) = _
  rw [if_pos (decide_eq_true h)]
theorem gFdiv_int {i j : Int} {S : Store} (h : 0 < j) (h2 : j < 1073741824) : gFdiv (.int i) (.int j) S = .ok (.int (i / j)) S := by
  show (if decide (0 < j ∧ j < 1073741824) = true then R.ok (D.int (i / j)) S else .bad) = _
  rw [if_pos (decide_eq_true ⟨h, h2⟩)]
theorem gMul_int {i j : Int} {S : Store} (h : -1000000000 < j ∧ j < 1000000000) : gMul (.int i) (.int j) S = .ok (.int (i * j)) S := by
  show (if decide ((-(2 ^ 64) < i ∧ i < 2 ^ 64) ∨ (-(2 ^ 64) < j ∧ j < 2 ^ 64)) = true then R.ok (D.int (i * j)) S else .bad) = _
  rw [if_pos (decide_eq_true (.inr ⟨by omega, by omega⟩))]
def takeB : DS := (dSeq (dIf (dTest (dOp gGt (dOp gIx (dVar 0) (dC (.int 2))) (dC (.int 0)))) (dSeq (dSet 3 (dOp gMod (dCall gInt (dCons (dOp gIx (dVar 0) (dC (.int 2))) dNil)) (dVar 1)))
      (dSeq (dAsg (dOp gFdiv (dCall gInt (dCons (dOp gIx (dVar 0) (dC (.int 2))) dNil)) (dVar 1)) (dgIx (dVar 0) (dC (.int 2))))
      (dRet (dVar 3)))) dNx)
    (dSeq (dAsg (dOp gMod (dCall gInt (dCons (dOp gAdd (dOp gMul (dOp gIx (dVar 0) (dC (.int 3))) (dC (.int 69621))) (dC (.int 7))) dNil)) (dC (.int 2147483647))) (dgIx (dVar 0) (dC (.int 3))))
    (dRet (dOp gMod (dCall gInt (dCons (dOp gFdiv (dOp gIx (dVar 0) (dC (.int 3))) (dC (.int 5))) dNil)) (dVar 1)))))
theorem takeB_ok {m : Int} {x : Option D} (h0 : 0 < m) (hm : m < 1073741824) (hp : 0 ≤ p) (hq : 0 ≤ q) (hs : 0 ≤ sd) :
    ∃ r S', takeB [some (.ref 0), some (.int m), x, none] (dr ns p q sd) = .rt (.int r) S' ∧ Dr S' ∧ 0 ≤ r ∧ r < m := by
  by_cases c : 0 < q
  · refine ⟨q % m, dr ns p (q / m) sd, ?_, ⟨ns, p, _, sd, rfl, hp, Int.ediv_nonneg hq (by omega), hs⟩, Int.emod_nonneg _ (by omega), Int.emod_lt_of_pos _ h0⟩
    unfold takeB
    simp only [dIf, dOr, dAnd, dNot, dTest, dOp, dVar, dC, R.bind, R.thenF, List.getElem?_cons_succ, List.getElem?_cons_zero, dTru, dSeq, dSet, dExpr, dAppend, dTup, dCons, dNil, dNew, dLst, dOrV, dAndV, dNotV, dIfE, dAug, dNx, asB, dRet, dRetN, dCall, dFor, dAsg, toF, dgName, dgTup, dgCons, dgNil, dSl, doS, doN, List.set_cons_succ, List.set_cons_zero, Bool.false_eq_true, Bool.true_eq_false, if_true, if_false, ite_true, ite_false, Bool.not_true, Bool.not_false, List.length_cons, List.length_nil, ix2, gGt_int, decide_eq_true c, gInt_int, gMod_int h0, gFdiv_int h0 hm, st2]
  · have c' : decide (0 < q) = false := decide_eq_false c
    have h5 : (0 : Int) < 2147483647 := by decide
    refine ⟨(sd * 69621 + 7) % 2147483647 / 5 % m, dr ns p q ((sd * 69621 + 7) % 2147483647), ?_, ⟨ns, p, q, _, rfl, hp, hq, Int.emod_nonneg _ (by decide)⟩, Int.emod_nonneg _ (by omega), Int.emod_lt_of_pos _ h0⟩
    have e1 : ∀ S, gMul (.int sd) (.int 69621) S = .ok (.int (sd * 69621)) S := fun S => gMul_int (by decide)
    have e2 : ∀ (i : Int) S, gMod (.int i) (.int 2147483647) S = .ok (.int (i % 2147483647)) S := fun i S => gMod_int h5
    have e3 : ∀ (i : Int) S, gFdiv (.int i) (.int 5) S = .ok (.int (i / 5)) S := fun i S => gFdiv_int (by decide) (by decide)
    unfold takeB
    simp only [dIf, dOr, dAnd, dNot, dTest, dOp, dVar, dC, R.bind, R.thenF, List.getElem?_cons_succ, List.getElem?_cons_zero, dTru, dSeq, dSet, dExpr, dAppend, dTup, dCons, dNil, dNew, dLst, dOrV, dAndV, dNotV, dIfE, dAug, dNx, asB, dRet, dRetN, dCall, dFor, dAsg, toF, dgName, dgTup, dgCons, dgNil, dSl, doS, doN, List.set_cons_succ, List.set_cons_zero, Bool.false_eq_true, Bool.true_eq_false, if_true, if_false, ite_true, ite_false, Bool.not_true, Bool.not_false, List.length_cons, List.length_nil, ix2, ix3, gGt_int, c', gInt_int, e1, gAdd_int, e2, e3, gMod_int h0, st3]
theorem take_ok {m : Int} (h0 : 0 < m) (hm : m < 1073741824) (hp : 0 ≤ p) (hq : 0 ≤ q) (hs : 0 ≤ sd) :
    ∃ r S', b__law_take [some (.ref 0), some (.int m), none, none] (dr ns p q sd) = .rt (.int r) S' ∧ Dr S' ∧ 0 ≤ r ∧ r < m := by
  have e30 : ∀ n : Int, (n == 0) = decide (n = 0) := fun n => rfl
  have fold : b__law_take = dSeq _ takeB := rfl
  rw [fold]
  by_cases c1 : q = 0 ∧ p < ns.length
  · obtain ⟨rfl, hp2⟩ := c1
    obtain ⟨n, hn⟩ := ixp (ns := ns) (p := p) (S := dr ns p 0 sd) hp hp2
    have c2 : decide (p < (ns.length : Int)) = true := decide_eq_true hp2
    have a0 : (0 : Int) ≤ (if n < 0 then -n else n) := by split <;> omega
    generalize ha : (if n < 0 then -n else n) = a at *
    by_cases c3 : a < 1000000000000000000
    · refine ⟨a % m, dr ns (p + 1) 0 sd, ?_, ⟨ns, p + 1, 0, sd, rfl, by omega, by omega, hs⟩, Int.emod_nonneg _ (by omega), Int.emod_lt_of_pos _ h0⟩
      simp only [dIf, dOr, dAnd, dNot, dTest, dOp, dVar, dC, R.bind, R.thenF, List.getElem?_cons_succ, List.getElem?_cons_zero, dTru, dSeq, dSet, dExpr, dAppend, dTup, dCons, dNil, dNew, dLst, dOrV, dAndV, dNotV, dIfE, dAug, dNx, asB, dRet, dRetN, dCall, dFor, dAsg, toF, dgName, dgTup, dgCons, dgNil, dSl, doS, doN, List.set_cons_succ, List.set_cons_zero, Bool.false_eq_true, Bool.true_eq_false, if_true, if_false, ite_true, ite_false, Bool.not_true, Bool.not_false, List.length_cons, List.length_nil, ix0, ix1, ix2, eq_int, len0, gLt_int, e30, decide_eq_true, c2, hn, gInt_int, gAbs_int, ha, st2, gAdd_int, st1, gPow18, decide_eq_true c3, gMod_int h0]
    · have c3' : decide (a < 1000000000000000000) = false := decide_eq_false c3
      obtain ⟨r, S', h1, h2, h3, h4⟩ := takeB_ok (ns := ns) (p := p + 1) (q := a) (sd := sd) (x := none) h0 hm (by omega) a0 hs
      refine ⟨r, S', ?_, h2, h3, h4⟩
      simp only [dIf, dOr, dAnd, dNot, dTest, dOp, dVar, dC, R.bind, R.thenF, List.getElem?_cons_succ, List.getElem?_cons_zero, dTru, dSeq, dSet, dExpr, dAppend, dTup, dCons, dNil, dNew, dLst, dOrV, dAndV, dNotV, dIfE, dAug, dNx, asB, dRet, dRetN, dCall, dFor, dAsg, toF, dgName, dgTup, dgCons, dgNil, dSl, doS, doN, List.set_cons_succ, List.set_cons_zero, Bool.false_eq_true, Bool.true_eq_false, if_true, if_false, ite_true, ite_false, Bool.not_true, Bool.not_false, List.length_cons, List.length_nil, ix0, ix1, ix2, eq_int, len0, gLt_int, e30, decide_eq_true, c2, hn, gInt_int, gAbs_int, ha, st2, gAdd_int, st1, gPow18, c3', h1]
  · obtain ⟨r, S', h1, h2, h3, h4⟩ := takeB_ok (ns := ns) (p := p) (q := q) (sd := sd) (x := none) h0 hm hp hq hs
    refine ⟨r, S', ?_, h2, h3, h4⟩
    by_cases c2 : q = 0
    · have c4 : decide (p < (ns.length : Int)) = false := decide_eq_false fun h => c1 ⟨c2, h⟩
      simp only [dIf, dOr, dAnd, dNot, dTest, dOp, dVar, dC, R.bind, R.thenF, List.getElem?_cons_succ, List.getElem?_cons_zero, dTru, dSeq, dSet, dExpr, dAppend, dTup, dCons, dNil, dNew, dLst, dOrV, dAndV, dNotV, dIfE, dAug, dNx, asB, dRet, dRetN, dCall, dFor, dAsg, toF, dgName, dgTup, dgCons, dgNil, dSl, doS, doN, List.set_cons_succ, List.set_cons_zero, Bool.false_eq_true, Bool.true_eq_false, if_true, if_false, ite_true, ite_false, Bool.not_true, Bool.not_false, List.length_cons, List.length_nil, ix0, ix1, ix2, eq_int, len0, gLt_int, e30, decide_eq_true c2, c4, h1]
    · simp only [dIf, dOr, dAnd, dNot, dTest, dOp, dVar, dC, R.bind, R.thenF, List.getElem?_cons_succ, List.getElem?_cons_zero, dTru, dSeq, dSet, dExpr, dAppend, dTup, dCons, dNil, dNew, dLst, dOrV, dAndV, dNotV, dIfE, dAug, dNx, asB, dRet, dRetN, dCall, dFor, dAsg, toF, dgName, dgTup, dgCons, dgNil, dSl, doS, doN, List.set_cons_succ, List.set_cons_zero, Bool.false_eq_true, Bool.true_eq_false, if_true, if_false, ite_true, ite_false, Bool.not_true, Bool.not_false, List.length_cons, List.length_nil, ix0, ix1, ix2, eq_int, len0, gLt_int, e30, decide_eq_false c2, h1]
end
theorem Dr.one {S : Store} (h : Dr S) : S.length = 1 := by obtain ⟨ns, p, q, sd, rfl, _⟩ := h; rfl
theorem settle_dr {S S' : Store} {d : D} (h : Dr S) (h' : Dr S') : settle S.length d S' = .ok d S' := by
  unfold DL.settle
  rw [if_pos (by rw [h.one, h'.one])]
theorem take_eq {S : Store} {m : Int} (h : Dr S) (h0 : 0 < m) (hm : m < 1073741824) : ∃ r S', f__law_take [.ref 0, .int m] S = .ok (.int r) S' ∧ Dr S' ∧ 0 ≤ r ∧ r < m := by
  obtain ⟨ns, p, q, sd, rfl, hp, hq, hs⟩ := id h
  obtain ⟨r, S', h1, h2, h3, h4⟩ := take_ok (ns := ns) h0 hm hp hq hs
  exact ⟨r, S', (runFn_rt (np := 2) (N := 4) rfl h1).trans (settle_dr h h2), h2, h3, h4⟩
theorem begin_loop (f : Option D) : ∀ (ns : List Int) (sd : Int) (c : Option D), 0 ≤ sd → ∃ sd' c', 0 ≤ sd' ∧ dForL (dgName 2) b__law_begin_f1 (ns.map D.int) [f, some (.int sd), c] [] = .nx [f, some (.int sd'), c'] []
  | [], sd, c, h => ⟨sd, c, h, rfl⟩
  | n :: ns, sd, c, h => by
    obtain ⟨sd', c', h1, h2⟩ := begin_loop f ns ((sd * 48271 + n % 2147483629 + 11) % 2147483647) (some (.int n)) (Int.emod_nonneg _ (by decide))
    refine ⟨sd', c', h1, ?_⟩
    have e1 : ∀ S, gMul (.int sd) (.int 48271) S = .ok (.int (sd * 48271)) S := fun S => gMul_int (by decide)
    have e2 : ∀ (i : Int) S, gMod (.int i) (.int 2147483647) S = .ok (.int (i % 2147483647)) S := fun i S => gMod_int (by decide)
    have e3 : ∀ (i : Int) S, gMod (.int i) (.int 2147483629) S = .ok (.int (i % 2147483629)) S := fun i S => gMod_int (by decide)
    have st : b__law_begin_f1 [f, some (.int sd), some (.int n)] [] = .nx [f, some (.int ((sd * 48271 + n % 2147483629 + 11) % 2147483647)), some (.int n)] [] := by
      unfold b__law_begin_f1
      simp only [dIf, dOr, dAnd, dNot, dTest, dOp, dVar, dC, R.bind, R.thenF, List.getElem?_cons_succ, List.getElem?_cons_zero, dTru, dSeq, dSet, dExpr, dAppend, dTup, dCons, dNil, dNew, dLst, dOrV, dAndV, dNotV, dIfE, dAug, dNx, asB, dRet, dRetN, dCall, dFor, dAsg, toF, dgName, dgTup, dgCons, dgNil, dSl, doS, doN, List.set_cons_succ, List.set_cons_zero, Bool.false_eq_true, Bool.true_eq_false, if_true, if_false, ite_true, ite_false, Bool.not_true, Bool.not_false, List.length_cons, List.length_nil, e1, gInt_int, e3, gAdd_int, e2]
    show (b__law_begin_f1 [f, some (.int sd), some (.int n)] []).turn _ = _
    rw [st]
    exact h2
theorem runFnK_rt {np N : Nat} {b : DS} {ds : List D} {S S' : Store} {d : D} (hl : ds.length = np) (h : b (ds.map some ++ List.replicate (N - ds.length) none) S = .rt d S') : runFnK np N b ds S = .ok d S' := by
  unfold runFnK
  rw [if_pos hl, h]
theorem begin_eq (ns : List Int) (hl : ns.length < 1000000) : ∃ sd, 0 ≤ sd ∧ f__law_begin [.lst (ns.map D.int)] [] = .ok (.ref 0) (dr ns 0 0 sd) := by
  obtain ⟨sd, c, h1, h2⟩ := begin_loop (some (.lst (ns.map D.int))) ns 5 none (by decide)
  refine ⟨sd, h1, ?_⟩
  have e1 : ∀ S, gList [.lst (ns.map D.int)] S = .ok (.lst (ns.map D.int)) S := fun S => by
    show (if lenOk (ns.map D.int).length = true then R.ok (D.lst (ns.map D.int)) S else .bad) = _
    rw [if_pos (lenOk_lt (by rw [List.length_map]; omega))]
  have z4 : ∀ a b c d S, rNew [a, b, c, d] S = .ok (.ref S.length) (S ++ [.lst [a, b, c, d]]) := fun a b c d S => rNew_ok (by simp)
  have key : b__law_begin [some (.lst (ns.map D.int)), none, none] [] = .rt (.ref 0) (dr ns 0 0 sd) := by
    unfold b__law_begin
    simp only [dIf, dOr, dAnd, dNot, dTest, dOp, dVar, dC, R.bind, R.thenF, List.getElem?_cons_succ, List.getElem?_cons_zero, dTru, dSeq, dSet, dExpr, dAppend, dTup, dCons, dNil, dNew, dLst, dOrV, dAndV, dNotV, dIfE, dAug, dNx, asB, dRet, dRetN, dCall, dFor, dAsg, toF, dgName, dgTup, dgCons, dgNil, dSl, doS, doN, List.set_cons_succ, List.set_cons_zero, Bool.false_eq_true, Bool.true_eq_false, if_true, if_false, ite_true, ite_false, Bool.not_true, Bool.not_false, List.length_cons, List.length_nil, diL, h2, e1, z4]
    rfl
  exact runFnK_rt (np := 1) (N := 3) rfl key
end K20
/-! k20, the plain law: the calls are evaluated -/
namespace K20
open PySem DL
def codes : D := .lst [.str (PySem.Str.ofString "close"), .str (PySem.Str.ofString "name"), .str (PySem.Str.ofString "level"), .str (PySem.Str.ofString "rup")]
def rest : DS := dSeq (dFor (diR1 (dCons (dC (.int 4)) dNil)) (dgName 4) b_law_f1) (dRet (dC (.bl true)))
def isT : F → Bool
  | .rt (.bl true) _ => true
  | _ => false
theorem rest1 (s : D) (o : O) : isT (rest [some s, some (.ref 0), some codes, some (.int 1), none, none] [o]) = true := by kernel_rfl
theorem rest2 (s : D) (o : O) : isT (rest [some s, some (.ref 0), some codes, some (.int 2), none, none] [o]) = true := by kernel_rfl
theorem rest3 (s : D) (o : O) : isT (rest [some s, some (.ref 0), some codes, some (.int 3), none, none] [o]) = true := by kernel_rfl
theorem rest4 (s : D) (o : O) : isT (rest [some s, some (.ref 0), some codes, some (.int 4), none, none] [o]) = true := by kernel_rfl
end K20
namespace K20
open PySem DL
theorem dSeq_nx {f g : DS} {δ δ' : DEnv} {S S' : Store} (h : f δ S = .nx δ' S') : dSeq f g δ S = g δ' S' := by unfold dSeq; rw [h]
theorem isT_rt {r : F} (h : isT r = true) : ∃ S, r = .rt (.bl true) S := by
  unfold isT at h
  split at h
  · rename_i S; exact ⟨S, rfl⟩
  · cases h
theorem rest_ok (s : D) (o : O) (k : Int) (h0 : 0 ≤ k) (h4 : k < 4) : ∃ S, rest [some s, some (.ref 0), some codes, some (.int (1 + k)), none, none] [o] = .rt (.bl true) S := by
  have : k = 0 ∨ k = 1 ∨ k = 2 ∨ k = 3 := by omega
  rcases this with rfl | rfl | rfl | rfl
  · exact isT_rt (rest1 s o)
  · exact isT_rt (rest2 s o)
  · exact isT_rt (rest3 s o)
  · exact isT_rt (rest4 s o)
theorem plain (ns : List Int) (hl : ns.length ≤ 63) : ∃ S', f_law [.lst (ns.map D.int)] [] = .ok (.bl true) S' := by
  obtain ⟨sd, hsd, hbeg⟩ := begin_eq ns (by omega)
  have d0 : Dr (dr ns 0 0 sd) := ⟨ns, 0, 0, sd, rfl, by omega, by omega, hsd⟩
  obtain ⟨k, S1, k1, k2, k3, k4⟩ := take_eq (m := 4) d0 (by decide) (by decide)
  obtain ⟨ns', p, q, sd', e1, _⟩ := id k2
  have eo : ∃ o : O, S1 = [o] := ⟨_, e1⟩
  obtain ⟨o, rfl⟩ := eo
  obtain ⟨S, hS⟩ := rest_ok (.lst (ns.map D.int)) o k k3 k4
  refine ⟨S, ?_⟩
  have r4 : ∀ a b c d S, rLst [a, b, c, d] S = .ok (.lst [a, b, c, d]) S := fun a b c d S => rLst_ok (by simp)
  have key : b_law [some (.lst (ns.map D.int)), none, none, none, none, none] [] = .rt (.bl true) S := by
    unfold b_law
    refine (dSeq_nx (δ' := [some (.lst (ns.map D.int)), some (.ref 0), none, none, none, none]) (S' := dr ns 0 0 sd) ?_).trans ?_
    · simp only [dIf, dOr, dAnd, dNot, dTest, dOp, dVar, dC, R.bind, R.thenF, List.getElem?_cons_succ, List.getElem?_cons_zero, dTru, dSeq, dSet, dExpr, dAppend, dTup, dCons, dNil, dNew, dLst, dOrV, dAndV, dNotV, dIfE, dAug, dNx, asB, dRet, dRetN, dCall, dFor, dAsg, toF, dgName, dgTup, dgCons, dgNil, dSl, doS, doN, List.set_cons_succ, List.set_cons_zero, Bool.false_eq_true, Bool.true_eq_false, if_true, if_false, ite_true, ite_false, Bool.not_true, Bool.not_false, List.length_cons, List.length_nil, hbeg]
    refine (dSeq_nx (δ' := [some (.lst (ns.map D.int)), some (.ref 0), some codes, none, none, none]) (S' := dr ns 0 0 sd) ?_).trans ?_
    · simp only [dIf, dOr, dAnd, dNot, dTest, dOp, dVar, dC, R.bind, R.thenF, List.getElem?_cons_succ, List.getElem?_cons_zero, dTru, dSeq, dSet, dExpr, dAppend, dTup, dCons, dNil, dNew, dLst, dOrV, dAndV, dNotV, dIfE, dAug, dNx, asB, dRet, dRetN, dCall, dFor, dAsg, toF, dgName, dgTup, dgCons, dgNil, dSl, doS, doN, List.set_cons_succ, List.set_cons_zero, Bool.false_eq_true, Bool.true_eq_false, if_true, if_false, ite_true, ite_false, Bool.not_true, Bool.not_false, List.length_cons, List.length_nil, r4]
      rfl
    refine (dSeq_nx (δ' := [some (.lst (ns.map D.int)), some (.ref 0), some codes, some (.int (1 + k)), none, none]) (S' := [o]) ?_).trans ?_
    · simp only [dIf, dOr, dAnd, dNot, dTest, dOp, dVar, dC, R.bind, R.thenF, List.getElem?_cons_succ, List.getElem?_cons_zero, dTru, dSeq, dSet, dExpr, dAppend, dTup, dCons, dNil, dNew, dLst, dOrV, dAndV, dNotV, dIfE, dAug, dNx, asB, dRet, dRetN, dCall, dFor, dAsg, toF, dgName, dgTup, dgCons, dgNil, dSl, doS, doN, List.set_cons_succ, List.set_cons_zero, Bool.false_eq_true, Bool.true_eq_false, if_true, if_false, ite_true, ite_false, Bool.not_true, Bool.not_false, List.length_cons, List.length_nil, k1, gAdd_int]
    exact hS
  exact runFnK_rt (np := 1) (N := 6) rfl key
end K20
/-! k20: each def keeps its meaning -/
namespace K20
open PySem PySem.Spec L2 DL
def top (i : Nat) : Stmt := PySem.Challenge.pw_answerandproof_k20_errors_and_their_clas.main.body.getD i (.Pass ⟨0, 0, 0, 0⟩)
abbrev PRG : Program := PySem.Challenge.rw_answerandproof_k20_errors_and_their_clas.prog
structure Fx (w : World) (K : PySem.W.Frag) (mg : Str → Option Value) where
  C_Engine : Addr
  k_Engine : Kl K mg "Engine" C_Engine
  C_Gates : Addr
  k_Gates : Kl K mg "Gates" C_Gates
  C_Session : Addr
  k_Session : Kl K mg "Session" C_Session
  n_Engine_bounds : NoAttr K C_Engine "bounds"
  n_Engine_broken : NoAttr K C_Engine "broken"
  n_Engine_clauses : NoAttr K C_Engine "clauses"
  n_Engine_equal_key : NoAttr K C_Engine "equal_key"
  n_Engine_equal_names : NoAttr K C_Engine "equal_names"
  n_Engine_gates : NoAttr K C_Engine "gates"
  n_Engine_head : NoAttr K C_Engine "head"
  n_Engine_heat : NoAttr K C_Engine "heat"
  n_Engine_learned : NoAttr K C_Engine "learned"
  n_Engine_levels : NoAttr K C_Engine "levels"
  n_Engine_marks : NoAttr K C_Engine "marks"
  n_Engine_names : NoAttr K C_Engine "names"
  n_Engine_options : NoAttr K C_Engine "options"
  n_Engine_pause : NoAttr K C_Engine "pause"
  n_Engine_point : NoAttr K C_Engine "point"
  n_Engine_reasons : NoAttr K C_Engine "reasons"
  n_Engine_room : NoAttr K C_Engine "room"
  n_Engine_steps : NoAttr K C_Engine "steps"
  n_Engine_tied : NoAttr K C_Engine "tied"
  n_Engine_trail : NoAttr K C_Engine "trail"
  n_Engine_truths : NoAttr K C_Engine "truths"
  n_Engine_watches : NoAttr K C_Engine "watches"
  n_Gates_numbers : NoAttr K C_Gates "numbers"
  n_Gates_table : NoAttr K C_Gates "table"
  n_Session_asserted : NoAttr K C_Session "asserted"
  n_Session_engine : NoAttr K C_Session "engine"
  n_Session_gates : NoAttr K C_Session "gates"
  n_Session_last : NoAttr K C_Session "last"
  n_Session_levels : NoAttr K C_Session "levels"
  n_Session_names : NoAttr K C_Session "names"
  n_Session_seen : NoAttr K C_Session "seen"
  a_tokens : Addr
  fd_tokens : FuncData
  F_tokens : Fun K "tokens" "tokens" (top 17) a_tokens fd_tokens
  g_tokens : mg "tokens" = some (.ref a_tokens)
  a_whole_or_word : Addr
  fd_whole_or_word : FuncData
  F_whole_or_word : Fun K "whole_or_word" "whole_or_word" (top 19) a_whole_or_word fd_whole_or_word
  g_whole_or_word : mg "whole_or_word" = some (.ref a_whole_or_word)
  a_read : Addr
  fd_read : FuncData
  F_read : Fun K "read" "read" (top 18) a_read fd_read
  g_read : mg "read" = some (.ref a_read)
  a_is_integer : Addr
  fd_is_integer : FuncData
  F_is_integer : Fun K "is_integer" "is_integer" (top 53) a_is_integer fd_is_integer
  g_is_integer : mg "is_integer" = some (.ref a_is_integer)
  a_is_name : Addr
  fd_is_name : FuncData
  F_is_name : Fun K "is_name" "is_name" (top 54) a_is_name fd_is_name
  g_is_name : mg "is_name" = some (.ref a_is_name)
  a_declared : Addr
  fd_declared : FuncData
  F_declared : Fun K "declared" "declared" (top 55) a_declared fd_declared
  g_declared : mg "declared" = some (.ref a_declared)
  a_Gates___init__ : Addr
  fd_Gates___init__ : FuncData
  F_Gates___init__ : Fun K "__init__" "Gates.__init__" (clsSt (top 68) 0) a_Gates___init__ fd_Gates___init__
  m_Gates___init__ : Mk K C_Gates a_Gates___init__
  a_Gates_named : Addr
  fd_Gates_named : FuncData
  F_Gates_named : Fun K "named" "Gates.named" (clsSt (top 68) 1) a_Gates_named fd_Gates_named
  m_Gates_named : Meth K C_Gates "named" a_Gates_named
  a_need_proofs : Addr
  fd_need_proofs : FuncData
  F_need_proofs : Fun K "need" "need" (top 73) a_need_proofs fd_need_proofs
  g_need_proofs : mg "need_proofs" = some (.ref a_need_proofs)
  a_unit_closure : Addr
  fd_unit_closure : FuncData
  F_unit_closure : Fun K "unit_closure" "unit_closure" (top 75) a_unit_closure fd_unit_closure
  g_unit_closure : mg "unit_closure" = some (.ref a_unit_closure)
  a_holds : Addr
  fd_holds : FuncData
  F_holds : Fun K "holds" "holds" (top 77) a_holds fd_holds
  g_holds : mg "holds" = some (.ref a_holds)
  a_check_proof : Addr
  fd_check_proof : FuncData
  F_check_proof : Fun K "check_proof" "check_proof" (top 76) a_check_proof fd_check_proof
  g_check_proof : mg "check_proof" = some (.ref a_check_proof)
  a_Engine___init__ : Addr
  fd_Engine___init__ : FuncData
  F_Engine___init__ : Fun K "__init__" "Engine.__init__" (clsSt (top 82) 0) a_Engine___init__ fd_Engine___init__
  m_Engine___init__ : Mk K C_Engine a_Engine___init__
  a_Session___init__ : Addr
  fd_Session___init__ : FuncData
  F_Session___init__ : Fun K "__init__" "Session.__init__" (clsSt (top 88) 0) a_Session___init__ fd_Session___init__
  m_Session___init__ : Mk K C_Session a_Session___init__
  a_Session_declare : Addr
  fd_Session_declare : FuncData
  F_Session_declare : Fun K "declare" "Session.declare" (clsSt (top 88) 1) a_Session_declare fd_Session_declare
  m_Session_declare : Meth K C_Session "declare" a_Session_declare
  a_Session_pop : Addr
  fd_Session_pop : FuncData
  F_Session_pop : Fun K "pop" "Session.pop" (clsSt (top 88) 8) a_Session_pop fd_Session_pop
  m_Session_pop : Meth K C_Session "pop" a_Session_pop
  a__law_begin : Addr
  fd__law_begin : FuncData
  F__law_begin : Fun K "_law_begin" "_law_begin" (top 90) a__law_begin fd__law_begin
  g__law_begin : mg "_law_begin" = some (.ref a__law_begin)
  a__law_take : Addr
  fd__law_take : FuncData
  F__law_take : Fun K "_law_take" "_law_take" (top 91) a__law_take fd__law_take
  g__law_take : mg "_law_take" = some (.ref a__law_take)
  a__law_do : Addr
  fd__law_do : FuncData
  F__law_do : Fun K "_law_do" "_law_do" (top 92) a__law_do fd__law_do
  g__law_do : mg "_law_do" = some (.ref a__law_do)
  a__law_kinds : Addr
  fd__law_kinds : FuncData
  F__law_kinds : Fun K "_law_kinds" "_law_kinds" (top 93) a__law_kinds fd__law_kinds
  g__law_kinds : mg "_law_kinds" = some (.ref a__law_kinds)
  a_law : Addr
  fd_law : FuncData
  F_law : Fun K "law" "law" (top 94) a_law fd_law
  g_law : mg "law" = some (.ref a_law)
  b_ValueError : mg "ValueError" = none
  b_abs : mg "abs" = none
  b_all : mg "all" = none
  b_any : mg "any" = none
  b_bool : mg "bool" = none
  b_dict : mg "dict" = none
  b_enumerate : mg "enumerate" = none
  b_int : mg "int" = none
  b_isinstance : mg "isinstance" = none
  b_len : mg "len" = none
  b_list : mg "list" = none
  b_range : mg "range" = none
  b_str : mg "str" = none
  b_tuple : mg "tuple" = none
  c_MOST_DEPTH : ∃ t, mg "MOST_DEPTH" = some (.int 40 t)
  c_MOST_TEXT : ∃ t, mg "MOST_TEXT" = some (.int 20000 t)
  wa_DEFAULTS : Addr
  we_DEFAULTS : Array DictEntry
  wn_DEFAULTS : Nat
  w_DEFAULTS : DicW K mg w "DEFAULTS" wa_DEFAULTS we_DEFAULTS wn_DEFAULTS ["restart", "keep", "phase"]
  sol : Addr
  a0 : Addr
  ifd0 : FuncData
  ib0 : Binds K ifd0 ["self", "code"] []
  i0 : ∀ base : Heap, FnOk PRG w K mg base (L2N.CX PRG w) 1 a0 ifd0 ["self", "code"] (spS K sol)
  a_SolverError : Addr
  g_SolverError : mg "SolverError" = some (.ref a_SolverError)
  s_SolverError : SubOk K mg sub_SolverError (.ref a_SolverError)
  a_TextError : Addr
  aI_TextError : Addr
  ifd_TextError : FuncData
  g_TextError : mg "TextError" = some (.ref a_TextError)
  t_TextError : ExT K a_TextError a_TextError sol aI_TextError a0 "place"
  ib_TextError : Binds K ifd_TextError ["self", "code", "place"] []
  i_TextError : ∀ base : Heap, FnOk PRG w K mg base (L2N.CX PRG w) 2 aI_TextError ifd_TextError ["self", "code", "place"] (spT K a_TextError sol a0 "place")
  a_ProofError : Addr
  aI_ProofError : Addr
  ifd_ProofError : FuncData
  g_ProofError : mg "ProofError" = some (.ref a_ProofError)
  t_ProofError : ExT K a_ProofError a_ProofError sol aI_ProofError a0 "step"
  ib_ProofError : Binds K ifd_ProofError ["self", "code", "step"] []
  i_ProofError : ∀ base : Heap, FnOk PRG w K mg base (L2N.CX PRG w) 2 aI_ProofError ifd_ProofError ["self", "code", "step"] (spT K a_ProofError sol a0 "step")
  a_TermError : Addr
  g_TermError : mg "TermError" = some (.ref a_TermError)
  t_TermError : ExS K a_TermError sol a0
  a_CommandError : Addr
  g_CommandError : mg "CommandError" = some (.ref a_CommandError)
  t_CommandError : ExS K a_CommandError sol a0
  x_code : XFld K mg sub_SolverError "code"
  x_place : XFld K mg sub_SolverError "place"
  x_step : XFld K mg sub_SolverError "step"
  y_TextError : IsTab K mg is_TextError (.ref a_TextError)
  y_TermError : IsTab K mg is_TermError (.ref a_TermError)
  y_CommandError : IsTab K mg is_CommandError (.ref a_CommandError)
  y_ProofError : IsTab K mg is_ProofError (.ref a_ProofError)
  y_ValueError : IsTab K mg is_ValueError (.type "ValueError")
variable {w : World} {K : PySem.W.Frag} {mg : Str → Option Value} {base : Heap}
theorem ok_tokens (G : Fx w K mg) : Pr PRG w K mg base 1 "tokens" G.a_tokens G.fd_tokens ["text"] 1 f_tokens := by
  refine ⟨fn_okK (k := 0) (N := ["text", "found", "word", "start", "skip", "place", "sign"]) (b := b_tokens) G.F_tokens ⟨rfl, rfl, rfl, by decide +kernel, rfl, by decide +kernel, by decide +kernel⟩ rfl rfl ?_, G.g_tokens, G.F_tokens.kp, (Fun.binds G.F_tokens fun _ _ _ _ _ _ us hl => match us, hl with | [_], _ => rfl), rfl⟩
  intro X W hK hmg hP hw hb hNN hsc hfn hc hst hfr hex hr tk hp
  obtain ⟨prog', w', K', mg', base', A, N', s0, H0, env, outer, stack, ex, fnn, calm, pn, xe⟩ := X
  obtain ⟨scope, locals, globals, cells, qual, func, code, frame, builtins⟩ := env
  obtain rfl : K' = K := hK
  obtain rfl : mg' = mg := hmg
  obtain rfl : prog' = PRG := hP
  obtain rfl : w' = w := hw
  obtain rfl : base' = base := hb
  obtain rfl : N' = (["text", "found", "word", "start", "skip", "place", "sign"] : List Str) := hNN
  obtain rfl : scope = defScope (top 17) := hsc
  obtain rfl : fnn = (fun _ => true) := hfn
  have hN : (["text", "found", "word", "start", "skip", "place", "sign"] : List Str).Nodup := by decide +kernel
  have hu := hr.units
  have hu1 := Nat.lt_of_le_of_lt (Nat.add_le_add_left (by decide : 1 ≤ 64) _) hu
  exact (by
    refine jss_cons (js_asg (je_tup (ja_cons (je_new ja_nil) (ja_cons je_str (ja_cons je_int (ja_cons je_bl ja_nil))))) (jg_tup hc (jgs_cons (jg_name 1 hN) (jgs_cons (jg_name 2 hN) (jgs_cons (jg_name 3 hN) (jgs_cons (jg_name 4 hN) jgs_nil)))))) ?_
    refine jss_cons (js_for hc hp (ji_enumS G.b_enumerate (ja_cons (je_add (je_var 0) je_str) ja_nil)) (jg_tup hc (jgs_cons (jg_name 5 hN) (jgs_cons (jg_name 6 hN) jgs_nil))) (by
      exact jss_one (js_if (jt_w (jw_or (jt_inS (je_var 6) je_str) (jw_or1 (jt_tru (je_var 4))))) (by
        refine jss_cons (js_if (jt_tru (je_var 2)) (by
          refine jss_cons (js_expr (je_append (je_var 1) (je_tup (ja_cons (je_var 2) (ja_cons (je_var 3) ja_nil))))) ?_
          exact jss_one (js_set 2 hN je_str)) jss_nil) ?_
        refine jss_cons (js_set 4 hN (je_or (je_eq hu (je_var 6) je_str) (je_one (je_and (je_var 4) (je_one (je_ne hu (je_var 6) je_str)))))) ?_
        exact jss_one (js_if (jt_w (jw_and (jt_inS (je_var 6) je_str) (jw_and1 (jt_not (jt_tru (je_var 4)))))) (by
          exact jss_one (js_expr (je_append (je_var 1) (je_tup (ja_cons (je_var 6) (ja_cons (je_var 5) ja_nil)))))) jss_nil)) (by
        refine jss_cons (js_set 3 hN (je_ifE (jt_tru (je_var 2)) (je_var 3) (je_var 5))) ?_
        exact jss_one (js_aug 2 opR_iadd opS_add hN (je_var 6)))))) ?_
    exact jss_one (js_ret (je_var 1)))

theorem ok_whole_or_word (G : Fx w K mg) : Pr PRG w K mg base 4 "whole_or_word" G.a_whole_or_word G.fd_whole_or_word ["word", "place"] 2 f_whole_or_word := by
  refine ⟨fn_okK (k := 3) (N := ["word", "place", "body", "sign"]) (b := b_whole_or_word) G.F_whole_or_word ⟨rfl, rfl, rfl, by decide +kernel, rfl, by decide +kernel, by decide +kernel⟩ rfl rfl ?_, G.g_whole_or_word, G.F_whole_or_word.kp, (Fun.binds G.F_whole_or_word fun _ _ _ _ _ _ us hl => match us, hl with | [_, _], _ => rfl), rfl⟩
  intro X W hK hmg hP hw hb hNN hsc hfn hc hst hfr hex hr tk hp
  obtain ⟨prog', w', K', mg', base', A, N', s0, H0, env, outer, stack, ex, fnn, calm, pn, xe⟩ := X
  obtain ⟨scope, locals, globals, cells, qual, func, code, frame, builtins⟩ := env
  obtain rfl : K' = K := hK
  obtain rfl : mg' = mg := hmg
  obtain rfl : prog' = PRG := hP
  obtain rfl : w' = w := hw
  obtain rfl : base' = base := hb
  obtain rfl : N' = (["word", "place", "body", "sign"] : List Str) := hNN
  obtain rfl : scope = defScope (top 19) := hsc
  obtain rfl : fnn = (fun _ => true) := hfn
  have hN : (["word", "place", "body", "sign"] : List Str).Nodup := by decide +kernel
  have hu := hr.units
  have hu1 := Nat.lt_of_le_of_lt (Nat.add_le_add_left (by decide : 1 ≤ 64) _) hu
  exact (by
    refine jss_cons (js_set 2 hN (je_ifE (jt_eq hu (je_ix (je_var 0) je_int) je_str) (je_slS (je_var 0) (jo_some je_int) jo_none) (je_var 0))) ?_
    refine jss_cons (js_if (jt_w (jw_and (jt_ne hu (je_var 2) je_str) (jw_and1 (jt_tru (je_all hc G.b_all (ja_cons (je_lc (own := [("sign", 3)]) hc hN (ji_str (je_var 2)) (blkOk_by (by rfl)) (fun s H C cl fp => (jgw_name 3 hN)) (fun s H C cl fp => jts_nil) (fun s H C cl fp => (je_inS (je_var 3) je_str))) ja_nil)))))) (by
      refine jss_cons (js_if (jt_w (jw_or (jt_gt (je_len G.b_len (ja_cons (je_var 2) ja_nil)) je_int) (jw_or (jt_w (jw_and (jt_gt (je_len G.b_len (ja_cons (je_var 2) ja_nil)) je_int) (jw_and1 (jt_eq hu (je_ix (je_var 2) je_int) je_str)))) (jw_or1 (jt_eq hu (je_var 0) je_str))))) (by
        exact jss_one (js_raiseT G.t_TextError (G.i_TextError _) (hr.mono (by decide)) G.ib_TextError G.g_TextError hc tk (ja_cons je_str (ja_cons (je_var 1) ja_nil)))) jss_nil) ?_
      exact jss_one (js_ret (je_intF G.b_int (ja_cons (je_var 0) ja_nil)))) jss_nil) ?_
    exact jss_one (js_ret (je_var 0)))

theorem ok_read (G : Fx w K mg) : Pr PRG w K mg base 5 "read" G.a_read G.fd_read ["text"] 1 f_read := by
  refine ⟨fn_okK (k := 4) (N := ["text", "stack", "word", "place", "done"]) (b := b_read) G.F_read ⟨rfl, rfl, rfl, by decide +kernel, rfl, by decide +kernel, by decide +kernel⟩ rfl rfl ?_, G.g_read, G.F_read.kp, (Fun.binds G.F_read fun _ _ _ _ _ _ us hl => match us, hl with | [_], _ => rfl), rfl⟩
  intro X W hK hmg hP hw hb hNN hsc hfn hc hst hfr hex hr tk hp
  obtain ⟨prog', w', K', mg', base', A, N', s0, H0, env, outer, stack, ex, fnn, calm, pn, xe⟩ := X
  obtain ⟨scope, locals, globals, cells, qual, func, code, frame, builtins⟩ := env
  obtain rfl : K' = K := hK
  obtain rfl : mg' = mg := hmg
  obtain rfl : prog' = PRG := hP
  obtain rfl : w' = w := hw
  obtain rfl : base' = base := hb
  obtain rfl : N' = (["text", "stack", "word", "place", "done"] : List Str) := hNN
  obtain rfl : scope = defScope (top 18) := hsc
  obtain rfl : fnn = (fun _ => true) := hfn
  have hN : (["text", "stack", "word", "place", "done"] : List Str).Nodup := by decide +kernel
  have hu := hr.units
  have hu1 := Nat.lt_of_le_of_lt (Nat.add_le_add_left (by decide : 1 ≤ 64) _) hu
  exact (by
    refine jss_cons (js_if (jt_gt (je_len G.b_len (ja_cons (je_var 0) ja_nil)) (je_gint G.c_MOST_TEXT)) (by
      exact jss_one (js_raiseT G.t_TextError (G.i_TextError _) (hr.mono (by decide)) G.ib_TextError G.g_TextError hc tk (ja_cons je_str (ja_cons je_int ja_nil)))) jss_nil) ?_
    refine jss_cons (js_set 1 hN (je_new (ja_cons (je_new ja_nil) ja_nil))) ?_
    refine jss_cons (js_forR 100000 hc hp (je_fn (ok_tokens G) hr tk (ja_cons (je_var 0) ja_nil) (by decide)) (jg_tup hc (jgs_cons (jg_name 2 hN) (jgs_cons (jg_name 3 hN) jgs_nil))) (by
      exact jss_one (js_if (jt_eq hu (je_var 2) je_str) (by
        refine jss_cons (js_expr (je_append (je_var 1) (je_new ja_nil))) ?_
        exact jss_one (js_if (jt_gt (je_len G.b_len (ja_cons (je_var 1) ja_nil)) (je_gint G.c_MOST_DEPTH)) (by
          exact jss_one (js_raiseT G.t_TextError (G.i_TextError _) (hr.mono (by decide)) G.ib_TextError G.g_TextError hc tk (ja_cons je_str (ja_cons (je_var 3) ja_nil)))) jss_nil)) (by
        exact jss_one (js_if (jt_eq hu (je_var 2) je_str) (by
          refine jss_cons (js_if (jt_eq hu (je_len G.b_len (ja_cons (je_var 1) ja_nil)) je_int) (by
            exact jss_one (js_raiseT G.t_TextError (G.i_TextError _) (hr.mono (by decide)) G.ib_TextError G.g_TextError hc tk (ja_cons je_str (ja_cons (je_var 3) ja_nil)))) jss_nil) ?_
          refine jss_cons (js_set 4 hN (je_tuple G.b_tuple (ja_cons (je_pop (je_var 1)) ja_nil))) ?_
          exact jss_one (js_expr (je_append (je_ix (je_var 1) (je_neg je_int)) (je_var 4)))) (by
          exact jss_one (js_expr (je_append (je_ix (je_var 1) (je_neg je_int)) (je_fn (ok_whole_or_word G) hr tk (ja_cons (je_var 2) (ja_cons (je_var 3) ja_nil)) (by decide)))))))))) ?_
    refine jss_cons (js_if (jt_gt (je_len G.b_len (ja_cons (je_var 1) ja_nil)) je_int) (by
      exact jss_one (js_raiseT G.t_TextError (G.i_TextError _) (hr.mono (by decide)) G.ib_TextError G.g_TextError hc tk (ja_cons je_str (ja_cons (je_len G.b_len (ja_cons (je_var 0) ja_nil)) ja_nil)))) jss_nil) ?_
    exact jss_one (js_ret (je_tuple G.b_tuple (ja_cons (je_ix (je_var 1) je_int) ja_nil))))

theorem ok_is_integer (G : Fx w K mg) : Pr PRG w K mg base 1 "is_integer" G.a_is_integer G.fd_is_integer ["value"] 1 f_is_integer := by
  refine ⟨fn_okK (k := 0) (N := ["value"]) (b := b_is_integer) G.F_is_integer ⟨rfl, rfl, rfl, by decide +kernel, rfl, by decide +kernel, by decide +kernel⟩ rfl rfl ?_, G.g_is_integer, G.F_is_integer.kp, (Fun.binds G.F_is_integer fun _ _ _ _ _ _ us hl => match us, hl with | [_], _ => rfl), rfl⟩
  intro X W hK hmg hP hw hb hNN hsc hfn hc hst hfr hex hr tk hp
  obtain ⟨prog', w', K', mg', base', A, N', s0, H0, env, outer, stack, ex, fnn, calm, pn, xe⟩ := X
  obtain ⟨scope, locals, globals, cells, qual, func, code, frame, builtins⟩ := env
  obtain rfl : K' = K := hK
  obtain rfl : mg' = mg := hmg
  obtain rfl : prog' = PRG := hP
  obtain rfl : w' = w := hw
  obtain rfl : base' = base := hb
  obtain rfl : N' = (["value"] : List Str) := hNN
  obtain rfl : scope = defScope (top 53) := hsc
  obtain rfl : fnn = (fun _ => true) := hfn
  have hN : (["value"] : List Str).Nodup := by decide +kernel
  have hu := hr.units
  have hu1 := Nat.lt_of_le_of_lt (Nat.add_le_add_left (by decide : 1 ≤ 64) _) hu
  exact (by
    exact jss_one (js_ret (je_and (je_isi "int" G.b_isinstance G.b_int (by kernel_rfl) (je_var 0)) (je_one (je_not (je_isi "bool" G.b_isinstance G.b_bool (by kernel_rfl) (je_var 0)))))))

theorem ok_is_name (G : Fx w K mg) : Pr PRG w K mg base 1 "is_name" G.a_is_name G.fd_is_name ["value"] 1 f_is_name := by
  refine ⟨fn_okK (k := 0) (N := ["value", "sign"]) (b := b_is_name) G.F_is_name ⟨rfl, rfl, rfl, by decide +kernel, rfl, by decide +kernel, by decide +kernel⟩ rfl rfl ?_, G.g_is_name, G.F_is_name.kp, (Fun.binds G.F_is_name fun _ _ _ _ _ _ us hl => match us, hl with | [_], _ => rfl), rfl⟩
  intro X W hK hmg hP hw hb hNN hsc hfn hc hst hfr hex hr tk hp
  obtain ⟨prog', w', K', mg', base', A, N', s0, H0, env, outer, stack, ex, fnn, calm, pn, xe⟩ := X
  obtain ⟨scope, locals, globals, cells, qual, func, code, frame, builtins⟩ := env
  obtain rfl : K' = K := hK
  obtain rfl : mg' = mg := hmg
  obtain rfl : prog' = PRG := hP
  obtain rfl : w' = w := hw
  obtain rfl : base' = base := hb
  obtain rfl : N' = (["value", "sign"] : List Str) := hNN
  obtain rfl : scope = defScope (top 54) := hsc
  obtain rfl : fnn = (fun _ => true) := hfn
  have hN : (["value", "sign"] : List Str).Nodup := by decide +kernel
  have hu := hr.units
  have hu1 := Nat.lt_of_le_of_lt (Nat.add_le_add_left (by decide : 1 ≤ 64) _) hu
  exact (by
    refine jss_cons (js_if (jt_w (jw_or (jt_not (jt_tru (je_isi "str" G.b_isinstance G.b_str (by kernel_rfl) (je_var 0)))) (jw_or (jt_not (jt_lele je_int (je_len G.b_len (ja_cons (je_var 0) ja_nil)) je_int)) (jw_or jt_bad (jw_or1 jt_bad))))) (by
      exact jss_one (js_ret je_bl)) jss_nil) ?_
    exact jss_one js_bad)

theorem ok_declared (G : Fx w K mg) : Pr PRG w K mg base 4 "declared" G.a_declared G.fd_declared ["names", "name", "kind"] 3 f_declared := by
  refine ⟨fn_okK (k := 3) (N := ["names", "name", "kind", "sort"]) (b := b_declared) G.F_declared ⟨rfl, rfl, rfl, by decide +kernel, rfl, by decide +kernel, by decide +kernel⟩ rfl rfl ?_, G.g_declared, G.F_declared.kp, (Fun.binds G.F_declared fun _ _ _ _ _ _ us hl => match us, hl with | [_, _, _], _ => rfl), rfl⟩
  intro X W hK hmg hP hw hb hNN hsc hfn hc hst hfr hex hr tk hp
  obtain ⟨prog', w', K', mg', base', A, N', s0, H0, env, outer, stack, ex, fnn, calm, pn, xe⟩ := X
  obtain ⟨scope, locals, globals, cells, qual, func, code, frame, builtins⟩ := env
  obtain rfl : K' = K := hK
  obtain rfl : mg' = mg := hmg
  obtain rfl : prog' = PRG := hP
  obtain rfl : w' = w := hw
  obtain rfl : base' = base := hb
  obtain rfl : N' = (["names", "name", "kind", "sort"] : List Str) := hNN
  obtain rfl : scope = defScope (top 55) := hsc
  obtain rfl : fnn = (fun _ => true) := hfn
  have hN : (["names", "name", "kind", "sort"] : List Str).Nodup := by decide +kernel
  have hu := hr.units
  have hu1 := Nat.lt_of_le_of_lt (Nat.add_le_add_left (by decide : 1 ≤ 64) _) hu
  exact (by
    refine jss_cons (js_if (jt_not (jt_tru (je_fn (ok_is_name G) hr tk (ja_cons (je_var 1) ja_nil) (by decide)))) (by
      exact jss_one (js_raiseS G.t_TermError (G.i0 _) (hr.mono (by decide)) G.ib0 G.g_TermError hc tk (ja_cons je_str ja_nil))) jss_nil) ?_
    refine jss_cons (js_if (jt_inS (je_var 1) (je_var 0)) (by
      exact jss_one (js_raiseS G.t_TermError (G.i0 _) (hr.mono (by decide)) G.ib0 G.g_TermError hc tk (ja_cons je_str ja_nil))) jss_nil) ?_
    refine jss_cons (js_if (jt_w (jw_and (jt_eq hu (je_ix (je_var 2) je_int) je_str) (jw_and1 (jt_not (jt_w (jw_and (jt_le (je_ix (je_var 2) je_int) (je_ix (je_var 2) je_int)) (jw_and jt_bad (jw_and1 jt_bad)))))))) (by
      exact jss_one (js_raiseS G.t_TermError (G.i0 _) (hr.mono (by decide)) G.ib0 G.g_TermError hc tk (ja_cons je_str ja_nil))) jss_nil) ?_
    refine jss_cons (js_if (jt_w (jw_and (jt_eq hu (je_ix (je_var 2) je_int) je_str) (jw_and1 (jt_not jt_bad)))) (by
      exact jss_one (js_raiseS G.t_TermError (G.i0 _) (hr.mono (by decide)) G.ib0 G.g_TermError hc tk (ja_cons je_str ja_nil))) jss_nil) ?_
    refine jss_cons (js_if (jt_w (jw_or jt_bad (jw_or1 (jt_w (jw_and (jt_eq hu (je_ix (je_var 2) je_int) je_str) (jw_and1 (jt_not (jt_tru (je_ix (je_var 2) je_int))))))))) (by
      exact jss_one (js_raiseS G.t_TermError (G.i0 _) (hr.mono (by decide)) G.ib0 G.g_TermError hc tk (ja_cons je_str ja_nil))) jss_nil) ?_
    exact jss_one js_bad)

theorem ok_Gates___init__ (G : Fx w K mg) : Pk PRG w K mg base 1 G.C_Gates G.a_Gates___init__ G.fd_Gates___init__ ["self"] 1 f_Gates___init__ := by
  refine ⟨fn_okK (k := 0) (N := ["self"]) (b := b_Gates___init__) G.F_Gates___init__ ⟨rfl, rfl, rfl, by decide +kernel, rfl, by decide +kernel, by decide +kernel⟩ rfl rfl ?_, G.m_Gates___init__, (Fun.binds G.F_Gates___init__ fun _ _ _ _ _ _ us hl => match us, hl with | [_], _ => rfl)⟩
  intro X W hK hmg hP hw hb hNN hsc hfn hc hst hfr hex hr tk hp
  obtain ⟨prog', w', K', mg', base', A, N', s0, H0, env, outer, stack, ex, fnn, calm, pn, xe⟩ := X
  obtain ⟨scope, locals, globals, cells, qual, func, code, frame, builtins⟩ := env
  obtain rfl : K' = K := hK
  obtain rfl : mg' = mg := hmg
  obtain rfl : prog' = PRG := hP
  obtain rfl : w' = w := hw
  obtain rfl : base' = base := hb
  obtain rfl : N' = (["self"] : List Str) := hNN
  obtain rfl : scope = defScope (clsSt (top 68) 0) := hsc
  obtain rfl : fnn = (fun _ => true) := hfn
  have hN : (["self"] : List Str).Nodup := by decide +kernel
  have hu := hr.units
  have hu1 := Nat.lt_of_le_of_lt (Nat.add_le_add_left (by decide : 1 ≤ 64) _) hu
  exact (by
    refine jss_cons (js_fld G.k_Gates G.n_Gates_table (je_var 0) (je_new ja_nil)) ?_
    exact jss_one (js_fld G.k_Gates G.n_Gates_numbers (je_var 0) (je_dnew true)))

theorem ok_Gates_named (G : Fx w K mg) : Pm PRG w K mg base 1 G.C_Gates "named" G.a_Gates_named G.fd_Gates_named ["self", "gate"] 2 f_Gates_named := by
  refine ⟨fn_okK (k := 0) (N := ["self", "gate"]) (b := b_Gates_named) G.F_Gates_named ⟨rfl, rfl, rfl, by decide +kernel, rfl, by decide +kernel, by decide +kernel⟩ rfl rfl ?_, G.m_Gates_named, (Fun.binds G.F_Gates_named fun _ _ _ _ _ _ us hl => match us, hl with | [_, _], _ => rfl), rfl⟩
  intro X W hK hmg hP hw hb hNN hsc hfn hc hst hfr hex hr tk hp
  obtain ⟨prog', w', K', mg', base', A, N', s0, H0, env, outer, stack, ex, fnn, calm, pn, xe⟩ := X
  obtain ⟨scope, locals, globals, cells, qual, func, code, frame, builtins⟩ := env
  obtain rfl : K' = K := hK
  obtain rfl : mg' = mg := hmg
  obtain rfl : prog' = PRG := hP
  obtain rfl : w' = w := hw
  obtain rfl : base' = base := hb
  obtain rfl : N' = (["self", "gate"] : List Str) := hNN
  obtain rfl : scope = defScope (clsSt (top 68) 1) := hsc
  obtain rfl : fnn = (fun _ => true) := hfn
  have hN : (["self", "gate"] : List Str).Nodup := by decide +kernel
  have hu := hr.units
  have hu1 := Nat.lt_of_le_of_lt (Nat.add_le_add_left (by decide : 1 ≤ 64) _) hu
  exact (by
    refine jss_cons (js_if (jt_dnin hu1 (je_var 1) (je_fld G.k_Gates G.n_Gates_numbers (je_var 0))) (by
      refine jss_cons (js_expr (je_append (je_fld G.k_Gates G.n_Gates_table (je_var 0)) (je_var 1))) ?_
      exact jss_one (js_dput hu1 (je_fld G.k_Gates G.n_Gates_numbers (je_var 0)) (je_var 1) (je_len G.b_len (ja_cons (je_fld G.k_Gates G.n_Gates_table (je_var 0)) ja_nil)))) jss_nil) ?_
    exact jss_one (js_ret (je_dget hu1 (je_fld G.k_Gates G.n_Gates_numbers (je_var 0)) (je_var 1))))

theorem ok_need_proofs (G : Fx w K mg) : Pr PRG w K mg base 4 "need_proofs" G.a_need_proofs G.fd_need_proofs ["is_so", "code", "step"] 3 f_need_proofs := by
  refine ⟨fn_okK (k := 3) (N := ["is_so", "code", "step"]) (b := b_need_proofs) G.F_need_proofs ⟨rfl, rfl, rfl, by decide +kernel, rfl, by decide +kernel, by decide +kernel⟩ rfl rfl ?_, G.g_need_proofs, G.F_need_proofs.kp, (Fun.binds G.F_need_proofs fun _ _ _ _ _ _ us hl => match us, hl with | [_, _, _], _ => rfl), rfl⟩
  intro X W hK hmg hP hw hb hNN hsc hfn hc hst hfr hex hr tk hp
  obtain ⟨prog', w', K', mg', base', A, N', s0, H0, env, outer, stack, ex, fnn, calm, pn, xe⟩ := X
  obtain ⟨scope, locals, globals, cells, qual, func, code, frame, builtins⟩ := env
  obtain rfl : K' = K := hK
  obtain rfl : mg' = mg := hmg
  obtain rfl : prog' = PRG := hP
  obtain rfl : w' = w := hw
  obtain rfl : base' = base := hb
  obtain rfl : N' = (["is_so", "code", "step"] : List Str) := hNN
  obtain rfl : scope = defScope (top 73) := hsc
  obtain rfl : fnn = (fun _ => true) := hfn
  have hN : (["is_so", "code", "step"] : List Str).Nodup := by decide +kernel
  have hu := hr.units
  have hu1 := Nat.lt_of_le_of_lt (Nat.add_le_add_left (by decide : 1 ≤ 64) _) hu
  exact (by
    exact jss_one (js_if (jt_not (jt_tru (je_var 0))) (by
      exact jss_one (js_raiseT G.t_ProofError (G.i_ProofError _) (hr.mono (by decide)) G.ib_ProofError G.g_ProofError hc tk (ja_cons (je_var 1) (ja_cons (je_var 2) ja_nil)))) jss_nil))

theorem ok_unit_closure (G : Fx w K mg) : Pr PRG w K mg base 1 "unit_closure" G.a_unit_closure G.fd_unit_closure ["clauses", "literals"] 2 f_unit_closure := by
  refine ⟨fn_okK (k := 0) (N := ["clauses", "literals", "true", "changed", "clause", "opened", "literal", "each"]) (b := b_unit_closure) G.F_unit_closure ⟨rfl, rfl, rfl, by decide +kernel, rfl, by decide +kernel, by decide +kernel⟩ rfl rfl ?_, G.g_unit_closure, G.F_unit_closure.kp, (Fun.binds G.F_unit_closure fun _ _ _ _ _ _ us hl => match us, hl with | [_, _], _ => rfl), rfl⟩
  intro X W hK hmg hP hw hb hNN hsc hfn hc hst hfr hex hr tk hp
  obtain ⟨prog', w', K', mg', base', A, N', s0, H0, env, outer, stack, ex, fnn, calm, pn, xe⟩ := X
  obtain ⟨scope, locals, globals, cells, qual, func, code, frame, builtins⟩ := env
  obtain rfl : K' = K := hK
  obtain rfl : mg' = mg := hmg
  obtain rfl : prog' = PRG := hP
  obtain rfl : w' = w := hw
  obtain rfl : base' = base := hb
  obtain rfl : N' = (["clauses", "literals", "true", "changed", "clause", "opened", "literal", "each"] : List Str) := hNN
  obtain rfl : scope = defScope (top 75) := hsc
  obtain rfl : fnn = (fun _ => true) := hfn
  have hN : (["clauses", "literals", "true", "changed", "clause", "opened", "literal", "each"] : List Str).Nodup := by decide +kernel
  have hu := hr.units
  have hu1 := Nat.lt_of_le_of_lt (Nat.add_le_add_left (by decide : 1 ≤ 64) _) hu
  exact (by
    refine jss_cons (js_set 2 hN (je_dc false (own := [("literal", 6)]) hu1 hc hN (ji_list (je_var 1)) (blkOk_by (by rfl)) (fun s H C cl fp => (jgw_name 6 hN)) (fun s H C cl fp => jts_nil) (fun s H C cl fp => (je_var 6)) (fun s H C cl fp => je_bl))) ?_
    refine jss_cons (js_if (jt_tru (je_any hc G.b_any (ja_cons (je_lk 2 (je_lc (own := [("literal", 6)]) hc hN (ji_keys (je_var 2)) (blkOk_by (by rfl)) (fun s H C cl fp => (jgw_name 6 hN)) (fun s H C cl fp => jts_nil) (fun s H C cl fp => (je_din hu1 (je_neg (je_var 6)) (je_var 2))))) ja_nil))) (by
      exact jss_one (js_ret je_bl)) jss_nil) ?_
    refine jss_cons (js_set 3 hN je_bl) ?_
    refine jss_cons (js_while 1000 hp (jt_tru (je_var 3)) (by
      refine jss_cons (js_set 3 hN je_bl) ?_
      exact jss_one (js_for hc hp (ji_list (je_var 0)) (jg_name 4 hN) (by
        exact jss_one (js_if (jt_not (jt_tru (je_any hc G.b_any (ja_cons (je_lc (own := [("each", 7)]) hc hN (ji_list (je_var 4)) (blkOk_by (by rfl)) (fun s H C cl fp => (jgw_name 7 hN)) (fun s H C cl fp => jts_nil) (fun s H C cl fp => (je_din hu1 (je_var 7) (je_var 2)))) ja_nil)))) (by
          refine jss_cons js_bad ?_
          refine jss_cons (js_if (jt_not (jt_tru (je_var 5))) (by
            exact jss_one (js_ret je_bl)) jss_nil) ?_
          exact jss_one (js_if (jt_eq hu (je_len G.b_len (ja_cons (je_var 5) ja_nil)) je_int) (by
            refine jss_cons (js_dput hu1 (je_var 2) (je_ix (je_var 5) je_int) je_bl) ?_
            exact jss_one (js_set 3 hN je_bl)) jss_nil)) jss_nil))))) ?_
    exact jss_one (js_ret je_bl))

theorem ok_holds (G : Fx w K mg) : Pr PRG w K mg base 2 "holds" G.a_holds G.fd_holds ["names", "asserted", "gates", "clauses", "clause", "why"] 6 f_holds := by
  refine ⟨fn_okK (k := 1) (N := ["names", "asserted", "gates", "clauses", "clause", "why", "number", "told", "selector", "formula", "size", "literal", "used", "rows", "goals", "row", "each", "one", "other"]) (b := b_holds) G.F_holds ⟨rfl, rfl, rfl, by decide +kernel, rfl, by decide +kernel, by decide +kernel⟩ rfl rfl ?_, G.g_holds, G.F_holds.kp, (Fun.binds G.F_holds fun _ _ _ _ _ _ us hl => match us, hl with | [_, _, _, _, _, _], _ => rfl), rfl⟩
  intro X W hK hmg hP hw hb hNN hsc hfn hc hst hfr hex hr tk hp
  obtain ⟨prog', w', K', mg', base', A, N', s0, H0, env, outer, stack, ex, fnn, calm, pn, xe⟩ := X
  obtain ⟨scope, locals, globals, cells, qual, func, code, frame, builtins⟩ := env
  obtain rfl : K' = K := hK
  obtain rfl : mg' = mg := hmg
  obtain rfl : prog' = PRG := hP
  obtain rfl : w' = w := hw
  obtain rfl : base' = base := hb
  obtain rfl : N' = (["names", "asserted", "gates", "clauses", "clause", "why", "number", "told", "selector", "formula", "size", "literal", "used", "rows", "goals", "row", "each", "one", "other"] : List Str) := hNN
  obtain rfl : scope = defScope (top 77) := hsc
  obtain rfl : fnn = (fun _ => true) := hfn
  have hN : (["names", "asserted", "gates", "clauses", "clause", "why", "number", "told", "selector", "formula", "size", "literal", "used", "rows", "goals", "row", "each", "one", "other"] : List Str).Nodup := by decide +kernel
  have hu := hr.units
  have hu1 := Nat.lt_of_le_of_lt (Nat.add_le_add_left (by decide : 1 ≤ 64) _) hu
  exact (by
    refine jss_cons (js_if (jt_eq hu (je_ix (je_var 5) je_int) je_str) (by
      refine jss_cons (js_set 6 hN (je_ix (je_var 5) je_int)) ?_
      refine jss_cons js_bad ?_
      exact jss_one (js_ret (je_any hc G.b_any (ja_cons (je_lc (own := [("row", 15)]) hc hN (ji_list (je_var 7)) (blkOk_by (by rfl)) (fun s H C cl fp => (jgw_name 15 hN)) (fun s H C cl fp => jts_nil) (fun s H C cl fp => (je_all hc G.b_all (ja_cons (je_lc (own := [("each", 16)]) hc hN (ji_list (je_var 15)) (blkOk_by (by rfl)) (fun s H C cl fp => (jgw_name 16 hN)) (fun s H C cl fp => jts_nil) (fun s H C cl fp => (je_inS (je_var 16) (je_var 4)))) ja_nil)))) ja_nil)))) jss_nil) ?_
    refine jss_cons (js_if (jt_eq hu (je_ix (je_var 5) je_int) je_str) (by
      refine jss_cons (js_asg (je_ix (je_var 1) (je_ix (je_var 5) je_int)) (jg_tup hc (jgs_cons (jg_name 8 hN) (jgs_cons (jg_name 9 hN) jgs_nil)))) ?_
      refine jss_cons (js_set 10 hN (je_len G.b_len (ja_cons (je_fld G.k_Gates G.n_Gates_table (je_var 2)) ja_nil))) ?_
      refine jss_cons js_bad ?_
      exact jss_one (js_ret (je_and (je_eq hu (je_len G.b_len (ja_cons (je_fld G.k_Gates G.n_Gates_table (je_var 2)) ja_nil)) (je_var 10)) (je_and (je_inS (je_neg (je_var 8)) (je_var 4)) (je_one (je_inS (je_var 11) (je_var 4))))))) jss_nil) ?_
    refine jss_cons (js_if (jt_eq hu (je_ix (je_var 5) je_int) je_str) (by
      exact jss_one (js_ret (je_fn (ok_unit_closure G) hr tk (ja_cons (je_var 3) (ja_cons (je_lc (own := [("each", 16)]) hc hN (ji_tup (je_var 4)) (blkOk_by (by rfl)) (fun s H C cl fp => (jgw_name 16 hN)) (fun s H C cl fp => jts_nil) (fun s H C cl fp => (je_neg (je_var 16)))) ja_nil)) (by decide)))) jss_nil) ?_
    refine jss_cons (js_if (jt_eq hu (je_ix (je_var 5) je_int) je_str) (by
      refine jss_cons js_bad ?_
      refine jss_cons (js_if (jt_not (jt_tru (je_all hc G.b_all (ja_cons (je_lc (own := [("literal", 11)]) hc hN (ji_list (je_var 12)) (blkOk_by (by rfl)) (fun s H C cl fp => (jgw_name 11 hN)) (fun s H C cl fp => jts_nil) (fun s H C cl fp => (je_inS (je_neg (je_var 11)) (je_var 4)))) ja_nil)))) (by
        exact jss_one (js_ret je_bl)) jss_nil) ?_
      refine jss_cons (js_if (jt_not (jt_tru (je_all hc G.b_all (ja_cons (je_lc (own := [("literal", 11)]) hc hN (ji_list (je_var 12)) (blkOk_by (by rfl)) (fun s H C cl fp => (jgw_name 11 hN)) (fun s H C cl fp => jts_nil) (fun s H C cl fp => (je_eq hu (je_ix (je_ix (je_fld G.k_Gates G.n_Gates_table (je_var 2)) (je_sub (je_abs G.b_abs (ja_cons (je_var 11) ja_nil)) je_int)) je_int) je_str))) ja_nil)))) (by
        exact jss_one (js_ret je_bl)) jss_nil) ?_
      exact jss_one js_bad) jss_nil) ?_
    refine jss_cons (js_if (jt_eq hu (je_ix (je_var 5) je_int) je_str) (by
      refine jss_cons js_bad ?_
      refine jss_cons js_bad ?_
      exact jss_one js_bad) jss_nil) ?_
    refine jss_cons (js_if jt_bad (by
      exact jss_one js_bad) jss_nil) ?_
    exact jss_one (js_ret je_bl))

theorem ok_check_proof (G : Fx w K mg) : Pr PRG w K mg base 5 "check_proof" G.a_check_proof G.fd_check_proof ["names", "asserted", "table", "steps", "goal"] 5 f_check_proof := by
  refine ⟨fn_okK (k := 4) (N := ["names", "asserted", "table", "steps", "goal", "gates", "clauses", "at", "clause", "why", "gate", "each"]) (b := b_check_proof) G.F_check_proof ⟨rfl, rfl, rfl, by decide +kernel, rfl, by decide +kernel, by decide +kernel⟩ rfl rfl ?_, G.g_check_proof, G.F_check_proof.kp, (Fun.binds G.F_check_proof fun _ _ _ _ _ _ us hl => match us, hl with | [_, _, _, _, _], _ => rfl), rfl⟩
  intro X W hK hmg hP hw hb hNN hsc hfn hc hst hfr hex hr tk hp
  obtain ⟨prog', w', K', mg', base', A, N', s0, H0, env, outer, stack, ex, fnn, calm, pn, xe⟩ := X
  obtain ⟨scope, locals, globals, cells, qual, func, code, frame, builtins⟩ := env
  obtain rfl : K' = K := hK
  obtain rfl : mg' = mg := hmg
  obtain rfl : prog' = PRG := hP
  obtain rfl : w' = w := hw
  obtain rfl : base' = base := hb
  obtain rfl : N' = (["names", "asserted", "table", "steps", "goal", "gates", "clauses", "at", "clause", "why", "gate", "each"] : List Str) := hNN
  obtain rfl : scope = defScope (top 76) := hsc
  obtain rfl : fnn = (fun _ => true) := hfn
  have hN : (["names", "asserted", "table", "steps", "goal", "gates", "clauses", "at", "clause", "why", "gate", "each"] : List Str).Nodup := by decide +kernel
  have hu := hr.units
  have hu1 := Nat.lt_of_le_of_lt (Nat.add_le_add_left (by decide : 1 ≤ 64) _) hu
  exact (by
    refine jss_cons (js_set 5 hN (je_make0 G.k_Gates (ok_Gates___init__ G) hr tk rfl (by decide))) ?_
    refine jss_cons (js_fld G.k_Gates G.n_Gates_table (je_var 5) (je_list G.b_list (ja_cons (je_var 2) ja_nil))) ?_
    refine jss_cons (js_fld G.k_Gates G.n_Gates_numbers (je_var 5) (je_dc true (own := [("at", 7), ("gate", 10)]) hu1 hc hN (ji_enumT G.b_enumerate (je_var 2)) (blkOk_by (by rfl)) (fun s H C cl fp => (jgw_tup hc (jgsw_cons (jgw_name 7 hN) (jgsw_cons (jgw_name 10 hN) jgsw_nil)))) (fun s H C cl fp => jts_nil) (fun s H C cl fp => (je_var 10)) (fun s H C cl fp => (je_add (je_var 7) je_int)))) ?_
    refine jss_cons (js_expr (je_fn (ok_need_proofs G) hr tk (ja_cons (je_eq hu (je_lenD G.b_len (ja_cons (je_fld G.k_Gates G.n_Gates_numbers (je_var 5)) ja_nil)) (je_len G.b_len (ja_cons (je_var 2) ja_nil))) (ja_cons je_str (ja_cons (je_neg je_int) ja_nil))) (by decide))) ?_
    refine jss_cons (js_set 6 hN (je_lst ja_nil)) ?_
    refine jss_cons (js_for hc hp (ji_enumT G.b_enumerate (je_var 3)) (jg_tup hc (jgs_cons (jg_name 7 hN) (jgs_cons (jg_tup hc (jgs_cons (jg_name 8 hN) (jgs_cons (jg_name 9 hN) jgs_nil))) jgs_nil))) (by
      refine jss_cons (js_expr (je_fn (ok_need_proofs G) hr tk (ja_cons (je_all hc G.b_all (ja_cons (je_lc (own := [("each", 11)]) hc hN (ji_tup (je_var 8)) (blkOk_by (by rfl)) (fun s H C cl fp => (jgw_name 11 hN)) (fun s H C cl fp => jts_nil) (fun s H C cl fp => (je_and (je_fn (ok_is_integer G) hr takes_no (ja_cons (je_var 11) ja_nil) (by decide)) (je_one (je_ltle je_int (je_abs G.b_abs (ja_cons (je_var 11) ja_nil)) (je_len G.b_len (ja_cons (je_var 2) ja_nil))))))) ja_nil)) (ja_cons je_str (ja_cons (je_var 7) ja_nil))) (by decide))) ?_
      refine jss_cons (js_expr (je_fn (ok_need_proofs G) hr tk (ja_cons (je_fn (ok_holds G) hr tk (ja_cons (je_var 0) (ja_cons (je_var 1) (ja_cons (je_var 5) (ja_cons (je_var 6) (ja_cons (je_var 8) (ja_cons (je_var 9) ja_nil)))))) (by decide)) (ja_cons (je_ix (je_var 9) je_int) (ja_cons (je_var 7) ja_nil))) (by decide))) ?_
      exact jss_one (js_expr (je_append (je_var 6) (je_var 8))))) ?_
    refine jss_cons (js_expr (je_fn (ok_need_proofs G) hr tk (ja_cons (je_any hc G.b_any (ja_cons (je_lc (own := [("clause", 8)]) hc hN (ji_list (je_var 6)) (blkOk_by (by rfl)) (fun s H C cl fp => (jgw_name 8 hN)) (fun s H C cl fp => jts_nil) (fun s H C cl fp => (je_all hc G.b_all (ja_cons (je_lc (own := [("each", 11)]) hc hN (ji_tup (je_var 8)) (blkOk_by (by rfl)) (fun s H C cl fp => (jgw_name 11 hN)) (fun s H C cl fp => jts_nil) (fun s H C cl fp => (je_inS (je_var 11) (je_var 4)))) ja_nil)))) ja_nil)) (ja_cons je_str (ja_cons (je_len G.b_len (ja_cons (je_var 3) ja_nil)) ja_nil))) (by decide))) ?_
    exact jss_one (js_ret je_bl))

theorem ok_Engine___init__ (G : Fx w K mg) : Pk PRG w K mg base 1 G.C_Engine G.a_Engine___init__ G.fd_Engine___init__ ["self", "names", "gates"] 3 f_Engine___init__ := by
  refine ⟨fn_okK (k := 0) (N := ["self", "names", "gates"]) (b := b_Engine___init__) G.F_Engine___init__ ⟨rfl, rfl, rfl, by decide +kernel, rfl, by decide +kernel, by decide +kernel⟩ rfl rfl ?_, G.m_Engine___init__, (Fun.binds G.F_Engine___init__ fun _ _ _ _ _ _ us hl => match us, hl with | [_, _, _], _ => rfl)⟩
  intro X W hK hmg hP hw hb hNN hsc hfn hc hst hfr hex hr tk hp
  obtain ⟨prog', w', K', mg', base', A, N', s0, H0, env, outer, stack, ex, fnn, calm, pn, xe⟩ := X
  obtain ⟨scope, locals, globals, cells, qual, func, code, frame, builtins⟩ := env
  obtain rfl : K' = K := hK
  obtain rfl : mg' = mg := hmg
  obtain rfl : prog' = PRG := hP
  obtain rfl : w' = w := hw
  obtain rfl : base' = base := hb
  obtain rfl : N' = (["self", "names", "gates"] : List Str) := hNN
  obtain rfl : scope = defScope (clsSt (top 82) 0) := hsc
  obtain rfl : fnn = (fun _ => true) := hfn
  have hN : (["self", "names", "gates"] : List Str).Nodup := by decide +kernel
  have hu := hr.units
  have hu1 := Nat.lt_of_le_of_lt (Nat.add_le_add_left (by decide : 1 ≤ 64) _) hu
  exact (by
    refine jss_cons (js_fld G.k_Engine G.n_Engine_names (je_var 0) (je_var 1)) ?_
    refine jss_cons (js_fld G.k_Engine G.n_Engine_gates (je_var 0) (je_var 2)) ?_
    refine jss_cons (js_fld G.k_Engine G.n_Engine_options (je_var 0) (je_dictW G.w_DEFAULTS G.b_dict)) ?_
    refine jss_cons (js_fld G.k_Engine G.n_Engine_steps (je_var 0) (je_lst ja_nil)) ?_
    refine jss_cons (js_fld G.k_Engine G.n_Engine_clauses (je_var 0) (je_lst ja_nil)) ?_
    refine jss_cons (js_fld G.k_Engine G.n_Engine_learned (je_var 0) (je_dnew false)) ?_
    refine jss_cons (js_fld G.k_Engine G.n_Engine_watches (je_var 0) (je_dnew false)) ?_
    refine jss_cons (js_fld G.k_Engine G.n_Engine_truths (je_var 0) (je_lst (ja_cons je_int ja_nil))) ?_
    refine jss_cons (js_fld G.k_Engine G.n_Engine_levels (je_var 0) (je_lst (ja_cons je_int ja_nil))) ?_
    refine jss_cons (js_fld G.k_Engine G.n_Engine_reasons (je_var 0) (je_lst (ja_cons je_non ja_nil))) ?_
    refine jss_cons (js_fld G.k_Engine G.n_Engine_heat (je_var 0) (je_lst (ja_cons je_int ja_nil))) ?_
    refine jss_cons (js_fld G.k_Engine G.n_Engine_trail (je_var 0) (je_lst ja_nil)) ?_
    refine jss_cons (js_fld G.k_Engine G.n_Engine_marks (je_var 0) (je_lst ja_nil)) ?_
    refine jss_cons (js_fld G.k_Engine G.n_Engine_head (je_var 0) je_int) ?_
    refine jss_cons (js_fld G.k_Engine G.n_Engine_tied (je_var 0) je_int) ?_
    refine jss_cons (js_fld G.k_Engine G.n_Engine_broken (je_var 0) je_bl) ?_
    refine jss_cons (js_fld G.k_Engine G.n_Engine_point (je_var 0) (je_dnew false)) ?_
    refine jss_cons (js_fld G.k_Engine G.n_Engine_bounds (je_var 0) (je_dnew false)) ?_
    refine jss_cons (js_fld G.k_Engine G.n_Engine_equal_key (je_var 0) je_non) ?_
    refine jss_cons (js_fld G.k_Engine G.n_Engine_equal_names (je_var 0) (je_dnew false)) ?_
    refine jss_cons (js_fld G.k_Engine G.n_Engine_room (je_var 0) je_int) ?_
    exact jss_one (js_fld G.k_Engine G.n_Engine_pause (je_var 0) je_int))

theorem ok_Session___init__ (G : Fx w K mg) : Pk PRG w K mg base 3 G.C_Session G.a_Session___init__ G.fd_Session___init__ ["self"] 1 f_Session___init__ := by
  refine ⟨fn_okK (k := 2) (N := ["self"]) (b := b_Session___init__) G.F_Session___init__ ⟨rfl, rfl, rfl, by decide +kernel, rfl, by decide +kernel, by decide +kernel⟩ rfl rfl ?_, G.m_Session___init__, (Fun.binds G.F_Session___init__ fun _ _ _ _ _ _ us hl => match us, hl with | [_], _ => rfl)⟩
  intro X W hK hmg hP hw hb hNN hsc hfn hc hst hfr hex hr tk hp
  obtain ⟨prog', w', K', mg', base', A, N', s0, H0, env, outer, stack, ex, fnn, calm, pn, xe⟩ := X
  obtain ⟨scope, locals, globals, cells, qual, func, code, frame, builtins⟩ := env
  obtain rfl : K' = K := hK
  obtain rfl : mg' = mg := hmg
  obtain rfl : prog' = PRG := hP
  obtain rfl : w' = w := hw
  obtain rfl : base' = base := hb
  obtain rfl : N' = (["self"] : List Str) := hNN
  obtain rfl : scope = defScope (clsSt (top 88) 0) := hsc
  obtain rfl : fnn = (fun _ => true) := hfn
  have hN : (["self"] : List Str).Nodup := by decide +kernel
  have hu := hr.units
  have hu1 := Nat.lt_of_le_of_lt (Nat.add_le_add_left (by decide : 1 ≤ 64) _) hu
  exact (by
    refine jss_cons (js_fld G.k_Session G.n_Session_names (je_var 0) (je_dnew false)) ?_
    refine jss_cons (js_fld G.k_Session G.n_Session_gates (je_var 0) (je_make0 G.k_Gates (ok_Gates___init__ G) hr tk rfl (by decide))) ?_
    refine jss_cons (js_fld G.k_Session G.n_Session_engine (je_var 0) (je_make G.k_Engine (ok_Engine___init__ G) hr tk rfl (ja_cons (je_fld G.k_Session G.n_Session_names (je_var 0)) (ja_cons (je_fld G.k_Session G.n_Session_gates (je_var 0)) ja_nil)) (by decide))) ?_
    refine jss_cons (js_fld G.k_Session G.n_Session_asserted (je_var 0) (je_lst ja_nil)) ?_
    refine jss_cons (js_fld G.k_Session G.n_Session_levels (je_var 0) (je_lst (ja_cons (je_lst (ja_cons (je_meth G.k_Gates (ok_Gates_named G) hr tk (je_fld G.k_Session G.n_Session_gates (je_var 0)) (ja_cons (je_tup (ja_cons je_str (ja_cons je_int ja_nil))) ja_nil) (by decide)) (ja_cons je_int ja_nil))) ja_nil))) ?_
    refine jss_cons (js_fld G.k_Session G.n_Session_last (je_var 0) je_non) ?_
    exact jss_one (js_fld G.k_Session G.n_Session_seen (je_var 0) je_int))

theorem ok_Session_declare (G : Fx w K mg) : Pm PRG w K mg base 5 G.C_Session "declare" G.a_Session_declare G.fd_Session_declare ["self", "name", "kind"] 3 f_Session_declare := by
  refine ⟨fn_okK (k := 4) (N := ["self", "name", "kind"]) (b := b_Session_declare) G.F_Session_declare ⟨rfl, rfl, rfl, by decide +kernel, rfl, by decide +kernel, by decide +kernel⟩ rfl rfl ?_, G.m_Session_declare, (Fun.binds G.F_Session_declare fun _ _ _ _ _ _ us hl => match us, hl with | [_, _, _], _ => rfl), rfl⟩
  intro X W hK hmg hP hw hb hNN hsc hfn hc hst hfr hex hr tk hp
  obtain ⟨prog', w', K', mg', base', A, N', s0, H0, env, outer, stack, ex, fnn, calm, pn, xe⟩ := X
  obtain ⟨scope, locals, globals, cells, qual, func, code, frame, builtins⟩ := env
  obtain rfl : K' = K := hK
  obtain rfl : mg' = mg := hmg
  obtain rfl : prog' = PRG := hP
  obtain rfl : w' = w := hw
  obtain rfl : base' = base := hb
  obtain rfl : N' = (["self", "name", "kind"] : List Str) := hNN
  obtain rfl : scope = defScope (clsSt (top 88) 1) := hsc
  obtain rfl : fnn = (fun _ => true) := hfn
  have hN : (["self", "name", "kind"] : List Str).Nodup := by decide +kernel
  have hu := hr.units
  have hu1 := Nat.lt_of_le_of_lt (Nat.add_le_add_left (by decide : 1 ≤ 64) _) hu
  exact (by
    refine jss_cons (js_fld G.k_Session G.n_Session_names (je_var 0) (je_fn (ok_declared G) hr tk (ja_cons (je_fld G.k_Session G.n_Session_names (je_var 0)) (ja_cons (je_var 1) (ja_cons (je_var 2) ja_nil))) (by decide))) ?_
    exact jss_one (js_fld G.k_Engine G.n_Engine_names (je_fld G.k_Session G.n_Session_engine (je_var 0)) (je_fld G.k_Session G.n_Session_names (je_var 0))))

theorem ok_Session_pop (G : Fx w K mg) : Pm PRG w K mg base 4 G.C_Session "pop" G.a_Session_pop G.fd_Session_pop ["self"] 1 f_Session_pop := by
  refine ⟨fn_okK (k := 3) (N := ["self"]) (b := b_Session_pop) G.F_Session_pop ⟨rfl, rfl, rfl, by decide +kernel, rfl, by decide +kernel, by decide +kernel⟩ rfl rfl ?_, G.m_Session_pop, (Fun.binds G.F_Session_pop fun _ _ _ _ _ _ us hl => match us, hl with | [_], _ => rfl), rfl⟩
  intro X W hK hmg hP hw hb hNN hsc hfn hc hst hfr hex hr tk hp
  obtain ⟨prog', w', K', mg', base', A, N', s0, H0, env, outer, stack, ex, fnn, calm, pn, xe⟩ := X
  obtain ⟨scope, locals, globals, cells, qual, func, code, frame, builtins⟩ := env
  obtain rfl : K' = K := hK
  obtain rfl : mg' = mg := hmg
  obtain rfl : prog' = PRG := hP
  obtain rfl : w' = w := hw
  obtain rfl : base' = base := hb
  obtain rfl : N' = (["self"] : List Str) := hNN
  obtain rfl : scope = defScope (clsSt (top 88) 8) := hsc
  obtain rfl : fnn = (fun _ => true) := hfn
  have hN : (["self"] : List Str).Nodup := by decide +kernel
  have hu := hr.units
  have hu1 := Nat.lt_of_le_of_lt (Nat.add_le_add_left (by decide : 1 ≤ 64) _) hu
  exact (by
    refine jss_cons (js_if (jt_eq hu (je_len G.b_len (ja_cons (je_fld G.k_Session G.n_Session_levels (je_var 0)) ja_nil)) je_int) (by
      exact jss_one (js_raiseS G.t_CommandError (G.i0 _) (hr.mono (by decide)) G.ib0 G.g_CommandError hc tk (ja_cons je_str ja_nil))) jss_nil) ?_
    refine jss_cons (js_expr (je_pop (je_fld G.k_Session G.n_Session_levels (je_var 0)))) ?_
    exact jss_one (js_fld G.k_Session G.n_Session_last (je_var 0) je_non))

theorem ok__law_begin (G : Fx w K mg) : Pr PRG w K mg base 1 "_law_begin" G.a__law_begin G.fd__law_begin ["script"] 1 f__law_begin := by
  refine ⟨fn_okK (k := 0) (N := ["script", "seed", "cell"]) (b := b__law_begin) G.F__law_begin ⟨rfl, rfl, rfl, by decide +kernel, rfl, by decide +kernel, by decide +kernel⟩ rfl rfl ?_, G.g__law_begin, G.F__law_begin.kp, (Fun.binds G.F__law_begin fun _ _ _ _ _ _ us hl => match us, hl with | [_], _ => rfl), rfl⟩
  intro X W hK hmg hP hw hb hNN hsc hfn hc hst hfr hex hr tk hp
  obtain ⟨prog', w', K', mg', base', A, N', s0, H0, env, outer, stack, ex, fnn, calm, pn, xe⟩ := X
  obtain ⟨scope, locals, globals, cells, qual, func, code, frame, builtins⟩ := env
  obtain rfl : K' = K := hK
  obtain rfl : mg' = mg := hmg
  obtain rfl : prog' = PRG := hP
  obtain rfl : w' = w := hw
  obtain rfl : base' = base := hb
  obtain rfl : N' = (["script", "seed", "cell"] : List Str) := hNN
  obtain rfl : scope = defScope (top 90) := hsc
  obtain rfl : fnn = (fun _ => true) := hfn
  have hN : (["script", "seed", "cell"] : List Str).Nodup := by decide +kernel
  have hu := hr.units
  have hu1 := Nat.lt_of_le_of_lt (Nat.add_le_add_left (by decide : 1 ≤ 64) _) hu
  exact (by
    refine jss_cons (js_set 1 hN je_int) ?_
    refine jss_cons (js_for hc hp (ji_list (je_var 0)) (jg_name 2 hN) (by
      exact jss_one (js_set 1 hN (je_mod (je_add (je_add (je_mul (je_var 1) je_int) (je_mod (je_intF G.b_int (ja_cons (je_var 2) ja_nil)) je_int)) je_int) je_int)))) ?_
    exact jss_one (js_ret (je_new (ja_cons (je_list G.b_list (ja_cons (je_var 0) ja_nil)) (ja_cons je_int (ja_cons je_int (ja_cons (je_var 1) ja_nil)))))))

theorem ok__law_take (G : Fx w K mg) : Pr PRG w K mg base 1 "_law_take" G.a__law_take G.fd__law_take ["d", "many"] 2 f__law_take := by
  refine ⟨fn_ok (k := 0) (N := ["d", "many", "small", "digit"]) (b := b__law_take) G.F__law_take ⟨rfl, rfl, rfl, by decide +kernel, rfl, by decide +kernel, by decide +kernel⟩ rfl rfl ?_, G.g__law_take, G.F__law_take.kp, (Fun.binds G.F__law_take fun _ _ _ _ _ _ us hl => match us, hl with | [_, _], _ => rfl), rfl⟩
  intro X W hK hmg hP hw hb hNN hsc hfn hc hst hfr hex hr tk hp
  obtain ⟨prog', w', K', mg', base', A, N', s0, H0, env, outer, stack, ex, fnn, calm, pn, xe⟩ := X
  obtain ⟨scope, locals, globals, cells, qual, func, code, frame, builtins⟩ := env
  obtain rfl : K' = K := hK
  obtain rfl : mg' = mg := hmg
  obtain rfl : prog' = PRG := hP
  obtain rfl : w' = w := hw
  obtain rfl : base' = base := hb
  obtain rfl : N' = (["d", "many", "small", "digit"] : List Str) := hNN
  obtain rfl : scope = defScope (top 91) := hsc
  obtain rfl : fnn = (fun _ => true) := hfn
  have hN : (["d", "many", "small", "digit"] : List Str).Nodup := by decide +kernel
  have hu := hr.units
  have hu1 := Nat.lt_of_le_of_lt (Nat.add_le_add_left (by decide : 1 ≤ 64) _) hu
  exact (by
    refine jss_cons (js_if (jt_w (jw_and (jt_eq hu (je_ix (je_var 0) je_int) je_int) (jw_and1 (jt_lt (je_ix (je_var 0) je_int) (je_len G.b_len (ja_cons (je_ix (je_var 0) je_int) ja_nil)))))) (by
      refine jss_cons (js_asg (je_abs G.b_abs (ja_cons (je_intF G.b_int (ja_cons (je_ix (je_ix (je_var 0) je_int) (je_ix (je_var 0) je_int)) ja_nil)) ja_nil)) (jg_ix (W := W) (je_var 0) je_int)) ?_
      refine jss_cons (js_asg (je_add (je_ix (je_var 0) je_int) je_int) (jg_ix (W := W) (je_var 0) je_int)) ?_
      exact jss_one (js_if (jt_lt (je_ix (je_var 0) je_int) (je_pow je_int je_int)) (by
        refine jss_cons (js_set 2 hN (je_intF G.b_int (ja_cons (je_ix (je_var 0) je_int) ja_nil))) ?_
        refine jss_cons (js_asg je_int (jg_ix (W := W) (je_var 0) je_int)) ?_
        exact jss_one (js_ret (je_mod (je_var 2) (je_var 1)))) jss_nil)) jss_nil) ?_
    refine jss_cons (js_if (jt_gt (je_ix (je_var 0) je_int) je_int) (by
      refine jss_cons (js_set 3 hN (je_mod (je_intF G.b_int (ja_cons (je_ix (je_var 0) je_int) ja_nil)) (je_var 1))) ?_
      refine jss_cons (js_asg (je_fdiv (je_intF G.b_int (ja_cons (je_ix (je_var 0) je_int) ja_nil)) (je_var 1)) (jg_ix (W := W) (je_var 0) je_int)) ?_
      exact jss_one (js_ret (je_var 3))) jss_nil) ?_
    refine jss_cons (js_asg (je_mod (je_intF G.b_int (ja_cons (je_add (je_mul (je_ix (je_var 0) je_int) je_int) je_int) ja_nil)) je_int) (jg_ix (W := W) (je_var 0) je_int)) ?_
    exact jss_one (js_ret (je_mod (je_intF G.b_int (ja_cons (je_fdiv (je_ix (je_var 0) je_int) je_int) ja_nil)) (je_var 1))))

theorem ok__law_do (G : Fx w K mg) : Pr PRG w K mg base 6 "_law_do" G.a__law_do G.fd__law_do ["n", "k"] 2 f__law_do := by
  refine ⟨fn_okK (k := 5) (N := ["n", "k"]) (b := b__law_do) G.F__law_do ⟨rfl, rfl, rfl, by decide +kernel, rfl, by decide +kernel, by decide +kernel⟩ rfl rfl ?_, G.g__law_do, G.F__law_do.kp, (Fun.binds G.F__law_do fun _ _ _ _ _ _ us hl => match us, hl with | [_, _], _ => rfl), rfl⟩
  intro X W hK hmg hP hw hb hNN hsc hfn hc hst hfr hex hr tk hp
  obtain ⟨prog', w', K', mg', base', A, N', s0, H0, env, outer, stack, ex, fnn, calm, pn, xe⟩ := X
  obtain ⟨scope, locals, globals, cells, qual, func, code, frame, builtins⟩ := env
  obtain rfl : K' = K := hK
  obtain rfl : mg' = mg := hmg
  obtain rfl : prog' = PRG := hP
  obtain rfl : w' = w := hw
  obtain rfl : base' = base := hb
  obtain rfl : N' = (["n", "k"] : List Str) := hNN
  obtain rfl : scope = defScope (top 92) := hsc
  obtain rfl : fnn = (fun _ => true) := hfn
  have hN : (["n", "k"] : List Str).Nodup := by decide +kernel
  have hu := hr.units
  have hu1 := Nat.lt_of_le_of_lt (Nat.add_le_add_left (by decide : 1 ≤ 64) _) hu
  exact (by
    refine jss_cons (js_if (jt_eq hu (je_var 1) je_int) (by
      exact jss_one (js_ret (je_fn (ok_read G) hr tk (ja_cons (je_add (je_rep je_str (je_var 0)) je_str) ja_nil) (by decide)))) jss_nil) ?_
    refine jss_cons (js_if (jt_eq hu (je_var 1) je_int) (by
      exact jss_one (js_ret (je_meth G.k_Session (ok_Session_declare G) hr tk (je_make0 G.k_Session (ok_Session___init__ G) hr tk rfl (by decide)) (ja_cons (je_rep je_str (je_add je_int (je_var 0))) (ja_cons (je_tup (ja_cons je_str ja_nil)) ja_nil)) (by decide)))) jss_nil) ?_
    refine jss_cons (js_if (jt_eq hu (je_var 1) je_int) (by
      exact jss_one (js_ret (je_meth0 G.k_Session (ok_Session_pop G) hr tk (je_make0 G.k_Session (ok_Session___init__ G) hr tk rfl (by decide)) (by decide)))) jss_nil) ?_
    exact jss_one (js_ret (je_fn (ok_check_proof G) hr tk (ja_cons (je_dnew false) (ja_cons (je_tup ja_nil) (ja_cons (je_tup (ja_cons (je_tup (ja_cons je_str (ja_cons je_str ja_nil))) ja_nil)) (ja_cons (je_repT (je_tup (ja_cons (je_tup (ja_cons (je_tup (ja_cons je_int ja_nil)) (ja_cons (je_tup (ja_cons je_str ja_nil)) ja_nil))) ja_nil)) (je_var 0)) (ja_cons (je_tup ja_nil) ja_nil))))) (by decide))))

theorem ok__law_kinds (G : Fx w K mg) : PrP PRG w K mg base 1 "_law_kinds" G.a__law_kinds G.fd__law_kinds ["e"] f__law_kinds := by
  refine ⟨fn_okP (k := 0) (N := ["e", "told", "k"]) (m := b__law_kinds) G.F__law_kinds ⟨rfl, rfl, rfl, by decide +kernel, rfl, by decide +kernel, by decide +kernel⟩ rfl rfl ?_, G.g__law_kinds, G.F__law_kinds.kp, (Fun.binds G.F__law_kinds fun _ _ _ _ _ _ us hl => match us, hl with | [_], _ => rfl)⟩
  intro X x a oe cls d hK hmg hP hw hb hNN hsc hfn hpn hot hr hz hv
  obtain ⟨prog', w', K', mg', base', A, N', s0, H0, env, outer, stack, ex, fnn, calm, pn, xe⟩ := X
  obtain ⟨scope, locals, globals, cells, qual, func, code, frame, builtins⟩ := env
  obtain rfl : K' = K := hK
  obtain rfl : mg' = mg := hmg
  obtain rfl : prog' = PRG := hP
  obtain rfl : w' = w := hw
  obtain rfl : base' = base := hb
  obtain rfl : N' = (["e", "told", "k"] : List Str) := hNN
  obtain rfl : scope = defScope (top 93) := hsc
  obtain rfl : fnn = (fun _ => true) := hfn
  have hN : (["e", "told", "k"] : List Str).Nodup := by decide +kernel
  obtain rfl : pn = [(a, oe)] := hpn
  exact (by
    refine jxss_cons (jxs_set 1 hN (jx_lst (jxa_cons (jx_isx G.y_TextError List.mem_cons_self hz hv G.b_isinstance (pe_glob (v := .ref G.a_TextError) rfl G.g_TextError rfl) (fun _ h => h) rfl (Or.inl rfl)) (jxa_cons (jx_isx G.y_TermError List.mem_cons_self hz hv G.b_isinstance (pe_glob (v := .ref G.a_TermError) rfl G.g_TermError rfl) (fun _ h => h) rfl (Or.inl rfl)) (jxa_cons (jx_isx G.y_CommandError List.mem_cons_self hz hv G.b_isinstance (pe_glob (v := .ref G.a_CommandError) rfl G.g_CommandError rfl) (fun _ h => h) rfl (Or.inl rfl)) (jxa_cons (jx_isx G.y_ProofError List.mem_cons_self hz hv G.b_isinstance (pe_glob (v := .ref G.a_ProofError) rfl G.g_ProofError rfl) (fun _ h => h) rfl (Or.inl rfl)) jxa_nil))))) (by decide)) ?_
    exact jxss_one (jxs_ret (jx_of (je_lcH (own := [("k", 2)]) hot hN (jih_range1 G.b_range (ja_cons je_int ja_nil)) (blkOk_by (by rfl)) (fun s H C cl fp => (jgw_name 2 hN)) (fun s H C cl fp => (jts_one (jt_tru (je_ix (je_var 1) (je_var 2))))) (fun s H C cl fp => (je_var 2))))))

theorem ok_law (G : Fx w K mg) : Pr PRG w K mg base 7 "law" G.a_law G.fd_law ["script"] 1 f_law := by
  refine ⟨fn_okK (k := 6) (N := ["script", "d", "codes", "n", "k", "e"]) (b := b_law) G.F_law ⟨rfl, rfl, rfl, by decide +kernel, rfl, by decide +kernel, by decide +kernel⟩ rfl rfl ?_, G.g_law, G.F_law.kp, (Fun.binds G.F_law fun _ _ _ _ _ _ us hl => match us, hl with | [_], _ => rfl), rfl⟩
  intro X W hK hmg hP hw hb hNN hsc hfn hc hst hfr hex hr tk hp
  obtain ⟨prog', w', K', mg', base', A, N', s0, H0, env, outer, stack, ex, fnn, calm, pn, xe⟩ := X
  obtain ⟨scope, locals, globals, cells, qual, func, code, frame, builtins⟩ := env
  obtain rfl : K' = K := hK
  obtain rfl : mg' = mg := hmg
  obtain rfl : prog' = PRG := hP
  obtain rfl : w' = w := hw
  obtain rfl : base' = base := hb
  obtain rfl : N' = (["script", "d", "codes", "n", "k", "e"] : List Str) := hNN
  obtain rfl : scope = defScope (top 94) := hsc
  obtain rfl : fnn = (fun _ => true) := hfn
  have hN : (["script", "d", "codes", "n", "k", "e"] : List Str).Nodup := by decide +kernel
  have hu := hr.units
  have hu1 := Nat.lt_of_le_of_lt (Nat.add_le_add_left (by decide : 1 ≤ 64) _) hu
  exact (by
    refine jss_cons (js_set 1 hN (je_fn (ok__law_begin G) hr tk (ja_cons (je_var 0) ja_nil) (by decide))) ?_
    refine jss_cons (js_set 2 hN (je_lst (ja_cons je_str (ja_cons je_str (ja_cons je_str (ja_cons je_str ja_nil)))))) ?_
    refine jss_cons (js_set 3 hN (je_add je_int (je_fn (ok__law_take G) hr tk (ja_cons (je_var 1) (ja_cons je_int ja_nil)) (by decide)))) ?_
    refine jss_cons (js_for hc hp (ji_range1 G.b_range (ja_cons je_int ja_nil)) (jg_name 4 hN) (by
      exact jss_one (js_tryS (sub := sub_SolverError) hst hfr ⟨rfl, by decide, .inl G.g_SolverError⟩ G.s_SolverError hN rfl rfl tk (fun W pn xe tk hp => (by
        refine jss_cons (js_expr (je_fn (ok__law_do G) hr tk (ja_cons (je_var 3) (ja_cons (je_var 4) ja_nil)) (by decide))) ?_
        exact jss_one (js_ret je_bl))) (fun x a oe cls d pn hx hz hv => (by
        refine jxss_cons (jxs_if (jxt_w (jxw_or (jxt_not (jxt_tru (jx_isx G.y_ValueError List.mem_cons_self hz hv G.b_isinstance (pe_bltn (v := .ty "ValueError") rfl G.b_ValueError (by kernel_rfl) rfl) (fun _ h => h) rfl (Or.inl rfl)))) (jxw_or (jxt_ne hu (jx_callP (j := 6) (ok__law_kinds G) ⟨hr.dp, hr.un⟩ (by decide) rfl List.mem_cons_self hz hv rfl (Or.inl rfl)) (jx_of (je_lst (ja_cons (je_var 4) ja_nil)))) (jxw_or1 (jxt_ne hu (jx_fld G.x_code hx hz hv rfl (Or.inl rfl)) (jx_of (je_ix (je_var 2) (je_var 4)))))))) (by
          exact jxss_one (jxs_ret (jx_of je_bl))) jxss_nil) ?_
        exact jxss_one (jxs_if (jxt_w (jxw_or (jxt_w (jxw_and (jxt_of (jt_eq hu (je_var 4) je_int)) (jxw_and1 (jxt_ne hu (jx_fld G.x_place hx hz hv rfl (Or.inl rfl)) (jx_of (je_var 3)))))) (jxw_or1 (jxt_w (jxw_and (jxt_of (jt_eq hu (je_var 4) je_int)) (jxw_and1 (jxt_ne hu (jx_fld G.x_step hx hz hv rfl (Or.inl rfl)) (jx_of je_int)))))))) (by
          exact jxss_one (jxs_ret (jx_of je_bl))) jxss_nil)))))) ?_
    exact jss_one (js_ret je_bl))

end K20
/-! k20: the head's facts -/
namespace K20
open PySem PySem.Spec L2 DL
def dOf (x n : Str) (s : Stmt) : He.DefD := ⟨(x, none), n, n, defArgs s, defBody s, defScope s, [], []⟩
def dMe (c m q : Str) (s : Stmt) : He.DefD := ⟨(c, some m), m, q, defArgs s, defBody s, defScope s, [], []⟩
def fn : List He.DefD := [dOf "tokens" "tokens" (top 17), dOf "whole_or_word" "whole_or_word" (top 19), dOf "read" "read" (top 18), dOf "is_integer" "is_integer" (top 53), dOf "is_name" "is_name" (top 54), dOf "declared" "declared" (top 55), dMe "Gates" "__init__" "Gates.__init__" (clsSt (top 68) 0), dMe "Gates" "named" "Gates.named" (clsSt (top 68) 1), dOf "need_proofs" "need" (top 73), dOf "unit_closure" "unit_closure" (top 75), dOf "holds" "holds" (top 77), dOf "check_proof" "check_proof" (top 76), dMe "Engine" "__init__" "Engine.__init__" (clsSt (top 82) 0), dMe "Session" "__init__" "Session.__init__" (clsSt (top 88) 0), dMe "Session" "declare" "Session.declare" (clsSt (top 88) 1), dMe "Session" "pop" "Session.pop" (clsSt (top 88) 8), dOf "_law_begin" "_law_begin" (top 90), dOf "_law_take" "_law_take" (top 91), dOf "_law_do" "_law_do" (top 92), dOf "_law_kinds" "_law_kinds" (top 93), dOf "law" "law" (top 94)]
def fa : List He.Fa := [.glo "tokens", .glo "whole_or_word", .glo "read", .glo "is_integer", .glo "is_name", .glo "declared", .glo "need_proofs", .glo "unit_closure", .glo "holds", .glo "check_proof", .glo "_law_begin", .glo "_law_take", .glo "_law_do", .glo "_law_kinds", .glo "law", .glo "TextError", .glo "TermError", .glo "CommandError", .glo "ProofError", .glo "SolverError", .glo "DEFAULTS", .glo "Engine", .glo "Gates", .glo "Session", .cls "Engine", .cls "Gates", .cls "Session", .noat "Engine" "bounds", .noat "Engine" "broken", .noat "Engine" "clauses", .noat "Engine" "equal_key", .noat "Engine" "equal_names", .noat "Engine" "gates", .noat "Engine" "head", .noat "Engine" "heat", .noat "Engine" "learned", .noat "Engine" "levels", .noat "Engine" "marks", .noat "Engine" "names", .noat "Engine" "options", .noat "Engine" "pause", .noat "Engine" "point", .noat "Engine" "reasons", .noat "Engine" "room", .noat "Engine" "steps", .noat "Engine" "tied", .noat "Engine" "trail", .noat "Engine" "truths", .noat "Engine" "watches", .noat "Gates" "numbers", .noat "Gates" "table", .noat "Session" "asserted", .noat "Session" "engine", .noat "Session" "gates", .noat "Session" "last", .noat "Session" "levels", .noat "Session" "names", .noat "Session" "seen", .mkr "Gates", .meth "Gates" "named", .mkr "Engine", .mkr "Session", .meth "Session" "declare", .meth "Session" "pop", .free "ValueError", .free "abs", .free "all", .free "any", .free "bool", .free "dict", .free "enumerate", .free "int", .free "isinstance", .free "len", .free "list", .free "range", .free "str", .free "tuple", .free "super", .int "MOST_DEPTH" 40, .int "MOST_TEXT" 20000, .exm "TextError" "SolverError" true, .exm "TermError" "SolverError" true, .exm "CommandError" "SolverError" true, .exm "ProofError" "SolverError" true]
def sS : SupD := ⟨"SolverError", "SolverError.__init__", clsSt (top 2) 0⟩
def sT : SupD := ⟨"TextError", "TextError.__init__", clsSt (top 3) 0⟩
def sP : SupD := ⟨"ProofError", "ProofError.__init__", clsSt (top 6) 0⟩
def su : List SupD := [sS, sT, sP]
def exs (K : PySem.W.Frag) : List Bool := [exTB K (He.ga K "TextError") (He.ga K "TextError") (He.ga K "SolverError") (sT.f K) (sS.f K) "place", 
  exTB K (He.ga K "ProofError") (He.ga K "ProofError") (He.ga K "SolverError") (sP.f K) (sS.f K) "step", 
  exSB K (He.ga K "TermError") (He.ga K "SolverError") (sS.f K), 
  exSB K (He.ga K "CommandError") (He.ga K "SolverError") (sS.f K), 
  supB PRG K (sS.f K) (He.ga K "SolverError") "SolverError.__init__", 
  supB PRG K (sT.f K) (He.ga K "TextError") "TextError.__init__", 
  supB PRG K (sP.f K) (He.ga K "ProofError") "ProofError.__init__", 
  PySem.W.fnIn K (sS.f K), 
  decide (PySem.W.typeIn K (.ref (sS.f K)) = some (.type "function")), 
  xfB K (He.ga K "TextError"), 
  excB K (He.ga K "TextError"), 
  He.eqO (PySem.W.findIn K (.ref (He.ga K "TextError")) "code") (some none), 
  He.eqO (PySem.W.findIn K (.ref (He.ga K "TextError")) "place") (some none), 
  He.eqO (PySem.W.findIn K (.ref (He.ga K "TextError")) "step") (some none), 
  decide (PySem.W.kitOne K (.ref (He.ga K "TextError")) (.ref (He.ga K "TextError")) = some true), 
  decide (PySem.W.kitOne K (.ref (He.ga K "TextError")) (.ref (He.ga K "TermError")) = some false), 
  decide (PySem.W.kitOne K (.ref (He.ga K "TextError")) (.ref (He.ga K "CommandError")) = some false), 
  decide (PySem.W.kitOne K (.ref (He.ga K "TextError")) (.ref (He.ga K "ProofError")) = some false), 
  decide (PySem.W.kitOne K (.ref (He.ga K "TextError")) (.type "ValueError") = some true), 
  xfB K (He.ga K "TermError"), 
  excB K (He.ga K "TermError"), 
  He.eqO (PySem.W.findIn K (.ref (He.ga K "TermError")) "code") (some none), 
  He.eqO (PySem.W.findIn K (.ref (He.ga K "TermError")) "place") (some none), 
  He.eqO (PySem.W.findIn K (.ref (He.ga K "TermError")) "step") (some none), 
  decide (PySem.W.kitOne K (.ref (He.ga K "TermError")) (.ref (He.ga K "TextError")) = some false), 
  decide (PySem.W.kitOne K (.ref (He.ga K "TermError")) (.ref (He.ga K "TermError")) = some true), 
  decide (PySem.W.kitOne K (.ref (He.ga K "TermError")) (.ref (He.ga K "CommandError")) = some false), 
  decide (PySem.W.kitOne K (.ref (He.ga K "TermError")) (.ref (He.ga K "ProofError")) = some false), 
  decide (PySem.W.kitOne K (.ref (He.ga K "TermError")) (.type "ValueError") = some true), 
  xfB K (He.ga K "CommandError"), 
  excB K (He.ga K "CommandError"), 
  He.eqO (PySem.W.findIn K (.ref (He.ga K "CommandError")) "code") (some none), 
  He.eqO (PySem.W.findIn K (.ref (He.ga K "CommandError")) "place") (some none), 
  He.eqO (PySem.W.findIn K (.ref (He.ga K "CommandError")) "step") (some none), 
  decide (PySem.W.kitOne K (.ref (He.ga K "CommandError")) (.ref (He.ga K "TextError")) = some false), 
  decide (PySem.W.kitOne K (.ref (He.ga K "CommandError")) (.ref (He.ga K "TermError")) = some false), 
  decide (PySem.W.kitOne K (.ref (He.ga K "CommandError")) (.ref (He.ga K "CommandError")) = some true), 
  decide (PySem.W.kitOne K (.ref (He.ga K "CommandError")) (.ref (He.ga K "ProofError")) = some false), 
  decide (PySem.W.kitOne K (.ref (He.ga K "CommandError")) (.type "ValueError") = some true), 
  xfB K (He.ga K "ProofError"), 
  excB K (He.ga K "ProofError"), 
  He.eqO (PySem.W.findIn K (.ref (He.ga K "ProofError")) "code") (some none), 
  He.eqO (PySem.W.findIn K (.ref (He.ga K "ProofError")) "place") (some none), 
  He.eqO (PySem.W.findIn K (.ref (He.ga K "ProofError")) "step") (some none), 
  decide (PySem.W.kitOne K (.ref (He.ga K "ProofError")) (.ref (He.ga K "TextError")) = some false), 
  decide (PySem.W.kitOne K (.ref (He.ga K "ProofError")) (.ref (He.ga K "TermError")) = some false), 
  decide (PySem.W.kitOne K (.ref (He.ga K "ProofError")) (.ref (He.ga K "CommandError")) = some false), 
  decide (PySem.W.kitOne K (.ref (He.ga K "ProofError")) (.ref (He.ga K "ProofError")) = some true), 
  decide (PySem.W.kitOne K (.ref (He.ga K "ProofError")) (.type "ValueError") = some true)]
def ex (K : PySem.W.Frag) : Bool := (exs K).all id
theorem ex_at {K : PySem.W.Frag} (h : ex K = true) (i : Nat) {b : Bool} (e : (exs K)[i]? = some b := by rfl) : b = true := List.all_eq_true.mp h b (List.mem_of_getElem? e)
def ts : List He.Tab := [(fun K => He.ga K "DEFAULTS", ["restart", "keep", "phase"])]
abbrev RowK : PySem.W.OpenRow := PySem.W.OpenLaw.row PySem.Challenge.rw_answerandproof_k20_errors_and_their_clas
def as : (Addr → Option Obj) → List Addr := asN 4 [("tokens" : Str), ("whole_or_word" : Str), ("read" : Str), ("is_integer" : Str), ("is_name" : Str), ("declared" : Str), ("need_proofs" : Str), ("unit_closure" : Str), ("holds" : Str), ("check_proof" : Str), ("_law_begin" : Str), ("_law_take" : Str), ("_law_do" : Str), ("_law_kinds" : Str), ("law" : Str), ("TextError" : Str), ("TermError" : Str), ("CommandError" : Str), ("ProofError" : Str), ("SolverError" : Str), ("DEFAULTS" : Str), ("Engine" : Str), ("Gates" : Str), ("Session" : Str)]
def loose : List Str := [("_wall" : Str), ("SolverError" : Str), ("TextError" : Str), ("TermError" : Str), ("CommandError" : Str), ("ProofError" : Str), ("parts_of" : Str), ("classes" : Str), ("alike" : Str), ("all_terms" : Str), ("follows" : Str), ("fewest" : Str), ("MOST_TEXT" : Str), ("MOST_DEPTH" : Str), ("tokens" : Str), ("read" : Str), ("whole_or_word" : Str), ("shown" : Str), ("lemmas" : Str), ("is_lemma" : Str), ("equation" : Str), ("terms_of" : Str), ("greatest_divisor" : Str), ("fraction" : Str), ("plus" : Str), ("minus" : Str), ("times" : Str), ("over" : Str), ("is_less" : Str), ("inner" : Str), ("whole" : Str), ("total" : Str), ("Tableau" : Str), ("solution" : Str), ("cleaned" : Str), ("row_of" : Str), ("ends_of" : Str), ("solve_bounds" : Str), ("factors_of" : Str), ("keeps" : Str), ("is_farkas" : Str), ("first_broken" : Str), ("MOST_WIDTH" : Str), ("MOST_NUMBER" : Str), ("FORMS" : Str), ("LETTERS" : Str), ("is_integer" : Str), ("is_name" : Str), ("declared" : Str), ("sorts_in" : Str), ("need" : Str), ("need_terms" : Str), ("sort_of" : Str), ("sort_of_range" : Str), ("put_in" : Str), ("sort_of_word" : Str), ("sort_of_constant" : Str), ("sort_of_form" : Str), ("linear" : Str), ("gathered" : Str), ("Gates" : Str), ("kind_of" : Str), ("common" : Str), ("clauses_of" : Str), ("need_proofs" : Str), ("unit_closure" : Str), ("check_proof" : Str), ("holds" : Str), ("trimmed" : Str), ("needed_for" : Str), ("DEFAULTS" : Str), ("Engine" : Str), ("model_of" : Str), ("element_values" : Str), ("MOST_COUNT" : Str), ("Session" : Str), ("_law_begin" : Str), ("_law_take" : Str), ("_law_do" : Str), ("_law_kinds" : Str)]
theorem run0 (w : World) : HandSHeadRun.RunEq RowK (PySem.W.view RowK.prog [94]) (hookU as fa fn su ex ts) (obU as fa fn su ex ts) 6500 loose (w.withFollow "special-get-raises" false) := by
  intro os
  kernel_rfl
theorem run1 (w : World) : HandSHeadRun.RunEq RowK (PySem.W.view RowK.prog [94]) (hookU as fa fn su ex ts) (obU as fa fn su ex ts) 6500 loose (w.withFollow "special-get-raises" true) := by
  intro os
  kernel_rfl
theorem run (w : World) : HandSHeadRun.RunEq RowK (PySem.W.view RowK.prog [94]) (hookU as fa fn su ex ts) (obU as fa fn su ex ts) 6500 loose w :=
  PySem.W.byRow2 "special-get-raises" (P := fun w => HandSHeadRun.RunEq RowK (PySem.W.view RowK.prog [94]) (hookU as fa fn su ex ts) (obU as fa fn su ex ts) 6500 loose w) run0 run1 w
section
variable {K : PySem.W.Frag} {mg : Str → Option Value}
theorem scS : NdefX.NScope ["self", "code", "__class__"] ["self", "code"] ["__class__"] (defScope sS.st) := NdefX.nscope_by (by decide +kernel)
theorem scT : NdefX.NScope ["self", "code", "place", "__class__"] ["self", "code", "place"] ["__class__"] (defScope sT.st) := NdefX.nscope_by (by decide +kernel)
theorem scP : NdefX.NScope ["self", "code", "step", "__class__"] ["self", "code", "step"] ["__class__"] (defScope sP.st) := NdefX.nscope_by (by decide +kernel)
theorem ok_S {w : World} {base : Heap} {D cda cc : Addr} {fd : FuncData} (S : SupF PRG K (sS.f K) D cda cc "__init__" sS.qual (defArgs sS.st) (defBody sS.st) (defScope sS.st) fd) (hm : mg "super" = none) :
    FnOk PRG w K mg base (L2N.CX PRG w) 1 (sS.f K) fd ["self", "code"] (spS K D) :=
  fn_S (k := 0) S scS (by rfl) (by rfl) (by decide +kernel) hm (fun _ => rfl) (fun _ => rfl) (fun _ => ⟨_, rfl⟩)
theorem ok_T {w : World} {base : Heap} {D D0 cda cc : Addr} {fd fd0 : FuncData} (S : SupF PRG K (sT.f K) D cda cc "__init__" sT.qual (defArgs sT.st) (defBody sT.st) (defScope sT.st) fd) (hm : mg "super" = none)
    (F0 : FnOk PRG w K mg base (L2N.CX PRG w) 1 (sS.f K) fd0 ["self", "code"] (spS K D0)) (b0 : Binds K fd0 ["self", "code"] []) (t0 : PySem.W.typeIn K (.ref (sS.f K)) = some (.type "function")) (i0 : PySem.W.fnIn K (sS.f K) = true) :
    FnOk PRG w K mg base (L2N.CX PRG w) 2 (sT.f K) fd ["self", "code", "place"] (spT K D D0 (sS.f K) "place") :=
  fn_T (k := 1) S scT F0 b0 t0 i0 (by rfl) (by rfl) (by decide +kernel) hm (by decide) (by decide) (fun _ => rfl) (fun _ => rfl) (fun _ => ⟨_, rfl⟩)
theorem ok_P {w : World} {base : Heap} {D D0 cda cc : Addr} {fd fd0 : FuncData} (S : SupF PRG K (sP.f K) D cda cc "__init__" sP.qual (defArgs sP.st) (defBody sP.st) (defScope sP.st) fd) (hm : mg "super" = none)
    (F0 : FnOk PRG w K mg base (L2N.CX PRG w) 1 (sS.f K) fd0 ["self", "code"] (spS K D0)) (b0 : Binds K fd0 ["self", "code"] []) (t0 : PySem.W.typeIn K (.ref (sS.f K)) = some (.type "function")) (i0 : PySem.W.fnIn K (sS.f K) = true) :
    FnOk PRG w K mg base (L2N.CX PRG w) 2 (sP.f K) fd ["self", "code", "step"] (spT K D D0 (sS.f K) "step") :=
  fn_T (k := 1) S scP F0 b0 t0 i0 (by rfl) (by rfl) (by decide +kernel) hm (by decide) (by decide) (fun _ => rfl) (fun _ => rfl) (fun _ => ⟨_, rfl⟩)
theorem own_of {y : Str} {b : Bool} {tab : Str → Option Bool} (ht : ∀ y, y ∉ own → tab y = none) (h : tab y = some b) : y = "TextError" ∨ y = "TermError" ∨ y = "CommandError" ∨ y = "ProofError" := by
  by_cases hy : y ∈ own
  · unfold own at hy
    rcases List.mem_cons.mp hy with h | hy
    · exact .inl h
    rcases List.mem_cons.mp hy with h | hy
    · exact .inr (.inl h)
    rcases List.mem_cons.mp hy with h | hy
    · exact .inr (.inr (.inl h))
    rcases List.mem_cons.mp hy with h | hy
    · exact .inr (.inr (.inr h))
    · cases hy
  · rw [ht y hy] at h; cases h
theorem fx {w : World} {h : Heap} (X : K.In h) (G : h.Ns mainGlobals mg) (c : SaysU fa fn su ex ts w K) : ∃ F : Fx w K mg, F.a_law = He.ga K "law" := by
  have ft := c.o.d
  have hx := c.o.ex
  obtain ⟨cda0, cc0, fd0, S0, kV0, doc0, pm0, an0, ct0, q0⟩ := sup_ok (P := PRG) (d := sS) (D := He.ga K "SolverError") (by kernel_rfl) (c.o.sup 0 rfl) (ex_at hx 4)
  obtain ⟨cda1, cc1, fd1, S1, kV1, doc1, pm1, an1, ct1, q1⟩ := sup_ok (P := PRG) (d := sT) (D := He.ga K "TextError") (by kernel_rfl) (c.o.sup 1 rfl) (ex_at hx 5)
  obtain ⟨cda2, cc2, fd2, S2, kV2, doc2, pm2, an2, ct2, q2⟩ := sup_ok (P := PRG) (d := sP) (D := He.ga K "ProofError") (by kernel_rfl) (c.o.sup 2 rfl) (ex_at hx 6)
  have hsuper : mg "super" = none := He.free_ok X G (ft.fact 78 (f := .free "super") rfl)
  have b0 : Binds K fd0 ["self", "code"] [] := sup_binds q0 fun us hl => match us, hl with | [_, _], _ => rfl
  have b1 : Binds K fd1 ["self", "code", "place"] [] := sup_binds q1 fun us hl => match us, hl with | [_, _, _], _ => rfl
  have b2 : Binds K fd2 ["self", "code", "step"] [] := sup_binds q2 fun us hl => match us, hl with | [_, _, _], _ => rfl
  have t0 : PySem.W.typeIn K (.ref (sS.f K)) = some (.type "function") := of_decide_eq_true (ex_at hx 8)
  have gTextError : mg "TextError" = some (.ref (He.ga K "TextError")) := He.glo_ok X G (ft.fact 15 (f := .glo "TextError") rfl)
  have gTermError : mg "TermError" = some (.ref (He.ga K "TermError")) := He.glo_ok X G (ft.fact 16 (f := .glo "TermError") rfl)
  have gCommandError : mg "CommandError" = some (.ref (He.ga K "CommandError")) := He.glo_ok X G (ft.fact 17 (f := .glo "CommandError") rfl)
  have gProofError : mg "ProofError" = some (.ref (He.ga K "ProofError")) := He.glo_ok X G (ft.fact 18 (f := .glo "ProofError") rfl)
  obtain ⟨es0, n0, dl0, dk0, ds0⟩ := c.dic 0 rfl
  obtain ⟨f0, F0⟩ := ft.def_ 0 (d := dOf "tokens" "tokens" (top 17)) rfl
  obtain ⟨f1, F1⟩ := ft.def_ 1 (d := dOf "whole_or_word" "whole_or_word" (top 19)) rfl
  obtain ⟨f2, F2⟩ := ft.def_ 2 (d := dOf "read" "read" (top 18)) rfl
  obtain ⟨f3, F3⟩ := ft.def_ 3 (d := dOf "is_integer" "is_integer" (top 53)) rfl
  obtain ⟨f4, F4⟩ := ft.def_ 4 (d := dOf "is_name" "is_name" (top 54)) rfl
  obtain ⟨f5, F5⟩ := ft.def_ 5 (d := dOf "declared" "declared" (top 55)) rfl
  obtain ⟨f6, F6⟩ := ft.def_ 6 (d := dMe "Gates" "__init__" "Gates.__init__" (clsSt (top 68) 0)) rfl
  obtain ⟨f7, F7⟩ := ft.def_ 7 (d := dMe "Gates" "named" "Gates.named" (clsSt (top 68) 1)) rfl
  obtain ⟨f8, F8⟩ := ft.def_ 8 (d := dOf "need_proofs" "need" (top 73)) rfl
  obtain ⟨f9, F9⟩ := ft.def_ 9 (d := dOf "unit_closure" "unit_closure" (top 75)) rfl
  obtain ⟨f10, F10⟩ := ft.def_ 10 (d := dOf "holds" "holds" (top 77)) rfl
  obtain ⟨f11, F11⟩ := ft.def_ 11 (d := dOf "check_proof" "check_proof" (top 76)) rfl
  obtain ⟨f12, F12⟩ := ft.def_ 12 (d := dMe "Engine" "__init__" "Engine.__init__" (clsSt (top 82) 0)) rfl
  obtain ⟨f13, F13⟩ := ft.def_ 13 (d := dMe "Session" "__init__" "Session.__init__" (clsSt (top 88) 0)) rfl
  obtain ⟨f14, F14⟩ := ft.def_ 14 (d := dMe "Session" "declare" "Session.declare" (clsSt (top 88) 1)) rfl
  obtain ⟨f15, F15⟩ := ft.def_ 15 (d := dMe "Session" "pop" "Session.pop" (clsSt (top 88) 8)) rfl
  obtain ⟨f16, F16⟩ := ft.def_ 16 (d := dOf "_law_begin" "_law_begin" (top 90)) rfl
  obtain ⟨f17, F17⟩ := ft.def_ 17 (d := dOf "_law_take" "_law_take" (top 91)) rfl
  obtain ⟨f18, F18⟩ := ft.def_ 18 (d := dOf "_law_do" "_law_do" (top 92)) rfl
  obtain ⟨f19, F19⟩ := ft.def_ 19 (d := dOf "_law_kinds" "_law_kinds" (top 93)) rfl
  obtain ⟨f20, F20⟩ := ft.def_ 20 (d := dOf "law" "law" (top 94)) rfl
  have yTextError : IsTab K mg is_TextError (.ref (He.ga K "TextError")) := fun y b C h1 h2 => by
    have hc := own_of (tab := is_TextError) (fun y hy => if_neg hy) h1
    rcases hc with rfl | rfl | rfl | rfl
    · have hb : b = true := Option.some.inj (h1.symm.trans (by decide +kernel : is_TextError "TextError" = some true))
      rw [gTextError] at h2; cases h2; subst hb
      exact ⟨excB_ok (ex_at hx 10), of_decide_eq_true (ex_at hx 14)⟩
    · have hb : b = false := Option.some.inj (h1.symm.trans (by decide +kernel : is_TextError "TermError" = some false))
      rw [gTermError] at h2; cases h2; subst hb
      exact ⟨excB_ok (ex_at hx 20), of_decide_eq_true (ex_at hx 24)⟩
    · have hb : b = false := Option.some.inj (h1.symm.trans (by decide +kernel : is_TextError "CommandError" = some false))
      rw [gCommandError] at h2; cases h2; subst hb
      exact ⟨excB_ok (ex_at hx 30), of_decide_eq_true (ex_at hx 34)⟩
    · have hb : b = false := Option.some.inj (h1.symm.trans (by decide +kernel : is_TextError "ProofError" = some false))
      rw [gProofError] at h2; cases h2; subst hb
      exact ⟨excB_ok (ex_at hx 40), of_decide_eq_true (ex_at hx 44)⟩
  have yTermError : IsTab K mg is_TermError (.ref (He.ga K "TermError")) := fun y b C h1 h2 => by
    have hc := own_of (tab := is_TermError) (fun y hy => if_neg hy) h1
    rcases hc with rfl | rfl | rfl | rfl
    · have hb : b = false := Option.some.inj (h1.symm.trans (by decide +kernel : is_TermError "TextError" = some false))
      rw [gTextError] at h2; cases h2; subst hb
      exact ⟨excB_ok (ex_at hx 10), of_decide_eq_true (ex_at hx 15)⟩
    · have hb : b = true := Option.some.inj (h1.symm.trans (by decide +kernel : is_TermError "TermError" = some true))
      rw [gTermError] at h2; cases h2; subst hb
      exact ⟨excB_ok (ex_at hx 20), of_decide_eq_true (ex_at hx 25)⟩
    · have hb : b = false := Option.some.inj (h1.symm.trans (by decide +kernel : is_TermError "CommandError" = some false))
      rw [gCommandError] at h2; cases h2; subst hb
      exact ⟨excB_ok (ex_at hx 30), of_decide_eq_true (ex_at hx 35)⟩
    · have hb : b = false := Option.some.inj (h1.symm.trans (by decide +kernel : is_TermError "ProofError" = some false))
      rw [gProofError] at h2; cases h2; subst hb
      exact ⟨excB_ok (ex_at hx 40), of_decide_eq_true (ex_at hx 45)⟩
  have yCommandError : IsTab K mg is_CommandError (.ref (He.ga K "CommandError")) := fun y b C h1 h2 => by
    have hc := own_of (tab := is_CommandError) (fun y hy => if_neg hy) h1
    rcases hc with rfl | rfl | rfl | rfl
    · have hb : b = false := Option.some.inj (h1.symm.trans (by decide +kernel : is_CommandError "TextError" = some false))
      rw [gTextError] at h2; cases h2; subst hb
      exact ⟨excB_ok (ex_at hx 10), of_decide_eq_true (ex_at hx 16)⟩
    · have hb : b = false := Option.some.inj (h1.symm.trans (by decide +kernel : is_CommandError "TermError" = some false))
      rw [gTermError] at h2; cases h2; subst hb
      exact ⟨excB_ok (ex_at hx 20), of_decide_eq_true (ex_at hx 26)⟩
    · have hb : b = true := Option.some.inj (h1.symm.trans (by decide +kernel : is_CommandError "CommandError" = some true))
      rw [gCommandError] at h2; cases h2; subst hb
      exact ⟨excB_ok (ex_at hx 30), of_decide_eq_true (ex_at hx 36)⟩
    · have hb : b = false := Option.some.inj (h1.symm.trans (by decide +kernel : is_CommandError "ProofError" = some false))
      rw [gProofError] at h2; cases h2; subst hb
      exact ⟨excB_ok (ex_at hx 40), of_decide_eq_true (ex_at hx 46)⟩
  have yProofError : IsTab K mg is_ProofError (.ref (He.ga K "ProofError")) := fun y b C h1 h2 => by
    have hc := own_of (tab := is_ProofError) (fun y hy => if_neg hy) h1
    rcases hc with rfl | rfl | rfl | rfl
    · have hb : b = false := Option.some.inj (h1.symm.trans (by decide +kernel : is_ProofError "TextError" = some false))
      rw [gTextError] at h2; cases h2; subst hb
      exact ⟨excB_ok (ex_at hx 10), of_decide_eq_true (ex_at hx 17)⟩
    · have hb : b = false := Option.some.inj (h1.symm.trans (by decide +kernel : is_ProofError "TermError" = some false))
      rw [gTermError] at h2; cases h2; subst hb
      exact ⟨excB_ok (ex_at hx 20), of_decide_eq_true (ex_at hx 27)⟩
    · have hb : b = false := Option.some.inj (h1.symm.trans (by decide +kernel : is_ProofError "CommandError" = some false))
      rw [gCommandError] at h2; cases h2; subst hb
      exact ⟨excB_ok (ex_at hx 30), of_decide_eq_true (ex_at hx 37)⟩
    · have hb : b = true := Option.some.inj (h1.symm.trans (by decide +kernel : is_ProofError "ProofError" = some true))
      rw [gProofError] at h2; cases h2; subst hb
      exact ⟨excB_ok (ex_at hx 40), of_decide_eq_true (ex_at hx 47)⟩
  have yValueError : IsTab K mg is_ValueError (.type "ValueError") := fun y b C h1 h2 => by
    have hc := own_of (tab := is_ValueError) (fun y hy => if_neg hy) h1
    rcases hc with rfl | rfl | rfl | rfl
    · have hb : b = true := Option.some.inj (h1.symm.trans (by decide +kernel : is_ValueError "TextError" = some true))
      rw [gTextError] at h2; cases h2; subst hb
      exact ⟨excB_ok (ex_at hx 10), of_decide_eq_true (ex_at hx 18)⟩
    · have hb : b = true := Option.some.inj (h1.symm.trans (by decide +kernel : is_ValueError "TermError" = some true))
      rw [gTermError] at h2; cases h2; subst hb
      exact ⟨excB_ok (ex_at hx 20), of_decide_eq_true (ex_at hx 28)⟩
    · have hb : b = true := Option.some.inj (h1.symm.trans (by decide +kernel : is_ValueError "CommandError" = some true))
      rw [gCommandError] at h2; cases h2; subst hb
      exact ⟨excB_ok (ex_at hx 30), of_decide_eq_true (ex_at hx 38)⟩
    · have hb : b = true := Option.some.inj (h1.symm.trans (by decide +kernel : is_ValueError "ProofError" = some true))
      rw [gProofError] at h2; cases h2; subst hb
      exact ⟨excB_ok (ex_at hx 40), of_decide_eq_true (ex_at hx 48)⟩
  have sub : ∀ {y : Str} {b : Bool}, sub_SolverError y = some b → b = true := fun {y b} h => by
    unfold sub_SolverError at h
    split at h
    · exact (Option.some.inj h).symm
    · cases h
  have xcode : XFld K mg sub_SolverError "code" := fun y C h1 h2 => by
    have hc := own_of (tab := sub_SolverError) (fun y hy => if_neg hy) h1
    rcases hc with rfl | rfl | rfl | rfl
    · rw [gTextError] at h2; cases h2; exact ⟨xfB_ok (ex_at hx 9), He.eqO_ok (ex_at hx 11)⟩
    · rw [gTermError] at h2; cases h2; exact ⟨xfB_ok (ex_at hx 19), He.eqO_ok (ex_at hx 21)⟩
    · rw [gCommandError] at h2; cases h2; exact ⟨xfB_ok (ex_at hx 29), He.eqO_ok (ex_at hx 31)⟩
    · rw [gProofError] at h2; cases h2; exact ⟨xfB_ok (ex_at hx 39), He.eqO_ok (ex_at hx 41)⟩
  have xplace : XFld K mg sub_SolverError "place" := fun y C h1 h2 => by
    have hc := own_of (tab := sub_SolverError) (fun y hy => if_neg hy) h1
    rcases hc with rfl | rfl | rfl | rfl
    · rw [gTextError] at h2; cases h2; exact ⟨xfB_ok (ex_at hx 9), He.eqO_ok (ex_at hx 12)⟩
    · rw [gTermError] at h2; cases h2; exact ⟨xfB_ok (ex_at hx 19), He.eqO_ok (ex_at hx 22)⟩
    · rw [gCommandError] at h2; cases h2; exact ⟨xfB_ok (ex_at hx 29), He.eqO_ok (ex_at hx 32)⟩
    · rw [gProofError] at h2; cases h2; exact ⟨xfB_ok (ex_at hx 39), He.eqO_ok (ex_at hx 42)⟩
  have xstep : XFld K mg sub_SolverError "step" := fun y C h1 h2 => by
    have hc := own_of (tab := sub_SolverError) (fun y hy => if_neg hy) h1
    rcases hc with rfl | rfl | rfl | rfl
    · rw [gTextError] at h2; cases h2; exact ⟨xfB_ok (ex_at hx 9), He.eqO_ok (ex_at hx 13)⟩
    · rw [gTermError] at h2; cases h2; exact ⟨xfB_ok (ex_at hx 19), He.eqO_ok (ex_at hx 23)⟩
    · rw [gCommandError] at h2; cases h2; exact ⟨xfB_ok (ex_at hx 29), He.eqO_ok (ex_at hx 33)⟩
    · rw [gProofError] at h2; cases h2; exact ⟨xfB_ok (ex_at hx 39), He.eqO_ok (ex_at hx 43)⟩
  have sSub : SubOk K mg sub_SolverError (.ref (He.ga K "SolverError")) := fun y b C h1 h2 => by
    have hb := sub h1
    subst hb
    have hc := own_of (tab := sub_SolverError) (fun y hy => if_neg hy) h1
    rcases hc with rfl | rfl | rfl | rfl
    · rw [gTextError] at h2; cases h2; exact He.exm_ok (ft.fact 81 (f := .exm "TextError" "SolverError" true) rfl)
    · rw [gTermError] at h2; cases h2; exact He.exm_ok (ft.fact 82 (f := .exm "TermError" "SolverError" true) rfl)
    · rw [gCommandError] at h2; cases h2; exact He.exm_ok (ft.fact 83 (f := .exm "CommandError" "SolverError" true) rfl)
    · rw [gProofError] at h2; cases h2; exact He.exm_ok (ft.fact 84 (f := .exm "ProofError" "SolverError" true) rfl)
  refine ⟨{
    C_Engine := He.ga K "Engine",
    k_Engine := ⟨He.glo_ok X G (ft.fact 21 (f := .glo "Engine") rfl), He.cls_ok (ft.fact 24 (f := .cls "Engine") rfl)⟩,
    C_Gates := He.ga K "Gates",
    k_Gates := ⟨He.glo_ok X G (ft.fact 22 (f := .glo "Gates") rfl), He.cls_ok (ft.fact 25 (f := .cls "Gates") rfl)⟩,
    C_Session := He.ga K "Session",
    k_Session := ⟨He.glo_ok X G (ft.fact 23 (f := .glo "Session") rfl), He.cls_ok (ft.fact 26 (f := .cls "Session") rfl)⟩,
    n_Engine_bounds := He.noat_ok (ft.fact 27 (f := .noat "Engine" "bounds") rfl),
    n_Engine_broken := He.noat_ok (ft.fact 28 (f := .noat "Engine" "broken") rfl),
    n_Engine_clauses := He.noat_ok (ft.fact 29 (f := .noat "Engine" "clauses") rfl),
    n_Engine_equal_key := He.noat_ok (ft.fact 30 (f := .noat "Engine" "equal_key") rfl),
    n_Engine_equal_names := He.noat_ok (ft.fact 31 (f := .noat "Engine" "equal_names") rfl),
    n_Engine_gates := He.noat_ok (ft.fact 32 (f := .noat "Engine" "gates") rfl),
    n_Engine_head := He.noat_ok (ft.fact 33 (f := .noat "Engine" "head") rfl),
    n_Engine_heat := He.noat_ok (ft.fact 34 (f := .noat "Engine" "heat") rfl),
    n_Engine_learned := He.noat_ok (ft.fact 35 (f := .noat "Engine" "learned") rfl),
    n_Engine_levels := He.noat_ok (ft.fact 36 (f := .noat "Engine" "levels") rfl),
    n_Engine_marks := He.noat_ok (ft.fact 37 (f := .noat "Engine" "marks") rfl),
    n_Engine_names := He.noat_ok (ft.fact 38 (f := .noat "Engine" "names") rfl),
    n_Engine_options := He.noat_ok (ft.fact 39 (f := .noat "Engine" "options") rfl),
    n_Engine_pause := He.noat_ok (ft.fact 40 (f := .noat "Engine" "pause") rfl),
    n_Engine_point := He.noat_ok (ft.fact 41 (f := .noat "Engine" "point") rfl),
    n_Engine_reasons := He.noat_ok (ft.fact 42 (f := .noat "Engine" "reasons") rfl),
    n_Engine_room := He.noat_ok (ft.fact 43 (f := .noat "Engine" "room") rfl),
    n_Engine_steps := He.noat_ok (ft.fact 44 (f := .noat "Engine" "steps") rfl),
    n_Engine_tied := He.noat_ok (ft.fact 45 (f := .noat "Engine" "tied") rfl),
    n_Engine_trail := He.noat_ok (ft.fact 46 (f := .noat "Engine" "trail") rfl),
    n_Engine_truths := He.noat_ok (ft.fact 47 (f := .noat "Engine" "truths") rfl),
    n_Engine_watches := He.noat_ok (ft.fact 48 (f := .noat "Engine" "watches") rfl),
    n_Gates_numbers := He.noat_ok (ft.fact 49 (f := .noat "Gates" "numbers") rfl),
    n_Gates_table := He.noat_ok (ft.fact 50 (f := .noat "Gates" "table") rfl),
    n_Session_asserted := He.noat_ok (ft.fact 51 (f := .noat "Session" "asserted") rfl),
    n_Session_engine := He.noat_ok (ft.fact 52 (f := .noat "Session" "engine") rfl),
    n_Session_gates := He.noat_ok (ft.fact 53 (f := .noat "Session" "gates") rfl),
    n_Session_last := He.noat_ok (ft.fact 54 (f := .noat "Session" "last") rfl),
    n_Session_levels := He.noat_ok (ft.fact 55 (f := .noat "Session" "levels") rfl),
    n_Session_names := He.noat_ok (ft.fact 56 (f := .noat "Session" "names") rfl),
    n_Session_seen := He.noat_ok (ft.fact 57 (f := .noat "Session" "seen") rfl),
    a_tokens := _,
    fd_tokens := f0,
    F_tokens := He5.fun_of F0,
    g_tokens := He.glo_ok X G (ft.fact 0 (f := .glo "tokens") rfl),
    a_whole_or_word := _,
    fd_whole_or_word := f1,
    F_whole_or_word := He5.fun_of F1,
    g_whole_or_word := He.glo_ok X G (ft.fact 1 (f := .glo "whole_or_word") rfl),
    a_read := _,
    fd_read := f2,
    F_read := He5.fun_of F2,
    g_read := He.glo_ok X G (ft.fact 2 (f := .glo "read") rfl),
    a_is_integer := _,
    fd_is_integer := f3,
    F_is_integer := He5.fun_of F3,
    g_is_integer := He.glo_ok X G (ft.fact 3 (f := .glo "is_integer") rfl),
    a_is_name := _,
    fd_is_name := f4,
    F_is_name := He5.fun_of F4,
    g_is_name := He.glo_ok X G (ft.fact 4 (f := .glo "is_name") rfl),
    a_declared := _,
    fd_declared := f5,
    F_declared := He5.fun_of F5,
    g_declared := He.glo_ok X G (ft.fact 5 (f := .glo "declared") rfl),
    a_Gates___init__ := _,
    fd_Gates___init__ := f6,
    F_Gates___init__ := He5.fun_of F6,
    m_Gates___init__ := He.mkr_ok (ft.fact 58 (f := .mkr "Gates") rfl),
    a_Gates_named := _,
    fd_Gates_named := f7,
    F_Gates_named := He5.fun_of F7,
    m_Gates_named := He.meth_ok (ft.fact 59 (f := .meth "Gates" "named") rfl),
    a_need_proofs := _,
    fd_need_proofs := f8,
    F_need_proofs := He5.fun_of F8,
    g_need_proofs := He.glo_ok X G (ft.fact 6 (f := .glo "need_proofs") rfl),
    a_unit_closure := _,
    fd_unit_closure := f9,
    F_unit_closure := He5.fun_of F9,
    g_unit_closure := He.glo_ok X G (ft.fact 7 (f := .glo "unit_closure") rfl),
    a_holds := _,
    fd_holds := f10,
    F_holds := He5.fun_of F10,
    g_holds := He.glo_ok X G (ft.fact 8 (f := .glo "holds") rfl),
    a_check_proof := _,
    fd_check_proof := f11,
    F_check_proof := He5.fun_of F11,
    g_check_proof := He.glo_ok X G (ft.fact 9 (f := .glo "check_proof") rfl),
    a_Engine___init__ := _,
    fd_Engine___init__ := f12,
    F_Engine___init__ := He5.fun_of F12,
    m_Engine___init__ := He.mkr_ok (ft.fact 60 (f := .mkr "Engine") rfl),
    a_Session___init__ := _,
    fd_Session___init__ := f13,
    F_Session___init__ := He5.fun_of F13,
    m_Session___init__ := He.mkr_ok (ft.fact 61 (f := .mkr "Session") rfl),
    a_Session_declare := _,
    fd_Session_declare := f14,
    F_Session_declare := He5.fun_of F14,
    m_Session_declare := He.meth_ok (ft.fact 62 (f := .meth "Session" "declare") rfl),
    a_Session_pop := _,
    fd_Session_pop := f15,
    F_Session_pop := He5.fun_of F15,
    m_Session_pop := He.meth_ok (ft.fact 63 (f := .meth "Session" "pop") rfl),
    a__law_begin := _,
    fd__law_begin := f16,
    F__law_begin := He5.fun_of F16,
    g__law_begin := He.glo_ok X G (ft.fact 10 (f := .glo "_law_begin") rfl),
    a__law_take := _,
    fd__law_take := f17,
    F__law_take := He5.fun_of F17,
    g__law_take := He.glo_ok X G (ft.fact 11 (f := .glo "_law_take") rfl),
    a__law_do := _,
    fd__law_do := f18,
    F__law_do := He5.fun_of F18,
    g__law_do := He.glo_ok X G (ft.fact 12 (f := .glo "_law_do") rfl),
    a__law_kinds := _,
    fd__law_kinds := f19,
    F__law_kinds := He5.fun_of F19,
    g__law_kinds := He.glo_ok X G (ft.fact 13 (f := .glo "_law_kinds") rfl),
    a_law := _,
    fd_law := f20,
    F_law := He5.fun_of F20,
    g_law := He.glo_ok X G (ft.fact 14 (f := .glo "law") rfl),
    b_ValueError := He.free_ok X G (ft.fact 64 (f := .free "ValueError") rfl),
    b_abs := He.free_ok X G (ft.fact 65 (f := .free "abs") rfl),
    b_all := He.free_ok X G (ft.fact 66 (f := .free "all") rfl),
    b_any := He.free_ok X G (ft.fact 67 (f := .free "any") rfl),
    b_bool := He.free_ok X G (ft.fact 68 (f := .free "bool") rfl),
    b_dict := He.free_ok X G (ft.fact 69 (f := .free "dict") rfl),
    b_enumerate := He.free_ok X G (ft.fact 70 (f := .free "enumerate") rfl),
    b_int := He.free_ok X G (ft.fact 71 (f := .free "int") rfl),
    b_isinstance := He.free_ok X G (ft.fact 72 (f := .free "isinstance") rfl),
    b_len := He.free_ok X G (ft.fact 73 (f := .free "len") rfl),
    b_list := He.free_ok X G (ft.fact 74 (f := .free "list") rfl),
    b_range := He.free_ok X G (ft.fact 75 (f := .free "range") rfl),
    b_str := He.free_ok X G (ft.fact 76 (f := .free "str") rfl),
    b_tuple := He.free_ok X G (ft.fact 77 (f := .free "tuple") rfl),
    c_MOST_DEPTH := He.int_ok X G (ft.fact 79 (f := .int "MOST_DEPTH" 40) rfl),
    c_MOST_TEXT := He.int_ok X G (ft.fact 80 (f := .int "MOST_TEXT" 20000) rfl),
    wa_DEFAULTS := _,
    we_DEFAULTS := es0,
    wn_DEFAULTS := n0,
    w_DEFAULTS := ⟨He.glo_ok X G (ft.fact 20 (f := .glo "DEFAULTS") rfl), dl0, ds0, dk0, by decide +kernel, by decide⟩,
    sol := He.ga K "SolverError",
    a0 := sS.f K,
    ifd0 := fd0,
    ib0 := b0,
    i0 := fun base => ok_S S0 hsuper,
    a_SolverError := He.ga K "SolverError",
    g_SolverError := He.glo_ok X G (ft.fact 19 (f := .glo "SolverError") rfl),
    s_SolverError := sSub,
    a_TextError := He.ga K "TextError",
    aI_TextError := sT.f K,
    ifd_TextError := fd1,
    g_TextError := gTextError,
    t_TextError := exTB_ok (ex_at hx 0),
    ib_TextError := b1,
    i_TextError := fun base => ok_T S1 hsuper (ok_S S0 hsuper) b0 t0 (ex_at hx 7),
    a_ProofError := He.ga K "ProofError",
    aI_ProofError := sP.f K,
    ifd_ProofError := fd2,
    g_ProofError := gProofError,
    t_ProofError := exTB_ok (ex_at hx 1),
    ib_ProofError := b2,
    i_ProofError := fun base => ok_P S2 hsuper (ok_S S0 hsuper) b0 t0 (ex_at hx 7),
    a_TermError := He.ga K "TermError",
    g_TermError := gTermError,
    t_TermError := exSB_ok (ex_at hx 2),
    a_CommandError := He.ga K "CommandError",
    g_CommandError := gCommandError,
    t_CommandError := exSB_ok (ex_at hx 3),
    x_code := xcode,
    x_place := xplace,
    x_step := xstep,
    y_TextError := yTextError,
    y_TermError := yTermError,
    y_CommandError := yCommandError,
    y_ProofError := yProofError,
    y_ValueError := yValueError }, rfl⟩
end
end K20
/-! k20: the end -/
open PySem PySem.W PySem.Calls PyProof.Rows
theorem PySem.Challenge.cw_answerandproof_k20_errors_and_their_clas_holds : PySem.Challenge.rw_answerandproof_k20_errors_and_their_clas.Holds := by
  w_on; o_law
  refine HandSHeadRun.head_any (r := OpenLaw.row PySem.Challenge.rw_answerandproof_k20_errors_and_their_clas) (q := view (OpenLaw.row PySem.Challenge.rw_answerandproof_k20_errors_and_their_clas).prog [94]) (H := DL.hookU K20.as K20.fa K20.fn K20.su K20.ex K20.ts) (ob := DL.obU K20.as K20.fa K20.fn K20.su K20.ex K20.ts) (M := 6500) (loose := K20.loose) (d := HandSHeadRun.topDef (OpenLaw.row PySem.Challenge.rw_answerandproof_k20_errors_and_their_clas).prog 94) (kwd := []) DL.obU_eq
    (by kernel_rfl) (fun s => by kernel_rfl) K20.run (by kernel_rfl) (by kernel_rfl) (by kernel_rfl) (by rfl) (by first | assumption | decide +kernel) (by decide +kernel) ⟨rfl, rfl, rfl, rfl, rfl, by decide +kernel⟩ ?hw ?hc
  case hw => w_witness2
  case hc =>
    refine DL.walk_ofW (l := PySem.Challenge.rw_answerandproof_k20_errors_and_their_clas) (n := 63) (k := 7) (x := "script") rfl (by decide) (by kernel_rfl) ⟨rfl, by decide, by decide⟩ ?F
    intro w mg fa h Y G hmg0
    obtain ⟨K, KX, c⟩ := Y
    have hmg : mg ("law" : PySem.Str) = some (.ref fa) := by
      have e : (HandSHeadRun.topDef (OpenLaw.row PySem.Challenge.rw_answerandproof_k20_errors_and_their_clas).prog 94).name = ("law" : PySem.Str) := by kernel_rfl
      rw [← e]
      exact hmg0
    obtain ⟨F, eF⟩ := K20.fx KX G c
    have ea : F.a_law = fa := by
      have e := F.g_law.symm.trans hmg
      cases e
      rfl
    subst ea
    exact ⟨K, F.fd_law, DL.spOf ⟨K, mg⟩ 1 K20.f_law, KX, fun s u => DL.fun_binds F.F_law (ps := ["script"]) (fun _ _ _ _ _ _ us hl => match us, hl with | [_], _ => rfl) s [u] rfl, fun H a ns hl _ hS => by
      obtain ⟨S', e⟩ := K20.plain ns hl
      exact DL.law_sp c.o.nl hS e, fun base _ _ => (K20.ok_law F).ok⟩
