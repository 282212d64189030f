import PyProof.Rows.All
import Wide.All
import OpenK.AllK
import Wide.FinOn
import KE.KStateDown
import HandS.Base
import HandS.Call
import HandS.List
import HandS.Comp
import HandS.Iter
import HandS.Ends
import HandS.More
import HandS.Words
import HandS.WordsExc
import HandS.Defaults
import HandS.Head0
import HandS.Head1
import HandS.Head2
import HandS.HeadEnd
import HandS.HeadHook1
import HandS.HeadHook2
import HandS.HeadHook4
import HandS.HeadWalk
import HandS.IsInst
import HandS.Style
import HandS.CallSlots
import HandS.Exc
import HandS.ExcOwn
import HandS.ExcInit
import HandS.MakeKwOnly
import PySem.Challenge.RW_addedink_k20_altered_cells
set_option Elab.async false
set_option linter.all false
set_option maxRecDepth 100000
set_option maxHeartbeats 0
/-! C1: trees in place of the heap. D: a frozen value; T: a tree whose own lists only one slot holds; Sl: what a slot holds; Rel: how they stand in the abstract heap. -/
namespace W3
open PySem PySem.Spec L2

inductive D where
  | non | bl (b : Bool) | int (i : Int) | str (x : Str)
  | ty (n : String) | cls (c : Str)
  | lst (ds : List D) | tup (ds : List D) | obj (c : Str) (fs : List (Str × D)) | dic (kvs : List (D × D))
inductive T where
  | v (d : D) | lst (ts : List T) | tup (ts : List T) | obj (c : Str) (fs : List (Str × T)) | dic (kvs : List (D × T))

mutual
def T.toD : T → D
  | .v d => d
  | .lst ts => .lst (T.toDs ts)
  | .tup ts => .tup (T.toDs ts)
  | .obj c fs => .obj c (T.toFs fs)
  | .dic kvs => .dic (T.toKs kvs)
def T.toDs : List T → List D
  | [] => []
  | t :: ts => t.toD :: T.toDs ts
def T.toFs : List (Str × T) → List (Str × D)
  | [] => []
  | (f, t) :: ts => (f, t.toD) :: T.toFs ts
def T.toKs : List (D × T) → List (D × D)
  | [] => []
  | (f, t) :: ts => (f, t.toD) :: T.toKs ts
end
theorem T.toDs_map : ∀ ts : List T, T.toDs ts = ts.map T.toD
  | [] => rfl
  | t :: ts => by rw [T.toDs, T.toDs_map ts]; rfl
theorem T.toDs_v (ds : List D) : T.toDs (ds.map T.v) = ds := by
  induction ds with
  | nil => rfl
  | cons d ds ih => rw [List.map_cons, T.toDs, ih]; rfl

mutual
inductive RelD (cl : Str → Addr) (F : Addr → Prop) (H : Hp) : D → V → Prop
  | non : RelD cl F H .non .non
  | bl (b : Bool) : RelD cl F H (.bl b) (.bl b)
  | int (i : Int) : RelD cl F H (.int i) (.int i)
  | str (x : Str) : RelD cl F H (.str x) (.str x)
  | ty (n : String) : RelD cl F H (.ty n) (.ty n)
  | cls (c : Str) : RelD cl F H (.cls c) (.ref (cl c))
  | lst {ds : List D} {a : Addr} {vs : List V} : F a → Rd H a (.lst vs) → RelDs cl F H ds vs → RelD cl F H (.lst ds) (.ref a)
  | tup {ds : List D} {a : Addr} {vs : List V} : F a → H a = some (.tup vs) → RelDs cl F H ds vs → RelD cl F H (.tup ds) (.ref a)
  | obj {c : Str} {fs : List (Str × D)} {a dx : Addr} {vs : List (Str × V)} : F a → H a = some (.ins (cl c) dx vs) → RelFs cl F H fs vs → RelD cl F H (.obj c fs) (.ref a)
inductive RelDs (cl : Str → Addr) (F : Addr → Prop) (H : Hp) : List D → List V → Prop
  | nil : RelDs cl F H [] []
  | cons {d : D} {v : V} {ds : List D} {vs : List V} : RelD cl F H d v → RelDs cl F H ds vs → RelDs cl F H (d :: ds) (v :: vs)
inductive RelFs (cl : Str → Addr) (F : Addr → Prop) (H : Hp) : List (Str × D) → List (Str × V) → Prop
  | nil : RelFs cl F H [] []
  | cons {f : Str} {d : D} {v : V} {ds : List (Str × D)} {vs : List (Str × V)} : RelD cl F H d v → RelFs cl F H ds vs → RelFs cl F H ((f, d) :: ds) ((f, v) :: vs)
end
mutual
inductive RelT (cl : Str → Addr) (F : Addr → Prop) (H : Hp) : T → V → List Addr → Prop
  | v {d : D} {v : V} : RelD cl F H d v → RelT cl F H (.v d) v []
  | lst {ts : List T} {a : Addr} {vs : List V} {A : List Addr} : H a = some (.lst vs) → RelTs cl F H ts vs A → RelT cl F H (.lst ts) (.ref a) (a :: A)
  | tup {ts : List T} {a : Addr} {vs : List V} {A : List Addr} : H a = some (.tup vs) → RelTs cl F H ts vs A → RelT cl F H (.tup ts) (.ref a) (a :: A)
  | obj {c : Str} {fs : List (Str × T)} {a dx : Addr} {vs : List (Str × V)} {A : List Addr} : H a = some (.ins (cl c) dx vs) → RelTf cl F H fs vs A → RelT cl F H (.obj c fs) (.ref a) (a :: A)
inductive RelTs (cl : Str → Addr) (F : Addr → Prop) (H : Hp) : List T → List V → List Addr → Prop
  | nil : RelTs cl F H [] [] []
  | cons {t : T} {v : V} {ts : List T} {vs : List V} {A B : List Addr} : RelT cl F H t v A → RelTs cl F H ts vs B → RelTs cl F H (t :: ts) (v :: vs) (A ++ B)
inductive RelTf (cl : Str → Addr) (F : Addr → Prop) (H : Hp) : List (Str × T) → List (Str × V) → List Addr → Prop
  | nil : RelTf cl F H [] [] []
  | cons {f : Str} {t : T} {v : V} {ts : List (Str × T)} {vs : List (Str × V)} {A B : List Addr} : RelT cl F H t v A → RelTf cl F H ts vs B → RelTf cl F H ((f, t) :: ts) ((f, v) :: vs) (A ++ B)
end
section
variable {cl : Str → Addr} {F F' : Addr → Prop} {H H' : Hp}
theorem rd_keep {a : Addr} {u : HO} (r : Rd H a u) (k : ∀ o, H a = some o → H' a = some o) : Rd H' a u := by
  rcases r with r | ⟨o, r⟩
  · exact .inl (k _ r)
  · exact .inr ⟨o, k _ r⟩
mutual
theorem RelD.keep (hF : ∀ a, F a → F' a) (hH : ∀ a o, F a → H a = some o → H' a = some o) : ∀ (d : D) (v : V), RelD cl F H d v → RelD cl F' H' d v
  | .non, _, h => by cases h; exact .non
  | .bl _, _, h => by cases h; exact .bl _
  | .int _, _, h => by cases h; exact .int _
  | .str _, _, h => by cases h; exact .str _
  | .ty _, _, h => by cases h; exact .ty _
  | .cls _, _, h => by cases h; exact .cls _
  | .lst ds, _, h => by
    cases h with
    | lst f r q => exact .lst (hF _ f) (rd_keep r fun o e => hH _ o f e) (RelDs.keep hF hH ds _ q)
  | .tup ds, _, h => by
    cases h with
    | tup f r q => exact .tup (hF _ f) (hH _ _ f r) (RelDs.keep hF hH ds _ q)
  | .obj c fs, _, h => by
    cases h with
    | obj f r q => exact .obj (hF _ f) (hH _ _ f r) (RelFs.keep hF hH fs _ q)
  | .dic _, _, h => by cases h
theorem RelDs.keep (hF : ∀ a, F a → F' a) (hH : ∀ a o, F a → H a = some o → H' a = some o) : ∀ (ds : List D) (vs : List V), RelDs cl F H ds vs → RelDs cl F' H' ds vs
  | [], _, h => by cases h; exact .nil
  | d :: ds, _, h => by
    cases h with
    | cons h1 h2 => exact .cons (RelD.keep hF hH d _ h1) (RelDs.keep hF hH ds _ h2)
theorem RelFs.keep (hF : ∀ a, F a → F' a) (hH : ∀ a o, F a → H a = some o → H' a = some o) : ∀ (ds : List (Str × D)) (vs : List (Str × V)), RelFs cl F H ds vs → RelFs cl F' H' ds vs
  | [], _, h => by cases h; exact .nil
  | (_, d) :: ds, _, h => by
    cases h with
    | cons h1 h2 => exact .cons (RelD.keep hF hH d _ h1) (RelFs.keep hF hH ds _ h2)
end
mutual
theorem RelT.keep (hF : ∀ a, F a → F' a) (hH : ∀ a o, F a → H a = some o → H' a = some o) : ∀ (t : T) (v : V) (A : List Addr), (∀ a o, a ∈ A → H a = some o → H' a = some o) → RelT cl F H t v A → RelT cl F' H' t v A
  | .v d, _, _, _, h => by
    cases h with
    | v h => exact .v (RelD.keep hF hH d _ h)
  | .lst ts, _, _, k, h => by
    cases h with
    | lst r q => exact .lst (k _ _ List.mem_cons_self r) (RelTs.keep hF hH ts _ _ (fun a o m => k a o (List.mem_cons_of_mem _ m)) q)
  | .tup ts, _, _, k, h => by
    cases h with
    | tup r q => exact .tup (k _ _ List.mem_cons_self r) (RelTs.keep hF hH ts _ _ (fun a o m => k a o (List.mem_cons_of_mem _ m)) q)
  | .obj c fs, _, _, k, h => by
    cases h with
    | obj r q => exact .obj (k _ _ List.mem_cons_self r) (RelTf.keep hF hH fs _ _ (fun a o m => k a o (List.mem_cons_of_mem _ m)) q)
  | .dic _, _, _, _, h => by cases h
theorem RelTs.keep (hF : ∀ a, F a → F' a) (hH : ∀ a o, F a → H a = some o → H' a = some o) : ∀ (ts : List T) (vs : List V) (A : List Addr), (∀ a o, a ∈ A → H a = some o → H' a = some o) → RelTs cl F H ts vs A → RelTs cl F' H' ts vs A
  | [], _, _, _, h => by cases h; exact .nil
  | t :: ts, _, _, k, h => by
    cases h with
    | cons h1 h2 => exact .cons (RelT.keep hF hH t _ _ (fun a o m => k a o (List.mem_append_left _ m)) h1) (RelTs.keep hF hH ts _ _ (fun a o m => k a o (List.mem_append_right _ m)) h2)
theorem RelTf.keep (hF : ∀ a, F a → F' a) (hH : ∀ a o, F a → H a = some o → H' a = some o) : ∀ (ts : List (Str × T)) (vs : List (Str × V)) (A : List Addr), (∀ a o, a ∈ A → H a = some o → H' a = some o) → RelTf cl F H ts vs A → RelTf cl F' H' ts vs A
  | [], _, _, _, h => by cases h; exact .nil
  | (_, t) :: ts, _, _, k, h => by
    cases h with
    | cons h1 h2 => exact .cons (RelT.keep hF hH t _ _ (fun a o m => k a o (List.mem_append_left _ m)) h1) (RelTf.keep hF hH ts _ _ (fun a o m => k a o (List.mem_append_right _ m)) h2)
end
mutual
/-- all of an own tree is frozen -/
theorem RelT.frz (hF : ∀ a, F a → F' a) : ∀ (t : T) (v : V) (A : List Addr), (∀ a ∈ A, F' a) → RelT cl F H t v A → RelD cl F' H t.toD v
  | .v d, _, _, _, h => by
    cases h with
    | v h => exact RelD.keep hF (fun _ _ _ e => e) d _ h
  | .lst ts, _, _, k, h => by
    cases h with
    | lst r q => exact .lst (k _ List.mem_cons_self) (.inl r) (RelTs.frz hF ts _ _ (fun a m => k a (List.mem_cons_of_mem _ m)) q)
  | .tup ts, _, _, k, h => by
    cases h with
    | tup r q => exact .tup (k _ List.mem_cons_self) r (RelTs.frz hF ts _ _ (fun a m => k a (List.mem_cons_of_mem _ m)) q)
  | .obj c fs, _, _, k, h => by
    cases h with
    | obj r q => exact .obj (k _ List.mem_cons_self) r (RelTf.frz hF fs _ _ (fun a m => k a (List.mem_cons_of_mem _ m)) q)
  | .dic _, _, _, _, h => by cases h
theorem RelTs.frz (hF : ∀ a, F a → F' a) : ∀ (ts : List T) (vs : List V) (A : List Addr), (∀ a ∈ A, F' a) → RelTs cl F H ts vs A → RelDs cl F' H (T.toDs ts) vs
  | [], _, _, _, h => by cases h; exact .nil
  | t :: ts, _, _, k, h => by
    cases h with
    | cons h1 h2 => exact .cons (RelT.frz hF t _ _ (fun a m => k a (List.mem_append_left _ m)) h1) (RelTs.frz hF ts _ _ (fun a m => k a (List.mem_append_right _ m)) h2)
theorem RelTf.frz (hF : ∀ a, F a → F' a) : ∀ (ts : List (Str × T)) (vs : List (Str × V)) (A : List Addr), (∀ a ∈ A, F' a) → RelTf cl F H ts vs A → RelFs cl F' H (T.toFs ts) vs
  | [], _, _, _, h => by cases h; exact .nil
  | (_, t) :: ts, _, _, k, h => by
    cases h with
    | cons h1 h2 => exact .cons (RelT.frz hF t _ _ (fun a m => k a (List.mem_append_left _ m)) h1) (RelTf.frz hF ts _ _ (fun a m => k a (List.mem_append_right _ m)) h2)
end
mutual
theorem RelT.dom : ∀ (t : T) (v : V) (A : List Addr), RelT cl F H t v A → ∀ a ∈ A, H a ≠ none
  | .v d, _, _, h => by
    cases h with
    | v h => intro a m; cases m
  | .lst ts, _, _, h => by
    cases h with
    | lst r q => intro a m; rcases List.mem_cons.mp m with e | m
                 · rw [e, r]; simp
                 · exact RelTs.dom ts _ _ q a m
  | .tup ts, _, _, h => by
    cases h with
    | tup r q => intro a m; rcases List.mem_cons.mp m with e | m
                 · rw [e, r]; simp
                 · exact RelTs.dom ts _ _ q a m
  | .obj c fs, _, _, h => by
    cases h with
    | obj r q => intro a m; rcases List.mem_cons.mp m with e | m
                 · rw [e, r]; simp
                 · exact RelTf.dom fs _ _ q a m
  | .dic _, _, _, h => by cases h
theorem RelTs.dom : ∀ (ts : List T) (vs : List V) (A : List Addr), RelTs cl F H ts vs A → ∀ a ∈ A, H a ≠ none
  | [], _, _, h => by cases h; intro a m; cases m
  | t :: ts, _, _, h => by
    cases h with
    | cons h1 h2 => intro a m; rcases List.mem_append.mp m with m | m
                    · exact RelT.dom t _ _ h1 a m
                    · exact RelTs.dom ts _ _ h2 a m
theorem RelTf.dom : ∀ (ts : List (Str × T)) (vs : List (Str × V)) (A : List Addr), RelTf cl F H ts vs A → ∀ a ∈ A, H a ≠ none
  | [], _, _, h => by cases h; intro a m; cases m
  | (_, t) :: ts, _, _, h => by
    cases h with
    | cons h1 h2 => intro a m; rcases List.mem_append.mp m with m | m
                    · exact RelT.dom t _ _ h1 a m
                    · exact RelTf.dom ts _ _ h2 a m
end
theorem relT_v {d : D} {v : V} {B : List Addr} (h : RelT cl F H (.v d) v B) : B = [] ∧ RelD cl F H d v := by
  cases h with
  | v h => exact ⟨rfl, h⟩
theorem RelDs.length : ∀ {ds : List D} {vs : List V}, RelDs cl F H ds vs → ds.length = vs.length
  | [], _, h => by cases h; rfl
  | d :: ds, _, h => by
    cases h with
    | cons h1 h2 => rw [List.length_cons, List.length_cons, RelDs.length h2]
theorem RelTs.length : ∀ {ts : List T} {vs : List V} {A : List Addr}, RelTs cl F H ts vs A → ts.length = vs.length
  | [], _, _, h => by cases h; rfl
  | t :: ts, _, _, h => by
    cases h with
    | cons h1 h2 => rw [List.length_cons, List.length_cons, RelTs.length h2]
theorem RelDs.get : ∀ {ds : List D} {vs : List V} {i : Nat} {d : D}, RelDs cl F H ds vs → ds[i]? = some d → ∃ v, vs[i]? = some v ∧ RelD cl F H d v
  | [], _, i, _, h, e => by simp at e
  | d :: ds, _, 0, _, h, e => by
    cases h with
    | cons h1 h2 => simp at e; subst e; exact ⟨_, rfl, h1⟩
  | d :: ds, _, i + 1, _, h, e => by
    cases h with
    | cons h1 h2 =>
      obtain ⟨v, e1, r⟩ := RelDs.get (i := i) h2 (by simpa using e)
      exact ⟨v, by simpa using e1, r⟩
theorem RelTs.get : ∀ {ts : List T} {vs : List V} {A : List Addr} {i : Nat} {t : T}, RelTs cl F H ts vs A → ts[i]? = some t → ∃ v B, vs[i]? = some v ∧ RelT cl F H t v B ∧ (∀ b ∈ B, b ∈ A)
  | [], _, _, i, _, h, e => by simp at e
  | d :: ds, _, _, 0, _, h, e => by
    cases h with
    | cons h1 h2 => simp at e; subst e; exact ⟨_, _, rfl, h1, fun b m => List.mem_append_left _ m⟩
  | d :: ds, _, _, i + 1, _, h, e => by
    cases h with
    | cons h1 h2 =>
      obtain ⟨v, B, e1, r, m⟩ := RelTs.get (i := i) h2 (by simpa using e)
      exact ⟨v, B, by simpa using e1, r, fun b hb => List.mem_append_right _ (m b hb)⟩
theorem RelDs.append : ∀ {ds es : List D} {vs us : List V}, RelDs cl F H ds vs → RelDs cl F H es us → RelDs cl F H (ds ++ es) (vs ++ us)
  | [], _, _, _, h, g => by cases h; exact g
  | d :: ds, _, _, _, h, g => by
    cases h with
    | cons h1 h2 => exact .cons h1 (RelDs.append h2 g)
theorem RelTs.append : ∀ {ts es : List T} {vs us : List V} {A B : List Addr}, RelTs cl F H ts vs A → RelTs cl F H es us B → RelTs cl F H (ts ++ es) (vs ++ us) (A ++ B)
  | [], _, _, _, _, _, h, g => by cases h; exact g
  | d :: ds, _, _, _, _, _, h, g => by
    cases h with
    | cons h1 h2 => rw [List.append_assoc]; exact .cons h1 (RelTs.append h2 g)
theorem RelTs.of_ds : ∀ {ds : List D} {vs : List V}, RelDs cl F H ds vs → RelTs cl F H (ds.map T.v) vs []
  | [], _, h => by cases h; exact .nil
  | d :: ds, _, h => by
    cases h with
    | cons h1 h2 =>
      have := RelTs.cons (.v h1) (RelTs.of_ds h2)
      simpa using this
end

/-! ### slots -/
inductive Sl where
  | t (t : T) | io (t : T) | lent (d : D) | al (i k : Nat)
abbrev Sg := List (Option Sl)
/-- what stays through a def's run: what is lent, which slots hold what was handed in to be changed -/
structure LL where
  l : Addr → Prop
  pn : Nat → Option V
instance : CoeFun LL (fun _ => Addr → Prop) := ⟨LL.l⟩
def Own (A : Nat → List Addr) (a : Addr) : Prop := ∃ i, a ∈ A i
/-- frozen or lent -/
def Un2 (F : Addr → Prop) (L : LL) : Addr → Prop := fun a => F a ∨ L a
def RelS (cl : Str → Addr) (F : Addr → Prop) (L : LL) (H : Hp) (B : List Addr) : Sl → V → Prop
  | .t t, v => RelT cl F H t v B
  | .io t, v => RelT cl F H t v B
  | .lent d, v => RelD cl (Un2 F L) H d v
  | .al _ _, _ => False
/-- one slot's addresses anew -/
def setA (A : Nat → List Addr) (i : Nat) (C : List Addr) : Nat → List Addr := fun j => if j = i then C else A j
theorem setA_same {A : Nat → List Addr} {i : Nat} {C : List Addr} : setA A i C i = C := if_pos rfl
theorem setA_ne {A : Nat → List Addr} {i j : Nat} {C : List Addr} (h : j ≠ i) : setA A i C j = A j := if_neg h
theorem own_setA {A : Nat → List Addr} {i : Nat} {C : List Addr} {a : Addr} (h : Own (setA A i C) a) : a ∈ C ∨ ∃ j, j ≠ i ∧ a ∈ A j := by
  obtain ⟨j, hj⟩ := h
  by_cases e : j = i
  · subst e; rw [setA_same] at hj; exact .inl hj
  · rw [setA_ne e] at hj; exact .inr ⟨j, e, hj⟩
structure R (cl : Str → Addr) (F : Addr → Prop) (L : LL) (A : Nat → List Addr) (ρ : Sg) (σ : L2.St) (H : Hp) : Prop where
  len : ρ.length = σ.length
  sl : ∀ i s, ρ[i]? = some (some s) → ∃ v, σ[i]? = some (some v) ∧ RelS cl F L H (A i) s v
  nd : ∀ i, (A i).Nodup
  dj : ∀ i j a, i ≠ j → a ∈ A i → a ∉ A j
  ap : ∀ a, Own A a → ¬ F a ∧ ¬ L a ∧ H a ≠ none
  fd : ∀ a, F a → H a ≠ none
  ld : ∀ a, L a → H a ≠ none
  pin : ∀ i v, L.pn i = some v → (∃ t, ρ[i]? = some (some (.io t))) ∧ σ[i]? = some (some v)
/-- what may change from a state to a later one: the own objects and what hangs in the air (Z) alone; what is frozen later was frozen, new, own or hanging -/
structure Ext (F B Z : Addr → Prop) (H : Hp) (F' B' : Addr → Prop) (H' : Hp) : Prop where
  f : ∀ a, F a → F' a
  nf : ∀ a, F' a → F a ∨ H a = none ∨ B a ∨ Z a
  k : ∀ a o, H a = some o → ¬ B a → ¬ Z a → H' a = some o
  d : ∀ a, H a ≠ none → H' a ≠ none
  b : ∀ a, B' a → B a ∨ H a = none ∨ Z a
abbrev NoZ (_ : Addr) : Prop := False
theorem Ext.refl {F B Z : Addr → Prop} {H : Hp} : Ext F B Z H F B H := ⟨fun _ h => h, fun _ h => .inl h, fun _ _ h _ _ => h, fun _ h => h, fun _ h => .inl h⟩
theorem Ext.trans {F B Z Z1 Z2 F1 B1 F2 B2 : Addr → Prop} {H H1 H2 : Hp} (x : Ext F B Z1 H F1 B1 H1) (y : Ext F1 B1 Z2 H1 F2 B2 H2) (h1 : ∀ a, Z1 a → Z a) (h2 : ∀ a, Z2 a → H a = none ∨ B a ∨ Z a) : Ext F B Z H F2 B2 H2 where
  f := fun a h => y.f a (x.f a h)
  nf := fun a h => by
    rcases y.nf a h with h | h | h | h
    · rcases x.nf a h with h | h | h | h
      · exact .inl h
      · exact .inr (.inl h)
      · exact .inr (.inr (.inl h))
      · exact .inr (.inr (.inr (h1 a h)))
    · exact .inr (.inl (Classical.byContradiction fun n => x.d a n h))
    · rcases x.b a h with h | h | h
      · exact .inr (.inr (.inl h))
      · exact .inr (.inl h)
      · exact .inr (.inr (.inr (h1 a h)))
    · rcases h2 a h with h | h | h
      · exact .inr (.inl h)
      · exact .inr (.inr (.inl h))
      · exact .inr (.inr (.inr h))
  k := fun a o h n nz => y.k a o (x.k a o h n fun z => nz (h1 a z)) (fun m => by
    rcases x.b a m with z | z | z
    · exact n z
    · rw [z] at h; cases h
    · exact nz (h1 a z)) fun m => by
    rcases h2 a m with z | z | z
    · rw [z] at h; cases h
    · exact n z
    · exact nz z
  d := fun a h => y.d a (x.d a h)
  b := fun a h => by
    rcases y.b a h with h | h | h
    · rcases x.b a h with h | h | h
      · exact .inl h
      · exact .inr (.inl h)
      · exact .inr (.inr (h1 a h))
    · exact .inr (.inl (Classical.byContradiction fun n => x.d a n h))
    · rcases h2 a h with h | h | h
      · exact .inr (.inl h)
      · exact .inl h
      · exact .inr (.inr h)
theorem Ext.weak {F B Z Z1 F1 B1 : Addr → Prop} {H H1 : Hp} (x : Ext F B Z1 H F1 B1 H1) (h : ∀ a, Z1 a → Z a) : Ext F B Z H F1 B1 H1 :=
  ⟨x.f, fun a z => (x.nf a z).imp_right fun z => z.imp_right fun z => z.imp_right (h a), fun a o e n nz => x.k a o e n fun z => nz (h a z), x.d, fun a z => (x.b a z).imp_right fun z => z.imp_right (h a)⟩
theorem Ext.trans0 {F B F1 B1 F2 B2 : Addr → Prop} {H H1 H2 : Hp} (x : Ext F B NoZ H F1 B1 H1) (y : Ext F1 B1 NoZ H1 F2 B2 H2) : Ext F B NoZ H F2 B2 H2 := x.trans y (fun _ z => z) fun _ z => z.elim
section
variable {cl : Str → Addr} {F F' : Addr → Prop} {L : LL} {A A' : Nat → List Addr} {ρ ρ' : Sg} {σ σ' : L2.St} {H H' : Hp}
theorem R.notF (r : R cl F L A ρ σ H) {a : Addr} (h : F a) : ¬ Own A a := fun o => (r.ap a o).1 h
theorem R.notL (r : R cl F L A ρ σ H) {a : Addr} (h : L a) : ¬ Own A a := fun o => (r.ap a o).2.1 h
theorem Ext.relD (x : Ext F (Own A) NoZ H F' (Own A') H') (r : R cl F L A ρ σ H) {d : D} {v : V} (h : RelD cl F H d v) : RelD cl F' H' d v :=
  RelD.keep x.f (fun a o f e => x.k a o e (r.notF f) id) d v h
theorem Ext.relL (x : Ext F (Own A) NoZ H F' (Own A') H') (r : R cl F L A ρ σ H) {d : D} {v : V} (h : RelD cl (Un2 F L) H d v) : RelD cl (Un2 F' L) H' d v :=
  RelD.keep (fun a h => h.elim (fun h => .inl (x.f a h)) .inr) (fun a o f e => x.k a o e (f.elim (fun f => r.notF f) fun f => r.notL f) id) d v h
theorem Ext.relT (x : Ext F (Own A) NoZ H F' (Own A') H') (r : R cl F L A ρ σ H) {t : T} {v : V} {C : List Addr} (n : ∀ a ∈ C, ¬ Own A a) (h : RelT cl F H t v C) : RelT cl F' H' t v C :=
  RelT.keep x.f (fun a o f e => x.k a o e (r.notF f) id) t v C (fun a o m e => x.k a o e (n a m) id) h
end

/-! ### results of expressions -/
inductive Rv where
  | t (t : T) | lent (d : D) | pk (i : Nat)
inductive Out (α : Type) where
  | ok (a : α) | exc (c : Str) (d : D)
abbrev M (α : Type) := Sg → Option (Out α × Sg)
def M.bind {α β : Type} (m : M α) (f : α → M β) : M β := fun ρ => match m ρ with
  | some (.ok a, ρ1) => f a ρ1
  | some (.exc c d, ρ1) => some (.exc c d, ρ1)
  | none => none
def M.ret {α : Type} (a : α) : M α := fun ρ => some (.ok a, ρ)
def M.opt {α : Type} (o : Option α) : M α := fun ρ => match o with
  | some a => some (.ok a, ρ)
  | none => none
/-- how a result stands; C: its own addresses -/
abbrev Rel3 (α β : Type) := (Addr → Prop) → LL → (Nat → List Addr) → L2.St → Hp → α → β → List Addr → Prop
def RelRv (cl : Str → Addr) : Rel3 Rv V := fun F L A σ H r v C => match r with
  | .t t => RelT cl F H t v C ∧ C.Nodup ∧ ∀ a ∈ C, ¬ F a ∧ ¬ L a ∧ ¬ Own A a
  | .lent d => C = [] ∧ RelD cl (Un2 F L) H d v
  | .pk i => C = [] ∧ σ[i]? = some (some v)
def RelB : Rel3 Bool Bool := fun _ _ _ _ _ a b C => a = b ∧ C = []
inductive RelRvs (cl : Str → Addr) (F : Addr → Prop) (L : LL) (A : Nat → List Addr) (σ : L2.St) (H : Hp) : List Rv → List V → List Addr → Prop
  | nil : RelRvs cl F L A σ H [] [] []
  | cons {r : Rv} {v : V} {rs : List Rv} {vs : List V} {B C : List Addr} : RelRv cl F L A σ H r v B → RelRvs cl F L A σ H rs vs C → (∀ a ∈ B, a ∉ C) → RelRvs cl F L A σ H (r :: rs) (v :: vs) (B ++ C)
/-- a relation that stays -/
structure Stays {α β : Type} (cl : Str → Addr) (rel : Rel3 α β) : Prop where
  st : ∀ {F F' : Addr → Prop} {L : LL} {A A' : Nat → List Addr} {ρ : Sg} {σ : L2.St} {H H' : Hp} {a : α} {b : β} {C : List Addr}, R cl F L A ρ σ H → Ext F (Own A) NoZ H F' (Own A') H' → rel F L A σ H a b C → rel F' L A' σ H' a b C
theorem stays_B {cl : Str → Addr} : Stays cl RelB := ⟨fun _ _ h => h⟩
theorem stays_Rv {cl : Str → Addr} : Stays cl (RelRv cl) := ⟨fun {F L F' A A' ρ σ H H' r v C} rr x h => by
  cases r with
  | t t =>
    obtain ⟨h1, h2, h3⟩ := h
    have dm := RelT.dom t v C h1
    refine ⟨x.relT rr (fun a m => (h3 a m).2.2) h1, h2, fun a m => ⟨fun z => ?_, (h3 a m).2.1, fun z => ?_⟩⟩
    · rcases x.nf a z with z | z | z | z
      · exact (h3 a m).1 z
      · exact dm a m z
      · exact (h3 a m).2.2 z
      · exact z
    · rcases x.b a z with z | z | z
      · exact (h3 a m).2.2 z
      · exact dm a m z
      · exact z
  | lent d => exact ⟨h.1, x.relL rr h.2⟩
  | pk i => exact h⟩
theorem stays_Rvs {cl : Str → Addr} : Stays cl (RelRvs cl) := ⟨fun {F L F' A A' ρ σ H H' r v C} rr x h => by
  induction h with
  | nil => exact .nil
  | cons h1 _ hn ih => exact .cons (stays_Rv.st rr x h1) ih hn⟩

/-! ### what a reading and an M have to do with one another -/
def FinE {α β : Type} (cl : Str → Addr) (rel : Rel3 α β) (W : WX) (Z : Addr → Prop) (A : Nat → List Addr) (H : Hp) (F' : Addr → Prop) (L : LL) (A' : Nat → List Addr) (σ : L2.St) (H' : Hp) (Q : β → Hp → Prop) : Out α → Prop
  | .ok a => ∀ b C, rel F' L A' σ H' a b C → (∀ x ∈ C, H x = none ∨ Own A x ∨ Z x) → Q b H'
  | .exc c d => ∀ dx v, H' dx = some (.xd [("value", v)]) → RelD cl F' H' d v → W (.ref (cl c)) (some dx) σ H'
/-- at one state; Z: addresses that hang in the air -/
def SimAt {α β : Type} (cl : Str → Addr) (rel : Rel3 α β) (W : WX) (Z : Addr → Prop) (F : Addr → Prop) (L : LL) (A : Nat → List Addr) (σ : L2.St) (H : Hp) (t : Hp → (β → Hp → Prop) → Prop) (r : Option (Out α × Sg)) : Prop :=
  ∀ o ρ', r = some (o, ρ') → ∀ Q : β → Hp → Prop, (∀ F' A' H', Ext F (Own A) Z H F' (Own A') H' → R cl F' L A' ρ' σ H' → FinE cl rel W Z A H F' L A' σ H' Q o) → t H Q
def Sim {α β : Type} (cl : Str → Addr) (rel : Rel3 α β) (W : WX) (t : L2.St → Hp → (β → Hp → Prop) → Prop) (m : M α) : Prop :=
  ∀ F L A ρ σ H, R cl F L A ρ σ H → SimAt cl rel W NoZ F L A σ H (t σ) (m ρ)
section
variable {α β γ δ : Type} {cl : Str → Addr} {W : WX} {rel : Rel3 α β} {rel' : Rel3 γ δ}
theorem SimAt.bind {Z Z1 F : Addr → Prop} {L : LL} {A : Nat → List Addr} {ρ : Sg} {σ : L2.St} {H : Hp} {t : Hp → (β → Hp → Prop) → Prop} {u : β → Hp → (δ → Hp → Prop) → Prop} {m : M α} {k : α → M γ} (st : Stays cl rel)
    (hz : ∀ a, Z1 a → Z a) (h1 : SimAt cl rel W Z1 F L A σ H t (m ρ))
    (h2 : ∀ F1 A1 ρ1 H1 a b C, R cl F1 L A1 ρ1 σ H1 → Ext F (Own A) Z1 H F1 (Own A1) H1 → rel F1 L A1 σ H1 a b C → (∀ x ∈ C, H x = none ∨ Own A x ∨ Z1 x) → SimAt cl rel' W (fun x => Z x ∨ x ∈ C) F1 L A1 σ H1 (u b) (k a ρ1)) :
    SimAt cl rel' W Z F L A σ H (fun H Q => t H fun b H1 => u b H1 Q) (m.bind k ρ) := by
  intro o ρ' e Q hQ
  unfold M.bind at e
  cases em : m ρ with
  | none => rw [em] at e; cases e
  | some p =>
    obtain ⟨oa, ρ1⟩ := p
    rw [em] at e
    cases oa with
    | exc c d =>
      cases e
      refine h1 _ _ em _ fun F' A' H' x r => ?_
      exact hQ F' A' H' (x.weak hz) r
    | ok a =>
      refine h1 _ _ em _ fun F1 A1 H1 x r => ?_
      intro b C ra hC
      refine h2 F1 A1 ρ1 H1 a b C r x ra hC o ρ' e Q fun F2 A2 H2 y r2 => ?_
      have q := hQ F2 A2 H2 (x.trans y hz fun z w => w.elim (fun w => .inr (.inr w)) fun w => (hC z w).elim .inl fun w => .inr (w.elim .inl fun w => .inr (hz z w))) r2
      cases o with
      | exc c d => exact q
      | ok g =>
        intro b2 C2 ra2 hC2
        refine q b2 C2 ra2 fun z hm => ?_
        rcases hC2 z hm with w | w | w | w
        · exact .inl (Classical.byContradiction fun n => x.d z n w)
        · rcases x.b z w with w | w | w
          · exact .inr (.inl w)
          · exact .inl w
          · exact .inr (.inr (hz z w))
        · exact .inr (.inr w)
        · rcases hC z w with w | w | w
          · exact .inl w
          · exact .inr (.inl w)
          · exact .inr (.inr (hz z w))
theorem SimAt.ret {Z F : Addr → Prop} {L : LL} {A : Nat → List Addr} {ρ : Sg} {σ : L2.St} {H : Hp} {t : Hp → (β → Hp → Prop) → Prop} {a : α} (r : R cl F L A ρ σ H)
    (h : ∀ Q, (∀ b C, rel F L A σ H a b C → (∀ x ∈ C, H x = none ∨ Own A x ∨ Z x) → Q b H) → t H Q) : SimAt cl rel W Z F L A σ H t (some (.ok a, ρ)) := by
  intro o ρ' e Q hQ
  cases e
  exact h Q (hQ F A H Ext.refl r)
theorem SimAt.none {Z F : Addr → Prop} {L : LL} {A : Nat → List Addr} {σ : L2.St} {H : Hp} {t : Hp → (β → Hp → Prop) → Prop} : SimAt cl rel W Z F L A σ H t Option.none := by
  intro o ρ' e
  cases e
end
end W3

/-! C2: expressions. -/
namespace W3
open PySem PySem.Spec L2

/-- weaken what hangs in the air -/
theorem SimAt.weak {α β : Type} {cl : Str → Addr} {W : WX} {rel : Rel3 α β} {Z Z' F : Addr → Prop} {L : LL} {A : Nat → List Addr} {σ : L2.St} {H : Hp} {t : Hp → (β → Hp → Prop) → Prop} {r : Option (Out α × Sg)} (hz : ∀ a, Z a → Z' a)
    (h : SimAt cl rel W Z F L A σ H t r) : SimAt cl rel W Z' F L A σ H t r := fun o ρ' e Q hQ => h o ρ' e Q fun F' A' H' x r => by
  have := hQ F' A' H' (x.weak hz) r
  cases o with
  | exc c d => exact this
  | ok a => exact fun b C h hC => this b C h fun z m => (hC z m).elim .inl fun w => .inr (w.elim .inl fun w => .inr (hz _ w))

/-! ### flat values -/
def fv : D → Option V
  | .non => some .non
  | .bl b => some (.bl b)
  | .int i => some (.int i)
  | .str x => some (.str x)
  | .ty n => some (.ty n)
  | _ => none
def flat (d : D) : Bool := match d with
  | .non => true | .bl _ => true | .int _ => true | .str _ => true | .ty _ => true | _ => false
def lv (d : D) : Rv := match d with
  | .non => .t (.v .non) | .bl b => .t (.v (.bl b)) | .int i => .t (.v (.int i)) | .str x => .t (.v (.str x)) | .ty n => .t (.v (.ty n)) | d => .lent d
section
variable {cl : Str → Addr} {F : Addr → Prop} {L : LL} {H : Hp}
theorem fv_rel {d : D} {x : V} (e : fv d = some x) : RelD cl F H d x := by
  cases d <;> simp [fv] at e <;> subst e <;> constructor
theorem fv_eq {d : D} {x v : V} (e : fv d = some x) (r : RelD cl F H d v) : v = x := by
  cases d <;> simp [fv] at e <;> subst e <;> cases r <;> rfl
theorem fv_flat {d : D} (h : flat d = true) : ∃ x, fv d = some x := by
  cases d <;> simp [flat] at h <;> exact ⟨_, rfl⟩
theorem lv_rel {A : Nat → List Addr} {σ : L2.St} {d : D} {v : V} (h : RelD cl (Un2 F L) H d v) : RelRv cl F L A σ H (lv d) v [] := by
  have mk : ∀ {d : D} {x : V}, fv d = some x → RelD cl (Un2 F L) H d v → RelRv cl F L A σ H (.t (.v d)) v [] := fun e r => by
    rw [fv_eq e r]
    exact ⟨.v (fv_rel e), List.nodup_nil, fun a m => nomatch m⟩
  cases d with
  | non => exact mk rfl h
  | bl b => exact mk rfl h
  | int i => exact mk rfl h
  | str x => exact mk rfl h
  | ty n => exact mk rfl h
  | _ => exact ⟨rfl, h⟩
/-- a value that is a frozen one -/
theorem relV_v {A : Nat → List Addr} {σ : L2.St} {d : D} {v : V} {C : List Addr} (h : RelRv cl F L A σ H (.t (.v d)) v C) : C = [] ∧ RelD cl F H d v := by
  obtain ⟨h1, _, _⟩ := h
  cases h1 with
  | v h1 => exact ⟨rfl, h1⟩
theorem rel_v {A : Nat → List Addr} {σ : L2.St} {d : D} {v : V} (h : RelD cl F H d v) : RelRv cl F L A σ H (.t (.v d)) v [] :=
  ⟨.v h, List.nodup_nil, fun a m => nomatch m⟩
theorem rel_fv {A : Nat → List Addr} {σ : L2.St} {d : D} {x : V} (e : fv d = some x) : RelRv cl F L A σ H (.t (.v d)) x [] := rel_v (fv_rel e)
end

/-! ### views -/
def rvD : Rv → Option D
  | .t (.v d) => some d
  | _ => none
/-- a result as data, for a look -/
def viewR (ρ : Sg) : Rv → Option D
  | .t t => some t.toD
  | .lent d => some d
  | .pk i => match ρ[i]? with
    | some (some (.t t)) => some t.toD
    | some (some (.io t)) => some t.toD
    | _ => none
def viewRs (ρ : Sg) : List Rv → Option (List D)
  | [] => some []
  | r :: rs => match viewR ρ r, viewRs ρ rs with
    | some d, some ds => some (d :: ds)
    | _, _ => none
abbrev All (_ : Addr) : Prop := True
section
variable {cl : Str → Addr} {F : Addr → Prop} {L : LL} {H : Hp} {A : Nat → List Addr} {ρ : Sg} {σ : L2.St}
theorem relD_all {F : Addr → Prop} {d : D} {v : V} (h : RelD cl F H d v) : RelD cl All H d v := RelD.keep (fun _ _ => trivial) (fun _ _ _ e => e) d v h
theorem relT_all {t : T} {v : V} {B : List Addr} (h : RelT cl F H t v B) : RelD cl All H t.toD v := RelT.frz (fun _ _ => trivial) t v B (fun _ _ => trivial) h
theorem view_rel (r : R cl F L A ρ σ H) {rv : Rv} {v : V} {C : List Addr} {d : D} (h : RelRv cl F L A σ H rv v C) (e : viewR ρ rv = some d) : RelD cl All H d v := by
  cases rv with
  | t t =>
    cases e
    exact relT_all h.1
  | lent d' =>
    cases e
    exact relD_all h.2
  | pk i =>
    have h2 := h.2
    unfold viewR at e
    simp only at e
    split at e
    · rename_i t q
      cases e
      obtain ⟨v', e', s⟩ := r.sl i _ q
      rw [h2] at e'
      cases e'
      exact relT_all s
    · rename_i t q
      cases e
      obtain ⟨v', e', s⟩ := r.sl i _ q
      rw [h2] at e'
      cases e'
      exact relT_all s
    · cases e
theorem views_rel (r : R cl F L A ρ σ H) : ∀ {rvs : List Rv} {vs : List V} {C : List Addr} {ds : List D}, RelRvs cl F L A σ H rvs vs C → viewRs ρ rvs = some ds → RelDs cl All H ds vs
  | [], _, _, _, h, e => by
    cases h
    cases e
    exact .nil
  | rv :: rvs, _, _, _, h, e => by
    cases h with
    | cons h1 h2 hn =>
      unfold viewRs at e
      split at e
      · rename_i d ds e1 e2
        cases e
        exact .cons (view_rel r h1 e1) (views_rel r h2 e2)
      · cases e
end

/-! ### judgements over a family of contexts -/
section
variable {ι : Type}
def PM (Xf : ι → Cx) (cl : Str → Addr) (W : WX) (e : Expr) (m : M Rv) : Prop := ∃ t : TE, (∀ i, PE (Xf i) e t) ∧ Sim cl (RelRv cl) W t m
def PMT (Xf : ι → Cx) (cl : Str → Addr) (W : WX) (e : Expr) (m : M Bool) : Prop := ∃ t : TT, (∀ i, PT (Xf i) e t) ∧ Sim cl RelB W t m
def PMW (Xf : ι → Cx) (cl : Str → Addr) (W : WX) (e : Expr) (m : M Bool) : Prop := ∃ t : TT, (∀ i, PW (Xf i) e t) ∧ Sim cl RelB W t m
def PMA (Xf : ι → Cx) (cl : Str → Addr) (W : WX) (es : List Expr) (m : M (List Rv)) : Prop := ∃ t : TA, (∀ i, PA (Xf i) es t) ∧ Sim cl (RelRvs cl) W t m
end

/-! ### the M of each expression -/
def m_var (i : Nat) : M Rv := fun ρ => match ρ[i]? with
  | some (some (.t (.v d))) => some (.ok (.t (.v d)), ρ)
  | some (some (.t _)) => some (.ok (.pk i), ρ)
  | some (some (.io _)) => some (.ok (.pk i), ρ)
  | some (some (.lent d)) => some (.ok (lv d), ρ)
  | _ => none
/-- the last use of a name: its tree is handed on -/
def m_mv (i : Nat) : M Rv := fun ρ => match ρ[i]? with
  | some (some (.t t)) => some (.ok (.t t), ρ.set i none)
  | _ => none
def m_c (d : D) : M Rv := M.ret (.t (.v d))
/-- frozen -/
def m_fz (m : M Rv) : M Rv := m.bind fun r => M.ret (match r with
  | .t t => .t (.v t.toD)
  | r => r)
def m_op (f : D → D → Option D) (ma mb : M Rv) : M Rv := ma.bind fun a => mb.bind fun b => M.opt ((rvD a).bind fun x => (rvD b).bind fun y => (f x y).map fun g => .t (.v g))
def m_un (f : D → Option D) (ma : M Rv) : M Rv := ma.bind fun a => M.opt ((rvD a).bind fun x => (f x).map fun g => .t (.v g))
/-- two results looked at -/
def m_look2 (f : D → D → Option D) (ma mb : M Rv) : M Rv := ma.bind fun a => mb.bind fun b => fun ρ => match (viewR ρ a).bind fun x => (viewR ρ b).bind fun y => f x y with
  | some g => some (.ok (.t (.v g)), ρ)
  | none => none
def m_tst (m : M Rv) : M Bool := m.bind fun r => M.opt (match r with
  | .t (.v (.bl b)) => some b
  | _ => none)
def m_and (a b : M Bool) : M Bool := a.bind fun c => if c = true then b else M.ret false
def m_or (a b : M Bool) : M Bool := a.bind fun c => if c = true then M.ret true else b
def m_not (a : M Bool) : M Bool := a.bind fun c => M.ret (!c)
def m_bl (a : M Bool) : M Rv := a.bind fun c => M.ret (.t (.v (.bl c)))
def m_if (t : M Bool) (a b : M Rv) : M Rv := t.bind fun c => if c = true then a else b
def m_nil : M (List Rv) := M.ret []
def m_cons (a : M Rv) (r : M (List Rv)) : M (List Rv) := a.bind fun x => r.bind fun xs => M.ret (x :: xs)
/-- a built-in that only looks -/
def m_look (f : List D → Option D) (ms : M (List Rv)) : M Rv := ms.bind fun rs => fun ρ => match (viewRs ρ rs).bind f with
  | some g => some (.ok (.t (.v g)), ρ)
  | none => none
def rvT : Rv → Option T
  | .t t => some t
  | _ => none
def rvTs : List Rv → Option (List T)
  | [] => some []
  | r :: rs => match rvT r, rvTs rs with
    | some t, some ts => some (t :: ts)
    | _, _ => none
def line : Nat := 16777216
theorem line_eq : line = sizeLine := sizeLine_eq.symm
def m_lst (ms : M (List Rv)) : M Rv := ms.bind fun rs => M.opt ((rvTs rs).bind fun ts => if ts.length ≤ line then some (.t (.lst ts)) else none)
def m_tup (ms : M (List Rv)) : M Rv := ms.bind fun rs => M.opt ((rvTs rs).bind fun ts => if ts.length ≤ line then some (.t (.tup ts)) else none)
/-- the items of a list or tuple that may be kept: frozen ones, flat ones -/
def allV : List T → Option (List D)
  | [] => some []
  | .v d :: ts => (allV ts).map (d :: ·)
  | _ :: _ => none
def itemsK (ρ : Sg) : Rv → Option (Bool × List D)
  | .t (.v (.lst ds)) => some (true, ds)
  | .t (.v (.tup ds)) => some (false, ds)
  | .t (.lst ts) => (allV ts).map (true, ·)
  | .lent (.lst ds) => if ds.all flat = true then some (true, ds) else none
  | .lent (.tup ds) => if ds.all flat = true then some (false, ds) else none
  | .pk i => match ρ[i]? with
    | some (some (.t (.lst ts))) => (allV ts).map (true, ·)
    | some (some (.io (.lst ts))) => (allV ts).map (true, ·)
    | _ => none
  | _ => none
def itemsR (ρ : Sg) (r : Rv) : Option (List D) := (itemsK ρ r).map (·.2)
def itemsL (ρ : Sg) (r : Rv) : Option (List D) := match itemsK ρ r with
  | some (true, ds) => some ds
  | _ => none
/-- x[i] -/
def ixR (ρ : Sg) (b : Rv) (i : Int) : Option Rv := match b with
  | .t (.v (.lst ds)) => (atI ds i).map fun d => .t (.v d)
  | .t (.v (.tup ds)) => (atI ds i).map fun d => .t (.v d)
  | .lent (.lst ds) => (atI ds i).map lv
  | .lent (.tup ds) => (atI ds i).map lv
  | .pk j => match ρ[j]? with
    | some (some (.t (.lst ts))) => (atI ts i).bind fun t => match t with
      | .v d => some (.t (.v d))
      | _ => none
    | some (some (.io (.lst ts))) => (atI ts i).bind fun t => match t with
      | .v d => some (.t (.v d))
      | _ => none
    | _ => none
  | _ => none
def m_ix (ma mb : M Rv) : M Rv := ma.bind fun a => mb.bind fun b => fun ρ => match b with
  | .t (.v (.int i)) => (ixR ρ a i).map fun r => (.ok r, ρ)
  | _ => none

section
variable {ι : Type} {Xf : ι → Cx} {cl : Str → Addr} {W : WX} {a b c e : Expr} {ma mb mc m : M Rv} {pos : Pos}
theorem pm_var {i : Nat} {x : Str} (hN : ∀ j, (Xf j).N[i]? = some x := by intro _; rfl) (hv : ∀ j, Vis (Xf j).env.scope x := by intro _; first | exact Or.inl rfl | exact Or.inr (Or.inl rfl) | exact Or.inr (Or.inr rfl))
    (hd : (x == ("__debug__" : Str)) = false := by decide) (hcd : (x == ("__classdict__" : Str)) = false := by decide) : PM Xf cl W (.Name x pos) (m_var i) := by
  refine ⟨tVar i, fun j => pe_var (hN j) (hv j) hd hcd, fun F L A ρ σ H r => ?_⟩
  intro o ρ' em Q hQ
  unfold m_var at em
  have go : ∀ {rv : Rv} {v : V}, σ[i]? = some (some v) → RelRv cl F L A σ H rv v [] → some (Out.ok rv, ρ) = some (o, ρ') → tVar i σ H Q := fun {rv v} e1 h e2 => by
    cases e2
    exact ⟨v, e1, hQ F A H Ext.refl r v [] h fun x m => nomatch m⟩
  split at em
  · rename_i d q
    obtain ⟨v, e1, s⟩ := r.sl i _ q
    exact go e1 (rel_v (relT_v s).2) em
  · rename_i t _ q
    obtain ⟨v, e1, s⟩ := r.sl i _ q
    exact go (rv := .pk i) e1 ⟨rfl, e1⟩ em
  · rename_i t q
    obtain ⟨v, e1, s⟩ := r.sl i _ q
    exact go (rv := .pk i) e1 ⟨rfl, e1⟩ em
  · rename_i d q
    obtain ⟨v, e1, s⟩ := r.sl i _ q
    exact go e1 (lv_rel s) em
  · cases em
/-- one slot anew: a tree that is apart from all others, or nothing -/
theorem R.put {F : Addr → Prop} {L : LL} {A : Nat → List Addr} {ρ : Sg} {σ σ' : L2.St} {H : Hp} (r : R cl F L A ρ σ H) (i : Nat) {o : Option Sl} {C : List Addr} (hl : σ'.length = σ.length) (hσ : ∀ j, j ≠ i → σ'[j]? = σ[j]?)
    (ho : ∀ s, o = some s → i < ρ.length → ∃ v, σ'[i]? = some (some v) ∧ RelS cl F L H C s v) (nd : C.Nodup) (ap : ∀ a ∈ C, ¬ F a ∧ ¬ L a ∧ H a ≠ none) (dj : ∀ j a, j ≠ i → a ∈ C → a ∉ A j) (hp : L.pn i = none) : R cl F L (setA A i C) (ρ.set i o) σ' H where
  len := by rw [List.length_set, hl]; exact r.len
  sl := fun j s q => by
    by_cases e : j = i
    · subst e
      by_cases hl : j < ρ.length
      · rw [List.getElem?_set_self hl] at q
        cases o with
        | none => cases q
        | some s' =>
          cases q
          rw [setA_same]
          exact ho s rfl hl
      · rw [List.getElem?_eq_none (by rw [List.length_set]; omega)] at q
        cases q
    · rw [List.getElem?_set_ne (Ne.symm e)] at q
      obtain ⟨v, e1, h⟩ := r.sl j s q
      refine ⟨v, (hσ j e).trans e1, ?_⟩
      rw [setA_ne e]
      exact h
  nd := fun j => by
    by_cases e : j = i
    · rw [e, setA_same]; exact nd
    · rw [setA_ne e]; exact r.nd j
  dj := fun j k a hjk hj hk => by
    by_cases e : j = i
    · rw [e, setA_same] at hj
      rw [setA_ne (fun z => hjk (e.trans z.symm))] at hk
      exact dj k a (fun z => hjk (e.trans z.symm)) hj hk
    · rw [setA_ne e] at hj
      by_cases e' : k = i
      · rw [e', setA_same] at hk
        exact dj j a e hk hj
      · rw [setA_ne e'] at hk
        exact r.dj j k a hjk hj hk
  ap := fun a o => by
    rcases own_setA o with m | ⟨j, _, hj⟩
    · exact ap a m
    · exact r.ap a ⟨j, hj⟩
  fd := r.fd
  ld := r.ld
  pin := fun j v q => by
    have e : j ≠ i := fun z => by rw [z, hp] at q; cases q
    obtain ⟨⟨t, k1⟩, k2⟩ := r.pin j v q
    exact ⟨⟨t, by rw [List.getElem?_set_ne (Ne.symm e)]; exact k1⟩, (hσ j e).trans k2⟩
theorem R.unpin {F : Addr → Prop} {L : LL} {A : Nat → List Addr} {ρ : Sg} {σ : L2.St} {H : Hp} (r : R cl F L A ρ σ H) {i : Nat} (h : ∀ t, ρ[i]? ≠ some (some (.io t))) : L.pn i = none := by
  cases q : L.pn i with
  | none => rfl
  | some v =>
    obtain ⟨⟨t, k⟩, _⟩ := r.pin i v q
    exact absurd k (h t)
theorem R.drop {F : Addr → Prop} {L : LL} {A : Nat → List Addr} {ρ : Sg} {σ : L2.St} {H : Hp} (r : R cl F L A ρ σ H) (i : Nat) (hp : L.pn i = none) : R cl F L (setA A i []) (ρ.set i none) σ H :=
  r.put i rfl (fun _ _ => rfl) (fun s e => nomatch e) List.nodup_nil (fun a m => nomatch m) (fun j a _ m => nomatch m) hp
theorem pm_mv {i : Nat} {x : Str} (hN : ∀ j, (Xf j).N[i]? = some x := by intro _; rfl) (hv : ∀ j, Vis (Xf j).env.scope x := by intro _; first | exact Or.inl rfl | exact Or.inr (Or.inl rfl) | exact Or.inr (Or.inr rfl))
    (hd : (x == ("__debug__" : Str)) = false := by decide) (hcd : (x == ("__classdict__" : Str)) = false := by decide) : PM Xf cl W (.Name x pos) (m_mv i) := by
  refine ⟨tVar i, fun j => pe_var (hN j) (hv j) hd hcd, fun F L A ρ σ H r => ?_⟩
  intro o ρ' em Q hQ
  unfold m_mv at em
  split at em
  · rename_i t q
    cases em
    obtain ⟨v, e1, s⟩ := r.sl i _ q
    refine ⟨v, e1, hQ F _ H ⟨fun _ h => h, fun _ h => .inl h, fun _ _ h _ _ => h, fun _ h => h, fun a h => ?_⟩ (r.drop i (r.unpin fun t z => by rw [q] at z; cases z)) v (A i) ⟨s, r.nd i, fun a m => ⟨(r.ap a ⟨i, m⟩).1, (r.ap a ⟨i, m⟩).2.1, fun z => ?_⟩⟩ fun x m => .inr (.inl ⟨i, m⟩)⟩
    · rcases own_setA h with z | ⟨j, _, hj⟩
      · cases z
      · exact .inl ⟨j, hj⟩
    · rcases own_setA z with z | ⟨j, hn, hj⟩
      · cases z
      · exact r.dj j i a hn hj m
  · cases em
theorem sim_c {d : D} {x : V} (e : fv d = some x) : Sim cl (RelRv cl) W (tC x) (m_c d) := fun F L A ρ σ H r => by
  refine SimAt.ret r fun Q h => ?_
  exact h x [] (rel_fv e) fun x m => nomatch m
theorem pm_int {i : Int} {j} : PM Xf cl W (.Constant (.int i) j pos) (m_c (.int i)) := ⟨_, fun _ => pe_int, sim_c rfl⟩
theorem pm_bl {i : Bool} {j} : PM Xf cl W (.Constant (.bool i) j pos) (m_c (.bl i)) := ⟨_, fun _ => pe_bl, sim_c rfl⟩
theorem pm_non {j} : PM Xf cl W (.Constant .none j pos) (m_c .non) := ⟨_, fun _ => pe_non, sim_c rfl⟩
theorem pm_str {i : Str} {j} : PM Xf cl W (.Constant (.str i) j pos) (m_c (.str i)) := ⟨_, fun _ => pe_str, sim_c rfl⟩
/-- a global int -/
theorem pm_gint {x : Str} {i : Int} (hg : ∀ j, Gl (Xf j) x := by intro _; rfl) (hm : ∀ j, ∃ t, (Xf j).mg x = some (.int i t)) (hd : (x == ("__debug__" : Str)) = false := by decide) : PM Xf cl W (.Name x pos) (m_c (.int i)) :=
  ⟨tC (.int i), fun j => by obtain ⟨t, e⟩ := hm j; exact pe_glob (hg j) e ⟨t, rfl⟩ hd, sim_c rfl⟩
/-- a built-in type as a value -/
theorem pm_ty {x : Str} {n : String} (hg : ∀ j, Gl (Xf j) x := by intro _; rfl) (hm : ∀ j, (Xf j).mg x = none) (hv : bootBuiltins x = some (.type n) := by decide +kernel) (hn : x ≠ "__name__" := by decide) (hd : (x == ("__debug__" : Str)) = false := by decide) : PM Xf cl W (.Name x pos) (m_c (.ty n)) :=
  ⟨tC (.ty n), fun j => pe_bltn (hg j) (hm j) hv rfl hn hd, sim_c rfl⟩
/-- a class of the text as a value -/
theorem pm_cls {x : Str} (hg : ∀ j, Gl (Xf j) x := by intro _; rfl) (hm : ∀ j, (Xf j).mg x = some (.ref (cl x))) (hd : (x == ("__debug__" : Str)) = false := by decide) : PM Xf cl W (.Name x pos) (m_c (.cls x)) := by
  refine ⟨tC (.ref (cl x)), fun j => pe_glob (hg j) (hm j) rfl hd, fun F L A ρ σ H r => SimAt.ret r fun Q h => ?_⟩
  exact h _ [] (rel_v (.cls x)) fun x m => nomatch m

/-! ### freezing -/
theorem R.more {F : Addr → Prop} {L : LL} {A : Nat → List Addr} {ρ : Sg} {σ : L2.St} {H : Hp} (r : R cl F L A ρ σ H) {C : Addr → Prop} (h : ∀ a, C a → ¬ Own A a ∧ H a ≠ none) : R cl (fun a => F a ∨ C a) L A ρ σ H where
  len := r.len
  sl := fun i s q => by
    obtain ⟨v, e1, z⟩ := r.sl i s q
    refine ⟨v, e1, ?_⟩
    cases s with
    | t t => exact RelT.keep (fun _ h => .inl h) (fun _ _ _ e => e) t v _ (fun _ _ _ e => e) z
    | io t => exact RelT.keep (fun _ h => .inl h) (fun _ _ _ e => e) t v _ (fun _ _ _ e => e) z
    | lent d => exact RelD.keep (fun _ h => h.elim (fun h => .inl (.inl h)) .inr) (fun _ _ _ e => e) d v z
    | al _ _ => exact z
  nd := r.nd
  dj := r.dj
  ap := fun a o => ⟨fun z => z.elim (r.ap a o).1 fun z => (h a z).1 o, (r.ap a o).2⟩
  fd := fun a z => z.elim (r.fd a) fun z => (h a z).2
  ld := r.ld
  pin := r.pin
theorem sim_fz {t : TE} (h : Sim cl (RelRv cl) W t m) : Sim cl (RelRv cl) W t (m_fz m) := fun F L A ρ σ H r => by
  intro o ρ' em Q hQ
  unfold m_fz M.bind at em
  cases e1 : m ρ with
  | none => rw [e1] at em; cases em
  | some p =>
    obtain ⟨oa, ρ1⟩ := p
    rw [e1] at em
    cases oa with
    | exc c d =>
      cases em
      exact h F L A ρ σ H r _ _ e1 Q hQ
    | ok rv =>
      refine h F L A ρ σ H r _ _ e1 Q fun F' A' H' x r' => ?_
      intro v C hr hC
      cases rv with
      | lent d => cases em; exact hQ F' A' H' x r' v C hr hC
      | pk i => cases em; exact hQ F' A' H' x r' v C hr hC
      | t t =>
        cases em
        obtain ⟨h1, h2, h3⟩ := hr
        have dm := RelT.dom t v C h1
        refine hQ (fun a => F' a ∨ a ∈ C) A' H' ⟨fun a z => .inl (x.f a z), fun a z => ?_, x.k, x.d, x.b⟩ (r'.more fun a m => ⟨(h3 a m).2.2, dm a m⟩) v [] (rel_v (RelT.frz (fun a z => .inl z) t v C (fun a m => .inr m) h1)) fun x m => nomatch m
        rcases z with z | z
        · exact x.nf a z
        · rcases hC a z with w | w | w
          · exact .inr (.inl w)
          · exact .inr (.inr (.inl w))
          · exact w.elim
theorem pm_fz (h : PM Xf cl W e m) : PM Xf cl W e (m_fz m) := by
  obtain ⟨t, h1, h2⟩ := h
  exact ⟨t, h1, sim_fz h2⟩

/-! ### operators on flat values -/
/-- what r does on flat values is f -/
def OpD (r : R2) (f : D → D → Option D) : Prop := ∀ (d e g : D) (H : Hp) (Q : VK) (x y : V), f d e = some g → fv d = some x → fv e = some y → ∃ z, fv g = some z ∧ (Q z H → r x y H Q)
theorem rvD_t {rv : Rv} {d : D} (e : rvD rv = some d) : rv = .t (.v d) := by
  cases rv with
  | t t => cases t <;> simp [rvD] at e; subst e; rfl
  | lent d => cases e
  | pk i => cases e
/-- f is defined on flat values alone -/
def FlatIn (f : D → D → Option D) : Prop := ∀ d e g, f d e = some g → flat d = true ∧ flat e = true
theorem sim_op {r : R2} {f : D → D → Option D} {ta tb : TE} (ho : OpD r f) (hf : FlatIn f) (ha : Sim cl (RelRv cl) W ta ma) (hb : Sim cl (RelRv cl) W tb mb) : Sim cl (RelRv cl) W (tOp r ta tb) (m_op f ma mb) := fun F L A ρ σ H rr => by
  refine SimAt.bind (rel := RelRv cl) (t := ta σ) (u := fun x H1 Q => tb σ H1 fun y H2 => r x y H2 Q) stays_Rv (fun _ z => z) (ha F L A ρ σ H rr) fun F1 A1 ρ1 H1 a x C r1 x1 h1 _ => ?_
  refine SimAt.bind (rel := RelRv cl) (t := tb σ) (u := fun y H2 Q => r x y H2 Q) stays_Rv (fun _ z => z.elim) (hb F1 L A1 ρ1 σ H1 r1) fun F2 A2 ρ2 H2 b y C2 r2 x2 h2 _ => ?_
  · intro o ρ' em Q hQ
    unfold M.opt at em
    cases ea : rvD a with
    | none => rw [ea] at em; cases em
    | some d =>
      cases eb : rvD b with
      | none => rw [ea, eb] at em; cases em
      | some d2 =>
        rw [ea, eb] at em
        simp only [Option.bind_some] at em
        cases ef : f d d2 with
        | none => rw [ef] at em; cases em
        | some g =>
          rw [ef] at em
          cases em
          have h1' := stays_Rv.st r1 x2 h1
          rw [rvD_t ea] at h1'
          rw [rvD_t eb] at h2
          obtain ⟨w1, w2⟩ := hf _ _ _ ef
          obtain ⟨u1, q1⟩ := fv_flat w1
          obtain ⟨u2, q2⟩ := fv_flat w2
          have e1 := fv_eq q1 (relV_v h1').2
          have e2 := fv_eq q2 (relV_v h2).2
          subst e1 e2
          obtain ⟨z, qz, hz⟩ := ho d d2 g H2 Q _ _ ef q1 q2
          exact hz (hQ F2 A2 H2 Ext.refl r2 z [] (rel_fv qz) fun x m => nomatch m)
end
end W3

/-! C3: expressions, further. -/
namespace W3
open PySem PySem.Spec L2

/-! ### one, two operands, a list of them -/
section
variable {cl : Str → Addr} {W : WX} {ma mb : M Rv} {α β : Type} {rel : Rel3 α β}
theorem sim_one {r : V → Hp → (β → Hp → Prop) → Prop} {k : Rv → M α} {ta : TE} (ha : Sim cl (RelRv cl) W ta ma)
    (h : ∀ F L A ρ σ H a x C, R cl F L A ρ σ H → RelRv cl F L A σ H a x C → SimAt cl rel W (fun z => z ∈ C) F L A σ H (fun H Q => r x H Q) (k a ρ)) :
    Sim cl rel W (fun σ H Q => ta σ H fun x H1 => r x H1 Q) (ma.bind k) := fun F L A ρ σ H rr => by
  refine SimAt.bind (rel := RelRv cl) (t := ta σ) (u := fun x H1 Q => r x H1 Q) stays_Rv (fun _ z => z) (ha F L A ρ σ H rr) fun F1 A1 ρ1 H1 a x C r1 x1 h1 _ => ?_
  exact (h F1 L A1 ρ1 σ H1 a x C r1 h1).weak fun z m => .inr m
theorem sim_two {r : V → V → Hp → (β → Hp → Prop) → Prop} {k : Rv → Rv → M α} {ta tb : TE} (ha : Sim cl (RelRv cl) W ta ma) (hb : Sim cl (RelRv cl) W tb mb)
    (h : ∀ F L A ρ σ H a b x y C D, R cl F L A ρ σ H → RelRv cl F L A σ H a x C → RelRv cl F L A σ H b y D → SimAt cl rel W (fun z => z ∈ C ∨ z ∈ D) F L A σ H (fun H Q => r x y H Q) (k a b ρ)) :
    Sim cl rel W (fun σ H Q => ta σ H fun x H1 => tb σ H1 fun y H2 => r x y H2 Q) (ma.bind fun a => mb.bind fun b => k a b) := fun F L A ρ σ H rr => by
  refine SimAt.bind (rel := RelRv cl) (t := ta σ) (u := fun x H1 Q => tb σ H1 fun y H2 => r x y H2 Q) stays_Rv (fun _ z => z) (ha F L A ρ σ H rr) fun F1 A1 ρ1 H1 a x C r1 x1 h1 _ => ?_
  refine SimAt.bind (rel := RelRv cl) (t := tb σ) (u := fun y H2 Q => r x y H2 Q) stays_Rv (fun _ z => z.elim) (hb F1 L A1 ρ1 σ H1 r1) fun F2 A2 ρ2 H2 b y D r2 x2 h2 _ => ?_
  exact (h F2 L A2 ρ2 σ H2 a b x y C D r2 (stays_Rv.st r1 x2 h1) h2).weak fun z m => m.elim (fun m => .inl (.inr m)) .inr
theorem sim_list {r : List V → Hp → (β → Hp → Prop) → Prop} {ms : M (List Rv)} {k : List Rv → M α} {ta : TA} (ha : Sim cl (RelRvs cl) W ta ms)
    (h : ∀ F L A ρ σ H a x C, R cl F L A ρ σ H → RelRvs cl F L A σ H a x C → SimAt cl rel W (fun z => z ∈ C) F L A σ H (fun H Q => r x H Q) (k a ρ)) :
    Sim cl rel W (fun σ H Q => ta σ H fun x H1 => r x H1 Q) (ms.bind k) := fun F L A ρ σ H rr => by
  refine SimAt.bind (rel := RelRvs cl) (t := ta σ) (u := fun x H1 Q => r x H1 Q) stays_Rvs (fun _ z => z) (ha F L A ρ σ H rr) fun F1 A1 ρ1 H1 a x C r1 x1 h1 _ => ?_
  exact (h F1 L A1 ρ1 σ H1 a x C r1 h1).weak fun z m => .inr m
/-- a flat answer -/
theorem at_fv {Z F : Addr → Prop} {L : LL} {A : Nat → List Addr} {ρ : Sg} {σ : L2.St} {H : Hp} {t : Hp → VK → Prop} {g : D} {z : V} (r : R cl F L A ρ σ H) (e : fv g = some z) (h : ∀ Q : VK, Q z H → t H Q) :
    SimAt cl (RelRv cl) W Z F L A σ H t (some (.ok (.t (.v g)), ρ)) := SimAt.ret r fun Q hq => h Q (hq z [] (rel_fv e) fun x m => nomatch m)
end

theorem rv_apart {cl : Str → Addr} {F : Addr → Prop} {L : LL} {A : Nat → List Addr} {σ : L2.St} {H : Hp} {a : Rv} {x : V} {C : List Addr} (h : RelRv cl F L A σ H a x C) : ∀ z ∈ C, ¬ Own A z ∧ H z ≠ none := fun z m => by
  cases a with
  | t t =>
    obtain ⟨h1, h2, h3⟩ := h
    exact ⟨(h3 z m).2.2, RelT.dom t x C h1 z m⟩
  | lent d => rw [h.1] at m; cases m
  | pk i => rw [h.1] at m; cases m
/-! ### arguments -/
section
variable {ι : Type} {Xf : ι → Cx} {cl : Str → Addr} {W : WX} {e : Expr} {es : List Expr} {m : M Rv} {ms : M (List Rv)}
theorem pma_nil : PMA Xf cl W [] m_nil := ⟨tNil, fun _ => pa_nil, fun F L A ρ σ H r => SimAt.ret r fun Q h => h [] [] .nil fun x m => nomatch m⟩
theorem pma_cons (h : PM Xf cl W e m) (hs : PMA Xf cl W es ms) (he : ∀ i, starEach (e :: es) (Xf i).env = (false, eval e (Xf i).env) :: starEach es (Xf i).env := by intro _; rfl) : PMA Xf cl W (e :: es) (m_cons m ms) := by
  obtain ⟨t, h1, h2⟩ := h
  obtain ⟨ts, g1, g2⟩ := hs
  refine ⟨tCons t ts, fun i => pa_cons (h1 i) (g1 i) (he i), fun F L A ρ σ H rr => ?_⟩
  refine SimAt.bind (rel := RelRv cl) (rel' := RelRvs cl) (t := t σ) (u := fun x H1 Q => ts σ H1 fun xs H2 => Q (x :: xs) H2) stays_Rv (fun _ z => z) (h2 F L A ρ σ H rr) fun F1 A1 ρ1 H1 a x C r1 x1 h1 _ => ?_
  refine SimAt.bind (rel := RelRvs cl) (rel' := RelRvs cl) (t := ts σ) (u := fun xs H2 Q => Q (x :: xs) H2) stays_Rvs (fun _ z => z.elim) (g2 F1 L A1 ρ1 σ H1 r1) fun F2 A2 ρ2 H2 b y D r2 x2 h2 hD => ?_
  -- what hangs is apart from what comes new
  have h1' := stays_Rv.st r1 x2 h1
  refine SimAt.ret r2 fun Q hq => hq (x :: y) (C ++ D) (.cons h1' h2 fun z hz hz2 => ?_) fun z m => .inr (.inr ((List.mem_append.mp m).elim (fun m => .inl (.inr m)) .inr))
  obtain ⟨n1, n2⟩ := rv_apart h1 z hz
  rcases hD z hz2 with w | w | w
  · exact n2 w
  · exact n1 w
  · exact w
end

/-! ### tests -/
section
variable {ι : Type} {Xf : ι → Cx} {cl : Str → Addr} {W : WX} {a b c e : Expr} {ma mb mc m : M Rv} {ta' tb' : M Bool} {pos : Pos} {rest : List Expr}
theorem sim_tst {t : TE} (h : Sim cl (RelRv cl) W t m) : Sim cl RelB W (tTest t) (m_tst m) := by
  refine sim_one (r := fun x H Q => ∃ k, x = .bl k ∧ Q k H) (k := fun r => M.opt (match r with | .t (.v (.bl b)) => some b | _ => none)) h fun F L A ρ σ H a x C r h1 => ?_
  intro o ρ' em Q hQ
  unfold M.opt at em
  split at em
  · rename_i b e1
    cases em
    split at e1
    · cases e1
      have := (relV_v h1).2
      cases this
      exact ⟨_, rfl, hQ F A H Ext.refl r _ [] ⟨rfl, rfl⟩ fun x m => nomatch m⟩
    · cases e1
  · cases em
theorem pmt_val (h : PM Xf cl W e m) (he : ∀ i whole, isTrue e (Xf i).env whole = (do let v ← whole; standAt e.pos; holding [v] (truthy v)) := by intro _ _; rfl) : PMT Xf cl W e (m_tst m) := by
  obtain ⟨t, h1, h2⟩ := h
  exact ⟨tB t, fun i => pt_val (h1 i) (he i), sim_tst h2⟩
theorem pmw_and1 (h : PMT Xf cl W a ta') : PMW Xf cl W (.BoolOp .And [a] pos) ta' := by
  obtain ⟨t, h1, h2⟩ := h
  exact ⟨t, fun i => pw_and1 (h1 i), h2⟩
theorem pmw_or1 (h : PMT Xf cl W a ta') : PMW Xf cl W (.BoolOp .Or [a] pos) ta' := by
  obtain ⟨t, h1, h2⟩ := h
  exact ⟨t, fun i => pw_or1 (h1 i), h2⟩
theorem sim_bind2 {α β γ δ : Type} {rel' : Rel3 γ δ} {t : L2.St → Hp → (Bool → Hp → Prop) → Prop} {u : Bool → L2.St → Hp → (δ → Hp → Prop) → Prop} {m : M Bool} {k : Bool → M γ} (h : Sim cl RelB W t m)
    (hk : ∀ c, Sim cl rel' W (u c) (k c)) : Sim cl rel' W (fun σ H Q => t σ H fun c H1 => u c σ H1 Q) (m.bind k) := fun F L A ρ σ H rr => by
  refine SimAt.bind (rel := RelB) (t := t σ) (u := fun c H1 Q => u c σ H1 Q) stays_B (fun _ z => z) (h F L A ρ σ H rr) fun F1 A1 ρ1 H1 a x C r1 x1 h1 _ => ?_
  obtain ⟨e1, e2⟩ := h1
  subst e1 e2
  exact (hk a F1 L A1 ρ1 σ H1 r1).weak fun z m => m.elim
theorem sim_retB {b : Bool} {u : L2.St → Hp → (Bool → Hp → Prop) → Prop} (hu : ∀ σ H Q, Q b H → u σ H Q) : Sim cl RelB W u (M.ret b) := fun F L A ρ σ H r => SimAt.ret r fun Q h => hu σ H Q (h b [] ⟨rfl, rfl⟩ fun x m => nomatch m)
theorem sim_and {t u : TT} (h : Sim cl RelB W t ta') (g : Sim cl RelB W u tb') : Sim cl RelB W (tAnd t u) (m_and ta' tb') := by
  refine sim_bind2 (α := Bool) (β := Bool) (u := fun c σ H1 Q => if c = true then u σ H1 Q else Q false H1) h fun c => ?_
  cases c with
  | true => exact g
  | false => exact sim_retB fun σ H Q h => h
theorem sim_or {t u : TT} (h : Sim cl RelB W t ta') (g : Sim cl RelB W u tb') : Sim cl RelB W (tOr t u) (m_or ta' tb') := by
  refine sim_bind2 (α := Bool) (β := Bool) (u := fun c σ H1 Q => if c = true then Q true H1 else u σ H1 Q) h fun c => ?_
  cases c with
  | true => exact sim_retB fun σ H Q h => h
  | false => exact g
theorem pmw_and (h : PMT Xf cl W a ta') (g : PMW Xf cl W (.BoolOp .And (b :: rest) pos) tb') : PMW Xf cl W (.BoolOp .And (a :: b :: rest) pos) (m_and ta' tb') := by
  obtain ⟨t, h1, h2⟩ := h
  obtain ⟨u, g1, g2⟩ := g
  exact ⟨tAnd t u, fun i => pw_and (h1 i) (g1 i), sim_and h2 g2⟩
theorem pmw_or (h : PMT Xf cl W a ta') (g : PMW Xf cl W (.BoolOp .Or (b :: rest) pos) tb') : PMW Xf cl W (.BoolOp .Or (a :: b :: rest) pos) (m_or ta' tb') := by
  obtain ⟨t, h1, h2⟩ := h
  obtain ⟨u, g1, g2⟩ := g
  exact ⟨tOr t u, fun i => pw_or (h1 i) (g1 i), sim_or h2 g2⟩
theorem pmt_w (h : PMW Xf cl W e ta') : PMT Xf cl W e ta' := by
  obtain ⟨t, h1, h2⟩ := h
  exact ⟨t, fun i => (h1 i).pt, h2⟩
theorem pmt_not (h : PMT Xf cl W a ta') : PMT Xf cl W (.UnaryOp .Not a pos) (m_not ta') := by
  obtain ⟨t, h1, h2⟩ := h
  refine ⟨tNot t, fun i => pt_not (h1 i), ?_⟩
  exact sim_bind2 (α := Bool) (β := Bool) (u := fun c σ H1 Q => Q (!c) H1) h2 fun c => sim_retB fun σ H Q h => h
/-- values: and, or, not of bools -/
def m_andV (a b : M Rv) : M Rv := (m_tst a).bind fun c => if c = true then b else m_c (.bl false)
def m_orV (a b : M Rv) : M Rv := (m_tst a).bind fun c => if c = true then m_c (.bl true) else b
def m_notV (a : M Rv) : M Rv := (m_tst a).bind fun c => m_c (.bl (!c))
theorem pm_one {op} (h : PM Xf cl W a m) : PM Xf cl W (.BoolOp op [a] pos) m := by
  obtain ⟨t, h1, h2⟩ := h
  exact ⟨t, fun i => pe_one (h1 i), h2⟩
theorem tsplit {ta : TE} {σ : L2.St} {H : Hp} {R : Bool → Hp → Prop} (h : tTest ta σ H R) : ta σ H fun x H1 => ∃ c, x = .bl c ∧ R c H1 := h
theorem pm_and (h : PM Xf cl W a ma) (g : PM Xf cl W (.BoolOp .And (b :: rest) pos) mb) : PM Xf cl W (.BoolOp .And (a :: b :: rest) pos) (m_andV ma mb) := by
  obtain ⟨t, h1, h2⟩ := h
  obtain ⟨u, g1, g2⟩ := g
  refine ⟨tAndV t u, fun i => pe_and (h1 i) (g1 i), ?_⟩
  refine sim_bind2 (α := Bool) (β := Bool) (t := tTest t) (u := fun c σ H1 Q => if c = true then u σ H1 Q else Q (.bl false) H1) (sim_tst h2) fun c => ?_
  cases c with
  | true => exact g2
  | false => exact sim_c (x := .bl false) rfl
theorem pm_or (h : PM Xf cl W a ma) (g : PM Xf cl W (.BoolOp .Or (b :: rest) pos) mb) : PM Xf cl W (.BoolOp .Or (a :: b :: rest) pos) (m_orV ma mb) := by
  obtain ⟨t, h1, h2⟩ := h
  obtain ⟨u, g1, g2⟩ := g
  refine ⟨tOrV t u, fun i => pe_or (h1 i) (g1 i), ?_⟩
  refine sim_bind2 (α := Bool) (β := Bool) (t := tTest t) (u := fun c σ H1 Q => if c = true then Q (.bl true) H1 else u σ H1 Q) (sim_tst h2) fun c => ?_
  cases c with
  | true => exact sim_c (x := .bl true) rfl
  | false => exact g2
theorem pm_not (h : PM Xf cl W a ma) : PM Xf cl W (.UnaryOp .Not a pos) (m_notV ma) := by
  obtain ⟨t, h1, h2⟩ := h
  refine ⟨tNotV t, fun i => pe_not (h1 i), ?_⟩
  refine sim_bind2 (α := Bool) (β := Bool) (t := tTest t) (rel' := RelRv cl) (u := fun c σ H1 Q => Q (V.bl (!c)) H1) (sim_tst h2) fun c => ?_
  exact sim_c (x := .bl (!c)) rfl
theorem pm_ifexp (hc : PMT Xf cl W c ta') (ha : PM Xf cl W a ma) (hb : PM Xf cl W b mb) : PM Xf cl W (.IfExp c a b pos) (m_if ta' ma mb) := by
  obtain ⟨t, h1, h2⟩ := hc
  obtain ⟨u, g1, g2⟩ := ha
  obtain ⟨w, k1, k2⟩ := hb
  refine ⟨tIf t u w, fun i => pe_ifExp (h1 i) (g1 i) (k1 i), ?_⟩
  refine sim_bind2 (α := Bool) (β := Bool) (u := fun c σ H1 Q => if c = true then u σ H1 Q else w σ H1 Q) h2 fun c => ?_
  cases c with
  | true => exact g2
  | false => exact k2

/-! ### ints -/
def iop (C : Int → Int → Prop) [∀ i j, Decidable (C i j)] (g : Int → Int → Int) : D → D → Option D
  | .int i, .int j => if C i j then some (.int (g i j)) else none
  | _, _ => none
def icmp (g : Int → Int → Bool) : D → D → Option D
  | .int i, .int j => some (.bl (g i j))
  | _, _ => none
theorem iop_some {C : Int → Int → Prop} [∀ i j, Decidable (C i j)] {g : Int → Int → Int} {d e k : D} (h : iop C g d e = some k) : ∃ i j, d = .int i ∧ e = .int j ∧ C i j ∧ k = .int (g i j) := by
  unfold iop at h
  split at h
  · rename_i i j
    split at h
    · cases h
      exact ⟨i, j, rfl, rfl, by assumption, rfl⟩
    · cases h
  · cases h
theorem icmp_some {g : Int → Int → Bool} {d e k : D} (h : icmp g d e = some k) : ∃ i j, d = .int i ∧ e = .int j ∧ k = .bl (g i j) := by
  unfold icmp at h
  split at h
  · rename_i i j
    cases h
    exact ⟨i, j, rfl, rfl, rfl⟩
  · cases h
theorem flat_iop {C : Int → Int → Prop} [∀ i j, Decidable (C i j)] {g : Int → Int → Int} : FlatIn (iop C g) := fun d e k h => by
  obtain ⟨i, j, rfl, rfl, _, _⟩ := iop_some h
  exact ⟨rfl, rfl⟩
theorem flat_icmp {g : Int → Int → Bool} : FlatIn (icmp g) := fun d e k h => by
  obtain ⟨i, j, rfl, rfl, _⟩ := icmp_some h
  exact ⟨rfl, rfl⟩
theorem opD_I {C : Int → Int → Prop} [∀ i j, Decidable (C i j)] {g : Int → Int → Int} : OpD (rI C fun i j => .int (g i j)) (iop C g) := fun d e k H Q x y h hx hy => by
  obtain ⟨i, j, rfl, rfl, hc, rfl⟩ := iop_some h
  cases hx
  cases hy
  exact ⟨_, rfl, fun q => ⟨i, j, rfl, rfl, hc, q⟩⟩
theorem opD_I0 {g : Int → Int → Int} : OpD (rI0 fun i j => .int (g i j)) (iop (fun _ _ => True) g) := fun d e k H Q x y h hx hy => by
  obtain ⟨i, j, rfl, rfl, hc, rfl⟩ := iop_some h
  cases hx
  cases hy
  exact ⟨_, rfl, fun q => ⟨i, j, rfl, rfl, q⟩⟩
theorem opD_B0 {g : Int → Int → Bool} : OpD (rI0 fun i j => .bl (g i j)) (icmp g) := fun d e k H Q x y h hx hy => by
  obtain ⟨i, j, rfl, rfl, rfl⟩ := icmp_some h
  cases hx
  cases hy
  exact ⟨_, rfl, fun q => ⟨i, j, rfl, rfl, q⟩⟩
instance {i j : Int} : Decidable (CMul i j) := by unfold CMul; exact inferInstance
instance {i j : Int} : Decidable (CDiv i j) := by unfold CDiv; exact inferInstance
instance {i j : Int} : Decidable (CPow i j) := by unfold CPow; exact inferInstance
abbrev fAdd := iop (fun _ _ => True) fun i j => i + j
abbrev fSub := iop (fun _ _ => True) fun i j => i - j
abbrev fMul := iop CMul fun i j => i * j
abbrev fDiv := iop CDiv fun i j => i / j
abbrev fMod := iop (fun _ j => 0 < j) fun i j => i % j
abbrev fPow := iop CPow fun i j => i ^ j.toNat
abbrev fShl := iop CPow fun i j => i * 2 ^ j.toNat
abbrev fShr := iop (fun _ j => 0 ≤ j) fun i j => i / 2 ^ j.toNat
abbrev fAnd := iop (fun _ _ => True) Builtin.bitAnd
abbrev fOr := iop (fun _ _ => True) Builtin.bitOr
abbrev fLt := icmp fun i j => decide (i < j)
abbrev fLe := icmp fun i j => decide (i ≤ j)
abbrev fGt := icmp fun i j => decide (j < i)
abbrev fGe := icmp fun i j => decide (j ≤ i)
theorem pm_binop {op : Operator} {r : R2} {f : D → D → Option D} (ho : ∀ i, OpR (Xf i) (binaryOp op) r) (hd : OpD r f) (hf : FlatIn f) (ha : PM Xf cl W a ma) (hb : PM Xf cl W b mb) : PM Xf cl W (.BinOp a op b pos) (m_op f ma mb) := by
  obtain ⟨t, h1, h2⟩ := ha
  obtain ⟨u, g1, g2⟩ := hb
  exact ⟨tOp r t u, fun i => pe_op (ho i) (h1 i) (g1 i), sim_op hd hf h2 g2⟩
theorem pm_cmpop {op : CmpOp} {r : R2} {f : D → D → Option D} (ho : ∀ i, OpR (Xf i) (compareOp op) r) (hd : OpD r f) (hf : FlatIn f) (ha : PM Xf cl W a ma) (hb : PM Xf cl W b mb) (hm : behindInMarks op b = false) : PM Xf cl W (.Compare a [op] [b] pos) (m_op f ma mb) := by
  obtain ⟨t, h1, h2⟩ := ha
  obtain ⟨u, g1, g2⟩ := hb
  exact ⟨tOp r t u, fun i => pe_cmpR (ho i) (h1 i) (g1 i) hm, sim_op hd hf h2 g2⟩
theorem pmt_cmpop {op : CmpOp} {r : R2} {f : D → D → Option D} (ho : ∀ i, OpR (Xf i) (compareOp op) r) (hd : OpD r f) (hf : FlatIn f) (ha : PM Xf cl W a ma) (hb : PM Xf cl W b mb) (hm : behindInMarks op b = false) : PMT Xf cl W (.Compare a [op] [b] pos) (m_tst (m_op f ma mb)) := by
  obtain ⟨t, h1, h2⟩ := ha
  obtain ⟨u, g1, g2⟩ := hb
  exact ⟨tTest (tOp r t u), fun i => pt_cmpR (ho i) (h1 i) (g1 i) hm, sim_tst (sim_op hd hf h2 g2)⟩
theorem pm_add (ha : PM Xf cl W a ma) (hb : PM Xf cl W b mb) : PM Xf cl W (.BinOp a .Add b pos) (m_op fAdd ma mb) := pm_binop (fun _ => op_add) opD_I0 flat_iop ha hb
theorem pm_sub (ha : PM Xf cl W a ma) (hb : PM Xf cl W b mb) : PM Xf cl W (.BinOp a .Sub b pos) (m_op fSub ma mb) := pm_binop (fun _ => op_sub) opD_I0 flat_iop ha hb
theorem pm_mul (ha : PM Xf cl W a ma) (hb : PM Xf cl W b mb) : PM Xf cl W (.BinOp a .Mult b pos) (m_op fMul ma mb) := pm_binop (fun _ => op_mul) opD_I flat_iop ha hb
theorem pm_fdiv (ha : PM Xf cl W a ma) (hb : PM Xf cl W b mb) : PM Xf cl W (.BinOp a .FloorDiv b pos) (m_op fDiv ma mb) := pm_binop (fun _ => op_fdiv) opD_I flat_iop ha hb
theorem pm_mod (ha : PM Xf cl W a ma) (hb : PM Xf cl W b mb) : PM Xf cl W (.BinOp a .Mod b pos) (m_op fMod ma mb) := pm_binop (fun _ => op_mod) opD_I flat_iop ha hb
theorem pm_pow (ha : PM Xf cl W a ma) (hb : PM Xf cl W b mb) : PM Xf cl W (.BinOp a .Pow b pos) (m_op fPow ma mb) := pm_binop (fun _ => op_pow) opD_I flat_iop ha hb
theorem pm_shl (ha : PM Xf cl W a ma) (hb : PM Xf cl W b mb) : PM Xf cl W (.BinOp a .LShift b pos) (m_op fShl ma mb) := pm_binop (fun _ => op_shl) opD_I flat_iop ha hb
theorem pm_shr (ha : PM Xf cl W a ma) (hb : PM Xf cl W b mb) : PM Xf cl W (.BinOp a .RShift b pos) (m_op fShr ma mb) := pm_binop (fun _ => op_shr) opD_I flat_iop ha hb
theorem pm_band (ha : PM Xf cl W a ma) (hb : PM Xf cl W b mb) : PM Xf cl W (.BinOp a .BitAnd b pos) (m_op fAnd ma mb) := pm_binop (fun _ => op_and) opD_I0 flat_iop ha hb
theorem pm_bor (ha : PM Xf cl W a ma) (hb : PM Xf cl W b mb) : PM Xf cl W (.BinOp a .BitOr b pos) (m_op fOr ma mb) := pm_binop (fun _ => op_or) opD_I0 flat_iop ha hb
theorem pm_lt (ha : PM Xf cl W a ma) (hb : PM Xf cl W b mb) : PM Xf cl W (.Compare a [.Lt] [b] pos) (m_op fLt ma mb) := pm_cmpop (fun _ => op_lt) opD_B0 flat_icmp ha hb (nomark _)
theorem pm_le (ha : PM Xf cl W a ma) (hb : PM Xf cl W b mb) : PM Xf cl W (.Compare a [.LtE] [b] pos) (m_op fLe ma mb) := pm_cmpop (fun _ => op_le) opD_B0 flat_icmp ha hb (nomark _)
theorem pm_gt (ha : PM Xf cl W a ma) (hb : PM Xf cl W b mb) : PM Xf cl W (.Compare a [.Gt] [b] pos) (m_op fGt ma mb) := pm_cmpop (fun _ => op_gt) opD_B0 flat_icmp ha hb (nomark _)
theorem pm_ge (ha : PM Xf cl W a ma) (hb : PM Xf cl W b mb) : PM Xf cl W (.Compare a [.GtE] [b] pos) (m_op fGe ma mb) := pm_cmpop (fun _ => op_ge) opD_B0 flat_icmp ha hb (nomark _)
theorem pmt_lt (ha : PM Xf cl W a ma) (hb : PM Xf cl W b mb) : PMT Xf cl W (.Compare a [.Lt] [b] pos) (m_tst (m_op fLt ma mb)) := pmt_cmpop (fun _ => op_lt) opD_B0 flat_icmp ha hb (nomark _)
theorem pmt_le (ha : PM Xf cl W a ma) (hb : PM Xf cl W b mb) : PMT Xf cl W (.Compare a [.LtE] [b] pos) (m_tst (m_op fLe ma mb)) := pmt_cmpop (fun _ => op_le) opD_B0 flat_icmp ha hb (nomark _)
theorem pmt_gt (ha : PM Xf cl W a ma) (hb : PM Xf cl W b mb) : PMT Xf cl W (.Compare a [.Gt] [b] pos) (m_tst (m_op fGt ma mb)) := pmt_cmpop (fun _ => op_gt) opD_B0 flat_icmp ha hb (nomark _)
theorem pmt_ge (ha : PM Xf cl W a ma) (hb : PM Xf cl W b mb) : PMT Xf cl W (.Compare a [.GtE] [b] pos) (m_tst (m_op fGe ma mb)) := pmt_cmpop (fun _ => op_ge) opD_B0 flat_icmp ha hb (nomark _)
/-- -a -/
def fNeg : D → Option D
  | .int i => some (.int (-i))
  | _ => none
theorem pm_neg (ha : PM Xf cl W a ma) : PM Xf cl W (.UnaryOp .USub a pos) (m_un fNeg ma) := by
  obtain ⟨t, h1, h2⟩ := ha
  refine ⟨tUn (rU fun i => .int (-i)) t, fun i => pe_un un_neg (h1 i), ?_⟩
  refine sim_one (r := rU fun i => .int (-i)) h2 fun F L A ρ σ H a x C r h => ?_
  intro o ρ' em Q hQ
  unfold M.opt at em
  cases ea : rvD a with
  | none => rw [ea] at em; cases em
  | some d =>
    rw [ea] at em
    rw [rvD_t ea] at h
    simp only [Option.bind_some] at em
    cases d <;> first | (cases em; done) | skip
    have q := (relV_v h).2
    cases q
    cases em
    exact ⟨_, rfl, hQ F A H Ext.refl r _ [] (rel_fv rfl) fun x m => nomatch m⟩
/-- a op b op' c, ints -/
def rvI : Rv → Option Int
  | .t (.v (.int i)) => some i
  | _ => none
theorem rvI_t {rv : Rv} {i : Int} (e : rvI rv = some i) : rv = .t (.v (.int i)) := by
  unfold rvI at e
  split at e
  · cases e; rfl
  · cases e
def m_none {α : Type} : M α := fun _ => none
def m_chain (g g' : Int → Int → Bool) (ma mb mc : M Rv) : M Rv := ma.bind fun a => mb.bind fun b => match rvI a with
  | none => m_none
  | some i => match rvI b with
    | none => m_none
    | some j => if g i j = true then mc.bind fun c => match rvI c with
      | some k => m_c (.bl (g' j k))
      | none => m_none
      else m_c (.bl false)
theorem sim_chain {g g' : Int → Int → Bool} {ta tb tc : TE} (ha : Sim cl (RelRv cl) W ta ma) (hb : Sim cl (RelRv cl) W tb mb) (hc : Sim cl (RelRv cl) W tc mc) :
    Sim cl (RelRv cl) W (tChain (rI0 fun i j => .bl (g i j)) (rI0 fun i j => .bl (g' i j)) ta tb tc) (m_chain g g' ma mb mc) := fun F L A ρ σ H rr => by
  refine SimAt.bind (rel := RelRv cl) (t := ta σ) (u := fun x H1 Q => tb σ H1 fun y H2 => rI0 (fun i j => .bl (g i j)) x y H2 fun z H3 => ∃ k, z = .bl k ∧ (if k = true then tc σ H3 fun w' H4 => rI0 (fun i j => .bl (g' i j)) y w' H4 Q else Q (.bl false) H3)) stays_Rv (fun _ z => z) (ha F L A ρ σ H rr) fun F1 A1 ρ1 H1 a x C r1 x1 h1 _ => ?_
  refine SimAt.bind (rel := RelRv cl) (t := tb σ) (u := fun y H2 Q => rI0 (fun i j => .bl (g i j)) x y H2 fun z H3 => ∃ k, z = .bl k ∧ (if k = true then tc σ H3 fun w' H4 => rI0 (fun i j => .bl (g' i j)) y w' H4 Q else Q (.bl false) H3)) stays_Rv (fun _ z => z.elim) (hb F1 L A1 ρ1 σ H1 r1) fun F2 A2 ρ2 H2 b y D r2 x2 h2 _ => ?_
  have h1' := stays_Rv.st r1 x2 h1
  cases ea : rvI a with
  | none => exact SimAt.none
  | some i =>
  cases eb : rvI b with
  | none => exact SimAt.none
  | some j =>
    rw [rvI_t ea] at h1'
    rw [rvI_t eb] at h2
    have q1 := (relV_v h1').2
    have q2 := (relV_v h2).2
    cases q1
    cases q2
    simp only
    cases hg : g i j with
    | true =>
      rw [if_pos rfl]
      intro o ρ' em Q hQ
      refine ⟨i, j, rfl, rfl, true, congrArg V.bl hg, ?_⟩
      rw [if_pos rfl]
      refine (SimAt.bind (rel := RelRv cl) (rel' := RelRv cl) (t := tc σ) (u := fun w' H4 Q => rI0 (fun i j => .bl (g' i j)) (.int j) w' H4 Q) stays_Rv (fun _ z => z.elim) (hc F2 L A2 ρ2 σ H2 r2) fun F3 A3 ρ3 H3 c w E r3 x3 h3 _ => ?_ : SimAt cl (RelRv cl) W _ F2 L A2 σ H2 (fun H Q => tc σ H fun w' H4 => rI0 (fun i j => .bl (g' i j)) (.int j) w' H4 Q) _) o ρ' em Q hQ
      cases ec : rvI c with
      | none => exact SimAt.none
      | some k =>
        rw [rvI_t ec] at h3
        have q3 := (relV_v h3).2
        cases q3
        exact at_fv (z := .bl (g' j k)) r3 rfl fun Q q => ⟨j, k, rfl, rfl, q⟩
    | false =>
      rw [if_neg Bool.false_ne_true]
      exact at_fv (z := .bl false) r2 rfl fun Q q => ⟨i, j, rfl, rfl, false, congrArg V.bl hg, by rw [if_neg Bool.false_ne_true]; exact q⟩
theorem pm_chain {op op' : CmpOp} {g g' : Int → Int → Bool} (ho : ∀ i, OpR (Xf i) (compareOp op) (rI0 fun i j => .bl (g i j))) (ho' : ∀ i, OpR (Xf i) (compareOp op') (rI0 fun i j => .bl (g' i j))) (ha : PM Xf cl W a ma) (hb : PM Xf cl W b mb) (hc : PM Xf cl W c mc)
    (hm : lastMarks [op, op'] [b, c] = false := by with_unfolding_all rfl) : PM Xf cl W (.Compare a [op, op'] [b, c] pos) (m_chain g g' ma mb mc) := by
  obtain ⟨t, h1, h2⟩ := ha
  obtain ⟨u, g1, g2⟩ := hb
  obtain ⟨w, k1, k2⟩ := hc
  exact ⟨_, fun i => pe_chain (ho i) (ho' i) (h1 i) (g1 i) (k1 i) hm, sim_chain h2 g2 k2⟩
theorem pmt_chain {op op' : CmpOp} {g g' : Int → Int → Bool} (ho : ∀ i, OpR (Xf i) (compareOp op) (rI0 fun i j => .bl (g i j))) (ho' : ∀ i, OpR (Xf i) (compareOp op') (rI0 fun i j => .bl (g' i j))) (ha : PM Xf cl W a ma) (hb : PM Xf cl W b mb) (hc : PM Xf cl W c mc)
    (hm : lastMarks [op, op'] [b, c] = false := by with_unfolding_all rfl) : PMT Xf cl W (.Compare a [op, op'] [b, c] pos) (m_tst (m_chain g g' ma mb mc)) := by
  obtain ⟨t, h1, h2⟩ := ha
  obtain ⟨u, g1, g2⟩ := hb
  obtain ⟨w, k1, k2⟩ := hc
  exact ⟨_, fun i => pt_chain (ho i) (ho' i) (h1 i) (g1 i) (k1 i) hm, sim_tst (sim_chain h2 g2 k2)⟩
end
end W3

/-! C4: new objects, looks, items, slices. -/
namespace W3
open PySem PySem.Spec L2

/-! ### a new object -/
section
variable {cl : Str → Addr} {F : Addr → Prop} {L : LL} {H : Hp} {A : Nat → List Addr} {ρ : Sg} {σ : L2.St} {p : Addr} {o : HO}
theorem upd_kept (hp : H p = none) {a : Addr} {u : HO} (e : H a = some u) : upd H p o a = some u := by rw [upd_ne (ne_of_none e hp)]; exact e
theorem Ext.new {Z : Addr → Prop} (hp : H p = none) : Ext F (Own A) Z H F (Own A) (upd H p o) := ⟨fun _ h => h, fun _ h => .inl h, fun a u h _ _ => upd_kept hp h, fun a h => by
    by_cases e : a = p
    · rw [e, upd_same]; simp
    · rw [upd_ne e]; exact h, fun _ h => .inl h⟩
theorem R.ext {F' : Addr → Prop} {H' : Hp} (r : R cl F L A ρ σ H) (hF : ∀ a, F a → F' a) (hH : ∀ a u, H a = some u → H' a = some u) (hF' : ∀ a, F' a → ¬ Own A a ∧ H' a ≠ none) : R cl F' L A ρ σ H' where
  len := r.len
  sl := fun i s q => by
    obtain ⟨v, e1, z⟩ := r.sl i s q
    refine ⟨v, e1, ?_⟩
    cases s with
    | t t => exact RelT.keep hF (fun _ _ _ e => hH _ _ e) t v _ (fun _ _ _ e => hH _ _ e) z
    | io t => exact RelT.keep hF (fun _ _ _ e => hH _ _ e) t v _ (fun _ _ _ e => hH _ _ e) z
    | lent d => exact RelD.keep (fun a h => h.elim (fun h => .inl (hF a h)) .inr) (fun _ _ _ e => hH _ _ e) d v z
    | al _ _ => exact z
  nd := r.nd
  dj := r.dj
  ap := fun a o => by
    obtain ⟨h1, h2, h3⟩ := r.ap a o
    refine ⟨fun z => (hF' a z).1 o, h2, ?_⟩
    cases e : H a with
    | none => exact absurd e h3
    | some u => rw [hH a u e]; simp
  fd := fun a z => (hF' a z).2
  ld := fun a z => by
    cases e : H a with
    | none => exact absurd e (r.ld a z)
    | some u => rw [hH a u e]; simp
  pin := r.pin
theorem R.new (r : R cl F L A ρ σ H) (hp : H p = none) : R cl F L A ρ σ (upd H p o) := r.ext (fun _ h => h) (fun a u e => upd_kept hp e) fun a h => ⟨r.notF h, by
  cases e : H a with
  | none => exact absurd e (r.fd a h)
  | some u => rw [upd_kept hp e]; simp⟩
theorem R.noF (r : R cl F L A ρ σ H) (hp : H p = none) : ¬ F p ∧ ¬ L p ∧ ¬ Own A p := ⟨fun z => r.fd p z hp, fun z => r.ld p z hp, fun z => (r.ap p z).2.2 hp⟩
/-- a new list of kept items -/
theorem at_new {W : WX} {Z : Addr → Prop} {ts : List T} {vs : List V} {C : List Addr} {t : Hp → VK → Prop} (r : R cl F L A ρ σ H) (hr : RelTs cl F H ts vs C) (hn : C.Nodup) (hC : ∀ a ∈ C, ¬ F a ∧ ¬ L a ∧ ¬ Own A a) (hZ : ∀ a ∈ C, Z a)
    (h : ∀ Q : VK, (∀ p, H p = none → Q (.ref p) (upd H p (.lst vs))) → t H Q) : SimAt cl (RelRv cl) W Z F L A σ H t (some (.ok (.t (.lst ts)), ρ)) := by
  intro o ρ' e Q hQ
  cases e
  refine h Q fun p hp => ?_
  obtain ⟨n1, n2, n3⟩ := r.noF hp
  have dm := RelTs.dom ts vs C hr
  refine hQ F A _ (Ext.new hp) (r.new hp) (.ref p) (p :: C) ⟨.lst upd_same (RelTs.keep (fun _ h => h) (fun _ _ _ e => upd_kept hp e) ts vs C (fun _ _ _ e => upd_kept hp e) hr), List.nodup_cons.mpr ⟨fun m => dm p m hp, hn⟩, fun a m => ?_⟩ fun a m => ?_
  · rcases List.mem_cons.mp m with e | m
    · rw [e]; exact ⟨n1, n2, n3⟩
    · exact hC a m
  · rcases List.mem_cons.mp m with e | m
    · rw [e]; exact .inl hp
    · exact .inr (.inr (hZ a m))
theorem at_newT {W : WX} {Z : Addr → Prop} {ts : List T} {vs : List V} {C : List Addr} {t : Hp → VK → Prop} (r : R cl F L A ρ σ H) (hr : RelTs cl F H ts vs C) (hn : C.Nodup) (hC : ∀ a ∈ C, ¬ F a ∧ ¬ L a ∧ ¬ Own A a) (hZ : ∀ a ∈ C, Z a)
    (h : ∀ Q : VK, (∀ p, H p = none → Q (.ref p) (upd H p (.tup vs))) → t H Q) : SimAt cl (RelRv cl) W Z F L A σ H t (some (.ok (.t (.tup ts)), ρ)) := by
  intro o ρ' e Q hQ
  cases e
  refine h Q fun p hp => ?_
  obtain ⟨n1, n2, n3⟩ := r.noF hp
  have dm := RelTs.dom ts vs C hr
  refine hQ F A _ (Ext.new hp) (r.new hp) (.ref p) (p :: C) ⟨.tup upd_same (RelTs.keep (fun _ h => h) (fun _ _ _ e => upd_kept hp e) ts vs C (fun _ _ _ e => upd_kept hp e) hr), List.nodup_cons.mpr ⟨fun m => dm p m hp, hn⟩, fun a m => ?_⟩ fun a m => ?_
  · rcases List.mem_cons.mp m with e | m
    · rw [e]; exact ⟨n1, n2, n3⟩
    · exact hC a m
  · rcases List.mem_cons.mp m with e | m
    · rw [e]; exact .inl hp
    · exact .inr (.inr (hZ a m))
/-- .. of frozen items -/
theorem at_newD {W : WX} {Z : Addr → Prop} {ds : List D} {vs : List V} {t : Hp → VK → Prop} (r : R cl F L A ρ σ H) (hr : RelDs cl F H ds vs)
    (h : ∀ Q : VK, (∀ p, H p = none → Q (.ref p) (upd H p (.lst vs))) → t H Q) : SimAt cl (RelRv cl) W Z F L A σ H t (some (.ok (.t (.lst (ds.map T.v))), ρ)) :=
  at_new r (RelTs.of_ds hr) List.nodup_nil (fun a m => nomatch m) (fun a m => nomatch m) h
theorem rvT_t {rv : Rv} {t : T} (e : rvT rv = some t) : rv = .t t := by
  cases rv <;> simp [rvT] at e
  subst e; rfl
theorem rvTs_rel : ∀ {rs : List Rv} {vs : List V} {C : List Addr} {ts : List T}, RelRvs cl F L A σ H rs vs C → rvTs rs = some ts → RelTs cl F H ts vs C ∧ C.Nodup ∧ ∀ a ∈ C, ¬ F a ∧ ¬ L a ∧ ¬ Own A a
  | [], _, _, _, h, e => by
    cases h
    cases e
    exact ⟨.nil, List.nodup_nil, fun a m => nomatch m⟩
  | r :: rs, _, _, _, h, e => by
    cases h with
    | cons h1 h2 hn =>
      unfold rvTs at e
      split at e
      · rename_i t ts e1 e2
        cases e
        rw [rvT_t e1] at h1
        obtain ⟨a1, a2, a3⟩ := h1
        obtain ⟨b1, b2, b3⟩ := rvTs_rel h2 e2
        exact ⟨.cons a1 b1, List.nodup_append.mpr ⟨a2, b2, fun x hx y hy e => hn x hx (e ▸ hy)⟩, fun a m => (List.mem_append.mp m).elim (a3 a) (b3 a)⟩
      · cases e
theorem relDs_flat {G : Addr → Prop} : ∀ {ds : List D} {vs : List V}, RelDs cl G H ds vs → ds.all flat = true → RelDs cl F H ds vs
  | [], _, h, _ => by cases h; exact .nil
  | d :: ds, _, h, e => by
    cases h with
    | cons h1 h2 =>
      rw [List.all_cons, Bool.and_eq_true] at e
      obtain ⟨x, hx⟩ := fv_flat e.1
      rw [fv_eq hx h1]
      exact .cons (fv_rel hx) (relDs_flat h2 e.2)
theorem allV_rel : ∀ {ts : List T} {vs : List V} {C : List Addr} {ds : List D}, RelTs cl F H ts vs C → allV ts = some ds → RelDs cl F H ds vs
  | [], _, _, _, h, e => by
    cases h
    cases e
    exact .nil
  | t :: ts, _, _, _, h, e => by
    cases h with
    | cons h1 h2 =>
      cases t with
      | v d =>
        rw [allV] at e
        cases e2 : allV ts with
        | none => rw [e2] at e; cases e
        | some ds =>
          rw [e2] at e
          cases e
          exact .cons (relT_v h1).2 (allV_rel h2 e2)
      | _ => cases e
theorem allV_map (ds : List D) : allV (ds.map T.v) = some ds := by
  induction ds with
  | nil => rfl
  | cons d ds ih => rw [List.map_cons, allV, ih]; rfl
/-- the object behind items that may be kept -/
theorem itemsK_rel (r : R cl F L A ρ σ H) {rv : Rv} {v : V} {C : List Addr} {k : Bool} {ds : List D} (h : RelRv cl F L A σ H rv v C) (e : itemsK ρ rv = some (k, ds)) : ∃ a vs, v = .ref a ∧ (if k = true then Rd H a (.lst vs) else H a = some (.tup vs)) ∧ RelDs cl F H ds vs := by
  have own : ∀ {ts : List T} {B : List Addr}, RelT cl F H (.lst ts) v B → (allV ts).map (true, ·) = some (k, ds) → ∃ a vs, v = .ref a ∧ (if k = true then Rd H a (.lst vs) else H a = some (.tup vs)) ∧ RelDs cl F H ds vs := fun {ts B} s e => by
    cases s with
    | lst q1 q2 =>
      cases e1 : allV ts with
      | none => rw [e1] at e; cases e
      | some ds' =>
        rw [e1] at e
        cases e
        exact ⟨_, _, rfl, by rw [if_pos rfl]; exact .inl q1, allV_rel q2 e1⟩
  unfold itemsK at e
  split at e
  · cases e
    have q := (relV_v h).2
    cases q with
    | lst f q1 q2 => exact ⟨_, _, rfl, by rw [if_pos rfl]; exact q1, q2⟩
  · cases e
    have q := (relV_v h).2
    cases q with
    | tup f q1 q2 => exact ⟨_, _, rfl, by rw [if_neg Bool.false_ne_true]; exact q1, q2⟩
  · exact own h.1 e
  · split at e
    · cases e
      have q := h.2
      cases q with
      | lst f q1 q2 => exact ⟨_, _, rfl, by rw [if_pos rfl]; exact q1, relDs_flat q2 (by assumption)⟩
    · cases e
  · split at e
    · cases e
      have q := h.2
      cases q with
      | tup f q1 q2 => exact ⟨_, _, rfl, by rw [if_neg Bool.false_ne_true]; exact q1, relDs_flat q2 (by assumption)⟩
    · cases e
  · have h2 := h.2
    split at e
    · rename_i q
      obtain ⟨v', e', s⟩ := r.sl _ _ q
      rw [h2] at e'
      cases e'
      exact own s e
    · rename_i q
      obtain ⟨v', e', s⟩ := r.sl _ _ q
      rw [h2] at e'
      cases e'
      exact own s e
    · cases e
  · cases e
theorem items_rel (r : R cl F L A ρ σ H) {rv : Rv} {v : V} {C : List Addr} {ds : List D} (h : RelRv cl F L A σ H rv v C) (e : itemsR ρ rv = some ds) : ∃ a vs, v = .ref a ∧ (Rd H a (.lst vs) ∨ H a = some (.tup vs)) ∧ RelDs cl F H ds vs := by
  unfold itemsR at e
  cases e1 : itemsK ρ rv with
  | none => rw [e1] at e; cases e
  | some p =>
    obtain ⟨k, ds'⟩ := p
    rw [e1] at e
    cases e
    obtain ⟨a, vs, q1, q2, q3⟩ := itemsK_rel r h e1
    refine ⟨a, vs, q1, ?_, q3⟩
    cases k with
    | true => rw [if_pos rfl] at q2; exact .inl q2
    | false => rw [if_neg Bool.false_ne_true] at q2; exact .inr q2
theorem itemsL_rel (r : R cl F L A ρ σ H) {rv : Rv} {v : V} {C : List Addr} {ds : List D} (h : RelRv cl F L A σ H rv v C) (e : itemsL ρ rv = some ds) : ∃ a vs, v = .ref a ∧ Rd H a (.lst vs) ∧ RelDs cl F H ds vs := by
  unfold itemsL at e
  split at e
  · rename_i ds' e1
    cases e
    obtain ⟨a, vs, q1, q2, q3⟩ := itemsK_rel r h e1
    rw [if_pos rfl] at q2
    exact ⟨a, vs, q1, q2, q3⟩
  · cases e
theorem atI_rel {α β : Type} {xs : List α} {ys : List β} {i : Int} {x : α} (hl : xs.length = ys.length) (e : atI xs i = some x) : ∃ k : Nat, xs[k]? = some x ∧ ∀ y, ys[k]? = some y → atI ys i = some y := by
  unfold atI at e ⊢
  rw [← hl]
  cases q : ixN xs.length i with
  | none => rw [q] at e; cases e
  | some k =>
    rw [q] at e
    exact ⟨k, e, fun y hy => hy⟩
end
section
variable {ι : Type} {Xf : ι → Cx} {cl : Str → Addr} {W : WX} {a b c e : Expr} {es : List Expr} {ma mb mc m : M Rv} {ms : M (List Rv)} {pos : Pos}
theorem pm_lst (h : PMA Xf cl W es ms) : PM Xf cl W (.List es pos) (m_lst ms) := by
  obtain ⟨t, h1, h2⟩ := h
  refine ⟨tLst t, fun i => pe_lst (h1 i), ?_⟩
  refine sim_list (r := fun (xs : List V) (H1 : Hp) (Q : VK) => xs.length ≤ sizeLine ∧ ∀ p, H1 p = none → Q (.ref p) (upd H1 p (.lst xs))) h2 fun F L A ρ σ H a x C r h => ?_
  cases e1 : rvTs a with
  | none => exact SimAt.none
  | some ts =>
    rw [Option.bind_some]
    obtain ⟨k1, k2, k3⟩ := rvTs_rel h e1
    by_cases hl : ts.length ≤ line
    · rw [if_pos hl]
      exact at_new r k1 k2 k3 (fun a m => m) fun Q q => ⟨by rw [← k1.length, ← line_eq]; exact hl, q⟩
    · rw [if_neg hl]
      exact SimAt.none
theorem pm_tup {k} (h : PMA Xf cl W es ms) : PM Xf cl W (.Tuple es k pos) (m_tup ms) := by
  obtain ⟨t, h1, h2⟩ := h
  refine ⟨tTup t, fun i => pe_tup (h1 i), ?_⟩
  refine sim_list (r := fun (xs : List V) (H1 : Hp) (Q : VK) => xs.length ≤ sizeLine ∧ ∀ p, H1 p = none → Q (.ref p) (upd H1 p (.tup xs))) h2 fun F L A ρ σ H a x C r h => ?_
  cases e1 : rvTs a with
  | none => exact SimAt.none
  | some ts =>
    rw [Option.bind_some]
    obtain ⟨k1, k2, k3⟩ := rvTs_rel h e1
    by_cases hl : ts.length ≤ line
    · rw [if_pos hl]
      exact at_newT r k1 k2 k3 (fun a m => m) fun Q q => ⟨by rw [← k1.length, ← line_eq]; exact hl, q⟩
    · rw [if_neg hl]
      exact SimAt.none

/-! ### looks -/
def CbD (r : List V → Hp → VK → Prop) (f : List D → Option D) : Prop := ∀ (cl : Str → Addr) (ds : List D) (g : D) (H : Hp) (Q : VK) (vs : List V), f ds = some g → RelDs cl All H ds vs → ∃ z, fv g = some z ∧ (Q z H → r vs H Q)
theorem sim_look {r : List V → Hp → VK → Prop} {f : List D → Option D} {t : TA} (hc : CbD r f) (h : Sim cl (RelRvs cl) W t ms) : Sim cl (RelRv cl) W (tCB r t) (m_look f ms) := by
  refine sim_list (r := r) h fun F L A ρ σ H a x C rr h => ?_
  cases e1 : viewRs ρ a with
  | none =>
    simp only [Option.bind_none]
    exact SimAt.none
  | some ds =>
    simp only [Option.bind_some]
    cases e2 : f ds with
    | none => exact SimAt.none
    | some g =>
      intro o ρ' em Q hQ
      cases em
      obtain ⟨z, ez, hz⟩ := hc cl ds g H Q x e2 (views_rel rr h e1)
      exact hz (hQ F A H Ext.refl rr z [] (rel_fv ez) fun x m => nomatch m)
theorem pm_lookB {id : String} {x : Str} {p : Pos} {r : List V → Hp → VK → Prop} {f : List D → Option D} (hc : ∀ i, CallR (Xf i) (.builtin id) r) (hd : CbD r f) (hm : ∀ i, (Xf i).mg x = none) (ha : PMA Xf cl W (e :: es) ms) (hg : ∀ i, Gl (Xf i) x := by intro _; rfl)
    (hv : bootBuiltins x = some (.builtin id) := by decide +kernel) (hn : x ≠ "__name__" := by decide) (hdb : (x == ("__debug__" : Str)) = false := by decide)
    (he : ∀ i, starEach (e :: es) (Xf i).env = (false, eval e (Xf i).env) :: starEach es (Xf i).env := by intro _; rfl) (hpl : ∀ i, (backTo pos (starEach es (Xf i).env)).any (·.1) = false := by intro _; rfl) : PM Xf cl W (.Call (.Name x p) (e :: es) [] pos) (m_look f ms) := by
  obtain ⟨t, h1, h2⟩ := ha
  exact ⟨tCB r t, fun i => pe_callB (hc i) (hg i) (hm i) hv (h1 i) hn hdb (he i) (hpl i), sim_look hd h2⟩
theorem pm_lookT {ty : String} {x : Str} {p : Pos} {r : List V → Hp → VK → Prop} {f : List D → Option D} (hc : ∀ i, CallR (Xf i) (.type ty) r) (hd : CbD r f) (hm : ∀ i, (Xf i).mg x = none) (ha : PMA Xf cl W (e :: es) ms) (hg : ∀ i, Gl (Xf i) x := by intro _; rfl)
    (hv : bootBuiltins x = some (.type ty) := by decide +kernel) (hn : x ≠ "__name__" := by decide) (hdb : (x == ("__debug__" : Str)) = false := by decide)
    (he : ∀ i, starEach (e :: es) (Xf i).env = (false, eval e (Xf i).env) :: starEach es (Xf i).env := by intro _; rfl) (hpl : ∀ i, (backTo pos (starEach es (Xf i).env)).any (·.1) = false := by intro _; rfl) : PM Xf cl W (.Call (.Name x p) (e :: es) [] pos) (m_look f ms) := by
  obtain ⟨t, h1, h2⟩ := ha
  exact ⟨tCB r t, fun i => pe_callTy (hc i) (hg i) (hm i) hv (h1 i) hn hdb (he i) (hpl i), sim_look hd h2⟩
def fLen : List D → Option D
  | [.lst ds] => some (.int ds.length)
  | [.tup ds] => some (.int ds.length)
  | _ => none
theorem cb_len {K : PySem.W.Frag} : CbD (fun xs H Q => ∃ p ys, xs = [.ref p] ∧ (SqL K H p ys ∨ SqT K H p ys) ∧ Q (.int ys.length) H) fLen := fun cl ds g H Q vs e h => by
  unfold fLen at e
  split at e
  · cases e
    cases h with
    | cons h1 h2 =>
      cases h2
      cases h1 with
      | lst f q1 q2 => exact ⟨_, rfl, fun q => ⟨_, _, rfl, .inl (.inl q1), by rw [← q2.length]; exact q⟩⟩
  · cases e
    cases h with
    | cons h1 h2 =>
      cases h2
      cases h1 with
      | tup f q1 q2 => exact ⟨_, rfl, fun q => ⟨_, _, rfl, .inr (.inl (.inl q1)), by rw [← q2.length]; exact q⟩⟩
  · cases e
theorem rel_int1 {cl : Str → Addr} {F : Addr → Prop} {H : Hp} {i : Int} {vs : List V} (h : RelDs cl F H [.int i] vs) : vs = [.int i] := by
  cases h with
  | cons h1 h2 => cases h1; cases h2; rfl
theorem rel_int2 {cl : Str → Addr} {F : Addr → Prop} {H : Hp} {i j : Int} {vs : List V} (h : RelDs cl F H [.int i, .int j] vs) : vs = [.int i, .int j] := by
  cases h with
  | cons h1 h2 =>
    cases h1
    cases h2 with
    | cons h1 h2 => cases h1; cases h2; rfl
def fMax2 : List D → Option D
  | [.int i, .int j] => some (.int (if j > i then j else i))
  | _ => none
theorem cb_max2 : CbD (fun xs H Q => ∃ i j, xs = [.int i, .int j] ∧ Q (.int (if j > i then j else i)) H) fMax2 := fun cl ds g H Q vs e h => by
  unfold fMax2 at e
  split at e
  · cases e
    exact ⟨_, rfl, fun q => ⟨_, _, rel_int2 h, q⟩⟩
  · cases e
def fMin2 : List D → Option D
  | [.int i, .int j] => some (.int (if j < i then j else i))
  | _ => none
theorem cb_min2 : CbD (fun xs H Q => ∃ i j, xs = [.int i, .int j] ∧ Q (.int (if j < i then j else i)) H) fMin2 := fun cl ds g H Q vs e h => by
  unfold fMin2 at e
  split at e
  · cases e
    exact ⟨_, rfl, fun q => ⟨_, _, rel_int2 h, q⟩⟩
  · cases e
def fAbs : List D → Option D
  | [.int i] => some (.int (if i < 0 then -i else i))
  | _ => none
theorem cb_abs : CbD (fun xs H Q => ∃ i, xs = [.int i] ∧ Q (.int (if i < 0 then -i else i)) H) fAbs := fun cl ds g H Q vs e h => by
  unfold fAbs at e
  split at e
  · cases e
    exact ⟨_, rfl, fun q => ⟨_, rel_int1 h, q⟩⟩
  · cases e
def fInt : List D → Option D
  | [.int i] => some (.int i)
  | [.bl k] => some (.int (if k then 1 else 0))
  | _ => none
theorem cb_int : CbD (fun xs H Q => (∃ i, xs = [.int i] ∧ Q (.int i) H) ∨ ∃ k, xs = [.bl k] ∧ Q (.int (if k then 1 else 0)) H) fInt := fun cl ds g H Q vs e h => by
  unfold fInt at e
  split at e
  · cases e
    exact ⟨_, rfl, fun q => .inl ⟨_, rel_int1 h, q⟩⟩
  · cases e
    cases h with
    | cons h1 h2 =>
      cases h1
      cases h2
      exact ⟨_, rfl, fun q => .inr ⟨_, rfl, q⟩⟩
  · cases e
/-- isinstance with a built-in class -/
def tyD : D → Option String
  | .non => some "NoneType"
  | .bl _ => some "bool"
  | .int _ => some "int"
  | .str _ => some "str"
  | .lst _ => some "list"
  | .tup _ => some "tuple"
  | _ => none
def fIsi : List D → Option D
  | [d, .ty n] => (tyD d).bind fun t => (kitB t n).map D.bl
  | _ => none
theorem tyD_rel {K : PySem.W.Frag} {cl : Str → Addr} {F : Addr → Prop} {H : Hp} {d : D} {v : V} {t : String} (h : RelD cl F H d v) (e : tyD d = some t) : TyX K H v (.type t) := by
  cases h <;> simp [tyD] at e <;> subst e
  · exact .base .non
  · exact .base (.bl _)
  · exact .base (.int _)
  · exact .base (.str _)
  · rename_i q1 _
    rcases q1 with q1 | ⟨o, q1⟩
    · exact .base (.lst q1)
    · exact .base (.frz q1)
  · rename_i q1 _
    exact .base (.tup q1)
theorem cb_isi {K : PySem.W.Frag} : CbD (rIsi K) fIsi := fun cl ds g H Q vs e h => by
  unfold fIsi at e
  split at e
  · rename_i d n
    cases e1 : tyD d with
    | none => rw [e1] at e; cases e
    | some t =>
      rw [e1, Option.bind_some] at e
      cases e2 : kitB t n with
      | none => rw [e2] at e; cases e
      | some b =>
        rw [e2] at e
        cases e
        cases h with
        | cons h1 h2 =>
          cases h2 with
          | cons h2 h3 =>
            cases h2
            cases h3
            exact ⟨_, rfl, fun q => ⟨_, _, _, _, b, rfl, .ty n, tyD_rel h1 e1, kit_ty e2, q⟩⟩
  · cases e
/-! ### == -/
mutual
def toPy : D → Option PyData
  | .non => some .none
  | .bl b => some (.bool b)
  | .int i => some (.int i)
  | .str x => some (.str x)
  | .lst ds => (toPys ds).map .list
  | .tup ds => (toPys ds).map .tuple
  | _ => none
def toPys : List D → Option (List PyData)
  | [] => some []
  | d :: ds => match toPy d, toPys ds with
    | some p, some ps => some (p :: ps)
    | _, _ => none
end
mutual
theorem toPy_rel {K : PySem.W.Frag} {cl : Str → Addr} {F : Addr → Prop} {H : Hp} : ∀ (d : D) (v : V) (p : PyData), RelD cl F H d v → toPy d = some p → Dp K H v p
  | .non, _, _, h, e => by cases h; rw [toPy] at e; cases e; exact .non
  | .bl _, _, _, h, e => by cases h; rw [toPy] at e; cases e; exact .bl _
  | .int _, _, _, h, e => by cases h; rw [toPy] at e; cases e; exact .int _
  | .str _, _, _, h, e => by cases h; rw [toPy] at e; cases e; exact .str _
  | .ty _, _, _, h, e => by simp [toPy] at e
  | .cls _, _, _, h, e => by simp [toPy] at e
  | .obj _ _, _, _, h, e => by simp [toPy] at e
  | .dic _, _, _, h, e => by cases h
  | .lst ds, _, _, h, e => by
    rw [toPy] at e
    cases e1 : toPys ds with
    | none => rw [e1] at e; cases e
    | some ps =>
      rw [e1] at e
      cases e
      cases h with
      | lst f q1 q2 => exact .lst (.inl q1) (toPys_rel ds _ ps q2 e1)
  | .tup ds, _, _, h, e => by
    rw [toPy] at e
    cases e1 : toPys ds with
    | none => rw [e1] at e; cases e
    | some ps =>
      rw [e1] at e
      cases e
      cases h with
      | tup f q1 q2 => exact .tup (.inl (.inl q1)) (toPys_rel ds _ ps q2 e1)
theorem toPys_rel {K : PySem.W.Frag} {cl : Str → Addr} {F : Addr → Prop} {H : Hp} : ∀ (ds : List D) (vs : List V) (ps : List PyData), RelDs cl F H ds vs → toPys ds = some ps → DpAll K H vs ps
  | [], _, _, h, e => by cases h; rw [toPys] at e; cases e; exact .nil
  | d :: ds, _, _, h, e => by
    cases h with
    | cons h1 h2 =>
      rw [toPys] at e
      split at e
      · rename_i p ps e1 e2
        cases e
        exact .cons (toPy_rel d _ p h1 e1) (toPys_rel ds _ ps h2 e2)
      · cases e
end
def pyEq (d e : D) : Option Bool := match toPy d, toPy e with
  | some p, some q => if (SeqAt.shaped p && SeqAt.shaped q) = true then some (PyData.eqv p q) else none
  | _, _ => none
def fEq (d e : D) : Option D := (pyEq d e).map .bl
def fNe (d e : D) : Option D := (pyEq d e).map fun b => .bl (!b)
theorem sim_look2 {r : R2} {f : D → D → Option D} {ta tb : TE} (ho : ∀ (cl : Str → Addr) (d e g : D) (H : Hp) (Q : VK) (x y : V), f d e = some g → RelD cl All H d x → RelD cl All H e y → ∃ z, fv g = some z ∧ (Q z H → r x y H Q))
    (ha : Sim cl (RelRv cl) W ta ma) (hb : Sim cl (RelRv cl) W tb mb) : Sim cl (RelRv cl) W (tOp r ta tb) (m_look2 f ma mb) := by
  refine sim_two (r := r) ha hb fun F L A ρ σ H a b x y C D rr h1 h2 => ?_
  intro o ρ' em Q hQ
  cases e1 : viewR ρ a with
  | none => rw [e1] at em; cases em
  | some d =>
    cases e2 : viewR ρ b with
    | none => rw [e1, e2] at em; cases em
    | some e =>
      rw [e1, e2] at em
      simp only [Option.bind_some] at em
      cases e3 : f d e with
      | none => rw [e3] at em; cases em
      | some g =>
        rw [e3] at em
        cases em
        obtain ⟨z, ez, hz⟩ := ho cl d e g H Q x y e3 (view_rel rr h1 e1) (view_rel rr h2 e2)
        exact hz (hQ F A H Ext.refl rr z [] (rel_fv ez) fun x m => nomatch m)
theorem look_eq {K : PySem.W.Frag} (cl : Str → Addr) (d e g : D) (H : Hp) (Q : VK) (x y : V) (h : fEq d e = some g) (h1 : RelD cl All H d x) (h2 : RelD cl All H e y) : ∃ z, fv g = some z ∧ (Q z H → rEqD K x y H Q) := by
  unfold fEq pyEq at h
  split at h
  · rename_i p q e1 e2
    split at h
    · rename_i hs
      rw [Bool.and_eq_true] at hs
      cases h
      exact ⟨_, rfl, fun qq => ⟨p, q, toPy_rel d x p h1 e1, toPy_rel e y q h2 e2, hs.1, hs.2, qq⟩⟩
    · cases h
  · cases h
theorem look_ne {K : PySem.W.Frag} (cl : Str → Addr) (d e g : D) (H : Hp) (Q : VK) (x y : V) (h : fNe d e = some g) (h1 : RelD cl All H d x) (h2 : RelD cl All H e y) : ∃ z, fv g = some z ∧ (Q z H → rNeD K x y H Q) := by
  unfold fNe pyEq at h
  split at h
  · rename_i p q e1 e2
    split at h
    · rename_i hs
      rw [Bool.and_eq_true] at hs
      cases h
      exact ⟨_, rfl, fun qq => ⟨p, q, toPy_rel d x p h1 e1, toPy_rel e y q h2 e2, hs.1, hs.2, qq⟩⟩
    · cases h
  · cases h
theorem pm_eq {K : PySem.W.Frag} (hK : ∀ i, (Xf i).K = K) (hu : ∀ i, (Xf i).A.units + 64 < cLine) (ha : PM Xf cl W a ma) (hb : PM Xf cl W b mb) : PM Xf cl W (.Compare a [.Eq] [b] pos) (m_look2 fEq ma mb) := by
  obtain ⟨t, h1, h2⟩ := ha
  obtain ⟨u, g1, g2⟩ := hb
  exact ⟨tOp (rEqD K) t u, fun i => pe_cmpR (by rw [← hK i]; exact op_eqD (hu i)) (h1 i) (g1 i) (nomark _), sim_look2 look_eq h2 g2⟩
theorem pmt_eq {K : PySem.W.Frag} (hK : ∀ i, (Xf i).K = K) (hu : ∀ i, (Xf i).A.units + 64 < cLine) (ha : PM Xf cl W a ma) (hb : PM Xf cl W b mb) : PMT Xf cl W (.Compare a [.Eq] [b] pos) (m_tst (m_look2 fEq ma mb)) := by
  obtain ⟨t, h1, h2⟩ := ha
  obtain ⟨u, g1, g2⟩ := hb
  exact ⟨tTest (tOp (rEqD K) t u), fun i => pt_cmpR (by rw [← hK i]; exact op_eqD (hu i)) (h1 i) (g1 i) (nomark _), sim_tst (sim_look2 look_eq h2 g2)⟩
theorem pm_ne {K : PySem.W.Frag} (hK : ∀ i, (Xf i).K = K) (hu : ∀ i, (Xf i).A.units + 64 < cLine) (ha : PM Xf cl W a ma) (hb : PM Xf cl W b mb) : PM Xf cl W (.Compare a [.NotEq] [b] pos) (m_look2 fNe ma mb) := by
  obtain ⟨t, h1, h2⟩ := ha
  obtain ⟨u, g1, g2⟩ := hb
  exact ⟨tOp (rNeD K) t u, fun i => pe_cmpR (by rw [← hK i]; exact op_neD (hu i)) (h1 i) (g1 i) (nomark _), sim_look2 look_ne h2 g2⟩
theorem pmt_ne {K : PySem.W.Frag} (hK : ∀ i, (Xf i).K = K) (hu : ∀ i, (Xf i).A.units + 64 < cLine) (ha : PM Xf cl W a ma) (hb : PM Xf cl W b mb) : PMT Xf cl W (.Compare a [.NotEq] [b] pos) (m_tst (m_look2 fNe ma mb)) := by
  obtain ⟨t, h1, h2⟩ := ha
  obtain ⟨u, g1, g2⟩ := hb
  exact ⟨tTest (tOp (rNeD K) t u), fun i => pt_cmpR (by rw [← hK i]; exact op_neD (hu i)) (h1 i) (g1 i) (nomark _), sim_tst (sim_look2 look_ne h2 g2)⟩
end
end W3

/-! C5: items, slices, list(..), +, *, in, is None. -/
namespace W3
open PySem PySem.Spec L2

section
variable {ι : Type} {Xf : ι → Cx} {cl : Str → Addr} {W : WX} {a b c e : Expr} {es : List Expr} {ma mb mc m : M Rv} {ms : M (List Rv)} {pos p2 : Pos}
theorem RelDs.at {F : Addr → Prop} {H : Hp} {ds : List D} {vs : List V} {i : Int} {d : D} (h : RelDs cl F H ds vs) (e : atI ds i = some d) : ∃ v, atI vs i = some v ∧ RelD cl F H d v := by
  obtain ⟨k, e1, e2⟩ := atI_rel h.length e
  obtain ⟨v, e3, r⟩ := h.get e1
  exact ⟨v, e2 v e3, r⟩
theorem RelTs.at {F : Addr → Prop} {H : Hp} {ds : List T} {vs : List V} {A : List Addr} {i : Int} {d : T} (h : RelTs cl F H ds vs A) (e : atI ds i = some d) : ∃ v B, atI vs i = some v ∧ RelT cl F H d v B ∧ ∀ b ∈ B, b ∈ A := by
  obtain ⟨k, e1, e2⟩ := atI_rel h.length e
  obtain ⟨v, B, e3, r, m⟩ := h.get e1
  exact ⟨v, B, e2 v e3, r, m⟩
/-- what x[i] reads -/
theorem ix_rel {K : PySem.W.Frag} {F : Addr → Prop} {L : LL} {A : Nat → List Addr} {ρ : Sg} {σ : L2.St} {H : Hp} (r : R cl F L A ρ σ H) {rv rw : Rv} {i : Int} {x : V} {C : List Addr} (h : RelRv cl F L A σ H rv x C) (e : ixR ρ rv i = some rw) :
    ∃ y, RelRv cl F L A σ H rw y [] ∧ ∀ Q : VK, Q y H → rIx K x (.int i) H Q := by
  have lst : ∀ {a : Addr} {vs : List V} {y : V}, Rd H a (.lst vs) → atI vs i = some y → x = .ref a → ∀ Q : VK, Q y H → rIx K x (.int i) H Q := fun q e1 e2 Q hq => .inl ⟨_, _, i, _, e2, rfl, .inl q, e1, hq⟩
  have tup : ∀ {a : Addr} {vs : List V} {y : V}, H a = some (.tup vs) → atI vs i = some y → x = .ref a → ∀ Q : VK, Q y H → rIx K x (.int i) H Q := fun q e1 e2 Q hq => .inr (.inl ⟨_, _, i, _, e2, rfl, .inl (.inl q), e1, hq⟩)
  have own : ∀ {ts : List T} {B : List Addr}, RelT cl F H (.lst ts) x B → (atI ts i).bind (fun t => match t with | .v d => some (Rv.t (.v d)) | _ => none) = some rw → ∃ y, RelRv cl F L A σ H rw y [] ∧ ∀ Q : VK, Q y H → rIx K x (.int i) H Q := fun {ts B} s e => by
    cases s with
    | lst q1 q2 =>
      cases e1 : atI ts i with
      | none => rw [e1] at e; cases e
      | some t =>
        rw [e1, Option.bind_some] at e
        obtain ⟨y, B, e2, q3, _⟩ := q2.at e1
        cases t with
        | v d =>
          cases e
          exact ⟨y, rel_v (relT_v q3).2, lst (.inl q1) e2 rfl⟩
        | _ => cases e
  unfold ixR at e
  split at e
  · rename_i ds
    cases e1 : atI ds i with
    | none => rw [e1] at e; cases e
    | some d =>
      rw [e1] at e
      cases e
      have q := (relV_v h).2
      cases q with
      | lst f q1 q2 =>
        obtain ⟨y, e2, q3⟩ := q2.at e1
        exact ⟨y, rel_v q3, lst q1 e2 rfl⟩
  · rename_i ds
    cases e1 : atI ds i with
    | none => rw [e1] at e; cases e
    | some d =>
      rw [e1] at e
      cases e
      have q := (relV_v h).2
      cases q with
      | tup f q1 q2 =>
        obtain ⟨y, e2, q3⟩ := q2.at e1
        exact ⟨y, rel_v q3, tup q1 e2 rfl⟩
  · rename_i ds
    cases e1 : atI ds i with
    | none => rw [e1] at e; cases e
    | some d =>
      rw [e1] at e
      cases e
      have q := h.2
      cases q with
      | lst f q1 q2 =>
        obtain ⟨y, e2, q3⟩ := q2.at e1
        exact ⟨y, lv_rel q3, lst q1 e2 rfl⟩
  · rename_i ds
    cases e1 : atI ds i with
    | none => rw [e1] at e; cases e
    | some d =>
      rw [e1] at e
      cases e
      have q := h.2
      cases q with
      | tup f q1 q2 =>
        obtain ⟨y, e2, q3⟩ := q2.at e1
        exact ⟨y, lv_rel q3, tup q1 e2 rfl⟩
  · rename_i j
    have h2 := h.2
    split at e
    · rename_i q
      obtain ⟨v', e', s⟩ := r.sl _ _ q
      rw [h2] at e'
      cases e'
      exact own s e
    · rename_i q
      obtain ⟨v', e', s⟩ := r.sl _ _ q
      rw [h2] at e'
      cases e'
      exact own s e
    · cases e
  · cases e
theorem pm_ix (ha : PM Xf cl W a ma) (hb : PM Xf cl W b mb) {K : PySem.W.Frag} (hK : ∀ i, (Xf i).K = K) (hs : PlainIx b := by exact fun _ _ => rfl) : PM Xf cl W (.Subscript a b pos) (m_ix ma mb) := by
  obtain ⟨t, h1, h2⟩ := ha
  obtain ⟨u, g1, g2⟩ := hb
  refine ⟨tOp (rIx K) t u, fun i => pe_ix (by rw [← hK i]; exact ix_seq) (h1 i) (g1 i) hs, ?_⟩
  refine sim_two (r := rIx K) h2 g2 fun F L A ρ σ H a b x y C D rr h1 h2 => ?_
  intro o ρ' em Q hQ
  split at em
  · rename_i i
    have q := (relV_v h2).2
    cases q
    cases e1 : ixR ρ a i with
    | none => rw [e1] at em; cases em
    | some rw =>
      rw [e1] at em
      cases em
      obtain ⟨y, k1, k2⟩ := ix_rel (K := K) rr h1 e1
      exact k2 Q (hQ F A H Ext.refl rr y [] k1 fun x m => nomatch m)
  · cases em

/-! ### slices -/
def PMO (Xf : ι → Cx) (cl : Str → Addr) (W : WX) (e : Option Expr) (m : M (Option Int)) : Prop := ∃ t : TO, (∀ i, PO (Xf i) e t) ∧ Sim cl (α := Option Int) (β := Option Int) (fun _ _ _ _ _ a b C => a = b ∧ C = []) W t m
def m_no : M (Option Int) := M.ret none
def m_some (m : M Rv) : M (Option Int) := m.bind fun r => M.opt ((rvI r).map some)
theorem stays_O : Stays cl (α := Option Int) (β := Option Int) (fun _ _ _ _ _ a b C => a = b ∧ C = []) := ⟨fun _ _ h => h⟩
theorem pmo_none : PMO Xf cl W none m_no := ⟨tNoPart, fun _ => po_none, fun F L A ρ σ H r => SimAt.ret r fun Q h => h none [] ⟨rfl, rfl⟩ fun x m => nomatch m⟩
theorem pmo_some (h : PM Xf cl W e m) : PMO Xf cl W (some e) (m_some m) := by
  obtain ⟨t, h1, h2⟩ := h
  refine ⟨tPart t, fun i => po_some (h1 i), ?_⟩
  refine sim_one (β := Option Int) (r := fun (x : V) (H1 : Hp) (Q : Option Int → Hp → Prop) => ∃ i, x = .int i ∧ Q (some i) H1) h2 fun F L A ρ σ H a x C r h => ?_
  cases e1 : rvI a with
  | none => exact SimAt.none
  | some i =>
    rw [rvI_t e1] at h
    have q := (relV_v h).2
    cases q
    exact SimAt.ret r fun Q hq => ⟨i, rfl, hq _ [] ⟨rfl, rfl⟩ fun x m => nomatch m⟩
/-- xs[a:b] as data -/
def cutD (ds : List D) (lo hi : Option Int) : List D := (ds.drop (HT.sIx ds.length 0 lo)).take (HT.sIx ds.length ds.length hi - HT.sIx ds.length 0 lo)
theorem RelDs.drop {F : Addr → Prop} {H : Hp} : ∀ {ds : List D} {vs : List V} (n : Nat), RelDs cl F H ds vs → RelDs cl F H (ds.drop n) (vs.drop n)
  | _, _, 0, h => h
  | [], _, _ + 1, h => by cases h; exact .nil
  | _ :: _, _, n + 1, h => by
    cases h with
    | cons _ h2 => exact RelDs.drop n h2
theorem RelDs.take {F : Addr → Prop} {H : Hp} : ∀ {ds : List D} {vs : List V} (n : Nat), RelDs cl F H ds vs → RelDs cl F H (ds.take n) (vs.take n)
  | _, _, 0, h => by simp; exact .nil
  | [], _, _ + 1, h => by cases h; exact .nil
  | _ :: _, _, n + 1, h => by
    cases h with
    | cons h1 h2 => exact .cons h1 (RelDs.take n h2)
theorem RelDs.cut {F : Addr → Prop} {H : Hp} {ds : List D} {vs : List V} (lo hi : Option Int) (h : RelDs cl F H ds vs) : RelDs cl F H (cutD ds lo hi) (cutV vs lo hi) := by
  unfold cutD cutV
  rw [← h.length]
  exact (h.drop _).take _
def m_sl (ma : M Rv) (ml mh : M (Option Int)) : M Rv := ma.bind fun a => ml.bind fun lo => mh.bind fun hi => fun ρ => match itemsL ρ a with
  | some ds => some (.ok (.t (.lst ((cutD ds lo hi).map T.v))), ρ)
  | none => none
theorem pm_sl {lo hi : Option Expr} {ml mh : M (Option Int)} (ha : PM Xf cl W a ma) (hl : PMO Xf cl W lo ml) (hh : PMO Xf cl W hi mh) {K : PySem.W.Frag} (hK : ∀ i, (Xf i).K = K) : PM Xf cl W (.Subscript a (.Slice lo hi none p2) pos) (m_sl ma ml mh) := by
  obtain ⟨t, h1, h2⟩ := ha
  obtain ⟨u, g1, g2⟩ := hl
  obtain ⟨w, k1, k2⟩ := hh
  refine ⟨tSl (rSlL K) t u w, fun i => pe_slice (by rw [← hK i]; exact sl_list) (h1 i) (g1 i) (k1 i), fun F L A ρ σ H rr => ?_⟩
  refine SimAt.bind (rel := RelRv cl) (t := t σ) (u := fun x H1 Q => u σ H1 fun l H2 => w σ H2 fun h H3 => rSlL K x l h H3 Q) stays_Rv (fun _ z => z) (h2 F L A ρ σ H rr) fun F1 A1 ρ1 H1 a x C r1 x1 h1 _ => ?_
  refine SimAt.bind (rel := fun _ _ _ _ _ a b C => a = b ∧ C = []) (t := u σ) (u := fun l H2 Q => w σ H2 fun h H3 => rSlL K x l h H3 Q) stays_O (fun _ z => z.elim) (g2 F1 L A1 ρ1 σ H1 r1) fun F2 A2 ρ2 H2 b y D r2 x2 h2 _ => ?_
  refine SimAt.bind (rel := fun _ _ _ _ _ a b C => a = b ∧ C = []) (t := w σ) (u := fun h H3 Q => rSlL K x y h H3 Q) stays_O (fun _ z => z.elim) (k2 F2 L A2 ρ2 σ H2 r2) fun F3 A3 ρ3 H3 c z E r3 x3 h3 _ => ?_
  obtain ⟨e1, _⟩ := h2
  obtain ⟨e2, _⟩ := h3
  subst e1 e2
  have h1' := stays_Rv.st r2 x3 (stays_Rv.st r1 x2 h1)
  cases e3 : itemsL ρ3 a with
  | none => exact SimAt.none
  | some ds =>
    obtain ⟨p, vs, q1, q2, q3⟩ := itemsL_rel r3 h1' e3
    exact at_newD r3 (q3.cut b c) fun Q hq => ⟨p, vs, q1, .inl q2, hq⟩

/-! ### list(x) -/
def m_listof (ms : M (List Rv)) : M Rv := ms.bind fun rs => fun ρ => match rs with
  | [r] => (itemsR ρ r).map fun ds => (.ok (.t (.lst (ds.map T.v))), ρ)
  | _ => none
theorem relRvs1 {F : Addr → Prop} {L : LL} {A : Nat → List Addr} {σ : L2.St} {H : Hp} {r : Rv} {vs : List V} {C : List Addr} (h : RelRvs cl F L A σ H [r] vs C) : ∃ v, vs = [v] ∧ RelRv cl F L A σ H r v C := by
  cases h with
  | cons h1 h2 hn =>
    cases h2
    exact ⟨_, rfl, by rw [List.append_nil]; exact h1⟩
theorem pm_listof {K : PySem.W.Frag} {p : Pos} (hK : ∀ i, (Xf i).K = K) (hm : ∀ i, (Xf i).mg "list" = none) (ha : PMA Xf cl W (e :: es) ms) (hg : ∀ i, Gl (Xf i) "list" := by intro _; rfl)
    (he : ∀ i, starEach (e :: es) (Xf i).env = (false, eval e (Xf i).env) :: starEach es (Xf i).env := by intro _; rfl) (hpl : ∀ i, (backTo pos (starEach es (Xf i).env)).any (·.1) = false := by intro _; rfl) : PM Xf cl W (.Call (.Name "list" p) (e :: es) [] pos) (m_listof ms) := by
  obtain ⟨t, h1, h2⟩ := ha
  refine ⟨tCB (fun xs H Q => ∃ p ys, xs = [.ref p] ∧ (SqL K H p ys ∨ SqT K H p ys) ∧ ∀ l, H l = none → Q (.ref l) (upd H l (.lst ys))) t, fun i => pe_callTy (by rw [← hK i]; exact call_list_of) (hg i) (hm i) (by decide +kernel) (h1 i) (by decide) (by decide) (he i) (hpl i), ?_⟩
  refine sim_list (r := fun (xs : List V) (H : Hp) (Q : VK) => ∃ p ys, xs = [.ref p] ∧ (SqL K H p ys ∨ SqT K H p ys) ∧ ∀ l, H l = none → Q (.ref l) (upd H l (.lst ys))) h2 fun F L A ρ σ H a x C r h => ?_
  match a, h with
  | [], _ => exact SimAt.none
  | [a], h =>
    obtain ⟨v, e1, hh⟩ := relRvs1 h
    subst e1
    show SimAt _ _ _ _ _ _ _ _ _ _ ((itemsR ρ a).map fun ds => (Out.ok (Rv.t (.lst (ds.map T.v))), ρ))
    cases e2 : itemsR ρ a with
    | none => exact SimAt.none
    | some ds =>
      obtain ⟨p, vs, q1, q2, q3⟩ := items_rel r hh e2
      subst q1
      refine at_newD r q3 fun Q hq => ⟨p, vs, rfl, ?_, hq⟩
      rcases q2 with q2 | q2
      · exact .inl (.inl q2)
      · exact .inr (.inl (.inl q2))
  | _ :: _ :: _, _ => exact SimAt.none

/-! ### xs + ys, xs * k -/
theorem lstR {X : Cx} {pins : List (Addr × Obj)} {σ : L2.St} {H : Hp} {s : Shared} {l : Addr} {xs : List V} (I : Inv X pins σ H s) (h : Rd H l (.lst xs)) : xs.length ≤ sizeLine ∧ ∃ (its : List Value) (n : Nat), Vals xs its ∧ xs.length = its.length ∧ s.heap.get? l = some { cls := .type "list", data := .seq its.toArray n } := by
  have q : ObjOk X.prog X.w H s.heap l (.lst xs) := h.ok I.hok
  obtain ⟨z, its, n, r, e⟩ := q
  exact ⟨z, its, n, r, r.length, e⟩
def rCatQ : R2 := fun x y H Q => ∃ l b xs zs, x = .ref l ∧ y = .ref b ∧ Rd H l (.lst xs) ∧ Rd H b (.lst zs) ∧ xs.length + zs.length ≤ sizeLine ∧ ∀ p, H p = none → Q (.ref p) (upd H p (.lst (xs ++ zs)))
theorem op_catQ {X : Cx} : OpR X (binaryOp .Add) rCatQ := by
  intro pins s σ H x y v u Q I rx ry h
  obtain ⟨l, b, xs, zs, rfl, rfl, hH, hB, hz, q⟩ := h
  cases rx
  cases ry
  obtain ⟨z, its, n, r, hl, e⟩ := lstR I hH
  obtain ⟨z2, its2, n2, r2, hl2, e2⟩ := lstR I hB
  refine PySem.P.add_list e e2 ?_ (by rw [List.size_toArray, List.size_toArray]; omega)
  have ea : its.toArray ++ its2.toArray = (its ++ its2).toArray := by simp
  rw [ea]
  exact ⟨.ref _, _, I.lnew (t' := s.toks) (r.append r2) (by rw [List.length_append]; omega), rfl, q _ I.fresh⟩
def m_cat (ma mb : M Rv) : M Rv := ma.bind fun a => mb.bind fun b => fun ρ => match itemsL ρ a, itemsL ρ b with
  | some ds, some es => if ds.length + es.length ≤ line then some (.ok (.t (.lst ((ds ++ es).map T.v))), ρ) else none
  | _, _ => none
theorem pm_cat (ha : PM Xf cl W a ma) (hb : PM Xf cl W b mb) : PM Xf cl W (.BinOp a .Add b pos) (m_cat ma mb) := by
  obtain ⟨t, h1, h2⟩ := ha
  obtain ⟨u, g1, g2⟩ := hb
  refine ⟨tOp rCatQ t u, fun i => pe_op op_catQ (h1 i) (g1 i), ?_⟩
  refine sim_two (r := rCatQ) h2 g2 fun F L A ρ σ H a b x y C D rr h1 h2 => ?_
  cases e1 : itemsL ρ a with
  | none => exact SimAt.none
  | some ds =>
    cases e2 : itemsL ρ b with
    | none => exact SimAt.none
    | some es =>
      simp only
      by_cases hl : ds.length + es.length ≤ line
      · rw [if_pos hl]
        obtain ⟨p, vs, q1, q2, q3⟩ := itemsL_rel rr h1 e1
        obtain ⟨p', vs', q1', q2', q3'⟩ := itemsL_rel rr h2 e2
        exact at_newD rr (q3.append q3') fun Q hq => ⟨p, p', vs, vs', q1, q1', q2, q2', by rw [← q3.length, ← q3'.length, ← line_eq]; exact hl, hq⟩
      · rw [if_neg hl]
        exact SimAt.none
def rRepQ : R2 := fun x y H Q => ∃ l k xs, x = .ref l ∧ y = .int k ∧ Rd H l (.lst xs) ∧ -(2 ^ 63) ≤ k ∧ k < 2 ^ 63 ∧ xs.length * k.toNat ≤ sizeLine ∧
  ∀ p, H p = none → Q (.ref p) (upd H p (.lst (List.replicate k.toNat xs).flatten))
theorem op_repQ {X : Cx} : OpR X (binaryOp .Mult) rRepQ := by
  intro pins s σ H x y v u Q I rx ry h
  obtain ⟨l, k, xs, rfl, rfl, hH, h1, h2, hz, q⟩ := h
  cases rx
  obtain ⟨t, rfl⟩ := ry
  obtain ⟨z, its, n, r, hl, e⟩ := lstR I hH
  have hlen : its.toArray.size * k.toNat ≤ sizeLine := by rw [List.size_toArray, ← hl]; exact hz
  have hcap : ¬ its.toArray.size * k.toNat > (2 ^ 63 - 1) / 8 := by
    have : (sizeLine : Nat) ≤ (2 ^ 63 - 1) / 8 := by decide
    omega
  have hfit : ¬ (!Builtin.List.listFitsIndex k) = true := by
    rw [fitsIndex_both h1 h2]
    exact Bool.false_ne_true
  have hlong : ¬ Builtin.List.listTooLong (its.toArray.size * k.toNat) = true := by
    rw [notLongL hlen]
    exact Bool.false_ne_true
  have hnew : List.foldl (fun x1 x2 => x1 ++ x2) #[] (List.replicate (if its.toArray.isEmpty = true then 0 else k.toNat) its.toArray) = (List.replicate k.toNat its).flatten.toArray := by
    have f0 : ∀ m : Nat, List.foldl (fun x1 x2 => x1 ++ x2) #[] (List.replicate m its.toArray) = (List.replicate m its).flatten.toArray := fun m => by
      have := foldl_rep its m []
      rw [List.nil_append] at this
      exact this
    rw [f0]
    cases its with
    | nil => simp
    | cons a r' => rw [if_neg (by simp)]
  refine wpAny_binaryOp_repeat_ref (T := "list") (U := "int") (by decide) ⟨_, e, rfl⟩ (fun s' => typeIs_int s' k t) noFill_list_mul F.fills_int_mul F.slot_int_rmul repeat_list F.slot_int_index.lookup
    (call_meets F.slot_int_rmul (typeIs_int s k t) F.entry_int_rmul (F.args_int_rmul_2 _ _) (int___rmul___int_list k t l its.toArray n)
      ⟨e, rfl, ⟨_, e, rfl⟩, call_meets F.slot_list_mul ⟨_, e, rfl⟩ F.entry_list_mul (F.args_list_mul_2 _ _) (AutoListH.list___mul___list_int_3 l its.toArray n k t hfit hcap hlong) ⟨e, ?_⟩⟩)
  rw [hnew]
  exact ⟨.ref _, _, I.lnew (t' := s.toks) (r.rep k.toNat) (by rw [PyProof.Rows.lm_len_rep_flat, Nat.mul_comm]; exact hz), rfl, q _ I.fresh⟩
def m_rep (ma mb : M Rv) : M Rv := ma.bind fun a => mb.bind fun b => fun ρ => match itemsL ρ a, rvI b with
  | some ds, some k => if -(2 ^ 63) ≤ k ∧ k < 2 ^ 63 ∧ ds.length * k.toNat ≤ line then some (.ok (.t (.lst ((List.replicate k.toNat ds).flatten.map T.v))), ρ) else none
  | _, _ => none
theorem RelDs.rep {F : Addr → Prop} {H : Hp} {ds : List D} {vs : List V} (h : RelDs cl F H ds vs) : ∀ n, RelDs cl F H (List.replicate n ds).flatten (List.replicate n vs).flatten
  | 0 => .nil
  | n + 1 => by
    rw [List.replicate_succ, List.replicate_succ, List.flatten_cons, List.flatten_cons]
    exact h.append (RelDs.rep h n)
theorem pm_rep (ha : PM Xf cl W a ma) (hb : PM Xf cl W b mb) : PM Xf cl W (.BinOp a .Mult b pos) (m_rep ma mb) := by
  obtain ⟨t, h1, h2⟩ := ha
  obtain ⟨u, g1, g2⟩ := hb
  refine ⟨tOp rRepQ t u, fun i => pe_op op_repQ (h1 i) (g1 i), ?_⟩
  refine sim_two (r := rRepQ) h2 g2 fun F L A ρ σ H a b x y C D rr h1 h2 => ?_
  cases e1 : itemsL ρ a with
  | none => exact SimAt.none
  | some ds =>
    cases e2 : rvI b with
    | none => exact SimAt.none
    | some k =>
      rw [rvI_t e2] at h2
      have q := (relV_v h2).2
      cases q
      simp only
      by_cases hl : -(2 ^ 63) ≤ k ∧ k < 2 ^ 63 ∧ ds.length * k.toNat ≤ line
      · rw [if_pos hl]
        obtain ⟨p, vs, q1, q2, q3⟩ := itemsL_rel rr h1 e1
        exact at_newD rr (q3.rep k.toNat) fun Q hq => ⟨p, k, vs, q1, rfl, q2, hl.1, hl.2.1, by rw [← q3.length, ← line_eq]; exact hl.2.2, hq⟩
      · rw [if_neg hl]
        exact SimAt.none

/-! ### x in xs, of flat things -/
def dIn (d : D) (ds : List D) : Option Bool := match fv d, ds.mapM fv with
  | some x, some xs => if flatV x = true ∧ xs.all flatV = true then some (inV x xs) else none
  | _, _ => none
def fIn (neg : Bool) (d e : D) : Option D := match e with
  | .lst ds => (dIn d ds).map fun b => .bl (if neg then !b else b)
  | .tup ds => (dIn d ds).map fun b => .bl (if neg then !b else b)
  | _ => none
theorem mapM_fv {F : Addr → Prop} {H : Hp} : ∀ {ds : List D} {vs xs : List V}, RelDs cl F H ds vs → ds.mapM fv = some xs → vs = xs
  | [], _, _, h, e => by cases h; cases e; rfl
  | d :: ds, _, xs, h, e => by
    cases h with
    | cons h1 h2 =>
      rw [List.mapM_cons] at e
      cases e1 : fv d with
      | none => rw [e1] at e; cases e
      | some x =>
        cases e2 : ds.mapM fv with
        | none => rw [e1, e2] at e; cases e
        | some ys =>
          rw [e1, e2] at e
          cases e
          rw [fv_eq e1 h1, mapM_fv h2 e2]
theorem look_in {K : PySem.W.Frag} {neg : Bool} (cl : Str → Addr) (d e g : D) (H : Hp) (Q : VK) (x y : V) (h : fIn neg d e = some g) (h1 : RelD cl All H d x) (h2 : RelD cl All H e y) : ∃ z, fv g = some z ∧ (Q z H → rIn K neg x y H Q) := by
  have go : ∀ {ds : List D} {vs : List V} {p : Addr}, RelDs cl All H ds vs → y = .ref p → (SqL K H p vs ∨ SqT K H p vs) → (dIn d ds).map (fun b => D.bl (if neg then !b else b)) = some g → ∃ z, fv g = some z ∧ (Q z H → rIn K neg x y H Q) := fun {ds vs p} r ey hs e => by
    cases e0 : dIn d ds with
    | none => rw [e0] at e; cases e
    | some b =>
      rw [e0] at e
      cases e
      unfold dIn at e0
      cases e1 : fv d with
      | none => rw [e1] at e0; cases e0
      | some x' =>
        cases e2 : ds.mapM fv with
        | none => rw [e1, e2] at e0; cases e0
        | some xs' =>
          rw [e1, e2] at e0
          simp only at e0
          have ex := fv_eq e1 h1
          have evs := mapM_fv r e2
          subst ex evs
          by_cases hf : flatV x = true ∧ vs.all flatV = true
          · rw [if_pos hf] at e0
            cases e0
            exact ⟨_, rfl, fun q => ⟨p, _, ey, hs, hf.1, hf.2, q⟩⟩
          · rw [if_neg hf] at e0
            cases e0
  unfold fIn at h
  split at h
  · cases h2 with
    | lst f q1 q2 => exact go q2 rfl (.inl (.inl q1)) h
  · cases h2 with
    | tup f q1 q2 => exact go q2 rfl (.inr (.inl (.inl q1))) h
  · cases h
theorem pm_in {K : PySem.W.Frag} (hK : ∀ i, (Xf i).K = K) (ha : PM Xf cl W a ma) (hb : PM Xf cl W b mb) (hm : behindInMarks .In b = false := by first | rfl | with_unfolding_all rfl) : PM Xf cl W (.Compare a [.In] [b] pos) (m_look2 (fIn false) ma mb) := by
  obtain ⟨t, h1, h2⟩ := ha
  obtain ⟨u, g1, g2⟩ := hb
  exact ⟨tOp (rIn K false) t u, fun i => pe_cmpR (by rw [← hK i]; exact op_in_seq) (h1 i) (g1 i) hm, sim_look2 look_in h2 g2⟩
theorem pmt_in {K : PySem.W.Frag} (hK : ∀ i, (Xf i).K = K) (ha : PM Xf cl W a ma) (hb : PM Xf cl W b mb) (hm : behindInMarks .In b = false := by first | rfl | with_unfolding_all rfl) : PMT Xf cl W (.Compare a [.In] [b] pos) (m_tst (m_look2 (fIn false) ma mb)) := by
  obtain ⟨t, h1, h2⟩ := ha
  obtain ⟨u, g1, g2⟩ := hb
  exact ⟨tTest (tOp (rIn K false) t u), fun i => pt_cmpR (by rw [← hK i]; exact op_in_seq) (h1 i) (g1 i) hm, sim_tst (sim_look2 look_in h2 g2)⟩
theorem pm_nin {K : PySem.W.Frag} (hK : ∀ i, (Xf i).K = K) (ha : PM Xf cl W a ma) (hb : PM Xf cl W b mb) (hm : behindInMarks .NotIn b = false := by first | rfl | with_unfolding_all rfl) : PM Xf cl W (.Compare a [.NotIn] [b] pos) (m_look2 (fIn true) ma mb) := by
  obtain ⟨t, h1, h2⟩ := ha
  obtain ⟨u, g1, g2⟩ := hb
  exact ⟨tOp (rIn K true) t u, fun i => pe_cmpR (by rw [← hK i]; exact op_notIn_seq) (h1 i) (g1 i) hm, sim_look2 look_in h2 g2⟩
theorem pmt_nin {K : PySem.W.Frag} (hK : ∀ i, (Xf i).K = K) (ha : PM Xf cl W a ma) (hb : PM Xf cl W b mb) (hm : behindInMarks .NotIn b = false := by first | rfl | with_unfolding_all rfl) : PMT Xf cl W (.Compare a [.NotIn] [b] pos) (m_tst (m_look2 (fIn true) ma mb)) := by
  obtain ⟨t, h1, h2⟩ := ha
  obtain ⟨u, g1, g2⟩ := hb
  exact ⟨tTest (tOp (rIn K true) t u), fun i => pt_cmpR (by rw [← hK i]; exact op_notIn_seq) (h1 i) (g1 i) hm, sim_tst (sim_look2 look_in h2 g2)⟩

/-! ### is None -/
def isN : Rv → Bool
  | .t (.v .non) => true
  | .lent .non => true
  | _ => false
def m_isN (neg : Bool) (ma : M Rv) : M Rv := ma.bind fun a => fun ρ => match a with
  | .pk i => match ρ[i]? with
    | some (some (.t (.lst _))) => some (.ok (.t (.v (.bl neg))), ρ)
    | some (some (.io (.lst _))) => some (.ok (.t (.v (.bl neg))), ρ)
    | _ => none
  | a => some (.ok (.t (.v (.bl (if neg then !isN a else isN a)))), ρ)
theorem isN_rel {F : Addr → Prop} {L : LL} {A : Nat → List Addr} {ρ : Sg} {σ : L2.St} {H : Hp} {a : Rv} {x : V} {C : List Addr} (h : RelRv cl F L A σ H a x C) (hp : ∀ i, a ≠ .pk i) : decide (x = V.non) = isN a := by
  have dd : ∀ {F : Addr → Prop} {d : D}, RelD cl F H d x → decide (x = V.non) = isN (.t (.v d)) := fun {F d} q => by
    cases q <;> simp [isN]
  cases a with
  | pk i => exact absurd rfl (hp i)
  | lent d =>
    have := dd h.2
    cases d <;> exact this
  | t t =>
    have q := h.1
    cases t with
    | v d => exact dd (relT_v q).2
    | _ => cases q <;> simp [isN]
theorem sim_isN {neg : Bool} {r : V → Hp → VK → Prop} (hr : ∀ x H Q, Q (V.bl (if neg then !decide (x = V.non) else decide (x = V.non))) H → r x H Q) {t : TE} (h : Sim cl (RelRv cl) W t ma) : Sim cl (RelRv cl) W (fun σ H Q => t σ H fun x H1 => r x H1 Q) (m_isN neg ma) := by
  refine sim_one (r := r) h fun F L A ρ σ H a x C rr h => ?_
  have pk : ∀ {ts : List T} {B : List Addr} {Z : Addr → Prop}, RelT cl F H (.lst ts) x B → SimAt cl (RelRv cl) W Z F L A σ H (fun H Q => r x H Q) (some (.ok (.t (.v (.bl neg))), ρ)) := fun q => by
    cases q
    refine at_fv rr rfl fun Q q => hr _ _ _ ?_
    have e : decide (V.ref ‹Addr› = V.non) = false := by simp
    cases neg <;> simpa using q
  cases a with
  | pk i =>
    have h2 := h.2
    simp only
    split
    · rename_i q
      obtain ⟨v', e', s⟩ := rr.sl _ _ q
      rw [h2] at e'
      cases e'
      exact pk s
    · rename_i q
      obtain ⟨v', e', s⟩ := rr.sl _ _ q
      rw [h2] at e'
      cases e'
      exact pk s
    · exact SimAt.none
  | t t =>
    refine at_fv (z := .bl (if neg then !isN (.t t) else isN (.t t))) rr rfl fun Q q => hr _ _ _ ?_
    rw [isN_rel (ρ := ρ) h (fun i z => by cases z)]
    exact q
  | lent d =>
    refine at_fv (z := .bl (if neg then !isN (.lent d) else isN (.lent d))) rr rfl fun Q q => hr _ _ _ ?_
    rw [isN_rel (ρ := ρ) h (fun i z => by cases z)]
    exact q
theorem pm_isN {j pos'} (ha : PM Xf cl W a ma) : PM Xf cl W (.Compare a [.Is] [.Constant .none j pos'] pos) (m_isN false ma) := by
  obtain ⟨t, h1, h2⟩ := ha
  exact ⟨tIsN t, fun i => pe_cmp (pc_isN (h1 i)), sim_isN (neg := false) (r := fun x H Q => Q (V.bl (decide (x = V.non))) H) (fun x H Q q => by simpa using q) h2⟩
theorem pm_notN {j pos'} (ha : PM Xf cl W a ma) : PM Xf cl W (.Compare a [.IsNot] [.Constant .none j pos'] pos) (m_isN true ma) := by
  obtain ⟨t, h1, h2⟩ := ha
  exact ⟨tNotN t, fun i => pe_cmp (pc_notN (h1 i)), sim_isN (neg := true) (r := fun x H Q => Q (V.bl (!decide (x = V.non))) H) (fun x H Q q => by simpa using q) h2⟩
theorem pmt_isN {j pos'} (ha : PM Xf cl W a ma) : PMT Xf cl W (.Compare a [.Is] [.Constant .none j pos'] pos) (m_tst (m_isN false ma)) := by
  obtain ⟨t, h1, h2⟩ := ha
  exact ⟨tB (tIsN t), fun i => pt_cmp (pc_isN (h1 i)), sim_tst (sim_isN (neg := false) (r := fun x H Q => Q (V.bl (decide (x = V.non))) H) (fun x H Q q => by simpa using q) h2)⟩
theorem pmt_notN {j pos'} (ha : PM Xf cl W a ma) : PMT Xf cl W (.Compare a [.IsNot] [.Constant .none j pos'] pos) (m_tst (m_isN true ma)) := by
  obtain ⟨t, h1, h2⟩ := ha
  exact ⟨tB (tNotN t), fun i => pt_cmp (pc_notN (h1 i)), sim_tst (sim_isN (neg := true) (r := fun x H Q => Q (V.bl (!decide (x = V.non))) H) (fun x H Q q => by simpa using q) h2)⟩
end
end W3

/-! C6: own lists changed by their methods. -/
namespace W3
open PySem PySem.Spec L2

def ownL : Sl → Option (List T)
  | .t (.lst ts) => some ts
  | .io (.lst ts) => some ts
  | _ => none
def setL (s : Sl) (ts : List T) : Sl := match s with
  | .io _ => .io (.lst ts)
  | _ => .t (.lst ts)
def lstAt (ρ : Sg) (k : Nat) : Option (List T) := match ρ[k]? with
  | some (some (.t (.lst ts))) => some ts
  | some (some (.io (.lst ts))) => some ts
  | _ => none
def putL (ρ : Sg) (k : Nat) (ts : List T) : Sg := match ρ[k]? with
  | some (some (.io _)) => ρ.set k (some (.io (.lst ts)))
  | _ => ρ.set k (some (.t (.lst ts)))
section
variable {cl : Str → Addr} {F : Addr → Prop} {L : LL} {H : Hp} {A : Nat → List Addr} {ρ : Sg} {σ : L2.St}
theorem relT_lst {ts : List T} {v : V} {B : List Addr} (h : RelT cl F H (.lst ts) v B) : ∃ a vs B', v = .ref a ∧ B = a :: B' ∧ H a = some (.lst vs) ∧ RelTs cl F H ts vs B' := by
  cases h with
  | lst q1 q2 => exact ⟨_, _, _, rfl, rfl, q1, q2⟩
theorem lstAt_rel (r : R cl F L A ρ σ H) {k : Nat} {ts : List T} (e : lstAt ρ k = some ts) : ∃ a vs B, σ[k]? = some (some (.ref a)) ∧ A k = a :: B ∧ H a = some (.lst vs) ∧ RelTs cl F H ts vs B := by
  unfold lstAt at e
  split at e
  · rename_i q
    cases e
    obtain ⟨v, e1, s⟩ := r.sl _ _ q
    obtain ⟨a, vs, B, q1, q2, q3, q4⟩ := relT_lst s
    subst q1
    exact ⟨a, vs, B, e1, q2, q3, q4⟩
  · rename_i q
    cases e
    obtain ⟨v, e1, s⟩ := r.sl _ _ q
    obtain ⟨a, vs, B, q1, q2, q3, q4⟩ := relT_lst s
    subst q1
    exact ⟨a, vs, B, e1, q2, q3, q4⟩
  · cases e
theorem putL_get {k : Nat} {ts ts' : List T} (e : lstAt ρ k = some ts) : ∃ s s', ρ[k]? = some (some s) ∧ putL ρ k ts' = ρ.set k (some s') ∧ ((∃ t, s = .t t ∧ s' = .t (.lst ts')) ∨ ∃ t, s = .io t ∧ s' = .io (.lst ts')) := by
  unfold lstAt at e
  split at e
  · rename_i q
    refine ⟨_, _, q, ?_, .inl ⟨_, rfl, rfl⟩⟩
    unfold putL
    rw [q]
  · rename_i q
    refine ⟨_, _, q, ?_, .inr ⟨_, rfl, rfl⟩⟩
    unfold putL
    rw [q]
  · cases e
/-- an own list is changed -/
theorem R.mut (r : R cl F L A ρ σ H) {k : Nat} {ts ts' : List T} {a : Addr} {vs vs' : List V} {B B' : List Addr} (e : lstAt ρ k = some ts) (hσ : σ[k]? = some (some (.ref a))) (hA : A k = a :: B) (hH : H a = some (.lst vs))
    (new : RelTs cl F H ts' vs' B') (nd : B'.Nodup) (ap : ∀ b ∈ B', b ∈ B ∨ (¬ F b ∧ ¬ L b ∧ ¬ Own A b)) : R cl F L (setA A k (a :: B')) (putL ρ k ts') σ (upd H a (.lst vs')) := by
  obtain ⟨s, s', q1, q2, q3⟩ := putL_get (ts' := ts') e
  have ndk : (a :: B).Nodup := hA ▸ r.nd k
  have aO : Own A a := ⟨k, by rw [hA]; exact List.mem_cons_self⟩
  obtain ⟨aF, aL, _⟩ := r.ap a aO
  have naB : a ∉ B' := fun m => by
    rcases ap a m with z | z
    · exact (List.nodup_cons.mp ndk).1 z
    · exact z.2.2 aO
  have keep : ∀ b u, b ≠ a → H b = some u → upd H a (.lst vs') b = some u := fun b u n e => by rw [upd_ne n]; exact e
  have dom : ∀ b, H b ≠ none → upd H a (.lst vs') b ≠ none := fun b n => by
    by_cases z : b = a
    · rw [z, upd_same]; simp
    · rw [upd_ne z]; exact n
  have nF : ∀ b, F b → b ≠ a := fun b f z => aF (z ▸ f)
  have nL : ∀ b, L b → b ≠ a := fun b f z => aL (z ▸ f)
  have new' : RelTs cl F (upd H a (.lst vs')) ts' vs' B' := RelTs.keep (fun _ h => h) (fun b u f e => keep b u (nF b f) e) ts' vs' B' (fun b u m e => keep b u (fun z => naB (z ▸ m)) e) new
  rw [q2]
  refine ⟨by rw [List.length_set]; exact r.len, fun j s0 q => ?_, fun j => ?_, fun i j b hij hi hj => ?_, fun b o => ?_, fun b f => dom b (r.fd b f), fun b f => dom b (r.ld b f), fun i v q => ?_⟩
  · by_cases z : j = k
    · subst z
      have hl : j < ρ.length := (List.getElem?_eq_some_iff.mp q1).1
      rw [List.getElem?_set_self hl] at q
      cases q
      refine ⟨_, hσ, ?_⟩
      rw [setA_same]
      rcases q3 with ⟨t, _, z⟩ | ⟨t, _, z⟩
      · subst z
        exact .lst upd_same new'
      · subst z
        exact .lst upd_same new'
    · rw [List.getElem?_set_ne (Ne.symm z)] at q
      obtain ⟨v, e1, h⟩ := r.sl j s0 q
      refine ⟨v, e1, ?_⟩
      rw [setA_ne z]
      have nA : ∀ b u, b ∈ A j → H b = some u → upd H a (.lst vs') b = some u := fun b u m e => keep b u (fun w => r.dj j k a z (w ▸ m) (by rw [hA]; exact List.mem_cons_self)) e
      cases s0 with
      | t t => exact RelT.keep (fun _ h => h) (fun b u f e => keep b u (nF b f) e) t v _ nA h
      | io t => exact RelT.keep (fun _ h => h) (fun b u f e => keep b u (nF b f) e) t v _ nA h
      | lent d => exact RelD.keep (fun _ h => h) (fun b u f e => keep b u (f.elim (nF b) (nL b)) e) d v h
      | al _ _ => exact h
  · by_cases z : j = k
    · rw [z, setA_same]
      exact List.nodup_cons.mpr ⟨naB, nd⟩
    · rw [setA_ne z]
      exact r.nd j
  · have dj' : ∀ m, m ≠ k → b ∈ a :: B' → b ∉ A m := fun m hm hb hm2 => by
      rcases List.mem_cons.mp hb with w | w
      · rw [w] at hm2
        exact r.dj m k a hm hm2 (by rw [hA]; exact List.mem_cons_self)
      · rcases ap b w with y | y
        · exact r.dj m k b hm hm2 (by rw [hA]; exact List.mem_cons_of_mem _ y)
        · exact y.2.2 ⟨m, hm2⟩
    by_cases z : i = k
    · rw [z, setA_same] at hi
      rw [setA_ne (fun w => hij (z.trans w.symm))] at hj
      exact dj' j (fun w => hij (z.trans w.symm)) hi hj
    · rw [setA_ne z] at hi
      by_cases w : j = k
      · rw [w, setA_same] at hj
        exact dj' i z hj hi
      · rw [setA_ne w] at hj
        exact r.dj i j b hij hi hj
  · rcases own_setA o with m | ⟨j, hj, m⟩
    · rcases List.mem_cons.mp m with w | w
      · rw [w]
        exact ⟨aF, aL, by rw [upd_same]; simp⟩
      · have hb : H b ≠ none := RelTs.dom ts' vs' B' new b w
        rcases ap b w with y | y
        · obtain ⟨h1, h2, _⟩ := r.ap b ⟨k, by rw [hA]; exact List.mem_cons_of_mem _ y⟩
          exact ⟨h1, h2, dom b hb⟩
        · exact ⟨y.1, y.2.1, dom b hb⟩
    · obtain ⟨h1, h2, h3⟩ := r.ap b ⟨j, m⟩
      exact ⟨h1, h2, dom b h3⟩
  · obtain ⟨⟨t, k1⟩, k2⟩ := r.pin i v q
    refine ⟨?_, k2⟩
    by_cases z : i = k
    · subst z
      rw [q1] at k1
      cases k1
      have hl : i < ρ.length := (List.getElem?_eq_some_iff.mp q1).1
      rw [List.getElem?_set_self hl]
      rcases q3 with ⟨t', w, _⟩ | ⟨t', w, w2⟩
      · cases w
      · subst w2
        exact ⟨_, rfl⟩
    · rw [List.getElem?_set_ne (Ne.symm z)]
      exact ⟨t, k1⟩
theorem Ext.mut {Z : Addr → Prop} {k : Nat} {a : Addr} {B B' : List Addr} {o : HO} (r : R cl F L A ρ σ H) (hA : A k = a :: B) (ap : ∀ b ∈ B', b ∈ B ∨ Z b) : Ext F (Own A) Z H F (Own (setA A k (a :: B'))) (upd H a o) := by
  have aO : Own A a := ⟨k, by rw [hA]; exact List.mem_cons_self⟩
  refine ⟨fun _ h => h, fun _ h => .inl h, fun b u e n _ => ?_, fun b n => ?_, fun b o => ?_⟩
  · rw [upd_ne (fun z => n (by rw [z]; exact aO))]; exact e
  · by_cases z : b = a
    · rw [z, upd_same]; simp
    · rw [upd_ne z]; exact n
  · rcases own_setA o with m | ⟨j, _, m⟩
    · rcases List.mem_cons.mp m with w | w
      · rw [w]; exact .inl aO
      · rcases ap b w with y | y
        · exact .inl ⟨k, by rw [hA]; exact List.mem_cons_of_mem _ y⟩
        · exact .inr (.inr y)
    · exact .inl ⟨j, m⟩
end

/-! ### a method of an own list -/
def m_meth (k : Nat) (ms : M (List Rv)) (f : List T → List T → Option (T × List T)) : M Rv := fun ρ => match lstAt ρ k with
  | none => none
  | some _ => (ms.bind fun rs => fun ρ2 => match lstAt ρ2 k, rvTs rs with
    | some ts, some as => match f ts as with
      | some (t, ts') => some (.ok (.t t), putL ρ2 k ts')
      | none => none
    | _, _ => none) ρ
/-- what r does to a list is f -/
def MethOk (r : V → List V → Hp → VK → Prop) (f : List T → List T → Option (T × List T)) : Prop := ∀ (cl : Str → Addr) (F : Addr → Prop) (H : Hp) (a : Addr) (ts as ts' : List T) (t : T) (vs xs : List V) (B C : List Addr), f ts as = some (t, ts') → H a = some (.lst vs) →
  RelTs cl F H ts vs B → RelTs cl F H as xs C → ∃ y vs' By B', RelT cl F H t y By ∧ RelTs cl F H ts' vs' B' ∧ ((B ++ C).Nodup → (By ++ B').Nodup) ∧ (∀ x ∈ By ++ B', x ∈ B ∨ x ∈ C) ∧ (a ∉ B ++ C → ∀ Q : VK, Q y (upd H a (.lst vs')) → r (.ref a) xs H Q)
section
variable {cl : Str → Addr} {W : WX} {K : PySem.W.Frag} {ms : M (List Rv)}
theorem sim_methA {k : Nat} {r : V → List V → Hp → VK → Prop} {f : List T → List T → Option (T × List T)} {F : Addr → Prop} {L : LL} {A : Nat → List Addr} {ρ : Sg} {σ : L2.St} {H : Hp} {a : Addr} {rs : List Rv} {xs : List V} {C : List Addr}
    (ho : MethOk r f) (rr : R cl F L A ρ σ H) (hσ : σ[k]? = some (some (.ref a))) (hr : RelRvs cl F L A σ H rs xs C) :
    SimAt cl (RelRv cl) W (fun z => z ∈ C) F L A σ H (fun H Q => r (.ref a) xs H Q) (match lstAt ρ k, rvTs rs with
      | some ts, some as => match f ts as with
        | some (t, ts') => some (.ok (.t t), putL ρ k ts')
        | none => none
      | _, _ => none) := by
  cases e1 : lstAt ρ k with
  | none => exact SimAt.none
  | some ts =>
    cases e2 : rvTs rs with
    | none => exact SimAt.none
    | some as =>
      simp only
      cases e3 : f ts as with
      | none => exact SimAt.none
      | some p =>
        obtain ⟨t, ts'⟩ := p
        intro o ρ' em Q hQ
        cases em
        obtain ⟨a', vs, B, q1, q2, q3, q4⟩ := lstAt_rel rr e1
        rw [hσ] at q1
        cases q1
        obtain ⟨k1, k2, k3⟩ := rvTs_rel hr e2
        obtain ⟨y, vs', By, B', w1, w2, w3, w4, w5⟩ := ho cl F H a ts as ts' t vs xs B C e3 q3 q4 k1
        have ndk : (a :: B).Nodup := q2 ▸ rr.nd k
        have bO : ∀ b ∈ B, Own A b := fun b m => ⟨k, by rw [q2]; exact List.mem_cons_of_mem _ m⟩
        have aO : Own A a := ⟨k, by rw [q2]; exact List.mem_cons_self⟩
        have nBC : (B ++ C).Nodup := List.nodup_append.mpr ⟨(List.nodup_cons.mp ndk).2, k2, fun x hx y hy e => (k3 y hy).2.2 (e ▸ bO x hx)⟩
        have naBC : a ∉ B ++ C := fun m => (List.mem_append.mp m).elim (List.nodup_cons.mp ndk).1 fun m => (k3 a m).2.2 aO
        have nd' := w3 nBC
        obtain ⟨nd1, nd2, nd3⟩ := List.nodup_append.mp nd'
        have apB' : ∀ b ∈ B', b ∈ B ∨ (¬ F b ∧ ¬ L b ∧ ¬ Own A b) := fun b m => (w4 b (List.mem_append_right _ m)).elim .inl fun m => .inr (k3 b m)
        have ByIn : ∀ b ∈ By, b ≠ a := fun b m z => naBC (List.mem_append.mpr (z ▸ w4 b (List.mem_append_left _ m)))
        have aF := (rr.ap a aO).1
        have ByB : ∀ b ∈ By, b ∉ a :: B' := fun b m m2 => (List.mem_cons.mp m2).elim (ByIn b m) fun m2 => nd3 b m b m2 rfl
        refine w5 naBC Q (hQ F _ _ (Ext.mut (B' := B') rr q2 fun b m => w4 b (List.mem_append_right _ m)) (rr.mut e1 hσ q2 q3 w2 nd2 apB') y By ⟨RelT.keep (fun _ h => h) (fun b u f e => by rw [upd_ne (fun z => aF (by rw [← z]; exact f))]; exact e) t y By (fun b u m e => by rw [upd_ne (ByIn b m)]; exact e) w1, nd1, fun b m => ?_⟩ fun b m => ?_)
        · have hb : ¬ F b ∧ ¬ L b := (w4 b (List.mem_append_left _ m)).elim (fun m => ⟨(rr.ap b (bO b m)).1, (rr.ap b (bO b m)).2.1⟩) fun m => ⟨(k3 b m).1, (k3 b m).2.1⟩
          refine ⟨hb.1, hb.2, fun z => ?_⟩
          rcases own_setA z with w | ⟨j, hj, w⟩
          · exact ByB b m w
          · rcases w4 b (List.mem_append_left _ m) with v | v
            · exact rr.dj j k b hj w (by rw [q2]; exact List.mem_cons_of_mem _ v)
            · exact (k3 b v).2.2 ⟨j, w⟩
        · rcases w4 b (List.mem_append_left _ m) with v | v
          · exact .inr (.inl (bO b v))
          · exact .inr (.inr v)

theorem sim_meth {k : Nat} {r : V → List V → Hp → VK → Prop} {f : List T → List T → Option (T × List T)} {t : TA} (ho : MethOk r f) (h : Sim cl (RelRvs cl) W t ms) : Sim cl (RelRv cl) W (tBM K "list" r (tVar k) t) (m_meth k ms f) := fun F L A ρ σ H rr => by
  intro o ρ' em Q hQ
  unfold m_meth at em
  cases e1 : lstAt ρ k with
  | none => rw [e1] at em; cases em
  | some ts =>
    rw [e1] at em
    obtain ⟨a, vs, B, q1, q2, q3, q4⟩ := lstAt_rel rr e1
    refine ⟨.ref a, q1, .inl ⟨rfl, vs, .inl (.inl q3)⟩, ?_⟩
    refine (SimAt.bind (rel := RelRvs cl) (rel' := RelRv cl) (t := t σ) (u := fun xs H2 Q => r (.ref a) xs H2 Q) stays_Rvs (fun _ z => z) (h F L A ρ σ H rr) fun F1 A1 ρ1 H1 rs xs C r1 x1 h1 _ => ?_ : SimAt cl (RelRv cl) W NoZ F L A σ H (fun H Q => t σ H fun xs H2 => r (.ref a) xs H2 Q) _) o ρ' em Q hQ
    exact (sim_methA ho r1 q1 h1).weak fun z m => .inr m
theorem sim_meth0 {k : Nat} {r : V → List V → Hp → VK → Prop} {f : List T → List T → Option (T × List T)} (ho : MethOk r f) : Sim cl (RelRv cl) W (tBM0 K "list" r (tVar k)) (m_meth k m_nil f) := fun F L A ρ σ H rr => by
  intro o ρ' em Q hQ
  unfold m_meth at em
  cases e1 : lstAt ρ k with
  | none => rw [e1] at em; cases em
  | some ts =>
    rw [e1] at em
    obtain ⟨a, vs, B, q1, q2, q3, q4⟩ := lstAt_rel rr e1
    refine ⟨.ref a, q1, .inl ⟨rfl, vs, .inl (.inl q3)⟩, ?_⟩
    exact ((sim_methA (rs := []) ho rr q1 .nil).weak fun z m => nomatch m : SimAt cl (RelRv cl) W NoZ F L A σ H _ _) o ρ' em Q hQ
end

/-! ### which methods -/
theorem relT_int {cl : Str → Addr} {F : Addr → Prop} {H : Hp} {i : Int} {v : V} {B : List Addr} (h : RelT cl F H (.v (.int i)) v B) : B = [] ∧ v = .int i := by
  obtain ⟨e, q⟩ := relT_v h
  cases q
  exact ⟨e, rfl⟩
section
variable {cl : Str → Addr} {F : Addr → Prop} {H : Hp}
theorem RelTs.split : ∀ {ts : List T} {vs : List V} {B : List Addr} {k : Nat} {t : T}, RelTs cl F H ts vs B → ts[k]? = some t → ∃ v B1 Bt B2, vs[k]? = some v ∧ B = B1 ++ Bt ++ B2 ∧ RelT cl F H t v Bt ∧ RelTs cl F H (ts.take k) (vs.take k) B1 ∧ RelTs cl F H (ts.drop (k + 1)) (vs.drop (k + 1)) B2
  | [], _, _, k, _, h, e => by simp at e
  | t :: ts, _, _, 0, _, h, e => by
    cases h with
    | cons h1 h2 =>
      simp at e
      subst e
      exact ⟨_, [], _, _, rfl, by simp, h1, .nil, h2⟩
  | t :: ts, _, _, k + 1, _, h, e => by
    cases h with
    | @cons _ v _ vs B1' B2' h1 h2 =>
      obtain ⟨v', B1, Bt, B2, e1, e2, q1, q2, q3⟩ := RelTs.split (k := k) h2 (by simpa using e)
      refine ⟨v', B1' ++ B1, Bt, B2, by simpa using e1, by rw [e2]; simp [List.append_assoc], q1, ?_, q3⟩
      exact .cons h1 q2
theorem erase_eq {α : Type} : ∀ (l : List α) (k : Nat), l.eraseIdx k = l.take k ++ l.drop (k + 1)
  | [], k => by simp
  | a :: l, 0 => by simp
  | a :: l, k + 1 => by simp [erase_eq l k]
theorem set_eq {α : Type} : ∀ (l : List α) (k : Nat) (x : α), k < l.length → l.set k x = l.take k ++ x :: l.drop (k + 1)
  | [], k, x, h => by simp at h
  | a :: l, 0, x, h => by simp
  | a :: l, k + 1, x, h => by simp [set_eq l k x (by simpa using h)]
theorem RelTs.take : ∀ {ts : List T} {vs : List V} {B : List Addr} (k : Nat), RelTs cl F H ts vs B → ∃ B1 B2, B = B1 ++ B2 ∧ RelTs cl F H (ts.take k) (vs.take k) B1 ∧ RelTs cl F H (ts.drop k) (vs.drop k) B2
  | _, _, _, 0, h => ⟨[], _, rfl, by simp; exact .nil, h⟩
  | [], _, _, k + 1, h => by cases h; exact ⟨[], [], rfl, .nil, .nil⟩
  | t :: ts, _, _, k + 1, h => by
    cases h with
    | cons h1 h2 =>
      obtain ⟨B1, B2, e, q1, q2⟩ := RelTs.take k h2
      exact ⟨_ ++ B1, B2, by rw [e, List.append_assoc], .cons h1 q1, q2⟩
end
def opApp (ts as : List T) : Option (T × List T) := match as with
  | [t] => if ts.length < line then some (.v .non, ts ++ [t]) else none
  | _ => none
theorem ok_app : MethOk rAppend opApp := fun cl F H a ts as ts' t vs xs B C e hH h1 h2 => by
  unfold opApp at e
  split at e
  · rename_i t'
    split at e
    · rename_i hl
      cases e
      cases h2 with
      | @cons _ v _ _ B1 B2 h2 h3 =>
        cases h3
        refine ⟨.non, vs ++ [v], [], B ++ B1, .v .non, h1.append (by have := RelTs.cons h2 RelTs.nil; simpa using this), fun n => by simpa using n, fun x m => by simpa using m, fun _ Q hQ => ⟨a, vs, v, rfl, rfl, hH, by rw [← h1.length, ← line_eq]; exact hl, hQ⟩⟩
    · cases e
  · cases e
def opPop (ts as : List T) : Option (T × List T) := match as with
  | [] => (ts[ts.length - 1]?).map fun t => (t, ts.take (ts.length - 1))
  | _ => none
theorem take_dropLast {α : Type} (l : List α) : l.take (l.length - 1) = l.dropLast := by rw [List.dropLast_eq_take]
theorem ok_pop : MethOk rPop opPop := fun cl F H a ts as ts' t vs xs B C e hH h1 h2 => by
  unfold opPop at e
  split at e
  · cases h2
    cases e1 : ts[ts.length - 1]? with
    | none => rw [e1] at e; cases e
    | some t' =>
      rw [e1] at e
      cases e
      obtain ⟨v, B1, Bt, B2, q1, q2, q3, q4, q5⟩ := h1.split e1
      rw [h1.length] at q1
      refine ⟨v, vs.take (ts.length - 1), Bt, B1, q3, q4, fun n => ?_, fun x m => ?_, fun _ Q hQ => ⟨a, vs, v, rfl, rfl, hH, q1, ?_⟩⟩
      · subst q2
        rw [List.append_nil] at n
        have n2 := (List.nodup_append.mp n).1
        exact (List.perm_append_comm.nodup_iff).mp n2
      · subst q2
        rcases List.mem_append.mp m with m | m
        · exact .inl (List.mem_append_left _ (List.mem_append_right _ m))
        · exact .inl (List.mem_append_left _ (List.mem_append_left _ m))
      · rw [h1.length, take_dropLast] at hQ
        exact hQ
  · cases e
def opPopAt (ts as : List T) : Option (T × List T) := match as with
  | [.v (.int i)] => if -(2 ^ 63) ≤ i ∧ i < 2 ^ 63 then (ixN ts.length i).bind fun k => (ts[k]?).map fun t => (t, ts.take k ++ ts.drop (k + 1)) else none
  | _ => none
theorem ok_popAt : MethOk rPopAt opPopAt := fun cl F H a ts as ts' t vs xs B C e hH h1 h2 => by
  unfold opPopAt at e
  split at e
  · rename_i i
    split at e
    · rename_i hi
      cases h2 with
      | cons h2 h3 =>
        cases h3
        obtain ⟨rfl, rfl⟩ := relT_int h2
        cases e0 : ixN ts.length i with
        | none => rw [e0] at e; cases e
        | some k =>
          rw [e0, Option.bind_some] at e
          cases e1 : ts[k]? with
          | none => rw [e1] at e; cases e
          | some t' =>
            rw [e1] at e
            cases e
            obtain ⟨v, B1, Bt, B2, q1, q2, q3, q4, q5⟩ := h1.split e1
            rw [h1.length] at e0
            obtain ⟨e2, _⟩ := ixN_seq e0
            refine ⟨v, vs.take k ++ vs.drop (k + 1), Bt, B1 ++ B2, q3, q4.append q5, fun n => ?_, fun x m => ?_, fun _ Q hQ => ⟨a, vs, i, k, v, rfl, rfl, hH, hi.1, hi.2, e2, q1, by rw [erase_eq]; exact hQ⟩⟩
            · subst q2
              have n2 := (List.nodup_append.mp n).1
              refine (List.Perm.nodup_iff ?_).mp n2
              rw [← List.append_assoc]
              exact List.Perm.append_right _ List.perm_append_comm
            · subst q2
              rcases List.mem_append.mp m with m | m
              · exact .inl (List.mem_append_left _ (List.mem_append_right _ m))
              · rcases List.mem_append.mp m with m | m
                · exact .inl (List.mem_append_left _ (List.mem_append_left _ m))
                · exact .inl (List.mem_append_right _ m)
    · cases e
  · cases e
def opIns (ts as : List T) : Option (T × List T) := match as with
  | [.v (.int i), t] => if 0 ≤ i ∧ i < 2 ^ 63 ∧ ts.length < line then some (.v .non, ts.take i.toNat ++ [t] ++ ts.drop i.toNat) else none
  | _ => none
theorem ok_ins : MethOk (fun x vs H Q => ∃ (l : Addr) (xs : List V) (i : Int) (y : V), x = .ref l ∧ vs = [.int i, y] ∧ H l = some (.lst xs) ∧ xs.length < sizeLine ∧ 0 ≤ i ∧ i < 2 ^ 63 ∧
    Q .non (upd H l (.lst (xs.take i.toNat ++ [y] ++ xs.drop i.toNat)))) opIns := fun cl F H a ts as ts' t vs xs B C e hH h1 h2 => by
  unfold opIns at e
  split at e
  · rename_i i t'
    split at e
    · rename_i hi
      cases e
      cases h2 with
      | cons h2 h3 =>
        obtain ⟨rfl, rfl⟩ := relT_int h2
        cases h3 with
        | @cons _ v _ _ C1 _ h3 h4 =>
          cases h4
          obtain ⟨B1, B2, e1, q1, q2⟩ := RelTs.take i.toNat h1
          refine ⟨.non, vs.take i.toNat ++ [v] ++ vs.drop i.toNat, [], B1 ++ C1 ++ B2, .v .non, (q1.append (by have := RelTs.cons h3 RelTs.nil; simpa using this)).append q2, fun n => ?_, fun x m => ?_, fun _ Q hQ => ⟨a, vs, i, v, rfl, rfl, hH, by rw [← h1.length, ← line_eq]; exact hi.2.2, hi.1, hi.2.1, hQ⟩⟩
          · subst e1
            rw [List.nil_append] at n ⊢
            rw [List.append_nil] at n
            refine (List.Perm.nodup_iff ?_).mp n
            rw [List.append_assoc, List.append_assoc]
            exact List.Perm.append_left _ List.perm_append_comm
          · subst e1
            simp only [List.nil_append, List.append_nil, List.mem_append] at m ⊢
            rcases m with (m | m) | m
            · exact .inl (.inl m)
            · exact .inr m
            · exact .inl (.inr m)
    · cases e
  · cases e
def opRev (ts as : List T) : Option (T × List T) := match as with
  | [] => some (.v .non, ts.reverse)
  | _ => none
theorem RelTs.reverse {cl : Str → Addr} {F : Addr → Prop} {H : Hp} : ∀ {ts : List T} {vs : List V} {B : List Addr}, RelTs cl F H ts vs B → ∃ B', RelTs cl F H ts.reverse vs.reverse B' ∧ B'.Perm B
  | [], _, _, h => by cases h; exact ⟨[], .nil, .refl _⟩
  | t :: ts, _, _, h => by
    cases h with
    | cons h1 h2 =>
      obtain ⟨B', q, p⟩ := RelTs.reverse h2
      refine ⟨B' ++ _, by rw [List.reverse_cons, List.reverse_cons]; exact q.append (by have := RelTs.cons h1 RelTs.nil; simpa using this), ?_⟩
      exact List.perm_append_comm.trans (List.Perm.append_left _ p)
theorem ok_rev : MethOk rReverse opRev := fun cl F H a ts as ts' t vs xs B C e hH h1 h2 => by
  unfold opRev at e
  split at e
  · cases e
    cases h2
    obtain ⟨B', q, p⟩ := h1.reverse
    refine ⟨.non, vs.reverse, [], B', .v .non, q, fun n => ?_, fun x m => .inl (p.mem_iff.mp (by simpa using m)), fun _ Q hQ => ⟨a, vs, rfl, rfl, hH, hQ⟩⟩
    rw [List.append_nil] at n
    exact p.nodup_iff.mpr n
  · cases e
def opClear (ts as : List T) : Option (T × List T) := match as with
  | [] => some (.v .non, [])
  | _ => none
theorem ok_clear : MethOk rClear opClear := fun cl F H a ts as ts' t vs xs B C e hH h1 h2 => by
  unfold opClear at e
  split at e
  · cases e
    cases h2
    exact ⟨.non, [], [], [], .v .non, .nil, fun _ => List.nodup_nil, (fun x m => nomatch m), fun _ Q hQ => ⟨a, vs, rfl, rfl, hH, hQ⟩⟩
  · cases e
section
variable {ι : Type} {Xf : ι → Cx} {cl : Str → Addr} {W : WX} {K : PySem.W.Frag} {e : Expr} {es : List Expr} {ms : M (List Rv)}
theorem pm_meth {k : Nat} {x : Str} {px apos cpos : Pos} {name : Str} {id : String} {r : V → List V → Hp → VK → Prop} {f : List T → List T → Option (T × List T)} (pa : PlainAttrs "list") (slot : Slot "list" name id) (hty : typeOf (.builtin id) = pure (.type "method_descriptor"))
    (hm : ∀ i, MtR (Xf i) id r) (ho : MethOk r f) (hK : ∀ i, (Xf i).K = K) (ha : PMA Xf cl W (e :: es) ms) (hN : ∀ j, (Xf j).N[k]? = some x := by intro _; rfl) (hv : ∀ j, Vis (Xf j).env.scope x := by intro _; first | exact Or.inl rfl | exact Or.inr (Or.inl rfl) | exact Or.inr (Or.inr rfl))
    (hd : (x == ("__debug__" : Str)) = false := by decide) (hcd : (x == ("__classdict__" : Str)) = false := by decide)
    (hbase : ∀ i, attributeBase (.Name x px) name (Xf i).env (eval (.Name x px) (Xf i).env) = eval (.Name x px) (Xf i).env := by intro _; rfl)
    (hfew : ∀ i, ((backTo cpos (starEach (e :: es) (Xf i).env)).all (fun x => !x.1) && (backToKw cpos (keywordEach [] (Xf i).env)).all (fun x => x.1.isSome)
      && decide ((e :: es).length + ([] : List Keyword).length + (if ([] : List Keyword).isEmpty then 0 else 1) < 30)) = true := by intro _; rfl)
    (hline : (apos.endLine == cpos.line) = true := by rfl) (hs : ∀ i, starEach (e :: es) (Xf i).env = (false, eval e (Xf i).env) :: starEach es (Xf i).env := by intro _; rfl) (hplain : ∀ i, (backTo cpos (starEach es (Xf i).env)).any (·.1) = false := by intro _; rfl) :
    PM Xf cl W (.Call (.Attribute (.Name x px) name apos) (e :: es) [] cpos) (m_meth k ms f) := by
  obtain ⟨t, h1, h2⟩ := ha
  exact ⟨tBM K "list" r (tVar k) t, fun i => by rw [← hK i]; exact pe_bm pa slot hty (hm i) (pe_var (hN i) (hv i) hd hcd) (h1 i) (hbase i) (hfew i) hline (hs i) (hplain i), sim_meth ho h2⟩
theorem pm_meth0 {k : Nat} {x : Str} {px apos cpos : Pos} {name : Str} {id : String} {r : V → List V → Hp → VK → Prop} {f : List T → List T → Option (T × List T)} (pa : PlainAttrs "list") (slot : Slot "list" name id) (hty : typeOf (.builtin id) = pure (.type "method_descriptor"))
    (hm : ∀ i, MtR (Xf i) id r) (ho : MethOk r f) (hK : ∀ i, (Xf i).K = K) (hN : ∀ j, (Xf j).N[k]? = some x := by intro _; rfl) (hv : ∀ j, Vis (Xf j).env.scope x := by intro _; first | exact Or.inl rfl | exact Or.inr (Or.inl rfl) | exact Or.inr (Or.inr rfl))
    (hd : (x == ("__debug__" : Str)) = false := by decide) (hcd : (x == ("__classdict__" : Str)) = false := by decide)
    (hbase : ∀ i, attributeBase (.Name x px) name (Xf i).env (eval (.Name x px) (Xf i).env) = eval (.Name x px) (Xf i).env := by intro _; rfl) (hline : (apos.endLine == cpos.line) = true := by rfl) :
    PM Xf cl W (.Call (.Attribute (.Name x px) name apos) [] [] cpos) (m_meth k m_nil f) :=
  ⟨tBM0 K "list" r (tVar k), fun i => by rw [← hK i]; exact pe_bm0 pa slot hty (hm i) (pe_var (hN i) (hv i) hd hcd) (hbase i) hline, sim_meth0 ho⟩
end
end W3

/-! C7: statements. -/
namespace W3
open PySem PySem.Spec L2

inductive Fl where
  | nx | bk | ct | ret (r : Rv)
def FinS (cl : Str → Addr) (W : WX) (A : Nat → List Addr) (H : Hp) (F' : Addr → Prop) (L : LL) (A' : Nat → List Addr) (σ' : L2.St) (H' : Hp) (D : Ends) : Out Fl → Prop
  | .ok .nx => D.nx σ' H'
  | .ok .bk => D.bk σ' H'
  | .ok .ct => D.ct σ' H'
  | .ok (.ret rv) => ∀ v C, RelRv cl F' L A' σ' H' rv v C → (∀ x ∈ C, H x = none ∨ Own A x) → D.rt v H'
  | .exc c d => ∀ dx v, H' dx = some (.xd [("value", v)]) → RelD cl F' H' d v → W (.ref (cl c)) (some dx) σ' H'
def SimS (cl : Str → Addr) (W : WX) (t : TS) (m : M Fl) : Prop := ∀ F L A ρ σ H, R cl F L A ρ σ H → ∀ o ρ', m ρ = some (o, ρ') → ∀ D : Ends,
  (∀ F' A' σ' H', Ext F (Own A) NoZ H F' (Own A') H' → R cl F' L A' ρ' σ' H' → FinS cl W A H F' L A' σ' H' D o) → t D σ H
section
variable {ι : Type}
def PMS (Xf : ι → Cx) (cl : Str → Addr) (W : WX) (st : Stmt) (m : M Fl) : Prop := ∃ t : TS, (∀ i, PS (Xf i) st t) ∧ SimS cl W t m
def PMSs (Xf : ι → Cx) (cl : Str → Addr) (W : WX) (st : List Stmt) (m : M Fl) : Prop := ∃ t : TS, (∀ i, PSs (Xf i) st t) ∧ SimS cl W t m
end
/-- what a later state says, said of an earlier one -/
theorem FinS.back {cl : Str → Addr} {W : WX} {A A1 : Nat → List Addr} {F F1 F' : Addr → Prop} {H H1 H' : Hp} {L : LL} {A' : Nat → List Addr} {σ' : L2.St} {D : Ends} {o : Out Fl} (x : Ext F (Own A) NoZ H F1 (Own A1) H1) (h : FinS cl W A H F' L A' σ' H' D o) : FinS cl W A1 H1 F' L A' σ' H' D o := by
  cases o with
  | exc c d => exact h
  | ok f =>
    cases f with
    | nx => exact h
    | bk => exact h
    | ct => exact h
    | ret rv =>
      intro v C hr hC
      refine h v C hr fun z m => ?_
      rcases hC z m with w | w
      · exact .inl (Classical.byContradiction fun n => x.d z n w)
      · rcases x.b z w with w | w | w
        · exact .inr w
        · exact .inl w
        · exact w.elim
def m_nx : M Fl := M.ret .nx
def m_seq (a b : M Fl) : M Fl := a.bind fun f => match f with
  | .nx => b
  | f => M.ret f
def m_ifs (t : M Bool) (a b : M Fl) : M Fl := t.bind fun c => if c = true then a else b
def m_expr (m : M Rv) : M Fl := m.bind fun _ => m_nx
def m_ret (m : M Rv) : M Fl := m.bind fun r => M.ret (.ret r)
def m_retN : M Fl := M.ret (.ret (.t (.v .non)))
def m_bk : M Fl := M.ret .bk
def m_ct : M Fl := M.ret .ct
def setSl (i : Nat) (rv : Rv) (ρ : Sg) : Option Sg := match ρ[i]? with
  | none => none
  | some (some (.io _)) => none
  | some _ => match rv with
    | .t t => some (ρ.set i (some (.t t)))
    | .lent d => some (ρ.set i (some (.lent d)))
    | .pk _ => none
abbrev Tg := Rv → Sg → Option Sg
def m_asg (m : M Rv) (g : Tg) : M Fl := m.bind fun r => fun ρ => (g r ρ).map fun ρ' => (.ok .nx, ρ')
abbrev m_set (i : Nat) (m : M Rv) : M Fl := m_asg m (setSl i)
def compsR : Rv → Option (List Rv)
  | .t (.v (.tup ds)) => some (ds.map fun d => .t (.v d))
  | .lent (.tup ds) => some (ds.map lv)
  | .t (.tup ts) => some (ts.map .t)
  | _ => none
def tgNil : List Rv → Sg → Option Sg
  | [], ρ => some ρ
  | _ :: _, _ => none
def tgCons (g : Tg) (gs : List Rv → Sg → Option Sg) : List Rv → Sg → Option Sg
  | r :: rs, ρ => (g r ρ).bind fun ρ1 => gs rs ρ1
  | [], _ => none
def tgTup (n : Nat) (gs : List Rv → Sg → Option Sg) : Tg := fun rv ρ => (compsR rv).bind fun rs => if rs.length = n then gs rs ρ else none
/-- targets -/
structure Off (S : List Nat) (σ σ' : L2.St) : Prop where
  len : σ'.length = σ.length
  off : ∀ j, j ∉ S → σ'[j]? = σ[j]?
theorem Off.refl {S : List Nat} {σ : L2.St} : Off S σ σ := ⟨rfl, fun _ _ => rfl⟩
theorem Off.trans {S S' : List Nat} {σ σ1 σ2 : L2.St} (x : Off S σ σ1) (y : Off S' σ1 σ2) : Off (S ++ S') σ σ2 := ⟨y.len.trans x.len, fun j n => (y.off j fun m => n (List.mem_append_right _ m)).trans (x.off j fun m => n (List.mem_append_left _ m))⟩
def SimG (cl : Str → Addr) (g : TG) (tg : Tg) (S : List Nat) : Prop := ∀ F L A ρ σ H rv v C, R cl F L A ρ σ H → RelRv cl F L A σ H rv v C → ∀ ρ', tg rv ρ = some ρ' → ∀ Q : L2.St → Hp → Prop,
  (∀ A' σ', (∀ x, Own A' x → Own A x ∨ x ∈ C) → Off S σ σ' → R cl F L A' ρ' σ' H → Q σ' H) → g v σ H Q
/-- results that hang side by side, no peeks -/
inductive RelNs (cl : Str → Addr) (F : Addr → Prop) (L : LL) (H : Hp) : List Rv → List V → List Addr → Prop
  | nil : RelNs cl F L H [] [] []
  | t {t : T} {v : V} {rs : List Rv} {vs : List V} {B C : List Addr} : RelT cl F H t v B → RelNs cl F L H rs vs C → RelNs cl F L H (.t t :: rs) (v :: vs) (B ++ C)
  | lent {d : D} {v : V} {rs : List Rv} {vs : List V} {C : List Addr} : RelD cl (Un2 F L) H d v → RelNs cl F L H rs vs C → RelNs cl F L H (.lent d :: rs) (v :: vs) C
def SimGs (cl : Str → Addr) (g : TGs) (tg : List Rv → Sg → Option Sg) (S : List Nat) : Prop := ∀ F L A ρ σ H rvs vs C, R cl F L A ρ σ H → RelNs cl F L H rvs vs C → C.Nodup → (∀ a ∈ C, ¬ F a ∧ ¬ L a ∧ ¬ Own A a) → ∀ ρ', tg rvs ρ = some ρ' → ∀ Q : L2.St → Hp → Prop,
  (∀ A' σ', (∀ x, Own A' x → Own A x ∨ x ∈ C) → Off S σ σ' → R cl F L A' ρ' σ' H → Q σ' H) → g vs σ H Q
section
variable {cl : Str → Addr} {W : WX} {F : Addr → Prop} {L : LL} {H : Hp} {A : Nat → List Addr} {ρ : Sg} {σ : L2.St}
theorem R.setSl (r : R cl F L A ρ σ H) {i : Nat} {rv : Rv} {v : V} {C : List Addr} {ρ' : Sg} (h : RelRv cl F L A σ H rv v C) (e : setSl i rv ρ = some ρ') : R cl F L (setA A i C) ρ' (σ.set i (some v)) H := by
  unfold W3.setSl at e
  split at e
  · cases e
  · cases e
  · rename_i o hn hi
    have hl : i < ρ.length := (List.getElem?_eq_some_iff.mp hi).1
    have hp : L.pn i = none := r.unpin fun t z => by
      rw [hi] at z
      have z := Option.some.inj z
      subst z
      exact hn t rfl
    have hσ : ∀ j, j ≠ i → (σ.set i (some v))[j]? = σ[j]? := fun j n => by rw [List.getElem?_set_ne (Ne.symm n)]
    have hv : (σ.set i (some v))[i]? = some (some v) := by rw [List.getElem?_set_self (by rw [← r.len]; exact hl)]
    split at e
    · rename_i t
      cases e
      obtain ⟨h1, h2, h3⟩ := h
      have dm := RelT.dom t v C h1
      refine r.put i (by rw [List.length_set]) hσ (fun s es _ => ?_) h2 (fun a m => ⟨(h3 a m).1, (h3 a m).2.1, dm a m⟩) (fun j a n m m2 => (h3 a m).2.2 ⟨j, m2⟩) hp
      cases es
      exact ⟨v, hv, h1⟩
    · rename_i d
      cases e
      obtain ⟨h1, h2⟩ := h
      subst h1
      refine r.put i (by rw [List.length_set]) hσ (fun s es _ => ?_) List.nodup_nil (fun a m => nomatch m) (fun j a n m m2 => nomatch m) hp
      cases es
      exact ⟨v, hv, h2⟩
    · cases e
theorem simG_nm {i : Nat} : SimG cl (gName i) (setSl i) [i] := fun F L A ρ σ H rv v C r h ρ' e Q hQ =>
  hQ (setA A i C) _ (fun x o => (own_setA o).elim .inr fun ⟨j, _, m⟩ => .inl ⟨j, m⟩) ⟨by rw [List.length_set], fun j n => by rw [List.getElem?_set_ne (fun z => n (by rw [z]; exact List.mem_singleton_self j))]⟩ (r.setSl h e)
theorem simGs_nil : SimGs cl gNil tgNil [] := fun F L A ρ σ H rvs vs C r h _ _ ρ' e Q hQ => by
  cases h with
  | nil =>
    cases e
    exact ⟨rfl, hQ A σ (fun x o => .inl o) Off.refl r⟩
  | _ => cases e
theorem simGs_cons {g : TG} {gs : TGs} {tg : Tg} {tgs : List Rv → Sg → Option Sg} {S S' : List Nat} (h1 : SimG cl g tg S) (h2 : SimGs cl gs tgs S') : SimGs cl (gCons g gs) (tgCons tg tgs) (S ++ S') := fun F L A ρ σ H rvs vs C r h nd ap ρ' e Q hQ => by
  cases h with
  | nil => cases e
  | @t t v rs vs B C h3 h4 =>
    have e : (tg (.t t) ρ).bind (fun ρ1 => tgs rs ρ1) = some ρ' := e
    cases e1 : tg (.t t) ρ with
    | none => rw [e1] at e; cases e
    | some ρ1 =>
      rw [e1, Option.bind_some] at e
      obtain ⟨n1, n2, n3⟩ := List.nodup_append.mp nd
      refine ⟨v, vs, rfl, h1 F L A ρ σ H (.t t) v B r ⟨h3, n1, fun a m => ap a (List.mem_append_left _ m)⟩ ρ1 e1 _ fun A1 σ1 x1 o1 r1 => ?_⟩
      refine h2 F L A1 ρ1 σ1 H rs vs C r1 h4 n2 (fun a m => ⟨(ap a (List.mem_append_right _ m)).1, (ap a (List.mem_append_right _ m)).2.1, fun o => ?_⟩) ρ' e Q fun A2 σ2 x2 o2 r2 => hQ A2 σ2 (fun x o => ?_) (o1.trans o2) r2
      · rcases x1 a o with w | w
        · exact (ap a (List.mem_append_right _ m)).2.2 w
        · exact n3 a w a m rfl
      · rcases x2 x o with w | w
        · rcases x1 x w with w | w
          · exact .inl w
          · exact .inr (List.mem_append_left _ w)
        · exact .inr (List.mem_append_right _ w)
  | @lent d v rs vs C h3 h4 =>
    have e : (tg (.lent d) ρ).bind (fun ρ1 => tgs rs ρ1) = some ρ' := e
    cases e1 : tg (.lent d) ρ with
    | none => rw [e1] at e; cases e
    | some ρ1 =>
      rw [e1, Option.bind_some] at e
      refine ⟨v, vs, rfl, h1 F L A ρ σ H (.lent d) v [] r ⟨rfl, h3⟩ ρ1 e1 _ fun A1 σ1 x1 o1 r1 => ?_⟩
      refine h2 F L A1 ρ1 σ1 H rs vs C r1 h4 nd (fun a m => ⟨(ap a m).1, (ap a m).2.1, fun o => (x1 a o).elim (ap a m).2.2 fun w => nomatch w⟩) ρ' e Q fun A2 σ2 x2 o2 r2 => hQ A2 σ2 (fun x o => ?_) (o1.trans o2) r2
      rcases x2 x o with w | w
      · exact .inl ((x1 x w).elim id fun w => nomatch w)
      · exact .inr w
theorem relNs_v : ∀ {ds : List D} {vs : List V}, RelDs cl F H ds vs → RelNs cl F L H (ds.map fun d => .t (.v d)) vs []
  | [], _, h => by cases h; exact .nil
  | d :: ds, _, h => by
    cases h with
    | cons h1 h2 => exact RelNs.t (B := []) (.v h1) (relNs_v h2)
theorem relNs_l : ∀ {ds : List D} {vs : List V}, RelDs cl (Un2 F L) H ds vs → RelNs cl F L H (ds.map lv) vs []
  | [], _, h => by cases h; exact .nil
  | d :: ds, _, h => by
    cases h with
    | @cons _ v _ _ h1 h2 =>
      have q : RelRv cl F L (fun _ => []) [] H (lv d) v [] := lv_rel h1
      have ih := relNs_l h2
      show RelNs cl F L H (lv d :: ds.map lv) _ []
      revert q
      cases lv d with
      | t t => intro q; exact RelNs.t (B := []) q.1 ih
      | lent d => intro q; exact RelNs.lent q.2 ih
      | pk i => intro q; cases (show ([] : L2.St)[i]? = some (some v) from q.2)
theorem relNs_t : ∀ {ts : List T} {vs : List V} {B : List Addr}, RelTs cl F H ts vs B → RelNs cl F L H (ts.map .t) vs B
  | [], _, _, h => by cases h; exact .nil
  | d :: ds, _, _, h => by
    cases h with
    | cons h1 h2 => exact RelNs.t h1 (relNs_t h2)
theorem compsR_rel {rv : Rv} {v : V} {C : List Addr} {rs : List Rv} (h : RelRv cl F L A σ H rv v C) (e : compsR rv = some rs) : ∃ a vs C', v = .ref a ∧ H a = some (.tup vs) ∧ RelNs cl F L H rs vs C' ∧ C'.Nodup ∧ (∀ x ∈ C', x ∈ C) ∧ ∀ x ∈ C', ¬ F x ∧ ¬ L x ∧ ¬ Own A x := by
  unfold compsR at e
  split at e
  · cases e
    have q := (relV_v h).2
    cases q with
    | tup f q1 q2 => exact ⟨_, _, [], rfl, q1, relNs_v q2, List.nodup_nil, (fun x m => nomatch m), fun x m => nomatch m⟩
  · cases e
    have q := h.2
    cases q with
    | tup f q1 q2 => exact ⟨_, _, [], rfl, q1, relNs_l q2, List.nodup_nil, (fun x m => nomatch m), fun x m => nomatch m⟩
  · cases e
    obtain ⟨h1, h2, h3⟩ := h
    cases h1 with
    | tup q1 q2 => exact ⟨_, _, _, rfl, q1, relNs_t q2, (List.nodup_cons.mp h2).2, fun x m => List.mem_cons_of_mem _ m, fun x m => h3 x (List.mem_cons_of_mem _ m)⟩
  · cases e
theorem RelNs.length {rs : List Rv} {vs : List V} {C : List Addr} (h : RelNs cl F L H rs vs C) : rs.length = vs.length := by
  induction h with
  | nil => rfl
  | t _ _ ih => rw [List.length_cons, List.length_cons, ih]
  | lent _ _ ih => rw [List.length_cons, List.length_cons, ih]
theorem simG_tup {K : PySem.W.Frag} {n : Nat} {gs : TGs} {tgs : List Rv → Sg → Option Sg} {S : List Nat} (h : SimGs cl gs tgs S) : SimG cl (gTup K n gs) (tgTup n tgs) S := fun F L A ρ σ H rv v C r hr ρ' e Q hQ => by
  unfold tgTup at e
  cases e1 : compsR rv with
  | none => rw [e1] at e; cases e
  | some rs =>
    rw [e1, Option.bind_some] at e
    by_cases hn : rs.length = n
    · rw [if_pos hn] at e
      obtain ⟨a, vs, C', q1, q2, q3, q4, q5, q6⟩ := compsR_rel hr e1
      exact ⟨a, vs, q1, .inl (.inl q2), q3.length.symm.trans hn, h F L A ρ σ H rs vs C' r q3 q4 q6 ρ' e Q fun A' σ' x o' r' => hQ A' σ' (fun z o => (x z o).imp_right (q5 z)) o' r'⟩
    · rw [if_neg hn] at e
      cases e
/-! ### assignment and its like -/
theorem sim_asg {te : TE} {g : TG} {tg : Tg} {S : List Nat} {m : M Rv} (h : Sim cl (RelRv cl) W te m) (hg : SimG cl g tg S) : SimS cl W (tAsg te g) (m_asg m tg) := fun F L A ρ σ H r o ρ' em D hD => by
  unfold m_asg M.bind at em
  cases e1 : m ρ with
  | none => rw [e1] at em; cases em
  | some p =>
    obtain ⟨oa, ρ1⟩ := p
    rw [e1] at em
    cases oa with
    | exc c d =>
      cases em
      exact h F L A ρ σ H r _ _ e1 _ fun F' A' H' x r' => hD F' A' σ H' x r'
    | ok rv =>
      simp only at em
      cases e2 : tg rv ρ1 with
      | none => rw [e2] at em; cases em
      | some ρ2 =>
        rw [e2] at em
        cases em
        refine h F L A ρ σ H r _ _ e1 _ fun F' A' H' x r' => ?_
        intro v C hr hC
        refine hg F' L A' ρ1 σ H' rv v C r' hr _ e2 _ fun A2 σ2 x2 _ r2 => ?_
        exact hD F' A2 σ2 H' ⟨x.f, x.nf, x.k, x.d, fun a o => (x2 a o).elim (x.b a) fun m => (hC a m).elim (fun w => .inr (.inl w)) fun w => w.elim .inl fun w => w.elim⟩ r2
theorem simS_nx : SimS cl W tNext m_nx := fun F L A ρ σ H r o ρ' em D hD => by
  cases em
  exact hD F A σ H Ext.refl r
theorem simS_seq {t u : TS} {a b : M Fl} (ha : SimS cl W t a) (hb : SimS cl W u b) : SimS cl W (tSeq t u) (m_seq a b) := fun F L A ρ σ H r o ρ' em D hD => by
  unfold m_seq M.bind at em
  cases e1 : a ρ with
  | none => rw [e1] at em; cases em
  | some p =>
    obtain ⟨oa, ρ1⟩ := p
    rw [e1] at em
    refine ha F L A ρ σ H r _ _ e1 { D with nx := u D } fun F' A' σ' H' x r' => ?_
    cases oa with
    | exc c d =>
      cases em
      exact hD F' A' σ' H' x r'
    | ok f =>
      cases f with
      | nx => exact hb F' L A' ρ1 σ' H' r' o ρ' em D fun F2 A2 σ2 H2 y r2 => (hD F2 A2 σ2 H2 (x.trans0 y) r2).back x
      | bk =>
        cases em
        exact hD F' A' σ' H' x r'
      | ct =>
        cases em
        exact hD F' A' σ' H' x r'
      | ret rv =>
        cases em
        exact hD F' A' σ' H' x r'
theorem simS_ret {te : TE} {m : M Rv} (h : Sim cl (RelRv cl) W te m) : SimS cl W (tRet te) (m_ret m) := fun F L A ρ σ H r o ρ' em D hD => by
  unfold m_ret M.bind at em
  cases e1 : m ρ with
  | none => rw [e1] at em; cases em
  | some p =>
    obtain ⟨oa, ρ1⟩ := p
    rw [e1] at em
    cases oa with
    | exc c d =>
      cases em
      exact h F L A ρ σ H r _ _ e1 _ fun F' A' H' x r' => hD F' A' σ H' x r'
    | ok rv =>
      cases em
      refine h F L A ρ σ H r _ _ e1 _ fun F' A' H' x r' => ?_
      intro v C hr hC
      exact hD F' A' σ H' x r' v C hr fun z m => (hC z m).imp_right fun w => w.elim id False.elim
theorem simS_retN : SimS cl W tRetN m_retN := fun F L A ρ σ H r o ρ' em D hD => by
  cases em
  exact hD F A σ H Ext.refl r .non [] (rel_fv rfl) fun x m => nomatch m
theorem simS_expr {te : TE} {m : M Rv} (h : Sim cl (RelRv cl) W te m) : SimS cl W (tDrop te) (m_expr m) := fun F L A ρ σ H r o ρ' em D hD => by
  unfold m_expr M.bind at em
  cases e1 : m ρ with
  | none => rw [e1] at em; cases em
  | some p =>
    obtain ⟨oa, ρ1⟩ := p
    rw [e1] at em
    cases oa with
    | exc c d =>
      cases em
      exact h F L A ρ σ H r _ _ e1 _ fun F' A' H' x r' => hD F' A' σ H' x r'
    | ok rv =>
      cases em
      refine h F L A ρ σ H r _ _ e1 _ fun F' A' H' x r' => ?_
      intro v C hr hC
      exact hD F' A' σ H' x r'
theorem simS_if {tc : TT} {t u : TS} {c : M Bool} {a b : M Fl} (hc : Sim cl RelB W tc c) (ha : SimS cl W t a) (hb : SimS cl W u b) : SimS cl W (tIfS tc t u) (m_ifs c a b) := fun F L A ρ σ H r o ρ' em D hD => by
  unfold m_ifs M.bind at em
  cases e1 : c ρ with
  | none => rw [e1] at em; cases em
  | some p =>
    obtain ⟨oa, ρ1⟩ := p
    rw [e1] at em
    cases oa with
    | exc c d =>
      cases em
      exact hc F L A ρ σ H r _ _ e1 _ fun F' A' H' x r' => hD F' A' σ H' x r'
    | ok k =>
      refine hc F L A ρ σ H r _ _ e1 _ fun F' A' H' x r' => ?_
      intro b' C hr hC
      obtain ⟨e2, _⟩ := hr
      subst e2
      simp only at em
      cases k with
      | true =>
        rw [if_pos rfl] at em ⊢
        exact ha F' L A' ρ1 σ H' r' o ρ' em D fun F2 A2 σ2 H2 y r2 => (hD F2 A2 σ2 H2 (x.trans0 y) r2).back x
      | false =>
        rw [if_neg Bool.false_ne_true] at em ⊢
        exact hb F' L A' ρ1 σ H' r' o ρ' em D fun F2 A2 σ2 H2 y r2 => (hD F2 A2 σ2 H2 (x.trans0 y) r2).back x
end
section
variable {ι : Type} {Xf : ι → Cx} {cl : Str → Addr} {W : WX} {e c : Expr} {es : List Expr} {st : Stmt} {sts sts2 : List Stmt} {m : M Rv} {a b : M Fl} {ct : M Bool} {pos : Pos}
theorem pms_nil : PMSs Xf cl W [] m_nx := ⟨tNext, fun _ => pss_nil, simS_nx⟩
theorem pms_cons (h : PMS Xf cl W st a) (g : PMSs Xf cl W sts b) : PMSs Xf cl W (st :: sts) (m_seq a b) := by
  obtain ⟨t, h1, h2⟩ := h
  obtain ⟨u, g1, g2⟩ := g
  exact ⟨tSeq t u, fun i => pss_cons (h1 i) (g1 i), simS_seq h2 g2⟩
theorem pms_one (h : PMS Xf cl W st a) : PMSs Xf cl W [st] a := by
  obtain ⟨t, h1, h2⟩ := h
  exact ⟨t, fun i => pss_one (h1 i), h2⟩
theorem pms_pass : PMS Xf cl W (.Pass pos) m_nx := ⟨tNext, fun _ => ps_pass, simS_nx⟩
theorem pms_break : PMS Xf cl W (.Break pos) m_bk := ⟨tBreak, fun _ => ps_break, fun F L A ρ σ H r o ρ' em D hD => by cases em; exact hD F A σ H Ext.refl r⟩
theorem pms_continue : PMS Xf cl W (.Continue pos) m_ct := ⟨tCont, fun _ => ps_continue, fun F L A ρ σ H r o ρ' em D hD => by cases em; exact hD F A σ H Ext.refl r⟩
theorem pms_expr (h : PM Xf cl W e m) (hs : ∀ i, swapsWith e none pos.line (Xf i).env = pure false := by intro _; rfl) : PMS Xf cl W (.Expr e pos) (m_expr m) := by
  obtain ⟨t, h1, h2⟩ := h
  exact ⟨tDrop t, fun i => ps_expr (h1 i) (hs i), simS_expr h2⟩
theorem pms_ret (h : PM Xf cl W e m) : PMS Xf cl W (.Return (some e) pos) (m_ret m) := by
  obtain ⟨t, h1, h2⟩ := h
  exact ⟨tRet t, fun i => ps_ret (h1 i), simS_ret h2⟩
theorem pms_retN : PMS Xf cl W (.Return none pos) m_retN := ⟨tRetN, fun _ => ps_retN, simS_retN⟩
theorem pms_if (hc : PMT Xf cl W c ct) (ha : PMSs Xf cl W sts a) (hb : PMSs Xf cl W sts2 b) : PMS Xf cl W (.If c sts sts2 pos) (m_ifs ct a b) := by
  obtain ⟨t, h1, h2⟩ := hc
  obtain ⟨u, g1, g2⟩ := ha
  obtain ⟨w, k1, k2⟩ := hb
  exact ⟨tIfS t u w, fun i => ps_if (h1 i) (g1 i) (k1 i), simS_if h2 g2 k2⟩
theorem pms_set {i : Nat} {x : Str} {pos' : Pos} (h : PM Xf cl W e m) (hN : ∀ j, (Xf j).N.Nodup) (hi : ∀ j, (Xf j).N[i]? = some x := by intro _; rfl) (hx : ∀ j, Loc (Xf j).env.scope x := by intro _; first | exact Or.inl rfl | exact Or.inr rfl)
    (hf : ∀ j, (Xf j).fn x = true ∨ (Xf j).env.scope.names.lookup x = some .local := by intro _; first | exact .inl rfl | exact .inr rfl)
    (hs : ∀ j, swapsWith e (some (.Name x pos')) pos.line (Xf j).env = pure false := by intro _; rfl) : PMS Xf cl W (.Assign [.Name x pos'] e pos) (m_set i m) := by
  obtain ⟨t, h1, h2⟩ := h
  exact ⟨tAsg t (gName i), fun j => ps_set (hN j) (hi j) (hx j) (h1 j) (hs j) (hf j), sim_asg h2 simG_nm⟩
/-- targets as judgements -/
def PMG (Xf : ι → Cx) (cl : Str → Addr) (tg : Expr) (g : Tg) (S : List Nat) : Prop := ∃ t : TG, (∀ i, PG (Xf i) tg t) ∧ SimG cl t g S
def PMGs (Xf : ι → Cx) (cl : Str → Addr) (tgs : List Expr) (g : List Rv → Sg → Option Sg) (S : List Nat) : Prop := ∃ t : TGs, (∀ i, PGs (Xf i) tgs t) ∧ SimGs cl t g S
theorem pmg_nm {i : Nat} {x : Str} (hN : ∀ j, (Xf j).N.Nodup) (hi : ∀ j, (Xf j).N[i]? = some x := by intro _; rfl) (hx : ∀ j, Loc (Xf j).env.scope x := by intro _; first | exact Or.inl rfl | exact Or.inr rfl)
    (hf : ∀ j, (Xf j).fn x = true ∨ (Xf j).env.scope.names.lookup x = some .local := by intro _; first | exact .inl rfl | exact .inr rfl) : PMG Xf cl (.Name x pos) (setSl i) [i] := ⟨gName i, fun j => pg_name (hN j) (hi j) (hx j) (hf j), simG_nm⟩
theorem pmgs_nil : PMGs Xf cl [] tgNil [] := ⟨gNil, fun _ => pgs_nil, simGs_nil⟩
theorem pmgs_cons {e : Expr} {es : List Expr} {g : Tg} {gs : List Rv → Sg → Option Sg} {S S' : List Nat} (h : PMG Xf cl e g S) (hs : PMGs Xf cl es gs S') (he : ∀ i, (assignEach (e :: es) (Xf i).env).map (·.2) = assign e (Xf i).env :: (assignEach es (Xf i).env).map (·.2) := by intro _; rfl) : PMGs Xf cl (e :: es) (tgCons g gs) (S ++ S') := by
  obtain ⟨t, h1, h2⟩ := h
  obtain ⟨u, g1, g2⟩ := hs
  exact ⟨gCons t u, fun i => pgs_cons (h1 i) (g1 i) (he i), simGs_cons h2 g2⟩
theorem pmg_tup {es : List Expr} {k n : Nat} {gs : List Rv → Sg → Option Sg} {S : List Nat} {K : PySem.W.Frag} (hK : ∀ i, (Xf i).K = K) (hc : ∀ i, (Xf i).calm = true) (h : PMGs Xf cl es gs S)
    (hn : ∀ i, (assignEach es (Xf i).env).length = n := by intro _; rfl) (hst : ∀ i, (assignEach es (Xf i).env).findIdx? (·.1) = none := by intro _; rfl) : PMG Xf cl (.Tuple es k pos) (tgTup n gs) S := by
  obtain ⟨t, h1, h2⟩ := h
  exact ⟨gTup K n t, fun i => by rw [← hK i]; exact pg_tup (hc i) (h1 i) (hn i) (hst i), simG_tup h2⟩
theorem pms_asg {tg : Expr} {g : Tg} {S : List Nat} (h : PM Xf cl W e m) (hg : PMG Xf cl tg g S) (hs : ∀ i, swapsWithSole [tg] e pos.line (Xf i).env = pure false := by intro _; rfl) (hw : ∀ i, swappedStores [tg] e (Xf i).env = pure none := by intro _; rfl)
    (h1 : ∀ i, (assignEach [tg] (Xf i).env).map (·.2) = [assign tg (Xf i).env] := by intro _; rfl) : PMS Xf cl W (.Assign [tg] e pos) (m_asg m g) := by
  obtain ⟨t, k1, k2⟩ := h
  obtain ⟨u, g1, g2⟩ := hg
  exact ⟨tAsg t u, fun i => ps_asg (k1 i) (g1 i) (hs i) (hw i) (h1 i), sim_asg k2 g2⟩
end
end W3

/-! C8: loops, comprehensions. -/
namespace W3
open PySem PySem.Spec L2

/-! ### what is walked -/
/-- J yields these items, whatever else has changed -/
def ItOk (cl : Str → Addr) (J : It) (items : List Rv) (F1 : Addr → Prop) (L : LL) (H1 : Hp) : Prop := ∀ F2 A2 ρ2 σ2 H2, R cl F2 L A2 ρ2 σ2 H2 → (∀ a, F1 a → F2 a) → (∀ a o, F1 a ∨ L a → H1 a = some o → H2 a = some o) →
  (∀ (i : Nat) rv, items[i]? = some rv → J.go i H2 ∧ ∀ x H', J.yld i H2 x H' → ∃ F3, Ext F2 (Own A2) NoZ H2 F3 (Own A2) H' ∧ R cl F3 L A2 ρ2 σ2 H' ∧ RelRv cl F3 L A2 σ2 H' rv x []) ∧ J.stop items.length H2
def SimI (cl : Str → Addr) (W : WX) (wi : TI) (mi : M (List Rv)) : Prop := ∀ F L A ρ σ H, R cl F L A ρ σ H → ∀ o ρ', mi ρ = some (o, ρ') → ∀ Rr : It → Hp → Prop,
  (∀ F' A' H', Ext F (Own A) NoZ H F' (Own A') H' → R cl F' L A' ρ' σ H' → match o with
    | .ok items => ∀ J, ItOk cl J items F' L H' → Rr J H'
    | .exc c d => ∀ dx v, H' dx = some (.xd [("value", v)]) → RelD cl F' H' d v → W (.ref (cl c)) (some dx) σ H') → wi σ H Rr
/-- the items of a frozen or lent sequence -/
def iterK : Rv → Option (Bool × List Rv)
  | .t (.v (.lst ds)) => some (true, ds.map fun d => .t (.v d))
  | .t (.v (.tup ds)) => some (false, ds.map fun d => .t (.v d))
  | .lent (.lst ds) => some (true, ds.map lv)
  | .lent (.tup ds) => some (false, ds.map lv)
  | _ => none
def iterL (r : Rv) : Option (List Rv) := match iterK r with
  | some (true, l) => some l
  | _ => none
def iterT (r : Rv) : Option (List Rv) := match iterK r with
  | some (false, l) => some l
  | _ => none
section
variable {cl : Str → Addr} {W : WX} {F : Addr → Prop} {L : LL} {H : Hp} {A : Nat → List Addr} {ρ : Sg} {σ : L2.St}
theorem rel_lv {G : Addr → Prop} {d : D} {v : V} (h : RelD cl (Un2 G L) H d v) : RelRv cl G L A σ H (lv d) v [] := lv_rel h
/-- the object behind, and how its items stand later -/
theorem iterK_rel {rv : Rv} {v : V} {C : List Addr} {k : Bool} {items : List Rv} (h : RelRv cl F L A σ H rv v C) (e : iterK rv = some (k, items)) : ∃ a vs, v = .ref a ∧ (F a ∨ L a) ∧ (if k = true then Rd H a (.lst vs) else H a = some (.tup vs)) ∧ items.length = vs.length ∧
    ∀ F2 A2 σ2 H2, (∀ a, F a → F2 a) → (∀ a o, F a ∨ L a → H a = some o → H2 a = some o) → ∀ (i : Nat) rv, items[i]? = some rv → ∃ x, vs[i]? = some x ∧ RelRv cl F2 L A2 σ2 H2 rv x [] := by
  have fv : ∀ {ds : List D} {vs : List V}, RelDs cl F H ds vs → ∀ F2 A2 σ2 H2, (∀ a, F a → F2 a) → (∀ a o, F a ∨ L a → H a = some o → H2 a = some o) → ∀ (i : Nat) rv, (ds.map fun d => Rv.t (.v d))[i]? = some rv → ∃ x, vs[i]? = some x ∧ RelRv cl F2 L A2 σ2 H2 rv x [] := fun {ds vs} q F2 A2 σ2 H2 hF hH i rv e => by
    rw [List.getElem?_map] at e
    cases e1 : ds[i]? with
    | none => rw [e1] at e; cases e
    | some d =>
      rw [e1] at e
      cases e
      obtain ⟨x, e2, r⟩ := q.get e1
      exact ⟨x, e2, rel_v (RelD.keep hF (fun a o f e => hH a o (.inl f) e) d x r)⟩
  have fl : ∀ {ds : List D} {vs : List V}, RelDs cl (Un2 F L) H ds vs → ∀ F2 A2 σ2 H2, (∀ a, F a → F2 a) → (∀ a o, F a ∨ L a → H a = some o → H2 a = some o) → ∀ (i : Nat) rv, (ds.map lv)[i]? = some rv → ∃ x, vs[i]? = some x ∧ RelRv cl F2 L A2 σ2 H2 rv x [] := fun {ds vs} q F2 A2 σ2 H2 hF hH i rv e => by
    rw [List.getElem?_map] at e
    cases e1 : ds[i]? with
    | none => rw [e1] at e; cases e
    | some d =>
      rw [e1] at e
      cases e
      obtain ⟨x, e2, r⟩ := q.get e1
      exact ⟨x, e2, lv_rel (RelD.keep (fun a h => h.elim (fun h => .inl (hF a h)) .inr) (fun a o f e => hH a o f e) d x r)⟩
  unfold iterK at e
  split at e
  · cases e
    have q := (relV_v h).2
    cases q with
    | lst f q1 q2 => exact ⟨_, _, rfl, .inl f, by rw [if_pos rfl]; exact q1, by rw [List.length_map]; exact q2.length, fv q2⟩
  · cases e
    have q := (relV_v h).2
    cases q with
    | tup f q1 q2 => exact ⟨_, _, rfl, .inl f, by rw [if_neg Bool.false_ne_true]; exact q1, by rw [List.length_map]; exact q2.length, fv q2⟩
  · cases e
    have q := h.2
    cases q with
    | lst f q1 q2 => exact ⟨_, _, rfl, f, by rw [if_pos rfl]; exact q1, by rw [List.length_map]; exact q2.length, fl q2⟩
  · cases e
    have q := h.2
    cases q with
    | tup f q1 q2 => exact ⟨_, _, rfl, f, by rw [if_neg Bool.false_ne_true]; exact q1, by rw [List.length_map]; exact q2.length, fl q2⟩
  · cases e
theorem iterL_rel {rv : Rv} {v : V} {C : List Addr} {items : List Rv} (h : RelRv cl F L A σ H rv v C) (e : iterL rv = some items) : ∃ a vs, v = .ref a ∧ (F a ∨ L a) ∧ Rd H a (.lst vs) ∧ items.length = vs.length ∧
    ∀ F2 A2 σ2 H2, (∀ a, F a → F2 a) → (∀ a o, F a ∨ L a → H a = some o → H2 a = some o) → ∀ (i : Nat) rv, items[i]? = some rv → ∃ x, vs[i]? = some x ∧ RelRv cl F2 L A2 σ2 H2 rv x [] := by
  unfold iterL at e
  split at e
  · rename_i l e1
    cases e
    obtain ⟨a, vs, q1, q2, q3, q4⟩ := iterK_rel h e1
    rw [if_pos rfl] at q3
    exact ⟨a, vs, q1, q2, q3, q4⟩
  · cases e
theorem iterT_rel {rv : Rv} {v : V} {C : List Addr} {items : List Rv} (h : RelRv cl F L A σ H rv v C) (e : iterT rv = some items) : ∃ a vs, v = .ref a ∧ (F a ∨ L a) ∧ H a = some (.tup vs) ∧ items.length = vs.length ∧
    ∀ F2 A2 σ2 H2, (∀ a, F a → F2 a) → (∀ a o, F a ∨ L a → H a = some o → H2 a = some o) → ∀ (i : Nat) rv, items[i]? = some rv → ∃ x, vs[i]? = some x ∧ RelRv cl F2 L A2 σ2 H2 rv x [] := by
  unfold iterT at e
  split at e
  · rename_i l e1
    cases e
    obtain ⟨a, vs, q1, q2, q3, q4⟩ := iterK_rel h e1
    rw [if_neg Bool.false_ne_true] at q3
    exact ⟨a, vs, q1, q2, q3, q4⟩
  · cases e
theorem rd_inj {H : Hp} {a : Addr} {xs ys : List V} (h : Rd H a (.lst xs)) (g : Rd H a (.lst ys)) : xs = ys := by
  rcases h with h | ⟨o, h⟩ <;> rcases g with g | ⟨o', g⟩ <;> rw [h] at g
  · cases g; rfl
  · cases g
  · cases g
  · cases g; rfl
end
def m_iter (f : Rv → Option (List Rv)) (m : M Rv) : M (List Rv) := m.bind fun r => M.opt (f r)
def m_rng1 (ms : M (List Rv)) : M (List Rv) := ms.bind fun rs => match rs with
  | [r] => match rvI r with
    | some j => if -(2 ^ 62) ≤ j ∧ j < 2 ^ 62 then M.ret ((List.range j.toNat).map fun (i : Nat) => .t (.v (.int i))) else m_none
    | none => m_none
  | _ => m_none
def m_rng2 (ms : M (List Rv)) : M (List Rv) := ms.bind fun rs => match rs with
  | [r, r'] => match rvI r, rvI r' with
    | some i, some j => if -(2 ^ 62) ≤ i ∧ i < 2 ^ 62 ∧ -(2 ^ 62) ≤ j ∧ j < 2 ^ 62 then M.ret ((List.range (j - i).toNat).map fun (k : Nat) => .t (.v (.int (i + k)))) else m_none
    | _, _ => m_none
  | _ => m_none
def enumR (l : List Rv) : Option (List Rv) := match l.mapM rvD with
  | some ds => some ((List.range ds.length).zipWith (fun (i : Nat) d => .t (.v (.tup [.int i, d]))) ds)
  | none => none
def m_enum (ms : M (List Rv)) : M (List Rv) := ms.bind fun rs => match rs with
  | [r] => M.opt ((iterL r).bind enumR)
  | _ => m_none
section
variable {ι : Type} {cl : Str → Addr} {W : WX}
theorem simI_list {te : TE} {m : M Rv} {K : PySem.W.Frag} (h : Sim cl (RelRv cl) W te m) : SimI cl W (iList K te) (m_iter iterL m) := fun F L A ρ σ H r o ρ' em Rr hR => by
  unfold m_iter M.bind at em
  cases e1 : m ρ with
  | none => rw [e1] at em; cases em
  | some p =>
    obtain ⟨oa, ρ1⟩ := p
    rw [e1] at em
    cases oa with
    | exc c d =>
      cases em
      exact h F L A ρ σ H r _ _ e1 _ fun F' A' H' x r' => hR F' A' H' x r'
    | ok rv =>
      simp only [M.opt] at em
      cases e2 : iterL rv with
      | none => rw [e2] at em; cases em
      | some items =>
        rw [e2] at em
        cases em
        refine h F L A ρ σ H r _ _ e1 _ fun F' A' H' x r' => ?_
        intro v C hr hC
        obtain ⟨a, vs, q1, q2, q3, q4, q5⟩ := iterL_rel hr e2
        refine ⟨a, q1, ⟨vs, .inl q3⟩, hR F' A' H' x r' _ fun F2 A2 ρ2 σ2 H2 r2 hF hH => ?_⟩
        have q3' : Rd H2 a (.lst vs) := rd_keep q3 fun o e => hH a o q2 e
        refine ⟨fun i rv e => ?_, ⟨vs, .inl q3', Nat.le_of_eq q4.symm⟩⟩
        obtain ⟨x1, e3, k⟩ := q5 F2 A2 σ2 H2 hF hH i rv e
        refine ⟨⟨vs, x1, .inl q3', e3⟩, fun x H' y => ?_⟩
        obtain ⟨y1, y2⟩ := y
        subst y1
        have e4 := y2 vs (.inl q3')
        rw [e3] at e4
        cases e4
        exact ⟨F2, Ext.refl, r2, k⟩
theorem simI_tup {te : TE} {m : M Rv} {K : PySem.W.Frag} (h : Sim cl (RelRv cl) W te m) : SimI cl W (iTup K te) (m_iter iterT m) := fun F L A ρ σ H r o ρ' em Rr hR => by
  unfold m_iter M.bind at em
  cases e1 : m ρ with
  | none => rw [e1] at em; cases em
  | some p =>
    obtain ⟨oa, ρ1⟩ := p
    rw [e1] at em
    cases oa with
    | exc c d =>
      cases em
      exact h F L A ρ σ H r _ _ e1 _ fun F' A' H' x r' => hR F' A' H' x r'
    | ok rv =>
      simp only [M.opt] at em
      cases e2 : iterT rv with
      | none => rw [e2] at em; cases em
      | some items =>
        rw [e2] at em
        cases em
        refine h F L A ρ σ H r _ _ e1 _ fun F' A' H' x r' => ?_
        intro v C hr hC
        obtain ⟨a, vs, q1, q2, q3, q4, q5⟩ := iterT_rel hr e2
        refine ⟨a, q1, ⟨vs, .inl (.inl q3)⟩, hR F' A' H' x r' _ fun F2 A2 ρ2 σ2 H2 r2 hF hH => ?_⟩
        have q3' : H2 a = some (.tup vs) := hH a _ q2 q3
        refine ⟨fun i rv e => ?_, ⟨vs, .inl (.inl q3'), Nat.le_of_eq q4.symm⟩⟩
        obtain ⟨x1, e3, k⟩ := q5 F2 A2 σ2 H2 hF hH i rv e
        refine ⟨⟨vs, x1, .inl (.inl q3'), e3⟩, fun x H' y => ?_⟩
        obtain ⟨y1, y2⟩ := y
        subst y1
        have e4 := y2 vs (.inl (.inl q3'))
        rw [e3] at e4
        cases e4
        exact ⟨F2, Ext.refl, r2, k⟩
theorem itr_ok {lo : Int} {n : Nat} {F : Addr → Prop} {L : LL} {H : Hp} : ItOk cl (Itr lo n) ((List.range n).map fun (k : Nat) => .t (.v (.int (lo + k)))) F L H := fun F2 A2 ρ2 σ2 H2 r2 hF hH => by
  refine ⟨fun i rv e => ?_, by simp [Itr]⟩
  rw [List.getElem?_map] at e
  by_cases hi : i < n
  · rw [List.getElem?_range hi] at e
    cases e
    refine ⟨hi, fun x H' y => ?_⟩
    obtain ⟨y1, y2⟩ := y
    subst y1 y2
    exact ⟨F2, Ext.refl, r2, rel_fv rfl⟩
  · rw [List.getElem?_eq_none (by simpa using hi)] at e
    cases e
theorem simI_rng1 {ta : TA} {ms : M (List Rv)} (h : Sim cl (RelRvs cl) W ta ms) : SimI cl W (iRng1 ta) (m_rng1 ms) := fun F L A ρ σ H r o ρ' em Rr hR => by
  unfold m_rng1 M.bind at em
  cases e1 : ms ρ with
  | none => rw [e1] at em; cases em
  | some p =>
    obtain ⟨oa, ρ1⟩ := p
    rw [e1] at em
    cases oa with
    | exc c d =>
      cases em
      exact h F L A ρ σ H r _ _ e1 _ fun F' A' H' x r' => hR F' A' H' x r'
    | ok rs =>
      match rs, em, e1 with
      | [], em, _ => cases em
      | [rv], em, e1 =>
        simp only at em
        cases e2 : rvI rv with
        | none => rw [e2] at em; cases em
        | some j =>
          rw [e2] at em
          simp only at em
          by_cases hj : -(2 ^ 62) ≤ j ∧ j < 2 ^ 62
          · rw [if_pos hj] at em
            cases em
            refine h F L A ρ σ H r _ _ e1 _ fun F' A' H' x r' => ?_
            intro v C hr hC
            obtain ⟨w, ew, hw⟩ := relRvs1 hr
            subst ew
            rw [rvI_t e2] at hw
            have q := (relV_v hw).2
            cases q
            refine ⟨j, rfl, hj.1, hj.2, hR F' A' H' x r' _ ?_⟩
            have := itr_ok (cl := cl) (lo := 0) (n := j.toNat) (F := F') (L := L) (H := H')
            simpa using this
          · rw [if_neg hj] at em
            cases em
      | _ :: _ :: _, em, _ => cases em
theorem relRvs2 {F : Addr → Prop} {L : LL} {A : Nat → List Addr} {σ : L2.St} {H : Hp} {r r' : Rv} {vs : List V} {C : List Addr} (h : RelRvs cl F L A σ H [r, r'] vs C) : ∃ v v' B B', vs = [v, v'] ∧ RelRv cl F L A σ H r v B ∧ RelRv cl F L A σ H r' v' B' := by
  cases h with
  | cons h1 h2 hn =>
    obtain ⟨v', e, h3⟩ := relRvs1 h2
    subst e
    exact ⟨_, _, _, _, rfl, h1, h3⟩
theorem simI_rng2 {ta : TA} {ms : M (List Rv)} (h : Sim cl (RelRvs cl) W ta ms) : SimI cl W (iRng2 ta) (m_rng2 ms) := fun F L A ρ σ H r o ρ' em Rr hR => by
  unfold m_rng2 M.bind at em
  cases e1 : ms ρ with
  | none => rw [e1] at em; cases em
  | some p =>
    obtain ⟨oa, ρ1⟩ := p
    rw [e1] at em
    cases oa with
    | exc c d =>
      cases em
      exact h F L A ρ σ H r _ _ e1 _ fun F' A' H' x r' => hR F' A' H' x r'
    | ok rs =>
      match rs, em, e1 with
      | [], em, _ => cases em
      | [_], em, _ => cases em
      | [rv, rv'], em, e1 =>
        simp only at em
        cases e2 : rvI rv with
        | none => rw [e2] at em; cases em
        | some i =>
          cases e3 : rvI rv' with
          | none => rw [e2, e3] at em; cases em
          | some j =>
            rw [e2, e3] at em
            simp only at em
            by_cases hj : -(2 ^ 62) ≤ i ∧ i < 2 ^ 62 ∧ -(2 ^ 62) ≤ j ∧ j < 2 ^ 62
            · rw [if_pos hj] at em
              cases em
              refine h F L A ρ σ H r _ _ e1 _ fun F' A' H' x r' => ?_
              intro v C hr hC
              obtain ⟨w, w', B, B', ew, h1, h2⟩ := relRvs2 hr
              subst ew
              rw [rvI_t e2] at h1
              rw [rvI_t e3] at h2
              have q := (relV_v h1).2
              cases q
              have q := (relV_v h2).2
              cases q
              exact ⟨i, j, rfl, hj, hR F' A' H' x r' _ itr_ok⟩
            · rw [if_neg hj] at em
              cases em
      | _ :: _ :: _ :: _, em, _ => cases em
theorem mapM_len {α β : Type} {f : α → Option β} : ∀ {l : List α} {r : List β}, l.mapM f = some r → r.length = l.length ∧ ∀ (i : Nat) x, l[i]? = some x → ∃ y, r[i]? = some y ∧ f x = some y
  | [], r, e => by cases e; exact ⟨rfl, fun i x e => by simp at e⟩
  | a :: l, r, e => by
    rw [List.mapM_cons] at e
    cases e1 : f a with
    | none => rw [e1] at e; cases e
    | some y =>
      cases e2 : l.mapM f with
      | none => rw [e1, e2] at e; cases e
      | some ys =>
        rw [e1, e2] at e
        cases e
        obtain ⟨q1, q2⟩ := mapM_len e2
        refine ⟨by rw [List.length_cons, List.length_cons, q1], fun i x e => ?_⟩
        cases i with
        | zero => simp at e; subst e; exact ⟨y, rfl, e1⟩
        | succ i =>
          obtain ⟨z, e3, e4⟩ := q2 i x (by simpa using e)
          exact ⟨z, by simpa using e3, e4⟩
theorem simI_enum {ta : TA} {ms : M (List Rv)} {K : PySem.W.Frag} (h : Sim cl (RelRvs cl) W ta ms) : SimI cl W (iEnum K ta) (m_enum ms) := fun F L A ρ σ H r o ρ' em Rr hR => by
  unfold m_enum M.bind at em
  cases e1 : ms ρ with
  | none => rw [e1] at em; cases em
  | some p =>
    obtain ⟨oa, ρ1⟩ := p
    rw [e1] at em
    cases oa with
    | exc c d =>
      cases em
      exact h F L A ρ σ H r _ _ e1 _ fun F' A' H' x r' => hR F' A' H' x r'
    | ok rs =>
      match rs, em, e1 with
      | [], em, _ => cases em
      | [rv], em, e1 =>
        simp only [M.opt] at em
        cases e2 : iterL rv with
        | none => rw [e2] at em; cases em
        | some l =>
          rw [e2, Option.bind_some] at em
          unfold enumR at em
          cases e3 : l.mapM rvD with
          | none => rw [e3] at em; cases em
          | some ds =>
            rw [e3] at em
            cases em
            refine h F L A ρ σ H r _ _ e1 _ fun F' A' H' x r' => ?_
            intro v C hr hC
            obtain ⟨w, ew, hw⟩ := relRvs1 hr
            subst ew
            obtain ⟨a, vs, q1, q2, q3, q4, q5⟩ := iterL_rel hw e2
            subst q1
            obtain ⟨l1, l2⟩ := mapM_len e3
            refine ⟨a, vs, rfl, .inl q3, hR F' A' H' x r' _ fun F2 A2 ρ2 σ2 H2 r2 hF hH => ?_⟩
            have q3' : Rd H2 a (.lst vs) := rd_keep q3 fun o e => hH a o q2 e
            have hlen : ((List.range ds.length).zipWith (fun (i : Nat) d => Rv.t (.v (.tup [.int i, d]))) ds).length = vs.length := by
              rw [List.length_zipWith, List.length_range, l1, q4]; exact Nat.min_self _
            refine ⟨fun i rv e => ?_, ⟨vs, .inl q3', Nat.le_of_eq hlen.symm⟩⟩
            rw [List.getElem?_zipWith] at e
            cases e4 : ds[i]? with
            | none => rw [e4] at e; simp at e
            | some d =>
              have hi : i < ds.length := (List.getElem?_eq_some_iff.mp e4).1
              rw [List.getElem?_range hi, e4] at e
              cases e
              have hil : i < l.length := by rw [← l1]; exact hi
              obtain ⟨y, e5, e6⟩ := l2 i l[i] (by simp [hil])
              rw [e4] at e5
              cases e5
              obtain ⟨x1, e7, k⟩ := q5 F2 A2 σ2 H2 hF hH i l[i] (by simp [hil])
              rw [rvD_t e6] at k
              refine ⟨⟨vs, x1, .inl q3', e7⟩, fun x H' y => ?_⟩
              obtain ⟨T, x', y1, y2, y3, y4⟩ := y
              have e8 := y4 vs (.inl q3')
              rw [e7] at e8
              cases e8
              subst y1 y3
              obtain ⟨n1, n2, n3⟩ := r2.noF y2
              refine ⟨fun z => F2 z ∨ z = T, ⟨fun z h => .inl h, fun z h => h.elim .inl fun h => .inr (.inl (h ▸ y2)), fun z u e _ _ => upd_kept y2 e, (Ext.new (F := F2) (A := A2) (Z := NoZ) y2).d, fun z h => .inl h⟩, r2.ext (fun z h => .inl h) (fun z u e => upd_kept y2 e) (fun z h => ?_), ?_⟩
              · rcases h with h | h
                · refine ⟨r2.notF h, ?_⟩
                  cases e9 : H2 z with
                  | none => exact absurd e9 (r2.fd z h)
                  | some u => rw [upd_kept y2 e9]; simp
                · rw [h]
                  exact ⟨n3, by rw [upd_same]; simp⟩
              · refine rel_v (.tup (.inr rfl) upd_same (.cons (.int _) (.cons ?_ .nil)))
                exact RelD.keep (fun z h => .inl h) (fun z u _ e => upd_kept y2 e) d x1 (relV_v k).2
      | _ :: _ :: _, em, _ => cases em
end

/-! ### for -/
def mLoop (g : Tg) (body : M Fl) : List Rv → M Fl
  | [], ρ => some (.ok .nx, ρ)
  | x :: xs, ρ => match g x ρ with
    | none => none
    | some ρ1 => match body ρ1 with
      | some (.ok .nx, ρ2) => mLoop g body xs ρ2
      | some (.ok .ct, ρ2) => mLoop g body xs ρ2
      | some (.ok .bk, ρ2) => some (.ok .nx, ρ2)
      | r => r
def m_for (mi : M (List Rv)) (g : Tg) (body : M Fl) : M Fl := mi.bind fun items => mLoop g body items
section
variable {cl : Str → Addr} {W : WX}
theorem simS_for {wi : TI} {g : TG} {tb : TS} {mi : M (List Rv)} {tg : Tg} {S : List Nat} {body : M Fl} (hi : SimI cl W wi mi) (hg : SimG cl g tg S) (hb : SimS cl W tb body) : SimS cl W (tFor wi g tb) (m_for mi tg body) := fun F L A ρ σ H r o ρ' em D hD => by
  unfold m_for M.bind at em
  cases e1 : mi ρ with
  | none => rw [e1] at em; cases em
  | some p =>
    obtain ⟨oa, ρ1⟩ := p
    rw [e1] at em
    refine hi F L A ρ σ H r _ _ e1 _ fun F' A' H' x r' => ?_
    cases oa with
    | exc c d =>
      cases em
      exact hD F' A' σ H' x r'
    | ok items =>
      intro J hJ
      have em : mLoop tg body items ρ1 = some (o, ρ') := em
      refine ⟨fun i m σ2 H2 => m = items.length - i ∧ i ≤ items.length ∧ ∃ F2 A2 ρ2, Ext F (Own A) NoZ H F2 (Own A2) H2 ∧ (∀ a, F' a → F2 a) ∧ (∀ a o, F' a ∨ L a → H' a = some o → H2 a = some o) ∧ R cl F2 L A2 ρ2 σ2 H2 ∧ mLoop tg body (items.drop i) ρ2 = some (o, ρ'),
        ⟨_, rfl, Nat.zero_le _, F', A', ρ1, x, fun _ h => h, fun _ _ _ h => h, r', em⟩, ?_⟩
      rintro i m σ2 H2 ⟨rfl, hi, F2, A2, ρ2, x2, hF, hH, r2, em2⟩
      obtain ⟨it1, it2⟩ := hJ F2 A2 ρ2 σ2 H2 r2 hF hH
      by_cases hlt : i < items.length
      · obtain ⟨rv, hrv⟩ : ∃ rv, items[i]? = some rv := ⟨items[i], by simp [hlt]⟩
        have hd : items.drop i = rv :: items.drop (i + 1) := by
          rw [List.drop_eq_getElem_cons hlt]
          have := (List.getElem?_eq_some_iff.mp hrv).2
          rw [this]
        rw [hd] at em2
        unfold mLoop at em2
        obtain ⟨go, yld⟩ := it1 i rv hrv
        cases e3 : tg rv ρ2 with
        | none => rw [e3] at em2; cases em2
        | some ρ3 =>
          rw [e3] at em2
          simp only at em2
          cases e4 : body ρ3 with
          | none => rw [e4] at em2; cases em2
          | some p4 =>
            obtain ⟨o4, ρ4⟩ := p4
            rw [e4] at em2
            refine .inr ⟨go, fun σ5 H5 => i + 1 ≤ items.length ∧ ∃ F5 A5 ρ5, Ext F (Own A) NoZ H F5 (Own A5) H5 ∧ (∀ a, F' a → F5 a) ∧ (∀ a o, F' a ∨ L a → H' a = some o → H5 a = some o) ∧ R cl F5 L A5 ρ5 σ5 H5 ∧ mLoop tg body (items.drop (i + 1)) ρ5 = some (o, ρ'), ?_, ?_⟩
            · rintro σ5 H5 ⟨hi5, h5⟩
              exact ⟨_, by omega, rfl, hi5, h5⟩
            · intro xv H3 hy
              obtain ⟨F3, x3, r3, k3⟩ := yld xv H3 hy
              refine hg F3 L A2 ρ2 σ2 H3 rv xv [] r3 k3 ρ3 e3 _ fun A4 σ4 ow off r4 => ?_
              refine hb F3 L A4 ρ3 σ4 H3 r4 o4 ρ4 e4 _ fun F5 A5 σ5 H5 x5 r5 => ?_
              have x4 : Ext F3 (Own A2) NoZ H3 F3 (Own A4) H3 := ⟨fun _ h => h, fun _ h => .inl h, fun _ _ e _ _ => e, fun _ h => h, fun z w => (ow z w).elim .inl fun w => nomatch w⟩
              have x05 : Ext F (Own A) NoZ H F5 (Own A5) H5 := ((x2.trans0 x3).trans0 x4).trans0 x5
              have x25 : Ext F2 (Own A2) NoZ H2 F5 (Own A5) H5 := (x3.trans0 x4).trans0 x5
              have hF5 : ∀ a, F' a → F5 a := fun a f => x25.f a (hF a f)
              have hH5 : ∀ a o, F' a ∨ L a → H' a = some o → H5 a = some o := fun a o f e => x25.k a o (hH a o f e) (f.elim (fun f => r2.notF (hF a f)) fun f => r2.notL f) id
              cases o4 with
              | exc c d =>
                cases em2
                exact hD F5 A5 σ5 H5 x05 r5
              | ok fl =>
                cases fl with
                | nx => exact ⟨by omega, F5, A5, ρ4, x05, hF5, hH5, r5, em2⟩
                | ct => exact ⟨by omega, F5, A5, ρ4, x05, hF5, hH5, r5, em2⟩
                | bk =>
                  cases em2
                  exact hD F5 A5 σ5 H5 x05 r5
                | ret rv' =>
                  cases em2
                  have q := hD F5 A5 σ5 H5 x05 r5
                  intro v C hr hC
                  refine q v C hr fun z mz => ?_
                  have x03 := (x2.trans0 x3).trans0 x4
                  rcases hC z mz with w | w
                  · exact .inl (Classical.byContradiction fun n => x03.d z n w)
                  · rcases x03.b z w with w | w | w
                    · exact .inr w
                    · exact .inl w
                    · exact w.elim
      · have e : i = items.length := by omega
        subst e
        rw [List.drop_length] at em2
        cases em2
        exact .inl ⟨it2, hD F2 A2 σ2 H2 x2 r2⟩

/-! ### while -/
def whileN (c : M Bool) (body : M Fl) : Nat → M Fl
  | 0, _ => none
  | n + 1, ρ => match c ρ with
    | some (.ok true, ρ1) => match body ρ1 with
      | some (.ok .nx, ρ2) => whileN c body n ρ2
      | some (.ok .ct, ρ2) => whileN c body n ρ2
      | some (.ok .bk, ρ2) => some (.ok .nx, ρ2)
      | r => r
    | some (.ok false, ρ1) => some (.ok .nx, ρ1)
    | some (.exc e d, ρ1) => some (.exc e d, ρ1)
    | none => none
open Classical in
noncomputable def m_while (c : M Bool) (body : M Fl) : M Fl := fun ρ => if h : ∃ n r, whileN c body n ρ = some r then whileN c body h.choose ρ else none
theorem whileN_mono {c : M Bool} {body : M Fl} : ∀ {n : Nat} {ρ : Sg} {r : Out Fl × Sg}, whileN c body n ρ = some r → ∀ {m : Nat}, n ≤ m → whileN c body m ρ = some r
  | 0, ρ, r, h, _, _ => by cases h
  | n + 1, ρ, r, h, m, hm => by
    obtain ⟨k, rfl⟩ : ∃ k, m = k + 1 := ⟨m - 1, by omega⟩
    have hk : n ≤ k := by omega
    unfold whileN at h ⊢
    cases e1 : c ρ with
    | none => rw [e1] at h; cases h
    | some p =>
      obtain ⟨oc, ρ1⟩ := p
      rw [e1] at h
      cases oc with
      | exc e d => exact h
      | ok b =>
        cases b with
        | false => exact h
        | true =>
          simp only at h ⊢
          cases e2 : body ρ1 with
          | none => rw [e2] at h; cases h
          | some p2 =>
            obtain ⟨o2, ρ2⟩ := p2
            rw [e2] at h
            cases o2 with
            | exc e d => exact h
            | ok fl =>
              cases fl with
              | nx => exact whileN_mono h hk
              | ct => exact whileN_mono h hk
              | bk => exact h
              | ret rv => exact h
theorem m_while_eq {c : M Bool} {body : M Fl} {n : Nat} {ρ : Sg} {r : Out Fl × Sg} (h : whileN c body n ρ = some r) : m_while c body ρ = some r := by
  have hx : ∃ n r, whileN c body n ρ = some r := ⟨n, r, h⟩
  unfold m_while
  rw [dif_pos hx]
  obtain ⟨r', hr'⟩ := hx.choose_spec
  have h1 := whileN_mono h (Nat.le_max_left n hx.choose)
  have h2 := whileN_mono hr' (Nat.le_max_right n hx.choose)
  rw [h1] at h2
  rw [hr', h2]
theorem m_while_some {c : M Bool} {body : M Fl} {ρ : Sg} {r : Out Fl × Sg} (h : m_while c body ρ = some r) : ∃ n, whileN c body n ρ = some r := by
  unfold m_while at h
  split at h
  · rename_i hx
    exact ⟨_, h⟩
  · cases h
theorem simS_while {tc : TT} {tb : TS} {c : M Bool} {body : M Fl} (hc : Sim cl RelB W tc c) (hb : SimS cl W tb body) : SimS cl W (tWhile tc tb) (m_while c body) := fun F L A ρ σ H r o ρ' em D hD => by
  obtain ⟨n, hn⟩ := m_while_some em
  refine ⟨fun m σ2 H2 => ∃ F2 A2 ρ2, Ext F (Own A) NoZ H F2 (Own A2) H2 ∧ R cl F2 L A2 ρ2 σ2 H2 ∧ whileN c body m ρ2 = some (o, ρ'), ⟨n, F, A, ρ, Ext.refl, r, hn⟩, ?_⟩
  rintro m σ2 H2 ⟨F2, A2, ρ2, x2, r2, e2⟩
  cases m with
  | zero => cases e2
  | succ m =>
    unfold whileN at e2
    cases e1 : c ρ2 with
    | none => rw [e1] at e2; cases e2
    | some p =>
      obtain ⟨oc, ρ3⟩ := p
      rw [e1] at e2
      refine hc F2 L A2 ρ2 σ2 H2 r2 _ _ e1 _ fun F3 A3 H3 x3 r3 => ?_
      have x03 := x2.trans0 x3
      cases oc with
      | exc e d =>
        cases e2
        exact hD F3 A3 σ2 H3 x03 r3
      | ok k =>
        intro b' C hr hC
        obtain ⟨e4, _⟩ := hr
        subst e4
        cases k with
        | false =>
          cases e2
          rw [if_neg Bool.false_ne_true]
          exact hD F3 A3 σ2 H3 x03 r3
        | true =>
          rw [if_pos rfl]
          simp only at e2
          refine ⟨fun σ5 H5 => ∃ F5 A5 ρ5, Ext F (Own A) NoZ H F5 (Own A5) H5 ∧ R cl F5 L A5 ρ5 σ5 H5 ∧ whileN c body m ρ5 = some (o, ρ'), fun σ5 H5 h5 => ⟨m, Nat.lt_succ_self m, h5⟩, ?_⟩
          cases e5 : body ρ3 with
          | none => rw [e5] at e2; cases e2
          | some p5 =>
            obtain ⟨o5, ρ5⟩ := p5
            rw [e5] at e2
            refine hb F3 L A3 ρ3 σ2 H3 r3 o5 ρ5 e5 _ fun F5 A5 σ5 H5 x5 r5 => ?_
            have x05 := x03.trans0 x5
            cases o5 with
            | exc e d =>
              cases e2
              exact hD F5 A5 σ5 H5 x05 r5
            | ok fl =>
              cases fl with
              | nx => exact ⟨F5, A5, ρ5, x05, r5, e2⟩
              | ct => exact ⟨F5, A5, ρ5, x05, r5, e2⟩
              | bk =>
                cases e2
                exact hD F5 A5 σ5 H5 x05 r5
              | ret rv =>
                cases e2
                exact FinS.back (o := .ok (.ret rv)) x03 (hD F5 A5 σ5 H5 x05 r5)
end
section
variable {ι : Type} {Xf : ι → Cx} {cl : Str → Addr} {W : WX} {e c tg iter : Expr} {es : List Expr} {sts : List Stmt} {m : M Rv} {b : M Fl} {ct : M Bool} {mi : M (List Rv)} {g : Tg} {S : List Nat} {ms : M (List Rv)} {pos p : Pos} {K : PySem.W.Frag}
def PMI (Xf : ι → Cx) (cl : Str → Addr) (W : WX) (tg iter : Expr) (mi : M (List Rv)) : Prop := ∃ wi : TI, (∀ i, PI (Xf i) tg iter wi) ∧ SimI cl W wi mi
theorem pmi_list (hK : ∀ i, (Xf i).K = K) (h : PM Xf cl W e m) : PMI Xf cl W tg e (m_iter iterL m) := by
  obtain ⟨t, h1, h2⟩ := h
  exact ⟨iList K t, fun i => by rw [← hK i]; exact pi_list (h1 i), simI_list h2⟩
theorem pmi_tup (hK : ∀ i, (Xf i).K = K) (h : PM Xf cl W e m) : PMI Xf cl W tg e (m_iter iterT m) := by
  obtain ⟨t, h1, h2⟩ := h
  exact ⟨iTup K t, fun i => by rw [← hK i]; exact pi_tup (h1 i), simI_tup h2⟩
theorem pmi_rng1 {a : Expr} (hm : ∀ i, (Xf i).mg "range" = none) (h : PMA Xf cl W [a] ms) (hg : ∀ i, Gl (Xf i) "range" := by intro _; rfl) (hs : ∀ i, starEach [a] (Xf i).env = [(false, eval a (Xf i).env)] := by intro _; rfl) : PMI Xf cl W tg (.Call (.Name "range" p) [a] [] pos) (m_rng1 ms) := by
  obtain ⟨t, h1, h2⟩ := h
  exact ⟨iRng1 t, fun i => pi_range1 (hg i) (hm i) (h1 i) (hs i), simI_rng1 h2⟩
theorem pmi_rng2 {a a' : Expr} (hm : ∀ i, (Xf i).mg "range" = none) (h : PMA Xf cl W [a, a'] ms) (hg : ∀ i, Gl (Xf i) "range" := by intro _; rfl) (hs : ∀ i, starEach [a, a'] (Xf i).env = [(false, eval a (Xf i).env), (false, eval a' (Xf i).env)] := by intro _; rfl) (hs2 : ∀ i, starEach [a'] (Xf i).env = [(false, eval a' (Xf i).env)] := by intro _; rfl) :
    PMI Xf cl W tg (.Call (.Name "range" p) [a, a'] [] pos) (m_rng2 ms) := by
  obtain ⟨t, h1, h2⟩ := h
  exact ⟨iRng2 t, fun i => pi_range2 (hg i) (hm i) (h1 i) (hs i) (hs2 i), simI_rng2 h2⟩
theorem pmi_enum {a : Expr} {elts : List Expr} {kk : Nat} {tpos : Pos} (hK : ∀ i, (Xf i).K = K) (hm : ∀ i, (Xf i).mg "enumerate" = none) (h : PMA Xf cl W [a] ms) (hg : ∀ i, Gl (Xf i) "enumerate" := by intro _; rfl) (hs : ∀ i, starEach [a] (Xf i).env = [(false, eval a (Xf i).env)] := by intro _; rfl) :
    PMI Xf cl W (.Tuple elts kk tpos) (.Call (.Name "enumerate" p) [a] [] pos) (m_enum ms) := by
  obtain ⟨t, h1, h2⟩ := h
  exact ⟨iEnum K t, fun i => by rw [← hK i]; exact pi_enum (hg i) (hm i) (h1 i) (hs i), simI_enum h2⟩
theorem pms_for (hp : ∀ i, PassesOwn (model (Xf i).prog (Xf i).w) (Xf i).A (Xf i).env (Xf i).xe) (hc : ∀ i, (Xf i).calm = true) (hi : PMI Xf cl W tg iter mi) (hg : PMG Xf cl tg g S) (hb : PMSs Xf cl W sts b)
    (hs : ∀ i x, foldedSetIterable iter (Xf i).env x = pure x := by intro _ _; rfl) : PMS Xf cl W (.For tg iter sts [] pos) (m_for mi g b) := by
  obtain ⟨t, h1, h2⟩ := hi
  obtain ⟨u, g1, g2⟩ := hg
  obtain ⟨w, k1, k2⟩ := hb
  exact ⟨tFor t u w, fun i => ps_for (hp i) (hc i) (h1 i) (g1 i) (k1 i) (hs i), simS_for h2 g2 k2⟩
theorem pms_while (hp : ∀ i, PassesOwn (model (Xf i).prog (Xf i).w) (Xf i).A (Xf i).env (Xf i).xe) (hc : PMT Xf cl W c ct) (hb : PMSs Xf cl W sts b) : PMS Xf cl W (.While c sts [] pos) (m_while ct b) := by
  obtain ⟨t, h1, h2⟩ := hc
  obtain ⟨w, k1, k2⟩ := hb
  exact ⟨tWhile t w, fun i => ps_while (hp i) (h1 i) (k1 i), simS_while h2 k2⟩
end
end W3

/-! C9: comprehensions, x[i] = e, x += e. -/
namespace W3
open PySem PySem.Spec L2

/-! ### the block of a comprehension: its own slots -/
def wipeS (ρ : Sg) : List Nat → Sg
  | [] => ρ
  | v :: vs => (wipeS ρ vs).set v none
/-- a slot that holds no tree of its own -/
def plainAt (ρ : Sg) (i : Nat) : Bool := match ρ[i]? with
  | some (some (.t (.v _))) => true
  | some (some (.lent _)) => true
  | some none => true
  | none => true
  | _ => false
/-- the block's slots as they were ahead of it -/
def backS (ρ0 ρ : Sg) : List Nat → Sg
  | [] => ρ
  | v :: vs => match ρ0[v]? with
    | some o => (backS ρ0 ρ vs).set v o
    | none => backS ρ0 ρ vs
def lcLoop (vs : List Nat) (g : Tg) (test : M Bool) (elt : M Rv) : List Rv → List T → Sg → Option (List T × Sg)
  | [], acc, ρ => some (acc, ρ)
  | x :: xs, acc, ρ => match g x ρ with
    | none => none
    | some ρ1 => match test ρ1 with
      | some (.ok true, ρ2) => match elt ρ2 with
        | some (.ok (.t t), ρ3) => if acc.length < line then lcLoop vs g test elt xs (acc ++ [t]) (wipeS ρ3 vs) else none
        | _ => none
      | some (.ok false, ρ2) => lcLoop vs g test elt xs acc (wipeS ρ2 vs)
      | _ => none
def m_comp (vs : List Nat) (mi : M (List Rv)) (g : Tg) (test : M Bool) (elt : M Rv) : M Rv := mi.bind fun items => fun ρ => if vs.all (plainAt ρ) = true then match lcLoop vs g test elt items [] (wipeS ρ vs) with
  | some (ts, ρ') => some (.ok (.t (.lst ts)), backS ρ ρ' vs)
  | none => none
  else none
section
variable {cl : Str → Addr} {W : WX} {F : Addr → Prop} {L : LL} {H : Hp} {A : Nat → List Addr} {ρ : Sg} {σ : L2.St}
theorem wipe_get (σ : L2.St) : ∀ (vs : List Nat) (j : Nat), (wipe σ vs)[j]? = if j ∈ vs ∧ j < σ.length then some none else σ[j]?
  | [], j => by simp [wipe]
  | v :: vs, j => by
    unfold wipe
    by_cases e : v = j
    · subst e
      by_cases hl : v < σ.length
      · rw [List.getElem?_set_self (by rw [wipe_length]; exact hl), if_pos ⟨List.mem_cons_self, hl⟩]
      · rw [List.getElem?_eq_none (by rw [List.length_set, wipe_length]; omega), if_neg (fun z => hl z.2), List.getElem?_eq_none (by omega)]
    · have e' : ¬ j = v := fun h => e h.symm
      rw [List.getElem?_set_ne e, wipe_get σ vs j]
      simp only [List.mem_cons, e', false_or]
theorem wipeS_length (ρ : Sg) : ∀ vs : List Nat, (wipeS ρ vs).length = ρ.length
  | [] => rfl
  | v :: vs => by unfold wipeS; rw [List.length_set, wipeS_length ρ vs]
theorem wipeS_get (ρ : Sg) : ∀ (vs : List Nat) (j : Nat), (wipeS ρ vs)[j]? = if j ∈ vs ∧ j < ρ.length then some none else ρ[j]?
  | [], j => by simp [wipeS]
  | v :: vs, j => by
    unfold wipeS
    by_cases e : v = j
    · subst e
      by_cases hl : v < ρ.length
      · rw [List.getElem?_set_self (by rw [wipeS_length]; exact hl), if_pos ⟨List.mem_cons_self, hl⟩]
      · rw [List.getElem?_eq_none (by rw [List.length_set, wipeS_length]; omega), if_neg (fun z => hl z.2), List.getElem?_eq_none (by omega)]
    · have e' : ¬ j = v := fun h => e h.symm
      rw [List.getElem?_set_ne e, wipeS_get ρ vs j]
      simp only [List.mem_cons, e', false_or]
theorem backS_length (ρ0 ρ : Sg) : ∀ vs : List Nat, (backS ρ0 ρ vs).length = ρ.length
  | [] => rfl
  | v :: vs => by
    unfold backS
    split
    · rw [List.length_set, backS_length ρ0 ρ vs]
    · exact backS_length ρ0 ρ vs
theorem backS_get (ρ0 ρ : Sg) (hl : ρ0.length = ρ.length) : ∀ (vs : List Nat) (j : Nat), (backS ρ0 ρ vs)[j]? = if j ∈ vs then ρ0[j]? else ρ[j]?
  | [], j => by simp [backS]
  | v :: vs, j => by
    unfold backS
    by_cases e : v = j
    · subst e
      rw [if_pos List.mem_cons_self]
      split
      · rename_i o q
        have hv : v < ρ0.length := (List.getElem?_eq_some_iff.mp q).1
        rw [List.getElem?_set_self (by rw [backS_length, ← hl]; exact hv), q]
      · rename_i q
        have hv : ρ0.length ≤ v := List.getElem?_eq_none_iff.mp q
        rw [q, List.getElem?_eq_none (by rw [backS_length, ← hl]; exact hv)]
    · have e' : ¬ j = v := fun h => e h.symm
      simp only [List.mem_cons, e', false_or]
      split
      · rw [List.getElem?_set_ne e, backS_get ρ0 ρ hl vs j]
      · exact backS_get ρ0 ρ hl vs j
theorem wipe_off {S : List Nat} {σ1 σ2 : L2.St} {vs : List Nat} (o : Off S σ1 σ2) (hS : ∀ j ∈ S, j ∈ vs) : wipe σ2 vs = wipe σ1 vs := by
  apply List.ext_getElem?
  intro j
  rw [wipe_get, wipe_get, o.len]
  by_cases h : j ∈ vs ∧ j < σ1.length
  · rw [if_pos h, if_pos h]
  · rw [if_neg h, if_neg h]
    by_cases hj : j ∈ vs
    · have hl : ¬ j < σ1.length := fun z => h ⟨hj, z⟩
      rw [List.getElem?_eq_none (by rw [o.len]; omega), List.getElem?_eq_none (by omega)]
    · exact o.off j fun m => hj (hS j m)
theorem wipe_wipe (σ : L2.St) (vs : List Nat) : wipe (wipe σ vs) vs = wipe σ vs := by
  apply List.ext_getElem?
  intro j
  rw [wipe_get, wipe_length, wipe_get]
  by_cases h : j ∈ vs ∧ j < σ.length
  · rw [if_pos h, if_pos h]
  · rw [if_neg h, if_neg h]
/-- the addresses without those of some slots -/
def cutA (A : Nat → List Addr) (vs : List Nat) : Nat → List Addr := fun j => if j ∈ vs then [] else A j
theorem own_cutA {vs : List Nat} {a : Addr} (h : Own (cutA A vs) a) : Own A a := by
  obtain ⟨j, hj⟩ := h
  unfold cutA at hj
  split at hj
  · cases hj
  · exact ⟨j, hj⟩
theorem R.wipe (r : R cl F L A ρ σ H) (vs : List Nat) (hp : ∀ i ∈ vs, L.pn i = none) : R cl F L (cutA A vs) (wipeS ρ vs) (L2.wipe σ vs) H where
  len := by rw [wipeS_length, wipe_length]; exact r.len
  sl := fun i s q => by
    rw [wipeS_get] at q
    split at q
    · cases q
    · rename_i hn
      have hl : i < ρ.length := (List.getElem?_eq_some_iff.mp q).1
      have hi : i ∉ vs := fun z => hn ⟨z, hl⟩
      obtain ⟨v, e1, h⟩ := r.sl i s q
      refine ⟨v, ?_, ?_⟩
      · rw [wipe_get, if_neg (fun z => hi z.1)]
        exact e1
      · unfold cutA
        rw [if_neg hi]
        exact h
  nd := fun i => by
    unfold cutA
    split
    · exact List.nodup_nil
    · exact r.nd i
  dj := fun i j a hij hi hj => by
    unfold cutA at hi hj
    split at hi
    · cases hi
    · split at hj
      · cases hj
      · exact r.dj i j a hij hi hj
  ap := fun a o => r.ap a (own_cutA o)
  fd := r.fd
  ld := r.ld
  pin := fun i v q => by
    have hi : i ∉ vs := fun z => by rw [hp i z] at q; cases q
    obtain ⟨⟨t, k1⟩, k2⟩ := r.pin i v q
    exact ⟨⟨t, by rw [wipeS_get, if_neg (fun z => hi z.1)]; exact k1⟩, by rw [wipe_get, if_neg (fun z => hi z.1)]; exact k2⟩
theorem plain_A (r : R cl F L A ρ σ H) {i : Nat} (h : plainAt ρ i = true) : L.pn i = none ∧ ∀ s, ρ[i]? = some (some s) → (∃ d, s = .t (.v d)) ∨ ∃ d, s = .lent d := by
  refine ⟨r.unpin fun t z => ?_, fun s z => ?_⟩
  · unfold plainAt at h
    rw [z] at h
    cases h
  · unfold plainAt at h
    rw [z] at h
    cases s with
    | t t =>
      cases t with
      | v d => exact .inl ⟨d, rfl⟩
      | _ => cases h
    | io t => cases h
    | lent d => exact .inr ⟨d, rfl⟩
    | al _ _ => cases h
theorem R.back {F' : Addr → Prop} {A' : Nat → List Addr} {ρ' : Sg} {σ' : L2.St} {H' : Hp} (r : R cl F L A ρ σ H) {vs : List Nat} (hv : ∀ i ∈ vs, plainAt ρ i = true) (hF : ∀ a, F a → F' a) (hH : ∀ a o, F a ∨ L a → H a = some o → H' a = some o)
    (r' : R cl F' L A' ρ' σ' H') (hσ : σ' = L2.wipe σ vs) (hρ : ∀ i ∈ vs, ∀ s, ρ'[i]? ≠ some (some s)) : R cl F' L (cutA A' vs) (backS ρ ρ' vs) σ H' where
  len := by rw [backS_length, r'.len, hσ, wipe_length]
  sl := fun i s q => by
    have hl : ρ.length = ρ'.length := by rw [r.len, r'.len, hσ, wipe_length]
    rw [backS_get ρ ρ' hl] at q
    by_cases hi : i ∈ vs
    · rw [if_pos hi] at q
      obtain ⟨v, e1, h⟩ := r.sl i s q
      refine ⟨v, e1, ?_⟩
      unfold cutA
      rw [if_pos hi]
      rcases (plain_A r (hv i hi)).2 s q with ⟨d, e⟩ | ⟨d, e⟩
      · subst e
        obtain ⟨_, h2⟩ := relT_v h
        exact .v (RelD.keep hF (fun a o f e => hH a o (.inl f) e) d v h2)
      · subst e
        exact RelD.keep (fun a h => h.elim (fun h => .inl (hF a h)) .inr) (fun a o f e => hH a o f e) d v h
    · rw [if_neg hi] at q
      obtain ⟨v, e1, h⟩ := r'.sl i s q
      refine ⟨v, ?_, ?_⟩
      · rw [hσ, wipe_get, if_neg (fun z => hi z.1)] at e1
        exact e1
      · unfold cutA
        rw [if_neg hi]
        exact h
  nd := fun i => by
    unfold cutA
    split
    · exact List.nodup_nil
    · exact r'.nd i
  dj := fun i j a hij hi hj => by
    unfold cutA at hi hj
    split at hi
    · cases hi
    · split at hj
      · cases hj
      · exact r'.dj i j a hij hi hj
  ap := fun a o => r'.ap a (own_cutA o)
  fd := r'.fd
  ld := r'.ld
  pin := fun i v q => by
    have hi : i ∉ vs := fun z => by rw [(plain_A r (hv i z)).1] at q; cases q
    have hl : ρ.length = ρ'.length := by rw [r.len, r'.len, hσ, wipe_length]
    obtain ⟨⟨t, k1⟩, k2⟩ := r'.pin i v q
    exact ⟨⟨t, by rw [backS_get ρ ρ' hl, if_neg hi]; exact k1⟩, by rw [hσ, wipe_get, if_neg (fun z => hi z.1)] at k2; exact k2⟩
theorem Off.wipe {vs : List Nat} : Off vs σ (L2.wipe σ vs) := ⟨wipe_length σ vs, fun j n => by rw [wipe_get, if_neg (fun z => n z.1)]⟩
/-- one more own address list may be left out -/
theorem Ext.cut {F B Z F' : Addr → Prop} {A' : Nat → List Addr} {H H' : Hp} {vs : List Nat} (x : Ext F B Z H F' (Own A') H') : Ext F B Z H F' (Own (cutA A' vs)) H' := ⟨x.f, x.nf, x.k, x.d, fun a o => x.b a (own_cutA o)⟩
theorem relTs_snoc {ts : List T} {vs : List V} {C B : List Addr} {t : T} {v : V} (h : RelTs cl F H ts vs C) (g : RelT cl F H t v B) : RelTs cl F H (ts ++ [t]) (vs ++ [v]) (C ++ B) := h.append (by have := RelTs.cons g RelTs.nil; simpa using this)

/-- an object that no slot knows is changed -/
theorem R.updX {p : Addr} {u o : HO} (r : R cl F L A ρ σ H) (h1 : ¬ F p) (h2 : ¬ L p) (h3 : ¬ Own A p) (hp : H p = some u) : R cl F L A ρ σ (upd H p o) := by
  have keep : ∀ a v, a ≠ p → H a = some v → upd H p o a = some v := fun a v n e => by rw [upd_ne n]; exact e
  have dom : ∀ a, H a ≠ none → upd H p o a ≠ none := fun a n => by
    by_cases z : a = p
    · rw [z, upd_same]; simp
    · rw [upd_ne z]; exact n
  have nF : ∀ a, F a → a ≠ p := fun a f z => h1 (z ▸ f)
  have nL : ∀ a, L a → a ≠ p := fun a f z => h2 (z ▸ f)
  refine ⟨r.len, fun i s q => ?_, r.nd, r.dj, fun a o' => ⟨(r.ap a o').1, (r.ap a o').2.1, dom a (r.ap a o').2.2⟩, fun a f => dom a (r.fd a f), fun a f => dom a (r.ld a f), r.pin⟩
  obtain ⟨v, e1, z⟩ := r.sl i s q
  refine ⟨v, e1, ?_⟩
  have nA : ∀ a v, a ∈ A i → H a = some v → upd H p o a = some v := fun a v m e => keep a v (fun z => h3 ⟨i, z ▸ m⟩) e
  cases s with
  | t t => exact RelT.keep (fun _ h => h) (fun a v f e => keep a v (nF a f) e) t v _ nA z
  | io t => exact RelT.keep (fun _ h => h) (fun a v f e => keep a v (nF a f) e) t v _ nA z
  | lent d => exact RelD.keep (fun _ h => h) (fun a v f e => keep a v (f.elim (nF a) (nL a)) e) d v z
  | al _ _ => exact z

/-- a comprehension's loop: the list so far stands at p -/
theorem sim_comp {wi : TI} {g : TG} {tt : TT} {te : TE} {mi : M (List Rv)} {tg : Tg} {S : List Nat} {test : M Bool} {elt : M Rv} {vs : List Nat} (hi : SimI cl W wi mi) (hg : SimG cl g tg S) (hS : ∀ j ∈ S, j ∈ vs)
    (ht : Sim cl RelB (fun _ _ _ _ => False) tt test) (he : Sim cl (RelRv cl) (fun _ _ _ _ => False) te elt) : Sim cl (RelRv cl) W (tLc wi g tt te vs) (m_comp vs mi tg test elt) := fun F L A ρ σ H r => by
  intro o ρ' em Q hQ
  unfold m_comp M.bind at em
  cases e1 : mi ρ with
  | none => rw [e1] at em; cases em
  | some p =>
    obtain ⟨oa, ρ1⟩ := p
    rw [e1] at em
    refine hi F L A ρ σ H r _ _ e1 _ fun F' A' H' x r' => ?_
    cases oa with
    | exc c d =>
      cases em
      exact hQ F' A' H' x r'
    | ok items =>
      intro J hJ
      simp only at em
      by_cases hv : vs.all (plainAt ρ1) = true
      · rw [if_pos hv] at em
        have hv' : ∀ i ∈ vs, plainAt ρ1 i = true := List.all_eq_true.mp hv
        cases e2 : lcLoop vs tg test elt items [] (wipeS ρ1 vs) with
        | none => rw [e2] at em; cases em
        | some q2 =>
          obtain ⟨tsE, ρE⟩ := q2
          rw [e2] at em
          cases em
          intro p hp
          have hpn : ∀ i ∈ vs, L.pn i = none := fun i hi => (plain_A r' (hv' i hi)).1
          have rw0 := (r'.wipe vs hpn).new (o := .lst []) hp
          obtain ⟨np1, np2, np3⟩ := r'.noF hp
          have hHp : H p = none := Classical.byContradiction fun n => x.d p n hp
          -- behind i items: the list at p, what it holds
          let I : Nat → Hp → Prop := fun i H2 => ∃ F2 A2 ρ2 ts xs C, Ext F' (Own A') (fun a => a = p) (upd H' p (.lst [])) F2 (Own A2) H2 ∧ R cl F2 L A2 ρ2 (L2.wipe σ vs) H2 ∧ H2 p = some (.lst xs) ∧ RelTs cl F2 H2 ts xs C ∧ C.Nodup ∧
            (∀ a ∈ C, ¬ F2 a ∧ ¬ L a ∧ ¬ Own A2 a ∧ a ≠ p ∧ (H' a = none ∨ Own A' a)) ∧ (¬ F2 p ∧ ¬ Own A2 p) ∧ (∀ i ∈ vs, ∀ s, ρ2[i]? ≠ some (some s)) ∧ lcLoop vs tg test elt (items.drop i) ts ρ2 = some (tsE, ρE)
          refine ⟨fun i m H2 => m = items.length - i ∧ i ≤ items.length ∧ I i H2, ⟨_, rfl, Nat.zero_le _, F', cutA A' vs, wipeS ρ1 vs, [], [], [], (Ext.refl (B := Own A')).cut, rw0, upd_same, .nil, List.nodup_nil, (fun a m => nomatch m), ⟨np1, fun z => np3 (own_cutA z)⟩, fun i hi s e => ?_, e2⟩, ?_⟩
          · rw [wipeS_get] at e
            split at e
            · cases e
            · rename_i hn
              have hl : i < ρ1.length := (List.getElem?_eq_some_iff.mp e).1
              exact hn ⟨hi, hl⟩
          · rintro i m H2 ⟨rfl, hi, F2, A2, ρ2, ts, xs, C, x2, r2, hp2, hT, nd, hC, ⟨pF, pO⟩, hvs, em2⟩
            have hF2 : ∀ a, F' a → F2 a := x2.f
            have hH2 : ∀ a o, F' a ∨ L a → H' a = some o → H2 a = some o := fun a o f e => by
              have hap : a ≠ p := fun z => by rw [z, hp] at e; cases e
              exact x2.k a o (by rw [upd_ne hap]; exact e) (f.elim (fun f => r'.notF f) fun f => r'.notL f) hap
            obtain ⟨it1, it2⟩ := hJ F2 A2 ρ2 _ H2 r2 hF2 hH2
            by_cases hlt : i < items.length
            · obtain ⟨rv, hrv⟩ : ∃ rv, items[i]? = some rv := ⟨items[i], by simp [hlt]⟩
              have hd : items.drop i = rv :: items.drop (i + 1) := by
                rw [List.drop_eq_getElem_cons hlt]
                have := (List.getElem?_eq_some_iff.mp hrv).2
                rw [this]
              rw [hd] at em2
              unfold lcLoop at em2
              obtain ⟨go, yld⟩ := it1 i rv hrv
              cases e3 : tg rv ρ2 with
              | none => rw [e3] at em2; cases em2
              | some ρ3 =>
                rw [e3] at em2
                simp only at em2
                cases e4 : test ρ3 with
                | none => rw [e4] at em2; cases em2
                | some p4 =>
                  obtain ⟨o4, ρ4⟩ := p4
                  rw [e4] at em2
                  refine .inr ⟨go, fun H5 => i + 1 ≤ items.length ∧ I (i + 1) H5, fun H5 h5 => ⟨_, by have := h5.1; omega, rfl, h5⟩, fun xv H3 hy => ?_⟩
                  obtain ⟨F3, x3, r3, k3⟩ := yld xv H3 hy
                  refine hg F3 L A2 ρ2 _ H3 rv xv [] r3 k3 ρ3 e3 _ fun A4 σ4 ow off r4 => ?_
                  have hw : L2.wipe σ4 vs = L2.wipe σ vs := (wipe_off off hS).trans (wipe_wipe σ vs)
                  refine ⟨hw.trans (wipe_wipe σ vs).symm |>.trans (wipe_wipe σ vs), ?_⟩
                  have x4 : Ext F3 (Own A2) NoZ H3 F3 (Own A4) H3 := ⟨fun _ h => h, fun _ h => .inl h, fun _ _ e _ _ => e, fun _ h => h, fun z w => (ow z w).elim .inl fun w => nomatch w⟩
                  have x24 := x3.trans0 x4
                  refine ht F3 L A4 ρ3 σ4 H3 r4 o4 ρ4 e4 _ fun F5 A5 H5 x5 r5 => ?_
                  have x25 := x24.trans0 x5
                  -- one turn's end: what stood so far still stands
                  have stay : ∀ {F6 : Addr → Prop} {A6 : Nat → List Addr} {H6 : Hp}, Ext F2 (Own A2) NoZ H2 F6 (Own A6) H6 → H6 p = some (.lst xs) ∧ RelTs cl F6 H6 ts xs C ∧ (∀ a ∈ C, ¬ F6 a ∧ ¬ L a ∧ ¬ Own A6 a ∧ a ≠ p ∧ (H' a = none ∨ Own A' a)) ∧ ¬ F6 p ∧ ¬ Own A6 p := fun {F6 A6 H6} x6 => by
                    have hdm := RelTs.dom ts xs C hT
                    refine ⟨x6.k p _ hp2 pO id, RelTs.keep x6.f (fun a o f e => x6.k a o e (r2.notF f) id) ts xs C (fun a o m e => x6.k a o e (hC a m).2.2.1 id) hT, fun a m => ⟨fun z => ?_, (hC a m).2.1, fun z => ?_, (hC a m).2.2.2⟩, fun z => ?_, fun z => ?_⟩
                    · rcases x6.nf a z with w | w | w | w
                      · exact (hC a m).1 w
                      · exact hdm a m w
                      · exact (hC a m).2.2.1 w
                      · exact w
                    · rcases x6.b a z with w | w | w
                      · exact (hC a m).2.2.1 w
                      · exact hdm a m w
                      · exact w
                    · rcases x6.nf p z with w | w | w | w
                      · exact pF w
                      · rw [hp2] at w; cases w
                      · exact pO w
                      · exact w
                    · rcases x6.b p z with w | w | w
                      · exact pO w
                      · rw [hp2] at w; cases w
                      · exact w
                  have base : ∀ {F6 : Addr → Prop} {A6 : Nat → List Addr} {H6 : Hp}, Ext F2 (Own A2) NoZ H2 F6 (Own A6) H6 → Ext F' (Own A') (fun a => a = p) (upd H' p (.lst [])) F6 (Own A6) H6 := fun {F6 A6 H6} x6 => x2.trans x6 (fun _ z => z) fun _ z => z.elim
                  have wiped : ∀ {F6 : Addr → Prop} {A6 : Nat → List Addr} {ρ6 : Sg} {H6 : Hp}, R cl F6 L A6 ρ6 σ4 H6 → R cl F6 L (cutA A6 vs) (wipeS ρ6 vs) (L2.wipe σ vs) H6 := fun {F6 A6 ρ6 H6} r6 => by
                    have := r6.wipe vs hpn
                    rw [hw] at this
                    exact this
                  have clean : ∀ ρ6 : Sg, ∀ i ∈ vs, ∀ s, (wipeS ρ6 vs)[i]? ≠ some (some s) := fun ρ6 i hi s e => by
                    rw [wipeS_get] at e
                    split at e
                    · cases e
                    · rename_i hn
                      have hl : i < ρ6.length := (List.getElem?_eq_some_iff.mp e).1
                      exact hn ⟨hi, hl⟩
                  cases o4 with
                  | exc c d => cases em2
                  | ok b4 =>
                    intro b' C' hb' hC'
                    obtain ⟨eb, _⟩ := hb'
                    subst eb
                    cases b4 with
                    | false =>
                      rw [if_neg Bool.false_ne_true]
                      simp only at em2
                      obtain ⟨k1, k2, k4, k5, k6⟩ := stay x25
                      exact ⟨hlt, F5, cutA A5 vs, wipeS ρ4 vs, ts, xs, C, (base x25).cut, wiped r5, k1, k2, nd, fun a m => ⟨(k4 a m).1, (k4 a m).2.1, fun z => (k4 a m).2.2.1 (own_cutA z), (k4 a m).2.2.2⟩, ⟨k5, fun z => k6 (own_cutA z)⟩, clean ρ4, em2⟩
                    | true =>
                      rw [if_pos rfl]
                      simp only at em2
                      cases e6 : elt ρ4 with
                      | none => rw [e6] at em2; cases em2
                      | some p6 =>
                        obtain ⟨o6, ρ6⟩ := p6
                        rw [e6] at em2
                        refine he F5 L A5 ρ4 σ4 H5 r5 o6 ρ6 e6 _ fun F6 A6 H6 x6 r6 => ?_
                        have x26 := x25.trans0 x6
                        cases o6 with
                        | exc c d => cases em2
                        | ok rv6 =>
                          intro y C6 hr6 hC6
                          cases rv6 with
                          | lent d => cases em2
                          | pk j => cases em2
                          | t t6 =>
                            simp only at em2
                            by_cases hl6 : ts.length < line
                            · rw [if_pos hl6] at em2
                              obtain ⟨k1, k2, k4, k5, k6⟩ := stay x26
                              obtain ⟨j1, j2, j4, j5, j6⟩ := stay x25
                              obtain ⟨h61, h62, h63⟩ := hr6
                              have d6 := RelT.dom t6 y C6 h61
                              have nC6p : ∀ a ∈ C6, a ≠ p := fun a m z => by
                                rcases hC6 a m with w | w | w
                                · rw [z, j1] at w; cases w
                                · exact j6 (z ▸ w)
                                · exact w
                              refine ⟨xs, k1, by rw [← line_eq]; have := k2.length; omega, hlt, F6, cutA A6 vs, wipeS ρ6 vs, ts ++ [t6], xs ++ [y], C ++ C6, ?_, ?_, upd_same, ?_, ?_, ?_, ⟨k5, fun z => k6 (own_cutA z)⟩, clean ρ6, em2⟩
                              · refine ((base x26).trans (Z2 := fun a => a = p) (F2 := F6) (B2 := Own A6) (H2 := upd H6 p (.lst (xs ++ [y]))) ⟨fun _ h => h, fun _ h => .inl h, fun a o e _ n => by rw [upd_ne n]; exact e, fun a n => ?_, fun _ h => .inl h⟩ (fun _ z => z) fun _ z => .inr (.inr z)).cut
                                by_cases z : a = p
                                · rw [z, upd_same]; simp
                                · rw [upd_ne z]; exact n
                              · exact R.updX (wiped r6) k5 np2 (fun z => k6 (own_cutA z)) k1
                              · refine RelTs.keep (fun _ h => h) (fun a o f e => by rw [upd_ne (fun z => k5 (by rw [← z]; exact f))]; exact e) _ _ _ (fun a o m e => ?_) (relTs_snoc k2 h61)
                                rcases List.mem_append.mp m with m | m
                                · rw [upd_ne (k4 a m).2.2.2.1]; exact e
                                · rw [upd_ne (nC6p a m)]; exact e
                              · refine List.nodup_append.mpr ⟨nd, h62, fun a m b m2 z => ?_⟩
                                subst z
                                have dm := RelTs.dom ts xs C j2 a m
                                rcases hC6 a m2 with w | w | w
                                · exact dm w
                                · exact (j4 a m).2.2.1 w
                                · exact w
                              · intro a m
                                rcases List.mem_append.mp m with m | m
                                · exact ⟨(k4 a m).1, (k4 a m).2.1, fun z => (k4 a m).2.2.1 (own_cutA z), (k4 a m).2.2.2⟩
                                · refine ⟨(h63 a m).1, (h63 a m).2.1, fun z => (h63 a m).2.2 (own_cutA z), nC6p a m, ?_⟩
                                  have b25 := base x25
                                  rcases hC6 a m with w | w | w
                                  · refine .inl (Classical.byContradiction fun n => b25.d a ?_ w)
                                    rw [upd_ne (nC6p a m)]
                                    exact n
                                  · rcases b25.b a w with w | w | w
                                    · exact .inr w
                                    · rw [upd_ne (nC6p a m)] at w
                                      exact .inl w
                                    · exact absurd w (nC6p a m)
                                  · exact w.elim
                            · rw [if_neg hl6] at em2
                              cases em2
            · have e : i = items.length := by omega
              subst e
              rw [List.drop_length] at em2
              cases em2
              refine .inl ⟨it2, ?_⟩
              have rb : R cl F2 L (cutA A2 vs) (backS ρ1 _ vs) σ H2 := r'.back hv' hF2 hH2 r2 rfl hvs
              have xn : Ext F' (Own A') NoZ H' F' (Own A') (upd H' p (.lst [])) := Ext.new hp
              have xf : Ext F (Own A) NoZ H F2 (Own (cutA A2 vs)) H2 := ((x.trans0 xn).trans x2 (fun _ z => z) fun a z => .inl (z ▸ hHp)).cut
              refine hQ F2 _ H2 xf rb (.ref p) (p :: C) ⟨.lst hp2 hT, List.nodup_cons.mpr ⟨fun m => (hC p m).2.2.2.1 rfl, nd⟩, fun a m => ?_⟩ fun a m => ?_
              · rcases List.mem_cons.mp m with w | w
                · rw [w]
                  exact ⟨pF, np2, fun z => pO (own_cutA z)⟩
                · exact ⟨(hC a w).1, (hC a w).2.1, fun z => (hC a w).2.2.1 (own_cutA z)⟩
              · rcases List.mem_cons.mp m with w | w
                · rw [w]; exact .inl hHp
                · rcases (hC a w).2.2.2.2 with w | w
                  · exact .inl (Classical.byContradiction fun n => x.d a n w)
                  · rcases x.b a w with w | w | w
                    · exact .inr (.inl w)
                    · exact .inl w
                    · exact w.elim
      · rw [if_neg hv] at em
        cases em
end

/-! ### x[i] = e on an own list, x += e -/
def m_setix (k : Nat) (me mi : M Rv) : M Fl := me.bind fun r => fun ρ1 => match lstAt ρ1 k with
  | none => none
  | some _ => (mi.bind fun i => fun ρ => match lstAt ρ k, rvT r, rvI i with
    | some ts, some t, some j => match ixN ts.length j with
      | some n => some (.ok .nx, putL ρ k (ts.set n t))
      | none => none
    | _, _, _ => none) ρ1
def m_aug (k : Nat) (f : Int → Int → Int) (me : M Rv) : M Fl := fun ρ => match ρ[k]? with
  | some (some (.t (.v (.int i)))) => (me.bind fun r => match rvI r with
    | some j => fun ρ1 => (setSl k (.t (.v (.int (f i j)))) ρ1).map fun ρ2 => (.ok .nx, ρ2)
    | none => m_none) ρ
  | _ => none
section
variable {cl : Str → Addr} {W : WX}
theorem ixN_lt {n : Nat} {i : Int} {j : Nat} (h : ixN n i = some j) : j < n := (ixN_seq h).2.1
theorem simS_setix {k : Nat} {te ti : TE} {me mi : M Rv} (he : Sim cl (RelRv cl) W te me) (hi : Sim cl (RelRv cl) W ti mi) : SimS cl W (tAsg te (gSub (tVar k) ti rSetL)) (m_setix k me mi) := fun F L A ρ σ H r o ρ' em D hD => by
  unfold m_setix M.bind at em
  cases e1 : me ρ with
  | none => rw [e1] at em; cases em
  | some p =>
    obtain ⟨oa, ρ1⟩ := p
    rw [e1] at em
    cases oa with
    | exc c d =>
      cases em
      exact he F L A ρ σ H r _ _ e1 _ fun F' A' H' x r' => hD F' A' σ H' x r'
    | ok rv =>
      simp only at em
      refine he F L A ρ σ H r _ _ e1 _ fun F1 A1 H1 x1 r1 => ?_
      intro v C hr hC
      cases e2 : lstAt ρ1 k with
      | none => rw [e2] at em; cases em
      | some ts1 =>
        rw [e2] at em
        simp only at em
        obtain ⟨a, vs1, B1, q1, _, _, _⟩ := lstAt_rel r1 e2
        refine ⟨.ref a, q1, ?_⟩
        cases e3 : mi ρ1 with
        | none => rw [e3] at em; cases em
        | some p3 =>
          obtain ⟨o3, ρ2⟩ := p3
          rw [e3] at em
          refine hi F1 L A1 ρ1 σ H1 r1 _ _ e3 _ fun F2 A2 H2 x2 r2 => ?_
          have x02 := x1.trans0 x2
          cases o3 with
          | exc c d =>
            cases em
            exact hD F2 A2 σ H2 x02 r2
          | ok iv =>
            intro w C2 hr2 hC2
            simp only at em
            have hr' := stays_Rv.st r1 x2 hr
            cases e4 : lstAt ρ2 k with
            | none => rw [e4] at em; cases em
            | some ts =>
              cases e5 : rvT rv with
              | none => rw [e4, e5] at em; cases em
              | some t =>
                cases e6 : rvI iv with
                | none => rw [e4, e5, e6] at em; cases em
                | some j =>
                  rw [e4, e5, e6] at em
                  simp only at em
                  cases e7 : ixN ts.length j with
                  | none => rw [e7] at em; cases em
                  | some n =>
                    rw [e7] at em
                    cases em
                    rw [rvI_t e6] at hr2
                    have qi := (relV_v hr2).2
                    cases qi
                    rw [rvT_t e5] at hr'
                    obtain ⟨h1, h2, h3⟩ := hr'
                    obtain ⟨a', vs, B, s1, s2, s3, s4⟩ := lstAt_rel r2 e4
                    rw [q1] at s1
                    cases s1
                    have hn : n < ts.length := ixN_lt e7
                    obtain ⟨v0, Ba, Bt, Bb, t1, t2, t3, t4, t5⟩ := s4.split (k := n) (t := ts[n]) (by simp [hn])
                    have new : RelTs cl F2 H2 (ts.set n t) (vs.set n v) (Ba ++ (C ++ Bb)) := by
                      rw [set_eq ts n t hn, set_eq vs n v (by rw [← s4.length]; exact hn)]
                      exact t4.append (.cons h1 t5)
                    have ndB : (a :: B).Nodup := s2 ▸ r2.nd k
                    have bO : ∀ b ∈ B, Own A2 b := fun b m => ⟨k, by rw [s2]; exact List.mem_cons_of_mem _ m⟩
                    have sub : ∀ b, b ∈ Ba ∨ b ∈ Bb → b ∈ B := fun b m => by
                      rw [t2]
                      rcases m with m | m
                      · exact List.mem_append_left _ (List.mem_append_left _ m)
                      · exact List.mem_append_right _ m
                    have nd' : (Ba ++ (C ++ Bb)).Nodup := by
                      have n1 := (List.nodup_cons.mp ndB).2
                      rw [t2] at n1
                      obtain ⟨n2, n3, n4⟩ := List.nodup_append.mp n1
                      obtain ⟨n5, n6, n7⟩ := List.nodup_append.mp n2
                      refine List.nodup_append.mpr ⟨n5, List.nodup_append.mpr ⟨h2, n3, fun x hx y hy e => (h3 x hx).2.2 (e ▸ bO y (sub y (.inr hy)))⟩, fun x hx y hy e => ?_⟩
                      rcases List.mem_append.mp hy with hy | hy
                      · exact (h3 y hy).2.2 (e ▸ bO x (sub x (.inl hx)))
                      · exact n4 x (List.mem_append_left _ hx) y hy e
                    have ap : ∀ b ∈ Ba ++ (C ++ Bb), b ∈ B ∨ (¬ F2 b ∧ ¬ L b ∧ ¬ Own A2 b) := fun b m => by
                      rcases List.mem_append.mp m with m | m
                      · exact .inl (sub b (.inl m))
                      · rcases List.mem_append.mp m with m | m
                        · exact .inr (h3 b m)
                        · exact .inl (sub b (.inr m))
                    refine ⟨a, vs, j, n, rfl, rfl, s3, by rw [← s4.length]; exact e7, hD F2 _ σ _ ?_ (r2.mut e4 q1 s2 s3 new nd' ap)⟩
                    have xm : Ext F2 (Own A2) (fun z => z ∈ C) H2 F2 (Own (setA A2 k (a :: (Ba ++ (C ++ Bb))))) (upd H2 a (.lst (vs.set n v))) := Ext.mut r2 s2 fun b m => by
                      rcases List.mem_append.mp m with m | m
                      · exact .inl (sub b (.inl m))
                      · rcases List.mem_append.mp m with m | m
                        · exact .inr m
                        · exact .inl (sub b (.inr m))
                    exact x02.trans xm (fun _ z => z) fun z m => (hC z m).elim .inl fun w => .inr (w.elim .inl fun w => w.elim)
theorem simS_aug {k : Nat} {f : Int → Int → Int} {te : TE} {me : M Rv} (he : Sim cl (RelRv cl) W te me) : SimS cl W (tAug k te (ipI f)) (m_aug k f me) := fun F L A ρ σ H r o ρ' em D hD => by
  unfold m_aug at em
  split at em
  · rename_i i q
    obtain ⟨v, e0, s⟩ := r.sl _ _ q
    obtain ⟨_, s⟩ := relT_v s
    cases s
    refine ⟨_, e0, ?_⟩
    unfold M.bind at em
    cases e1 : me ρ with
    | none => rw [e1] at em; cases em
    | some p =>
      obtain ⟨oa, ρ1⟩ := p
      rw [e1] at em
      refine he F L A ρ σ H r _ _ e1 _ fun F1 A1 H1 x1 r1 => ?_
      cases oa with
      | exc c d =>
        cases em
        exact hD F1 A1 σ H1 x1 r1
      | ok rv =>
        intro w C hr hC
        simp only at em
        cases e2 : rvI rv with
        | none => rw [e2] at em; cases em
        | some j =>
          rw [e2] at em
          simp only at em
          rw [rvI_t e2] at hr
          have q2 := (relV_v hr).2
          cases q2
          cases e3 : setSl k (.t (.v (.int (f i j)))) ρ1 with
          | none => rw [e3] at em; cases em
          | some ρ2 =>
            rw [e3] at em
            cases em
            refine ⟨i, j, rfl, rfl, ?_⟩
            refine hD F1 _ _ H1 ?_ (r1.setSl (rv := .t (.v (.int (f i j)))) (rel_fv rfl) e3)
            exact ⟨x1.f, x1.nf, x1.k, x1.d, fun a o => by
              rcases own_setA o with m | ⟨jj, _, m⟩
              · cases m
              · exact x1.b a ⟨jj, m⟩⟩
  · cases em
end
section
variable {ι : Type} {Xf : ι → Cx} {cl : Str → Addr} {W : WX} {e i : Expr} {m mi : M Rv} {pos spos p2 : Pos} {K : PySem.W.Frag}
theorem pms_setix {k : Nat} {x : Str} {px : Pos} (h : PM Xf cl W e m) (hi : PM Xf cl W i mi) (hN : ∀ j, (Xf j).N[k]? = some x := by intro _; rfl) (hv : ∀ j, Vis (Xf j).env.scope x := by intro _; first | exact Or.inl rfl | exact Or.inr (Or.inl rfl) | exact Or.inr (Or.inr rfl))
    (hd : (x == ("__debug__" : Str)) = false := by decide) (hcd : (x == ("__classdict__" : Str)) = false := by decide)
    (ha : ∀ j v, assign (.Subscript (.Name x px) i spos) (Xf j).env v = (do
      let ov ← holding [v] (eval (.Name x px) (Xf j).env)
      let iv ← holding [v, ov] (eval i (Xf j).env)
      standAt spos
      holding [v, ov, iv] (setItem ov iv v)
      release [v, ov, iv] []) := by intro _ _; rfl)
    (hs : ∀ j, swapsWithSole [.Subscript (.Name x px) i spos] e pos.line (Xf j).env = pure false := by intro _; rfl) (hw : ∀ j, swappedStores [.Subscript (.Name x px) i spos] e (Xf j).env = pure none := by intro _; rfl)
    (h1 : ∀ j, (assignEach [.Subscript (.Name x px) i spos] (Xf j).env).map (·.2) = [assign (.Subscript (.Name x px) i spos) (Xf j).env] := by intro _; rfl) : PMS Xf cl W (.Assign [.Subscript (.Name x px) i spos] e pos) (m_setix k m mi) := by
  obtain ⟨t, k1, k2⟩ := h
  obtain ⟨u, g1, g2⟩ := hi
  exact ⟨tAsg t (gSub (tVar k) u rSetL), fun j => ps_asg (k1 j) (pg_sub (pe_var (hN j) (hv j) hd hcd) (g1 j) set_list (ha j)) (hs j) (hw j) (h1 j), simS_setix k2 g2⟩
theorem pms_augadd {k : Nat} {x : Str} {px : Pos} (h : PM Xf cl W e m) (hN : ∀ j, (Xf j).N.Nodup) (hi : ∀ j, (Xf j).N[k]? = some x := by intro _; rfl) (hx : ∀ j, Loc (Xf j).env.scope x := by intro _; first | exact Or.inl rfl | exact Or.inr rfl)
    (hf : ∀ j, (Xf j).fn x = true ∨ (Xf j).env.scope.names.lookup x = some .local := by intro _; first | exact .inl rfl | exact .inr rfl) : PMS Xf cl W (.AugAssign (.Name x px) .Add e pos) (m_aug k (fun i j => i + j) m) := by
  obtain ⟨t, k1, k2⟩ := h
  exact ⟨tAug k t (ipI fun i j => i + j), fun j => ps_aug (hN j) (hi j) (hx j) (k1 j) ip_add (hf j), simS_aug k2⟩

/-! ### a comprehension as an expression -/
/-- the contexts of the block -/
abbrev blkF (Xf : ι → Cx) (scope : Scope) : ι × Shared × Hp × Addr × List (Str × Addr) × List Addr → Cx := fun z => (Xf z.1).blk z.2.1 z.2.2.1 scope (compEnvC scope z.2.2.2.2.1 z.2.2.2.1 (Xf z.1).env) z.2.2.2.2.2
abbrev WNo : WX := fun _ _ _ _ => False
def PMTs (Xf : ι → Cx) (cl : Str → Addr) (W : WX) (ifs : List Expr) (m : M Bool) : Prop := ∃ t : TT, (∀ i, PTs (Xf i) ifs t) ∧ Sim cl RelB W t m
theorem pmts_nil : PMTs Xf cl W [] (M.ret true) := ⟨tYes, fun _ => pts_nil, sim_retB fun _ _ _ q => q⟩
theorem pmts_one {c : Expr} {t : M Bool} (h : PMT Xf cl W c t) : PMTs Xf cl W [c] t := by
  obtain ⟨u, h1, h2⟩ := h
  exact ⟨u, fun i => pts_one (h1 i), h2⟩
theorem pm_comp {elt tg iter : Expr} {ifs : List Expr} {scope : Scope} {own : List (Str × Nat)} {mI : M (List Rv)} {g : Tg} {S : List Nat} {test : M Bool} {me : M Rv} (hc : ∀ i, (Xf i).calm = true) (hN : ∀ i, (Xf i).N.Nodup) (hi : PMI Xf cl W tg iter mI)
    (ok : ∀ i, BlkOk (Xf i).N (Xf i).env.scope scope own) (hg : PMG (blkF Xf scope) cl tg g S) (ht : PMTs (blkF Xf scope) cl WNo ifs test) (he : PM (blkF Xf scope) cl WNo elt me) (hS : ∀ j ∈ S, j ∈ own.map (·.2) := by decide)
    (hs : ∀ i x, foldedSetIterable iter (Xf i).env x = pure x := by intro _ _; rfl) : PM Xf cl W (.ListComp elt [⟨tg, iter, ifs, 0⟩] scope pos) (m_comp (own.map (·.2)) mI g test me) := by
  obtain ⟨t, h1, h2⟩ := hi
  obtain ⟨u, g1, g2⟩ := hg
  obtain ⟨w, k1, k2⟩ := ht
  obtain ⟨y, l1, l2⟩ := he
  exact ⟨tLc t u w y (own.map (·.2)), fun i => pe_lc (hc i) (hN i) (h1 i) (ok i) (fun s H C cl fp => g1 (i, s, H, C, cl, fp)) (fun s H C cl fp => k1 (i, s, H, C, cl, fp)) (fun s H C cl fp => l1 (i, s, H, C, cl, fp)) (hs i), sim_comp h2 g2 hS k2 l2⟩
/-- y = [..] on one line -/
theorem pms_setLc {i : Nat} {y : Str} {py : Pos} {elt tg iter : Expr} {ifs : List Expr} {scope : Scope} {own : List (Str × Nat)} {mI : M (List Rv)} {g : Tg} {S : List Nat} {test : M Bool} {me : M Rv} {fz : M Rv → M Rv} (hfz : fz = id ∨ fz = m_fz) (hc : ∀ i, (Xf i).calm = true) (hN : ∀ i, (Xf i).N.Nodup)
    (hi : PMI Xf cl W tg iter mI) (ok : ∀ i, BlkOk (Xf i).N (Xf i).env.scope scope own) (hg : PMG (blkF Xf scope) cl tg g S) (ht : PMTs (blkF Xf scope) cl WNo ifs test) (he : PM (blkF Xf scope) cl WNo elt me)
    (hy : ∀ j, (Xf j).N[i]? = some y := by intro _; rfl) (hyl : ∀ j, (Xf j).env.scope.names.lookup y = some .local := by intro _; rfl)
    (hsw : ∀ j, swapsWith (.ListComp elt [⟨tg, iter, ifs, 0⟩] scope pos) (some (.Name y py)) spos.line (Xf j).env = pure true := by intro _; exact sw_true rfl rfl rfl (by decide +kernel)) (hS : ∀ j ∈ S, j ∈ own.map (·.2) := by decide)
    (hs : ∀ i x, foldedSetIterable iter (Xf i).env x = pure x := by intro _ _; rfl) : PMS Xf cl W (.Assign [.Name y py] (.ListComp elt [⟨tg, iter, ifs, 0⟩] scope pos) spos) (m_set i (fz (m_comp (own.map (·.2)) mI g test me))) := by
  obtain ⟨t, h1, h2⟩ := hi
  obtain ⟨u, g1, g2⟩ := hg
  obtain ⟨w, k1, k2⟩ := ht
  obtain ⟨yy, l1, l2⟩ := he
  refine ⟨tAsg (tLc t u w yy (own.map (·.2))) (gName i), fun j => ps_setLc (hc j) (hN j) (hy j) (hyl j) (hsw j) (h1 j) (ok j) (fun s H C cl fp => g1 (j, s, H, C, cl, fp)) (fun s H C cl fp => k1 (j, s, H, C, cl, fp)) (fun s H C cl fp => l1 (j, s, H, C, cl, fp)) (hs j), ?_⟩
  rcases hfz with e | e
  · subst e
    exact sim_asg (sim_comp h2 g2 hS k2 l2) simG_nm
  · subst e
    exact sim_asg (sim_fz (sim_comp h2 g2 hS k2 l2)) simG_nm
end
end W3

/-! C10: calls and defs. -/
namespace W3
open PySem PySem.Spec L2

/-! ### what a def computes: the arguments as slots; the result, and the slots that were handed in to be changed -/
abbrev Fun := List Sl → Option (Out T × Sg)
def pinsOf (args : List Sl) (vs : List V) : Nat → Option V := fun j => match args[j]? with
  | some (.io _) => vs[j]?
  | _ => none
def FinC (cl : Str → Addr) (As : Nat → List Addr) (H : Hp) (F' : Addr → Prop) (L : LL) (A' : Nat → List Addr) (H' : Hp) (Q : VK) (E : XK) : Out T → Prop
  | .ok t => ∀ v C, RelT cl F' H' t v C → C.Nodup → (∀ a ∈ C, ¬ F' a ∧ ¬ L a ∧ ¬ Own A' a) → (∀ x ∈ C, H x = none ∨ Own As x) → Q v H'
  | .exc c d => ∀ dx v, H' dx = some (.xd [("value", v)]) → RelD cl F' H' d v → E (.ref (cl c)) (some dx) H'
def spC (cl : Str → Addr) (n : Nat) (Φ : Fun) : Sp := fun vs H Q E => vs.length = n ∧ ∃ F L As args, L.pn = pinsOf args vs ∧ R cl F L As (args.map some) (vs.map some) H ∧ ∃ o outs, Φ args = some (o, outs) ∧
  ∀ F' A' H', Ext F (Own As) NoZ H F' (Own A') H' → R cl F' L A' outs (vs.map some) H' → FinC cl As H F' L A' H' Q E o

def outOf (ρ : Sg) : Rv → Option T
  | .t t => some t
  | .lent _ => none
  | .pk i => match ρ[i]? with
    | some (some (.t t)) => some t
    | _ => none
def outsAt (k : Nat) : List Sl → Sg → Sg
  | [], _ => []
  | .io _ :: l, ρ => (ρ[k]?).join :: outsAt (k + 1) l ρ
  | _ :: l, ρ => none :: outsAt (k + 1) l ρ
def runF (N : Nat) (m : M Fl) : Fun := fun args => match m (args.map some ++ List.replicate (N - args.length) none) with
  | some (.ok (.ret rv), ρ) => (outOf ρ rv).map fun t => (.ok t, outsAt 0 args ρ)
  | some (.ok .nx, ρ) => some (.ok (.v .non), outsAt 0 args ρ)
  | some (.exc c d, ρ) => some (.exc c d, outsAt 0 args ρ)
  | _ => none

def isIo : Sl → Bool
  | .io _ => true
  | _ => false
theorem outsAt_length {ρ : Sg} : ∀ {l : List Sl} {k : Nat}, (outsAt k l ρ).length = l.length
  | [], _ => rfl
  | .io _ :: l, k => by unfold outsAt; rw [List.length_cons, List.length_cons, outsAt_length]
  | .t _ :: l, k => by unfold outsAt; rw [List.length_cons, List.length_cons, outsAt_length]
  | .lent _ :: l, k => by unfold outsAt; rw [List.length_cons, List.length_cons, outsAt_length]
  | .al _ _ :: l, k => by unfold outsAt; rw [List.length_cons, List.length_cons, outsAt_length]
theorem outsAt_get {ρ : Sg} : ∀ {l : List Sl} {k j : Nat} {s : Sl}, l[j]? = some s → (outsAt k l ρ)[j]? = some (if isIo s = true then (ρ[k + j]?).join else none)
  | [], _, _, _, e => by cases e
  | s :: l, k, 0, _, e => by
    cases e
    cases s <;> rfl
  | s :: l, k, j + 1, _, e => by
    have h := outsAt_get (ρ := ρ) (l := l) (k := k + 1) (j := j) e
    rw [Nat.add_right_comm] at h
    cases s <;> exact h

section
variable {cl : Str → Addr} {W : WX} {F F' : Addr → Prop} {L : LL} {A A' : Nat → List Addr} {ρ ρ' : Sg} {σ σ' : L2.St} {H H' : Hp}
theorem R.pad {vs : List V} {args : List Sl} (r : R cl F L A (args.map some) (vs.map some) H) (n : Nat) (N : List Str) (hn : N.length - vs.length = n) : R cl F L A (args.map some ++ List.replicate n none) (L2.start N vs) H := by
  have hl : args.length = vs.length := by have := r.len; simpa using this
  have g1 : ∀ {i : Nat} {s : Sl}, (args.map some ++ List.replicate n none)[i]? = some (some s) → (args.map some)[i]? = some (some s) ∧ i < vs.length := fun {i s} e => by
    by_cases h : i < args.length
    · rw [List.getElem?_append_left (by rw [List.length_map]; exact h)] at e
      exact ⟨e, by omega⟩
    · rw [List.getElem?_append_right (by rw [List.length_map]; omega), List.getElem?_replicate] at e
      split at e <;> cases e
  have g2 : ∀ {i : Nat} {o : Option V}, i < vs.length → (vs.map some)[i]? = some o → (L2.start N vs)[i]? = some o := fun {i o} h e => by
    unfold L2.start
    rw [List.getElem?_append_left (by rw [List.length_map]; exact h)]
    exact e
  refine ⟨?_, fun i s e => ?_, r.nd, r.dj, r.ap, r.fd, r.ld, fun i v e => ?_⟩
  · unfold L2.start
    rw [List.length_append, List.length_append, List.length_map, List.length_map, List.length_replicate, List.length_replicate, hn, hl]
  · obtain ⟨e1, h⟩ := g1 e
    obtain ⟨v, e2, z⟩ := r.sl i s e1
    exact ⟨v, g2 h e2, z⟩
  · obtain ⟨⟨t, e1⟩, e2⟩ := r.pin i v e
    have h : i < vs.length := by
      have := (List.getElem?_eq_some_iff.mp e2).1
      rwa [List.length_map] at this
    refine ⟨⟨t, ?_⟩, g2 h e2⟩
    rw [List.getElem?_append_left (by rw [List.length_map]; omega)]
    exact e1
/-- behind the run: what was handed in to be changed -/
theorem R.outs {vs : List V} {args : List Sl} (hl : args.length = vs.length) (hp : L.pn = pinsOf args vs) (r : R cl F L A ρ σ H) : R cl F L (fun j => if (args[j]?).any isIo = true then A j else []) (outsAt 0 args ρ) (vs.map some) H := by
  have ow : ∀ {j a}, a ∈ (if (args[j]?).any isIo = true then A j else []) → a ∈ A j := fun {j a} h => by
    split at h
    · exact h
    · cases h
  refine ⟨by rw [outsAt_length, List.length_map, hl], fun i s e => ?_, fun i => ?_, fun i j a n h h2 => r.dj i j a n (ow h) (ow h2), fun a ⟨j, h⟩ => r.ap a ⟨j, ow h⟩, r.fd, r.ld, fun i v e => ?_⟩
  · have hi : i < args.length := by
      have := (List.getElem?_eq_some_iff.mp e).1
      rwa [outsAt_length] at this
    have ea := List.getElem?_eq_getElem hi
    rw [outsAt_get ea] at e
    split at e
    · rename_i hio
      have hv : i < vs.length := by omega
      have ev := List.getElem?_eq_getElem hv
      have pe : L.pn i = some vs[i] := by
        rw [hp]
        unfold pinsOf
        rw [ea]
        cases q : args[i] with
        | io t => exact ev
        | _ => rw [q] at hio; cases hio
      obtain ⟨⟨t, p1⟩, p2⟩ := r.pin i _ pe
      rw [Nat.zero_add, p1] at e
      cases e
      obtain ⟨v, e1, z⟩ := r.sl i _ p1
      rw [p2] at e1
      cases e1
      refine ⟨vs[i], by rw [List.getElem?_map, ev]; rfl, ?_⟩
      have : (if (args[i]?).any isIo = true then A i else []) = A i := by rw [ea]; exact if_pos hio
      rw [this]
      exact z
    · cases e
  · split
    · exact r.nd i
    · exact List.nodup_nil
  · obtain ⟨⟨t, p1⟩, p2⟩ := r.pin i v e
    rw [hp] at e
    unfold pinsOf at e
    split at e
    · rename_i t' ea
      refine ⟨⟨t, ?_⟩, by rw [List.getElem?_map, e]; rfl⟩
      rw [outsAt_get ea, Nat.zero_add, p1]
      rfl
    · cases e
theorem own_outs {args : List Sl} {a : Addr} (h : Own (fun j => if (args[j]?).any isIo = true then A j else []) a) : Own A a := by
  obtain ⟨j, h⟩ := h
  dsimp only at h
  split at h
  · exact ⟨j, h⟩
  · cases h
theorem Ext.less {B : Addr → Prop} {Z : Addr → Prop} {B1 B2 : Addr → Prop} (x : Ext F B Z H F' B1 H') (h : ∀ a, B2 a → B1 a) : Ext F B Z H F' B2 H' := ⟨x.f, x.nf, x.k, x.d, fun a z => x.b a (h a z)⟩
/-- THE RULE of a body -/
theorem run_spC {E : XK} {t : TS} {m : M Fl} {N : List Str} {n : Nat} {vs : List V} {Q : VK} (h : SimS cl (fun c d _ H => E c d H) t m) (hs : spC cl n (runF N.length m) vs H Q E) : t { nx := fun _ H' => Q .non H', rt := Q } (L2.start N vs) H := by
  obtain ⟨_, F, L, As, args, hp, r, o, outs, e, hQ⟩ := hs
  have hl : args.length = vs.length := by have := r.len; simpa using this
  unfold runF at e
  cases em : m (args.map some ++ List.replicate (N.length - args.length) none) with
  | none => rw [em] at e; cases e
  | some p =>
    obtain ⟨oo, ρ1⟩ := p
    rw [em] at e
    refine h F L As _ _ H (r.pad _ N (by rw [hl])) _ _ em _ fun F' A' σ' H' x r' => ?_
    have ro := R.outs (args := args) hl hp r'
    have xo : Ext F (Own As) NoZ H F' (Own (fun j => if (args[j]?).any isIo = true then A' j else [])) H' := x.less fun a => own_outs
    cases oo with
    | exc c d =>
      cases e
      exact hQ F' _ H' xo ro
    | ok f =>
      cases f with
      | nx =>
        cases e
        exact hQ F' _ H' xo ro .non [] (.v .non) List.nodup_nil (fun a m => nomatch m) fun a m => nomatch m
      | bk => cases e
      | ct => cases e
      | ret rv =>
        intro v C hr hC
        simp only at e
        cases eo : outOf ρ1 rv with
        | none => rw [eo] at e; cases e
        | some tr =>
          rw [eo] at e
          cases e
          cases rv with
          | lent d => cases eo
          | t t0 =>
            cases eo
            obtain ⟨h1, h2, h3⟩ := hr
            exact hQ F' _ H' xo ro v C h1 h2 (fun a m => ⟨(h3 a m).1, (h3 a m).2.1, fun z => (h3 a m).2.2 (own_outs z)⟩) hC
          | pk i =>
            unfold outOf at eo
            simp only at eo
            split at eo
            · rename_i t0 q
              cases eo
              obtain ⟨v', e1, s⟩ := r'.sl i _ q
              obtain ⟨hc, hv⟩ := hr
              rw [hv] at e1
              cases e1
              refine hQ F' _ H' xo ro v (A' i) s (r'.nd i) (fun a m => ⟨(r'.ap a ⟨i, m⟩).1, (r'.ap a ⟨i, m⟩).2.1, fun z => ?_⟩) fun a m => ?_
              · obtain ⟨j, z⟩ := z
                dsimp only at z
                split at z
                · rename_i hio
                  have hij : j ≠ i := fun w => by
                    subst w
                    cases ea : args[j]? with
                    | none => rw [ea] at hio; cases hio
                    | some s0 =>
                      rw [ea] at hio
                      have hj : j < vs.length := by rw [← hl]; exact (List.getElem?_eq_some_iff.mp ea).1
                      have pe : L.pn j = some vs[j] := by
                        rw [hp]
                        unfold pinsOf
                        rw [ea]
                        cases s0 with
                        | io t => exact List.getElem?_eq_getElem hj
                        | _ => cases hio
                      obtain ⟨⟨t1, p1⟩, _⟩ := r'.pin j _ pe
                      rw [q] at p1
                      cases p1
                  exact r'.dj j i a hij z m
                · cases z
              · rcases x.b a ⟨i, m⟩ with w | w | w
                · exact .inr w
                · exact .inl w
                · exact w.elim
            · cases eo
end

/-- a def keeps the promise made of m -/
theorem fnC_of {cl : Str → Addr} {P : Program} {w : World} {K : PySem.W.Frag} {mg : Str → Option Value} {base : Heap} {x qual : Str} {params : Arguments} {body : List Stmt} {scope : Scope} {dvs : List V} {kws : List (Str × V)} {f : Addr} {fd : FuncData}
    {N ps : List Str} {k : Nat} {m : M Fl} (FD : FunD K x qual params body scope dvs kws f fd) (S : FnScope N ps scope)
    (h : ∀ (cdv : Value) (A : Around) (outer : List Env) (s : Shared) (H : Hp) (E : XK), Room k (A.deeper (PyProof.Rows.envOfC qual scope s.heap.objs.size f cdv)) →
      PMSs (fun _ : Unit => cxOf (L2.CX P w) P w K mg base N qual scope f cdv A outer s H E) cl (fun c d _ H => E c d H) body m) :
    FnOk P w K mg base (L2.CX P w) (k + 1) f fd ps (spC cl ps.length (runF N.length m)) :=
  FD.ok S (fun vs H Q E q => q.1) fun cdv A outer s H vs Q E hr hsp => by
    obtain ⟨t, h1, h2⟩ := h cdv A outer s H E hr
    exact ⟨t, h1 (), run_spC h2 hsp⟩

/-! ### the caller's side -/
def argOf (ρ : Sg) (b : Bool) : Rv → Option Sl
  | .t t => some (.t t)
  | .lent d => some (.lent d)
  | .pk i => match ρ[i]? with
    | some (some (.t t)) => some (if b = true then .io t else .lent t.toD)
    | some (some (.io t)) => some (if b = true then .io t else .lent t.toD)
    | _ => none
def argsOf (ρ : Sg) : List Bool → List Rv → Option (List Sl)
  | _, [] => some []
  | [], r :: rs => match argOf ρ false r, argsOf ρ [] rs with
    | some s, some l => some (s :: l)
    | _, _ => none
  | b :: bs, r :: rs => match argOf ρ b r, argsOf ρ bs rs with
    | some s, some l => some (s :: l)
    | _, _ => none
def pkOf : Rv → Option Nat
  | .pk i => some i
  | _ => none
/-- the slots handed in to be changed; those lent -/
def ios : List Bool → List Rv → List Nat
  | true :: bs, .pk i :: rs => i :: ios bs rs
  | _ :: bs, _ :: rs => ios bs rs
  | _, _ => []
def lns : List Bool → List Rv → List Nat
  | true :: bs, _ :: rs => lns bs rs
  | false :: bs, .pk i :: rs => i :: lns bs rs
  | false :: bs, _ :: rs => lns bs rs
  | [], .pk i :: rs => i :: lns [] rs
  | [], _ :: rs => lns [] rs
  | _, [] => []
def putT (i : Nat) (t : T) (ρ : Sg) : Sg := match ρ[i]? with
  | some (some (.t _)) => ρ.set i (some (.t t))
  | some (some (.io _)) => ρ.set i (some (.io t))
  | _ => ρ
def putO (i : Nat) (o : Option Sl) (ρ : Sg) : Sg := match o with
  | some (.io t) => putT i t ρ
  | _ => ρ
def putOuts : List Bool → List Rv → Sg → Sg → Sg
  | true :: bs, .pk i :: rs, o :: os, ρ => putOuts bs rs os (putO i o ρ)
  | _ :: bs, _ :: rs, _ :: os, ρ => putOuts bs rs os ρ
  | _, _, _, ρ => ρ
def callR (bs : List Bool) (Φ : Fun) (rs : List Rv) : M Rv := fun ρ =>
  if (ios bs rs).Nodup ∧ ∀ i ∈ lns bs rs, i ∉ ios bs rs then
    match argsOf ρ bs rs with
    | none => none
    | some args => match Φ args with
      | none => none
      | some (.ok t, outs) => some (.ok (.t t), putOuts bs rs outs ρ)
      | some (.exc c d, outs) => some (.exc c d, putOuts bs rs outs ρ)
  else none

/-- the slot that the j-th argument hands in to be changed -/
def ioAt (bs : List Bool) (rs : List Rv) (j : Nat) : Option Nat := if bs[j]? = some true then (rs[j]?).bind pkOf else none
theorem ioAt_cons {b : Bool} {bs : List Bool} {r : Rv} {rs : List Rv} {j : Nat} : ioAt (b :: bs) (r :: rs) (j + 1) = ioAt bs rs j := rfl
theorem ioAt_nil {rs : List Rv} {j : Nat} : ioAt [] rs j = none := if_neg (by simp)
theorem ioAt_nil' {bs : List Bool} {j : Nat} : ioAt bs [] j = none := by unfold ioAt; split <;> rfl
theorem ioAt_mem : ∀ {bs : List Bool} {rs : List Rv} {j i : Nat}, ioAt bs rs j = some i → i ∈ ios bs rs
  | [], _, _, _, e => by rw [ioAt_nil] at e; cases e
  | _ :: _, [], _, _, e => by rw [ioAt_nil'] at e; cases e
  | b :: bs, r :: rs, 0, i, e => by
    cases b with
    | false => cases e
    | true =>
      cases r with
      | pk k => cases e; exact List.mem_cons_self
      | _ => cases e
  | b :: bs, r :: rs, j + 1, i, e => by
    have h := ioAt_mem (bs := bs) (rs := rs) (j := j) e
    cases b <;> cases r <;> first | exact h | exact List.mem_cons_of_mem _ h
theorem ioAt_inj : ∀ {bs : List Bool} {rs : List Rv} {j k i : Nat}, (ios bs rs).Nodup → ioAt bs rs j = some i → ioAt bs rs k = some i → j = k
  | [], _, _, _, _, _, e, _ => by rw [ioAt_nil] at e; cases e
  | _ :: _, [], _, _, _, _, e, _ => by rw [ioAt_nil'] at e; cases e
  | b :: bs, r :: rs, 0, 0, i, _, _, _ => rfl
  | b :: bs, r :: rs, 0, k + 1, i, n, e, e2 => by
    have h := ioAt_mem (bs := bs) (rs := rs) (j := k) e2
    cases b with
    | false => cases e
    | true =>
      cases r with
      | pk k => cases e; exact absurd h (List.nodup_cons.mp n).1
      | _ => cases e
  | b :: bs, r :: rs, j + 1, 0, i, n, e2, e => by
    have h := ioAt_mem (bs := bs) (rs := rs) (j := j) e2
    cases b with
    | false => cases e
    | true =>
      cases r with
      | pk k => cases e; exact absurd h (List.nodup_cons.mp n).1
      | _ => cases e
  | b :: bs, r :: rs, j + 1, k + 1, i, n, e, e2 => by
    have n' : (ios bs rs).Nodup := by cases b <;> cases r <;> first | exact n | exact (List.nodup_cons.mp n).2
    exact congrArg (· + 1) (ioAt_inj n' e e2)
theorem ios_at : ∀ {bs : List Bool} {rs : List Rv} {i : Nat}, i ∈ ios bs rs → ∃ j, ioAt bs rs j = some i
  | [], rs, i, m => by unfold ios at m; cases m
  | b :: bs, [], i, m => by cases b <;> (unfold ios at m; cases m)
  | b :: bs, r :: rs, i, m => by
    have go : i ∈ ios bs rs → ∃ j, ioAt (b :: bs) (r :: rs) j = some i := fun m => by
      obtain ⟨j, h⟩ := ios_at m
      exact ⟨j + 1, h⟩
    cases b with
    | false => cases r <;> exact go m
    | true =>
      cases r with
      | pk k =>
        rcases List.mem_cons.mp m with e | m
        · exact ⟨0, by rw [e]; rfl⟩
        · exact go m
      | _ => exact go m
theorem lns_mem : ∀ {bs : List Bool} {rs : List Rv} {j i : Nat}, rs[j]? = some (.pk i) → bs[j]? ≠ some true → i ∈ lns bs rs
  | _, [], _, _, e, _ => by cases e
  | [], r :: rs, 0, i, e, _ => by cases e; exact List.mem_cons_self
  | [], r :: rs, j + 1, i, e, _ => by
    have h := lns_mem (bs := []) (rs := rs) (j := j) e (by simp)
    cases r <;> first | exact h | exact List.mem_cons_of_mem _ h
  | b :: bs, r :: rs, 0, i, e, n => by
    cases b with
    | true => exact absurd rfl n
    | false => cases e; exact List.mem_cons_self
  | b :: bs, r :: rs, j + 1, i, e, n => by
    have h := lns_mem (bs := bs) (rs := rs) (j := j) e n
    cases b <;> cases r <;> first | exact h | exact List.mem_cons_of_mem _ h
theorem argsOf_len {ρ : Sg} : ∀ {bs : List Bool} {rs : List Rv} {l : List Sl}, argsOf ρ bs rs = some l → l.length = rs.length
  | _, [], l, e => by
    unfold argsOf at e
    cases e; rfl
  | [], r :: rs, l, e => by
    unfold argsOf at e
    split at e
    · rename_i s l' e1 e2
      cases e
      rw [List.length_cons, List.length_cons, argsOf_len e2]
    · cases e
  | b :: bs, r :: rs, l, e => by
    unfold argsOf at e
    split at e
    · rename_i s l' e1 e2
      cases e
      rw [List.length_cons, List.length_cons, argsOf_len e2]
    · cases e
theorem argsOf_get {ρ : Sg} : ∀ {bs : List Bool} {rs : List Rv} {l : List Sl} {j : Nat} {s : Sl}, argsOf ρ bs rs = some l → l[j]? = some s → ∃ rv, rs[j]? = some rv ∧ argOf ρ (decide (bs[j]? = some true)) rv = some s
  | _, [], l, j, s, e, e2 => by
    unfold argsOf at e
    cases e; cases e2
  | [], r :: rs, l, j, s, e, e2 => by
    unfold argsOf at e
    split at e
    · rename_i s' l' e3 e4
      cases e
      cases j with
      | zero => cases e2; exact ⟨r, rfl, e3⟩
      | succ j =>
        obtain ⟨rv, h1, h2⟩ := argsOf_get e4 e2
        exact ⟨rv, h1, h2⟩
    · cases e
  | b :: bs, r :: rs, l, j, s, e, e2 => by
    unfold argsOf at e
    split at e
    · rename_i s' l' e3 e4
      cases e
      cases j with
      | zero =>
        cases e2
        refine ⟨r, rfl, ?_⟩
        have : (decide ((b :: bs)[0]? = some true)) = b := by cases b <;> rfl
        rw [this]; exact e3
      | succ j =>
        obtain ⟨rv, h1, h2⟩ := argsOf_get e4 e2
        exact ⟨rv, h1, h2⟩
    · cases e
theorem putT_len {i : Nat} {t : T} {ρ : Sg} : (putT i t ρ).length = ρ.length := by
  unfold putT
  split <;> first | rfl | rw [List.length_set]
theorem putT_ne {i k : Nat} {t : T} {ρ : Sg} (h : k ≠ i) : (putT i t ρ)[k]? = ρ[k]? := by
  unfold putT
  split <;> first | rfl | rw [List.getElem?_set_ne (Ne.symm h)]
theorem putO_len {i : Nat} {o : Option Sl} {ρ : Sg} : (putO i o ρ).length = ρ.length := by
  unfold putO
  split
  · exact putT_len
  · rfl
theorem putO_ne {i k : Nat} {o : Option Sl} {ρ : Sg} (h : k ≠ i) : (putO i o ρ)[k]? = ρ[k]? := by
  unfold putO
  split
  · exact putT_ne h
  · rfl
theorem putOuts_len : ∀ {bs : List Bool} {rs : List Rv} {os ρ : Sg}, (putOuts bs rs os ρ).length = ρ.length
  | [], rs, os, ρ => by unfold putOuts; rfl
  | b :: bs, [], os, ρ => by cases b <;> (unfold putOuts; rfl)
  | b :: bs, r :: rs, [], ρ => by cases b <;> cases r <;> (unfold putOuts; rfl)
  | b :: bs, r :: rs, o :: os, ρ => by
    cases b with
    | false => cases r <;> (unfold putOuts; exact putOuts_len)
    | true =>
      cases r with
      | pk i =>
        unfold putOuts
        rw [putOuts_len, putO_len]
      | _ => unfold putOuts; exact putOuts_len
theorem putOuts_off {k : Nat} : ∀ {bs : List Bool} {rs : List Rv} {os ρ : Sg}, k ∉ ios bs rs → (putOuts bs rs os ρ)[k]? = ρ[k]?
  | [], rs, os, ρ, _ => by unfold putOuts; rfl
  | b :: bs, [], os, ρ, _ => by cases b <;> (unfold putOuts; rfl)
  | b :: bs, r :: rs, [], ρ, _ => by cases b <;> cases r <;> (unfold putOuts; rfl)
  | b :: bs, r :: rs, o :: os, ρ, h => by
    cases b with
    | false => cases r <;> (unfold putOuts; exact putOuts_off h)
    | true =>
      cases r with
      | pk i =>
        unfold putOuts
        rw [putOuts_off fun z => h (List.mem_cons_of_mem _ z)]
        exact putO_ne fun z => h (by rw [z]; exact List.mem_cons_self)
      | _ => unfold putOuts; exact putOuts_off h
theorem putOuts_at {k : Nat} {t : T} : ∀ {bs : List Bool} {rs : List Rv} {os ρ : Sg} {j : Nat}, (ios bs rs).Nodup → ioAt bs rs j = some k → os[j]? = some (some (.io t)) → (putOuts bs rs os ρ)[k]? = (putT k t ρ)[k]?
  | [], _, _, _, _, _, e, _ => by rw [ioAt_nil] at e; cases e
  | _ :: _, [], _, _, _, _, e, _ => by rw [ioAt_nil'] at e; cases e
  | _ :: _, _ :: _, [], _, _, _, _, e => by cases e
  | b :: bs, r :: rs, o :: os, ρ, 0, n, e, e2 => by
    cases b with
    | false => cases e
    | true =>
      cases r with
      | pk i =>
        cases e
        cases e2
        unfold putOuts
        exact putOuts_off (List.nodup_cons.mp n).1
      | _ => cases e
  | b :: bs, r :: rs, o :: os, ρ, j + 1, n, e, e2 => by
    have ih := fun (ρ : Sg) (n' : (ios bs rs).Nodup) => putOuts_at (ρ := ρ) n' (show ioAt bs rs j = some k from e) e2
    cases b with
    | false => cases r <;> (unfold putOuts; exact ih _ n)
    | true =>
      cases r with
      | pk i =>
        unfold putOuts
        rw [ih _ (List.nodup_cons.mp n).2]
        have hk : k ≠ i := fun z => (List.nodup_cons.mp n).1 (by rw [← z]; exact ioAt_mem (show ioAt bs rs j = some k from e))
        have h1 : (putO i o ρ)[k]? = ρ[k]? := putO_ne hk
        have h2 : (putO i o ρ).length = ρ.length := putO_len
        generalize putO i o ρ = ρ1 at h1 h2 ⊢
        by_cases hl : k < ρ.length
        · unfold putT
          rw [h1]
          split
          · rw [List.getElem?_set_self (by omega), List.getElem?_set_self hl]
          · rw [List.getElem?_set_self (by omega), List.getElem?_set_self hl]
          · exact h1
        · rw [List.getElem?_eq_none (by rw [putT_len]; omega), List.getElem?_eq_none (by rw [putT_len]; omega)]
      | _ => unfold putOuts; exact ih _ n

/-- the arguments' own parts -/
theorem RelRvs.parts {cl : Str → Addr} {F : Addr → Prop} {L : LL} {A : Nat → List Addr} {σ : L2.St} {H : Hp} : ∀ {rs : List Rv} {vs : List V} {C : List Addr}, RelRvs cl F L A σ H rs vs C →
    ∃ Bs : Nat → List Addr, rs.length = vs.length ∧ (∀ j rv, rs[j]? = some rv → ∃ v, vs[j]? = some v ∧ RelRv cl F L A σ H rv v (Bs j)) ∧ (∀ j a, a ∈ Bs j → a ∈ C) ∧ (∀ i j a, i ≠ j → a ∈ Bs i → a ∉ Bs j) ∧ (∀ j, rs[j]? = none → Bs j = []) := by
  intro rs vs C h
  induction h with
  | nil =>
    refine ⟨fun _ => [], rfl, fun j rv e => ?_, fun j a m => ?_, fun i j a _ m => ?_, fun _ _ => rfl⟩
    · simp at e
    · cases m
    · cases m
  | @cons r v rs vs B C h1 h2 hn ih =>
    obtain ⟨Bs, e0, e1, e2, e3, e4⟩ := ih
    refine ⟨fun j => match j with
      | 0 => B
      | j + 1 => Bs j, congrArg (· + 1) e0, fun j rv e => ?_, fun j a m => ?_, fun i j a n m => ?_, fun j e => ?_⟩
    · cases j with
      | zero => cases e; exact ⟨v, rfl, h1⟩
      | succ j => exact e1 j rv e
    · cases j with
      | zero => exact List.mem_append_left _ m
      | succ j => exact List.mem_append_right _ (e2 j a m)
    · cases i with
      | zero => cases j with
        | zero => exact absurd rfl n
        | succ j => exact fun z => hn a m (e2 j a z)
      | succ i => cases j with
        | zero => exact fun z => hn a z (e2 i a m)
        | succ j => exact e3 i j a (fun z => n (congrArg (· + 1) z)) m
    · cases j with
      | zero => cases e
      | succ j => exact e4 j e

def outRv : Out T → Out Rv
  | .ok t => .ok (.t t)
  | .exc c d => .exc c d
open Classical in
theorem simAt_callR {cl : Str → Addr} {W : WX} {F : Addr → Prop} {L : LL} {A : Nat → List Addr} {ρ : Sg} {σ : L2.St} {H : Hp} {bs : List Bool} {Φ : Fun} {rs : List Rv} {vs : List V} {C : List Addr} {n : Nat} (hn : vs.length = n)
    (r : R cl F L A ρ σ H) (h : RelRvs cl F L A σ H rs vs C) : SimAt cl (RelRv cl) W (fun x => x ∈ C) F L A σ H (fun H Q => spC cl n Φ vs H Q (WE W σ)) (callR bs Φ rs ρ) := by
  intro o ρ' em Q hQ
  unfold callR at em
  split at em
  case isFalse => cases em
  rename_i hc
  obtain ⟨nd, ln⟩ := hc
  cases ea : argsOf ρ bs rs with
  | none => rw [ea] at em; cases em
  | some args =>
  rw [ea] at em
  simp only at em
  obtain ⟨Bs, e0, e1, e2, e3, e4⟩ := h.parts
  have al := argsOf_len ea
  -- what each argument is
  have ioA : ∀ {j i}, ioAt bs rs j = some i → bs[j]? = some true ∧ rs[j]? = some (.pk i) := fun {j i} e => by
    unfold ioAt at e
    split at e
    · rename_i hb
      refine ⟨hb, ?_⟩
      cases q : rs[j]? with
      | none => rw [q] at e; cases e
      | some rv =>
        rw [q] at e
        cases rv with
        | pk k => cases e; rfl
        | _ => cases e
    · cases e
  have Bnd : ∀ j, (Bs j).Nodup := fun j => by
    cases q : rs[j]? with
    | none => rw [e4 j q]; exact List.nodup_nil
    | some rv =>
      obtain ⟨v, _, z⟩ := e1 j rv q
      cases rv with
      | t t => exact z.2.1
      | lent d => rw [z.1]; exact List.nodup_nil
      | pk i => rw [z.1]; exact List.nodup_nil
  have Bap : ∀ j a, a ∈ Bs j → ¬ F a ∧ ¬ L a ∧ ¬ Own A a ∧ H a ≠ none := fun j a m => by
    cases q : rs[j]? with
    | none => rw [e4 j q] at m; cases m
    | some rv =>
      obtain ⟨v, _, z⟩ := e1 j rv q
      cases rv with
      | t t => exact ⟨(z.2.2 a m).1, (z.2.2 a m).2.1, (z.2.2 a m).2.2, RelT.dom t v _ z.1 a m⟩
      | lent d => rw [z.1] at m; cases m
      | pk i => rw [z.1] at m; cases m
  let As : Nat → List Addr := fun j => match ioAt bs rs j with
    | some i => A i
    | none => Bs j
  have As1 : ∀ {j i}, ioAt bs rs j = some i → As j = A i := fun {j i} e => by show (match ioAt bs rs j with | some i => A i | none => Bs j) = _; rw [e]
  have As0 : ∀ {j}, ioAt bs rs j = none → As j = Bs j := fun {j} e => by show (match ioAt bs rs j with | some i => A i | none => Bs j) = _; rw [e]
  have AsO : ∀ {j a}, a ∈ As j → (∃ i, ioAt bs rs j = some i ∧ a ∈ A i) ∨ (ioAt bs rs j = none ∧ a ∈ Bs j) := fun {j a} m => by
    cases q : ioAt bs rs j with
    | none => rw [As0 q] at m; exact .inr ⟨rfl, m⟩
    | some i => rw [As1 q] at m; exact .inl ⟨i, rfl, m⟩
  let Lc : LL := ⟨fun a => L a ∨ (Own A a ∧ ∀ j i, ioAt bs rs j = some i → a ∉ A i), pinsOf args vs⟩
  have rc : R cl F Lc As (args.map some) (vs.map some) H := by
    refine ⟨by rw [List.length_map, List.length_map, al, e0], fun i s e => ?_, fun i => ?_, fun i j a n m => ?_, fun a ⟨j, m⟩ => ?_, r.fd, fun a l => ?_, fun i v e => ?_⟩
    · have e' : args[i]? = some s := by
        rw [List.getElem?_map] at e
        cases q : args[i]? with
        | none => rw [q] at e; cases e
        | some s' => rw [q] at e; cases e; rfl
      obtain ⟨rv, q1, q2⟩ := argsOf_get ea e'
      obtain ⟨v, q3, z⟩ := e1 i rv q1
      refine ⟨v, by rw [List.getElem?_map, q3]; rfl, ?_⟩
      cases rv with
      | t t =>
        cases q2
        have : ioAt bs rs i = none := by unfold ioAt; split <;> first | (rw [q1]; rfl) | rfl
        rw [As0 this]
        exact z.1
      | lent d =>
        cases q2
        exact RelD.keep (fun a w => w.imp_right .inl) (fun _ _ _ e => e) d v z.2
      | pk k =>
        have hk : ∀ t, RelT cl F H t v (A k) → some (if decide (bs[i]? = some true) = true then Sl.io t else Sl.lent t.toD) = some s → RelS cl F Lc H (As i) s v := fun t ht es => by
          by_cases hb : bs[i]? = some true
          · rw [if_pos (decide_eq_true hb)] at es
            cases es
            have : ioAt bs rs i = some k := by unfold ioAt; rw [if_pos hb, q1]; rfl
            rw [As1 this]
            exact ht
          · rw [if_neg (by simpa using hb)] at es
            cases es
            have hkl := ln k (lns_mem q1 hb)
            exact RelT.frz (F' := Un2 F Lc) (fun a w => .inl w) t v (A k) (fun a m => .inr (.inr ⟨⟨k, m⟩, fun j i' e m' => r.dj k i' a (fun w => hkl (by rw [w]; exact ioAt_mem e)) m m'⟩)) ht
        unfold argOf at q2
        simp only at q2
        have hv := z.2
        split at q2
        · rename_i t q
          obtain ⟨v', w1, w2⟩ := r.sl k _ q
          rw [hv] at w1
          cases w1
          exact hk t w2 q2
        · rename_i t q
          obtain ⟨v', w1, w2⟩ := r.sl k _ q
          rw [hv] at w1
          cases w1
          exact hk t w2 q2
        · cases q2
    · cases q : ioAt bs rs i with
      | none => rw [As0 q]; exact Bnd i
      | some k => rw [As1 q]; exact r.nd k
    · intro m2
      rcases AsO m with ⟨k, w1, w2⟩ | ⟨w1, w2⟩
      · rcases AsO m2 with ⟨k2, y1, y2⟩ | ⟨y1, y2⟩
        · by_cases hk : k = k2
          · rw [hk] at w1
            exact n (ioAt_inj nd w1 y1)
          · exact r.dj k k2 a hk w2 y2
        · exact (Bap j a y2).2.2.1 ⟨k, w2⟩
      · rcases AsO m2 with ⟨k2, y1, y2⟩ | ⟨y1, y2⟩
        · exact (Bap i a w2).2.2.1 ⟨k2, y2⟩
        · exact e3 i j a n w2 y2
    · rcases AsO m with ⟨k, w1, w2⟩ | ⟨w1, w2⟩
      · have ap := r.ap a ⟨k, w2⟩
        exact ⟨ap.1, fun z => z.elim ap.2.1 fun z => z.2 j k w1 w2, ap.2.2⟩
      · have ap := Bap j a w2
        exact ⟨ap.1, fun z => z.elim ap.2.1 fun z => ap.2.2.1 z.1, ap.2.2.2⟩
    · rcases l with l | l
      · exact r.ld a l
      · exact (r.ap a l.1).2.2
    · have e : pinsOf args vs i = some v := e
      unfold pinsOf at e
      split at e
      · rename_i t q
        exact ⟨⟨t, by rw [List.getElem?_map, q]; rfl⟩, by rw [List.getElem?_map, e]; rfl⟩
      · cases e
  cases ef : Φ args with
  | none => rw [ef] at em; cases em
  | some p =>
  obtain ⟨oo, outs⟩ := p
  rw [ef] at em
  have hρ : ρ' = putOuts bs rs outs ρ := by
    cases oo with
    | ok t => cases em; rfl
    | exc c d => cases em; rfl
  have ho : o = outRv oo := by
    cases oo with
    | ok t => cases em; rfl
    | exc c d => cases em; rfl
  subst hρ ho
  refine ⟨hn, F, Lc, As, args, rfl, rc, oo, outs, ef, fun F' A' H' x r' => ?_⟩
  -- the slots behind the call
  let A2 : Nat → List Addr := fun k => if hk : ∃ j, ioAt bs rs j = some k then A' (choose hk) else A k
  have A2a : ∀ {j k}, ioAt bs rs j = some k → A2 k = A' j := fun {j k} e => by
    have hk : ∃ j, ioAt bs rs j = some k := ⟨j, e⟩
    show (if hk : ∃ j, ioAt bs rs j = some k then A' (choose hk) else A k) = _
    rw [dif_pos hk, ioAt_inj nd (choose_spec hk) e]
  have A2b : ∀ {k}, (¬ ∃ j, ioAt bs rs j = some k) → A2 k = A k := fun {k} e => dif_neg e
  have A2O : ∀ {k a}, a ∈ A2 k → (∃ j, ioAt bs rs j = some k ∧ a ∈ A' j) ∨ ((¬ ∃ j, ioAt bs rs j = some k) ∧ a ∈ A k) := fun {k a} m => by
    by_cases hk : ∃ j, ioAt bs rs j = some k
    · obtain ⟨j, e⟩ := hk
      rw [A2a e] at m
      exact .inl ⟨j, e, m⟩
    · rw [A2b hk] at m
      exact .inr ⟨hk, m⟩
  have AsOwn : ∀ {a}, Own As a → Own A a ∨ a ∈ C := fun {a} ⟨j, m⟩ => by
    rcases AsO m with ⟨k, _, w2⟩ | ⟨_, w2⟩
    · exact .inl ⟨k, w2⟩
    · exact .inr (e2 j a w2)
  have offAs : ∀ {k a}, (¬ ∃ j, ioAt bs rs j = some k) → a ∈ A k → ¬ Own As a := fun {k a} hk m ⟨j, m2⟩ => by
    rcases AsO m2 with ⟨i, w1, w2⟩ | ⟨_, w2⟩
    · by_cases e : k = i
      · subst e; exact hk ⟨j, w1⟩
      · exact r.dj k i a e m w2
    · exact (Bap j a w2).2.2.1 ⟨k, m⟩
  have offLc : ∀ {k a}, (¬ ∃ j, ioAt bs rs j = some k) → a ∈ A k → Lc a := fun {k a} hk m => .inr ⟨⟨k, m⟩, fun j i e m2 => by
    by_cases e' : k = i
    · subst e'; exact hk ⟨j, e⟩
    · exact r.dj k i a e' m m2⟩
  have FAs : ∀ {a}, F a → ¬ Own As a := fun {a} f o => (rc.ap a o).1 f
  have LAs : ∀ {a}, L a → ¬ Own As a := fun {a} f o => (rc.ap a o).2.1 (.inl f)
  have xx : Ext F (Own A) (fun x => x ∈ C) H F' (Own A2) H' := by
    refine ⟨x.f, fun a f => ?_, fun a oo e n z => ?_, x.d, fun a ⟨k, m⟩ => ?_⟩
    · rcases x.nf a f with w | w | w | w
      · exact .inl w
      · exact .inr (.inl w)
      · rcases AsOwn w with w | w
        · exact .inr (.inr (.inl w))
        · exact .inr (.inr (.inr w))
      · exact w.elim
    · exact x.k a oo e (fun w => (AsOwn w).elim n z) id
    · rcases A2O m with ⟨j, _, w⟩ | ⟨_, w⟩
      · rcases x.b a ⟨j, w⟩ with w | w | w
        · rcases AsOwn w with w | w
          · exact .inl w
          · exact .inr (.inr w)
        · exact .inr (.inl w)
        · exact w.elim
      · exact .inl ⟨k, w⟩
  -- an argument that was handed in to be changed
  have ioS : ∀ {j k s}, ioAt bs rs j = some k → ρ[k]? = some (some s) → ∃ v t', σ[k]? = some (some v) ∧ RelT cl F' H' t' v (A' j) ∧ ((∃ t, s = .t t ∧ (putOuts bs rs outs ρ)[k]? = some (some (.t t'))) ∨ (∃ t, s = .io t ∧ (putOuts bs rs outs ρ)[k]? = some (some (.io t')))) := fun {j k s} e q => by
    obtain ⟨hb, hr⟩ := ioA e
    obtain ⟨v, q3, z⟩ := e1 j _ hr
    have hj : j < args.length := by rw [al]; exact (List.getElem?_eq_some_iff.mp hr).1
    have eaj := List.getElem?_eq_getElem hj
    obtain ⟨rv, w1, w2⟩ := argsOf_get ea eaj
    rw [hr] at w1
    cases w1
    unfold argOf at w2
    simp only at w2
    rw [q] at w2
    have fin : ∀ t, args[j] = .io t → ∃ t', outs[j]? = some (some (.io t')) ∧ RelT cl F' H' t' v (A' j) := fun t ej => by
      have pe : Lc.pn j = some v := by
        show pinsOf args vs j = _
        unfold pinsOf
        rw [eaj, ej]
        exact q3
      obtain ⟨⟨t', p1⟩, p2⟩ := r'.pin j v pe
      obtain ⟨v', p3, p4⟩ := r'.sl j _ p1
      rw [p2] at p3
      cases p3
      exact ⟨t', p1, p4⟩
    have hkl : k < ρ.length := (List.getElem?_eq_some_iff.mp q).1
    cases s with
    | t t =>
      simp only [hb, decide_true, if_true] at w2
      obtain ⟨t', p1, p2⟩ := fin t (Option.some.inj w2).symm
      refine ⟨v, t', z.2, p2, .inl ⟨t, rfl, ?_⟩⟩
      rw [putOuts_at nd e p1]
      unfold putT
      rw [q]
      exact List.getElem?_set_self hkl
    | io t =>
      simp only [hb, decide_true, if_true] at w2
      obtain ⟨t', p1, p2⟩ := fin t (Option.some.inj w2).symm
      refine ⟨v, t', z.2, p2, .inr ⟨t, rfl, ?_⟩⟩
      rw [putOuts_at nd e p1]
      unfold putT
      rw [q]
      exact List.getElem?_set_self hkl
    | lent d => cases w2
    | al _ _ => cases w2
  have offS : ∀ {k}, (¬ ∃ j, ioAt bs rs j = some k) → (putOuts bs rs outs ρ)[k]? = ρ[k]? := fun {k} hk => putOuts_off fun m => hk (by
    -- a slot in ios is some ioAt's
    exact ios_at m)
  have rr : R cl F' L A2 (putOuts bs rs outs ρ) σ H' := by
    refine ⟨by rw [putOuts_len]; exact r.len, fun k s e => ?_, fun k => ?_, fun i k a n m m2 => ?_, fun a ⟨k, m⟩ => ?_, r'.fd, fun a l => x.d a (r.ld a l), fun k v e => ?_⟩
    · by_cases hk : ∃ j, ioAt bs rs j = some k
      · obtain ⟨j, ej⟩ := hk
        have hkl : k < ρ.length := by
          have := (List.getElem?_eq_some_iff.mp e).1
          rwa [putOuts_len] at this
        obtain ⟨hb, hr⟩ := ioA ej
        have : ∃ s0, ρ[k]? = some (some s0) := by
          have hj : j < args.length := by rw [al]; exact (List.getElem?_eq_some_iff.mp hr).1
          obtain ⟨rv, w1, w2⟩ := argsOf_get ea (List.getElem?_eq_getElem hj)
          rw [hr] at w1
          cases w1
          unfold argOf at w2
          simp only at w2
          split at w2
          · rename_i t q; exact ⟨_, q⟩
          · rename_i t q; exact ⟨_, q⟩
          · cases w2
        obtain ⟨s0, q⟩ := this
        obtain ⟨v, t', z1, z2, z3⟩ := ioS ej q
        refine ⟨v, z1, ?_⟩
        rw [A2a ej]
        rcases z3 with ⟨t, _, z3⟩ | ⟨t, _, z3⟩
        · rw [z3] at e; cases e; exact z2
        · rw [z3] at e; cases e; exact z2
      · rw [offS hk] at e
        obtain ⟨v, z1, z2⟩ := r.sl k s e
        refine ⟨v, z1, ?_⟩
        rw [A2b hk]
        cases s with
        | t t => exact RelT.keep x.f (fun a o f e => x.k a o e (FAs f) id) t v (A k) (fun a o m e => x.k a o e (offAs hk m) id) z2
        | io t => exact RelT.keep x.f (fun a o f e => x.k a o e (FAs f) id) t v (A k) (fun a o m e => x.k a o e (offAs hk m) id) z2
        | lent d => exact RelD.keep (fun a f => f.imp_left (x.f a)) (fun a o f e => x.k a o e (f.elim FAs LAs) id) d v z2
        | al _ _ => exact z2
    · by_cases hk : ∃ j, ioAt bs rs j = some k
      · obtain ⟨j, ej⟩ := hk
        rw [A2a ej]; exact r'.nd j
      · rw [A2b hk]; exact r.nd k
    · rcases A2O m with ⟨j, w1, w2⟩ | ⟨w1, w2⟩
      · rcases A2O m2 with ⟨j2, y1, y2⟩ | ⟨y1, y2⟩
        · exact r'.dj j j2 a (fun z => n (by subst z; rw [w1] at y1; exact Option.some.inj y1)) w2 y2
        · exact (r'.ap a ⟨j, w2⟩).2.1 (offLc y1 y2)
      · rcases A2O m2 with ⟨j2, y1, y2⟩ | ⟨y1, y2⟩
        · exact (r'.ap a ⟨j2, y2⟩).2.1 (offLc w1 w2)
        · exact r.dj i k a n w2 y2
    · rcases A2O m with ⟨j, w1, w2⟩ | ⟨w1, w2⟩
      · have ap := r'.ap a ⟨j, w2⟩
        exact ⟨ap.1, fun z => ap.2.1 (.inl z), ap.2.2⟩
      · have ap := r.ap a ⟨k, w2⟩
        refine ⟨fun f => ?_, ap.2.1, x.d a ap.2.2⟩
        rcases x.nf a f with w | w | w | w
        · exact ap.1 w
        · exact ap.2.2 w
        · exact offAs w1 w2 w
        · exact w
    · obtain ⟨⟨t, p1⟩, p2⟩ := r.pin k v e
      refine ⟨?_, p2⟩
      by_cases hk : ∃ j, ioAt bs rs j = some k
      · obtain ⟨j, ej⟩ := hk
        obtain ⟨v', t', z1, z2, z3⟩ := ioS ej p1
        rcases z3 with ⟨t, z, _⟩ | ⟨t, _, z3⟩
        · cases z
        · exact ⟨t', z3⟩
      · exact ⟨t, by rw [offS hk]; exact p1⟩
  have fin := hQ F' A2 H' xx rr
  cases oo with
  | exc c d => exact fin
  | ok t =>
    intro v C2 h1 h2 h3 h4
    refine fin v C2 ⟨h1, h2, fun a m => ⟨(h3 a m).1, fun z => (h3 a m).2.1 (.inl z), fun ⟨k, z⟩ => ?_⟩⟩ fun a m => ?_
    · rcases A2O z with ⟨j, w1, w2⟩ | ⟨w1, w2⟩
      · exact (h3 a m).2.2 ⟨j, w2⟩
      · exact (h3 a m).2.1 (offLc w1 w2)
    · rcases h4 a m with w | w
      · exact .inl w
      · rcases AsOwn w with w | w
        · exact .inr (.inl w)
        · exact .inr (.inr w)
end W3

/-! C11: the rules of calls; raise. -/
namespace W3
open PySem PySem.Spec L2

/-- a def that stands at the name x: what it promises when n values are given (the defaults dfl among them) -/
structure DefOk (P : Program) (w : World) (K : PySem.W.Frag) (mg : Str → Option Value) (base : Heap) (cl : Str → Addr) (k : Nat) (x : Str) (n : Nat) (dfl : List D) (Φ : Fun) : Prop where
  ex : ∃ (f : Addr) (fd : FuncData) (ps : List Str) (ds : List Value) (dvs : List V), FnOk P w K mg base (L2.CX P w) k f fd ps (spC cl n Φ) ∧ mg x = some (.ref f) ∧ PySem.W.keepIn K (.ref f) = true ∧ Binds K fd ps ds ∧ Vals dvs ds ∧ dfl.map fv = dvs.map some
theorem DefOk.mono {P : Program} {w : World} {K : PySem.W.Frag} {mg : Str → Option Value} {base : Heap} {cl : Str → Addr} {j k : Nat} {x : Str} {n : Nat} {dfl : List D} {Φ : Fun} (d : DefOk P w K mg base cl j x n dfl Φ) (h : j ≤ k) : DefOk P w K mg base cl k x n dfl Φ := by
  obtain ⟨f, fd, ps, ds, dvs, h1, r⟩ := d.ex
  exact ⟨f, fd, ps, ds, dvs, h1.mono h, r⟩
def dflR (dfl : List D) : List Rv := dfl.map fun d => .t (.v d)
def m_call (n : Nat) (bs : List Bool) (Φ : Fun) (dfl : List D) (ms : M (List Rv)) : M Rv := ms.bind fun rs => if rs.length + dfl.length = n then callR bs Φ (rs ++ dflR dfl) else fun _ => none
section
variable {cl : Str → Addr} {W : WX} {F F' : Addr → Prop} {L : LL} {A A' : Nat → List Addr} {ρ ρ' : Sg} {σ σ' : L2.St} {H H' : Hp}
theorem RelRvs.length {rs : List Rv} {vs : List V} {C : List Addr} (h : RelRvs cl F L A σ H rs vs C) : rs.length = vs.length := by
  induction h with
  | nil => rfl
  | cons _ _ _ ih => exact congrArg (· + 1) ih
theorem RelRvs.dfl {rs : List Rv} {vs : List V} {C : List Addr} (h : RelRvs cl F L A σ H rs vs C) : ∀ {ds : List D} {us : List V}, ds.map fv = us.map some → RelRvs cl F L A σ H (rs ++ dflR ds) (vs ++ us) C := by
  induction h with
  | nil =>
    intro ds
    induction ds with
    | nil => intro us e; cases us with
      | nil => exact .nil
      | cons _ _ => cases e
    | cons d ds ih => intro us e; cases us with
      | nil => cases e
      | cons u us =>
        have e1 : fv d = some u := (List.cons.inj e).1
        have := RelRvs.cons (rel_fv (cl := cl) (F := F) (L := L) (A := A) (σ := σ) (H := H) e1) (ih (List.cons.inj e).2) (fun a m => nomatch m)
        exact this
  | cons h1 h2 hn ih =>
    intro ds us e
    exact .cons h1 (ih e) hn
theorem sim_call {n : Nat} {bs : List Bool} {Φ : Fun} {dfl : List D} {dvs : List V} {t : TA} {ms : M (List Rv)} (hd : dfl.map fv = dvs.map some) (h : Sim cl (RelRvs cl) W t ms) : Sim cl (RelRv cl) W (tCallSD (spC cl n Φ) dvs (WE W) t) (m_call n bs Φ dfl ms) := fun F L A ρ σ H r => by
  refine SimAt.bind (rel := RelRvs cl) (t := t σ) (u := fun vs H1 Q => spC cl n Φ (vs ++ dvs) H1 Q (WE W σ)) stays_Rvs (fun _ z => z) (h F L A ρ σ H r) fun F1 A1 ρ1 H1 rs vs C r1 x1 hr hC => ?_
  split
  · rename_i hl
    have hdl : dfl.length = dvs.length := by simpa using congrArg List.length hd
    exact SimAt.weak (fun a z => .inr z) (simAt_callR (by rw [List.length_append, ← hr.length, ← hdl]; exact hl) r1 (hr.dfl hd))
  · exact SimAt.none
end

section
variable {ι : Type} {Xf : ι → Cx} {cl : Str → Addr} {W : WX} {x : Str} {p pos : Pos} {e : Expr} {es : List Expr} {ms : M (List Rv)} {k n : Nat} {dfl : List D} {Φ : Fun}
theorem takes_no {X : Cx} : Takes X WNo := fun u s' ⟨_, _, _, _, _, _, _, _, _, _, _, _, _, _, _, _, w⟩ => w.elim
/-- f(e, ..) -/
theorem pm_call {P : Program} {w : World} {K : PySem.W.Frag} {mg : Str → Option Value} {base : Heap} (d : DefOk P w K mg base cl k x n dfl Φ) (bs : List Bool) (hX : ∀ i, (Xf i).prog = P ∧ (Xf i).w = w ∧ (Xf i).K = K ∧ (Xf i).mg = mg ∧ (Xf i).base = base)
    (hr : ∀ i, Room k (Xf i).A) (tk : ∀ i, Takes (Xf i) W) (ha : PMA Xf cl W (e :: es) ms) (hg : ∀ j, Gl (Xf j) x := by intro _; rfl)
    (hdb : (x == ("__debug__" : Str)) = false := by decide) (he : ∀ i, starEach (e :: es) (Xf i).env = (false, eval e (Xf i).env) :: starEach es (Xf i).env := by intro _; rfl) (hpl : ∀ i, (backTo pos (starEach es (Xf i).env)).any (·.1) = false := by intro _; rfl) :
    PM Xf cl W (.Call (.Name x p) (e :: es) [] pos) (m_call n bs Φ dfl ms) := by
  obtain ⟨f, fd, ps, ds, dvs, h1, h2, h3, h4, h5, h6⟩ := d.ex
  obtain ⟨t, a1, a2⟩ := ha
  refine ⟨_, fun i => ?_, sim_call h6 a2⟩
  obtain ⟨e1, e2, e3, e4, e5⟩ := hX i
  subst e1 e2 e3 e4 e5
  exact pe_callSD h1 (hr i) (hg i) h2 h3 h4 h5 (fun σ => passAt (tk i) σ) (a1 i) hdb (he i) (hpl i)
theorem pe_callSD0 {X : Cx} {CX : CXT} {k : Nat} {f : Addr} {fd : FuncData} {ps : List Str} {sp : Sp} {dvs : List V} {ds : List Value} {E : L2.St → XK} (F : FnOk X.prog X.w X.K X.mg X.base CX k f fd ps sp) (hr : Room k X.A) (hg : Gl X x) (hm : X.mg x = some (.ref f)) (hk : PySem.W.keepIn X.K (.ref f) = true)
    (hb : Binds X.K fd ps ds) (hd : Vals dvs ds) (hx : ∀ σ, PassesAt CX X σ (E σ)) (hdb : (x == ("__debug__" : Str)) = false := by decide) : PE X (.Call (.Name x p) [] [] pos) (tCallSD sp dvs E tNil) := by
  refine ⟨fun pins s σ H Q I h => ?_⟩
  refine wpAny_Call_Name_kw (ld_glob I hg hm ?_ hdb)
  exact PySem.W.callWith_K0 I.kIn hk (run_fnSD (us := []) F hr hb hd (hx σ) I .nil h)
/-- f() -/
theorem pm_call0 {P : Program} {w : World} {K : PySem.W.Frag} {mg : Str → Option Value} {base : Heap} (d : DefOk P w K mg base cl k x n dfl Φ) (bs : List Bool) (hX : ∀ i, (Xf i).prog = P ∧ (Xf i).w = w ∧ (Xf i).K = K ∧ (Xf i).mg = mg ∧ (Xf i).base = base)
    (hr : ∀ i, Room k (Xf i).A) (tk : ∀ i, Takes (Xf i) W) (hg : ∀ j, Gl (Xf j) x := by intro _; rfl)
    (hdb : (x == ("__debug__" : Str)) = false := by decide) : PM Xf cl W (.Call (.Name x p) [] [] pos) (m_call n bs Φ dfl m_nil) := by
  obtain ⟨f, fd, ps, ds, dvs, h1, h2, h3, h4, h5, h6⟩ := d.ex
  obtain ⟨t, a1, a2⟩ := pma_nil (Xf := Xf) (cl := cl) (W := W)
  refine ⟨_, fun i => ?_, sim_call h6 (fun F L A ρ σ H r => SimAt.ret r fun Q h => h [] [] .nil fun x m => nomatch m)⟩
  obtain ⟨e1, e2, e3, e4, e5⟩ := hX i
  subst e1 e2 e3 e4 e5
  exact pe_callSD0 h1 (hr i) (hg i) h2 h3 h4 h5 (fun σ => passAt (tk i) σ) hdb

theorem sim_cons {te : TE} {ts : TA} {m : M Rv} {ms : M (List Rv)} (h2 : Sim cl (RelRv cl) W te m) (g2 : Sim cl (RelRvs cl) W ts ms) : Sim cl (RelRvs cl) W (tCons te ts) (m_cons m ms) := fun F L A ρ σ H rr => by
  refine SimAt.bind (rel := RelRv cl) (rel' := RelRvs cl) (t := te σ) (u := fun x H1 Q => ts σ H1 fun xs H2 => Q (x :: xs) H2) stays_Rv (fun _ z => z) (h2 F L A ρ σ H rr) fun F1 A1 ρ1 H1 a x C r1 x1 h1 _ => ?_
  refine SimAt.bind (rel := RelRvs cl) (rel' := RelRvs cl) (t := ts σ) (u := fun xs H2 Q => Q (x :: xs) H2) stays_Rvs (fun _ z => z.elim) (g2 F1 L A1 ρ1 σ H1 r1) fun F2 A2 ρ2 H2 b y D r2 x2 h2 hD => ?_
  have h1' := stays_Rv.st r1 x2 h1
  refine SimAt.ret r2 fun Q hq => hq (x :: y) (C ++ D) (.cons h1' h2 fun z hz hz2 => ?_) fun z m => .inr (.inr ((List.mem_append.mp m).elim (fun m => .inl (.inr m)) .inr))
  obtain ⟨n1, n2⟩ := rv_apart h1 z hz
  rcases hD z hz2 with w | w | w
  · exact n2 w
  · exact n1 w
  · exact w

/-! ### keywords -/
/-- a def that stands at x, called with n1 positional values and the keywords ks: g orders them -/
structure DefKw (P : Program) (w : World) (K : PySem.W.Frag) (mg : Str → Option Value) (base : Heap) (cl : Str → Addr) (k : Nat) (x : Str) (n n1 : Nat) (ks : List Str) (g : {α : Type} → List α → List α → List α) (Φ : Fun) : Prop where
  ex : ∃ (f : Addr) (fd : FuncData) (ps : List Str), FnOk P w K mg base (L2.CX P w) k f fd ps (spC cl n Φ) ∧ mg x = some (.ref f) ∧ PySem.W.keepIn K (.ref f) = true ∧ KBn K fd ps n1 ks g g
def PMK (Xf : ι → Cx) (cl : Str → Addr) (W : WX) (kws : List Keyword) (m : M (List Rv)) : Prop := ∃ t : TA, (∀ i, PK (Xf i) kws t) ∧ Sim cl (RelRvs cl) W t m
theorem pmk_nil : PMK Xf cl W [] m_nil := ⟨tNil, fun _ => pk_nil, fun F L A ρ σ H r => SimAt.ret r fun Q h => h [] [] .nil fun x m => nomatch m⟩
theorem pmk_cons {m : M Rv} {kws : List Keyword} {nm : Option Str} {kpos : Pos} (h : PM Xf cl W e m) (hs : PMK Xf cl W kws ms) : PMK Xf cl W (⟨nm, e, kpos⟩ :: kws) (m_cons m ms) := by
  obtain ⟨t, h1, h2⟩ := h
  obtain ⟨u, k1, k2⟩ := hs
  exact ⟨tCons t u, fun i => pk_cons (h1 i) (k1 i), sim_cons h2 k2⟩
/-- values that own nothing, in another order -/
theorem relRvs_free {F : Addr → Prop} {L : LL} {A : Nat → List Addr} {σ : L2.St} {H : Hp} : ∀ {rs : List Rv} {vs : List V} {C : List Addr}, RelRvs cl F L A σ H rs vs C → (∀ r ∈ rs, (match r with | .t (.v _) => true | .t _ => false | _ => true) = true) → PySem.Paired (fun r v => RelRv cl F L A σ H r v []) rs vs
  | _, _, _, .nil, _ => .nil
  | _, _, _, @RelRvs.cons _ _ _ _ _ _ r v rs vs B C h1 h2 hn, h => by
    refine .cons ?_ (relRvs_free h2 fun q m => h q (List.mem_cons_of_mem _ m))
    have hr := h r List.mem_cons_self
    cases r with
    | t t => cases t with
      | v d => obtain ⟨e, z⟩ := relV_v h1; exact rel_v z
      | _ => cases hr
    | lent d => exact ⟨rfl, h1.2⟩
    | pk i => exact ⟨rfl, h1.2⟩
theorem relRvs_of {F : Addr → Prop} {L : LL} {A : Nat → List Addr} {σ : L2.St} {H : Hp} : ∀ {rs : List Rv} {vs : List V}, PySem.Paired (fun r v => RelRv cl F L A σ H r v []) rs vs → RelRvs cl F L A σ H rs vs []
  | _, _, .nil => .nil
  | _, _, .cons h1 h2 => .cons h1 (relRvs_of h2) fun a m => nomatch m
def freeRv : Rv → Bool
  | .t (.v _) => true
  | .t _ => false
  | _ => true
def m_callK (n n1 n2 : Nat) (bs : List Bool) (Φ : Fun) (g : {α : Type} → List α → List α → List α) (ms ks : M (List Rv)) : M Rv := ms.bind fun rs => ks.bind fun zs =>
  if rs.length = n1 ∧ zs.length = n2 ∧ (g rs zs).length = n ∧ rs.all freeRv = true ∧ zs.all freeRv = true then callR bs Φ (g rs zs) else fun _ => none
def tCallKS (n m : Nat) (sp : Sp) (gV : List V → List V → List V) (E : L2.St → XK) (t tk : TA) : TE := fun σ H Q => t σ H fun vs H1 => tk σ H1 fun zs H2 => vs.length = n ∧ zs.length = m ∧ sp (gV vs zs) H2 Q (E σ)
theorem sim_callK {n n1 n2 : Nat} {bs : List Bool} {Φ : Fun} {g : {α : Type} → List α → List α → List α} {t tk : TA} {ms ks : M (List Rv)}
    (hg : ∀ {α β : Type} {R : α → β → Prop} {as zs : List α} {bs ys : List β}, PySem.Paired R as bs → PySem.Paired R zs ys → as.length = n1 → zs.length = n2 → PySem.Paired R (g as zs) (g bs ys))
    (h : Sim cl (RelRvs cl) W t ms) (hk : Sim cl (RelRvs cl) W tk ks) : Sim cl (RelRv cl) W (tCallKS n1 n2 (spC cl n Φ) g (WE W) t tk) (m_callK n n1 n2 bs Φ g ms ks) := fun F L A ρ σ H r => by
  refine SimAt.bind (rel := RelRvs cl) (t := t σ) (u := fun vs H1 Q => tk σ H1 fun zs H2 => vs.length = n1 ∧ zs.length = n2 ∧ spC cl n Φ (g vs zs) H2 Q (WE W σ)) stays_Rvs (fun _ z => z) (h F L A ρ σ H r) fun F1 A1 ρ1 H1 rs vs C r1 x1 hr hC => ?_
  refine SimAt.bind (rel := RelRvs cl) (t := tk σ) (u := fun zs H2 Q => vs.length = n1 ∧ zs.length = n2 ∧ spC cl n Φ (g vs zs) H2 Q (WE W σ)) stays_Rvs (fun _ z => z.elim) (hk F1 L A1 ρ1 σ H1 r1) fun F2 A2 ρ2 H2 zs us C2 r2 x2 hz _ => ?_
  have hr' := stays_Rvs.st r1 x2 hr
  have ff : ∀ {r : Rv}, freeRv r = true → (match r with | .t (.v _) => true | .t _ => false | _ => true) = true := fun {r} h => by
    cases r with
    | t t => cases t <;> first | rfl | cases h
    | _ => rfl
  split
  · rename_i hh
    obtain ⟨l1, l2, l3, a1, a2⟩ := hh
    have p1 := relRvs_free hr' fun q m => ff (List.all_eq_true.mp a1 q m)
    have p2 := relRvs_free hz fun q m => ff (List.all_eq_true.mp a2 q m)
    have p3 := relRvs_of (hg p1 p2 l1 l2)
    have := simAt_callR (W := W) (bs := bs) (Φ := Φ) (n := n) (by rw [← p3.length]; exact l3) r2 p3
    intro o ρ' e Q hQ
    exact ⟨by rw [← hr.length]; exact l1, by rw [← hz.length]; exact l2, SimAt.weak (fun a z => nomatch z) this o ρ' e Q hQ⟩
  · exact SimAt.none
section
variable {X : Cx} {CX : CXT} {f : Addr} {fd : FuncData} {ps ks : List Str} {sp : Sp} {E : L2.St → XK} {t tk : TA} {kws : List Keyword} {g : List Value → List Value → List Value} {gV : List V → List V → List V}
theorem run_fnNS {pins : List (Addr × Obj)} {σ : L2.St} {H : Hp} {s : Shared} {Q : VK} {us ws : List Value} {vs zs : List V} (F : FnOk X.prog X.w X.K X.mg X.base CX k f fd ps sp) (hr : Room k X.A) (hb : KBn X.K fd ps n ks g gV) (hx : PassesAt CX X σ (E σ))
    (I : Inv X pins σ H s) (r : Vals vs us) (rz : Vals zs ws) (l1 : vs.length = n) (l2 : zs.length = ks.length) (h : sp (gV vs zs) H Q (E σ)) : wpAny (model X.prog X.w) X.A (call (.ref f) us (ks.zip ws)) (EP X pins σ Q) X.xe s := by
  have r2 := hb.rel r rz
  refine wpAny_call (codeAny_mono (F.run X.A X.stack s H ⟨us, ks.zip ws⟩ (g us ws) (gV vs zs) Q (E σ) hr I.env0 (hb.to s us ws I.kIn (r.length.symm.trans l1) (rz.length.symm.trans l2)) r2 h) fun r s' hq => ?_)
  cases r with
  | error e => exact hx pins H s e s' I hq
  | ok fl =>
    cases fl with
    | ret u => exact I.after hq
    | next => exact False.elim hq
    | brk => exact False.elim hq
    | cont => exact False.elim hq
theorem pe_callNS (F : FnOk X.prog X.w X.K X.mg X.base CX k f fd ps sp) (hr : Room k X.A) (hg : Gl X x) (hm : X.mg x = some (.ref f)) (hk : PySem.W.keepIn X.K (.ref f) = true) (hb : KBn X.K fd ps n ks g gV) (hx : ∀ σ, PassesAt CX X σ (E σ))
    (ha : PA X (e :: es) t) (hkw : PK X kws tk) (hall : (backToKw pos (keywordEach kws X.env)).all (·.1.isSome) = true := by rfl) (hks : (backToKw pos (keywordEach kws X.env)).filterMap (·.1) = ks := by rfl)
    (hdb : (x == ("__debug__" : Str)) = false := by decide) (he : starEach (e :: es) X.env = (false, eval e X.env) :: starEach es X.env := by rfl)
    (hpl : ((backTo pos (starEach (e :: es) X.env)).any (·.1) || (backToKw pos (keywordEach kws X.env)).any (·.1.isNone)) = false := by rfl) :
    PE X (.Call (.Name x p) (e :: es) kws pos) (tCallKS n ks.length sp gV E t tk) := by
  refine ⟨fun pins s σ H Q I h => ?_⟩
  refine wpAny_Call_Name_kw (ld_glob I hg hm ?_ hdb)
  refine PySem.W.callWith_KW (h₀ := X.base) I.ok.mod.kin hk hall (thn (ha.run pos pins s σ H _ I h) fun us s1 ⟨vs, H1, I1, r, q⟩ => ?_) hpl he
  refine thn (hkw.run pos pins s1 σ H1 _ I1 q) fun ws s2 ⟨zs, H2, I2, rz, l1, l2, q2⟩ => ⟨I2.kIn, ?_⟩
  rw [hks]
  exact run_fnNS F hr hb (hx σ) I2 r rz l1 l2 q2
theorem pe_callNS0 (F : FnOk X.prog X.w X.K X.mg X.base CX k f fd ps sp) (hr : Room k X.A) (hg : Gl X x) (hm : X.mg x = some (.ref f)) (hk : PySem.W.keepIn X.K (.ref f) = true) (hb : KBn X.K fd ps 0 ks g gV) (hx : ∀ σ, PassesAt CX X σ (E σ))
    (hkw : PK X kws tk) (hall : (backToKw pos (keywordEach kws X.env)).all (·.1.isSome) = true := by rfl) (hks : (backToKw pos (keywordEach kws X.env)).filterMap (·.1) = ks := by rfl)
    (hdb : (x == ("__debug__" : Str)) = false := by decide)
    (hpl : ((backTo pos (starEach [] X.env)).any (·.1) || (backToKw pos (keywordEach kws X.env)).any (·.1.isNone)) = false := by rfl) :
    PE X (.Call (.Name x p) [] kws pos) (tCallKS 0 ks.length sp gV E tNil tk) := by
  refine ⟨fun pins s σ H Q I h => ?_⟩
  refine wpAny_Call_Name_kw (ld_glob I hg hm ?_ hdb)
  refine PySem.W.callWith_KW0 (h₀ := X.base) I.ok.mod.kin hk hall ?_ hpl
  refine thn (hkw.run pos pins s σ H _ I h) fun ws s2 ⟨zs, H2, I2, rz, l1, l2, q2⟩ => ⟨I2.kIn, ?_⟩
  rw [hks]
  exact run_fnNS (us := []) (vs := []) F hr hb (hx σ) I2 .nil rz rfl l2 q2
end
theorem pm_callK0 {P : Program} {w : World} {K : PySem.W.Frag} {mg : Str → Option Value} {base : Heap} {ks : List Str} {kws : List Keyword} {g : {α : Type} → List α → List α → List α} {km : M (List Rv)} (d : DefKw P w K mg base cl k x n 0 ks g Φ) (bs : List Bool)
    (hg2 : ∀ {α β : Type} {R : α → β → Prop} {as zs : List α} {bs ys : List β}, PySem.Paired R as bs → PySem.Paired R zs ys → as.length = 0 → zs.length = ks.length → PySem.Paired R (g as zs) (g bs ys))
    (hX : ∀ i, (Xf i).prog = P ∧ (Xf i).w = w ∧ (Xf i).K = K ∧ (Xf i).mg = mg ∧ (Xf i).base = base)
    (hr : ∀ i, Room k (Xf i).A) (tk : ∀ i, Takes (Xf i) W) (hk : PMK Xf cl W kws km) (hg : ∀ j, Gl (Xf j) x := by intro _; rfl) (hall : ∀ i, (backToKw pos (keywordEach kws (Xf i).env)).all (·.1.isSome) = true := by intro _; rfl) (hks : ∀ i, (backToKw pos (keywordEach kws (Xf i).env)).filterMap (·.1) = ks := by intro _; rfl)
    (hdb : (x == ("__debug__" : Str)) = false := by decide)
    (hpl : ∀ i, ((backTo pos (starEach [] (Xf i).env)).any (·.1) || (backToKw pos (keywordEach kws (Xf i).env)).any (·.1.isNone)) = false := by intro _; rfl) :
    PM Xf cl W (.Call (.Name x p) [] kws pos) (m_callK n 0 ks.length bs Φ g m_nil km) := by
  obtain ⟨f, fd, ps, h1, h2, h3, h4⟩ := d.ex
  obtain ⟨u, b1, b2⟩ := hk
  refine ⟨_, fun i => ?_, sim_callK hg2 (fun F L A ρ σ H r => SimAt.ret r fun Q h => h [] [] .nil fun x m => nomatch m) b2⟩
  obtain ⟨e1, e2, e3, e4, e5⟩ := hX i
  subst e1 e2 e3 e4 e5
  exact pe_callNS0 h1 (hr i) (hg i) h2 h3 h4 (fun σ => passAt (tk i) σ) (b1 i) (hall i) (hks i) hdb (hpl i)
theorem pm_callK {P : Program} {w : World} {K : PySem.W.Frag} {mg : Str → Option Value} {base : Heap} {n1 : Nat} {ks : List Str} {kws : List Keyword} {g : {α : Type} → List α → List α → List α} {km : M (List Rv)} (d : DefKw P w K mg base cl k x n n1 ks g Φ) (bs : List Bool)
    (hg2 : ∀ {α β : Type} {R : α → β → Prop} {as zs : List α} {bs ys : List β}, PySem.Paired R as bs → PySem.Paired R zs ys → as.length = n1 → zs.length = ks.length → PySem.Paired R (g as zs) (g bs ys))
    (hX : ∀ i, (Xf i).prog = P ∧ (Xf i).w = w ∧ (Xf i).K = K ∧ (Xf i).mg = mg ∧ (Xf i).base = base)
    (hr : ∀ i, Room k (Xf i).A) (tk : ∀ i, Takes (Xf i) W) (ha : PMA Xf cl W (e :: es) ms) (hk : PMK Xf cl W kws km) (hg : ∀ j, Gl (Xf j) x := by intro _; rfl) (hall : ∀ i, (backToKw pos (keywordEach kws (Xf i).env)).all (·.1.isSome) = true := by intro _; rfl) (hks : ∀ i, (backToKw pos (keywordEach kws (Xf i).env)).filterMap (·.1) = ks := by intro _; rfl)
    (hdb : (x == ("__debug__" : Str)) = false := by decide) (he : ∀ i, starEach (e :: es) (Xf i).env = (false, eval e (Xf i).env) :: starEach es (Xf i).env := by intro _; rfl)
    (hpl : ∀ i, ((backTo pos (starEach (e :: es) (Xf i).env)).any (·.1) || (backToKw pos (keywordEach kws (Xf i).env)).any (·.1.isNone)) = false := by intro _; rfl) :
    PM Xf cl W (.Call (.Name x p) (e :: es) kws pos) (m_callK n n1 ks.length bs Φ g ms km) := by
  obtain ⟨f, fd, ps, h1, h2, h3, h4⟩ := d.ex
  obtain ⟨t, a1, a2⟩ := ha
  obtain ⟨u, b1, b2⟩ := hk
  refine ⟨_, fun i => ?_, sim_callK hg2 a2 b2⟩
  obtain ⟨e1, e2, e3, e4, e5⟩ := hX i
  subst e1 e2 e3 e4 e5
  exact pe_callNS h1 (hr i) (hg i) h2 h3 h4 (fun σ => passAt (tk i) σ) (a1 i) (b1 i) (hall i) (hks i) hdb (he i) (hpl i)
end

/-! ### from a def's facts -/
section
variable {P : Program} {w : World} {K : PySem.W.Frag} {mg : Str → Option Value} {base : Heap} {cl : Str → Addr} {x y qual : Str} {params : Arguments} {body : List Stmt} {scope : Scope} {dvs : List V} {kws : List (Str × V)} {f : Addr} {fd : FuncData} {ps : List Str} {k : Nat} {Φ : Fun}
/-- no defaults, every value given -/
theorem defOk_all (FD : FunD K x qual params body scope [] kws f fd) (F : FnOk P w K mg base (L2.CX P w) k f fd ps (spC cl ps.length Φ)) (hm : mg y = some (.ref f))
    (h : ∀ (kV doc pm : Value) (an : Option Addr) (cdv ct : Value) (us : List Value), us.length = ps.length → bindArgs (PySem.W.fnOf x qual params body scope .none kV doc pm an cdv ct) ⟨us, []⟩ = pure (ps.zip us)) : DefOk P w K mg base cl k y ps.length [] Φ :=
  ⟨f, fd, ps, [], [], F, hm, FD.kp, FD.bindsN h, .nil, rfl⟩
/-- no defaults, keywords -/
theorem defKw_all {n1 : Nat} {ks : List Str} {g : {α : Type} → List α → List α → List α} (FD : FunD K x qual params body scope [] [] f fd) (F : FnOk P w K mg base (L2.CX P w) k f fd ps (spC cl ps.length Φ)) (hm : mg y = some (.ref f))
    (hrel : ∀ {vs zs : List V} {us ws : List Value}, Vals vs us → Vals zs ws → Vals (g vs zs) (g us ws))
    (h : ∀ (kV doc pm : Value) (an : Option Addr) (cdv ct : Value) (us ws : List Value), us.length = n1 → ws.length = ks.length → bindArgs (PySem.W.fnOf x qual params body scope .none kV doc pm an cdv ct) ⟨us, ks.zip ws⟩ = pure (ps.zip (g us ws))) : DefKw P w K mg base cl k y ps.length n1 ks g Φ := by
  refine ⟨f, fd, ps, F, hm, FD.kp, ?_⟩
  obtain ⟨oc, od, dV, kV, doc, pm, an, cdv, ct, osl, rfl, lk, hcd, hD, hK⟩ := FD.ex
  rcases hD with ⟨_, rfl⟩ | ⟨e, _⟩
  · exact ⟨fun s us ws X l1 l2 => .of_eq (h kV doc pm an cdv ct us ws l1 l2), hrel⟩
  · exact absurd rfl e
end

/-! ### raise C(e) where C's __init__ keeps the value -/
/-- what __init__(self, value) of such classes does -/
def spInit (K : PySem.W.Frag) : Sp := fun vs H Q _ => vs.length = 2 ∧ ∃ (a C : Addr) (y : V), vs = [.ref a, y] ∧ OexC K C ∧ PySem.W.findIn K (.ref C) "value" = some none ∧ H a = some (exo a C none) ∧
  ∀ dx, H dx = none → dx ≠ a → Q .non (upd (upd H dx (exd dx [("value", y)])) a (exo a C (some dx)))
structure ExOk (P : Program) (w : World) (K : PySem.W.Frag) (mg : Str → Option Value) (base : Heap) (cl : Str → Addr) (k : Nat) (x : Str) : Prop where
  oex : OexC K (cl x)
  mgx : mg x = some (.ref (cl x))
  nov : PySem.W.findIn K (.ref (cl x)) "value" = some none
  ex : ∃ (fI : Addr) (fd : FuncData) (ps : List Str), PySem.W.findIn K (.ref (cl x)) "__init__" = some (some (.ref fI)) ∧ PySem.W.typeIn K (.ref fI) = some (.type "function") ∧ FnOk P w K mg base (L2.CX P w) k fI fd ps (spInit K) ∧ Binds K fd ps []
def m_raise (c : Str) (m : M Rv) : M Fl := m.bind fun r => fun ρ => match r with
  | .t (.v d) => some (.exc c d, ρ)
  | _ => none
section
variable {ι : Type} {Xf : ι → Cx} {cl : Str → Addr} {W : WX} {x : Str} {p pos rpos : Pos} {e : Expr} {m : M Rv} {k : Nat}
theorem pms_raise {P : Program} {w : World} {K : PySem.W.Frag} {mg : Str → Option Value} {base : Heap} (d : ExOk P w K mg base cl k x) (hX : ∀ i, (Xf i).prog = P ∧ (Xf i).w = w ∧ (Xf i).K = K ∧ (Xf i).mg = mg ∧ (Xf i).base = base) (hc : ∀ i, (Xf i).calm = true)
    (hr : ∀ i, Room (k + 1) (Xf i).A) (tk : ∀ i, Takes (Xf i) W) (he : PM Xf cl W e m) (hg : ∀ j, Gl (Xf j) x := by intro _; rfl) (hst : ∀ i, starEach [e] (Xf i).env = (false, eval e (Xf i).env) :: starEach [] (Xf i).env := by intro _; rfl)
    (hdb : (x == ("__debug__" : Str)) = false := by decide) (hpl : ∀ i, (backTo pos (starEach [] (Xf i).env)).any (·.1) = false := by intro _; rfl) : PMS Xf cl W (.Raise (some (.Call (.Name x p) [e] [] pos)) none rpos) (m_raise x m) := by
  obtain ⟨fI, fd, ps, h1, h2, h3, h4⟩ := d.ex
  obtain ⟨t, a1, a2⟩ := he
  refine ⟨fun _ σ H => tMkO (cl x) (spInit K) [] (tCons t tNil) σ H fun cls d H' => W cls d σ H', fun i => ?_, fun F L A ρ σ H r o ρ' em D hD => ?_⟩
  · obtain ⟨e1, e2, e3, e4, e5⟩ := hX i
    subst e1 e2 e3 e4 e5
    exact ps_raise (hc i) (tk i) (pmk_oex d.oex h1 h2 h3 (hr i) h4 .nil (fun pins σ H s e s' I c => tk i e s' (XE.of_call I (fun _ _ _ z => z.elim) c)) (hg i) d.mgx (pa_cons (a1 i) pa_nil (hst i)) hdb (hst i) (hpl i))
  · unfold m_raise M.bind at em
    cases e1 : m ρ with
    | none => rw [e1] at em; cases em
    | some q =>
      obtain ⟨oa, ρ1⟩ := q
      rw [e1] at em
      refine a2 F L A ρ σ H r _ _ e1 _ fun F1 A1 H1 x1 r1 => ?_
      cases oa with
      | exc c v =>
        cases em
        exact hD F1 A1 σ H1 x1 r1
      | ok rv =>
        intro y C hy hC
        simp only at em
        split at em
        · rename_i dd
          cases em
          obtain ⟨_, hv⟩ := relV_v hy
          refine ⟨by simp, fun a ha => ⟨rfl, a, cl x, y, rfl, d.oex, d.nov, upd_same, fun dx hdx hda => ⟨rfl, dx, [("value", y)], upd_same, ?_, ?_, ?_⟩⟩⟩
          · rw [upd_ne hda, upd_same]
          · rw [upd_ne hda] at hdx; exact hdx
          · have hn : H1 dx = none := by rw [upd_ne hda] at hdx; exact hdx
            have eH : upd (del (upd (upd (upd H1 a (exo a (cl x) none)) dx (exd dx [("value", y)])) a (exo a (cl x) (some dx))) a) dx (.xd [("value", y)]) = upd H1 dx (.xd [("value", y)]) := by
              funext b
              by_cases hb : b = dx
              · rw [hb, upd_same, upd_same]
              · rw [upd_ne hb, upd_ne hb]
                by_cases hba : b = a
                · rw [hba, del_same, ha]
                · rw [del_ne hba, upd_ne hba, upd_ne hb, upd_ne hba]
            show W _ _ _ (upd (del (upd (upd (upd H1 a (exo a (cl x) none)) dx (exd dx [("value", y)])) a (exo a (cl x) (some dx))) a) dx (.xd [("value", y)]))
            rw [eH]
            have xn : Ext F1 (Own A1) NoZ H1 F1 (Own A1) (upd H1 dx (.xd [("value", y)])) := Ext.new hn
            exact hD F1 A1 σ _ (x1.trans0 xn) (r1.new hn) dx y upd_same (xn.relD r1 hv)
        · cases em
end
/-- the __init__ itself -/
theorem init_ok {P : Program} {w : World} {K : PySem.W.Frag} {mg : Str → Option Value} {base : Heap} {qual : Str} {params : Arguments} {scope : Scope} {dvs : List V} {kws : List (Str × V)} {f : Addr} {fd : FuncData} {p1 p2 p3 p4 : Pos} {a b : Str} {k : Nat}
    (FD : FunD K "__init__" qual params [.Assign [.Attribute (.Name a p1) "value" p2] (.Name b p3) p4] scope dvs kws f fd) (S : FnScope [a, b] [a, b] scope) (ha : scope.names.lookup a = some .local) (hb : scope.names.lookup b = some .local)
    (hd1 : (a == ("__debug__" : Str)) = false := by decide) (hd2 : (b == ("__debug__" : Str)) = false := by decide) (hc1 : (a == ("__classdict__" : Str)) = false := by decide) (hc2 : (b == ("__classdict__" : Str)) = false := by decide) :
    FnOk P w K mg base (L2.CX P w) (k + 1) f fd [a, b] (spInit K) :=
  FD.ok S (fun vs H Q E q => q.1) fun cdv A outer s H vs Q E hr hsp => by
    obtain ⟨_, a1, C, y, rfl, hC, hnv, h1, h2⟩ := hsp
    refine ⟨_, pss_one (ps_ost (pe_var (i := 0) (x := a) rfl (.inl ha) hd1 hc1) (pe_var (i := 1) (x := b) rfl (.inl hb) hd2 hc2) rfl), ?_⟩
    exact ⟨y, rfl, .ref a1, rfl, a1, C, rfl, hC, hnv, .inl ⟨h1, fun dx n ne => h2 dx n ne⟩⟩
end W3

/-! C12: from the head's facts; the law's end. -/
namespace W3
open PySem PySem.Spec L2

/-- no list stands among the module's objects -/
def noLB (K : PySem.W.Frag) : Bool := K.all fun q => match q.2.cls with
  | .type c => !(c == "list")
  | _ => true
theorem noL_ok {K : PySem.W.Frag} (h : noLB K = true) {a : Addr} {o : Obj} (e : K.lookup a = some o) (hc : o.cls = .type "list") : False := by
  have h1 := List.all_eq_true.mp h _ (He.lookup_mem e)
  dsimp only at h1
  rw [hc] at h1
  exact absurd h1 (by decide)
/-- an own exception class whose __init__ is that of the class b -/
def exB (K : PySem.W.Frag) (b x : Str) : Bool :=
  (match K.lookup (He.ga K x) with
  | some ⟨.type t, _, .cls cd, sl⟩ => (match cd.mro, sl.toList with
    | .ref C' :: bm, [_, _, _, _, some (.builtin n), _] => t == "type" && (C' == He.ga K x && (n == "ValueError.__new__" && (!cd.hasDel && (cd.hasDict && PySem.HandSPX.refsVE bm))))
    | _, _ => false)
  | _ => false) &&
  (decide (PySem.W.findIn K (.ref (He.ga K x)) "__setattr__" = some (some (.builtin "object.__setattr__"))) && (decide (PySem.W.subIn K (.ref (He.ga K x)) (.type "BaseException") = some true) &&
  (decide (PySem.W.typeIn K (.ref (He.ga K x)) = some (.type "type")) && (PySem.W.keepIn K (.ref (He.ga K x)) && (decide (PySem.W.findIn K (.ref (He.ga K x)) "value" = some none) &&
  (decide (PySem.W.findIn K (.ref (He.ga K x)) "__init__" = some (some (.ref (He.fAd K (b, some "__init__"))))) && decide (PySem.W.typeIn K (.ref (He.fAd K (b, some "__init__"))) = some (.type "function"))))))))
theorem exB_ok {K : PySem.W.Frag} {b x : Str} (h : exB K b x = true) : OexC K (He.ga K x) ∧ PySem.W.findIn K (.ref (He.ga K x)) "value" = some none ∧ PySem.W.findIn K (.ref (He.ga K x)) "__init__" = some (some (.ref (He.fAd K (b, some "__init__")))) ∧ PySem.W.typeIn K (.ref (He.fAd K (b, some "__init__"))) = some (.type "function") := by
  unfold exB at h
  obtain ⟨h1, h⟩ := Bool.and_eq_true_iff.mp h
  obtain ⟨h2, h⟩ := Bool.and_eq_true_iff.mp h
  obtain ⟨h3, h⟩ := Bool.and_eq_true_iff.mp h
  obtain ⟨h4, h⟩ := Bool.and_eq_true_iff.mp h
  obtain ⟨h5, h⟩ := Bool.and_eq_true_iff.mp h
  obtain ⟨h6, h⟩ := Bool.and_eq_true_iff.mp h
  obtain ⟨h7, h8⟩ := Bool.and_eq_true_iff.mp h
  refine ⟨⟨?_, of_decide_eq_true h2, of_decide_eq_true h3, of_decide_eq_true h4, h5⟩, of_decide_eq_true h6, of_decide_eq_true h7, of_decide_eq_true h8⟩
  split at h1
  · rename_i t dd cd sl ho
    split at h1
    · rename_i C' bm k0 k1 k2 k3 n k5 hm hs
      simp only [Bool.and_eq_true, beq_iff_eq, Bool.not_eq_true'] at h1
      obtain ⟨rfl, e, rfl, hdel, hdct, ht⟩ := h1
      obtain ⟨nm, bs, mro, ns, qn, hd, sn, sub, ab, col, del⟩ := cd
      dsimp only at hm hdel hdct
      subst hm hdel hdct
      have hsl : sl = #[k0, k1, k2, k3, some (.builtin "ValueError.__new__"), k5] := by
        obtain ⟨l⟩ := sl
        simp only at hs
        rw [hs]
      subst hsl
      rw [ho, e]
      exact ⟨nm, qn, ns, bs, bm, sn, sub, ab, col, dd, k0, k1, k2, k3, k5, rfl, ht⟩
    · cases h1
  · cases h1
/-- the facts at the module's heap -/
structure Fc (fa : List He.Fa) (fn : List He.DefD) (ex : PySem.W.Frag → Bool) (w : World) (h : Heap) (K : PySem.W.Frag) (mg : Str → Option Value) : Prop where
  c : He.SaysX fa fn [] [] ex w h K
  X : K.In h
  G : h.Ns mainGlobals mg
section
variable {fa : List He.Fa} {fn : List He.DefD} {ex : PySem.W.Frag → Bool} {w : World} {h : Heap} {K : PySem.W.Frag} {mg : Str → Option Value}
theorem Fc.glo (Z : Fc fa fn ex w h K mg) (i : Nat) {x : Str} (e : fa[i]? = some (.glo x) := by rfl) : mg x = some (.ref (He.ga K x)) := He.glo_ok Z.X Z.G (Z.c.t.d.fact i e)
theorem Fc.free (Z : Fc fa fn ex w h K mg) (i : Nat) {x : Str} (e : fa[i]? = some (.free x) := by rfl) : mg x = none := He.free_ok Z.X Z.G (Z.c.t.d.fact i e)
theorem Fc.int (Z : Fc fa fn ex w h K mg) (i : Nat) {x : Str} {n : Int} (e : fa[i]? = some (.int x n) := by rfl) : ∃ t, mg x = some (.int n t) := He.int_ok Z.X Z.G (Z.c.t.d.fact i e)
end
theorem exOk_of {P : Program} {w : World} {K : PySem.W.Frag} {mg : Str → Option Value} {base : Heap} {k : Nat} {b x : Str} {fd : FuncData} {ps : List Str} (h : exB K b x = true) (hm : mg x = some (.ref (He.ga K x)))
    (F : FnOk P w K mg base (L2.CX P w) k (He.fAd K (b, some "__init__")) fd ps (spInit K)) (hb : Binds K fd ps []) : ExOk P w K mg base (He.ga K) k x := by
  obtain ⟨h1, h2, h3, h4⟩ := exB_ok h
  exact ⟨h1, hm, h2, _, fd, ps, h3, h4, F, hb⟩

/-- the script -/
def scr (ns : List Int) : Sl := .t (.v (.lst (ns.map .int)))
theorem relDs_ints {cl : Str → Addr} {F : Addr → Prop} {H : Hp} : ∀ ns : List Int, RelDs cl F H (ns.map .int) (ns.map .int)
  | [] => .nil
  | n :: ns => .cons (.int n) (relDs_ints ns)
theorem law_sp {K : PySem.W.Frag} {Φ : Fun} {H : Hp} {a : Addr} {ns : List Int} (hno : noLB K = true) (hS : SqL K H a (ns.map V.int)) {outs : Sg} (h : Φ [scr ns] = some (.ok (.v (.bl true)), outs)) :
    spC (He.ga K) 1 Φ [.ref a] H (fun v _ => v = .bl true) (fun _ _ _ => False) := by
  rcases hS with hS | ⟨o, its, n, h1, h2, _⟩
  · have hd : H a ≠ none := by
      rcases hS with e | ⟨o, e⟩ <;> (rw [e]; simp)
    refine ⟨rfl, fun b => b = a, ⟨fun _ => False, fun _ => none⟩, fun _ => [], [scr ns], ?_, ?_, _, outs, h, fun F' A' H' x r => ?_⟩
    · funext j
      unfold pinsOf scr
      cases j with
      | zero => rfl
      | succ j => rfl
    · refine ⟨rfl, fun i s e => ?_, fun i => List.nodup_nil, fun i j a _ m => (nomatch m), fun b ⟨i, m⟩ => (nomatch m), fun b e => ?_, fun b z => False.elim z, fun i v e => (nomatch e)⟩
      · cases i with
        | zero =>
          cases e
          exact ⟨.ref a, rfl, .v (.lst rfl hS (relDs_ints ns))⟩
        | succ i => cases e
      · subst e; exact hd
    · intro v C hv _ _ _
      obtain ⟨_, hv⟩ := relT_v hv
      cases hv
      rfl
  · exact (noL_ok hno h1 h2).elim
end W3

/-! C13: small helps for the printed walks. -/
namespace W3
open PySem PySem.Spec L2
/-- BlkOk as a Bool -/
def blkB (N : List Str) (sc scope : Scope) (own : List (Str × Nat)) : Bool :=
  scope.names.all (fun y => decide (scope.names.lookup y.1 = some y.2)) && (own.all (fun p => decide (N[p.2]? = some p.1)) &&
  (scope.names.all (fun y => !decide (y.2 = .free) || (decide (sc.names.lookup y.1 = some .cell) || decide (sc.names.lookup y.1 = some .free))) &&
   scope.names.all (fun y => !(decide (y.2 = .local) || decide (y.2 = .cell)) || (decide (y.1 ∈ own.map (·.1)) || decide (y.1 ∉ N)))))
theorem blkB_ok {N : List Str} {sc scope : Scope} {own : List (Str × Nat)} (hk : scope.kind = .function) (h : blkB N sc scope own = true) : BlkOk N sc scope own := by
  unfold blkB at h
  obtain ⟨h1, h⟩ := Bool.and_eq_true_iff.mp h
  obtain ⟨h2, h⟩ := Bool.and_eq_true_iff.mp h
  obtain ⟨h3, h4⟩ := Bool.and_eq_true_iff.mp h
  refine ⟨hk, fun y m => of_decide_eq_true (List.all_eq_true.mp h1 y m), fun p m => of_decide_eq_true (List.all_eq_true.mp h2 p m), fun y m e => ?_, fun y m e => ?_⟩
  · have z := List.all_eq_true.mp h3 y m
    simp only [Bool.or_eq_true, Bool.not_eq_true', decide_eq_false_iff_not, decide_eq_true_eq] at z
    rcases z with z | z
    · exact absurd e z
    · exact z
  · have z := List.all_eq_true.mp h4 y m
    simp only [Bool.or_eq_true, Bool.not_eq_true', Bool.or_eq_false_iff, decide_eq_false_iff_not, decide_eq_true_eq] at z
    rcases z with z | z
    · rcases e with e | e
      · exact absurd e z.1
      · exact absurd e z.2
    · exact z
section
variable {P : Program} {w : World} {K : PySem.W.Frag} {mg : Str → Option Value} {base : Heap} {N : List Str} {qual : Str} {scope : Scope} {f : Addr} {cdv : Value} {A : Around} {outer : List Env} {s : Shared} {H : Hp} {E : XK}
theorem tk_cx : Takes (cxOf (L2.CX P w) P w K mg base N qual scope f cdv A outer s H E) (fun c d _ H => E c d H) := takes_of rfl rfl rfl rfl
theorem po_cx : PySem.PassesOwn (model P w) (cxOf (L2.CX P w) P w K mg base N qual scope f cdv A outer s H E).A (cxOf (L2.CX P w) P w K mg base N qual scope f cdv A outer s H E).env (cxOf (L2.CX P w) P w K mg base N qual scope f cdv A outer s H E).xe := passes_of rfl
end
end W3

/-! C14: the plain side: what must hold for an M to end well. -/
namespace W3
open PySem PySem.Spec L2

abbrev ExQ := Str → D → Sg → Prop
def NoE : ExQ := fun _ _ _ => False
def WP {α : Type} (m : M α) (ρ : Sg) (Q : α → Sg → Prop) (E : ExQ) : Prop := match m ρ with
  | some (.ok a, ρ1) => Q a ρ1
  | some (.exc c d, ρ1) => E c d ρ1
  | none => False
def WPF (Φ : Fun) (args : List Sl) (Q : T → Sg → Prop) (E : ExQ) : Prop := match Φ args with
  | some (.ok t, outs) => Q t outs
  | some (.exc c d, outs) => E c d outs
  | none => False
def optS {α : Type} (o : Option α) (P : α → Prop) : Prop := match o with
  | some a => P a
  | none => False
theorem optS_some {α : Type} {a : α} {P : α → Prop} : optS (some a) P = P a := rfl
theorem optS_none {α : Type} {P : α → Prop} : optS none P = False := rfl
theorem optS_map {α β : Type} {f : α → β} {o : Option α} {P : β → Prop} : optS (o.map f) P = optS o fun a => P (f a) := by cases o <;> rfl
theorem optS_bind {α β : Type} {f : α → Option β} {o : Option α} {P : β → Prop} : optS (o.bind f) P = optS o fun a => optS (f a) P := by cases o <;> rfl
theorem optS_ite {α : Type} {c : Prop} [Decidable c] {a : α} {P : α → Prop} : optS (if c then some a else none) P = (c ∧ P a) := by
  by_cases h : c <;> simp [h, optS]
section
variable {α β : Type} {ρ : Sg} {E : ExQ}
theorem wp_bind {m : M α} {f : α → M β} {Q : β → Sg → Prop} : WP (M.bind m f) ρ Q E = WP m ρ (fun a ρ1 => WP (f a) ρ1 Q E) E := by
  unfold WP M.bind
  cases h : m ρ with
  | none => rfl
  | some p =>
    obtain ⟨o, ρ1⟩ := p
    cases o <;> rfl
theorem wp_ret {a : α} {Q : α → Sg → Prop} : WP (M.ret a) ρ Q E = Q a ρ := rfl
theorem wp_opt {o : Option α} {Q : α → Sg → Prop} : WP (M.opt o) ρ Q E = optS o fun a => Q a ρ := by cases o <;> rfl
theorem wp_none {Q : α → Sg → Prop} : WP m_none ρ Q E = False := rfl
theorem wp_fun {f : Sg → Option (Out α × Sg)} {Q : α → Sg → Prop} : WP (fun ρ => f ρ) ρ Q E = (match f ρ with
  | some (.ok a, ρ1) => Q a ρ1
  | some (.exc c d, ρ1) => E c d ρ1
  | none => False) := rfl
theorem WP.mono {m : M α} {Q Q' : α → Sg → Prop} {E' : ExQ} (h : WP m ρ Q E) (hQ : ∀ a ρ, Q a ρ → Q' a ρ) (hE : ∀ c d ρ, E c d ρ → E' c d ρ) : WP m ρ Q' E' := by
  unfold WP at h ⊢
  cases e : m ρ with
  | none => rw [e] at h; exact h
  | some p =>
    obtain ⟨o, ρ1⟩ := p
    rw [e] at h
    cases o with
    | ok a => exact hQ _ _ h
    | exc c d => exact hE _ _ _ h
theorem WPF.mono {Φ : Fun} {args : List Sl} {Q Q' : T → Sg → Prop} {E' : ExQ} (h : WPF Φ args Q E) (hQ : ∀ a ρ, Q a ρ → Q' a ρ) (hE : ∀ c d ρ, E c d ρ → E' c d ρ) : WPF Φ args Q' E' := by
  unfold WPF at h ⊢
  cases e : Φ args with
  | none => rw [e] at h; exact h
  | some p =>
    obtain ⟨o, ρ1⟩ := p
    rw [e] at h
    cases o with
    | ok a => exact hQ _ _ h
    | exc c d => exact hE _ _ _ h
/-! ### expressions -/
def varS (s : Option (Option Sl)) (i : Nat) (P : Rv → Prop) : Prop := match s with
  | some (some (.t (.v d))) => P (.t (.v d))
  | some (some (.t _)) => P (.pk i)
  | some (some (.io _)) => P (.pk i)
  | some (some (.lent d)) => P (lv d)
  | _ => False
theorem wp_var {i : Nat} {Q : Rv → Sg → Prop} : WP (m_var i) ρ Q E = varS (ρ[i]?) i fun r => Q r ρ := by
  unfold WP m_var varS
  cases ρ[i]? with
  | none => rfl
  | some o => cases o with
    | none => rfl
    | some x => cases x with
      | t t => cases t <;> rfl
      | _ => rfl
def mvS (s : Option (Option Sl)) (P : Rv → Prop) : Prop := match s with
  | some (some (.t t)) => P (.t t)
  | _ => False
theorem wp_mv {i : Nat} {Q : Rv → Sg → Prop} : WP (m_mv i) ρ Q E = mvS (ρ[i]?) fun r => Q r (ρ.set i none) := by
  unfold WP m_mv mvS
  cases ρ[i]? with
  | none => rfl
  | some o => cases o with
    | none => rfl
    | some x => cases x <;> rfl
theorem wp_c {d : D} {Q : Rv → Sg → Prop} : WP (m_c d) ρ Q E = Q (.t (.v d)) ρ := rfl
def fzR : Rv → Rv
  | .t t => .t (.v t.toD)
  | r => r
theorem wp_fz {m : M Rv} {Q : Rv → Sg → Prop} : WP (m_fz m) ρ Q E = WP m ρ (fun r ρ1 => Q (fzR r) ρ1) E := by
  unfold m_fz
  rw [wp_bind]
  congr 1
def rvQ (r : Rv) (P : D → Prop) : Prop := match r with
  | .t (.v d) => P d
  | _ => False
theorem wp_op {f : D → D → Option D} {ma mb : M Rv} {Q : Rv → Sg → Prop} : WP (m_op f ma mb) ρ Q E = WP ma ρ (fun a ρ1 => WP mb ρ1 (fun b ρ2 => rvQ a fun x => rvQ b fun y => optS (f x y) fun g => Q (.t (.v g)) ρ2) E) E := by
  unfold m_op
  rw [wp_bind]
  congr 1; funext a ρ1
  rw [wp_bind]
  congr 1; funext b ρ2
  rw [wp_opt, optS_bind]
  cases a with
  | t t => cases t with
    | v d =>
      show optS ((rvD b).bind _) _ = rvQ b _
      cases b with
      | t t => cases t with
        | v e => exact optS_map
        | _ => rfl
      | _ => rfl
    | _ => rfl
  | _ => rfl
theorem wp_un {f : D → Option D} {ma : M Rv} {Q : Rv → Sg → Prop} : WP (m_un f ma) ρ Q E = WP ma ρ (fun a ρ1 => rvQ a fun x => optS (f x) fun g => Q (.t (.v g)) ρ1) E := by
  unfold m_un
  rw [wp_bind]
  congr 1; funext a ρ1
  rw [wp_opt, optS_bind]
  cases a with
  | t t => cases t with
    | v d => exact optS_map
    | _ => rfl
  | _ => rfl
theorem wp_look2 {f : D → D → Option D} {ma mb : M Rv} {Q : Rv → Sg → Prop} : WP (m_look2 f ma mb) ρ Q E = WP ma ρ (fun a ρ1 => WP mb ρ1 (fun b ρ2 => optS (viewR ρ2 a) fun x => optS (viewR ρ2 b) fun y => optS (f x y) fun g => Q (.t (.v g)) ρ2) E) E := by
  unfold m_look2
  rw [wp_bind]
  congr 1; funext a ρ1
  rw [wp_bind]
  congr 1; funext b ρ2
  unfold WP
  dsimp only
  cases viewR ρ2 a with
  | none => rfl
  | some x =>
    cases viewR ρ2 b with
    | none => rfl
    | some y =>
      dsimp only [optS, Option.bind]
      cases f x y <;> rfl
def bolQ (r : Rv) (P : Bool → Prop) : Prop := match r with
  | .t (.v (.bl b)) => P b
  | _ => False
theorem wp_tst {m : M Rv} {Q : Bool → Sg → Prop} : WP (m_tst m) ρ Q E = WP m ρ (fun r ρ1 => bolQ r fun b => Q b ρ1) E := by
  unfold m_tst
  rw [wp_bind]
  congr 1; funext r ρ1
  rw [wp_opt]
  cases r with
  | t t => cases t with
    | v d => cases d <;> rfl
    | _ => rfl
  | _ => rfl
theorem wp_and {a b : M Bool} {Q : Bool → Sg → Prop} : WP (m_and a b) ρ Q E = WP a ρ (fun c ρ1 => if c = true then WP b ρ1 Q E else Q false ρ1) E := by
  unfold m_and
  rw [wp_bind]
  congr 1; funext c ρ1
  cases c <;> rfl
theorem wp_or {a b : M Bool} {Q : Bool → Sg → Prop} : WP (m_or a b) ρ Q E = WP a ρ (fun c ρ1 => if c = true then Q true ρ1 else WP b ρ1 Q E) E := by
  unfold m_or
  rw [wp_bind]
  congr 1; funext c ρ1
  cases c <;> rfl
theorem wp_not {a : M Bool} {Q : Bool → Sg → Prop} : WP (m_not a) ρ Q E = WP a ρ (fun c ρ1 => Q (!c) ρ1) E := by
  unfold m_not
  rw [wp_bind]; rfl
theorem wp_andV {a b : M Rv} {Q : Rv → Sg → Prop} : WP (m_andV a b) ρ Q E = WP (m_tst a) ρ (fun c ρ1 => if c = true then WP b ρ1 Q E else Q (.t (.v (.bl false))) ρ1) E := by
  unfold m_andV
  rw [wp_bind]
  congr 1; funext c ρ1
  cases c <;> rfl
theorem wp_orV {a b : M Rv} {Q : Rv → Sg → Prop} : WP (m_orV a b) ρ Q E = WP (m_tst a) ρ (fun c ρ1 => if c = true then Q (.t (.v (.bl true))) ρ1 else WP b ρ1 Q E) E := by
  unfold m_orV
  rw [wp_bind]
  congr 1; funext c ρ1
  cases c <;> rfl
theorem wp_notV {a : M Rv} {Q : Rv → Sg → Prop} : WP (m_notV a) ρ Q E = WP (m_tst a) ρ (fun c ρ1 => Q (.t (.v (.bl (!c)))) ρ1) E := by
  unfold m_notV
  rw [wp_bind]; rfl
theorem wp_if {t : M Bool} {a b : M Rv} {Q : Rv → Sg → Prop} : WP (m_if t a b) ρ Q E = WP t ρ (fun c ρ1 => if c = true then WP a ρ1 Q E else WP b ρ1 Q E) E := by
  unfold m_if
  rw [wp_bind]
  congr 1; funext c ρ1
  cases c <;> rfl
theorem wp_nil {Q : List Rv → Sg → Prop} : WP m_nil ρ Q E = Q [] ρ := rfl
theorem wp_cons {a : M Rv} {r : M (List Rv)} {Q : List Rv → Sg → Prop} : WP (m_cons a r) ρ Q E = WP a ρ (fun x ρ1 => WP r ρ1 (fun xs ρ2 => Q (x :: xs) ρ2) E) E := by
  unfold m_cons
  rw [wp_bind]
  congr 1; funext c ρ1
  rw [wp_bind]; rfl
theorem wp_look {f : List D → Option D} {ms : M (List Rv)} {Q : Rv → Sg → Prop} : WP (m_look f ms) ρ Q E = WP ms ρ (fun rs ρ1 => optS (viewRs ρ1 rs) fun ds => optS (f ds) fun g => Q (.t (.v g)) ρ1) E := by
  unfold m_look
  rw [wp_bind]
  congr 1; funext rs ρ1
  unfold WP
  dsimp only
  cases viewRs ρ1 rs with
  | none => rfl
  | some ds =>
    dsimp only [optS, Option.bind]
    cases f ds <;> rfl
theorem wp_lst {ms : M (List Rv)} {Q : Rv → Sg → Prop} : WP (m_lst ms) ρ Q E = WP ms ρ (fun rs ρ1 => optS (rvTs rs) fun ts => ts.length ≤ line ∧ Q (.t (.lst ts)) ρ1) E := by
  unfold m_lst
  rw [wp_bind]
  congr 1; funext rs ρ1
  rw [wp_opt, optS_bind]
  congr 1; funext ts
  exact optS_ite
theorem wp_tup {ms : M (List Rv)} {Q : Rv → Sg → Prop} : WP (m_tup ms) ρ Q E = WP ms ρ (fun rs ρ1 => optS (rvTs rs) fun ts => ts.length ≤ line ∧ Q (.t (.tup ts)) ρ1) E := by
  unfold m_tup
  rw [wp_bind]
  congr 1; funext rs ρ1
  rw [wp_opt, optS_bind]
  congr 1; funext ts
  exact optS_ite
def intQ (r : Rv) (P : Int → Prop) : Prop := match r with
  | .t (.v (.int i)) => P i
  | _ => False
theorem wp_ix {ma mb : M Rv} {Q : Rv → Sg → Prop} : WP (m_ix ma mb) ρ Q E = WP ma ρ (fun a ρ1 => WP mb ρ1 (fun b ρ2 => intQ b fun i => optS (ixR ρ2 a i) fun r => Q r ρ2) E) E := by
  unfold m_ix
  rw [wp_bind]
  congr 1; funext a ρ1
  rw [wp_bind]
  congr 1; funext b ρ2
  unfold WP
  cases b with
  | t t => cases t with
    | v d => cases d with
      | int i =>
        dsimp only [intQ]
        cases ixR ρ2 a i <;> rfl
      | _ => rfl
    | _ => rfl
  | _ => rfl
theorem rvI_q {r : Rv} {P : Int → Prop} : optS (rvI r) P = intQ r P := by
  cases r with
  | t t => cases t with
    | v d => cases d <;> rfl
    | _ => rfl
  | _ => rfl
theorem wp_some {m : M Rv} {Q : Option Int → Sg → Prop} : WP (m_some m) ρ Q E = WP m ρ (fun r ρ1 => intQ r fun i => Q (some i) ρ1) E := by
  unfold m_some
  rw [wp_bind]
  congr 1; funext r ρ1
  rw [wp_opt, optS_map, rvI_q]
theorem wp_no {Q : Option Int → Sg → Prop} : WP m_no ρ Q E = Q none ρ := rfl
theorem wp_sl {ma : M Rv} {ml mh : M (Option Int)} {Q : Rv → Sg → Prop} : WP (m_sl ma ml mh) ρ Q E = WP ma ρ (fun a ρ1 => WP ml ρ1 (fun lo ρ2 => WP mh ρ2 (fun hi ρ3 => optS (itemsL ρ3 a) fun ds => Q (.t (.lst ((cutD ds lo hi).map T.v))) ρ3) E) E) E := by
  unfold m_sl
  rw [wp_bind]
  congr 1; funext a ρ1
  rw [wp_bind]
  congr 1; funext lo ρ2
  rw [wp_bind]
  congr 1; funext hi ρ3
  unfold WP
  dsimp only
  cases itemsL ρ3 a <;> rfl
theorem wp_listof {ms : M (List Rv)} {Q : Rv → Sg → Prop} : WP (m_listof ms) ρ Q E = WP ms ρ (fun rs ρ1 => match rs with
  | [r] => optS (itemsR ρ1 r) fun ds => Q (.t (.lst (ds.map T.v))) ρ1
  | _ => False) E := by
  unfold m_listof
  rw [wp_bind]
  congr 1; funext rs ρ1
  unfold WP
  match rs with
  | [] => rfl
  | [r] =>
    dsimp only
    cases itemsR ρ1 r <;> rfl
  | _ :: _ :: _ => rfl
theorem wp_cat {ma mb : M Rv} {Q : Rv → Sg → Prop} : WP (m_cat ma mb) ρ Q E = WP ma ρ (fun a ρ1 => WP mb ρ1 (fun b ρ2 => optS (itemsL ρ2 a) fun ds => optS (itemsL ρ2 b) fun es => ds.length + es.length ≤ line ∧ Q (.t (.lst ((ds ++ es).map T.v))) ρ2) E) E := by
  unfold m_cat
  rw [wp_bind]
  congr 1; funext a ρ1
  rw [wp_bind]
  congr 1; funext b ρ2
  unfold WP
  dsimp only
  cases itemsL ρ2 a with
  | none => rfl
  | some ds => cases itemsL ρ2 b with
    | none => rfl
    | some es =>
      dsimp only [optS]
      by_cases h : ds.length + es.length ≤ line <;> simp [h]
/-! ### changes -/
theorem wp_meth {k : Nat} {ms : M (List Rv)} {f : List T → List T → Option (T × List T)} {Q : Rv → Sg → Prop} : WP (m_meth k ms f) ρ Q E = (optS (lstAt ρ k) fun _ => WP ms ρ (fun rs ρ2 => optS (lstAt ρ2 k) fun ts => optS (rvTs rs) fun as => optS (f ts as) fun z => Q (.t z.1) (putL ρ2 k z.2)) E) := by
  unfold m_meth WP
  dsimp only
  cases lstAt ρ k with
  | none => rfl
  | some _ =>
    show WP (M.bind ms _) ρ Q E = _
    rw [wp_bind]
    show _ = WP ms ρ _ E
    congr 1; funext rs ρ2
    unfold WP
    dsimp only
    cases lstAt ρ2 k with
    | none => rfl
    | some ts => cases rvTs rs with
      | none => rfl
      | some as =>
        dsimp only [optS]
        cases f ts as <;> rfl
/-! ### statements -/
theorem wp_nx {Q : Fl → Sg → Prop} : WP m_nx ρ Q E = Q .nx ρ := rfl
theorem wp_bk {Q : Fl → Sg → Prop} : WP m_bk ρ Q E = Q .bk ρ := rfl
theorem wp_ct {Q : Fl → Sg → Prop} : WP m_ct ρ Q E = Q .ct ρ := rfl
def seqQ (P : Sg → Prop) (Q : Fl → Sg → Prop) : Fl → Sg → Prop := fun f ρ => match f with
  | .nx => P ρ
  | f => Q f ρ
theorem seqQ_nx {P : Sg → Prop} {Q : Fl → Sg → Prop} : seqQ P Q .nx ρ = P ρ := rfl
theorem seqQ_ret {P : Sg → Prop} {Q : Fl → Sg → Prop} {r : Rv} : seqQ P Q (.ret r) ρ = Q (.ret r) ρ := rfl
theorem seqQ_bk {P : Sg → Prop} {Q : Fl → Sg → Prop} : seqQ P Q .bk ρ = Q .bk ρ := rfl
theorem seqQ_ct {P : Sg → Prop} {Q : Fl → Sg → Prop} : seqQ P Q .ct ρ = Q .ct ρ := rfl
theorem wp_seq {a b : M Fl} {Q : Fl → Sg → Prop} : WP (m_seq a b) ρ Q E = WP a ρ (seqQ (fun ρ1 => WP b ρ1 Q E) Q) E := by
  unfold m_seq
  rw [wp_bind]
  congr 1; funext f ρ1
  cases f <;> rfl
theorem wp_ifs {t : M Bool} {a b : M Fl} {Q : Fl → Sg → Prop} : WP (m_ifs t a b) ρ Q E = WP t ρ (fun c ρ1 => if c = true then WP a ρ1 Q E else WP b ρ1 Q E) E := by
  unfold m_ifs
  rw [wp_bind]
  congr 1; funext c ρ1
  cases c <;> rfl
theorem wp_expr {m : M Rv} {Q : Fl → Sg → Prop} : WP (m_expr m) ρ Q E = WP m ρ (fun _ ρ1 => Q .nx ρ1) E := by
  unfold m_expr
  rw [wp_bind]; rfl
theorem wp_return {m : M Rv} {Q : Fl → Sg → Prop} : WP (m_ret m) ρ Q E = WP m ρ (fun r ρ1 => Q (.ret r) ρ1) E := by
  unfold m_ret
  rw [wp_bind]; rfl
theorem wp_retN {Q : Fl → Sg → Prop} : WP m_retN ρ Q E = Q (.ret (.t (.v .non))) ρ := rfl
theorem wp_asg {m : M Rv} {g : Tg} {Q : Fl → Sg → Prop} : WP (m_asg m g) ρ Q E = WP m ρ (fun r ρ1 => optS (g r ρ1) fun ρ2 => Q .nx ρ2) E := by
  unfold m_asg
  rw [wp_bind]
  congr 1; funext r ρ1
  unfold WP
  dsimp only
  cases g r ρ1 <;> rfl
theorem wp_setix {k : Nat} {me mi : M Rv} {Q : Fl → Sg → Prop} : WP (m_setix k me mi) ρ Q E = WP me ρ (fun r ρ1 => optS (lstAt ρ1 k) fun _ => WP mi ρ1 (fun i ρ2 => optS (lstAt ρ2 k) fun ts => optS (rvT r) fun t => intQ i fun j => optS (ixN ts.length j) fun n => Q .nx (putL ρ2 k (ts.set n t))) E) E := by
  unfold m_setix
  rw [wp_bind]
  congr 1; funext r ρ1
  unfold WP
  dsimp only
  cases lstAt ρ1 k with
  | none => rfl
  | some _ =>
    dsimp only [optS]
    show WP (M.bind mi _) ρ1 Q E = WP mi ρ1 _ E
    rw [wp_bind]
    congr 1; funext i ρ2
    unfold WP
    dsimp only
    cases lstAt ρ2 k with
    | none => rfl
    | some ts => cases rvT r with
      | none => rfl
      | some t =>
        dsimp only [optS]
        rw [← rvI_q]
        cases rvI i with
        | none => rfl
        | some j =>
          dsimp only [optS]
          cases ixN ts.length j <;> rfl
theorem wp_aug {k : Nat} {f : Int → Int → Int} {me : M Rv} {Q : Fl → Sg → Prop} : WP (m_aug k f me) ρ Q E = (match ρ[k]? with
  | some (some (.t (.v (.int i)))) => WP me ρ (fun r ρ1 => intQ r fun j => optS (setSl k (.t (.v (.int (f i j)))) ρ1) fun ρ2 => Q .nx ρ2) E
  | _ => False) := by
  have key : ∀ i : Int, WP (M.bind me fun r => match rvI r with
        | some j => fun ρ1 => (setSl k (.t (.v (.int (f i j)))) ρ1).map fun ρ2 => (.ok .nx, ρ2)
        | none => m_none) ρ Q E = WP me ρ (fun r ρ1 => intQ r fun j => optS (setSl k (.t (.v (.int (f i j)))) ρ1) fun ρ2 => Q .nx ρ2) E := fun i => by
    rw [wp_bind]
    congr 1; funext r ρ1
    rw [← rvI_q]
    cases rvI r with
    | none => rfl
    | some j =>
      unfold WP
      dsimp only [optS]
      cases setSl k (.t (.v (.int (f i j)))) ρ1 <;> rfl
  unfold m_aug
  cases h : ρ[k]? with
  | none => unfold WP; dsimp only; rw [h]
  | some o => cases o with
    | none => unfold WP; dsimp only; rw [h]
    | some x => cases x with
      | t t => cases t with
        | v d => cases d with
          | int i =>
            dsimp only
            rw [← key i]
            unfold WP
            dsimp only
            rw [h]
            all_goals rfl
          | _ => unfold WP; dsimp only; rw [h]
        | _ => unfold WP; dsimp only; rw [h]
      | _ => unfold WP; dsimp only; rw [h]
theorem wp_raise {c : Str} {m : M Rv} {Q : Fl → Sg → Prop} : WP (m_raise c m) ρ Q E = WP m ρ (fun r ρ1 => rvQ r fun d => E c d ρ1) E := by
  unfold m_raise
  rw [wp_bind]
  congr 1; funext r ρ1
  unfold WP
  cases r with
  | t t => cases t <;> rfl
  | _ => rfl
/-! ### iterables -/
theorem wp_rng1 {ms : M (List Rv)} {Q : List Rv → Sg → Prop} : WP (m_rng1 ms) ρ Q E = WP ms ρ (fun rs ρ1 => match rs with
  | [r] => intQ r fun j => (-(2 ^ 62) ≤ j ∧ j < 2 ^ 62) ∧ Q ((List.range j.toNat).map fun (i : Nat) => .t (.v (.int i))) ρ1
  | _ => False) E := by
  unfold m_rng1
  rw [wp_bind]
  congr 1; funext rs ρ1
  match rs with
  | [] => rfl
  | [r] =>
    dsimp only
    rw [← rvI_q]
    cases rvI r with
    | none => rfl
    | some j =>
      dsimp only [optS]
      by_cases h : -(2 ^ 62) ≤ j ∧ j < 2 ^ 62
      · rw [if_pos h, wp_ret]; exact propext ⟨fun q => ⟨h, q⟩, fun q => q.2⟩
      · rw [if_neg h, wp_none]; exact propext ⟨False.elim, fun q => h q.1⟩
  | _ :: _ :: _ => rfl
theorem wp_rng2 {ms : M (List Rv)} {Q : List Rv → Sg → Prop} : WP (m_rng2 ms) ρ Q E = WP ms ρ (fun rs ρ1 => match rs with
  | [r, r'] => intQ r fun i => intQ r' fun j => (-(2 ^ 62) ≤ i ∧ i < 2 ^ 62 ∧ -(2 ^ 62) ≤ j ∧ j < 2 ^ 62) ∧ Q ((List.range (j - i).toNat).map fun (k : Nat) => .t (.v (.int (i + k)))) ρ1
  | _ => False) E := by
  unfold m_rng2
  rw [wp_bind]
  congr 1; funext rs ρ1
  match rs with
  | [] => rfl
  | [r] => rfl
  | [r, r'] =>
    dsimp only
    rw [← rvI_q]
    cases rvI r with
    | none => rfl
    | some i =>
      dsimp only [optS]
      rw [← rvI_q]
      cases rvI r' with
      | none => rfl
      | some j =>
        dsimp only [optS]
        by_cases h : -(2 ^ 62) ≤ i ∧ i < 2 ^ 62 ∧ -(2 ^ 62) ≤ j ∧ j < 2 ^ 62
        · rw [if_pos h, wp_ret]; exact propext ⟨fun q => ⟨h, q⟩, fun q => q.2⟩
        · rw [if_neg h, wp_none]; exact propext ⟨False.elim, fun q => h q.1⟩
  | _ :: _ :: _ :: _ => rfl
theorem wp_iter {f : Rv → Option (List Rv)} {m : M Rv} {Q : List Rv → Sg → Prop} : WP (m_iter f m) ρ Q E = WP m ρ (fun r ρ1 => optS (f r) fun l => Q l ρ1) E := by
  unfold m_iter
  rw [wp_bind]
  congr 1; funext r ρ1
  exact wp_opt
/-! ### loops -/
theorem wp_for {mi : M (List Rv)} {g : Tg} {body : M Fl} {Q : Fl → Sg → Prop} : WP (m_for mi g body) ρ Q E = WP mi ρ (fun items ρ1 => WP (mLoop g body items) ρ1 Q E) E := by
  unfold m_for
  rw [wp_bind]
def lpQ (P : Sg → Prop) (Q : Fl → Sg → Prop) : Fl → Sg → Prop := fun f ρ => match f with
  | .nx => P ρ
  | .ct => P ρ
  | .bk => Q .nx ρ
  | .ret r => Q (.ret r) ρ
theorem lpQ_nx {P : Sg → Prop} {Q : Fl → Sg → Prop} : lpQ P Q .nx ρ = P ρ := rfl
theorem lpQ_ct {P : Sg → Prop} {Q : Fl → Sg → Prop} : lpQ P Q .ct ρ = P ρ := rfl
theorem lpQ_bk {P : Sg → Prop} {Q : Fl → Sg → Prop} : lpQ P Q .bk ρ = Q .nx ρ := rfl
theorem lpQ_ret {P : Sg → Prop} {Q : Fl → Sg → Prop} {r : Rv} : lpQ P Q (.ret r) ρ = Q (.ret r) ρ := rfl
theorem wp_loop_nil {g : Tg} {body : M Fl} {Q : Fl → Sg → Prop} : WP (mLoop g body []) ρ Q E = Q .nx ρ := rfl
theorem wp_loop_cons {g : Tg} {body : M Fl} {x : Rv} {xs : List Rv} {Q : Fl → Sg → Prop} : WP (mLoop g body (x :: xs)) ρ Q E = optS (g x ρ) fun ρ1 => WP body ρ1 (lpQ (fun ρ2 => WP (mLoop g body xs) ρ2 Q E) Q) E := by
  unfold WP
  rw [mLoop]
  cases g x ρ with
  | none => rfl
  | some ρ1 =>
    dsimp only [optS]
    cases body ρ1 with
    | none => rfl
    | some p =>
      obtain ⟨o, ρ2⟩ := p
      cases o with
      | exc c d => rfl
      | ok f => cases f <;> rfl
/-- a loop over n things, by an invariant -/
theorem wp_loop {g : Tg} {body : M Fl} {Q : Fl → Sg → Prop} {items : List Rv} (I : Nat → Sg → Prop) (h0 : I 0 ρ) (step : ∀ i (h : i < items.length) ρ, I i ρ → optS (g items[i] ρ) fun ρ1 => WP body ρ1 (lpQ (I (i + 1)) Q) E)
    (fin : ∀ ρ, I items.length ρ → Q .nx ρ) : WP (mLoop g body items) ρ Q E := by
  have go : ∀ (l : List Rv) (k : Nat) (ρ : Sg), k ≤ items.length → items.drop k = l → I k ρ → WP (mLoop g body l) ρ Q E := by
    intro l
    induction l with
    | nil =>
      intro k ρ hl e i
      rw [wp_loop_nil]
      have h2 : items.length ≤ k := by
        have := congrArg List.length e
        rw [List.length_drop] at this
        simp only [List.length_nil] at this
        omega
      have : k = items.length := by omega
      exact fin ρ (this ▸ i)
    | cons x xs ih =>
      intro k ρ _ e i
      have hk : k < items.length := by
        have := congrArg List.length e
        rw [List.length_drop] at this
        simp only [List.length_cons] at this
        omega
      have ex : items[k] = x := by
        have := List.drop_eq_getElem_cons hk
        rw [e] at this
        exact (List.cons.inj this).1.symm
      have exs : items.drop (k + 1) = xs := by
        have := List.drop_eq_getElem_cons hk
        rw [e] at this
        exact (List.cons.inj this).2.symm
      rw [wp_loop_cons]
      have s := step k hk ρ i
      rw [ex] at s
      cases eg : g x ρ with
      | none => rw [eg] at s; exact s
      | some ρ1 =>
        rw [eg] at s
        refine WP.mono s (fun f ρ2 q => ?_) fun _ _ _ q => q
        cases f with
        | nx => exact ih (k + 1) ρ2 hk exs q
        | ct => exact ih (k + 1) ρ2 hk exs q
        | bk => exact q
        | ret r => exact q
  exact go items 0 ρ (Nat.zero_le _) rfl h0
end
end W3

/-! C15: the plain side: calls, whiles, comprehensions; lists of ints. -/
namespace W3
open PySem PySem.Spec L2
section
variable {α β : Type} {ρ : Sg} {E : ExQ}
theorem wp_callR {bs : List Bool} {Φ : Fun} {rs : List Rv} {Q : Rv → Sg → Prop} : WP (callR bs Φ rs) ρ Q E = (((ios bs rs).Nodup ∧ ∀ i ∈ lns bs rs, i ∉ ios bs rs) ∧ optS (argsOf ρ bs rs) fun args => WPF Φ args (fun t outs => Q (.t t) (putOuts bs rs outs ρ)) fun c d outs => E c d (putOuts bs rs outs ρ)) := by
  unfold WP callR
  split
  · rename_i h
    split at h
    · rename_i hc
      cases ea : argsOf ρ bs rs with
      | none => rw [ea] at h; cases h
      | some args =>
        rw [ea] at h
        dsimp only at h
        dsimp only [optS]
        unfold WPF
        cases ef : Φ args with
        | none => rw [ef] at h; cases h
        | some p =>
          obtain ⟨o, outs⟩ := p
          rw [ef] at h
          cases o with
          | ok t => cases h; exact propext ⟨fun q => ⟨hc, q⟩, fun q => q.2⟩
          | exc c d => cases h
    · cases h
  · rename_i h
    split at h
    · rename_i hc
      cases ea : argsOf ρ bs rs with
      | none => rw [ea] at h; cases h
      | some args =>
        rw [ea] at h
        dsimp only at h
        dsimp only [optS]
        unfold WPF
        cases ef : Φ args with
        | none => rw [ef] at h; cases h
        | some p =>
          obtain ⟨o, outs⟩ := p
          rw [ef] at h
          cases o with
          | ok t => cases h
          | exc c d => cases h; exact propext ⟨fun q => ⟨hc, q⟩, fun q => q.2⟩
    · cases h
  · rename_i h
    split at h
    · rename_i hc
      cases ea : argsOf ρ bs rs with
      | none => exact propext ⟨False.elim, fun q => q.2⟩
      | some args =>
        rw [ea] at h
        dsimp only at h
        dsimp only [optS]
        unfold WPF
        cases ef : Φ args with
        | none => exact propext ⟨False.elim, fun q => q.2⟩
        | some p =>
          obtain ⟨o, outs⟩ := p
          rw [ef] at h
          cases o with
          | ok t => cases h
          | exc c d => cases h
    · rename_i hc
      exact propext ⟨False.elim, fun q => hc q.1⟩
theorem wp_call {n : Nat} {bs : List Bool} {Φ : Fun} {dfl : List D} {ms : M (List Rv)} {Q : Rv → Sg → Prop} : WP (m_call n bs Φ dfl ms) ρ Q E = WP ms ρ (fun rs ρ1 => rs.length + dfl.length = n ∧ WP (callR bs Φ (rs ++ dflR dfl)) ρ1 Q E) E := by
  unfold m_call
  rw [wp_bind]
  congr 1; funext rs ρ1
  split
  · rename_i h; exact propext ⟨fun q => ⟨h, q⟩, fun q => q.2⟩
  · rename_i h; exact propext ⟨False.elim, fun q => h q.1⟩
theorem wp_callK {n n1 n2 : Nat} {bs : List Bool} {Φ : Fun} {g : {α : Type} → List α → List α → List α} {ms ks : M (List Rv)} {Q : Rv → Sg → Prop} : WP (m_callK n n1 n2 bs Φ g ms ks) ρ Q E = WP ms ρ (fun rs ρ1 => WP ks ρ1 (fun zs ρ2 =>
    (rs.length = n1 ∧ zs.length = n2 ∧ (g rs zs).length = n ∧ rs.all freeRv = true ∧ zs.all freeRv = true) ∧ WP (callR bs Φ (g rs zs)) ρ2 Q E) E) E := by
  unfold m_callK
  rw [wp_bind]
  congr 1; funext rs ρ1
  rw [wp_bind]
  congr 1; funext zs ρ2
  split
  · rename_i h; exact propext ⟨fun q => ⟨h, q⟩, fun q => q.2⟩
  · rename_i h; exact propext ⟨False.elim, fun q => h q.1⟩
def runQ (args : List Sl) (Q : T → Sg → Prop) : Fl → Sg → Prop := fun f ρ => match f with
  | .ret rv => optS (outOf ρ rv) fun t => Q t (outsAt 0 args ρ)
  | .nx => Q (.v .non) (outsAt 0 args ρ)
  | _ => False
theorem runQ_ret {args : List Sl} {Q : T → Sg → Prop} {rv : Rv} : runQ args Q (.ret rv) ρ = optS (outOf ρ rv) fun t => Q t (outsAt 0 args ρ) := rfl
theorem runQ_nx {args : List Sl} {Q : T → Sg → Prop} : runQ args Q .nx ρ = Q (.v .non) (outsAt 0 args ρ) := rfl
theorem wp_run {N : Nat} {m : M Fl} {args : List Sl} {Q : T → Sg → Prop} : WPF (runF N m) args Q E = WP m (args.map some ++ List.replicate (N - args.length) none) (runQ args Q) (fun c d ρ => E c d (outsAt 0 args ρ)) := by
  unfold WPF runF WP runQ
  cases m (args.map some ++ List.replicate (N - args.length) none) with
  | none => rfl
  | some p =>
    obtain ⟨o, ρ1⟩ := p
    cases o with
    | exc c d => rfl
    | ok f =>
      cases f with
      | nx => rfl
      | bk => rfl
      | ct => rfl
      | ret rv =>
        dsimp only
        cases outOf ρ1 rv <;> rfl
/-- a while, by an invariant with a measure -/
theorem wp_while {c : M Bool} {body : M Fl} {Q : Fl → Sg → Prop} (I : Nat → Sg → Prop) {n : Nat} (h0 : I n ρ)
    (step : ∀ n ρ, I n ρ → WP c ρ (fun b ρ1 => if b = true then WP body ρ1 (lpQ (fun ρ2 => ∃ k, k < n ∧ I k ρ2) Q) E else Q .nx ρ1) E) : WP (m_while c body) ρ Q E := by
  have go : ∀ (n : Nat) (ρ : Sg), I n ρ → ∃ k r, whileN c body k ρ = some r ∧ (match r with
    | (.ok a, ρ1) => Q a ρ1
    | (.exc e d, ρ1) => E e d ρ1) := by
    intro n
    induction n using Nat.strongRecOn with
    | _ n ih =>
      intro ρ i
      have s := step n ρ i
      unfold WP at s
      cases e1 : c ρ with
      | none => rw [e1] at s; exact s.elim
      | some p =>
        obtain ⟨o, ρ1⟩ := p
        rw [e1] at s
        cases o with
        | exc x d =>
          refine ⟨1, (.exc x d, ρ1), ?_, s⟩
          unfold whileN
          rw [e1]
        | ok b =>
          cases b with
          | false =>
            refine ⟨1, (.ok .nx, ρ1), ?_, s⟩
            unfold whileN
            rw [e1]
          | true =>
            dsimp only at s
            rw [if_pos rfl] at s
            cases e2 : body ρ1 with
            | none => rw [e2] at s; exact s.elim
            | some p =>
              obtain ⟨o, ρ2⟩ := p
              rw [e2] at s
              cases o with
              | exc x d =>
                refine ⟨1, (.exc x d, ρ2), ?_, s⟩
                unfold whileN
                rw [e1]
                dsimp only
                rw [e2]
              | ok f =>
                cases f with
                | nx =>
                  obtain ⟨k, hk, ik⟩ := s
                  obtain ⟨j, r, e3, q⟩ := ih k hk ρ2 ik
                  refine ⟨j + 1, r, ?_, q⟩
                  unfold whileN
                  rw [e1]
                  dsimp only
                  rw [e2]
                  exact e3
                | ct =>
                  obtain ⟨k, hk, ik⟩ := s
                  obtain ⟨j, r, e3, q⟩ := ih k hk ρ2 ik
                  refine ⟨j + 1, r, ?_, q⟩
                  unfold whileN
                  rw [e1]
                  dsimp only
                  rw [e2]
                  exact e3
                | bk =>
                  refine ⟨1, (.ok .nx, ρ2), ?_, s⟩
                  unfold whileN
                  rw [e1]
                  dsimp only
                  rw [e2]
                | ret r =>
                  refine ⟨1, (.ok (.ret r), ρ2), ?_, s⟩
                  unfold whileN
                  rw [e1]
                  dsimp only
                  rw [e2]
  obtain ⟨k, r, e, q⟩ := go n ρ h0
  unfold WP
  rw [m_while_eq e]
  obtain ⟨o, ρ1⟩ := r
  cases o <;> exact q
/-- a comprehension -/
theorem wp_comp {vs : List Nat} {mi : M (List Rv)} {g : Tg} {test : M Bool} {elt : M Rv} {Q : Rv → Sg → Prop} : WP (m_comp vs mi g test elt) ρ Q E = WP mi ρ (fun items ρ1 => vs.all (plainAt ρ1) = true ∧ optS (lcLoop vs g test elt items [] (wipeS ρ1 vs)) fun z => Q (.t (.lst z.1)) (backS ρ1 z.2 vs)) E := by
  unfold m_comp
  rw [wp_bind]
  congr 1; funext items ρ1
  unfold WP
  dsimp only
  by_cases h : vs.all (plainAt ρ1) = true
  · rw [if_pos h]
    cases lcLoop vs g test elt items [] (wipeS ρ1 vs) with
    | none => exact propext ⟨False.elim, fun q => q.2⟩
    | some z =>
      obtain ⟨a, b⟩ := z
      exact propext ⟨fun q => ⟨h, q⟩, fun q => q.2⟩
  · rw [if_neg h]
    exact propext ⟨False.elim, fun q => h q.1⟩
def NoX : ExQ := fun _ _ _ => False
theorem lc_loop {vs : List Nat} {g : Tg} {test : M Bool} {elt : M Rv} {items : List Rv} {P : List T × Sg → Prop} (I : Nat → List T → Sg → Prop) (hl : items.length ≤ line) (h0 : I 0 [] ρ)
    (step : ∀ i (h : i < items.length) acc ρ, acc.length ≤ i → I i acc ρ → optS (g items[i] ρ) fun ρ1 => WP test ρ1 (fun b ρ2 => if b = true then WP elt ρ2 (fun r ρ3 => optS (rvT r) fun t => I (i + 1) (acc ++ [t]) (wipeS ρ3 vs)) NoX else I (i + 1) acc (wipeS ρ2 vs)) NoX)
    (fin : ∀ acc ρ, I items.length acc ρ → P (acc, ρ)) : optS (lcLoop vs g test elt items [] ρ) P := by
  have go : ∀ (l : List Rv) (k : Nat) (acc : List T) (ρ : Sg), k ≤ items.length → items.drop k = l → acc.length ≤ k → I k acc ρ → optS (lcLoop vs g test elt l acc ρ) P := by
    intro l
    induction l with
    | nil =>
      intro k acc ρ hk e ha i
      have h2 : items.length ≤ k := by
        have := congrArg List.length e
        rw [List.length_drop] at this
        simp only [List.length_nil] at this
        omega
      have : k = items.length := by omega
      exact fin acc ρ (this ▸ i)
    | cons x xs ih =>
      intro k acc ρ _ e ha i
      have hk : k < items.length := by
        have := congrArg List.length e
        rw [List.length_drop] at this
        simp only [List.length_cons] at this
        omega
      have ex : items[k] = x := by
        have := List.drop_eq_getElem_cons hk
        rw [e] at this
        exact (List.cons.inj this).1.symm
      have exs : items.drop (k + 1) = xs := by
        have := List.drop_eq_getElem_cons hk
        rw [e] at this
        exact (List.cons.inj this).2.symm
      have s := step k hk acc ρ ha i
      rw [ex] at s
      unfold lcLoop
      cases eg : g x ρ with
      | none => rw [eg] at s; exact s
      | some ρ1 =>
        rw [eg] at s
        dsimp only [optS] at s
        unfold WP at s
        dsimp only
        cases et : test ρ1 with
        | none => rw [et] at s; exact s.elim
        | some p =>
          obtain ⟨o, ρ2⟩ := p
          rw [et] at s
          cases o with
          | exc c d => exact s.elim
          | ok b =>
            cases b with
            | false =>
              exact ih (k + 1) acc _ hk exs (by omega) s
            | true =>
              dsimp only at s ⊢
              rw [if_pos rfl] at s
              cases ee : elt ρ2 with
              | none => rw [ee] at s; exact s.elim
              | some p =>
                obtain ⟨o, ρ3⟩ := p
                rw [ee] at s
                cases o with
                | exc c d => exact s.elim
                | ok r =>
                  cases r with
                  | t t =>
                    dsimp only
                    rw [if_pos (by omega)]
                    exact ih (k + 1) _ _ hk exs (by rw [List.length_append, List.length_singleton]; omega) s
                  | _ => exact s.elim
  exact go items 0 [] ρ (Nat.zero_le _) rfl (Nat.le_refl _) h0
end
/-! ### lists of ints -/
def J (ns : List Int) : List D := ns.map .int
def L (ns : List Int) : List T := ns.map fun n => .v (.int n)
section
variable {ns ms : List Int} {i : Int} {ρ : Sg}
theorem allV_L : allV (L ns) = some (J ns) := by
  induction ns with
  | nil => rfl
  | cons n ns ih =>
    show (allV (L ns)).map _ = _
    rw [ih]; rfl
theorem toDs_L : T.toDs (L ns) = J ns := by
  induction ns with
  | nil => rfl
  | cons n ns ih =>
    show (T.toD (.v (.int n))) :: T.toDs (L ns) = _
    rw [ih]; rfl
theorem L_len : (L ns).length = ns.length := List.length_map ..
theorem J_len : (J ns).length = ns.length := List.length_map ..
theorem J_v : (J ns).map T.v = L ns := by unfold J L; rw [List.map_map]; rfl
theorem J_app : J ns ++ J ms = J (ns ++ ms) := by unfold J; rw [List.map_append]
theorem L_app : L ns ++ L ms = L (ns ++ ms) := by unfold L; rw [List.map_append]
theorem L_snoc : L ns ++ [.v (.int i)] = L (ns ++ [i]) := by unfold L; rw [List.map_append]; rfl
theorem L_set {n : Nat} : (L ns).set n (.v (.int i)) = L (ns.set n i) := by unfold L; rw [List.map_set]
theorem L_nil : L [] = [] := rfl
theorem J_nil : J [] = [] := rfl
theorem L_cons {n : Int} : L (n :: ns) = .v (.int n) :: L ns := rfl
theorem J_cons {n : Int} : J (n :: ns) = .int n :: J ns := rfl
theorem J_get {n : Nat} : (J ns)[n]? = (ns[n]?).map .int := by unfold J; rw [List.getElem?_map]
theorem L_get {n : Nat} : (L ns)[n]? = (ns[n]?).map fun k => .v (.int k) := by unfold L; rw [List.getElem?_map]
theorem J_take {n : Nat} : (J ns).take n = J (ns.take n) := by unfold J; rw [List.map_take]
theorem J_drop {n : Nat} : (J ns).drop n = J (ns.drop n) := by unfold J; rw [List.map_drop]
/-- where x[i] looks -/
theorem ixN_nn {n : Nat} {i : Int} (h0 : 0 ≤ i) (h : i < n) : ixN n i = some i.toNat := by
  unfold ixN
  rw [if_pos h0, if_pos h]
theorem atI_J {i : Int} (h0 : 0 ≤ i) (h : i < ns.length) : atI (J ns) i = some (.int (ns[i.toNat]'(by omega))) := by
  unfold atI
  rw [J_len, ixN_nn h0 h]
  show (J ns)[i.toNat]? = _
  rw [J_get, List.getElem?_eq_getElem (by omega)]; rfl
theorem atI_L {i : Int} (h0 : 0 ≤ i) (h : i < ns.length) : atI (L ns) i = some (.v (.int (ns[i.toNat]'(by omega)))) := by
  unfold atI
  rw [L_len, ixN_nn h0 h]
  show (L ns)[i.toNat]? = _
  rw [L_get, List.getElem?_eq_getElem (by omega)]; rfl
theorem toPys_J : toPys (J ns) = some (ns.map PyData.int) := by
  induction ns with
  | nil => rfl
  | cons n ns ih =>
    rw [J_cons, toPys]
    rw [ih]; rfl
theorem toPy_J : toPy (.lst (J ns)) = some (.list (ns.map PyData.int)) := by
  rw [toPy, toPys_J]; rfl
end
end W3

/-! C16: the plain side: what the operations give. -/
namespace W3
open PySem PySem.Spec L2
theorem iop_ii {C : Int → Int → Prop} [∀ i j, Decidable (C i j)] {g : Int → Int → Int} {i j : Int} {P : D → Prop} : optS (iop C g (.int i) (.int j)) P = (C i j ∧ P (.int (g i j))) := by
  unfold iop
  exact optS_ite
theorem icmp_ii {g : Int → Int → Bool} {i j : Int} {P : D → Prop} : optS (icmp g (.int i) (.int j)) P = P (.bl (g i j)) := rfl
theorem rvQ_v {d : D} {P : D → Prop} : rvQ (.t (.v d)) P = P d := rfl
theorem bolQ_v {b : Bool} {P : Bool → Prop} : bolQ (.t (.v (.bl b))) P = P b := rfl
theorem intQ_v {i : Int} {P : Int → Prop} : intQ (.t (.v (.int i))) P = P i := rfl
theorem varS_v {d : D} {i : Nat} {P : Rv → Prop} : varS (some (some (.t (.v d)))) i P = P (.t (.v d)) := rfl
theorem varS_l {ts : List T} {i : Nat} {P : Rv → Prop} : varS (some (some (.t (.lst ts)))) i P = P (.pk i) := rfl
theorem varS_tu {ts : List T} {i : Nat} {P : Rv → Prop} : varS (some (some (.t (.tup ts)))) i P = P (.pk i) := rfl
theorem varS_io {t : T} {i : Nat} {P : Rv → Prop} : varS (some (some (.io t))) i P = P (.pk i) := rfl
theorem varS_lent {d : D} {i : Nat} {P : Rv → Prop} : varS (some (some (.lent d))) i P = P (lv d) := rfl
theorem lv_lst {ds : List D} : lv (.lst ds) = .lent (.lst ds) := rfl
theorem lv_tup {ds : List D} : lv (.tup ds) = .lent (.tup ds) := rfl
theorem lv_int {i : Int} : lv (.int i) = .t (.v (.int i)) := rfl
theorem lv_bl {i : Bool} : lv (.bl i) = .t (.v (.bl i)) := rfl
theorem mvS_t {t : T} {P : Rv → Prop} : mvS (some (some (.t t))) P = P (.t t) := rfl
theorem fzR_v {d : D} : fzR (.t (.v d)) = .t (.v d) := rfl
theorem fzR_lst {ts : List T} : fzR (.t (.lst ts)) = .t (.v (.lst (T.toDs ts))) := rfl
theorem fzR_tup {ts : List T} : fzR (.t (.tup ts)) = .t (.v (.tup (T.toDs ts))) := rfl
theorem fzR_lent {d : D} : fzR (.lent d) = .lent d := rfl
theorem fzR_pk {i : Nat} : fzR (.pk i) = .pk i := rfl
theorem toDs_nil : T.toDs [] = [] := rfl
theorem toDs_cons {t : T} {ts : List T} : T.toDs (t :: ts) = t.toD :: T.toDs ts := rfl
theorem toD_v {d : D} : (T.v d).toD = d := rfl
theorem toD_lst {ts : List T} : (T.lst ts).toD = .lst (T.toDs ts) := rfl
theorem toD_tup {ts : List T} : (T.tup ts).toD = .tup (T.toDs ts) := rfl
section
variable {ρ : Sg} {E : ExQ}
theorem setSl_t {i : Nat} {t : T} {P : Sg → Prop} : optS (setSl i (.t t) ρ) P = (match ρ[i]? with
  | none => False
  | some (some (.io _)) => False
  | some _ => P (ρ.set i (some (.t t)))) := by
  unfold setSl
  cases ρ[i]? with
  | none => rfl
  | some o => cases o with
    | none => rfl
    | some s => cases s <;> rfl
theorem setSl_lent {i : Nat} {d : D} {P : Sg → Prop} : optS (setSl i (.lent d) ρ) P = (match ρ[i]? with
  | none => False
  | some (some (.io _)) => False
  | some _ => P (ρ.set i (some (.lent d)))) := by
  unfold setSl
  cases ρ[i]? with
  | none => rfl
  | some o => cases o with
    | none => rfl
    | some s => cases s <;> rfl
/-! views -/
theorem viewR_t {t : T} : viewR ρ (.t t) = some t.toD := rfl
theorem viewR_lent {d : D} : viewR ρ (.lent d) = some d := rfl
def slD : Option (Option Sl) → Option D
  | some (some (.t t)) => some t.toD
  | some (some (.io t)) => some t.toD
  | _ => none
theorem viewR_pk {i : Nat} : viewR ρ (.pk i) = slD (ρ[i]?) := by
  first
    | rfl
    | (unfold viewR slD
       dsimp only
       cases ρ[i]? with
       | none => rfl
       | some o => cases o with
         | none => rfl
         | some s => cases s <;> rfl)
theorem slD_t {t : T} : slD (some (some (.t t))) = some t.toD := rfl
theorem slD_io {t : T} : slD (some (some (.io t))) = some t.toD := rfl
theorem viewRs_nil : viewRs ρ [] = some [] := rfl
theorem viewRs_cons {r : Rv} {rs : List Rv} {P : List D → Prop} : optS (viewRs ρ (r :: rs)) P = optS (viewR ρ r) fun d => optS (viewRs ρ rs) fun ds => P (d :: ds) := by
  rw [viewRs]
  cases viewR ρ r with
  | none => rfl
  | some d => cases viewRs ρ rs <;> rfl
theorem rvTs_nil : rvTs [] = some [] := rfl
theorem rvTs_t {t : T} {rs : List Rv} {P : List T → Prop} : optS (rvTs (.t t :: rs)) P = optS (rvTs rs) fun ts => P (t :: ts) := by
  rw [rvTs]
  show optS (match some t, rvTs rs with | some t, some ts => some (t :: ts) | _, _ => none) P = _
  cases rvTs rs <;> rfl
theorem rvT_q {t : T} : rvT (.t t) = some t := rfl
/-! items -/
theorem itemsK_fl {ds : List D} : itemsK ρ (.t (.v (.lst ds))) = some (true, ds) := rfl
theorem itemsK_ft {ds : List D} : itemsK ρ (.t (.v (.tup ds))) = some (false, ds) := rfl
theorem itemsK_L {ns : List Int} : itemsK ρ (.t (.lst (L ns))) = some (true, J ns) := by
  unfold itemsK
  dsimp only
  rw [allV_L]; rfl
theorem flat_J {ns : List Int} : (J ns).all flat = true := by
  induction ns with
  | nil => rfl
  | cons n ns ih => rw [J_cons, List.all_cons, ih]; rfl
theorem itemsK_lent {ns : List Int} : itemsK ρ (.lent (.lst (J ns))) = some (true, J ns) := by
  unfold itemsK
  dsimp only
  rw [flat_J]; rfl
theorem itemsK_pk {i : Nat} {ns : List Int} (h : ρ[i]? = some (some (.t (.lst (L ns)))) ∨ ρ[i]? = some (some (.io (.lst (L ns))))) : itemsK ρ (.pk i) = some (true, J ns) := by
  unfold itemsK
  dsimp only
  rcases h with h | h <;> (rw [h]; dsimp only; rw [allV_L]; rfl)
theorem itemsR_of {r : Rv} {b : Bool} {ds : List D} (h : itemsK ρ r = some (b, ds)) : itemsR ρ r = some ds := by unfold itemsR; rw [h]; rfl
theorem itemsL_of {r : Rv} {ds : List D} (h : itemsK ρ r = some (true, ds)) : itemsL ρ r = some ds := by unfold itemsL; rw [h]
/-- what lies at a slot, as the items of a list of ints -/
def slI : Option (Option Sl) → Option (List D)
  | some (some (.t (.lst ts))) => allV ts
  | some (some (.io (.lst ts))) => allV ts
  | _ => none
theorem itemsR_pk {i : Nat} : itemsR ρ (.pk i) = slI (ρ[i]?) := by
  unfold itemsR itemsK slI
  dsimp only
  cases ρ[i]? with
  | none => rfl
  | some o => cases o with
    | none => rfl
    | some s => cases s with
      | t t => cases t with
        | lst ts => dsimp only; cases allV ts <;> rfl
        | _ => rfl
      | io t => cases t with
        | lst ts => dsimp only; cases allV ts <;> rfl
        | _ => rfl
      | _ => rfl
theorem itemsL_pk {i : Nat} : itemsL ρ (.pk i) = slI (ρ[i]?) := by
  unfold itemsL itemsK slI
  dsimp only
  cases ρ[i]? with
  | none => rfl
  | some o => cases o with
    | none => rfl
    | some s => cases s with
      | t t => cases t with
        | lst ts => dsimp only; cases allV ts <;> rfl
        | _ => rfl
      | io t => cases t with
        | lst ts => dsimp only; cases allV ts <;> rfl
        | _ => rfl
      | _ => rfl
theorem slI_t {ns : List Int} : slI (some (some (.t (.lst (L ns))))) = some (J ns) := allV_L
theorem slI_io {ns : List Int} : slI (some (some (.io (.lst (L ns))))) = some (J ns) := allV_L
theorem itemsR_fl {ds : List D} : itemsR ρ (.t (.v (.lst ds))) = some ds := rfl
theorem itemsL_fl {ds : List D} : itemsL ρ (.t (.v (.lst ds))) = some ds := rfl
theorem itemsR_lent {ns : List Int} : itemsR ρ (.lent (.lst (J ns))) = some (J ns) := itemsR_of itemsK_lent
theorem itemsL_lent {ns : List Int} : itemsL ρ (.lent (.lst (J ns))) = some (J ns) := itemsL_of itemsK_lent
theorem itemsR_L {ns : List Int} : itemsR ρ (.t (.lst (L ns))) = some (J ns) := itemsR_of itemsK_L
theorem itemsL_L {ns : List Int} : itemsL ρ (.t (.lst (L ns))) = some (J ns) := itemsL_of itemsK_L
/-! x[i] -/
def ixS (o : Option (Option Sl)) (i : Int) : Option Rv := match o with
  | some (some (.t (.lst ts))) => (atI ts i).bind fun t => match t with
    | .v d => some (.t (.v d))
    | _ => none
  | some (some (.io (.lst ts))) => (atI ts i).bind fun t => match t with
    | .v d => some (.t (.v d))
    | _ => none
  | _ => none
theorem ixR_pk {k : Nat} {i : Int} : ixR ρ (.pk k) i = ixS (ρ[k]?) i := by
  first
    | rfl
    | (unfold ixR ixS
       dsimp only
       cases ρ[k]? with
       | none => rfl
       | some o => cases o with
         | none => rfl
         | some s => cases s with
           | t t => cases t <;> rfl
           | io t => cases t <;> rfl
           | _ => rfl)
theorem ixR_fl {ds : List D} {i : Int} {P : Rv → Prop} : optS (ixR ρ (.t (.v (.lst ds))) i) P = optS (atI ds i) fun d => P (.t (.v d)) := optS_map
theorem ixR_ft {ds : List D} {i : Int} {P : Rv → Prop} : optS (ixR ρ (.t (.v (.tup ds))) i) P = optS (atI ds i) fun d => P (.t (.v d)) := optS_map
theorem ixR_ll {ds : List D} {i : Int} {P : Rv → Prop} : optS (ixR ρ (.lent (.lst ds)) i) P = optS (atI ds i) fun d => P (lv d) := optS_map
theorem ixS_t {ts : List T} {i : Int} {P : Rv → Prop} : optS (ixS (some (some (.t (.lst ts)))) i) P = optS (atI ts i) fun t => match t with
  | .v d => P (.t (.v d))
  | _ => False := by
  unfold ixS
  dsimp only
  rw [optS_bind]
  congr 1; funext t
  cases t <;> rfl
theorem ixS_io {ts : List T} {i : Int} {P : Rv → Prop} : optS (ixS (some (some (.io (.lst ts)))) i) P = optS (atI ts i) fun t => match t with
  | .v d => P (.t (.v d))
  | _ => False := by
  unfold ixS
  dsimp only
  rw [optS_bind]
  congr 1; funext t
  cases t <;> rfl
/-- x[i] of a list of ints: i within -/
theorem atI_Jq {ns : List Int} {i : Int} {P : D → Prop} : optS (atI (J ns) i) P = optS (atI ns i) fun n => P (.int n) := by
  unfold atI
  rw [J_len, optS_bind, optS_bind]
  congr 1; funext n
  rw [J_get, optS_map]
theorem atI_Lq {ns : List Int} {i : Int} {P : T → Prop} : optS (atI (L ns) i) P = optS (atI ns i) fun n => P (.v (.int n)) := by
  unfold atI
  rw [L_len, optS_bind, optS_bind]
  congr 1; funext n
  rw [L_get, optS_map]
theorem atI_0 {α : Type} {a : α} {l : List α} {P : α → Prop} : optS (atI (a :: l) 0) P = P a := by
  unfold atI ixN
  rw [if_pos (by omega), if_pos (by rw [List.length_cons]; omega)]; rfl
theorem atI_1 {α : Type} {a b : α} {l : List α} {P : α → Prop} : optS (atI (a :: b :: l) 1) P = P b := by
  unfold atI ixN
  rw [if_pos (by omega), if_pos (by rw [List.length_cons, List.length_cons]; omega)]; rfl
theorem atI_2 {α : Type} {a b c : α} {l : List α} {P : α → Prop} : optS (atI (a :: b :: c :: l) 2) P = P c := by
  unfold atI ixN
  rw [if_pos (by omega), if_pos (by rw [List.length_cons, List.length_cons, List.length_cons]; omega)]; rfl
theorem atI_in {α : Type} {l : List α} {i : Int} {P : α → Prop} (h0 : 0 ≤ i) (h : i < l.length) : optS (atI l i) P = P (l[i.toNat]'(by omega)) := by
  unfold atI
  rw [ixN_nn h0 h]
  show optS (l[i.toNat]?) P = _
  rw [List.getElem?_eq_getElem (by omega)]; rfl
/-! lists changed -/
theorem lstAt_q {k : Nat} {P : List T → Prop} : optS (lstAt ρ k) P = (match ρ[k]? with
  | some (some (.t (.lst ts))) => P ts
  | some (some (.io (.lst ts))) => P ts
  | _ => False) := by
  unfold lstAt
  cases ρ[k]? with
  | none => rfl
  | some o => cases o with
    | none => rfl
    | some s => cases s with
      | t t => cases t <;> rfl
      | io t => cases t <;> rfl
      | _ => rfl
theorem opApp_q {ts : List T} {t : T} {P : T × List T → Prop} : optS (opApp ts [t]) P = (ts.length < line ∧ P (.v .non, ts ++ [t])) := optS_ite
end
/-! built-ins -/
theorem fLen_l {ds : List D} : fLen [.lst ds] = some (.int ds.length) := rfl
theorem fLen_t {ds : List D} : fLen [.tup ds] = some (.int ds.length) := rfl
theorem fMax_ii {i j : Int} : fMax2 [.int i, .int j] = some (.int (max i j)) := by
  show some (D.int (if j > i then j else i)) = _
  congr 2
  omega
theorem fMin_ii {i j : Int} : fMin2 [.int i, .int j] = some (.int (min i j)) := by
  show some (D.int (if j < i then j else i)) = _
  congr 2
  omega
theorem fInt_i {i : Int} : fInt [.int i] = some (.int i) := rfl
theorem isi_ll {ds : List D} : fIsi [.lst ds, .ty "list"] = some (.bl true) := by
  show (kitB "list" "list").map D.bl = _
  have : kitB "list" "list" = some true := by decide +kernel
  rw [this]; rfl
theorem isi_ii {i : Int} : fIsi [.int i, .ty "int"] = some (.bl true) := by
  show (kitB "int" "int").map D.bl = _
  have : kitB "int" "int" = some true := by decide +kernel
  rw [this]; rfl
theorem isi_ib {i : Int} : fIsi [.int i, .ty "bool"] = some (.bl false) := by
  show (kitB "int" "bool").map D.bl = _
  have : kitB "int" "bool" = some false := by decide +kernel
  rw [this]; rfl
theorem isi_bb {i : Bool} : fIsi [.bl i, .ty "bool"] = some (.bl true) := by
  show (kitB "bool" "bool").map D.bl = _
  have : kitB "bool" "bool" = some true := by decide +kernel
  rw [this]; rfl
/-! equality -/
theorem lay_ints (ns : List Int) : PyData.canLayAll0 (ns.map PyData.int) = true := by
  induction ns with
  | nil => rfl
  | cons n ns ih => rw [List.map_cons, PyData.canLayAll0, ih]; rfl
theorem dep_ints (ns : List Int) : PyData.depthAll (ns.map PyData.int) = 0 := by
  induction ns with
  | nil => rfl
  | cons n ns ih => rw [List.map_cons, PyData.depthAll, ih]; rfl
theorem eqv_ints : ∀ ns ms : List Int, PyData.eqvAll (ns.map PyData.int) (ms.map PyData.int) = decide (ns = ms)
  | [], [] => rfl
  | [], _ :: _ => rfl
  | _ :: _, [] => rfl
  | n :: ns, m :: ms => by
    rw [List.map_cons, List.map_cons, PyData.eqvAll, eqv_ints ns ms]
    show ((n == m) && decide (ns = ms)) = _
    by_cases h : n = m <;> by_cases h2 : ns = ms <;> simp [h, h2]
theorem shaped_J (ns : List Int) : SeqAt.shaped (.list (ns.map PyData.int)) = true := by
  show (PyData.canLayAll0 (ns.map PyData.int) && decide (PyData.depthAll (ns.map PyData.int) + 1 ≤ 64)) = true
  rw [lay_ints, dep_ints]; rfl
theorem pyEq_J {ns ms : List Int} : pyEq (.lst (J ns)) (.lst (J ms)) = some (decide (ns = ms)) := by
  unfold pyEq
  rw [toPy_J, toPy_J]
  dsimp only
  rw [shaped_J, shaped_J]
  show some (PyData.eqvAll _ _) = _
  rw [eqv_ints]
theorem pyEq_Jn {ns : List Int} : pyEq (.lst (J ns)) (.lst []) = some (decide (ns = [])) := pyEq_J (ms := [])
theorem pyEq_nJ {ns : List Int} : pyEq (.lst []) (.lst (J ns)) = some (decide ([] = ns)) := pyEq_J (ns := [])
theorem pyEq_ii {i j : Int} : pyEq (.int i) (.int j) = some (i == j) := rfl
theorem pyEq_nn : pyEq .non .non = some true := rfl
theorem pyEq_ni {j : Int} : pyEq .non (.int j) = some false := rfl
theorem pyEq_in {j : Int} : pyEq (.int j) .non = some false := rfl
/-- two lists of lists of ints -/
theorem pyEq_JJ2 {a b c d : List Int} : pyEq (.lst [.lst (J a), .lst (J b)]) (.lst [.lst (J c), .lst (J d)]) = some (decide (a = c) && decide (b = d)) := by
  unfold pyEq
  have e : ∀ a b : List Int, toPy (.lst [.lst (J a), .lst (J b)]) = some (.list [.list (a.map PyData.int), .list (b.map PyData.int)]) := fun a b => by
    rw [toPy, toPys, toPys, toPys, toPy_J, toPy_J]; rfl
  rw [e, e]
  have s : ∀ a b : List Int, SeqAt.shaped (.list [.list (a.map PyData.int), .list (b.map PyData.int)]) = true := fun a b => by
    unfold SeqAt.shaped
    simp [PyData.canLay0, PyData.canLayAll0, PyData.depth, PyData.depthAll, lay_ints, dep_ints]
  dsimp only
  rw [s, s]
  show some (PyData.eqvAll (a.map PyData.int) (c.map PyData.int) && (PyData.eqvAll (b.map PyData.int) (d.map PyData.int) && true)) = _
  rw [eqv_ints, eqv_ints, Bool.and_true]
theorem fEq_q {d e : D} {P : D → Prop} : optS (fEq d e) P = optS (pyEq d e) fun b => P (.bl b) := optS_map
theorem fNe_q {d e : D} {P : D → Prop} : optS (fNe d e) P = optS (pyEq d e) fun b => P (.bl (!b)) := optS_map
end W3

/-! C17: a name read and frozen; an own list lent for the time of an expression. -/
namespace W3
open PySem PySem.Spec L2
/-- a name whose tree is frozen where it is read -/
def m_vf (i : Nat) : M Rv := fun ρ => match ρ[i]? with
  | some (some (.t t)) => some (.ok (.t (.v t.toD)), ρ.set i (some (.t (.v t.toD))))
  | some (some (.lent d)) => some (.ok (lv d), ρ)
  | _ => none
/-- what was lent before stands as before -/
def relend (ρ ρ1 : Sg) : Sg := List.zipWith (fun o0 o1 => match o1 with
  | some (.lent _) => (match o0 with
    | some (.lent d) => some (.lent d)
    | _ => none)
  | o => o) ρ ρ1
/-- the tree at slot k lent while m runs -/
def m_lend (k : Nat) (m : M Rv) : M Rv := fun ρ => match ρ[k]? with
  | some (some (.t t)) => match m (ρ.set k (some (.lent t.toD))) with
    | some (.ok (.t r), ρ1) => some (.ok (.t r), (relend ρ ρ1).set k (some (.t t)))
    | some (.exc c d, ρ1) => some (.exc c d, (relend ρ ρ1).set k (some (.t t)))
    | _ => none
  | some (some (.io t)) => match m (ρ.set k (some (.lent t.toD))) with
    | some (.ok (.t r), ρ1) => some (.ok (.t r), (relend ρ ρ1).set k (some (.io t)))
    | some (.exc c d, ρ1) => some (.exc c d, (relend ρ ρ1).set k (some (.io t)))
    | _ => none
  | some (some (.lent _)) => m ρ
  | _ => none
section
variable {cl : Str → Addr} {W : WX}
theorem sim_vf {i : Nat} : Sim cl (RelRv cl) W (tVar i) (m_vf i) := fun F L A ρ σ H r => by
  intro o ρ' em Q hQ
  unfold m_vf at em
  split at em
  · rename_i t q
    cases em
    obtain ⟨v, e1, s⟩ := r.sl i _ q
    have hi : i < ρ.length := (List.getElem?_eq_some_iff.mp q).1
    have hp : L.pn i = none := r.unpin fun t z => by rw [q] at z; cases z
    have r1 := r.drop i hp
    have hA : ∀ a, a ∈ A i → ¬ Own (setA A i []) a ∧ H a ≠ none := fun a m => ⟨fun z => by
      rcases own_setA z with z | ⟨j, hn, hj⟩
      · cases z
      · exact r.dj j i a hn hj m, (r.ap a ⟨i, m⟩).2.2⟩
    have r2 := r1.more (C := fun a => a ∈ A i) hA
    have rv : RelD cl (fun a => F a ∨ a ∈ A i) H t.toD v := RelT.frz (fun a z => .inl z) t v (A i) (fun a m => .inr m) s
    have r3 := r2.put i (o := some (.t (.v t.toD))) (C := []) rfl (fun _ _ => rfl) (fun s' es _ => by
      cases es
      exact ⟨v, e1, .v rv⟩) List.nodup_nil (fun a m => nomatch m) (fun j a _ m => nomatch m) hp
    rw [List.set_set] at r3
    refine ⟨v, e1, hQ _ _ H ⟨fun a h => .inl h, fun a h => ?_, fun _ _ h _ _ => h, fun _ h => h, fun a h => ?_⟩ r3 v [] (rel_v rv) fun x m => nomatch m⟩
    · rcases h with h | h
      · exact .inl h
      · exact .inr (.inr (.inl ⟨i, h⟩))
    · rcases own_setA h with z | ⟨j, hn, hj⟩
      · cases z
      · rw [setA_ne hn] at hj
        exact .inl ⟨j, hj⟩
  · rename_i d q
    cases em
    obtain ⟨v, e1, s⟩ := r.sl i _ q
    exact ⟨v, e1, hQ F A H Ext.refl r v [] (lv_rel s) fun x m => nomatch m⟩
  · cases em
/-- lend: the state -/
theorem R.lend {F : Addr → Prop} {L : LL} {A : Nat → List Addr} {ρ : Sg} {σ : L2.St} {H : Hp} (r : R cl F L A ρ σ H) {k : Nat} {t : T} (q : ρ[k]? = some (some (.t t)) ∨ ρ[k]? = some (some (.io t))) :
    R cl F ⟨fun a => L a ∨ a ∈ A k, fun j => if j = k then none else L.pn j⟩ (setA A k []) (ρ.set k (some (.lent t.toD))) σ H := by
  have hk : k < ρ.length := by rcases q with q | q <;> exact (List.getElem?_eq_some_iff.mp q).1
  have hs : ∃ v, σ[k]? = some (some v) ∧ RelT cl F H t v (A k) := by rcases q with q | q <;> exact r.sl k _ q
  obtain ⟨v, e1, s⟩ := hs
  refine ⟨by rw [List.length_set]; exact r.len, fun j s' e => ?_, fun j => ?_, fun i j a n hi hj => ?_, fun a o => ?_, r.fd, fun a z => ?_, fun j v' e => ?_⟩
  · by_cases hj : j = k
    · subst hj
      rw [List.getElem?_set_self hk] at e
      cases e
      exact ⟨v, e1, RelT.frz (F' := Un2 F ⟨fun a => L a ∨ a ∈ A j, fun i => if i = j then none else L.pn i⟩) (fun a z => .inl z) t v (A j) (fun a m => .inr (.inr m)) s⟩
    · rw [List.getElem?_set_ne (Ne.symm hj)] at e
      obtain ⟨w, e2, z⟩ := r.sl j s' e
      refine ⟨w, e2, ?_⟩
      rw [setA_ne hj]
      cases s' with
      | t _ => exact z
      | io _ => exact z
      | lent d => exact RelD.keep (fun a z => z.imp_right .inl) (fun _ _ _ e => e) d w z
      | al _ _ => exact z
  · by_cases hj : j = k
    · rw [hj, setA_same]; exact List.nodup_nil
    · rw [setA_ne hj]; exact r.nd j
  · have ni : i ≠ k := fun z => by rw [z, setA_same] at hi; cases hi
    have nj : j ≠ k := fun z => by rw [z, setA_same] at hj; cases hj
    rw [setA_ne ni] at hi
    rw [setA_ne nj] at hj
    exact r.dj i j a n hi hj
  · rcases own_setA o with z | ⟨j, hn, hj⟩
    · cases z
    · have ap := r.ap a ⟨j, hj⟩
      exact ⟨ap.1, fun z => z.elim ap.2.1 fun z => r.dj j k a hn hj z, ap.2.2⟩
  · rcases z with z | z
    · exact r.ld a z
    · exact (r.ap a ⟨k, z⟩).2.2
  · have e : (if j = k then none else L.pn j) = some v' := e
    split at e
    · cases e
    · rename_i hj
      obtain ⟨⟨t', e2⟩, e3⟩ := r.pin j v' e
      exact ⟨⟨t', by rw [List.getElem?_set_ne (Ne.symm hj)]; exact e2⟩, e3⟩
/-- and back -/
theorem R.unlend {F F' : Addr → Prop} {L : LL} {A A' : Nat → List Addr} {ρ ρ' : Sg} {σ : L2.St} {H H' : Hp} (r : R cl F L A ρ σ H) {k : Nat} {t : T} {s0 : Sl} (hs0 : s0 = .t t ∨ s0 = .io t) (q : ρ[k]? = some (some s0))
    (x : Ext F (Own (setA A k [])) NoZ H F' (Own A') H') (r' : R cl F' ⟨fun a => L a ∨ a ∈ A k, fun j => if j = k then none else L.pn j⟩ A' ρ' σ H') : R cl F' L (setA A' k (A k)) ((relend ρ ρ').set k (some s0)) σ H' ∧ Ext F (Own A) NoZ H F' (Own (setA A' k (A k))) H' := by
  have hs : ∃ v, σ[k]? = some (some v) ∧ RelT cl F H t v (A k) := by rcases hs0 with e | e <;> (subst e; exact r.sl k _ q)
  obtain ⟨v, e1, s⟩ := hs
  have hno : ∀ a ∈ A k, ¬ Own (setA A k []) a := fun a m z => by
    rcases own_setA z with z | ⟨j, hn, hj⟩
    · cases z
    · exact r.dj j k a hn hj m
  have sub : ∀ a, Own (setA A k []) a → Own A a := fun a z => by
    rcases own_setA z with z | ⟨j, _, hj⟩
    · cases z
    · exact ⟨j, hj⟩
  have s' : RelT cl F' H' t v (A k) := RelT.keep x.f (fun a o f e => x.k a o e (fun z => (r.ap a (sub a z)).1 f) id) t v (A k) (fun a o m e => x.k a o e (hno a m) id) s
  have nF : ∀ a ∈ A k, ¬ F' a := fun a m f => by
    rcases x.nf a f with w | w | w | w
    · exact (r.ap a ⟨k, m⟩).1 w
    · exact (r.ap a ⟨k, m⟩).2.2 w
    · exact hno a m w
    · exact w
  have len0 : ρ.length = ρ'.length := r.len.trans r'.len.symm
  have rl : (relend ρ ρ').length = ρ.length := by
    unfold relend
    rw [List.length_zipWith, ← len0, Nat.min_self]
  have rg : ∀ j (hj : j < ρ.length), (relend ρ ρ')[j]? = some (match ρ'[j]'(by omega) with
    | some (.lent _) => (match ρ[j] with
      | some (.lent d) => some (.lent d)
      | _ => none)
    | o => o) := fun j hj => by
    unfold relend
    rw [List.getElem?_zipWith, List.getElem?_eq_getElem hj, List.getElem?_eq_getElem (by omega)]
  have nO : ∀ a ∈ A k, ¬ Own A' a := fun a m o => (r'.ap a o).2.1 (.inr m)
  refine ⟨⟨by rw [List.length_set, rl]; exact r.len, fun j s2 e => ?_, fun j => ?_, fun i j a n hi hj => ?_, fun a o => ?_, r'.fd, fun a z => r'.ld a (.inl z), fun j v' e => ?_⟩, ?_⟩
  · by_cases hj : j = k
    · subst hj
      have hl : j < (relend ρ ρ').length := by
        have := (List.getElem?_eq_some_iff.mp e).1
        rwa [List.length_set] at this
      rw [List.getElem?_set_self hl] at e
      cases e
      refine ⟨v, e1, ?_⟩
      rw [setA_same]
      rcases hs0 with e | e <;> (subst e; exact s')
    · rw [List.getElem?_set_ne (Ne.symm hj)] at e
      have hl : j < ρ.length := by
        have := (List.getElem?_eq_some_iff.mp e).1
        rwa [rl] at this
      rw [rg j hl] at e
      have e := Option.some.inj e
      rw [setA_ne hj]
      have g0 := List.getElem?_eq_getElem hl
      have g1 : ρ'[j]? = some (ρ'[j]'(by omega)) := List.getElem?_eq_getElem (by omega)
      generalize ρ'[j]'(by omega) = o1 at e g1
      generalize ρ[j] = o0 at e g0
      cases o1 with
      | none => cases e
      | some s1 =>
        obtain ⟨w, e2, z⟩ := r'.sl j s1 g1
        cases s1 with
        | t _ => cases e; exact ⟨w, e2, z⟩
        | io _ => cases e; exact ⟨w, e2, z⟩
        | al _ _ => exact z.elim
        | lent d =>
          dsimp only at e
          cases o0 with
          | none => cases e
          | some s0 =>
            cases s0 with
            | lent d0 =>
              cases e
              obtain ⟨w0, e3, z0⟩ := r.sl j _ g0
              exact ⟨w0, e3, RelD.keep (fun a z => z.imp_left (x.f a)) (fun a o f e => x.k a o e (fun z => f.elim (fun f => (r.ap a (sub a z)).1 f) fun f => (r.ap a (sub a z)).2.1 f) id) d0 w0 z0⟩
            | _ => cases e
  · by_cases hj : j = k
    · rw [hj, setA_same]; exact r.nd k
    · rw [setA_ne hj]; exact r'.nd j
  · by_cases ni : i = k
    · rw [ni, setA_same] at hi
      have nj : j ≠ k := fun z => n (ni.trans z.symm)
      rw [setA_ne nj] at hj
      exact nO a hi ⟨j, hj⟩
    · rw [setA_ne ni] at hi
      by_cases nj : j = k
      · rw [nj, setA_same] at hj
        exact nO a hj ⟨i, hi⟩
      · rw [setA_ne nj] at hj
        exact r'.dj i j a n hi hj
  · rcases own_setA o with z | ⟨j, hn, hj⟩
    · exact ⟨nF a z, (r.ap a ⟨k, z⟩).2.1, x.d a (r.ap a ⟨k, z⟩).2.2⟩
    · have ap := r'.ap a ⟨j, hj⟩
      exact ⟨ap.1, fun z => ap.2.1 (.inl z), ap.2.2⟩
  · by_cases hj : j = k
    · subst hj
      obtain ⟨⟨t', e2⟩, e3⟩ := r.pin j v' e
      rw [q] at e2
      cases e2
      refine ⟨⟨t', List.getElem?_set_self ?_⟩, e3⟩
      rw [rl]
      exact (List.getElem?_eq_some_iff.mp q).1
    · obtain ⟨⟨t', e2⟩, e3⟩ := r'.pin j v' (show (if j = k then none else L.pn j) = some v' by rw [if_neg hj]; exact e)
      refine ⟨⟨t', ?_⟩, e3⟩
      rw [List.getElem?_set_ne (Ne.symm hj)]
      have hl : j < ρ.length := by rw [len0]; exact (List.getElem?_eq_some_iff.mp e2).1
      rw [rg j hl]
      have g1 : ρ'[j]? = some (ρ'[j]'(by omega)) := List.getElem?_eq_getElem (by omega)
      rw [e2] at g1
      rw [← Option.some.inj g1]
  · refine ⟨x.f, fun a f => (x.nf a f).imp_right fun z => z.imp_right fun z => z.imp_left (sub a), fun a o e n z => x.k a o e (fun w => n (sub a w)) z, x.d, fun a o => ?_⟩
    rcases own_setA o with z | ⟨j, hn, hj⟩
    · exact .inl ⟨k, z⟩
    · rcases x.b a ⟨j, hj⟩ with w | w | w
      · exact .inl (sub a w)
      · exact .inr (.inl w)
      · exact w.elim
theorem sim_lend {k : Nat} {te : TE} {m : M Rv} (h : Sim cl (RelRv cl) W te m) : Sim cl (RelRv cl) W te (m_lend k m) := fun F L A ρ σ H r => by
  intro o ρ' em Q hQ
  have key : ∀ {t : T} {s0 : Sl}, (s0 = .t t ∨ s0 = .io t) → ρ[k]? = some (some s0) → (match m (ρ.set k (some (.lent t.toD))) with
    | some (.ok (.t r), ρ1) => some (Out.ok (Rv.t r), (relend ρ ρ1).set k (some s0))
    | some (.exc c d, ρ1) => some (.exc c d, (relend ρ ρ1).set k (some s0))
    | _ => none) = some (o, ρ') → te σ H Q := fun {t s0} hs0 q em => by
    have rl := r.lend (k := k) (t := t) (by rcases hs0 with e | e <;> (subst e; first | exact .inl q | exact .inr q))
    cases e1 : m (ρ.set k (some (.lent t.toD))) with
    | none => rw [e1] at em; cases em
    | some p =>
      obtain ⟨oa, ρ1⟩ := p
      rw [e1] at em
      refine h _ _ _ _ σ H rl _ _ e1 _ fun F' A' H' x r' => ?_
      obtain ⟨ru, xu⟩ := R.unlend r hs0 q x r'
      cases oa with
      | exc c d =>
        cases em
        exact hQ F' _ H' xu ru
      | ok rv =>
        cases rv with
        | lent d => cases em
        | pk i => cases em
        | t tr =>
          cases em
          intro v C hr hC
          obtain ⟨h1, h2, h3⟩ := hr
          refine hQ F' _ H' xu ru v C ⟨h1, h2, fun a m => ⟨(h3 a m).1, fun z => (h3 a m).2.1 (.inl z), fun z => ?_⟩⟩ fun a m => ?_
          · rcases own_setA z with z | ⟨j, _, hj⟩
            · exact (h3 a m).2.1 (.inr z)
            · exact (h3 a m).2.2 ⟨j, hj⟩
          · rcases hC a m with w | w | w
            · exact .inl w
            · rcases own_setA w with z | ⟨j, _, hj⟩
              · cases z
              · exact .inr (.inl ⟨j, hj⟩)
            · exact w.elim
  unfold m_lend at em
  split at em
  · rename_i t q
    exact key (.inl rfl) q em
  · rename_i t q
    exact key (.inr rfl) q em
  · exact h F L A ρ σ H r o ρ' em Q hQ
  · cases em
end
section
variable {ι : Type} {Xf : ι → Cx} {cl : Str → Addr} {W : WX} {e : Expr} {m : M Rv} {pos : Pos}
theorem pm_vf {i : Nat} {x : Str} (hN : ∀ j, (Xf j).N[i]? = some x := by intro _; rfl) (hv : ∀ j, Vis (Xf j).env.scope x := by intro _; first | exact Or.inl rfl | exact Or.inr (Or.inl rfl) | exact Or.inr (Or.inr rfl))
    (hd : (x == ("__debug__" : Str)) = false := by decide) (hcd : (x == ("__classdict__" : Str)) = false := by decide) : PM Xf cl W (.Name x pos) (m_vf i) := ⟨tVar i, fun j => pe_var (hN j) (hv j) hd hcd, sim_vf⟩
theorem pm_lend {k : Nat} (h : PM Xf cl W e m) : PM Xf cl W e (m_lend k m) := by
  obtain ⟨t, h1, h2⟩ := h
  exact ⟨t, h1, sim_lend h2⟩
/-- y = [..] on one line, whatever is done with the list -/
theorem pms_setLcG {i : Nat} {y : Str} {py spos : Pos} {elt tg iter : Expr} {ifs : List Expr} {scope : Scope} {own : List (Str × Nat)} {mI : M (List Rv)} {g : Tg} {S : List Nat} {test : M Bool} {me : M Rv} {fz : M Rv → M Rv} (hfz : ∀ {te : TE} {m : M Rv}, Sim cl (RelRv cl) W te m → Sim cl (RelRv cl) W te (fz m)) (hc : ∀ i, (Xf i).calm = true) (hN : ∀ i, (Xf i).N.Nodup)
    (hi : PMI Xf cl W tg iter mI) (ok : ∀ i, BlkOk (Xf i).N (Xf i).env.scope scope own) (hg : PMG (blkF Xf scope) cl tg g S) (ht : PMTs (blkF Xf scope) cl WNo ifs test) (he : PM (blkF Xf scope) cl WNo elt me)
    (hy : ∀ j, (Xf j).N[i]? = some y := by intro _; rfl) (hyl : ∀ j, (Xf j).env.scope.names.lookup y = some .local := by intro _; rfl)
    (hsw : ∀ j, swapsWith (.ListComp elt [⟨tg, iter, ifs, 0⟩] scope pos) (some (.Name y py)) spos.line (Xf j).env = pure true := by intro _; exact sw_true rfl rfl rfl (by decide +kernel)) (hS : ∀ j ∈ S, j ∈ own.map (·.2) := by decide)
    (hs : ∀ i x, foldedSetIterable iter (Xf i).env x = pure x := by intro _ _; rfl) : PMS Xf cl W (.Assign [.Name y py] (.ListComp elt [⟨tg, iter, ifs, 0⟩] scope pos) spos) (m_set i (fz (m_comp (own.map (·.2)) mI g test me))) := by
  obtain ⟨t, h1, h2⟩ := hi
  obtain ⟨u, g1, g2⟩ := hg
  obtain ⟨w, k1, k2⟩ := ht
  obtain ⟨yy, l1, l2⟩ := he
  exact ⟨tAsg (tLc t u w yy (own.map (·.2))) (gName i), fun j => ps_setLc (hc j) (hN j) (hy j) (hyl j) (hsw j) (h1 j) (ok j) (fun s H C cl fp => g1 (j, s, H, C, cl, fp)) (fun s H C cl fp => k1 (j, s, H, C, cl, fp)) (fun s H C cl fp => l1 (j, s, H, C, cl, fp)) (hs j), sim_asg (hfz (sim_comp h2 g2 hS k2 l2)) simG_nm⟩
end
/-! ### the plain side -/
section
variable {ρ : Sg} {E : ExQ}
theorem wp_vf {i : Nat} {Q : Rv → Sg → Prop} : WP (m_vf i) ρ Q E = (match ρ[i]? with
  | some (some (.t t)) => Q (.t (.v t.toD)) (ρ.set i (some (.t (.v t.toD))))
  | some (some (.lent d)) => Q (lv d) ρ
  | _ => False) := by
  unfold WP m_vf
  cases ρ[i]? with
  | none => rfl
  | some o => cases o with
    | none => rfl
    | some x => cases x <;> rfl
def ldQ (P : Rv → Prop) (r : Rv) : Prop := match r with
  | .t t => P (.t t)
  | _ => False
theorem ldQ_t {P : Rv → Prop} {t : T} : ldQ P (.t t) = P (.t t) := rfl
theorem wp_lend {k : Nat} {m : M Rv} {Q : Rv → Sg → Prop} : WP (m_lend k m) ρ Q E = (match ρ[k]? with
  | some (some (.t t)) => WP m (ρ.set k (some (.lent t.toD))) (fun r ρ1 => ldQ (fun r => Q r ((relend ρ ρ1).set k (some (.t t)))) r) (fun c d ρ1 => E c d ((relend ρ ρ1).set k (some (.t t))))
  | some (some (.io t)) => WP m (ρ.set k (some (.lent t.toD))) (fun r ρ1 => ldQ (fun r => Q r ((relend ρ ρ1).set k (some (.io t)))) r) (fun c d ρ1 => E c d ((relend ρ ρ1).set k (some (.io t))))
  | some (some (.lent _)) => WP m ρ Q E
  | _ => False) := by
  unfold m_lend
  cases h : ρ[k]? with
  | none => unfold WP; dsimp only; rw [h]
  | some o => cases o with
    | none => unfold WP; dsimp only; rw [h]
    | some x => cases x with
      | lent d => unfold WP; dsimp only; rw [h]
      | al _ _ => unfold WP; dsimp only; rw [h]
      | t t =>
        unfold WP
        dsimp only
        rw [h]
        dsimp only
        cases m (ρ.set k (some (.lent t.toD))) with
        | none => rfl
        | some p =>
          obtain ⟨o, ρ1⟩ := p
          cases o with
          | exc c d => rfl
          | ok r => cases r <;> rfl
      | io t =>
        unfold WP
        dsimp only
        rw [h]
        dsimp only
        cases m (ρ.set k (some (.lent t.toD))) with
        | none => rfl
        | some p =>
          obtain ⟨o, ρ1⟩ := p
          cases o with
          | exc c d => rfl
          | ok r => cases r <;> rfl
theorem iterL_fl {ds : List D} : iterL (.t (.v (.lst ds))) = some (ds.map fun d => .t (.v d)) := rfl
theorem iterT_ft {ds : List D} : iterT (.t (.v (.tup ds))) = some (ds.map fun d => .t (.v d)) := rfl
theorem iterL_lent {ns : List Int} : iterL (.lent (.lst (J ns))) = some (ns.map fun n => .t (.v (.int n))) := by
  show some ((J ns).map lv) = _
  unfold J
  rw [List.map_map]; rfl
theorem iterL_J {ns : List Int} : iterL (.t (.v (.lst (J ns)))) = some (ns.map fun n => .t (.v (.int n))) := by
  show some ((J ns).map _) = _
  unfold J
  rw [List.map_map]; rfl
theorem pyEq_00 : pyEq (.lst []) (.lst []) = some true := rfl
theorem J_map {α : Type} {ns : List Int} {f : D → α} : (J ns).map f = ns.map fun n => f (.int n) := by unfold J; rw [List.map_map]; rfl
end
/-! ### steps -/
section
variable {ρ : Sg} {E : ExQ}
/-- one statement at a time: the rest is out of sight -/
theorem wp_step {a b : M Fl} {Q : Fl → Sg → Prop} (h : ∀ Q1, Q1 = seqQ (fun ρ1 => WP b ρ1 Q E) Q → WP a ρ Q1 E) : WP (m_seq a b) ρ Q E := by
  rw [wp_seq]
  exact h _ rfl
/-- what holds between two statements -/
theorem wp_mid {a b : M Fl} {Q : Fl → Sg → Prop} (P : Sg → Prop) (h1 : WP a ρ (seqQ P Q) E) (h2 : ∀ ρ1, P ρ1 → WP b ρ1 Q E) : WP (m_seq a b) ρ Q E := by
  rw [wp_seq]
  refine WP.mono h1 (fun f ρ1 q => ?_) fun _ _ _ q => q
  cases f with
  | nx => exact h2 ρ1 q
  | _ => exact q
theorem go_nx {Q1 Q : Fl → Sg → Prop} {b : M Fl} (h1 : Q1 = seqQ (fun ρ1 => WP b ρ1 Q E) Q) (h : WP b ρ Q E) : Q1 .nx ρ := by
  rw [h1]; exact h
theorem go_ret {Q1 Q : Fl → Sg → Prop} {b : M Fl} {r : Rv} (h1 : Q1 = seqQ (fun ρ1 => WP b ρ1 Q E) Q) (h : Q (.ret r) ρ) : Q1 (.ret r) ρ := by
  rw [h1]; exact h
end
end W3

namespace H
open PySem PySem.Spec PyProof.Rows L2 W3
def top (i : Nat) : Stmt := PySem.Challenge.pw_addedink_k20_altered_cells.main.body.getD i (.Pass ⟨0, 0, 0, 0⟩)
def fn : List He.DefD := [
  ⟨("InkError", some "__init__"), "__init__", "InkError.__init__", defArgs (inClass (top 1) 0), defBody (inClass (top 1) 0), defScope (inClass (top 1) 0), [], []⟩,
  ⟨("require_amount", none), "require_amount", "require_amount", defArgs (top 4), defBody (top 4), defScope (top 4), [], []⟩,
  ⟨("figure_in", none), "figure_in", "figure_in", defArgs (top 5), defBody (top 5), defScope (top 5), [], []⟩,
  ⟨("differing_cells", none), "differing_cells", "differing_cells", defArgs (top 6), defBody (top 6), defScope (top 6), [], []⟩,
  ⟨("altered_cells", none), "altered_cells", "altered_cells", defArgs (top 7), defBody (top 7), defScope (top 7), [], []⟩,
  ⟨("_law_pool", none), "_law_pool", "_law_pool", defArgs (top 9), defBody (top 9), defScope (top 9), [], []⟩,
  ⟨("_law_take", none), "_law_take", "_law_take", defArgs (top 10), defBody (top 10), defScope (top 10), [], []⟩,
  ⟨("_law_amount", none), "_law_amount", "_law_amount", defArgs (top 11), defBody (top 11), defScope (top 11), [], []⟩,
  ⟨("_law_size", none), "_law_size", "_law_size", defArgs (top 12), defBody (top 12), defScope (top 12), [], []⟩,
  ⟨("_law_due", none), "_law_due", "_law_due", defArgs (top 13), defBody (top 13), defScope (top 13), [], []⟩,
  ⟨("_law_other", none), "_law_other", "_law_other", defArgs (top 14), defBody (top 14), defScope (top 14), [], []⟩,
  ⟨("_law_right", none), "_law_right", "_law_right", defArgs (top 15), defBody (top 15), defScope (top 15), [], []⟩,
  ⟨("law", none), "law", "law", defArgs (top 16), defBody (top 16), defScope (top 16), [], []⟩]
def fa : List He.Fa := [.glo "require_amount", .glo "figure_in", .glo "differing_cells", .glo "altered_cells", .glo "_law_pool", .glo "_law_take", .glo "_law_amount", .glo "_law_size", .glo "_law_due", .glo "_law_other", .glo "_law_right", .glo "law", .glo "InkError", .glo "InvalidAmount", .free "ValueError", .free "bool", .free "int", .free "isinstance", .free "len", .free "list", .free "max", .free "min", .free "range"]
def loose : List PySem.Str := (["__name__", "InkError", "InvalidAmount", "require_amount", "figure_in", "differing_cells", "altered_cells", "_law_pool", "_law_take", "_law_amount", "_law_size", "_law_due", "_law_other", "_law_right"] : List PySem.Str)
def ex (K : PySem.W.Frag) : Bool := noLB K && exB K "InkError" "InvalidAmount"
abbrev R : PySem.W.OpenRow := PySem.W.OpenLaw.row PySem.Challenge.rw_addedink_k20_altered_cells
abbrev hk : PySem.W.Hook := He.hookX 5 fa fn [] [] ex
def ob (s : PySem.W.SharedT) : He.AlX := He.obsX 5 fa fn [] [] ex (HandSHeadRun.getT s)
theorem ob_eq (s : PySem.W.SharedT) : ob s = hk.obs s.abs := He.obsX_eq (HandSHeadRun.getT_eq s)
noncomputable def m__law_pool : M Fl :=
  (m_seq (m_set 2 (m_c (.int 0)))
  (m_seq (m_ifs (m_tst (m_op fLt (m_var 1) (m_look fLen (m_cons (m_var 0) m_nil))))
  (m_set 2 (m_ix (m_var 0) (m_var 1)))
  m_nx)
  (m_seq (m_set 3 (m_op fMod (m_look fInt (m_cons (m_var 2) m_nil)) (m_c (.int 999999937))))
  (m_seq (m_ifs (m_tst (m_op fGe (m_var 2) (m_op fPow (m_c (.int 10)) (m_c (.int 18)))))
  (m_ret (m_lst (m_cons (m_op fSub (m_var 2) (m_op fPow (m_c (.int 10)) (m_c (.int 18)))) (m_cons (m_var 3) (m_cons (m_c (.int 0)) m_nil)))))
  m_nx)
  (m_ret (m_lst (m_cons (m_c (.int 0)) (m_cons (m_op fAdd (m_var 3) (m_op fMul (m_c (.int 524287)) (m_var 1))) (m_cons (m_c (.int 0)) m_nil)))))))))
noncomputable def phi__law_pool : Fun := runF 4 m__law_pool
noncomputable def m__law_take : M Fl :=
  (m_seq (m_ifs (m_tst (m_op fGt (m_ix (m_var 0) (m_c (.int 0))) (m_c (.int 0))))
  (m_seq (m_set 3 (m_op fMod (m_look fInt (m_cons (m_ix (m_var 0) (m_c (.int 0))) m_nil)) (m_var 1)))
  (m_seq (m_setix 0 (m_op fDiv (m_ix (m_var 0) (m_c (.int 0))) (m_var 1)) (m_c (.int 0)))
  (m_ret (m_var 3))))
  m_nx)
  (m_seq (m_setix 0 (m_op fAdd (m_ix (m_var 0) (m_c (.int 2))) (m_c (.int 1))) (m_c (.int 2)))
  (m_seq (m_set 2 (m_op fMul (m_op fAdd (m_op fAdd (m_ix (m_var 0) (m_c (.int 1))) (m_op fMul (m_c (.int 8191)) (m_ix (m_var 0) (m_c (.int 2))))) (m_c (.int 17))) (m_op fAdd (m_op fAdd (m_ix (m_var 0) (m_c (.int 1))) (m_op fMul (m_op fMul (m_c (.int 131)) (m_ix (m_var 0) (m_c (.int 2)))) (m_ix (m_var 0) (m_c (.int 2))))) (m_c (.int 4099)))))
  (m_seq (m_set 2 (m_op fMod (m_look fInt (m_cons (m_var 2) m_nil)) (m_c (.int 1000000403))))
  (m_seq (m_set 2 (m_op fMod (m_look fInt (m_cons (m_op fMul (m_var 2) (m_op fAdd (m_op fAdd (m_var 2) (m_op fMul (m_c (.int 2)) (m_ix (m_var 0) (m_c (.int 2))))) (m_c (.int 1)))) m_nil)) (m_c (.int 999999883))))
  (m_ret (m_op fMod (m_look fInt (m_cons (m_op fDiv (m_var 2) (m_c (.int 13))) m_nil)) (m_var 1))))))))
noncomputable def phi__law_take : Fun := runF 4 m__law_take
noncomputable def m__law_amount : M Fl :=
  (m_seq (m_set 2 (m_lst (m_cons (m_op fAdd (m_c (.int 1)) (m_call 2 [true, false] phi__law_take [] (m_cons (m_var 0) (m_cons (m_c (.int 9)) m_nil)))) m_nil)))
  (m_seq (m_while (m_tst (m_op fLt (m_look fLen (m_cons (m_var 2) m_nil)) (m_var 1)))
  (m_expr (m_meth 2 (m_cons (m_call 2 [true, false] phi__law_take [] (m_cons (m_var 0) (m_cons (m_c (.int 10)) m_nil))) m_nil) opApp)))
  (m_ret (m_var 2))))
noncomputable def phi__law_amount : Fun := runF 3 m__law_amount
noncomputable def m__law_size : M Fl :=
  (m_seq (m_set 2 (m_call 2 [true, false] phi__law_take [] (m_cons (m_var 0) (m_cons (m_c (.int 3)) m_nil))))
  (m_seq (m_ifs (m_tst (m_look2 fEq (m_var 2) (m_c (.int 0))))
  (m_ret (m_op fAdd (m_c (.int 1)) (m_call 2 [true, false] phi__law_take [] (m_cons (m_var 0) (m_cons (m_c (.int 3)) m_nil)))))
  m_nx)
  (m_seq (m_ifs (m_tst (m_look2 fEq (m_var 2) (m_c (.int 1))))
  (m_ret (m_op fAdd (m_c (.int 1)) (m_call 2 [true, false] phi__law_take [] (m_cons (m_var 0) (m_cons (m_c (.int 7)) m_nil)))))
  m_nx)
  (m_ret (m_op fAdd (m_c (.int 1)) (m_call 2 [true, false] phi__law_take [] (m_cons (m_var 0) (m_cons (m_var 1) m_nil))))))))
noncomputable def phi__law_size : Fun := runF 3 m__law_size
noncomputable def m__law_other : M Fl :=
  (m_seq (m_set 2 (m_call 2 [true, false] phi__law_take [] (m_cons (m_var 0) (m_cons (m_c (.int 5)) m_nil))))
  (m_seq (m_ifs (m_tst (m_look2 fEq (m_var 2) (m_c (.int 0))))
  (m_ret (m_call 2 [true, false] phi__law_amount [] (m_cons (m_var 0) (m_cons (m_call 2 [true, false] phi__law_size [] (m_cons (m_var 0) (m_cons (m_c (.int 30)) m_nil))) m_nil))))
  m_nx)
  (m_seq (m_set 3 (m_listof (m_cons (m_var 1) m_nil)))
  (m_seq (m_for (m_rng1 (m_cons (m_call 2 [true, false] phi__law_take [] (m_cons (m_var 0) (m_cons (m_c (.int 5)) m_nil))) m_nil)) (setSl 4)
  (m_setix 3 (m_call 2 [true, false] phi__law_take [] (m_cons (m_var 0) (m_cons (m_c (.int 10)) m_nil))) (m_call 2 [true, false] phi__law_take [] (m_cons (m_var 0) (m_cons (m_look fLen (m_cons (m_var 3) m_nil)) m_nil)))))
  (m_seq (m_ifs (m_tst (m_look2 fEq (m_var 2) (m_c (.int 1))))
  (m_set 3 (m_cat (m_comp [4] (m_rng1 (m_cons (m_look fMin2 (m_cons (m_op fSub (m_c (.int 30)) (m_look fLen (m_cons (m_var 3) m_nil))) (m_cons (m_op fAdd (m_c (.int 1)) (m_call 2 [true, false] phi__law_take [] (m_cons (m_var 0) (m_cons (m_c (.int 4)) m_nil)))) m_nil))) m_nil)) (setSl 4) (M.ret true) (m_call 2 [true, false] phi__law_take [] (m_cons (m_var 0) (m_cons (m_c (.int 10)) m_nil)))) (m_var 3)))
  (m_ifs (m_tst (m_look2 fEq (m_var 2) (m_c (.int 2))))
  (m_set 3 (m_sl (m_var 3) (m_some (m_call 2 [true, false] phi__law_take [] (m_cons (m_var 0) (m_cons (m_look fMin2 (m_cons (m_c (.int 5)) (m_cons (m_look fLen (m_cons (m_var 3) m_nil)) m_nil))) m_nil)))) m_no))
  m_nx))
  (m_seq (m_ifs (m_tst (m_look2 fEq (m_ix (m_var 3) (m_c (.int 0))) (m_c (.int 0))))
  (m_setix 3 (m_op fAdd (m_c (.int 1)) (m_call 2 [true, false] phi__law_take [] (m_cons (m_var 0) (m_cons (m_c (.int 9)) m_nil)))) (m_c (.int 0)))
  m_nx)
  (m_ret (m_var 3))))))))
noncomputable def phi__law_other : Fun := runF 5 m__law_other
noncomputable def m__law_due : M Fl :=
  (m_seq (m_set 2 (m_lst m_nil))
  (m_seq (m_for (m_rng1 (m_cons (m_look fMax2 (m_cons (m_look fLen (m_cons (m_var 0) m_nil)) (m_cons (m_look fLen (m_cons (m_var 1) m_nil)) m_nil))) m_nil)) (setSl 3)
  (m_ifs (m_or (m_tst (m_op fGe (m_var 3) (m_look fLen (m_cons (m_var 0) m_nil)))) (m_or (m_tst (m_op fGe (m_var 3) (m_look fLen (m_cons (m_var 1) m_nil)))) (m_tst (m_look2 fNe (m_ix (m_var 0) (m_op fSub (m_op fSub (m_look fLen (m_cons (m_var 0) m_nil)) (m_c (.int 1))) (m_var 3))) (m_ix (m_var 1) (m_op fSub (m_op fSub (m_look fLen (m_cons (m_var 1) m_nil)) (m_c (.int 1))) (m_var 3)))))))
  (m_expr (m_meth 2 (m_cons (m_var 3) m_nil) opApp))
  m_nx))
  (m_ret (m_var 2))))
noncomputable def phi__law_due : Fun := runF 4 m__law_due
noncomputable def m_require_amount : M Fl :=
  (m_seq (m_set 1 (m_fz (m_comp [2] (m_iter iterL (m_var 0)) (setSl 2) (m_or (m_tst (m_op fLt (m_var 2) (m_c (.int 0)))) (m_tst (m_op fGt (m_var 2) (m_c (.int 9))))) (m_var 2))))
  (m_ifs (m_or (m_tst (m_look2 fEq (m_var 0) (m_lst m_nil))) (m_or (m_tst (m_look2 fEq (m_ix (m_var 0) (m_c (.int 0))) (m_c (.int 0)))) (m_tst (m_look2 fNe (m_var 1) (m_lst m_nil)))))
  (m_raise "InvalidAmount" (m_fz (m_listof (m_cons (m_var 0) m_nil))))
  m_nx))
noncomputable def phi_require_amount : Fun := runF 3 m_require_amount
noncomputable def m_figure_in : M Fl :=
  (m_seq (m_ifs (m_tst (m_op fLt (m_var 1) (m_look fLen (m_cons (m_var 0) m_nil))))
  (m_ret (m_ix (m_var 0) (m_op fSub (m_op fSub (m_look fLen (m_cons (m_var 0) m_nil)) (m_c (.int 1))) (m_var 1))))
  m_nx)
  (m_ret (m_c .non)))
noncomputable def phi_figure_in : Fun := runF 2 m_figure_in
noncomputable def m_differing_cells : M Fl :=
  (m_seq (m_set 2 (m_look fMax2 (m_cons (m_look fLen (m_cons (m_var 0) m_nil)) (m_cons (m_look fLen (m_cons (m_var 1) m_nil)) m_nil))))
  (m_ret (m_comp [3] (m_rng1 (m_cons (m_var 2) m_nil)) (setSl 3) (m_tst (m_look2 fNe (m_call 2 [false, false] phi_figure_in [] (m_cons (m_var 0) (m_cons (m_var 3) m_nil))) (m_call 2 [false, false] phi_figure_in [] (m_cons (m_var 1) (m_cons (m_var 3) m_nil))))) (m_var 3))))
noncomputable def phi_differing_cells : Fun := runF 4 m_differing_cells
noncomputable def m_altered_cells : M Fl :=
  (m_seq (m_expr (m_call 1 [false] phi_require_amount [] (m_cons (m_var 0) m_nil)))
  (m_seq (m_expr (m_call 1 [false] phi_require_amount [] (m_cons (m_var 1) m_nil)))
  (m_ret (m_call 2 [false, false] phi_differing_cells [] (m_cons (m_var 0) (m_cons (m_var 1) m_nil))))))
noncomputable def phi_altered_cells : Fun := runF 2 m_altered_cells
def g_altered_cells_kaltered_amount {α : Type} (us ws : List α) : List α := match us, ws with
  | [], [b0, b1] => [b1, b0]
  | _, _ => []
noncomputable def m__law_right : M Fl :=
  (m_seq (m_set 2 (m_fz (m_lst (m_cons (m_listof (m_cons (m_var 0) m_nil)) (m_cons (m_listof (m_cons (m_var 1) m_nil)) m_nil)))))
  (m_seq (m_set 3 (m_fz (m_call 2 [false, false] phi__law_due [] (m_cons (m_var 0) (m_cons (m_var 1) m_nil)))))
  (m_seq (m_for (m_rng1 (m_cons (m_c (.int 2)) m_nil)) (setSl 4)
  (m_seq (m_set 5 (m_call 2 [false, false] phi_altered_cells [] (m_cons (m_ix (m_var 2) (m_c (.int 0))) (m_cons (m_ix (m_var 2) (m_c (.int 1))) m_nil))))
  (m_seq (m_ifs (m_or (m_not (m_tst (m_look fIsi (m_cons (m_var 5) (m_cons (m_c (.ty "list")) m_nil))))) (m_or (m_tst (m_look2 fNe (m_var 5) (m_var 3))) (m_tst (m_look2 fNe (m_var 2) (m_lst (m_cons (m_var 0) (m_cons (m_var 1) m_nil)))))))
  (m_ret (m_c (.bl false)))
  m_nx)
  (m_seq (m_ifs (m_tst (m_look2 fNe (m_lend 5 (m_comp [6] (m_iter iterL (m_var 5)) (setSl 6) (m_or (m_not (m_tst (m_look fIsi (m_cons (m_var 6) (m_cons (m_c (.ty "int")) m_nil))))) (m_tst (m_look fIsi (m_cons (m_var 6) (m_cons (m_c (.ty "bool")) m_nil))))) (m_var 6))) (m_lst m_nil)))
  (m_ret (m_c (.bl false)))
  m_nx)
  (m_expr (m_meth 5 (m_cons (m_c (.int 99)) m_nil) opApp))))))
  (m_ret (m_c (.bl true))))))
noncomputable def phi__law_right : Fun := runF 7 m__law_right
noncomputable def m_law : M Fl :=
  (m_seq (m_for (m_rng1 (m_cons (m_look fMax2 (m_cons (m_c (.int 1)) (m_cons (m_look fMin2 (m_cons (m_look fLen (m_cons (m_var 0) m_nil)) (m_cons (m_c (.int 40)) m_nil))) m_nil))) m_nil)) (setSl 1)
  (m_seq (m_set 2 (m_call 2 [false, false] phi__law_pool [] (m_cons (m_var 0) (m_cons (m_var 1) m_nil))))
  (m_seq (m_set 3 (m_fz (m_call 2 [true, false] phi__law_amount [] (m_cons (m_var 2) (m_cons (m_call 2 [true, false] phi__law_size [] (m_cons (m_var 2) (m_cons (m_c (.int 30)) m_nil))) m_nil)))))
  (m_seq (m_set 4 (m_fz (m_call 2 [true, false] phi__law_other [] (m_cons (m_var 2) (m_cons (m_var 3) m_nil)))))
  (m_seq (m_ifs (m_or (m_not (m_tst (m_call 2 [false, false] phi__law_right [] (m_cons (m_var 3) (m_cons (m_var 4) m_nil))))) (m_or (m_not (m_tst (m_call 2 [false, false] phi__law_right [] (m_cons (m_var 4) (m_cons (m_var 3) m_nil))))) (m_not (m_tst (m_call 2 [false, false] phi__law_right [] (m_cons (m_var 3) (m_cons (m_var 3) m_nil)))))))
  (m_ret (m_c (.bl false)))
  m_nx)
  (m_ifs (m_tst (m_look2 fNe (m_callK 2 0 2 [false, false] phi_altered_cells g_altered_cells_kaltered_amount m_nil (m_cons (m_fz (m_listof (m_cons (m_var 4) m_nil))) (m_cons (m_fz (m_listof (m_cons (m_var 3) m_nil))) m_nil))) (m_call 2 [false, false] phi__law_due [] (m_cons (m_var 3) (m_cons (m_var 4) m_nil)))))
  (m_ret (m_c (.bl false)))
  m_nx))))))
  (m_ret (m_c (.bl true))))
noncomputable def phi_law : Fun := runF 5 m_law
end H

namespace H
open PySem PySem.Spec L2 W3
abbrev bag (a b c : Int) : T := .lst [.v (.int a), .v (.int b), .v (.int c)]
/-- b, c in their bounds -/
def BagOk (a b c N : Int) : Prop := 0 ≤ a ∧ (0 ≤ b ∧ b < 2^41) ∧ (0 ≤ c ∧ c < N)
theorem BagOk.le {a b c N M : Int} (h : BagOk a b c N) (l : N ≤ M) : BagOk a b c M := ⟨h.1, h.2.1, h.2.2.1, by have := h.2.2.2; omega⟩
theorem take_spec {a b c many N : Int} (hb : BagOk a b c N) (hN : N < 2^40) (hm : 0 < many ∧ many < 2^30) {Q : T → Sg → Prop} {E : ExQ}
    (hQ : ∀ v a' c', 0 ≤ v → v < many → BagOk a' b c' (N + 1) → Q (.v (.int v)) [some (.io (bag a' b c')), none]) : WPF phi__law_take [.io (bag a b c), .t (.v (.int many))] Q E := by
  unfold phi__law_take m__law_take
  simp [wp_run, wp_seq, wp_ifs, wp_tst, wp_op, wp_un, wp_ix, wp_var, wp_mv, varS_io, varS_v, varS_l, varS_tu, varS_lent, mvS_t, lv_lst, lv_tup, lv_int, lv_bl, wp_c, wp_fz, fzR_v, fzR_lst, fzR_tup, fzR_lent, fzR_pk, toDs_L, toDs_nil, toDs_cons, toD_v, toD_lst, toD_tup, rvQ_v, bolQ_v, intQ_v, ixR_pk, ixR_fl, ixR_ft, ixR_ll, ixS_t, ixS_io, atI_Jq, atI_Lq, atI_0, atI_1, atI_2, iop_ii, icmp_ii, wp_asg, setSl_t, setSl_lent, wp_look, wp_look2, wp_cons, wp_nil, viewRs_cons, viewRs_nil, viewR_t, viewR_lent, viewR_pk, slD_t, slD_io, fInt_i, fLen_l, fLen_t, fMax_ii, fMin_ii, isi_ll, isi_ii, isi_ib, isi_bb, fEq_q, fNe_q, pyEq_J, pyEq_Jn, pyEq_nJ, pyEq_ii, pyEq_nn, pyEq_ni, pyEq_in, pyEq_JJ2, optS_some, optS_none, wp_setix, lstAt_q, rvT_q, rvTs_nil, rvTs_t, wp_return, wp_retN, wp_expr, wp_raise, wp_aug, wp_and, wp_or, wp_not, wp_andV, wp_orV, wp_notV, wp_if, wp_lst, wp_tup, wp_some, wp_no, wp_sl, wp_listof, wp_cat, wp_meth, opApp_q, wp_rng1, wp_rng2, wp_iter, wp_for, wp_comp, wp_call, wp_callK, wp_callR, dflR, argsOf, argOf, ios, lns, putOuts, putO, putT, freeRv, itemsR_pk, itemsL_pk, itemsR_fl, itemsL_fl, itemsR_lent, itemsL_lent, itemsR_L, itemsL_L, slI_t, slI_io, seqQ_nx, seqQ_ret, seqQ_bk, seqQ_ct, lpQ_nx, lpQ_ret, lpQ_bk, lpQ_ct, runQ_ret, runQ_nx, outOf, outsAt, putL, wp_nx, wp_bk, wp_ct, wp_ret, wp_opt, L_len, J_len, J_v, J_app, L_app, L_snoc, L_set, wp_vf, wp_lend, ldQ_t, relend, iterL_J, iterT_ft, iterL_lent, pyEq_00, plainAt, wipeS, backS, line, ixN]
  obtain ⟨h1, h2, h3⟩ := hb
  split
  · exact ⟨hm.1, ⟨hm.1, hm.2⟩, hQ _ _ _ (Int.emod_nonneg _ (by omega)) (Int.emod_lt_of_pos _ hm.1) ⟨Int.ediv_nonneg h1 (by omega), h2, by omega⟩⟩
  · refine ⟨.inl (by omega), .inl (by omega), .inl (by omega), .inl (by omega), .inl (by omega), .inl (by omega), (by unfold CDiv; omega), hm.1, hQ _ _ _ (Int.emod_nonneg _ (by omega)) (Int.emod_lt_of_pos _ hm.1) ⟨h1, h2, by omega⟩⟩
theorem pool_spec {ns : List Int} {k : Int} (hk : 0 ≤ k ∧ k < 64) {Q : T → Sg → Prop} {E : ExQ} (hQ : ∀ a b, BagOk a b 0 1 → Q (.lst [.v (.int a), .v (.int b), .v (.int 0)]) [none, none]) :
    WPF phi__law_pool [.t (.v (.lst (J ns))), .t (.v (.int k))] Q E := by
  unfold phi__law_pool m__law_pool
  simp [wp_run, wp_seq, wp_ifs, wp_tst, wp_op, wp_un, wp_ix, wp_var, wp_mv, varS_io, varS_v, varS_l, varS_tu, varS_lent, mvS_t, lv_lst, lv_tup, lv_int, lv_bl, wp_c, wp_fz, fzR_v, fzR_lst, fzR_tup, fzR_lent, fzR_pk, toDs_L, toDs_nil, toDs_cons, toD_v, toD_lst, toD_tup, rvQ_v, bolQ_v, intQ_v, ixR_pk, ixR_fl, ixR_ft, ixR_ll, ixS_t, ixS_io, atI_Jq, atI_Lq, atI_0, atI_1, atI_2, iop_ii, icmp_ii, wp_asg, setSl_t, setSl_lent, wp_look, wp_look2, wp_cons, wp_nil, viewRs_cons, viewRs_nil, viewR_t, viewR_lent, viewR_pk, slD_t, slD_io, fInt_i, fLen_l, fLen_t, fMax_ii, fMin_ii, isi_ll, isi_ii, isi_ib, isi_bb, fEq_q, fNe_q, pyEq_J, pyEq_Jn, pyEq_nJ, pyEq_ii, pyEq_nn, pyEq_ni, pyEq_in, pyEq_JJ2, optS_some, optS_none, wp_setix, lstAt_q, rvT_q, rvTs_nil, rvTs_t, wp_return, wp_retN, wp_expr, wp_raise, wp_aug, wp_and, wp_or, wp_not, wp_andV, wp_orV, wp_notV, wp_if, wp_lst, wp_tup, wp_some, wp_no, wp_sl, wp_listof, wp_cat, wp_meth, opApp_q, wp_rng1, wp_rng2, wp_iter, wp_for, wp_comp, wp_call, wp_callK, wp_callR, dflR, argsOf, argOf, ios, lns, putOuts, putO, putT, freeRv, itemsR_pk, itemsL_pk, itemsR_fl, itemsL_fl, itemsR_lent, itemsL_lent, itemsR_L, itemsL_L, slI_t, slI_io, seqQ_nx, seqQ_ret, seqQ_bk, seqQ_ct, lpQ_nx, lpQ_ret, lpQ_bk, lpQ_ct, runQ_ret, runQ_nx, outOf, outsAt, putL, wp_nx, wp_bk, wp_ct, wp_ret, wp_opt, L_len, J_len, J_v, J_app, L_app, L_snoc, L_set, wp_vf, wp_lend, ldQ_t, relend, iterL_J, iterT_ft, iterL_lent, pyEq_00, plainAt, wipeS, backS, line]
  have p : CPow 10 18 := ⟨by decide, by decide, by decide⟩
  have m : CMul 524287 k := .inl (by omega)
  split
  · rename_i h
    rw [atI_in hk.1 (by omega)]
    refine ⟨p, ?_⟩
    split
    · exact ⟨p, hQ _ _ ⟨by omega, by omega, by omega⟩⟩
    · exact ⟨m, hQ _ _ ⟨by omega, by omega, by omega⟩⟩
  · exact ⟨p, m, hQ _ _ ⟨by omega, by omega, by omega⟩⟩
/-- a number as it is written -/
def Amt (ns : List Int) : Prop := ns.length ≤ 60 ∧ 0 < ns.headD 0 ∧ ∀ x ∈ ns, 0 ≤ x ∧ x ≤ 9
theorem Amt.snoc {ns : List Int} {v : Int} (h : Amt ns) (hl : ns.length ≤ 59) (h0 : 0 ≤ v) (h1 : v ≤ 9) : Amt (ns ++ [v]) := by
  obtain ⟨a, b, c⟩ := h
  refine ⟨by rw [List.length_append, List.length_singleton]; omega, ?_, fun x m => ?_⟩
  · cases ns with
    | nil => simp at b
    | cons y ys => exact b
  · rcases List.mem_append.mp m with m | m
    · exact c x m
    · rw [List.mem_singleton.mp m]; omega
theorem Amt.ne {ns : List Int} (h : Amt ns) : ns ≠ [] := fun e => by
  have := h.2.1
  rw [e] at this
  simp at this
theorem Amt.pos {ns : List Int} (h : Amt ns) : 0 < ns.length := List.length_pos_iff.mpr h.ne
def amtI (b N size : Int) (n : Nat) (ρ : Sg) : Prop := ∃ ns a' c', n + ns.length = 31 ∧ Amt ns ∧ ns.length ≤ 30 ∧ BagOk a' b c' (N + ns.length) ∧ ρ = [some (.io (bag a' b c')), some (.t (.v (.int size))), some (.t (.lst (L ns)))]
theorem amount_spec {a b c size N : Int} (hb : BagOk a b c N) (hN : N < 2^30) (hs : size ≤ 30) {Q : T → Sg → Prop} {E : ExQ}
    (hQ : ∀ ns a' c', Amt ns → ns.length ≤ 30 → BagOk a' b c' (N + 40) → Q (.lst (L ns)) [some (.io (bag a' b c')), none]) :
    WPF phi__law_amount [.io (bag a b c), .t (.v (.int size))] Q E := by
  unfold phi__law_amount m__law_amount
  simp [wp_run, wp_seq, wp_ifs, wp_tst, wp_op, wp_un, wp_ix, wp_var, wp_mv, varS_io, varS_v, varS_l, varS_tu, varS_lent, mvS_t, lv_lst, lv_tup, lv_int, lv_bl, wp_c, wp_fz, fzR_v, fzR_lst, fzR_tup, fzR_lent, fzR_pk, toDs_L, toDs_nil, toDs_cons, toD_v, toD_lst, toD_tup, rvQ_v, bolQ_v, intQ_v, ixR_pk, ixR_fl, ixR_ft, ixR_ll, ixS_t, ixS_io, atI_Jq, atI_Lq, atI_0, atI_1, atI_2, iop_ii, icmp_ii, wp_asg, setSl_t, setSl_lent, wp_look, wp_look2, wp_cons, wp_nil, viewRs_cons, viewRs_nil, viewR_t, viewR_lent, viewR_pk, slD_t, slD_io, fInt_i, fLen_l, fLen_t, fMax_ii, fMin_ii, isi_ll, isi_ii, isi_ib, isi_bb, fEq_q, fNe_q, pyEq_J, pyEq_Jn, pyEq_nJ, pyEq_ii, pyEq_nn, pyEq_ni, pyEq_in, pyEq_JJ2, optS_some, optS_none, wp_setix, lstAt_q, rvT_q, rvTs_nil, rvTs_t, wp_return, wp_retN, wp_expr, wp_raise, wp_aug, wp_and, wp_or, wp_not, wp_andV, wp_orV, wp_notV, wp_if, wp_lst, wp_tup, wp_some, wp_no, wp_sl, wp_listof, wp_cat, wp_meth, opApp_q, wp_rng1, wp_rng2, wp_iter, wp_for, wp_comp, wp_call, wp_callK, wp_callR, dflR, argsOf, argOf, ios, lns, putOuts, putO, putT, freeRv, itemsR_pk, itemsL_pk, itemsR_fl, itemsL_fl, itemsR_lent, itemsL_lent, itemsR_L, itemsL_L, slI_t, slI_io, seqQ_nx, seqQ_ret, seqQ_bk, seqQ_ct, lpQ_nx, lpQ_ret, lpQ_bk, lpQ_ct, runQ_ret, runQ_nx, outOf, outsAt, putL, wp_nx, wp_bk, wp_ct, wp_ret, wp_opt, L_len, J_len, J_v, J_app, L_app, L_snoc, L_set, wp_vf, wp_lend, ldQ_t, relend, iterL_J, iterT_ft, iterL_lent, pyEq_00, plainAt, wipeS, backS, line]
  refine take_spec hb (by omega) (by omega) fun v a1 c1 v0 v1 hb1 => ?_
  simp [wp_run, wp_seq, wp_ifs, wp_tst, wp_op, wp_un, wp_ix, wp_var, wp_mv, varS_io, varS_v, varS_l, varS_tu, varS_lent, mvS_t, lv_lst, lv_tup, lv_int, lv_bl, wp_c, wp_fz, fzR_v, fzR_lst, fzR_tup, fzR_lent, fzR_pk, toDs_L, toDs_nil, toDs_cons, toD_v, toD_lst, toD_tup, rvQ_v, bolQ_v, intQ_v, ixR_pk, ixR_fl, ixR_ft, ixR_ll, ixS_t, ixS_io, atI_Jq, atI_Lq, atI_0, atI_1, atI_2, iop_ii, icmp_ii, wp_asg, setSl_t, setSl_lent, wp_look, wp_look2, wp_cons, wp_nil, viewRs_cons, viewRs_nil, viewR_t, viewR_lent, viewR_pk, slD_t, slD_io, fInt_i, fLen_l, fLen_t, fMax_ii, fMin_ii, isi_ll, isi_ii, isi_ib, isi_bb, fEq_q, fNe_q, pyEq_J, pyEq_Jn, pyEq_nJ, pyEq_ii, pyEq_nn, pyEq_ni, pyEq_in, pyEq_JJ2, optS_some, optS_none, wp_setix, lstAt_q, rvT_q, rvTs_nil, rvTs_t, wp_return, wp_retN, wp_expr, wp_raise, wp_aug, wp_and, wp_or, wp_not, wp_andV, wp_orV, wp_notV, wp_if, wp_lst, wp_tup, wp_some, wp_no, wp_sl, wp_listof, wp_cat, wp_meth, opApp_q, wp_rng1, wp_rng2, wp_iter, wp_for, wp_comp, wp_call, wp_callK, wp_callR, dflR, argsOf, argOf, ios, lns, putOuts, putO, putT, freeRv, itemsR_pk, itemsL_pk, itemsR_fl, itemsL_fl, itemsR_lent, itemsL_lent, itemsR_L, itemsL_L, slI_t, slI_io, seqQ_nx, seqQ_ret, seqQ_bk, seqQ_ct, lpQ_nx, lpQ_ret, lpQ_bk, lpQ_ct, runQ_ret, runQ_nx, outOf, outsAt, putL, wp_nx, wp_bk, wp_ct, wp_ret, wp_opt, L_len, J_len, J_v, J_app, L_app, L_snoc, L_set, wp_vf, wp_lend, ldQ_t, relend, iterL_J, iterT_ft, iterL_lent, pyEq_00, plainAt, wipeS, backS, line]
  refine wp_while (n := 30) (amtI b N size) ⟨[1 + v], a1, c1, rfl, ⟨by simp, by simp; omega, by simp; omega⟩, by simp, hb1, rfl⟩ ?_
  rintro n ρ ⟨ns, a2, c2, e1, e2, e3, e4, rfl⟩
  simp [wp_run, wp_seq, wp_ifs, wp_tst, wp_op, wp_un, wp_ix, wp_var, wp_mv, varS_io, varS_v, varS_l, varS_tu, varS_lent, mvS_t, lv_lst, lv_tup, lv_int, lv_bl, wp_c, wp_fz, fzR_v, fzR_lst, fzR_tup, fzR_lent, fzR_pk, toDs_L, toDs_nil, toDs_cons, toD_v, toD_lst, toD_tup, rvQ_v, bolQ_v, intQ_v, ixR_pk, ixR_fl, ixR_ft, ixR_ll, ixS_t, ixS_io, atI_Jq, atI_Lq, atI_0, atI_1, atI_2, iop_ii, icmp_ii, wp_asg, setSl_t, setSl_lent, wp_look, wp_look2, wp_cons, wp_nil, viewRs_cons, viewRs_nil, viewR_t, viewR_lent, viewR_pk, slD_t, slD_io, fInt_i, fLen_l, fLen_t, fMax_ii, fMin_ii, isi_ll, isi_ii, isi_ib, isi_bb, fEq_q, fNe_q, pyEq_J, pyEq_Jn, pyEq_nJ, pyEq_ii, pyEq_nn, pyEq_ni, pyEq_in, pyEq_JJ2, optS_some, optS_none, wp_setix, lstAt_q, rvT_q, rvTs_nil, rvTs_t, wp_return, wp_retN, wp_expr, wp_raise, wp_aug, wp_and, wp_or, wp_not, wp_andV, wp_orV, wp_notV, wp_if, wp_lst, wp_tup, wp_some, wp_no, wp_sl, wp_listof, wp_cat, wp_meth, opApp_q, wp_rng1, wp_rng2, wp_iter, wp_for, wp_comp, wp_call, wp_callK, wp_callR, dflR, argsOf, argOf, ios, lns, putOuts, putO, putT, freeRv, itemsR_pk, itemsL_pk, itemsR_fl, itemsL_fl, itemsR_lent, itemsL_lent, itemsR_L, itemsL_L, slI_t, slI_io, seqQ_nx, seqQ_ret, seqQ_bk, seqQ_ct, lpQ_nx, lpQ_ret, lpQ_bk, lpQ_ct, runQ_ret, runQ_nx, outOf, outsAt, putL, wp_nx, wp_bk, wp_ct, wp_ret, wp_opt, L_len, J_len, J_v, J_app, L_app, L_snoc, L_set, wp_vf, wp_lend, ldQ_t, relend, iterL_J, iterT_ft, iterL_lent, pyEq_00, plainAt, wipeS, backS, line]
  split
  · refine take_spec e4 (by omega) (by omega) fun v a3 c3 v0 v1 hb3 => ?_
    simp [wp_run, wp_seq, wp_ifs, wp_tst, wp_op, wp_un, wp_ix, wp_var, wp_mv, varS_io, varS_v, varS_l, varS_tu, varS_lent, mvS_t, lv_lst, lv_tup, lv_int, lv_bl, wp_c, wp_fz, fzR_v, fzR_lst, fzR_tup, fzR_lent, fzR_pk, toDs_L, toDs_nil, toDs_cons, toD_v, toD_lst, toD_tup, rvQ_v, bolQ_v, intQ_v, ixR_pk, ixR_fl, ixR_ft, ixR_ll, ixS_t, ixS_io, atI_Jq, atI_Lq, atI_0, atI_1, atI_2, iop_ii, icmp_ii, wp_asg, setSl_t, setSl_lent, wp_look, wp_look2, wp_cons, wp_nil, viewRs_cons, viewRs_nil, viewR_t, viewR_lent, viewR_pk, slD_t, slD_io, fInt_i, fLen_l, fLen_t, fMax_ii, fMin_ii, isi_ll, isi_ii, isi_ib, isi_bb, fEq_q, fNe_q, pyEq_J, pyEq_Jn, pyEq_nJ, pyEq_ii, pyEq_nn, pyEq_ni, pyEq_in, pyEq_JJ2, optS_some, optS_none, wp_setix, lstAt_q, rvT_q, rvTs_nil, rvTs_t, wp_return, wp_retN, wp_expr, wp_raise, wp_aug, wp_and, wp_or, wp_not, wp_andV, wp_orV, wp_notV, wp_if, wp_lst, wp_tup, wp_some, wp_no, wp_sl, wp_listof, wp_cat, wp_meth, opApp_q, wp_rng1, wp_rng2, wp_iter, wp_for, wp_comp, wp_call, wp_callK, wp_callR, dflR, argsOf, argOf, ios, lns, putOuts, putO, putT, freeRv, itemsR_pk, itemsL_pk, itemsR_fl, itemsL_fl, itemsR_lent, itemsL_lent, itemsR_L, itemsL_L, slI_t, slI_io, seqQ_nx, seqQ_ret, seqQ_bk, seqQ_ct, lpQ_nx, lpQ_ret, lpQ_bk, lpQ_ct, runQ_ret, runQ_nx, outOf, outsAt, putL, wp_nx, wp_bk, wp_ct, wp_ret, wp_opt, L_len, J_len, J_v, J_app, L_app, L_snoc, L_set, wp_vf, wp_lend, ldQ_t, relend, iterL_J, iterT_ft, iterL_lent, pyEq_00, plainAt, wipeS, backS, line]
    refine ⟨by omega, n - 1, by omega, ns ++ [v], a3, c3, by simp; omega, e2.snoc (by omega) v0 (by omega), by simp; omega, hb3.le (by simp; omega), rfl⟩
  · exact hQ _ _ _ e2 e3 (e4.le (by omega))
theorem size_spec {a b c top N : Int} (hb : BagOk a b c N) (hN : N < 2^30) (hs : 7 ≤ top ∧ top ≤ 30) {Q : T → Sg → Prop} {E : ExQ}
    (hQ : ∀ v a' c', 1 ≤ v → v ≤ top → BagOk a' b c' (N + 2) → Q (.v (.int v)) [some (.io (bag a' b c')), none]) :
    WPF phi__law_size [.io (bag a b c), .t (.v (.int top))] Q E := by
  unfold phi__law_size m__law_size
  simp [wp_run, wp_seq, wp_ifs, wp_tst, wp_op, wp_un, wp_ix, wp_var, wp_mv, varS_io, varS_v, varS_l, varS_tu, varS_lent, mvS_t, lv_lst, lv_tup, lv_int, lv_bl, wp_c, wp_fz, fzR_v, fzR_lst, fzR_tup, fzR_lent, fzR_pk, toDs_L, toDs_nil, toDs_cons, toD_v, toD_lst, toD_tup, rvQ_v, bolQ_v, intQ_v, ixR_pk, ixR_fl, ixR_ft, ixR_ll, ixS_t, ixS_io, atI_Jq, atI_Lq, atI_0, atI_1, atI_2, iop_ii, icmp_ii, wp_asg, setSl_t, setSl_lent, wp_look, wp_look2, wp_cons, wp_nil, viewRs_cons, viewRs_nil, viewR_t, viewR_lent, viewR_pk, slD_t, slD_io, fInt_i, fLen_l, fLen_t, fMax_ii, fMin_ii, isi_ll, isi_ii, isi_ib, isi_bb, fEq_q, fNe_q, pyEq_J, pyEq_Jn, pyEq_nJ, pyEq_ii, pyEq_nn, pyEq_ni, pyEq_in, pyEq_JJ2, optS_some, optS_none, wp_setix, lstAt_q, rvT_q, rvTs_nil, rvTs_t, wp_return, wp_retN, wp_expr, wp_raise, wp_aug, wp_and, wp_or, wp_not, wp_andV, wp_orV, wp_notV, wp_if, wp_lst, wp_tup, wp_some, wp_no, wp_sl, wp_listof, wp_cat, wp_meth, opApp_q, wp_rng1, wp_rng2, wp_iter, wp_for, wp_comp, wp_call, wp_callK, wp_callR, dflR, argsOf, argOf, ios, lns, putOuts, putO, putT, freeRv, itemsR_pk, itemsL_pk, itemsR_fl, itemsL_fl, itemsR_lent, itemsL_lent, itemsR_L, itemsL_L, slI_t, slI_io, seqQ_nx, seqQ_ret, seqQ_bk, seqQ_ct, lpQ_nx, lpQ_ret, lpQ_bk, lpQ_ct, runQ_ret, runQ_nx, outOf, outsAt, putL, wp_nx, wp_bk, wp_ct, wp_ret, wp_opt, L_len, J_len, J_v, J_app, L_app, L_snoc, L_set, wp_vf, wp_lend, ldQ_t, relend, iterL_J, iterT_ft, iterL_lent, pyEq_00, plainAt, wipeS, backS, line]
  refine take_spec hb (by omega) (by omega) fun v a1 c1 v0 v1 hb1 => ?_
  simp [wp_run, wp_seq, wp_ifs, wp_tst, wp_op, wp_un, wp_ix, wp_var, wp_mv, varS_io, varS_v, varS_l, varS_tu, varS_lent, mvS_t, lv_lst, lv_tup, lv_int, lv_bl, wp_c, wp_fz, fzR_v, fzR_lst, fzR_tup, fzR_lent, fzR_pk, toDs_L, toDs_nil, toDs_cons, toD_v, toD_lst, toD_tup, rvQ_v, bolQ_v, intQ_v, ixR_pk, ixR_fl, ixR_ft, ixR_ll, ixS_t, ixS_io, atI_Jq, atI_Lq, atI_0, atI_1, atI_2, iop_ii, icmp_ii, wp_asg, setSl_t, setSl_lent, wp_look, wp_look2, wp_cons, wp_nil, viewRs_cons, viewRs_nil, viewR_t, viewR_lent, viewR_pk, slD_t, slD_io, fInt_i, fLen_l, fLen_t, fMax_ii, fMin_ii, isi_ll, isi_ii, isi_ib, isi_bb, fEq_q, fNe_q, pyEq_J, pyEq_Jn, pyEq_nJ, pyEq_ii, pyEq_nn, pyEq_ni, pyEq_in, pyEq_JJ2, optS_some, optS_none, wp_setix, lstAt_q, rvT_q, rvTs_nil, rvTs_t, wp_return, wp_retN, wp_expr, wp_raise, wp_aug, wp_and, wp_or, wp_not, wp_andV, wp_orV, wp_notV, wp_if, wp_lst, wp_tup, wp_some, wp_no, wp_sl, wp_listof, wp_cat, wp_meth, opApp_q, wp_rng1, wp_rng2, wp_iter, wp_for, wp_comp, wp_call, wp_callK, wp_callR, dflR, argsOf, argOf, ios, lns, putOuts, putO, putT, freeRv, itemsR_pk, itemsL_pk, itemsR_fl, itemsL_fl, itemsR_lent, itemsL_lent, itemsR_L, itemsL_L, slI_t, slI_io, seqQ_nx, seqQ_ret, seqQ_bk, seqQ_ct, lpQ_nx, lpQ_ret, lpQ_bk, lpQ_ct, runQ_ret, runQ_nx, outOf, outsAt, putL, wp_nx, wp_bk, wp_ct, wp_ret, wp_opt, L_len, J_len, J_v, J_app, L_app, L_snoc, L_set, wp_vf, wp_lend, ldQ_t, relend, iterL_J, iterT_ft, iterL_lent, pyEq_00, plainAt, wipeS, backS, line]
  split
  · refine take_spec hb1 (by omega) (by omega) fun v a1 c1 v0 v1 hb1 => ?_
    simp [wp_run, wp_seq, wp_ifs, wp_tst, wp_op, wp_un, wp_ix, wp_var, wp_mv, varS_io, varS_v, varS_l, varS_tu, varS_lent, mvS_t, lv_lst, lv_tup, lv_int, lv_bl, wp_c, wp_fz, fzR_v, fzR_lst, fzR_tup, fzR_lent, fzR_pk, toDs_L, toDs_nil, toDs_cons, toD_v, toD_lst, toD_tup, rvQ_v, bolQ_v, intQ_v, ixR_pk, ixR_fl, ixR_ft, ixR_ll, ixS_t, ixS_io, atI_Jq, atI_Lq, atI_0, atI_1, atI_2, iop_ii, icmp_ii, wp_asg, setSl_t, setSl_lent, wp_look, wp_look2, wp_cons, wp_nil, viewRs_cons, viewRs_nil, viewR_t, viewR_lent, viewR_pk, slD_t, slD_io, fInt_i, fLen_l, fLen_t, fMax_ii, fMin_ii, isi_ll, isi_ii, isi_ib, isi_bb, fEq_q, fNe_q, pyEq_J, pyEq_Jn, pyEq_nJ, pyEq_ii, pyEq_nn, pyEq_ni, pyEq_in, pyEq_JJ2, optS_some, optS_none, wp_setix, lstAt_q, rvT_q, rvTs_nil, rvTs_t, wp_return, wp_retN, wp_expr, wp_raise, wp_aug, wp_and, wp_or, wp_not, wp_andV, wp_orV, wp_notV, wp_if, wp_lst, wp_tup, wp_some, wp_no, wp_sl, wp_listof, wp_cat, wp_meth, opApp_q, wp_rng1, wp_rng2, wp_iter, wp_for, wp_comp, wp_call, wp_callK, wp_callR, dflR, argsOf, argOf, ios, lns, putOuts, putO, putT, freeRv, itemsR_pk, itemsL_pk, itemsR_fl, itemsL_fl, itemsR_lent, itemsL_lent, itemsR_L, itemsL_L, slI_t, slI_io, seqQ_nx, seqQ_ret, seqQ_bk, seqQ_ct, lpQ_nx, lpQ_ret, lpQ_bk, lpQ_ct, runQ_ret, runQ_nx, outOf, outsAt, putL, wp_nx, wp_bk, wp_ct, wp_ret, wp_opt, L_len, J_len, J_v, J_app, L_app, L_snoc, L_set, wp_vf, wp_lend, ldQ_t, relend, iterL_J, iterT_ft, iterL_lent, pyEq_00, plainAt, wipeS, backS, line]
    exact hQ _ _ _ (by omega) (by omega) (hb1.le (by omega))
  · split
    · refine take_spec hb1 (by omega) (by omega) fun v a1 c1 v0 v1 hb1 => ?_
      simp [wp_run, wp_seq, wp_ifs, wp_tst, wp_op, wp_un, wp_ix, wp_var, wp_mv, varS_io, varS_v, varS_l, varS_tu, varS_lent, mvS_t, lv_lst, lv_tup, lv_int, lv_bl, wp_c, wp_fz, fzR_v, fzR_lst, fzR_tup, fzR_lent, fzR_pk, toDs_L, toDs_nil, toDs_cons, toD_v, toD_lst, toD_tup, rvQ_v, bolQ_v, intQ_v, ixR_pk, ixR_fl, ixR_ft, ixR_ll, ixS_t, ixS_io, atI_Jq, atI_Lq, atI_0, atI_1, atI_2, iop_ii, icmp_ii, wp_asg, setSl_t, setSl_lent, wp_look, wp_look2, wp_cons, wp_nil, viewRs_cons, viewRs_nil, viewR_t, viewR_lent, viewR_pk, slD_t, slD_io, fInt_i, fLen_l, fLen_t, fMax_ii, fMin_ii, isi_ll, isi_ii, isi_ib, isi_bb, fEq_q, fNe_q, pyEq_J, pyEq_Jn, pyEq_nJ, pyEq_ii, pyEq_nn, pyEq_ni, pyEq_in, pyEq_JJ2, optS_some, optS_none, wp_setix, lstAt_q, rvT_q, rvTs_nil, rvTs_t, wp_return, wp_retN, wp_expr, wp_raise, wp_aug, wp_and, wp_or, wp_not, wp_andV, wp_orV, wp_notV, wp_if, wp_lst, wp_tup, wp_some, wp_no, wp_sl, wp_listof, wp_cat, wp_meth, opApp_q, wp_rng1, wp_rng2, wp_iter, wp_for, wp_comp, wp_call, wp_callK, wp_callR, dflR, argsOf, argOf, ios, lns, putOuts, putO, putT, freeRv, itemsR_pk, itemsL_pk, itemsR_fl, itemsL_fl, itemsR_lent, itemsL_lent, itemsR_L, itemsL_L, slI_t, slI_io, seqQ_nx, seqQ_ret, seqQ_bk, seqQ_ct, lpQ_nx, lpQ_ret, lpQ_bk, lpQ_ct, runQ_ret, runQ_nx, outOf, outsAt, putL, wp_nx, wp_bk, wp_ct, wp_ret, wp_opt, L_len, J_len, J_v, J_app, L_app, L_snoc, L_set, wp_vf, wp_lend, ldQ_t, relend, iterL_J, iterT_ft, iterL_lent, pyEq_00, plainAt, wipeS, backS, line]
      exact hQ _ _ _ (by omega) (by omega) (hb1.le (by omega))
    · refine take_spec hb1 (by omega) (by omega) fun v a1 c1 v0 v1 hb1 => ?_
      simp [wp_run, wp_seq, wp_ifs, wp_tst, wp_op, wp_un, wp_ix, wp_var, wp_mv, varS_io, varS_v, varS_l, varS_tu, varS_lent, mvS_t, lv_lst, lv_tup, lv_int, lv_bl, wp_c, wp_fz, fzR_v, fzR_lst, fzR_tup, fzR_lent, fzR_pk, toDs_L, toDs_nil, toDs_cons, toD_v, toD_lst, toD_tup, rvQ_v, bolQ_v, intQ_v, ixR_pk, ixR_fl, ixR_ft, ixR_ll, ixS_t, ixS_io, atI_Jq, atI_Lq, atI_0, atI_1, atI_2, iop_ii, icmp_ii, wp_asg, setSl_t, setSl_lent, wp_look, wp_look2, wp_cons, wp_nil, viewRs_cons, viewRs_nil, viewR_t, viewR_lent, viewR_pk, slD_t, slD_io, fInt_i, fLen_l, fLen_t, fMax_ii, fMin_ii, isi_ll, isi_ii, isi_ib, isi_bb, fEq_q, fNe_q, pyEq_J, pyEq_Jn, pyEq_nJ, pyEq_ii, pyEq_nn, pyEq_ni, pyEq_in, pyEq_JJ2, optS_some, optS_none, wp_setix, lstAt_q, rvT_q, rvTs_nil, rvTs_t, wp_return, wp_retN, wp_expr, wp_raise, wp_aug, wp_and, wp_or, wp_not, wp_andV, wp_orV, wp_notV, wp_if, wp_lst, wp_tup, wp_some, wp_no, wp_sl, wp_listof, wp_cat, wp_meth, opApp_q, wp_rng1, wp_rng2, wp_iter, wp_for, wp_comp, wp_call, wp_callK, wp_callR, dflR, argsOf, argOf, ios, lns, putOuts, putO, putT, freeRv, itemsR_pk, itemsL_pk, itemsR_fl, itemsL_fl, itemsR_lent, itemsL_lent, itemsR_L, itemsL_L, slI_t, slI_io, seqQ_nx, seqQ_ret, seqQ_bk, seqQ_ct, lpQ_nx, lpQ_ret, lpQ_bk, lpQ_ct, runQ_ret, runQ_nx, outOf, outsAt, putL, wp_nx, wp_bk, wp_ct, wp_ret, wp_opt, L_len, J_len, J_v, J_app, L_app, L_snoc, L_set, wp_vf, wp_lend, ldQ_t, relend, iterL_J, iterT_ft, iterL_lent, pyEq_00, plainAt, wipeS, backS, line]
      exact hQ _ _ _ (by omega) (by omega) (hb1.le (by omega))
/-- the cells that differ, from the lowest -/
def difC (a b : List Int) (i : Nat) : Bool := decide (a.length ≤ i ∨ b.length ≤ i ∨ a[a.length - 1 - i]? ≠ b[b.length - 1 - i]?)
def difN (a b : List Int) (n : Nat) : List Int := ((List.range n).filter (difC a b)).map Int.ofNat
def dif (a b : List Int) : List Int := difN a b (max a.length b.length)
theorem difN_succ {a b : List Int} {n : Nat} : difN a b (n + 1) = if difC a b n = true then difN a b n ++ [(n : Int)] else difN a b n := by
  unfold difN
  rw [List.range_succ, List.filter_append, List.map_append]
  by_cases h : difC a b n = true
  · rw [if_pos h]; simp [h]
  · rw [if_neg h]; simp [h]
theorem difN_len {a b : List Int} {n : Nat} : (difN a b n).length ≤ n := by
  unfold difN
  rw [List.length_map]
  exact Nat.le_trans (List.length_filter_le _ _) (by rw [List.length_range]; exact Nat.le_refl _)
def dueI (a b : List Int) (k : Nat) (ρ : Sg) : Prop := ∃ s, ρ = [some (.t (.v (.lst (J a)))), some (.t (.v (.lst (J b)))), some (.t (.lst (L (difN a b k)))), s] ∧ (∀ t, s ≠ some (.io t))
theorem dueT {a b : List Int} {i : Nat} (h : difC a b i = true) : dueI a b (i + 1) [some (.t (.v (.lst (J a)))), some (.t (.v (.lst (J b)))), some (.t (.lst (L (difN a b i ++ [(i : Int)])))), some (.t (.v (.int i)))] := ⟨_, by rw [difN_succ, if_pos h], by simp⟩
theorem dueF {a b : List Int} {i : Nat} (h : difC a b i = false) : dueI a b (i + 1) [some (.t (.v (.lst (J a)))), some (.t (.v (.lst (J b)))), some (.t (.lst (L (difN a b i)))), some (.t (.v (.int i)))] := ⟨_, by rw [difN_succ, if_neg (by rw [h]; simp)], by simp⟩
theorem atI_rev {a : List Int} {i : Nat} {P : Int → Prop} (h : i < a.length) : optS (atI a ((a.length : Int) - 1 - (i : Int))) P = P (a[a.length - 1 - i]'(by omega)) := by
  rw [atI_in (by omega) (by omega)]
  have : ((a.length : Int) - 1 - (i : Int)).toNat = a.length - 1 - i := by omega
  simp only [this]
theorem due_spec {a b : List Int} (ha : Amt a) (hb : Amt b) {Q : T → Sg → Prop} {E : ExQ} (hQ : Q (.lst (L (dif a b))) [none, none]) :
    WPF phi__law_due [.t (.v (.lst (J a))), .t (.v (.lst (J b)))] Q E := by
  unfold phi__law_due m__law_due
  have h1 := ha.1
  have h2 := hb.1
  simp [wp_run, wp_seq, wp_ifs, wp_tst, wp_op, wp_un, wp_ix, wp_var, wp_mv, varS_io, varS_v, varS_l, varS_tu, varS_lent, mvS_t, lv_lst, lv_tup, lv_int, lv_bl, wp_c, wp_fz, fzR_v, fzR_lst, fzR_tup, fzR_lent, fzR_pk, toDs_L, toDs_nil, toDs_cons, toD_v, toD_lst, toD_tup, rvQ_v, bolQ_v, intQ_v, ixR_pk, ixR_fl, ixR_ft, ixR_ll, ixS_t, ixS_io, atI_Jq, atI_Lq, atI_0, atI_1, atI_2, iop_ii, icmp_ii, wp_asg, setSl_t, setSl_lent, wp_look, wp_look2, wp_cons, wp_nil, viewRs_cons, viewRs_nil, viewR_t, viewR_lent, viewR_pk, slD_t, slD_io, fInt_i, fLen_l, fLen_t, fMax_ii, fMin_ii, isi_ll, isi_ii, isi_ib, isi_bb, fEq_q, fNe_q, pyEq_J, pyEq_Jn, pyEq_nJ, pyEq_ii, pyEq_nn, pyEq_ni, pyEq_in, pyEq_JJ2, optS_some, optS_none, wp_setix, lstAt_q, rvT_q, rvTs_nil, rvTs_t, wp_return, wp_retN, wp_expr, wp_raise, wp_aug, wp_and, wp_or, wp_not, wp_andV, wp_orV, wp_notV, wp_if, wp_lst, wp_tup, wp_some, wp_no, wp_sl, wp_listof, wp_cat, wp_meth, opApp_q, wp_rng1, wp_rng2, wp_iter, wp_for, wp_comp, wp_call, wp_callK, wp_callR, dflR, argsOf, argOf, ios, lns, putOuts, putO, putT, freeRv, itemsR_pk, itemsL_pk, itemsR_fl, itemsL_fl, itemsR_lent, itemsL_lent, itemsR_L, itemsL_L, slI_t, slI_io, seqQ_nx, seqQ_ret, seqQ_bk, seqQ_ct, lpQ_nx, lpQ_ret, lpQ_bk, lpQ_ct, runQ_ret, runQ_nx, outOf, outsAt, putL, wp_nx, wp_bk, wp_ct, wp_ret, wp_opt, L_len, J_len, J_v, J_app, L_app, L_snoc, L_set, wp_vf, wp_lend, ldQ_t, relend, iterL_J, iterT_ft, iterL_lent, pyEq_00, plainAt, wipeS, backS, line]
  refine ⟨by omega, ?_⟩
  refine wp_loop (dueI a b) ⟨none, rfl, by simp⟩ ?_ ?_
  · rintro i hi ρ ⟨s, rfl, hs⟩
    simp at hi
    simp [wp_run, wp_seq, wp_ifs, wp_tst, wp_op, wp_un, wp_ix, wp_var, wp_mv, varS_io, varS_v, varS_l, varS_tu, varS_lent, mvS_t, lv_lst, lv_tup, lv_int, lv_bl, wp_c, wp_fz, fzR_v, fzR_lst, fzR_tup, fzR_lent, fzR_pk, toDs_L, toDs_nil, toDs_cons, toD_v, toD_lst, toD_tup, rvQ_v, bolQ_v, intQ_v, ixR_pk, ixR_fl, ixR_ft, ixR_ll, ixS_t, ixS_io, atI_Jq, atI_Lq, atI_0, atI_1, atI_2, iop_ii, icmp_ii, wp_asg, setSl_t, setSl_lent, wp_look, wp_look2, wp_cons, wp_nil, viewRs_cons, viewRs_nil, viewR_t, viewR_lent, viewR_pk, slD_t, slD_io, fInt_i, fLen_l, fLen_t, fMax_ii, fMin_ii, isi_ll, isi_ii, isi_ib, isi_bb, fEq_q, fNe_q, pyEq_J, pyEq_Jn, pyEq_nJ, pyEq_ii, pyEq_nn, pyEq_ni, pyEq_in, pyEq_JJ2, optS_some, optS_none, wp_setix, lstAt_q, rvT_q, rvTs_nil, rvTs_t, wp_return, wp_retN, wp_expr, wp_raise, wp_aug, wp_and, wp_or, wp_not, wp_andV, wp_orV, wp_notV, wp_if, wp_lst, wp_tup, wp_some, wp_no, wp_sl, wp_listof, wp_cat, wp_meth, opApp_q, wp_rng1, wp_rng2, wp_iter, wp_for, wp_comp, wp_call, wp_callK, wp_callR, dflR, argsOf, argOf, ios, lns, putOuts, putO, putT, freeRv, itemsR_pk, itemsL_pk, itemsR_fl, itemsL_fl, itemsR_lent, itemsL_lent, itemsR_L, itemsL_L, slI_t, slI_io, seqQ_nx, seqQ_ret, seqQ_bk, seqQ_ct, lpQ_nx, lpQ_ret, lpQ_bk, lpQ_ct, runQ_ret, runQ_nx, outOf, outsAt, putL, wp_nx, wp_bk, wp_ct, wp_ret, wp_opt, L_len, J_len, J_v, J_app, L_app, L_snoc, L_set, wp_vf, wp_lend, ldQ_t, relend, iterL_J, iterT_ft, iterL_lent, pyEq_00, plainAt, wipeS, backS, line]
    have hl := difN_len (a := a) (b := b) (n := i)
    split
    · exact ⟨by omega, dueT (by simp [difC]; omega)⟩
    · split
      · exact ⟨by omega, dueT (by simp [difC]; omega)⟩
      · rename_i g1 g2
        rw [atI_rev (by omega), atI_rev (by omega)]
        split
        · rename_i e
          exact dueF (by simp only [difC]; rw [List.getElem?_eq_getElem (by omega), List.getElem?_eq_getElem (by omega), e]; simp; omega)
        · rename_i e
          exact ⟨by omega, dueT (by simp only [difC]; rw [List.getElem?_eq_getElem (by omega), List.getElem?_eq_getElem (by omega)]; simp [e])⟩
  · rintro ρ ⟨s, rfl, hs⟩
    simp [wp_run, wp_seq, wp_ifs, wp_tst, wp_op, wp_un, wp_ix, wp_var, wp_mv, varS_io, varS_v, varS_l, varS_tu, varS_lent, mvS_t, lv_lst, lv_tup, lv_int, lv_bl, wp_c, wp_fz, fzR_v, fzR_lst, fzR_tup, fzR_lent, fzR_pk, toDs_L, toDs_nil, toDs_cons, toD_v, toD_lst, toD_tup, rvQ_v, bolQ_v, intQ_v, ixR_pk, ixR_fl, ixR_ft, ixR_ll, ixS_t, ixS_io, atI_Jq, atI_Lq, atI_0, atI_1, atI_2, iop_ii, icmp_ii, wp_asg, setSl_t, setSl_lent, wp_look, wp_look2, wp_cons, wp_nil, viewRs_cons, viewRs_nil, viewR_t, viewR_lent, viewR_pk, slD_t, slD_io, fInt_i, fLen_l, fLen_t, fMax_ii, fMin_ii, isi_ll, isi_ii, isi_ib, isi_bb, fEq_q, fNe_q, pyEq_J, pyEq_Jn, pyEq_nJ, pyEq_ii, pyEq_nn, pyEq_ni, pyEq_in, pyEq_JJ2, optS_some, optS_none, wp_setix, lstAt_q, rvT_q, rvTs_nil, rvTs_t, wp_return, wp_retN, wp_expr, wp_raise, wp_aug, wp_and, wp_or, wp_not, wp_andV, wp_orV, wp_notV, wp_if, wp_lst, wp_tup, wp_some, wp_no, wp_sl, wp_listof, wp_cat, wp_meth, opApp_q, wp_rng1, wp_rng2, wp_iter, wp_for, wp_comp, wp_call, wp_callK, wp_callR, dflR, argsOf, argOf, ios, lns, putOuts, putO, putT, freeRv, itemsR_pk, itemsL_pk, itemsR_fl, itemsL_fl, itemsR_lent, itemsL_lent, itemsR_L, itemsL_L, slI_t, slI_io, seqQ_nx, seqQ_ret, seqQ_bk, seqQ_ct, lpQ_nx, lpQ_ret, lpQ_bk, lpQ_ct, runQ_ret, runQ_nx, outOf, outsAt, putL, wp_nx, wp_bk, wp_ct, wp_ret, wp_opt, L_len, J_len, J_v, J_app, L_app, L_snoc, L_set, wp_vf, wp_lend, ldQ_t, relend, iterL_J, iterT_ft, iterL_lent, pyEq_00, plainAt, wipeS, backS, line]
    have : ((max (a.length : Int) b.length).toNat) = max a.length b.length := by omega
    rw [this]
    exact hQ
theorem figure_spec {a : List Int} {i : Nat} {Q : T → Sg → Prop} {E : ExQ} (h1 : ∀ h : i < a.length, Q (.v (.int (a[a.length - 1 - i]'(by omega)))) [none, none]) (h2 : a.length ≤ i → Q (.v .non) [none, none]) :
    WPF phi_figure_in [.t (.v (.lst (J a))), .t (.v (.int i))] Q E := by
  unfold phi_figure_in m_figure_in
  simp [wp_run, wp_seq, wp_ifs, wp_tst, wp_op, wp_un, wp_ix, wp_var, wp_mv, varS_io, varS_v, varS_l, varS_tu, varS_lent, mvS_t, lv_lst, lv_tup, lv_int, lv_bl, wp_c, wp_fz, fzR_v, fzR_lst, fzR_tup, fzR_lent, fzR_pk, toDs_L, toDs_nil, toDs_cons, toD_v, toD_lst, toD_tup, rvQ_v, bolQ_v, intQ_v, ixR_pk, ixR_fl, ixR_ft, ixR_ll, ixS_t, ixS_io, atI_Jq, atI_Lq, atI_0, atI_1, atI_2, iop_ii, icmp_ii, wp_asg, setSl_t, setSl_lent, wp_look, wp_look2, wp_cons, wp_nil, viewRs_cons, viewRs_nil, viewR_t, viewR_lent, viewR_pk, slD_t, slD_io, fInt_i, fLen_l, fLen_t, fMax_ii, fMin_ii, isi_ll, isi_ii, isi_ib, isi_bb, fEq_q, fNe_q, pyEq_J, pyEq_Jn, pyEq_nJ, pyEq_ii, pyEq_nn, pyEq_ni, pyEq_in, pyEq_JJ2, optS_some, optS_none, wp_setix, lstAt_q, rvT_q, rvTs_nil, rvTs_t, wp_return, wp_retN, wp_expr, wp_raise, wp_aug, wp_and, wp_or, wp_not, wp_andV, wp_orV, wp_notV, wp_if, wp_lst, wp_tup, wp_some, wp_no, wp_sl, wp_listof, wp_cat, wp_meth, opApp_q, wp_rng1, wp_rng2, wp_iter, wp_for, wp_comp, wp_call, wp_callK, wp_callR, dflR, argsOf, argOf, ios, lns, putOuts, putO, putT, freeRv, itemsR_pk, itemsL_pk, itemsR_fl, itemsL_fl, itemsR_lent, itemsL_lent, itemsR_L, itemsL_L, slI_t, slI_io, seqQ_nx, seqQ_ret, seqQ_bk, seqQ_ct, lpQ_nx, lpQ_ret, lpQ_bk, lpQ_ct, runQ_ret, runQ_nx, outOf, outsAt, putL, wp_nx, wp_bk, wp_ct, wp_ret, wp_opt, L_len, J_len, J_v, J_app, L_app, L_snoc, L_set, wp_vf, wp_lend, ldQ_t, relend, iterL_J, iterT_ft, iterL_lent, pyEq_00, plainAt, wipeS, backS, line]
  split
  · rename_i h
    rw [atI_rev h]
    exact h1 h
  · exact h2 (by omega)
theorem differing_spec {a b : List Int} (ha : Amt a) (hb : Amt b) {Q : T → Sg → Prop} {E : ExQ} (hQ : Q (.lst (L (dif a b))) [none, none]) :
    WPF phi_differing_cells [.t (.v (.lst (J a))), .t (.v (.lst (J b)))] Q E := by
  unfold phi_differing_cells m_differing_cells
  have h1 := ha.1
  have h2 := hb.1
  simp [wp_run, wp_seq, wp_ifs, wp_tst, wp_op, wp_un, wp_ix, wp_var, wp_mv, varS_io, varS_v, varS_l, varS_tu, varS_lent, mvS_t, lv_lst, lv_tup, lv_int, lv_bl, wp_c, wp_fz, fzR_v, fzR_lst, fzR_tup, fzR_lent, fzR_pk, toDs_L, toDs_nil, toDs_cons, toD_v, toD_lst, toD_tup, rvQ_v, bolQ_v, intQ_v, ixR_pk, ixR_fl, ixR_ft, ixR_ll, ixS_t, ixS_io, atI_Jq, atI_Lq, atI_0, atI_1, atI_2, iop_ii, icmp_ii, wp_asg, setSl_t, setSl_lent, wp_look, wp_look2, wp_cons, wp_nil, viewRs_cons, viewRs_nil, viewR_t, viewR_lent, viewR_pk, slD_t, slD_io, fInt_i, fLen_l, fLen_t, fMax_ii, fMin_ii, isi_ll, isi_ii, isi_ib, isi_bb, fEq_q, fNe_q, pyEq_J, pyEq_Jn, pyEq_nJ, pyEq_ii, pyEq_nn, pyEq_ni, pyEq_in, pyEq_JJ2, optS_some, optS_none, wp_setix, lstAt_q, rvT_q, rvTs_nil, rvTs_t, wp_return, wp_retN, wp_expr, wp_raise, wp_aug, wp_and, wp_or, wp_not, wp_andV, wp_orV, wp_notV, wp_if, wp_lst, wp_tup, wp_some, wp_no, wp_sl, wp_listof, wp_cat, wp_meth, opApp_q, wp_rng1, wp_rng2, wp_iter, wp_for, wp_comp, wp_call, wp_callK, wp_callR, dflR, argsOf, argOf, ios, lns, putOuts, putO, putT, freeRv, itemsR_pk, itemsL_pk, itemsR_fl, itemsL_fl, itemsR_lent, itemsL_lent, itemsR_L, itemsL_L, slI_t, slI_io, seqQ_nx, seqQ_ret, seqQ_bk, seqQ_ct, lpQ_nx, lpQ_ret, lpQ_bk, lpQ_ct, runQ_ret, runQ_nx, outOf, outsAt, putL, wp_nx, wp_bk, wp_ct, wp_ret, wp_opt, L_len, J_len, J_v, J_app, L_app, L_snoc, L_set, wp_vf, wp_lend, ldQ_t, relend, iterL_J, iterT_ft, iterL_lent, pyEq_00, plainAt, wipeS, backS, line]
  refine ⟨by omega, ?_⟩
  refine lc_loop (fun k acc ρ => acc = L (difN a b k) ∧ ρ = [some (.t (.v (.lst (J a)))), some (.t (.v (.lst (J b)))), some (.t (.v (.int (max (a.length : Int) b.length)))), none]) (by simp [line]; omega) ⟨rfl, rfl⟩ ?_ ?_
  · rintro i hi acc ρ _ ⟨rfl, rfl⟩
    simp at hi
    simp [wp_run, wp_seq, wp_ifs, wp_tst, wp_op, wp_un, wp_ix, wp_var, wp_mv, varS_io, varS_v, varS_l, varS_tu, varS_lent, mvS_t, lv_lst, lv_tup, lv_int, lv_bl, wp_c, wp_fz, fzR_v, fzR_lst, fzR_tup, fzR_lent, fzR_pk, toDs_L, toDs_nil, toDs_cons, toD_v, toD_lst, toD_tup, rvQ_v, bolQ_v, intQ_v, ixR_pk, ixR_fl, ixR_ft, ixR_ll, ixS_t, ixS_io, atI_Jq, atI_Lq, atI_0, atI_1, atI_2, iop_ii, icmp_ii, wp_asg, setSl_t, setSl_lent, wp_look, wp_look2, wp_cons, wp_nil, viewRs_cons, viewRs_nil, viewR_t, viewR_lent, viewR_pk, slD_t, slD_io, fInt_i, fLen_l, fLen_t, fMax_ii, fMin_ii, isi_ll, isi_ii, isi_ib, isi_bb, fEq_q, fNe_q, pyEq_J, pyEq_Jn, pyEq_nJ, pyEq_ii, pyEq_nn, pyEq_ni, pyEq_in, pyEq_JJ2, optS_some, optS_none, wp_setix, lstAt_q, rvT_q, rvTs_nil, rvTs_t, wp_return, wp_retN, wp_expr, wp_raise, wp_aug, wp_and, wp_or, wp_not, wp_andV, wp_orV, wp_notV, wp_if, wp_lst, wp_tup, wp_some, wp_no, wp_sl, wp_listof, wp_cat, wp_meth, opApp_q, wp_rng1, wp_rng2, wp_iter, wp_for, wp_comp, wp_call, wp_callK, wp_callR, dflR, argsOf, argOf, ios, lns, putOuts, putO, putT, freeRv, itemsR_pk, itemsL_pk, itemsR_fl, itemsL_fl, itemsR_lent, itemsL_lent, itemsR_L, itemsL_L, slI_t, slI_io, seqQ_nx, seqQ_ret, seqQ_bk, seqQ_ct, lpQ_nx, lpQ_ret, lpQ_bk, lpQ_ct, runQ_ret, runQ_nx, outOf, outsAt, putL, wp_nx, wp_bk, wp_ct, wp_ret, wp_opt, L_len, J_len, J_v, J_app, L_app, L_snoc, L_set, wp_vf, wp_lend, ldQ_t, relend, iterL_J, iterT_ft, iterL_lent, pyEq_00, plainAt, wipeS, backS, line]
    refine figure_spec (fun g1 => ?_) (fun g1 => ?_)
    · simp [wp_run, wp_seq, wp_ifs, wp_tst, wp_op, wp_un, wp_ix, wp_var, wp_mv, varS_io, varS_v, varS_l, varS_tu, varS_lent, mvS_t, lv_lst, lv_tup, lv_int, lv_bl, wp_c, wp_fz, fzR_v, fzR_lst, fzR_tup, fzR_lent, fzR_pk, toDs_L, toDs_nil, toDs_cons, toD_v, toD_lst, toD_tup, rvQ_v, bolQ_v, intQ_v, ixR_pk, ixR_fl, ixR_ft, ixR_ll, ixS_t, ixS_io, atI_Jq, atI_Lq, atI_0, atI_1, atI_2, iop_ii, icmp_ii, wp_asg, setSl_t, setSl_lent, wp_look, wp_look2, wp_cons, wp_nil, viewRs_cons, viewRs_nil, viewR_t, viewR_lent, viewR_pk, slD_t, slD_io, fInt_i, fLen_l, fLen_t, fMax_ii, fMin_ii, isi_ll, isi_ii, isi_ib, isi_bb, fEq_q, fNe_q, pyEq_J, pyEq_Jn, pyEq_nJ, pyEq_ii, pyEq_nn, pyEq_ni, pyEq_in, pyEq_JJ2, optS_some, optS_none, wp_setix, lstAt_q, rvT_q, rvTs_nil, rvTs_t, wp_return, wp_retN, wp_expr, wp_raise, wp_aug, wp_and, wp_or, wp_not, wp_andV, wp_orV, wp_notV, wp_if, wp_lst, wp_tup, wp_some, wp_no, wp_sl, wp_listof, wp_cat, wp_meth, opApp_q, wp_rng1, wp_rng2, wp_iter, wp_for, wp_comp, wp_call, wp_callK, wp_callR, dflR, argsOf, argOf, ios, lns, putOuts, putO, putT, freeRv, itemsR_pk, itemsL_pk, itemsR_fl, itemsL_fl, itemsR_lent, itemsL_lent, itemsR_L, itemsL_L, slI_t, slI_io, seqQ_nx, seqQ_ret, seqQ_bk, seqQ_ct, lpQ_nx, lpQ_ret, lpQ_bk, lpQ_ct, runQ_ret, runQ_nx, outOf, outsAt, putL, wp_nx, wp_bk, wp_ct, wp_ret, wp_opt, L_len, J_len, J_v, J_app, L_app, L_snoc, L_set, wp_vf, wp_lend, ldQ_t, relend, iterL_J, iterT_ft, iterL_lent, pyEq_00, plainAt, wipeS, backS, line]
      refine figure_spec (fun g2 => ?_) (fun g2 => ?_)
      · simp [wp_run, wp_seq, wp_ifs, wp_tst, wp_op, wp_un, wp_ix, wp_var, wp_mv, varS_io, varS_v, varS_l, varS_tu, varS_lent, mvS_t, lv_lst, lv_tup, lv_int, lv_bl, wp_c, wp_fz, fzR_v, fzR_lst, fzR_tup, fzR_lent, fzR_pk, toDs_L, toDs_nil, toDs_cons, toD_v, toD_lst, toD_tup, rvQ_v, bolQ_v, intQ_v, ixR_pk, ixR_fl, ixR_ft, ixR_ll, ixS_t, ixS_io, atI_Jq, atI_Lq, atI_0, atI_1, atI_2, iop_ii, icmp_ii, wp_asg, setSl_t, setSl_lent, wp_look, wp_look2, wp_cons, wp_nil, viewRs_cons, viewRs_nil, viewR_t, viewR_lent, viewR_pk, slD_t, slD_io, fInt_i, fLen_l, fLen_t, fMax_ii, fMin_ii, isi_ll, isi_ii, isi_ib, isi_bb, fEq_q, fNe_q, pyEq_J, pyEq_Jn, pyEq_nJ, pyEq_ii, pyEq_nn, pyEq_ni, pyEq_in, pyEq_JJ2, optS_some, optS_none, wp_setix, lstAt_q, rvT_q, rvTs_nil, rvTs_t, wp_return, wp_retN, wp_expr, wp_raise, wp_aug, wp_and, wp_or, wp_not, wp_andV, wp_orV, wp_notV, wp_if, wp_lst, wp_tup, wp_some, wp_no, wp_sl, wp_listof, wp_cat, wp_meth, opApp_q, wp_rng1, wp_rng2, wp_iter, wp_for, wp_comp, wp_call, wp_callK, wp_callR, dflR, argsOf, argOf, ios, lns, putOuts, putO, putT, freeRv, itemsR_pk, itemsL_pk, itemsR_fl, itemsL_fl, itemsR_lent, itemsL_lent, itemsR_L, itemsL_L, slI_t, slI_io, seqQ_nx, seqQ_ret, seqQ_bk, seqQ_ct, lpQ_nx, lpQ_ret, lpQ_bk, lpQ_ct, runQ_ret, runQ_nx, outOf, outsAt, putL, wp_nx, wp_bk, wp_ct, wp_ret, wp_opt, L_len, J_len, J_v, J_app, L_app, L_snoc, L_set, wp_vf, wp_lend, ldQ_t, relend, iterL_J, iterT_ft, iterL_lent, pyEq_00, plainAt, wipeS, backS, line]
        have hc : difC a b i = !decide (a[a.length - 1 - i]'(by omega) = b[b.length - 1 - i]'(by omega)) := by
          simp only [difC]
          rw [List.getElem?_eq_getElem (by omega), List.getElem?_eq_getElem (by omega)]
          have n1 : ¬ a.length ≤ i := by omega
          have n2 : ¬ b.length ≤ i := by omega
          simp [n1, n2]
        split
        · rename_i e
          rw [difN_succ, if_neg (by rw [hc]; simp [e])]
        · rename_i e
          rw [difN_succ, if_pos (by rw [hc]; simp [e])]
      · simp [wp_run, wp_seq, wp_ifs, wp_tst, wp_op, wp_un, wp_ix, wp_var, wp_mv, varS_io, varS_v, varS_l, varS_tu, varS_lent, mvS_t, lv_lst, lv_tup, lv_int, lv_bl, wp_c, wp_fz, fzR_v, fzR_lst, fzR_tup, fzR_lent, fzR_pk, toDs_L, toDs_nil, toDs_cons, toD_v, toD_lst, toD_tup, rvQ_v, bolQ_v, intQ_v, ixR_pk, ixR_fl, ixR_ft, ixR_ll, ixS_t, ixS_io, atI_Jq, atI_Lq, atI_0, atI_1, atI_2, iop_ii, icmp_ii, wp_asg, setSl_t, setSl_lent, wp_look, wp_look2, wp_cons, wp_nil, viewRs_cons, viewRs_nil, viewR_t, viewR_lent, viewR_pk, slD_t, slD_io, fInt_i, fLen_l, fLen_t, fMax_ii, fMin_ii, isi_ll, isi_ii, isi_ib, isi_bb, fEq_q, fNe_q, pyEq_J, pyEq_Jn, pyEq_nJ, pyEq_ii, pyEq_nn, pyEq_ni, pyEq_in, pyEq_JJ2, optS_some, optS_none, wp_setix, lstAt_q, rvT_q, rvTs_nil, rvTs_t, wp_return, wp_retN, wp_expr, wp_raise, wp_aug, wp_and, wp_or, wp_not, wp_andV, wp_orV, wp_notV, wp_if, wp_lst, wp_tup, wp_some, wp_no, wp_sl, wp_listof, wp_cat, wp_meth, opApp_q, wp_rng1, wp_rng2, wp_iter, wp_for, wp_comp, wp_call, wp_callK, wp_callR, dflR, argsOf, argOf, ios, lns, putOuts, putO, putT, freeRv, itemsR_pk, itemsL_pk, itemsR_fl, itemsL_fl, itemsR_lent, itemsL_lent, itemsR_L, itemsL_L, slI_t, slI_io, seqQ_nx, seqQ_ret, seqQ_bk, seqQ_ct, lpQ_nx, lpQ_ret, lpQ_bk, lpQ_ct, runQ_ret, runQ_nx, outOf, outsAt, putL, wp_nx, wp_bk, wp_ct, wp_ret, wp_opt, L_len, J_len, J_v, J_app, L_app, L_snoc, L_set, wp_vf, wp_lend, ldQ_t, relend, iterL_J, iterT_ft, iterL_lent, pyEq_00, plainAt, wipeS, backS, line]
        rw [difN_succ, if_pos (by simp [difC]; omega)]
    · simp [wp_run, wp_seq, wp_ifs, wp_tst, wp_op, wp_un, wp_ix, wp_var, wp_mv, varS_io, varS_v, varS_l, varS_tu, varS_lent, mvS_t, lv_lst, lv_tup, lv_int, lv_bl, wp_c, wp_fz, fzR_v, fzR_lst, fzR_tup, fzR_lent, fzR_pk, toDs_L, toDs_nil, toDs_cons, toD_v, toD_lst, toD_tup, rvQ_v, bolQ_v, intQ_v, ixR_pk, ixR_fl, ixR_ft, ixR_ll, ixS_t, ixS_io, atI_Jq, atI_Lq, atI_0, atI_1, atI_2, iop_ii, icmp_ii, wp_asg, setSl_t, setSl_lent, wp_look, wp_look2, wp_cons, wp_nil, viewRs_cons, viewRs_nil, viewR_t, viewR_lent, viewR_pk, slD_t, slD_io, fInt_i, fLen_l, fLen_t, fMax_ii, fMin_ii, isi_ll, isi_ii, isi_ib, isi_bb, fEq_q, fNe_q, pyEq_J, pyEq_Jn, pyEq_nJ, pyEq_ii, pyEq_nn, pyEq_ni, pyEq_in, pyEq_JJ2, optS_some, optS_none, wp_setix, lstAt_q, rvT_q, rvTs_nil, rvTs_t, wp_return, wp_retN, wp_expr, wp_raise, wp_aug, wp_and, wp_or, wp_not, wp_andV, wp_orV, wp_notV, wp_if, wp_lst, wp_tup, wp_some, wp_no, wp_sl, wp_listof, wp_cat, wp_meth, opApp_q, wp_rng1, wp_rng2, wp_iter, wp_for, wp_comp, wp_call, wp_callK, wp_callR, dflR, argsOf, argOf, ios, lns, putOuts, putO, putT, freeRv, itemsR_pk, itemsL_pk, itemsR_fl, itemsL_fl, itemsR_lent, itemsL_lent, itemsR_L, itemsL_L, slI_t, slI_io, seqQ_nx, seqQ_ret, seqQ_bk, seqQ_ct, lpQ_nx, lpQ_ret, lpQ_bk, lpQ_ct, runQ_ret, runQ_nx, outOf, outsAt, putL, wp_nx, wp_bk, wp_ct, wp_ret, wp_opt, L_len, J_len, J_v, J_app, L_app, L_snoc, L_set, wp_vf, wp_lend, ldQ_t, relend, iterL_J, iterT_ft, iterL_lent, pyEq_00, plainAt, wipeS, backS, line]
      refine figure_spec (fun g2 => ?_) (fun g2 => ?_)
      · simp [wp_run, wp_seq, wp_ifs, wp_tst, wp_op, wp_un, wp_ix, wp_var, wp_mv, varS_io, varS_v, varS_l, varS_tu, varS_lent, mvS_t, lv_lst, lv_tup, lv_int, lv_bl, wp_c, wp_fz, fzR_v, fzR_lst, fzR_tup, fzR_lent, fzR_pk, toDs_L, toDs_nil, toDs_cons, toD_v, toD_lst, toD_tup, rvQ_v, bolQ_v, intQ_v, ixR_pk, ixR_fl, ixR_ft, ixR_ll, ixS_t, ixS_io, atI_Jq, atI_Lq, atI_0, atI_1, atI_2, iop_ii, icmp_ii, wp_asg, setSl_t, setSl_lent, wp_look, wp_look2, wp_cons, wp_nil, viewRs_cons, viewRs_nil, viewR_t, viewR_lent, viewR_pk, slD_t, slD_io, fInt_i, fLen_l, fLen_t, fMax_ii, fMin_ii, isi_ll, isi_ii, isi_ib, isi_bb, fEq_q, fNe_q, pyEq_J, pyEq_Jn, pyEq_nJ, pyEq_ii, pyEq_nn, pyEq_ni, pyEq_in, pyEq_JJ2, optS_some, optS_none, wp_setix, lstAt_q, rvT_q, rvTs_nil, rvTs_t, wp_return, wp_retN, wp_expr, wp_raise, wp_aug, wp_and, wp_or, wp_not, wp_andV, wp_orV, wp_notV, wp_if, wp_lst, wp_tup, wp_some, wp_no, wp_sl, wp_listof, wp_cat, wp_meth, opApp_q, wp_rng1, wp_rng2, wp_iter, wp_for, wp_comp, wp_call, wp_callK, wp_callR, dflR, argsOf, argOf, ios, lns, putOuts, putO, putT, freeRv, itemsR_pk, itemsL_pk, itemsR_fl, itemsL_fl, itemsR_lent, itemsL_lent, itemsR_L, itemsL_L, slI_t, slI_io, seqQ_nx, seqQ_ret, seqQ_bk, seqQ_ct, lpQ_nx, lpQ_ret, lpQ_bk, lpQ_ct, runQ_ret, runQ_nx, outOf, outsAt, putL, wp_nx, wp_bk, wp_ct, wp_ret, wp_opt, L_len, J_len, J_v, J_app, L_app, L_snoc, L_set, wp_vf, wp_lend, ldQ_t, relend, iterL_J, iterT_ft, iterL_lent, pyEq_00, plainAt, wipeS, backS, line]
        rw [difN_succ, if_pos (by simp [difC]; omega)]
      · omega
  · rintro acc ρ ⟨rfl, rfl⟩
    simp [wp_run, wp_seq, wp_ifs, wp_tst, wp_op, wp_un, wp_ix, wp_var, wp_mv, varS_io, varS_v, varS_l, varS_tu, varS_lent, mvS_t, lv_lst, lv_tup, lv_int, lv_bl, wp_c, wp_fz, fzR_v, fzR_lst, fzR_tup, fzR_lent, fzR_pk, toDs_L, toDs_nil, toDs_cons, toD_v, toD_lst, toD_tup, rvQ_v, bolQ_v, intQ_v, ixR_pk, ixR_fl, ixR_ft, ixR_ll, ixS_t, ixS_io, atI_Jq, atI_Lq, atI_0, atI_1, atI_2, iop_ii, icmp_ii, wp_asg, setSl_t, setSl_lent, wp_look, wp_look2, wp_cons, wp_nil, viewRs_cons, viewRs_nil, viewR_t, viewR_lent, viewR_pk, slD_t, slD_io, fInt_i, fLen_l, fLen_t, fMax_ii, fMin_ii, isi_ll, isi_ii, isi_ib, isi_bb, fEq_q, fNe_q, pyEq_J, pyEq_Jn, pyEq_nJ, pyEq_ii, pyEq_nn, pyEq_ni, pyEq_in, pyEq_JJ2, optS_some, optS_none, wp_setix, lstAt_q, rvT_q, rvTs_nil, rvTs_t, wp_return, wp_retN, wp_expr, wp_raise, wp_aug, wp_and, wp_or, wp_not, wp_andV, wp_orV, wp_notV, wp_if, wp_lst, wp_tup, wp_some, wp_no, wp_sl, wp_listof, wp_cat, wp_meth, opApp_q, wp_rng1, wp_rng2, wp_iter, wp_for, wp_comp, wp_call, wp_callK, wp_callR, dflR, argsOf, argOf, ios, lns, putOuts, putO, putT, freeRv, itemsR_pk, itemsL_pk, itemsR_fl, itemsL_fl, itemsR_lent, itemsL_lent, itemsR_L, itemsL_L, slI_t, slI_io, seqQ_nx, seqQ_ret, seqQ_bk, seqQ_ct, lpQ_nx, lpQ_ret, lpQ_bk, lpQ_ct, runQ_ret, runQ_nx, outOf, outsAt, putL, wp_nx, wp_bk, wp_ct, wp_ret, wp_opt, L_len, J_len, J_v, J_app, L_app, L_snoc, L_set, wp_vf, wp_lend, ldQ_t, relend, iterL_J, iterT_ft, iterL_lent, pyEq_00, plainAt, wipeS, backS, line, backS]
    have : ((max (a.length : Int) b.length).toNat) = max a.length b.length := by omega
    rw [this]
    exact hQ
theorem require_spec {a : List Int} (ha : Amt a) {Q : T → Sg → Prop} {E : ExQ} (hQ : Q (.v .non) [none]) : WPF phi_require_amount [.t (.v (.lst (J a)))] Q E := by
  unfold phi_require_amount m_require_amount
  have h1 := ha.1
  simp [wp_run, wp_seq, wp_ifs, wp_tst, wp_op, wp_un, wp_ix, wp_var, wp_mv, varS_io, varS_v, varS_l, varS_tu, varS_lent, mvS_t, lv_lst, lv_tup, lv_int, lv_bl, wp_c, wp_fz, fzR_v, fzR_lst, fzR_tup, fzR_lent, fzR_pk, toDs_L, toDs_nil, toDs_cons, toD_v, toD_lst, toD_tup, rvQ_v, bolQ_v, intQ_v, ixR_pk, ixR_fl, ixR_ft, ixR_ll, ixS_t, ixS_io, atI_Jq, atI_Lq, atI_0, atI_1, atI_2, iop_ii, icmp_ii, wp_asg, setSl_t, setSl_lent, wp_look, wp_look2, wp_cons, wp_nil, viewRs_cons, viewRs_nil, viewR_t, viewR_lent, viewR_pk, slD_t, slD_io, fInt_i, fLen_l, fLen_t, fMax_ii, fMin_ii, isi_ll, isi_ii, isi_ib, isi_bb, fEq_q, fNe_q, pyEq_J, pyEq_Jn, pyEq_nJ, pyEq_ii, pyEq_nn, pyEq_ni, pyEq_in, pyEq_JJ2, optS_some, optS_none, wp_setix, lstAt_q, rvT_q, rvTs_nil, rvTs_t, wp_return, wp_retN, wp_expr, wp_raise, wp_aug, wp_and, wp_or, wp_not, wp_andV, wp_orV, wp_notV, wp_if, wp_lst, wp_tup, wp_some, wp_no, wp_sl, wp_listof, wp_cat, wp_meth, opApp_q, wp_rng1, wp_rng2, wp_iter, wp_for, wp_comp, wp_call, wp_callK, wp_callR, dflR, argsOf, argOf, ios, lns, putOuts, putO, putT, freeRv, itemsR_pk, itemsL_pk, itemsR_fl, itemsL_fl, itemsR_lent, itemsL_lent, itemsR_L, itemsL_L, slI_t, slI_io, seqQ_nx, seqQ_ret, seqQ_bk, seqQ_ct, lpQ_nx, lpQ_ret, lpQ_bk, lpQ_ct, runQ_ret, runQ_nx, outOf, outsAt, putL, wp_nx, wp_bk, wp_ct, wp_ret, wp_opt, L_len, J_len, J_v, J_app, L_app, L_snoc, L_set, wp_vf, wp_lend, ldQ_t, relend, iterL_J, iterT_ft, iterL_lent, pyEq_00, plainAt, wipeS, backS, line]
  refine lc_loop (fun k acc ρ => acc = [] ∧ ρ = [some (.t (.v (.lst (J a)))), none, none]) (by simp [line]; omega) ⟨rfl, rfl⟩ ?_ ?_
  · rintro i hi acc ρ _ ⟨rfl, rfl⟩
    simp at hi
    simp [wp_run, wp_seq, wp_ifs, wp_tst, wp_op, wp_un, wp_ix, wp_var, wp_mv, varS_io, varS_v, varS_l, varS_tu, varS_lent, mvS_t, lv_lst, lv_tup, lv_int, lv_bl, wp_c, wp_fz, fzR_v, fzR_lst, fzR_tup, fzR_lent, fzR_pk, toDs_L, toDs_nil, toDs_cons, toD_v, toD_lst, toD_tup, rvQ_v, bolQ_v, intQ_v, ixR_pk, ixR_fl, ixR_ft, ixR_ll, ixS_t, ixS_io, atI_Jq, atI_Lq, atI_0, atI_1, atI_2, iop_ii, icmp_ii, wp_asg, setSl_t, setSl_lent, wp_look, wp_look2, wp_cons, wp_nil, viewRs_cons, viewRs_nil, viewR_t, viewR_lent, viewR_pk, slD_t, slD_io, fInt_i, fLen_l, fLen_t, fMax_ii, fMin_ii, isi_ll, isi_ii, isi_ib, isi_bb, fEq_q, fNe_q, pyEq_J, pyEq_Jn, pyEq_nJ, pyEq_ii, pyEq_nn, pyEq_ni, pyEq_in, pyEq_JJ2, optS_some, optS_none, wp_setix, lstAt_q, rvT_q, rvTs_nil, rvTs_t, wp_return, wp_retN, wp_expr, wp_raise, wp_aug, wp_and, wp_or, wp_not, wp_andV, wp_orV, wp_notV, wp_if, wp_lst, wp_tup, wp_some, wp_no, wp_sl, wp_listof, wp_cat, wp_meth, opApp_q, wp_rng1, wp_rng2, wp_iter, wp_for, wp_comp, wp_call, wp_callK, wp_callR, dflR, argsOf, argOf, ios, lns, putOuts, putO, putT, freeRv, itemsR_pk, itemsL_pk, itemsR_fl, itemsL_fl, itemsR_lent, itemsL_lent, itemsR_L, itemsL_L, slI_t, slI_io, seqQ_nx, seqQ_ret, seqQ_bk, seqQ_ct, lpQ_nx, lpQ_ret, lpQ_bk, lpQ_ct, runQ_ret, runQ_nx, outOf, outsAt, putL, wp_nx, wp_bk, wp_ct, wp_ret, wp_opt, L_len, J_len, J_v, J_app, L_app, L_snoc, L_set, wp_vf, wp_lend, ldQ_t, relend, iterL_J, iterT_ft, iterL_lent, pyEq_00, plainAt, wipeS, backS, line]
    have := ha.2.2 _ (List.getElem_mem hi)
    omega
  · rintro acc ρ ⟨rfl, rfl⟩
    simp [wp_run, wp_seq, wp_ifs, wp_tst, wp_op, wp_un, wp_ix, wp_var, wp_mv, varS_io, varS_v, varS_l, varS_tu, varS_lent, mvS_t, lv_lst, lv_tup, lv_int, lv_bl, wp_c, wp_fz, fzR_v, fzR_lst, fzR_tup, fzR_lent, fzR_pk, toDs_L, toDs_nil, toDs_cons, toD_v, toD_lst, toD_tup, rvQ_v, bolQ_v, intQ_v, ixR_pk, ixR_fl, ixR_ft, ixR_ll, ixS_t, ixS_io, atI_Jq, atI_Lq, atI_0, atI_1, atI_2, iop_ii, icmp_ii, wp_asg, setSl_t, setSl_lent, wp_look, wp_look2, wp_cons, wp_nil, viewRs_cons, viewRs_nil, viewR_t, viewR_lent, viewR_pk, slD_t, slD_io, fInt_i, fLen_l, fLen_t, fMax_ii, fMin_ii, isi_ll, isi_ii, isi_ib, isi_bb, fEq_q, fNe_q, pyEq_J, pyEq_Jn, pyEq_nJ, pyEq_ii, pyEq_nn, pyEq_ni, pyEq_in, pyEq_JJ2, optS_some, optS_none, wp_setix, lstAt_q, rvT_q, rvTs_nil, rvTs_t, wp_return, wp_retN, wp_expr, wp_raise, wp_aug, wp_and, wp_or, wp_not, wp_andV, wp_orV, wp_notV, wp_if, wp_lst, wp_tup, wp_some, wp_no, wp_sl, wp_listof, wp_cat, wp_meth, opApp_q, wp_rng1, wp_rng2, wp_iter, wp_for, wp_comp, wp_call, wp_callK, wp_callR, dflR, argsOf, argOf, ios, lns, putOuts, putO, putT, freeRv, itemsR_pk, itemsL_pk, itemsR_fl, itemsL_fl, itemsR_lent, itemsL_lent, itemsR_L, itemsL_L, slI_t, slI_io, seqQ_nx, seqQ_ret, seqQ_bk, seqQ_ct, lpQ_nx, lpQ_ret, lpQ_bk, lpQ_ct, runQ_ret, runQ_nx, outOf, outsAt, putL, wp_nx, wp_bk, wp_ct, wp_ret, wp_opt, L_len, J_len, J_v, J_app, L_app, L_snoc, L_set, wp_vf, wp_lend, ldQ_t, relend, iterL_J, iterT_ft, iterL_lent, pyEq_00, plainAt, wipeS, backS, line]
    have h3 := ha.2.1
    have h4 := ha.ne
    cases a with
    | nil => exact absurd rfl h4
    | cons y ys =>
      simp at h3
      rw [if_neg (by simp), atI_0, if_neg (by omega)]
      exact hQ
theorem altered_spec {a b : List Int} (ha : Amt a) (hb : Amt b) {Q : T → Sg → Prop} {E : ExQ} (hQ : Q (.lst (L (dif a b))) [none, none]) :
    WPF phi_altered_cells [.t (.v (.lst (J a))), .t (.v (.lst (J b)))] Q E := by
  unfold phi_altered_cells m_altered_cells
  simp [wp_run, wp_seq, wp_ifs, wp_tst, wp_op, wp_un, wp_ix, wp_var, wp_mv, varS_io, varS_v, varS_l, varS_tu, varS_lent, mvS_t, lv_lst, lv_tup, lv_int, lv_bl, wp_c, wp_fz, fzR_v, fzR_lst, fzR_tup, fzR_lent, fzR_pk, toDs_L, toDs_nil, toDs_cons, toD_v, toD_lst, toD_tup, rvQ_v, bolQ_v, intQ_v, ixR_pk, ixR_fl, ixR_ft, ixR_ll, ixS_t, ixS_io, atI_Jq, atI_Lq, atI_0, atI_1, atI_2, iop_ii, icmp_ii, wp_asg, setSl_t, setSl_lent, wp_look, wp_look2, wp_cons, wp_nil, viewRs_cons, viewRs_nil, viewR_t, viewR_lent, viewR_pk, slD_t, slD_io, fInt_i, fLen_l, fLen_t, fMax_ii, fMin_ii, isi_ll, isi_ii, isi_ib, isi_bb, fEq_q, fNe_q, pyEq_J, pyEq_Jn, pyEq_nJ, pyEq_ii, pyEq_nn, pyEq_ni, pyEq_in, pyEq_JJ2, optS_some, optS_none, wp_setix, lstAt_q, rvT_q, rvTs_nil, rvTs_t, wp_return, wp_retN, wp_expr, wp_raise, wp_aug, wp_and, wp_or, wp_not, wp_andV, wp_orV, wp_notV, wp_if, wp_lst, wp_tup, wp_some, wp_no, wp_sl, wp_listof, wp_cat, wp_meth, opApp_q, wp_rng1, wp_rng2, wp_iter, wp_for, wp_comp, wp_call, wp_callK, wp_callR, dflR, argsOf, argOf, ios, lns, putOuts, putO, putT, freeRv, itemsR_pk, itemsL_pk, itemsR_fl, itemsL_fl, itemsR_lent, itemsL_lent, itemsR_L, itemsL_L, slI_t, slI_io, seqQ_nx, seqQ_ret, seqQ_bk, seqQ_ct, lpQ_nx, lpQ_ret, lpQ_bk, lpQ_ct, runQ_ret, runQ_nx, outOf, outsAt, putL, wp_nx, wp_bk, wp_ct, wp_ret, wp_opt, L_len, J_len, J_v, J_app, L_app, L_snoc, L_set, wp_vf, wp_lend, ldQ_t, relend, iterL_J, iterT_ft, iterL_lent, pyEq_00, plainAt, wipeS, backS, line]
  refine require_spec ha ?_
  simp [wp_run, wp_seq, wp_ifs, wp_tst, wp_op, wp_un, wp_ix, wp_var, wp_mv, varS_io, varS_v, varS_l, varS_tu, varS_lent, mvS_t, lv_lst, lv_tup, lv_int, lv_bl, wp_c, wp_fz, fzR_v, fzR_lst, fzR_tup, fzR_lent, fzR_pk, toDs_L, toDs_nil, toDs_cons, toD_v, toD_lst, toD_tup, rvQ_v, bolQ_v, intQ_v, ixR_pk, ixR_fl, ixR_ft, ixR_ll, ixS_t, ixS_io, atI_Jq, atI_Lq, atI_0, atI_1, atI_2, iop_ii, icmp_ii, wp_asg, setSl_t, setSl_lent, wp_look, wp_look2, wp_cons, wp_nil, viewRs_cons, viewRs_nil, viewR_t, viewR_lent, viewR_pk, slD_t, slD_io, fInt_i, fLen_l, fLen_t, fMax_ii, fMin_ii, isi_ll, isi_ii, isi_ib, isi_bb, fEq_q, fNe_q, pyEq_J, pyEq_Jn, pyEq_nJ, pyEq_ii, pyEq_nn, pyEq_ni, pyEq_in, pyEq_JJ2, optS_some, optS_none, wp_setix, lstAt_q, rvT_q, rvTs_nil, rvTs_t, wp_return, wp_retN, wp_expr, wp_raise, wp_aug, wp_and, wp_or, wp_not, wp_andV, wp_orV, wp_notV, wp_if, wp_lst, wp_tup, wp_some, wp_no, wp_sl, wp_listof, wp_cat, wp_meth, opApp_q, wp_rng1, wp_rng2, wp_iter, wp_for, wp_comp, wp_call, wp_callK, wp_callR, dflR, argsOf, argOf, ios, lns, putOuts, putO, putT, freeRv, itemsR_pk, itemsL_pk, itemsR_fl, itemsL_fl, itemsR_lent, itemsL_lent, itemsR_L, itemsL_L, slI_t, slI_io, seqQ_nx, seqQ_ret, seqQ_bk, seqQ_ct, lpQ_nx, lpQ_ret, lpQ_bk, lpQ_ct, runQ_ret, runQ_nx, outOf, outsAt, putL, wp_nx, wp_bk, wp_ct, wp_ret, wp_opt, L_len, J_len, J_v, J_app, L_app, L_snoc, L_set, wp_vf, wp_lend, ldQ_t, relend, iterL_J, iterT_ft, iterL_lent, pyEq_00, plainAt, wipeS, backS, line]
  refine require_spec hb ?_
  simp [wp_run, wp_seq, wp_ifs, wp_tst, wp_op, wp_un, wp_ix, wp_var, wp_mv, varS_io, varS_v, varS_l, varS_tu, varS_lent, mvS_t, lv_lst, lv_tup, lv_int, lv_bl, wp_c, wp_fz, fzR_v, fzR_lst, fzR_tup, fzR_lent, fzR_pk, toDs_L, toDs_nil, toDs_cons, toD_v, toD_lst, toD_tup, rvQ_v, bolQ_v, intQ_v, ixR_pk, ixR_fl, ixR_ft, ixR_ll, ixS_t, ixS_io, atI_Jq, atI_Lq, atI_0, atI_1, atI_2, iop_ii, icmp_ii, wp_asg, setSl_t, setSl_lent, wp_look, wp_look2, wp_cons, wp_nil, viewRs_cons, viewRs_nil, viewR_t, viewR_lent, viewR_pk, slD_t, slD_io, fInt_i, fLen_l, fLen_t, fMax_ii, fMin_ii, isi_ll, isi_ii, isi_ib, isi_bb, fEq_q, fNe_q, pyEq_J, pyEq_Jn, pyEq_nJ, pyEq_ii, pyEq_nn, pyEq_ni, pyEq_in, pyEq_JJ2, optS_some, optS_none, wp_setix, lstAt_q, rvT_q, rvTs_nil, rvTs_t, wp_return, wp_retN, wp_expr, wp_raise, wp_aug, wp_and, wp_or, wp_not, wp_andV, wp_orV, wp_notV, wp_if, wp_lst, wp_tup, wp_some, wp_no, wp_sl, wp_listof, wp_cat, wp_meth, opApp_q, wp_rng1, wp_rng2, wp_iter, wp_for, wp_comp, wp_call, wp_callK, wp_callR, dflR, argsOf, argOf, ios, lns, putOuts, putO, putT, freeRv, itemsR_pk, itemsL_pk, itemsR_fl, itemsL_fl, itemsR_lent, itemsL_lent, itemsR_L, itemsL_L, slI_t, slI_io, seqQ_nx, seqQ_ret, seqQ_bk, seqQ_ct, lpQ_nx, lpQ_ret, lpQ_bk, lpQ_ct, runQ_ret, runQ_nx, outOf, outsAt, putL, wp_nx, wp_bk, wp_ct, wp_ret, wp_opt, L_len, J_len, J_v, J_app, L_app, L_snoc, L_set, wp_vf, wp_lend, ldQ_t, relend, iterL_J, iterT_ft, iterL_lent, pyEq_00, plainAt, wipeS, backS, line]
  refine differing_spec ha hb ?_
  exact hQ
def rightI (a b : List Int) (k : Nat) (ρ : Sg) : Prop := ∃ s4 s5, (∀ t, s4 ≠ some (.io t)) ∧ (∀ t, s5 ≠ some (.io t)) ∧
  ρ = [some (.t (.v (.lst (J a)))), some (.t (.v (.lst (J b)))), some (.t (.v (.lst [.lst (J a), .lst (J b)]))), some (.t (.v (.lst (J (dif a b))))), s4, s5, none]
theorem right_spec {a b : List Int} (ha : Amt a) (hb : Amt b) {Q : T → Sg → Prop} {E : ExQ} (hQ : Q (.v (.bl true)) [none, none]) :
    WPF phi__law_right [.t (.v (.lst (J a))), .t (.v (.lst (J b)))] Q E := by
  unfold phi__law_right m__law_right
  have h1 := ha.1
  have h2 := hb.1
  have h3 : (dif a b).length ≤ 60 := Nat.le_trans difN_len (by omega)
  simp [wp_run, wp_seq, wp_ifs, wp_tst, wp_op, wp_un, wp_ix, wp_var, wp_mv, varS_io, varS_v, varS_l, varS_tu, varS_lent, mvS_t, lv_lst, lv_tup, lv_int, lv_bl, wp_c, wp_fz, fzR_v, fzR_lst, fzR_tup, fzR_lent, fzR_pk, toDs_L, toDs_nil, toDs_cons, toD_v, toD_lst, toD_tup, rvQ_v, bolQ_v, intQ_v, ixR_pk, ixR_fl, ixR_ft, ixR_ll, ixS_t, ixS_io, atI_Jq, atI_Lq, atI_0, atI_1, atI_2, iop_ii, icmp_ii, wp_asg, setSl_t, setSl_lent, wp_look, wp_look2, wp_cons, wp_nil, viewRs_cons, viewRs_nil, viewR_t, viewR_lent, viewR_pk, slD_t, slD_io, fInt_i, fLen_l, fLen_t, fMax_ii, fMin_ii, isi_ll, isi_ii, isi_ib, isi_bb, fEq_q, fNe_q, pyEq_J, pyEq_Jn, pyEq_nJ, pyEq_ii, pyEq_nn, pyEq_ni, pyEq_in, pyEq_JJ2, optS_some, optS_none, wp_setix, lstAt_q, rvT_q, rvTs_nil, rvTs_t, wp_return, wp_retN, wp_expr, wp_raise, wp_aug, wp_and, wp_or, wp_not, wp_andV, wp_orV, wp_notV, wp_if, wp_lst, wp_tup, wp_some, wp_no, wp_sl, wp_listof, wp_cat, wp_meth, opApp_q, wp_rng1, wp_rng2, wp_iter, wp_for, wp_comp, wp_call, wp_callK, wp_callR, dflR, argsOf, argOf, ios, lns, putOuts, putO, putT, freeRv, itemsR_pk, itemsL_pk, itemsR_fl, itemsL_fl, itemsR_lent, itemsL_lent, itemsR_L, itemsL_L, slI_t, slI_io, seqQ_nx, seqQ_ret, seqQ_bk, seqQ_ct, lpQ_nx, lpQ_ret, lpQ_bk, lpQ_ct, runQ_ret, runQ_nx, outOf, outsAt, putL, wp_nx, wp_bk, wp_ct, wp_ret, wp_opt, L_len, J_len, J_v, J_app, L_app, L_snoc, L_set, wp_vf, wp_lend, ldQ_t, relend, iterL_J, iterT_ft, iterL_lent, pyEq_00, plainAt, wipeS, backS, line]
  refine due_spec ha hb ?_
  simp [wp_run, wp_seq, wp_ifs, wp_tst, wp_op, wp_un, wp_ix, wp_var, wp_mv, varS_io, varS_v, varS_l, varS_tu, varS_lent, mvS_t, lv_lst, lv_tup, lv_int, lv_bl, wp_c, wp_fz, fzR_v, fzR_lst, fzR_tup, fzR_lent, fzR_pk, toDs_L, toDs_nil, toDs_cons, toD_v, toD_lst, toD_tup, rvQ_v, bolQ_v, intQ_v, ixR_pk, ixR_fl, ixR_ft, ixR_ll, ixS_t, ixS_io, atI_Jq, atI_Lq, atI_0, atI_1, atI_2, iop_ii, icmp_ii, wp_asg, setSl_t, setSl_lent, wp_look, wp_look2, wp_cons, wp_nil, viewRs_cons, viewRs_nil, viewR_t, viewR_lent, viewR_pk, slD_t, slD_io, fInt_i, fLen_l, fLen_t, fMax_ii, fMin_ii, isi_ll, isi_ii, isi_ib, isi_bb, fEq_q, fNe_q, pyEq_J, pyEq_Jn, pyEq_nJ, pyEq_ii, pyEq_nn, pyEq_ni, pyEq_in, pyEq_JJ2, optS_some, optS_none, wp_setix, lstAt_q, rvT_q, rvTs_nil, rvTs_t, wp_return, wp_retN, wp_expr, wp_raise, wp_aug, wp_and, wp_or, wp_not, wp_andV, wp_orV, wp_notV, wp_if, wp_lst, wp_tup, wp_some, wp_no, wp_sl, wp_listof, wp_cat, wp_meth, opApp_q, wp_rng1, wp_rng2, wp_iter, wp_for, wp_comp, wp_call, wp_callK, wp_callR, dflR, argsOf, argOf, ios, lns, putOuts, putO, putT, freeRv, itemsR_pk, itemsL_pk, itemsR_fl, itemsL_fl, itemsR_lent, itemsL_lent, itemsR_L, itemsL_L, slI_t, slI_io, seqQ_nx, seqQ_ret, seqQ_bk, seqQ_ct, lpQ_nx, lpQ_ret, lpQ_bk, lpQ_ct, runQ_ret, runQ_nx, outOf, outsAt, putL, wp_nx, wp_bk, wp_ct, wp_ret, wp_opt, L_len, J_len, J_v, J_app, L_app, L_snoc, L_set, wp_vf, wp_lend, ldQ_t, relend, iterL_J, iterT_ft, iterL_lent, pyEq_00, plainAt, wipeS, backS, line]
  refine wp_loop (rightI a b) ⟨none, none, by simp, by simp, rfl⟩ ?_ ?_
  · rintro i hi ρ ⟨s4, s5, hs4, hs5, rfl⟩
    simp at hi
    simp [wp_run, wp_seq, wp_ifs, wp_tst, wp_op, wp_un, wp_ix, wp_var, wp_mv, varS_io, varS_v, varS_l, varS_tu, varS_lent, mvS_t, lv_lst, lv_tup, lv_int, lv_bl, wp_c, wp_fz, fzR_v, fzR_lst, fzR_tup, fzR_lent, fzR_pk, toDs_L, toDs_nil, toDs_cons, toD_v, toD_lst, toD_tup, rvQ_v, bolQ_v, intQ_v, ixR_pk, ixR_fl, ixR_ft, ixR_ll, ixS_t, ixS_io, atI_Jq, atI_Lq, atI_0, atI_1, atI_2, iop_ii, icmp_ii, wp_asg, setSl_t, setSl_lent, wp_look, wp_look2, wp_cons, wp_nil, viewRs_cons, viewRs_nil, viewR_t, viewR_lent, viewR_pk, slD_t, slD_io, fInt_i, fLen_l, fLen_t, fMax_ii, fMin_ii, isi_ll, isi_ii, isi_ib, isi_bb, fEq_q, fNe_q, pyEq_J, pyEq_Jn, pyEq_nJ, pyEq_ii, pyEq_nn, pyEq_ni, pyEq_in, pyEq_JJ2, optS_some, optS_none, wp_setix, lstAt_q, rvT_q, rvTs_nil, rvTs_t, wp_return, wp_retN, wp_expr, wp_raise, wp_aug, wp_and, wp_or, wp_not, wp_andV, wp_orV, wp_notV, wp_if, wp_lst, wp_tup, wp_some, wp_no, wp_sl, wp_listof, wp_cat, wp_meth, opApp_q, wp_rng1, wp_rng2, wp_iter, wp_for, wp_comp, wp_call, wp_callK, wp_callR, dflR, argsOf, argOf, ios, lns, putOuts, putO, putT, freeRv, itemsR_pk, itemsL_pk, itemsR_fl, itemsL_fl, itemsR_lent, itemsL_lent, itemsR_L, itemsL_L, slI_t, slI_io, seqQ_nx, seqQ_ret, seqQ_bk, seqQ_ct, lpQ_nx, lpQ_ret, lpQ_bk, lpQ_ct, runQ_ret, runQ_nx, outOf, outsAt, putL, wp_nx, wp_bk, wp_ct, wp_ret, wp_opt, L_len, J_len, J_v, J_app, L_app, L_snoc, L_set, wp_vf, wp_lend, ldQ_t, relend, iterL_J, iterT_ft, iterL_lent, pyEq_00, plainAt, wipeS, backS, line]
    refine altered_spec ha hb ?_
    simp [wp_run, wp_seq, wp_ifs, wp_tst, wp_op, wp_un, wp_ix, wp_var, wp_mv, varS_io, varS_v, varS_l, varS_tu, varS_lent, mvS_t, lv_lst, lv_tup, lv_int, lv_bl, wp_c, wp_fz, fzR_v, fzR_lst, fzR_tup, fzR_lent, fzR_pk, toDs_L, toDs_nil, toDs_cons, toD_v, toD_lst, toD_tup, rvQ_v, bolQ_v, intQ_v, ixR_pk, ixR_fl, ixR_ft, ixR_ll, ixS_t, ixS_io, atI_Jq, atI_Lq, atI_0, atI_1, atI_2, iop_ii, icmp_ii, wp_asg, setSl_t, setSl_lent, wp_look, wp_look2, wp_cons, wp_nil, viewRs_cons, viewRs_nil, viewR_t, viewR_lent, viewR_pk, slD_t, slD_io, fInt_i, fLen_l, fLen_t, fMax_ii, fMin_ii, isi_ll, isi_ii, isi_ib, isi_bb, fEq_q, fNe_q, pyEq_J, pyEq_Jn, pyEq_nJ, pyEq_ii, pyEq_nn, pyEq_ni, pyEq_in, pyEq_JJ2, optS_some, optS_none, wp_setix, lstAt_q, rvT_q, rvTs_nil, rvTs_t, wp_return, wp_retN, wp_expr, wp_raise, wp_aug, wp_and, wp_or, wp_not, wp_andV, wp_orV, wp_notV, wp_if, wp_lst, wp_tup, wp_some, wp_no, wp_sl, wp_listof, wp_cat, wp_meth, opApp_q, wp_rng1, wp_rng2, wp_iter, wp_for, wp_comp, wp_call, wp_callK, wp_callR, dflR, argsOf, argOf, ios, lns, putOuts, putO, putT, freeRv, itemsR_pk, itemsL_pk, itemsR_fl, itemsL_fl, itemsR_lent, itemsL_lent, itemsR_L, itemsL_L, slI_t, slI_io, seqQ_nx, seqQ_ret, seqQ_bk, seqQ_ct, lpQ_nx, lpQ_ret, lpQ_bk, lpQ_ct, runQ_ret, runQ_nx, outOf, outsAt, putL, wp_nx, wp_bk, wp_ct, wp_ret, wp_opt, L_len, J_len, J_v, J_app, L_app, L_snoc, L_set, wp_vf, wp_lend, ldQ_t, relend, iterL_J, iterT_ft, iterL_lent, pyEq_00, plainAt, wipeS, backS, line]
    refine lc_loop (fun k acc ρ => acc = [] ∧ ρ = [some (.t (.v (.lst (J a)))), some (.t (.v (.lst (J b)))), some (.t (.v (.lst [.lst (J a), .lst (J b)]))), some (.t (.v (.lst (J (dif a b))))), some (.t (.v (.int i))), some (.lent (.lst (J (dif a b)))), none]) (by simp [line]; omega) ⟨rfl, rfl⟩ ?_ ?_
    · rintro j hj acc ρ _ ⟨rfl, rfl⟩
      simp at hj
      simp [wp_run, wp_seq, wp_ifs, wp_tst, wp_op, wp_un, wp_ix, wp_var, wp_mv, varS_io, varS_v, varS_l, varS_tu, varS_lent, mvS_t, lv_lst, lv_tup, lv_int, lv_bl, wp_c, wp_fz, fzR_v, fzR_lst, fzR_tup, fzR_lent, fzR_pk, toDs_L, toDs_nil, toDs_cons, toD_v, toD_lst, toD_tup, rvQ_v, bolQ_v, intQ_v, ixR_pk, ixR_fl, ixR_ft, ixR_ll, ixS_t, ixS_io, atI_Jq, atI_Lq, atI_0, atI_1, atI_2, iop_ii, icmp_ii, wp_asg, setSl_t, setSl_lent, wp_look, wp_look2, wp_cons, wp_nil, viewRs_cons, viewRs_nil, viewR_t, viewR_lent, viewR_pk, slD_t, slD_io, fInt_i, fLen_l, fLen_t, fMax_ii, fMin_ii, isi_ll, isi_ii, isi_ib, isi_bb, fEq_q, fNe_q, pyEq_J, pyEq_Jn, pyEq_nJ, pyEq_ii, pyEq_nn, pyEq_ni, pyEq_in, pyEq_JJ2, optS_some, optS_none, wp_setix, lstAt_q, rvT_q, rvTs_nil, rvTs_t, wp_return, wp_retN, wp_expr, wp_raise, wp_aug, wp_and, wp_or, wp_not, wp_andV, wp_orV, wp_notV, wp_if, wp_lst, wp_tup, wp_some, wp_no, wp_sl, wp_listof, wp_cat, wp_meth, opApp_q, wp_rng1, wp_rng2, wp_iter, wp_for, wp_comp, wp_call, wp_callK, wp_callR, dflR, argsOf, argOf, ios, lns, putOuts, putO, putT, freeRv, itemsR_pk, itemsL_pk, itemsR_fl, itemsL_fl, itemsR_lent, itemsL_lent, itemsR_L, itemsL_L, slI_t, slI_io, seqQ_nx, seqQ_ret, seqQ_bk, seqQ_ct, lpQ_nx, lpQ_ret, lpQ_bk, lpQ_ct, runQ_ret, runQ_nx, outOf, outsAt, putL, wp_nx, wp_bk, wp_ct, wp_ret, wp_opt, L_len, J_len, J_v, J_app, L_app, L_snoc, L_set, wp_vf, wp_lend, ldQ_t, relend, iterL_J, iterT_ft, iterL_lent, pyEq_00, plainAt, wipeS, backS, line]
    · rintro acc ρ ⟨rfl, rfl⟩
      simp [wp_run, wp_seq, wp_ifs, wp_tst, wp_op, wp_un, wp_ix, wp_var, wp_mv, varS_io, varS_v, varS_l, varS_tu, varS_lent, mvS_t, lv_lst, lv_tup, lv_int, lv_bl, wp_c, wp_fz, fzR_v, fzR_lst, fzR_tup, fzR_lent, fzR_pk, toDs_L, toDs_nil, toDs_cons, toD_v, toD_lst, toD_tup, rvQ_v, bolQ_v, intQ_v, ixR_pk, ixR_fl, ixR_ft, ixR_ll, ixS_t, ixS_io, atI_Jq, atI_Lq, atI_0, atI_1, atI_2, iop_ii, icmp_ii, wp_asg, setSl_t, setSl_lent, wp_look, wp_look2, wp_cons, wp_nil, viewRs_cons, viewRs_nil, viewR_t, viewR_lent, viewR_pk, slD_t, slD_io, fInt_i, fLen_l, fLen_t, fMax_ii, fMin_ii, isi_ll, isi_ii, isi_ib, isi_bb, fEq_q, fNe_q, pyEq_J, pyEq_Jn, pyEq_nJ, pyEq_ii, pyEq_nn, pyEq_ni, pyEq_in, pyEq_JJ2, optS_some, optS_none, wp_setix, lstAt_q, rvT_q, rvTs_nil, rvTs_t, wp_return, wp_retN, wp_expr, wp_raise, wp_aug, wp_and, wp_or, wp_not, wp_andV, wp_orV, wp_notV, wp_if, wp_lst, wp_tup, wp_some, wp_no, wp_sl, wp_listof, wp_cat, wp_meth, opApp_q, wp_rng1, wp_rng2, wp_iter, wp_for, wp_comp, wp_call, wp_callK, wp_callR, dflR, argsOf, argOf, ios, lns, putOuts, putO, putT, freeRv, itemsR_pk, itemsL_pk, itemsR_fl, itemsL_fl, itemsR_lent, itemsL_lent, itemsR_L, itemsL_L, slI_t, slI_io, seqQ_nx, seqQ_ret, seqQ_bk, seqQ_ct, lpQ_nx, lpQ_ret, lpQ_bk, lpQ_ct, runQ_ret, runQ_nx, outOf, outsAt, putL, wp_nx, wp_bk, wp_ct, wp_ret, wp_opt, L_len, J_len, J_v, J_app, L_app, L_snoc, L_set, wp_vf, wp_lend, ldQ_t, relend, iterL_J, iterT_ft, iterL_lent, pyEq_00, plainAt, wipeS, backS, line]
      exact ⟨by omega, _, _, by simp, by simp, rfl⟩
  · rintro ρ ⟨s4, s5, _, _, rfl⟩
    simp [wp_run, wp_seq, wp_ifs, wp_tst, wp_op, wp_un, wp_ix, wp_var, wp_mv, varS_io, varS_v, varS_l, varS_tu, varS_lent, mvS_t, lv_lst, lv_tup, lv_int, lv_bl, wp_c, wp_fz, fzR_v, fzR_lst, fzR_tup, fzR_lent, fzR_pk, toDs_L, toDs_nil, toDs_cons, toD_v, toD_lst, toD_tup, rvQ_v, bolQ_v, intQ_v, ixR_pk, ixR_fl, ixR_ft, ixR_ll, ixS_t, ixS_io, atI_Jq, atI_Lq, atI_0, atI_1, atI_2, iop_ii, icmp_ii, wp_asg, setSl_t, setSl_lent, wp_look, wp_look2, wp_cons, wp_nil, viewRs_cons, viewRs_nil, viewR_t, viewR_lent, viewR_pk, slD_t, slD_io, fInt_i, fLen_l, fLen_t, fMax_ii, fMin_ii, isi_ll, isi_ii, isi_ib, isi_bb, fEq_q, fNe_q, pyEq_J, pyEq_Jn, pyEq_nJ, pyEq_ii, pyEq_nn, pyEq_ni, pyEq_in, pyEq_JJ2, optS_some, optS_none, wp_setix, lstAt_q, rvT_q, rvTs_nil, rvTs_t, wp_return, wp_retN, wp_expr, wp_raise, wp_aug, wp_and, wp_or, wp_not, wp_andV, wp_orV, wp_notV, wp_if, wp_lst, wp_tup, wp_some, wp_no, wp_sl, wp_listof, wp_cat, wp_meth, opApp_q, wp_rng1, wp_rng2, wp_iter, wp_for, wp_comp, wp_call, wp_callK, wp_callR, dflR, argsOf, argOf, ios, lns, putOuts, putO, putT, freeRv, itemsR_pk, itemsL_pk, itemsR_fl, itemsL_fl, itemsR_lent, itemsL_lent, itemsR_L, itemsL_L, slI_t, slI_io, seqQ_nx, seqQ_ret, seqQ_bk, seqQ_ct, lpQ_nx, lpQ_ret, lpQ_bk, lpQ_ct, runQ_ret, runQ_nx, outOf, outsAt, putL, wp_nx, wp_bk, wp_ct, wp_ret, wp_opt, L_len, J_len, J_v, J_app, L_app, L_snoc, L_set, wp_vf, wp_lend, ldQ_t, relend, iterL_J, iterT_ft, iterL_lent, pyEq_00, plainAt, wipeS, backS, line]
    exact hQ
end H

namespace H
open PySem PySem.Spec L2 W3
def SlI (s : Option Sl) : Prop := s = none ∨ ∃ i, s = some (.t (.v (.int i)))
theorem SlI.no {s : Option Sl} (h : SlI s) : ∀ t, s ≠ some (.io t) := fun t e => by
  rcases h with h | ⟨i, h⟩ <;> (rw [h] at e; cases e)
def otherI (b N : Int) (base : List Int) (kind : Int) (k : Nat) (ρ : Sg) : Prop := ∃ ns a' c' s, SlI s ∧ ns ≠ [] ∧ ns.length ≤ 30 ∧ (∀ x ∈ ns, 0 ≤ x ∧ x ≤ 9) ∧ BagOk a' b c' (N + 2 + 2 * k) ∧
  ρ = [some (.io (bag a' b c')), some (.t (.v (.lst (J base)))), some (.t (.v (.int kind))), some (.t (.lst (L ns))), s]
def freshI (b N kind : Int) (base ns : List Int) (k : Nat) (acc : List T) (ρ : Sg) : Prop := ∃ xs a' c', acc = L xs ∧ xs.length = k ∧ (∀ x ∈ xs, 0 ≤ x ∧ x ≤ 9) ∧ BagOk a' b c' (N + k) ∧
  ρ = [some (.io (bag a' b c')), some (.t (.v (.lst (J base)))), some (.t (.v (.int kind))), some (.t (.lst (L ns))), none]
def otherP (b N kind : Int) (base : List Int) (ρ : Sg) : Prop := ∃ ns a' c' s, ns ≠ [] ∧ ns.length ≤ 60 ∧ (∀ x ∈ ns, 0 ≤ x ∧ x ≤ 9) ∧ BagOk a' b c' (N + 50) ∧ ρ = [some (.io (bag a' b c')), some (.t (.v (.lst (J base)))), some (.t (.v (.int kind))), some (.t (.lst (L ns))), s]
theorem cut_J {ns : List Int} {v : Int} (h0 : 0 ≤ v) : cutD (J ns) (some v) none = J (ns.drop v.toNat) := by
  unfold cutD
  rw [HT.sIx_none]
  unfold HT.sIx
  dsimp only
  rw [if_neg (by omega), J_len]
  by_cases h : v.toNat ≤ ns.length
  · rw [Nat.min_eq_left h, J_drop, J_take, List.take_of_length_le (by rw [List.length_drop]; exact Nat.le_refl _)]
  · rw [Nat.min_eq_right (by omega), J_drop, J_take, List.drop_of_length_le (Nat.le_refl _), List.drop_of_length_le (by omega)]
    simp
theorem other_spec {a b c N : Int} {base : List Int} (hb : BagOk a b c N) (hN : N < 2^29) (h0 : Amt base) (hl : base.length ≤ 30) {Q : T → Sg → Prop} {E : ExQ}
    (hQ : ∀ ns a' c', Amt ns → BagOk a' b c' (N + 60) → Q (.lst (L ns)) [some (.io (bag a' b c')), none]) :
    WPF phi__law_other [.io (bag a b c), .t (.v (.lst (J base)))] Q E := by
  unfold phi__law_other m__law_other
  rw [wp_run]
  refine wp_step fun Q1 g1 => ?_
  simp [wp_run, wp_seq, wp_ifs, wp_tst, wp_op, wp_un, wp_ix, wp_var, wp_mv, varS_io, varS_v, varS_l, varS_tu, varS_lent, mvS_t, lv_lst, lv_tup, lv_int, lv_bl, wp_c, wp_fz, fzR_v, fzR_lst, fzR_tup, fzR_lent, fzR_pk, toDs_L, toDs_nil, toDs_cons, toD_v, toD_lst, toD_tup, rvQ_v, bolQ_v, intQ_v, ixR_pk, ixR_fl, ixR_ft, ixR_ll, ixS_t, ixS_io, atI_Jq, atI_Lq, atI_0, atI_1, atI_2, iop_ii, icmp_ii, wp_asg, setSl_t, setSl_lent, wp_look, wp_look2, wp_cons, wp_nil, viewRs_cons, viewRs_nil, viewR_t, viewR_lent, viewR_pk, slD_t, slD_io, fInt_i, fLen_l, fLen_t, fMax_ii, fMin_ii, isi_ll, isi_ii, isi_ib, isi_bb, fEq_q, fNe_q, pyEq_J, pyEq_Jn, pyEq_nJ, pyEq_ii, pyEq_nn, pyEq_ni, pyEq_in, pyEq_JJ2, optS_some, optS_none, wp_setix, lstAt_q, rvT_q, rvTs_nil, rvTs_t, wp_return, wp_retN, wp_expr, wp_raise, wp_aug, wp_and, wp_or, wp_not, wp_andV, wp_orV, wp_notV, wp_if, wp_lst, wp_tup, wp_some, wp_no, wp_sl, wp_listof, wp_cat, wp_meth, opApp_q, wp_rng1, wp_rng2, wp_iter, wp_for, wp_comp, wp_call, wp_callK, wp_callR, dflR, argsOf, argOf, ios, lns, putOuts, putO, putT, freeRv, itemsR_pk, itemsL_pk, itemsR_fl, itemsL_fl, itemsR_lent, itemsL_lent, itemsR_L, itemsL_L, slI_t, slI_io, seqQ_nx, seqQ_ret, seqQ_bk, seqQ_ct, lpQ_nx, lpQ_ret, lpQ_bk, lpQ_ct, runQ_ret, runQ_nx, outOf, outsAt, putL, wp_nx, wp_bk, wp_ct, wp_ret, wp_opt, L_len, J_len, J_v, J_app, L_app, L_snoc, L_set, wp_vf, wp_lend, ldQ_t, relend, iterL_J, iterT_ft, iterL_lent, pyEq_00, plainAt, wipeS, backS, line]
  refine take_spec hb (by omega) (by omega) fun v a1 c1 v0 v1 hb1 => ?_
  simp [wp_run, wp_seq, wp_ifs, wp_tst, wp_op, wp_un, wp_ix, wp_var, wp_mv, varS_io, varS_v, varS_l, varS_tu, varS_lent, mvS_t, lv_lst, lv_tup, lv_int, lv_bl, wp_c, wp_fz, fzR_v, fzR_lst, fzR_tup, fzR_lent, fzR_pk, toDs_L, toDs_nil, toDs_cons, toD_v, toD_lst, toD_tup, rvQ_v, bolQ_v, intQ_v, ixR_pk, ixR_fl, ixR_ft, ixR_ll, ixS_t, ixS_io, atI_Jq, atI_Lq, atI_0, atI_1, atI_2, iop_ii, icmp_ii, wp_asg, setSl_t, setSl_lent, wp_look, wp_look2, wp_cons, wp_nil, viewRs_cons, viewRs_nil, viewR_t, viewR_lent, viewR_pk, slD_t, slD_io, fInt_i, fLen_l, fLen_t, fMax_ii, fMin_ii, isi_ll, isi_ii, isi_ib, isi_bb, fEq_q, fNe_q, pyEq_J, pyEq_Jn, pyEq_nJ, pyEq_ii, pyEq_nn, pyEq_ni, pyEq_in, pyEq_JJ2, optS_some, optS_none, wp_setix, lstAt_q, rvT_q, rvTs_nil, rvTs_t, wp_return, wp_retN, wp_expr, wp_raise, wp_aug, wp_and, wp_or, wp_not, wp_andV, wp_orV, wp_notV, wp_if, wp_lst, wp_tup, wp_some, wp_no, wp_sl, wp_listof, wp_cat, wp_meth, opApp_q, wp_rng1, wp_rng2, wp_iter, wp_for, wp_comp, wp_call, wp_callK, wp_callR, dflR, argsOf, argOf, ios, lns, putOuts, putO, putT, freeRv, itemsR_pk, itemsL_pk, itemsR_fl, itemsL_fl, itemsR_lent, itemsL_lent, itemsR_L, itemsL_L, slI_t, slI_io, seqQ_nx, seqQ_ret, seqQ_bk, seqQ_ct, lpQ_nx, lpQ_ret, lpQ_bk, lpQ_ct, runQ_ret, runQ_nx, outOf, outsAt, putL, wp_nx, wp_bk, wp_ct, wp_ret, wp_opt, L_len, J_len, J_v, J_app, L_app, L_snoc, L_set, wp_vf, wp_lend, ldQ_t, relend, iterL_J, iterT_ft, iterL_lent, pyEq_00, plainAt, wipeS, backS, line]
  refine go_nx g1 (wp_step fun Q1 g1 => ?_)
  simp [wp_run, wp_seq, wp_ifs, wp_tst, wp_op, wp_un, wp_ix, wp_var, wp_mv, varS_io, varS_v, varS_l, varS_tu, varS_lent, mvS_t, lv_lst, lv_tup, lv_int, lv_bl, wp_c, wp_fz, fzR_v, fzR_lst, fzR_tup, fzR_lent, fzR_pk, toDs_L, toDs_nil, toDs_cons, toD_v, toD_lst, toD_tup, rvQ_v, bolQ_v, intQ_v, ixR_pk, ixR_fl, ixR_ft, ixR_ll, ixS_t, ixS_io, atI_Jq, atI_Lq, atI_0, atI_1, atI_2, iop_ii, icmp_ii, wp_asg, setSl_t, setSl_lent, wp_look, wp_look2, wp_cons, wp_nil, viewRs_cons, viewRs_nil, viewR_t, viewR_lent, viewR_pk, slD_t, slD_io, fInt_i, fLen_l, fLen_t, fMax_ii, fMin_ii, isi_ll, isi_ii, isi_ib, isi_bb, fEq_q, fNe_q, pyEq_J, pyEq_Jn, pyEq_nJ, pyEq_ii, pyEq_nn, pyEq_ni, pyEq_in, pyEq_JJ2, optS_some, optS_none, wp_setix, lstAt_q, rvT_q, rvTs_nil, rvTs_t, wp_return, wp_retN, wp_expr, wp_raise, wp_aug, wp_and, wp_or, wp_not, wp_andV, wp_orV, wp_notV, wp_if, wp_lst, wp_tup, wp_some, wp_no, wp_sl, wp_listof, wp_cat, wp_meth, opApp_q, wp_rng1, wp_rng2, wp_iter, wp_for, wp_comp, wp_call, wp_callK, wp_callR, dflR, argsOf, argOf, ios, lns, putOuts, putO, putT, freeRv, itemsR_pk, itemsL_pk, itemsR_fl, itemsL_fl, itemsR_lent, itemsL_lent, itemsR_L, itemsL_L, slI_t, slI_io, seqQ_nx, seqQ_ret, seqQ_bk, seqQ_ct, lpQ_nx, lpQ_ret, lpQ_bk, lpQ_ct, runQ_ret, runQ_nx, outOf, outsAt, putL, wp_nx, wp_bk, wp_ct, wp_ret, wp_opt, L_len, J_len, J_v, J_app, L_app, L_snoc, L_set, wp_vf, wp_lend, ldQ_t, relend, iterL_J, iterT_ft, iterL_lent, pyEq_00, plainAt, wipeS, backS, line]
  split
  · refine size_spec hb1 (by omega) (by omega) fun v a2 c2 v0 v1 hb2 => ?_
    simp [wp_run, wp_seq, wp_ifs, wp_tst, wp_op, wp_un, wp_ix, wp_var, wp_mv, varS_io, varS_v, varS_l, varS_tu, varS_lent, mvS_t, lv_lst, lv_tup, lv_int, lv_bl, wp_c, wp_fz, fzR_v, fzR_lst, fzR_tup, fzR_lent, fzR_pk, toDs_L, toDs_nil, toDs_cons, toD_v, toD_lst, toD_tup, rvQ_v, bolQ_v, intQ_v, ixR_pk, ixR_fl, ixR_ft, ixR_ll, ixS_t, ixS_io, atI_Jq, atI_Lq, atI_0, atI_1, atI_2, iop_ii, icmp_ii, wp_asg, setSl_t, setSl_lent, wp_look, wp_look2, wp_cons, wp_nil, viewRs_cons, viewRs_nil, viewR_t, viewR_lent, viewR_pk, slD_t, slD_io, fInt_i, fLen_l, fLen_t, fMax_ii, fMin_ii, isi_ll, isi_ii, isi_ib, isi_bb, fEq_q, fNe_q, pyEq_J, pyEq_Jn, pyEq_nJ, pyEq_ii, pyEq_nn, pyEq_ni, pyEq_in, pyEq_JJ2, optS_some, optS_none, wp_setix, lstAt_q, rvT_q, rvTs_nil, rvTs_t, wp_return, wp_retN, wp_expr, wp_raise, wp_aug, wp_and, wp_or, wp_not, wp_andV, wp_orV, wp_notV, wp_if, wp_lst, wp_tup, wp_some, wp_no, wp_sl, wp_listof, wp_cat, wp_meth, opApp_q, wp_rng1, wp_rng2, wp_iter, wp_for, wp_comp, wp_call, wp_callK, wp_callR, dflR, argsOf, argOf, ios, lns, putOuts, putO, putT, freeRv, itemsR_pk, itemsL_pk, itemsR_fl, itemsL_fl, itemsR_lent, itemsL_lent, itemsR_L, itemsL_L, slI_t, slI_io, seqQ_nx, seqQ_ret, seqQ_bk, seqQ_ct, lpQ_nx, lpQ_ret, lpQ_bk, lpQ_ct, runQ_ret, runQ_nx, outOf, outsAt, putL, wp_nx, wp_bk, wp_ct, wp_ret, wp_opt, L_len, J_len, J_v, J_app, L_app, L_snoc, L_set, wp_vf, wp_lend, ldQ_t, relend, iterL_J, iterT_ft, iterL_lent, pyEq_00, plainAt, wipeS, backS, line]
    refine amount_spec hb2 (by omega) (by omega) fun ns a3 c3 n0 n1 hb3 => ?_
    refine go_ret g1 ?_
    simp [wp_run, wp_seq, wp_ifs, wp_tst, wp_op, wp_un, wp_ix, wp_var, wp_mv, varS_io, varS_v, varS_l, varS_tu, varS_lent, mvS_t, lv_lst, lv_tup, lv_int, lv_bl, wp_c, wp_fz, fzR_v, fzR_lst, fzR_tup, fzR_lent, fzR_pk, toDs_L, toDs_nil, toDs_cons, toD_v, toD_lst, toD_tup, rvQ_v, bolQ_v, intQ_v, ixR_pk, ixR_fl, ixR_ft, ixR_ll, ixS_t, ixS_io, atI_Jq, atI_Lq, atI_0, atI_1, atI_2, iop_ii, icmp_ii, wp_asg, setSl_t, setSl_lent, wp_look, wp_look2, wp_cons, wp_nil, viewRs_cons, viewRs_nil, viewR_t, viewR_lent, viewR_pk, slD_t, slD_io, fInt_i, fLen_l, fLen_t, fMax_ii, fMin_ii, isi_ll, isi_ii, isi_ib, isi_bb, fEq_q, fNe_q, pyEq_J, pyEq_Jn, pyEq_nJ, pyEq_ii, pyEq_nn, pyEq_ni, pyEq_in, pyEq_JJ2, optS_some, optS_none, wp_setix, lstAt_q, rvT_q, rvTs_nil, rvTs_t, wp_return, wp_retN, wp_expr, wp_raise, wp_aug, wp_and, wp_or, wp_not, wp_andV, wp_orV, wp_notV, wp_if, wp_lst, wp_tup, wp_some, wp_no, wp_sl, wp_listof, wp_cat, wp_meth, opApp_q, wp_rng1, wp_rng2, wp_iter, wp_for, wp_comp, wp_call, wp_callK, wp_callR, dflR, argsOf, argOf, ios, lns, putOuts, putO, putT, freeRv, itemsR_pk, itemsL_pk, itemsR_fl, itemsL_fl, itemsR_lent, itemsL_lent, itemsR_L, itemsL_L, slI_t, slI_io, seqQ_nx, seqQ_ret, seqQ_bk, seqQ_ct, lpQ_nx, lpQ_ret, lpQ_bk, lpQ_ct, runQ_ret, runQ_nx, outOf, outsAt, putL, wp_nx, wp_bk, wp_ct, wp_ret, wp_opt, L_len, J_len, J_v, J_app, L_app, L_snoc, L_set, wp_vf, wp_lend, ldQ_t, relend, iterL_J, iterT_ft, iterL_lent, pyEq_00, plainAt, wipeS, backS, line]
    exact hQ _ _ _ n0 (hb3.le (by omega))
  refine go_nx g1 (wp_step fun Q1 g1 => ?_)
  simp [wp_run, wp_seq, wp_ifs, wp_tst, wp_op, wp_un, wp_ix, wp_var, wp_mv, varS_io, varS_v, varS_l, varS_tu, varS_lent, mvS_t, lv_lst, lv_tup, lv_int, lv_bl, wp_c, wp_fz, fzR_v, fzR_lst, fzR_tup, fzR_lent, fzR_pk, toDs_L, toDs_nil, toDs_cons, toD_v, toD_lst, toD_tup, rvQ_v, bolQ_v, intQ_v, ixR_pk, ixR_fl, ixR_ft, ixR_ll, ixS_t, ixS_io, atI_Jq, atI_Lq, atI_0, atI_1, atI_2, iop_ii, icmp_ii, wp_asg, setSl_t, setSl_lent, wp_look, wp_look2, wp_cons, wp_nil, viewRs_cons, viewRs_nil, viewR_t, viewR_lent, viewR_pk, slD_t, slD_io, fInt_i, fLen_l, fLen_t, fMax_ii, fMin_ii, isi_ll, isi_ii, isi_ib, isi_bb, fEq_q, fNe_q, pyEq_J, pyEq_Jn, pyEq_nJ, pyEq_ii, pyEq_nn, pyEq_ni, pyEq_in, pyEq_JJ2, optS_some, optS_none, wp_setix, lstAt_q, rvT_q, rvTs_nil, rvTs_t, wp_return, wp_retN, wp_expr, wp_raise, wp_aug, wp_and, wp_or, wp_not, wp_andV, wp_orV, wp_notV, wp_if, wp_lst, wp_tup, wp_some, wp_no, wp_sl, wp_listof, wp_cat, wp_meth, opApp_q, wp_rng1, wp_rng2, wp_iter, wp_for, wp_comp, wp_call, wp_callK, wp_callR, dflR, argsOf, argOf, ios, lns, putOuts, putO, putT, freeRv, itemsR_pk, itemsL_pk, itemsR_fl, itemsL_fl, itemsR_lent, itemsL_lent, itemsR_L, itemsL_L, slI_t, slI_io, seqQ_nx, seqQ_ret, seqQ_bk, seqQ_ct, lpQ_nx, lpQ_ret, lpQ_bk, lpQ_ct, runQ_ret, runQ_nx, outOf, outsAt, putL, wp_nx, wp_bk, wp_ct, wp_ret, wp_opt, L_len, J_len, J_v, J_app, L_app, L_snoc, L_set, wp_vf, wp_lend, ldQ_t, relend, iterL_J, iterT_ft, iterL_lent, pyEq_00, plainAt, wipeS, backS, line]
  refine go_nx g1 (wp_step fun Q1 g1 => ?_)
  simp [wp_run, wp_seq, wp_ifs, wp_tst, wp_op, wp_un, wp_ix, wp_var, wp_mv, varS_io, varS_v, varS_l, varS_tu, varS_lent, mvS_t, lv_lst, lv_tup, lv_int, lv_bl, wp_c, wp_fz, fzR_v, fzR_lst, fzR_tup, fzR_lent, fzR_pk, toDs_L, toDs_nil, toDs_cons, toD_v, toD_lst, toD_tup, rvQ_v, bolQ_v, intQ_v, ixR_pk, ixR_fl, ixR_ft, ixR_ll, ixS_t, ixS_io, atI_Jq, atI_Lq, atI_0, atI_1, atI_2, iop_ii, icmp_ii, wp_asg, setSl_t, setSl_lent, wp_look, wp_look2, wp_cons, wp_nil, viewRs_cons, viewRs_nil, viewR_t, viewR_lent, viewR_pk, slD_t, slD_io, fInt_i, fLen_l, fLen_t, fMax_ii, fMin_ii, isi_ll, isi_ii, isi_ib, isi_bb, fEq_q, fNe_q, pyEq_J, pyEq_Jn, pyEq_nJ, pyEq_ii, pyEq_nn, pyEq_ni, pyEq_in, pyEq_JJ2, optS_some, optS_none, wp_setix, lstAt_q, rvT_q, rvTs_nil, rvTs_t, wp_return, wp_retN, wp_expr, wp_raise, wp_aug, wp_and, wp_or, wp_not, wp_andV, wp_orV, wp_notV, wp_if, wp_lst, wp_tup, wp_some, wp_no, wp_sl, wp_listof, wp_cat, wp_meth, opApp_q, wp_rng1, wp_rng2, wp_iter, wp_for, wp_comp, wp_call, wp_callK, wp_callR, dflR, argsOf, argOf, ios, lns, putOuts, putO, putT, freeRv, itemsR_pk, itemsL_pk, itemsR_fl, itemsL_fl, itemsR_lent, itemsL_lent, itemsR_L, itemsL_L, slI_t, slI_io, seqQ_nx, seqQ_ret, seqQ_bk, seqQ_ct, lpQ_nx, lpQ_ret, lpQ_bk, lpQ_ct, runQ_ret, runQ_nx, outOf, outsAt, putL, wp_nx, wp_bk, wp_ct, wp_ret, wp_opt, L_len, J_len, J_v, J_app, L_app, L_snoc, L_set, wp_vf, wp_lend, ldQ_t, relend, iterL_J, iterT_ft, iterL_lent, pyEq_00, plainAt, wipeS, backS, line]
  refine take_spec hb1 (by omega) (by omega) fun u a2 c2 u0 u1 hb2 => ?_
  simp [wp_run, wp_seq, wp_ifs, wp_tst, wp_op, wp_un, wp_ix, wp_var, wp_mv, varS_io, varS_v, varS_l, varS_tu, varS_lent, mvS_t, lv_lst, lv_tup, lv_int, lv_bl, wp_c, wp_fz, fzR_v, fzR_lst, fzR_tup, fzR_lent, fzR_pk, toDs_L, toDs_nil, toDs_cons, toD_v, toD_lst, toD_tup, rvQ_v, bolQ_v, intQ_v, ixR_pk, ixR_fl, ixR_ft, ixR_ll, ixS_t, ixS_io, atI_Jq, atI_Lq, atI_0, atI_1, atI_2, iop_ii, icmp_ii, wp_asg, setSl_t, setSl_lent, wp_look, wp_look2, wp_cons, wp_nil, viewRs_cons, viewRs_nil, viewR_t, viewR_lent, viewR_pk, slD_t, slD_io, fInt_i, fLen_l, fLen_t, fMax_ii, fMin_ii, isi_ll, isi_ii, isi_ib, isi_bb, fEq_q, fNe_q, pyEq_J, pyEq_Jn, pyEq_nJ, pyEq_ii, pyEq_nn, pyEq_ni, pyEq_in, pyEq_JJ2, optS_some, optS_none, wp_setix, lstAt_q, rvT_q, rvTs_nil, rvTs_t, wp_return, wp_retN, wp_expr, wp_raise, wp_aug, wp_and, wp_or, wp_not, wp_andV, wp_orV, wp_notV, wp_if, wp_lst, wp_tup, wp_some, wp_no, wp_sl, wp_listof, wp_cat, wp_meth, opApp_q, wp_rng1, wp_rng2, wp_iter, wp_for, wp_comp, wp_call, wp_callK, wp_callR, dflR, argsOf, argOf, ios, lns, putOuts, putO, putT, freeRv, itemsR_pk, itemsL_pk, itemsR_fl, itemsL_fl, itemsR_lent, itemsL_lent, itemsR_L, itemsL_L, slI_t, slI_io, seqQ_nx, seqQ_ret, seqQ_bk, seqQ_ct, lpQ_nx, lpQ_ret, lpQ_bk, lpQ_ct, runQ_ret, runQ_nx, outOf, outsAt, putL, wp_nx, wp_bk, wp_ct, wp_ret, wp_opt, L_len, J_len, J_v, J_app, L_app, L_snoc, L_set, wp_vf, wp_lend, ldQ_t, relend, iterL_J, iterT_ft, iterL_lent, pyEq_00, plainAt, wipeS, backS, line]
  refine ⟨by omega, ?_⟩
  refine wp_loop (otherI b N base v) ⟨base, a2, c2, none, .inl rfl, h0.ne, hl, h0.2.2, hb2.le (by omega), rfl⟩ ?_ ?_
  · rintro i hi ρ ⟨ns, a3, c3, s, hs, e1, e2, e3, hb3, rfl⟩
    simp at hi
    have hs := hs.no
    simp [wp_run, wp_seq, wp_ifs, wp_tst, wp_op, wp_un, wp_ix, wp_var, wp_mv, varS_io, varS_v, varS_l, varS_tu, varS_lent, mvS_t, lv_lst, lv_tup, lv_int, lv_bl, wp_c, wp_fz, fzR_v, fzR_lst, fzR_tup, fzR_lent, fzR_pk, toDs_L, toDs_nil, toDs_cons, toD_v, toD_lst, toD_tup, rvQ_v, bolQ_v, intQ_v, ixR_pk, ixR_fl, ixR_ft, ixR_ll, ixS_t, ixS_io, atI_Jq, atI_Lq, atI_0, atI_1, atI_2, iop_ii, icmp_ii, wp_asg, setSl_t, setSl_lent, wp_look, wp_look2, wp_cons, wp_nil, viewRs_cons, viewRs_nil, viewR_t, viewR_lent, viewR_pk, slD_t, slD_io, fInt_i, fLen_l, fLen_t, fMax_ii, fMin_ii, isi_ll, isi_ii, isi_ib, isi_bb, fEq_q, fNe_q, pyEq_J, pyEq_Jn, pyEq_nJ, pyEq_ii, pyEq_nn, pyEq_ni, pyEq_in, pyEq_JJ2, optS_some, optS_none, wp_setix, lstAt_q, rvT_q, rvTs_nil, rvTs_t, wp_return, wp_retN, wp_expr, wp_raise, wp_aug, wp_and, wp_or, wp_not, wp_andV, wp_orV, wp_notV, wp_if, wp_lst, wp_tup, wp_some, wp_no, wp_sl, wp_listof, wp_cat, wp_meth, opApp_q, wp_rng1, wp_rng2, wp_iter, wp_for, wp_comp, wp_call, wp_callK, wp_callR, dflR, argsOf, argOf, ios, lns, putOuts, putO, putT, freeRv, itemsR_pk, itemsL_pk, itemsR_fl, itemsL_fl, itemsR_lent, itemsL_lent, itemsR_L, itemsL_L, slI_t, slI_io, seqQ_nx, seqQ_ret, seqQ_bk, seqQ_ct, lpQ_nx, lpQ_ret, lpQ_bk, lpQ_ct, runQ_ret, runQ_nx, outOf, outsAt, putL, wp_nx, wp_bk, wp_ct, wp_ret, wp_opt, L_len, J_len, J_v, J_app, L_app, L_snoc, L_set, wp_vf, wp_lend, ldQ_t, relend, iterL_J, iterT_ft, iterL_lent, pyEq_00, plainAt, wipeS, backS, line]
    refine take_spec hb3 (by omega) (by omega) fun x a3 c3 x0 x1 hb3 => ?_
    simp [wp_run, wp_seq, wp_ifs, wp_tst, wp_op, wp_un, wp_ix, wp_var, wp_mv, varS_io, varS_v, varS_l, varS_tu, varS_lent, mvS_t, lv_lst, lv_tup, lv_int, lv_bl, wp_c, wp_fz, fzR_v, fzR_lst, fzR_tup, fzR_lent, fzR_pk, toDs_L, toDs_nil, toDs_cons, toD_v, toD_lst, toD_tup, rvQ_v, bolQ_v, intQ_v, ixR_pk, ixR_fl, ixR_ft, ixR_ll, ixS_t, ixS_io, atI_Jq, atI_Lq, atI_0, atI_1, atI_2, iop_ii, icmp_ii, wp_asg, setSl_t, setSl_lent, wp_look, wp_look2, wp_cons, wp_nil, viewRs_cons, viewRs_nil, viewR_t, viewR_lent, viewR_pk, slD_t, slD_io, fInt_i, fLen_l, fLen_t, fMax_ii, fMin_ii, isi_ll, isi_ii, isi_ib, isi_bb, fEq_q, fNe_q, pyEq_J, pyEq_Jn, pyEq_nJ, pyEq_ii, pyEq_nn, pyEq_ni, pyEq_in, pyEq_JJ2, optS_some, optS_none, wp_setix, lstAt_q, rvT_q, rvTs_nil, rvTs_t, wp_return, wp_retN, wp_expr, wp_raise, wp_aug, wp_and, wp_or, wp_not, wp_andV, wp_orV, wp_notV, wp_if, wp_lst, wp_tup, wp_some, wp_no, wp_sl, wp_listof, wp_cat, wp_meth, opApp_q, wp_rng1, wp_rng2, wp_iter, wp_for, wp_comp, wp_call, wp_callK, wp_callR, dflR, argsOf, argOf, ios, lns, putOuts, putO, putT, freeRv, itemsR_pk, itemsL_pk, itemsR_fl, itemsL_fl, itemsR_lent, itemsL_lent, itemsR_L, itemsL_L, slI_t, slI_io, seqQ_nx, seqQ_ret, seqQ_bk, seqQ_ct, lpQ_nx, lpQ_ret, lpQ_bk, lpQ_ct, runQ_ret, runQ_nx, outOf, outsAt, putL, wp_nx, wp_bk, wp_ct, wp_ret, wp_opt, L_len, J_len, J_v, J_app, L_app, L_snoc, L_set, wp_vf, wp_lend, ldQ_t, relend, iterL_J, iterT_ft, iterL_lent, pyEq_00, plainAt, wipeS, backS, line]
    have hp := List.length_pos_iff.mpr e1
    refine take_spec hb3 (by omega) (by omega) fun y a3 c3 y0 y1 hb3 => ?_
    simp [wp_run, wp_seq, wp_ifs, wp_tst, wp_op, wp_un, wp_ix, wp_var, wp_mv, varS_io, varS_v, varS_l, varS_tu, varS_lent, mvS_t, lv_lst, lv_tup, lv_int, lv_bl, wp_c, wp_fz, fzR_v, fzR_lst, fzR_tup, fzR_lent, fzR_pk, toDs_L, toDs_nil, toDs_cons, toD_v, toD_lst, toD_tup, rvQ_v, bolQ_v, intQ_v, ixR_pk, ixR_fl, ixR_ft, ixR_ll, ixS_t, ixS_io, atI_Jq, atI_Lq, atI_0, atI_1, atI_2, iop_ii, icmp_ii, wp_asg, setSl_t, setSl_lent, wp_look, wp_look2, wp_cons, wp_nil, viewRs_cons, viewRs_nil, viewR_t, viewR_lent, viewR_pk, slD_t, slD_io, fInt_i, fLen_l, fLen_t, fMax_ii, fMin_ii, isi_ll, isi_ii, isi_ib, isi_bb, fEq_q, fNe_q, pyEq_J, pyEq_Jn, pyEq_nJ, pyEq_ii, pyEq_nn, pyEq_ni, pyEq_in, pyEq_JJ2, optS_some, optS_none, wp_setix, lstAt_q, rvT_q, rvTs_nil, rvTs_t, wp_return, wp_retN, wp_expr, wp_raise, wp_aug, wp_and, wp_or, wp_not, wp_andV, wp_orV, wp_notV, wp_if, wp_lst, wp_tup, wp_some, wp_no, wp_sl, wp_listof, wp_cat, wp_meth, opApp_q, wp_rng1, wp_rng2, wp_iter, wp_for, wp_comp, wp_call, wp_callK, wp_callR, dflR, argsOf, argOf, ios, lns, putOuts, putO, putT, freeRv, itemsR_pk, itemsL_pk, itemsR_fl, itemsL_fl, itemsR_lent, itemsL_lent, itemsR_L, itemsL_L, slI_t, slI_io, seqQ_nx, seqQ_ret, seqQ_bk, seqQ_ct, lpQ_nx, lpQ_ret, lpQ_bk, lpQ_ct, runQ_ret, runQ_nx, outOf, outsAt, putL, wp_nx, wp_bk, wp_ct, wp_ret, wp_opt, L_len, J_len, J_v, J_app, L_app, L_snoc, L_set, wp_vf, wp_lend, ldQ_t, relend, iterL_J, iterT_ft, iterL_lent, pyEq_00, plainAt, wipeS, backS, line]
    rw [ixN_nn y0 (by omega)]
    simp [wp_run, wp_seq, wp_ifs, wp_tst, wp_op, wp_un, wp_ix, wp_var, wp_mv, varS_io, varS_v, varS_l, varS_tu, varS_lent, mvS_t, lv_lst, lv_tup, lv_int, lv_bl, wp_c, wp_fz, fzR_v, fzR_lst, fzR_tup, fzR_lent, fzR_pk, toDs_L, toDs_nil, toDs_cons, toD_v, toD_lst, toD_tup, rvQ_v, bolQ_v, intQ_v, ixR_pk, ixR_fl, ixR_ft, ixR_ll, ixS_t, ixS_io, atI_Jq, atI_Lq, atI_0, atI_1, atI_2, iop_ii, icmp_ii, wp_asg, setSl_t, setSl_lent, wp_look, wp_look2, wp_cons, wp_nil, viewRs_cons, viewRs_nil, viewR_t, viewR_lent, viewR_pk, slD_t, slD_io, fInt_i, fLen_l, fLen_t, fMax_ii, fMin_ii, isi_ll, isi_ii, isi_ib, isi_bb, fEq_q, fNe_q, pyEq_J, pyEq_Jn, pyEq_nJ, pyEq_ii, pyEq_nn, pyEq_ni, pyEq_in, pyEq_JJ2, optS_some, optS_none, wp_setix, lstAt_q, rvT_q, rvTs_nil, rvTs_t, wp_return, wp_retN, wp_expr, wp_raise, wp_aug, wp_and, wp_or, wp_not, wp_andV, wp_orV, wp_notV, wp_if, wp_lst, wp_tup, wp_some, wp_no, wp_sl, wp_listof, wp_cat, wp_meth, opApp_q, wp_rng1, wp_rng2, wp_iter, wp_for, wp_comp, wp_call, wp_callK, wp_callR, dflR, argsOf, argOf, ios, lns, putOuts, putO, putT, freeRv, itemsR_pk, itemsL_pk, itemsR_fl, itemsL_fl, itemsR_lent, itemsL_lent, itemsR_L, itemsL_L, slI_t, slI_io, seqQ_nx, seqQ_ret, seqQ_bk, seqQ_ct, lpQ_nx, lpQ_ret, lpQ_bk, lpQ_ct, runQ_ret, runQ_nx, outOf, outsAt, putL, wp_nx, wp_bk, wp_ct, wp_ret, wp_opt, L_len, J_len, J_v, J_app, L_app, L_snoc, L_set, wp_vf, wp_lend, ldQ_t, relend, iterL_J, iterT_ft, iterL_lent, pyEq_00, plainAt, wipeS, backS, line]
    refine ⟨_, a3, c3, _, .inr ⟨_, rfl⟩, by simp [e1], by simpa using e2, fun z m => ?_, hb3.le (by omega), rfl⟩
    rcases List.mem_or_eq_of_mem_set m with m | m
    · exact e3 z m
    · rw [m]; omega
  rintro ρ ⟨ns, a3, c3, s, hs, e1, e2, e3, hb3, rfl⟩
  refine go_nx g1 (wp_mid (otherP b N v base) ?_ ?_)
  · have hp := List.length_pos_iff.mpr e1
    simp at hb3
    simp [wp_run, wp_seq, wp_ifs, wp_tst, wp_op, wp_un, wp_ix, wp_var, wp_mv, varS_io, varS_v, varS_l, varS_tu, varS_lent, mvS_t, lv_lst, lv_tup, lv_int, lv_bl, wp_c, wp_fz, fzR_v, fzR_lst, fzR_tup, fzR_lent, fzR_pk, toDs_L, toDs_nil, toDs_cons, toD_v, toD_lst, toD_tup, rvQ_v, bolQ_v, intQ_v, ixR_pk, ixR_fl, ixR_ft, ixR_ll, ixS_t, ixS_io, atI_Jq, atI_Lq, atI_0, atI_1, atI_2, iop_ii, icmp_ii, wp_asg, setSl_t, setSl_lent, wp_look, wp_look2, wp_cons, wp_nil, viewRs_cons, viewRs_nil, viewR_t, viewR_lent, viewR_pk, slD_t, slD_io, fInt_i, fLen_l, fLen_t, fMax_ii, fMin_ii, isi_ll, isi_ii, isi_ib, isi_bb, fEq_q, fNe_q, pyEq_J, pyEq_Jn, pyEq_nJ, pyEq_ii, pyEq_nn, pyEq_ni, pyEq_in, pyEq_JJ2, optS_some, optS_none, wp_setix, lstAt_q, rvT_q, rvTs_nil, rvTs_t, wp_return, wp_retN, wp_expr, wp_raise, wp_aug, wp_and, wp_or, wp_not, wp_andV, wp_orV, wp_notV, wp_if, wp_lst, wp_tup, wp_some, wp_no, wp_sl, wp_listof, wp_cat, wp_meth, opApp_q, wp_rng1, wp_rng2, wp_iter, wp_for, wp_comp, wp_call, wp_callK, wp_callR, dflR, argsOf, argOf, ios, lns, putOuts, putO, putT, freeRv, itemsR_pk, itemsL_pk, itemsR_fl, itemsL_fl, itemsR_lent, itemsL_lent, itemsR_L, itemsL_L, slI_t, slI_io, seqQ_nx, seqQ_ret, seqQ_bk, seqQ_ct, lpQ_nx, lpQ_ret, lpQ_bk, lpQ_ct, runQ_ret, runQ_nx, outOf, outsAt, putL, wp_nx, wp_bk, wp_ct, wp_ret, wp_opt, L_len, J_len, J_v, J_app, L_app, L_snoc, L_set, wp_vf, wp_lend, ldQ_t, relend, iterL_J, iterT_ft, iterL_lent, pyEq_00, plainAt, wipeS, backS, line]
    split
    · refine take_spec hb3 (by omega) (by omega) fun x a3 c3 x0 x1 hb3 => ?_
      have pl : (match s with | some (.t (.v _)) => true | some (.lent _) => true | none => true | _ => false) = true := by
        rcases hs with h | ⟨i, h⟩ <;> (subst h; rfl)
      rcases hs with h | ⟨i, h⟩
      · subst h
        simp [wp_run, wp_seq, wp_ifs, wp_tst, wp_op, wp_un, wp_ix, wp_var, wp_mv, varS_io, varS_v, varS_l, varS_tu, varS_lent, mvS_t, lv_lst, lv_tup, lv_int, lv_bl, wp_c, wp_fz, fzR_v, fzR_lst, fzR_tup, fzR_lent, fzR_pk, toDs_L, toDs_nil, toDs_cons, toD_v, toD_lst, toD_tup, rvQ_v, bolQ_v, intQ_v, ixR_pk, ixR_fl, ixR_ft, ixR_ll, ixS_t, ixS_io, atI_Jq, atI_Lq, atI_0, atI_1, atI_2, iop_ii, icmp_ii, wp_asg, setSl_t, setSl_lent, wp_look, wp_look2, wp_cons, wp_nil, viewRs_cons, viewRs_nil, viewR_t, viewR_lent, viewR_pk, slD_t, slD_io, fInt_i, fLen_l, fLen_t, fMax_ii, fMin_ii, isi_ll, isi_ii, isi_ib, isi_bb, fEq_q, fNe_q, pyEq_J, pyEq_Jn, pyEq_nJ, pyEq_ii, pyEq_nn, pyEq_ni, pyEq_in, pyEq_JJ2, optS_some, optS_none, wp_setix, lstAt_q, rvT_q, rvTs_nil, rvTs_t, wp_return, wp_retN, wp_expr, wp_raise, wp_aug, wp_and, wp_or, wp_not, wp_andV, wp_orV, wp_notV, wp_if, wp_lst, wp_tup, wp_some, wp_no, wp_sl, wp_listof, wp_cat, wp_meth, opApp_q, wp_rng1, wp_rng2, wp_iter, wp_for, wp_comp, wp_call, wp_callK, wp_callR, dflR, argsOf, argOf, ios, lns, putOuts, putO, putT, freeRv, itemsR_pk, itemsL_pk, itemsR_fl, itemsL_fl, itemsR_lent, itemsL_lent, itemsR_L, itemsL_L, slI_t, slI_io, seqQ_nx, seqQ_ret, seqQ_bk, seqQ_ct, lpQ_nx, lpQ_ret, lpQ_bk, lpQ_ct, runQ_ret, runQ_nx, outOf, outsAt, putL, wp_nx, wp_bk, wp_ct, wp_ret, wp_opt, L_len, J_len, J_v, J_app, L_app, L_snoc, L_set, wp_vf, wp_lend, ldQ_t, relend, iterL_J, iterT_ft, iterL_lent, pyEq_00, plainAt, wipeS, backS, line]
        refine ⟨by omega, ?_⟩
        refine lc_loop (freshI b (N + 20) v base ns) (by simp [line]; omega) ⟨[], a3, c3, rfl, rfl, by simp, hb3.le (by omega), rfl⟩ ?_ ?_
        · rintro i hi acc ρ _ ⟨xs, a4, c4, rfl, r1, r2, hb4, rfl⟩
          simp at hi
          simp [wp_run, wp_seq, wp_ifs, wp_tst, wp_op, wp_un, wp_ix, wp_var, wp_mv, varS_io, varS_v, varS_l, varS_tu, varS_lent, mvS_t, lv_lst, lv_tup, lv_int, lv_bl, wp_c, wp_fz, fzR_v, fzR_lst, fzR_tup, fzR_lent, fzR_pk, toDs_L, toDs_nil, toDs_cons, toD_v, toD_lst, toD_tup, rvQ_v, bolQ_v, intQ_v, ixR_pk, ixR_fl, ixR_ft, ixR_ll, ixS_t, ixS_io, atI_Jq, atI_Lq, atI_0, atI_1, atI_2, iop_ii, icmp_ii, wp_asg, setSl_t, setSl_lent, wp_look, wp_look2, wp_cons, wp_nil, viewRs_cons, viewRs_nil, viewR_t, viewR_lent, viewR_pk, slD_t, slD_io, fInt_i, fLen_l, fLen_t, fMax_ii, fMin_ii, isi_ll, isi_ii, isi_ib, isi_bb, fEq_q, fNe_q, pyEq_J, pyEq_Jn, pyEq_nJ, pyEq_ii, pyEq_nn, pyEq_ni, pyEq_in, pyEq_JJ2, optS_some, optS_none, wp_setix, lstAt_q, rvT_q, rvTs_nil, rvTs_t, wp_return, wp_retN, wp_expr, wp_raise, wp_aug, wp_and, wp_or, wp_not, wp_andV, wp_orV, wp_notV, wp_if, wp_lst, wp_tup, wp_some, wp_no, wp_sl, wp_listof, wp_cat, wp_meth, opApp_q, wp_rng1, wp_rng2, wp_iter, wp_for, wp_comp, wp_call, wp_callK, wp_callR, dflR, argsOf, argOf, ios, lns, putOuts, putO, putT, freeRv, itemsR_pk, itemsL_pk, itemsR_fl, itemsL_fl, itemsR_lent, itemsL_lent, itemsR_L, itemsL_L, slI_t, slI_io, seqQ_nx, seqQ_ret, seqQ_bk, seqQ_ct, lpQ_nx, lpQ_ret, lpQ_bk, lpQ_ct, runQ_ret, runQ_nx, outOf, outsAt, putL, wp_nx, wp_bk, wp_ct, wp_ret, wp_opt, L_len, J_len, J_v, J_app, L_app, L_snoc, L_set, wp_vf, wp_lend, ldQ_t, relend, iterL_J, iterT_ft, iterL_lent, pyEq_00, plainAt, wipeS, backS, line]
          refine take_spec hb4 (by omega) (by omega) fun y a5 c5 y0 y1 hb5 => ?_
          simp [wp_run, wp_seq, wp_ifs, wp_tst, wp_op, wp_un, wp_ix, wp_var, wp_mv, varS_io, varS_v, varS_l, varS_tu, varS_lent, mvS_t, lv_lst, lv_tup, lv_int, lv_bl, wp_c, wp_fz, fzR_v, fzR_lst, fzR_tup, fzR_lent, fzR_pk, toDs_L, toDs_nil, toDs_cons, toD_v, toD_lst, toD_tup, rvQ_v, bolQ_v, intQ_v, ixR_pk, ixR_fl, ixR_ft, ixR_ll, ixS_t, ixS_io, atI_Jq, atI_Lq, atI_0, atI_1, atI_2, iop_ii, icmp_ii, wp_asg, setSl_t, setSl_lent, wp_look, wp_look2, wp_cons, wp_nil, viewRs_cons, viewRs_nil, viewR_t, viewR_lent, viewR_pk, slD_t, slD_io, fInt_i, fLen_l, fLen_t, fMax_ii, fMin_ii, isi_ll, isi_ii, isi_ib, isi_bb, fEq_q, fNe_q, pyEq_J, pyEq_Jn, pyEq_nJ, pyEq_ii, pyEq_nn, pyEq_ni, pyEq_in, pyEq_JJ2, optS_some, optS_none, wp_setix, lstAt_q, rvT_q, rvTs_nil, rvTs_t, wp_return, wp_retN, wp_expr, wp_raise, wp_aug, wp_and, wp_or, wp_not, wp_andV, wp_orV, wp_notV, wp_if, wp_lst, wp_tup, wp_some, wp_no, wp_sl, wp_listof, wp_cat, wp_meth, opApp_q, wp_rng1, wp_rng2, wp_iter, wp_for, wp_comp, wp_call, wp_callK, wp_callR, dflR, argsOf, argOf, ios, lns, putOuts, putO, putT, freeRv, itemsR_pk, itemsL_pk, itemsR_fl, itemsL_fl, itemsR_lent, itemsL_lent, itemsR_L, itemsL_L, slI_t, slI_io, seqQ_nx, seqQ_ret, seqQ_bk, seqQ_ct, lpQ_nx, lpQ_ret, lpQ_bk, lpQ_ct, runQ_ret, runQ_nx, outOf, outsAt, putL, wp_nx, wp_bk, wp_ct, wp_ret, wp_opt, L_len, J_len, J_v, J_app, L_app, L_snoc, L_set, wp_vf, wp_lend, ldQ_t, relend, iterL_J, iterT_ft, iterL_lent, pyEq_00, plainAt, wipeS, backS, line]
          refine ⟨xs ++ [y], a5, c5, rfl, by simp [r1], fun z m => ?_, hb5.le (by omega), rfl⟩
          rcases List.mem_append.mp m with m | m
          · exact r2 z m
          · rw [List.mem_singleton.mp m]; omega
        · rintro acc ρ ⟨xs, a4, c4, rfl, r1, r2, hb4, rfl⟩
          simp at r1 hb4
          simp [wp_run, wp_seq, wp_ifs, wp_tst, wp_op, wp_un, wp_ix, wp_var, wp_mv, varS_io, varS_v, varS_l, varS_tu, varS_lent, mvS_t, lv_lst, lv_tup, lv_int, lv_bl, wp_c, wp_fz, fzR_v, fzR_lst, fzR_tup, fzR_lent, fzR_pk, toDs_L, toDs_nil, toDs_cons, toD_v, toD_lst, toD_tup, rvQ_v, bolQ_v, intQ_v, ixR_pk, ixR_fl, ixR_ft, ixR_ll, ixS_t, ixS_io, atI_Jq, atI_Lq, atI_0, atI_1, atI_2, iop_ii, icmp_ii, wp_asg, setSl_t, setSl_lent, wp_look, wp_look2, wp_cons, wp_nil, viewRs_cons, viewRs_nil, viewR_t, viewR_lent, viewR_pk, slD_t, slD_io, fInt_i, fLen_l, fLen_t, fMax_ii, fMin_ii, isi_ll, isi_ii, isi_ib, isi_bb, fEq_q, fNe_q, pyEq_J, pyEq_Jn, pyEq_nJ, pyEq_ii, pyEq_nn, pyEq_ni, pyEq_in, pyEq_JJ2, optS_some, optS_none, wp_setix, lstAt_q, rvT_q, rvTs_nil, rvTs_t, wp_return, wp_retN, wp_expr, wp_raise, wp_aug, wp_and, wp_or, wp_not, wp_andV, wp_orV, wp_notV, wp_if, wp_lst, wp_tup, wp_some, wp_no, wp_sl, wp_listof, wp_cat, wp_meth, opApp_q, wp_rng1, wp_rng2, wp_iter, wp_for, wp_comp, wp_call, wp_callK, wp_callR, dflR, argsOf, argOf, ios, lns, putOuts, putO, putT, freeRv, itemsR_pk, itemsL_pk, itemsR_fl, itemsL_fl, itemsR_lent, itemsL_lent, itemsR_L, itemsL_L, slI_t, slI_io, seqQ_nx, seqQ_ret, seqQ_bk, seqQ_ct, lpQ_nx, lpQ_ret, lpQ_bk, lpQ_ct, runQ_ret, runQ_nx, outOf, outsAt, putL, wp_nx, wp_bk, wp_ct, wp_ret, wp_opt, L_len, J_len, J_v, J_app, L_app, L_snoc, L_set, wp_vf, wp_lend, ldQ_t, relend, iterL_J, iterT_ft, iterL_lent, pyEq_00, plainAt, wipeS, backS, line]
          refine ⟨by omega, _, _, _, _, by simp [e1], ?_, ?_, hb4.le (by omega), rfl⟩
          · simp; omega
          · intro z m
            rcases List.mem_append.mp m with m | m
            · exact r2 z m
            · exact e3 z m
      · subst h
        simp [wp_run, wp_seq, wp_ifs, wp_tst, wp_op, wp_un, wp_ix, wp_var, wp_mv, varS_io, varS_v, varS_l, varS_tu, varS_lent, mvS_t, lv_lst, lv_tup, lv_int, lv_bl, wp_c, wp_fz, fzR_v, fzR_lst, fzR_tup, fzR_lent, fzR_pk, toDs_L, toDs_nil, toDs_cons, toD_v, toD_lst, toD_tup, rvQ_v, bolQ_v, intQ_v, ixR_pk, ixR_fl, ixR_ft, ixR_ll, ixS_t, ixS_io, atI_Jq, atI_Lq, atI_0, atI_1, atI_2, iop_ii, icmp_ii, wp_asg, setSl_t, setSl_lent, wp_look, wp_look2, wp_cons, wp_nil, viewRs_cons, viewRs_nil, viewR_t, viewR_lent, viewR_pk, slD_t, slD_io, fInt_i, fLen_l, fLen_t, fMax_ii, fMin_ii, isi_ll, isi_ii, isi_ib, isi_bb, fEq_q, fNe_q, pyEq_J, pyEq_Jn, pyEq_nJ, pyEq_ii, pyEq_nn, pyEq_ni, pyEq_in, pyEq_JJ2, optS_some, optS_none, wp_setix, lstAt_q, rvT_q, rvTs_nil, rvTs_t, wp_return, wp_retN, wp_expr, wp_raise, wp_aug, wp_and, wp_or, wp_not, wp_andV, wp_orV, wp_notV, wp_if, wp_lst, wp_tup, wp_some, wp_no, wp_sl, wp_listof, wp_cat, wp_meth, opApp_q, wp_rng1, wp_rng2, wp_iter, wp_for, wp_comp, wp_call, wp_callK, wp_callR, dflR, argsOf, argOf, ios, lns, putOuts, putO, putT, freeRv, itemsR_pk, itemsL_pk, itemsR_fl, itemsL_fl, itemsR_lent, itemsL_lent, itemsR_L, itemsL_L, slI_t, slI_io, seqQ_nx, seqQ_ret, seqQ_bk, seqQ_ct, lpQ_nx, lpQ_ret, lpQ_bk, lpQ_ct, runQ_ret, runQ_nx, outOf, outsAt, putL, wp_nx, wp_bk, wp_ct, wp_ret, wp_opt, L_len, J_len, J_v, J_app, L_app, L_snoc, L_set, wp_vf, wp_lend, ldQ_t, relend, iterL_J, iterT_ft, iterL_lent, pyEq_00, plainAt, wipeS, backS, line]
        refine ⟨by omega, ?_⟩
        refine lc_loop (freshI b (N + 20) v base ns) (by simp [line]; omega) ⟨[], a3, c3, rfl, rfl, by simp, hb3.le (by omega), rfl⟩ ?_ ?_
        · rintro i hi acc ρ _ ⟨xs, a4, c4, rfl, r1, r2, hb4, rfl⟩
          simp at hi
          simp [wp_run, wp_seq, wp_ifs, wp_tst, wp_op, wp_un, wp_ix, wp_var, wp_mv, varS_io, varS_v, varS_l, varS_tu, varS_lent, mvS_t, lv_lst, lv_tup, lv_int, lv_bl, wp_c, wp_fz, fzR_v, fzR_lst, fzR_tup, fzR_lent, fzR_pk, toDs_L, toDs_nil, toDs_cons, toD_v, toD_lst, toD_tup, rvQ_v, bolQ_v, intQ_v, ixR_pk, ixR_fl, ixR_ft, ixR_ll, ixS_t, ixS_io, atI_Jq, atI_Lq, atI_0, atI_1, atI_2, iop_ii, icmp_ii, wp_asg, setSl_t, setSl_lent, wp_look, wp_look2, wp_cons, wp_nil, viewRs_cons, viewRs_nil, viewR_t, viewR_lent, viewR_pk, slD_t, slD_io, fInt_i, fLen_l, fLen_t, fMax_ii, fMin_ii, isi_ll, isi_ii, isi_ib, isi_bb, fEq_q, fNe_q, pyEq_J, pyEq_Jn, pyEq_nJ, pyEq_ii, pyEq_nn, pyEq_ni, pyEq_in, pyEq_JJ2, optS_some, optS_none, wp_setix, lstAt_q, rvT_q, rvTs_nil, rvTs_t, wp_return, wp_retN, wp_expr, wp_raise, wp_aug, wp_and, wp_or, wp_not, wp_andV, wp_orV, wp_notV, wp_if, wp_lst, wp_tup, wp_some, wp_no, wp_sl, wp_listof, wp_cat, wp_meth, opApp_q, wp_rng1, wp_rng2, wp_iter, wp_for, wp_comp, wp_call, wp_callK, wp_callR, dflR, argsOf, argOf, ios, lns, putOuts, putO, putT, freeRv, itemsR_pk, itemsL_pk, itemsR_fl, itemsL_fl, itemsR_lent, itemsL_lent, itemsR_L, itemsL_L, slI_t, slI_io, seqQ_nx, seqQ_ret, seqQ_bk, seqQ_ct, lpQ_nx, lpQ_ret, lpQ_bk, lpQ_ct, runQ_ret, runQ_nx, outOf, outsAt, putL, wp_nx, wp_bk, wp_ct, wp_ret, wp_opt, L_len, J_len, J_v, J_app, L_app, L_snoc, L_set, wp_vf, wp_lend, ldQ_t, relend, iterL_J, iterT_ft, iterL_lent, pyEq_00, plainAt, wipeS, backS, line]
          refine take_spec hb4 (by omega) (by omega) fun y a5 c5 y0 y1 hb5 => ?_
          simp [wp_run, wp_seq, wp_ifs, wp_tst, wp_op, wp_un, wp_ix, wp_var, wp_mv, varS_io, varS_v, varS_l, varS_tu, varS_lent, mvS_t, lv_lst, lv_tup, lv_int, lv_bl, wp_c, wp_fz, fzR_v, fzR_lst, fzR_tup, fzR_lent, fzR_pk, toDs_L, toDs_nil, toDs_cons, toD_v, toD_lst, toD_tup, rvQ_v, bolQ_v, intQ_v, ixR_pk, ixR_fl, ixR_ft, ixR_ll, ixS_t, ixS_io, atI_Jq, atI_Lq, atI_0, atI_1, atI_2, iop_ii, icmp_ii, wp_asg, setSl_t, setSl_lent, wp_look, wp_look2, wp_cons, wp_nil, viewRs_cons, viewRs_nil, viewR_t, viewR_lent, viewR_pk, slD_t, slD_io, fInt_i, fLen_l, fLen_t, fMax_ii, fMin_ii, isi_ll, isi_ii, isi_ib, isi_bb, fEq_q, fNe_q, pyEq_J, pyEq_Jn, pyEq_nJ, pyEq_ii, pyEq_nn, pyEq_ni, pyEq_in, pyEq_JJ2, optS_some, optS_none, wp_setix, lstAt_q, rvT_q, rvTs_nil, rvTs_t, wp_return, wp_retN, wp_expr, wp_raise, wp_aug, wp_and, wp_or, wp_not, wp_andV, wp_orV, wp_notV, wp_if, wp_lst, wp_tup, wp_some, wp_no, wp_sl, wp_listof, wp_cat, wp_meth, opApp_q, wp_rng1, wp_rng2, wp_iter, wp_for, wp_comp, wp_call, wp_callK, wp_callR, dflR, argsOf, argOf, ios, lns, putOuts, putO, putT, freeRv, itemsR_pk, itemsL_pk, itemsR_fl, itemsL_fl, itemsR_lent, itemsL_lent, itemsR_L, itemsL_L, slI_t, slI_io, seqQ_nx, seqQ_ret, seqQ_bk, seqQ_ct, lpQ_nx, lpQ_ret, lpQ_bk, lpQ_ct, runQ_ret, runQ_nx, outOf, outsAt, putL, wp_nx, wp_bk, wp_ct, wp_ret, wp_opt, L_len, J_len, J_v, J_app, L_app, L_snoc, L_set, wp_vf, wp_lend, ldQ_t, relend, iterL_J, iterT_ft, iterL_lent, pyEq_00, plainAt, wipeS, backS, line]
          refine ⟨xs ++ [y], a5, c5, rfl, by simp [r1], fun z m => ?_, hb5.le (by omega), rfl⟩
          rcases List.mem_append.mp m with m | m
          · exact r2 z m
          · rw [List.mem_singleton.mp m]; omega
        · rintro acc ρ ⟨xs, a4, c4, rfl, r1, r2, hb4, rfl⟩
          simp at r1 hb4
          simp [wp_run, wp_seq, wp_ifs, wp_tst, wp_op, wp_un, wp_ix, wp_var, wp_mv, varS_io, varS_v, varS_l, varS_tu, varS_lent, mvS_t, lv_lst, lv_tup, lv_int, lv_bl, wp_c, wp_fz, fzR_v, fzR_lst, fzR_tup, fzR_lent, fzR_pk, toDs_L, toDs_nil, toDs_cons, toD_v, toD_lst, toD_tup, rvQ_v, bolQ_v, intQ_v, ixR_pk, ixR_fl, ixR_ft, ixR_ll, ixS_t, ixS_io, atI_Jq, atI_Lq, atI_0, atI_1, atI_2, iop_ii, icmp_ii, wp_asg, setSl_t, setSl_lent, wp_look, wp_look2, wp_cons, wp_nil, viewRs_cons, viewRs_nil, viewR_t, viewR_lent, viewR_pk, slD_t, slD_io, fInt_i, fLen_l, fLen_t, fMax_ii, fMin_ii, isi_ll, isi_ii, isi_ib, isi_bb, fEq_q, fNe_q, pyEq_J, pyEq_Jn, pyEq_nJ, pyEq_ii, pyEq_nn, pyEq_ni, pyEq_in, pyEq_JJ2, optS_some, optS_none, wp_setix, lstAt_q, rvT_q, rvTs_nil, rvTs_t, wp_return, wp_retN, wp_expr, wp_raise, wp_aug, wp_and, wp_or, wp_not, wp_andV, wp_orV, wp_notV, wp_if, wp_lst, wp_tup, wp_some, wp_no, wp_sl, wp_listof, wp_cat, wp_meth, opApp_q, wp_rng1, wp_rng2, wp_iter, wp_for, wp_comp, wp_call, wp_callK, wp_callR, dflR, argsOf, argOf, ios, lns, putOuts, putO, putT, freeRv, itemsR_pk, itemsL_pk, itemsR_fl, itemsL_fl, itemsR_lent, itemsL_lent, itemsR_L, itemsL_L, slI_t, slI_io, seqQ_nx, seqQ_ret, seqQ_bk, seqQ_ct, lpQ_nx, lpQ_ret, lpQ_bk, lpQ_ct, runQ_ret, runQ_nx, outOf, outsAt, putL, wp_nx, wp_bk, wp_ct, wp_ret, wp_opt, L_len, J_len, J_v, J_app, L_app, L_snoc, L_set, wp_vf, wp_lend, ldQ_t, relend, iterL_J, iterT_ft, iterL_lent, pyEq_00, plainAt, wipeS, backS, line]
          refine ⟨by omega, _, _, _, _, by simp [e1], ?_, ?_, hb4.le (by omega), rfl⟩
          · simp; omega
          · intro z m
            rcases List.mem_append.mp m with m | m
            · exact r2 z m
            · exact e3 z m
    · split
      · refine take_spec hb3 (by omega) (by omega) fun x a3 c3 x0 x1 hb3 => ?_
        simp [wp_run, wp_seq, wp_ifs, wp_tst, wp_op, wp_un, wp_ix, wp_var, wp_mv, varS_io, varS_v, varS_l, varS_tu, varS_lent, mvS_t, lv_lst, lv_tup, lv_int, lv_bl, wp_c, wp_fz, fzR_v, fzR_lst, fzR_tup, fzR_lent, fzR_pk, toDs_L, toDs_nil, toDs_cons, toD_v, toD_lst, toD_tup, rvQ_v, bolQ_v, intQ_v, ixR_pk, ixR_fl, ixR_ft, ixR_ll, ixS_t, ixS_io, atI_Jq, atI_Lq, atI_0, atI_1, atI_2, iop_ii, icmp_ii, wp_asg, setSl_t, setSl_lent, wp_look, wp_look2, wp_cons, wp_nil, viewRs_cons, viewRs_nil, viewR_t, viewR_lent, viewR_pk, slD_t, slD_io, fInt_i, fLen_l, fLen_t, fMax_ii, fMin_ii, isi_ll, isi_ii, isi_ib, isi_bb, fEq_q, fNe_q, pyEq_J, pyEq_Jn, pyEq_nJ, pyEq_ii, pyEq_nn, pyEq_ni, pyEq_in, pyEq_JJ2, optS_some, optS_none, wp_setix, lstAt_q, rvT_q, rvTs_nil, rvTs_t, wp_return, wp_retN, wp_expr, wp_raise, wp_aug, wp_and, wp_or, wp_not, wp_andV, wp_orV, wp_notV, wp_if, wp_lst, wp_tup, wp_some, wp_no, wp_sl, wp_listof, wp_cat, wp_meth, opApp_q, wp_rng1, wp_rng2, wp_iter, wp_for, wp_comp, wp_call, wp_callK, wp_callR, dflR, argsOf, argOf, ios, lns, putOuts, putO, putT, freeRv, itemsR_pk, itemsL_pk, itemsR_fl, itemsL_fl, itemsR_lent, itemsL_lent, itemsR_L, itemsL_L, slI_t, slI_io, seqQ_nx, seqQ_ret, seqQ_bk, seqQ_ct, lpQ_nx, lpQ_ret, lpQ_bk, lpQ_ct, runQ_ret, runQ_nx, outOf, outsAt, putL, wp_nx, wp_bk, wp_ct, wp_ret, wp_opt, L_len, J_len, J_v, J_app, L_app, L_snoc, L_set, wp_vf, wp_lend, ldQ_t, relend, iterL_J, iterT_ft, iterL_lent, pyEq_00, plainAt, wipeS, backS, line, cut_J x0]
        refine ⟨_, _, _, _, ?_, ?_, fun z m => e3 z (List.mem_of_mem_drop m), hb3.le (by omega), rfl⟩
        · simp; omega
        · simp; omega
      · exact ⟨_, _, _, _, e1, by omega, e3, hb3.le (by omega), rfl⟩
  rintro ρ ⟨ns, a3, c3, s, e1, e2, e3, hb3, rfl⟩
  refine wp_step fun Q1 g1 => ?_
  simp [wp_run, wp_seq, wp_ifs, wp_tst, wp_op, wp_un, wp_ix, wp_var, wp_mv, varS_io, varS_v, varS_l, varS_tu, varS_lent, mvS_t, lv_lst, lv_tup, lv_int, lv_bl, wp_c, wp_fz, fzR_v, fzR_lst, fzR_tup, fzR_lent, fzR_pk, toDs_L, toDs_nil, toDs_cons, toD_v, toD_lst, toD_tup, rvQ_v, bolQ_v, intQ_v, ixR_pk, ixR_fl, ixR_ft, ixR_ll, ixS_t, ixS_io, atI_Jq, atI_Lq, atI_0, atI_1, atI_2, iop_ii, icmp_ii, wp_asg, setSl_t, setSl_lent, wp_look, wp_look2, wp_cons, wp_nil, viewRs_cons, viewRs_nil, viewR_t, viewR_lent, viewR_pk, slD_t, slD_io, fInt_i, fLen_l, fLen_t, fMax_ii, fMin_ii, isi_ll, isi_ii, isi_ib, isi_bb, fEq_q, fNe_q, pyEq_J, pyEq_Jn, pyEq_nJ, pyEq_ii, pyEq_nn, pyEq_ni, pyEq_in, pyEq_JJ2, optS_some, optS_none, wp_setix, lstAt_q, rvT_q, rvTs_nil, rvTs_t, wp_return, wp_retN, wp_expr, wp_raise, wp_aug, wp_and, wp_or, wp_not, wp_andV, wp_orV, wp_notV, wp_if, wp_lst, wp_tup, wp_some, wp_no, wp_sl, wp_listof, wp_cat, wp_meth, opApp_q, wp_rng1, wp_rng2, wp_iter, wp_for, wp_comp, wp_call, wp_callK, wp_callR, dflR, argsOf, argOf, ios, lns, putOuts, putO, putT, freeRv, itemsR_pk, itemsL_pk, itemsR_fl, itemsL_fl, itemsR_lent, itemsL_lent, itemsR_L, itemsL_L, slI_t, slI_io, seqQ_nx, seqQ_ret, seqQ_bk, seqQ_ct, lpQ_nx, lpQ_ret, lpQ_bk, lpQ_ct, runQ_ret, runQ_nx, outOf, outsAt, putL, wp_nx, wp_bk, wp_ct, wp_ret, wp_opt, L_len, J_len, J_v, J_app, L_app, L_snoc, L_set, wp_vf, wp_lend, ldQ_t, relend, iterL_J, iterT_ft, iterL_lent, pyEq_00, plainAt, wipeS, backS, line]
  cases ns with
  | nil => exact absurd rfl e1
  | cons y ys =>
    rw [atI_0]
    have hy := e3 y List.mem_cons_self
    have hys : ∀ z ∈ ys, 0 ≤ z ∧ z ≤ 9 := fun z m => e3 z (List.mem_cons_of_mem _ m)
    split
    · refine take_spec hb3 (by omega) (by omega) fun x a3 c3 x0 x1 hb3 => ?_
      simp [wp_run, wp_seq, wp_ifs, wp_tst, wp_op, wp_un, wp_ix, wp_var, wp_mv, varS_io, varS_v, varS_l, varS_tu, varS_lent, mvS_t, lv_lst, lv_tup, lv_int, lv_bl, wp_c, wp_fz, fzR_v, fzR_lst, fzR_tup, fzR_lent, fzR_pk, toDs_L, toDs_nil, toDs_cons, toD_v, toD_lst, toD_tup, rvQ_v, bolQ_v, intQ_v, ixR_pk, ixR_fl, ixR_ft, ixR_ll, ixS_t, ixS_io, atI_Jq, atI_Lq, atI_0, atI_1, atI_2, iop_ii, icmp_ii, wp_asg, setSl_t, setSl_lent, wp_look, wp_look2, wp_cons, wp_nil, viewRs_cons, viewRs_nil, viewR_t, viewR_lent, viewR_pk, slD_t, slD_io, fInt_i, fLen_l, fLen_t, fMax_ii, fMin_ii, isi_ll, isi_ii, isi_ib, isi_bb, fEq_q, fNe_q, pyEq_J, pyEq_Jn, pyEq_nJ, pyEq_ii, pyEq_nn, pyEq_ni, pyEq_in, pyEq_JJ2, optS_some, optS_none, wp_setix, lstAt_q, rvT_q, rvTs_nil, rvTs_t, wp_return, wp_retN, wp_expr, wp_raise, wp_aug, wp_and, wp_or, wp_not, wp_andV, wp_orV, wp_notV, wp_if, wp_lst, wp_tup, wp_some, wp_no, wp_sl, wp_listof, wp_cat, wp_meth, opApp_q, wp_rng1, wp_rng2, wp_iter, wp_for, wp_comp, wp_call, wp_callK, wp_callR, dflR, argsOf, argOf, ios, lns, putOuts, putO, putT, freeRv, itemsR_pk, itemsL_pk, itemsR_fl, itemsL_fl, itemsR_lent, itemsL_lent, itemsR_L, itemsL_L, slI_t, slI_io, seqQ_nx, seqQ_ret, seqQ_bk, seqQ_ct, lpQ_nx, lpQ_ret, lpQ_bk, lpQ_ct, runQ_ret, runQ_nx, outOf, outsAt, putL, wp_nx, wp_bk, wp_ct, wp_ret, wp_opt, L_len, J_len, J_v, J_app, L_app, L_snoc, L_set, wp_vf, wp_lend, ldQ_t, relend, iterL_J, iterT_ft, iterL_lent, pyEq_00, plainAt, wipeS, backS, line, ixN]
      refine go_nx g1 ?_
      simp [wp_run, wp_seq, wp_ifs, wp_tst, wp_op, wp_un, wp_ix, wp_var, wp_mv, varS_io, varS_v, varS_l, varS_tu, varS_lent, mvS_t, lv_lst, lv_tup, lv_int, lv_bl, wp_c, wp_fz, fzR_v, fzR_lst, fzR_tup, fzR_lent, fzR_pk, toDs_L, toDs_nil, toDs_cons, toD_v, toD_lst, toD_tup, rvQ_v, bolQ_v, intQ_v, ixR_pk, ixR_fl, ixR_ft, ixR_ll, ixS_t, ixS_io, atI_Jq, atI_Lq, atI_0, atI_1, atI_2, iop_ii, icmp_ii, wp_asg, setSl_t, setSl_lent, wp_look, wp_look2, wp_cons, wp_nil, viewRs_cons, viewRs_nil, viewR_t, viewR_lent, viewR_pk, slD_t, slD_io, fInt_i, fLen_l, fLen_t, fMax_ii, fMin_ii, isi_ll, isi_ii, isi_ib, isi_bb, fEq_q, fNe_q, pyEq_J, pyEq_Jn, pyEq_nJ, pyEq_ii, pyEq_nn, pyEq_ni, pyEq_in, pyEq_JJ2, optS_some, optS_none, wp_setix, lstAt_q, rvT_q, rvTs_nil, rvTs_t, wp_return, wp_retN, wp_expr, wp_raise, wp_aug, wp_and, wp_or, wp_not, wp_andV, wp_orV, wp_notV, wp_if, wp_lst, wp_tup, wp_some, wp_no, wp_sl, wp_listof, wp_cat, wp_meth, opApp_q, wp_rng1, wp_rng2, wp_iter, wp_for, wp_comp, wp_call, wp_callK, wp_callR, dflR, argsOf, argOf, ios, lns, putOuts, putO, putT, freeRv, itemsR_pk, itemsL_pk, itemsR_fl, itemsL_fl, itemsR_lent, itemsL_lent, itemsR_L, itemsL_L, slI_t, slI_io, seqQ_nx, seqQ_ret, seqQ_bk, seqQ_ct, lpQ_nx, lpQ_ret, lpQ_bk, lpQ_ct, runQ_ret, runQ_nx, outOf, outsAt, putL, wp_nx, wp_bk, wp_ct, wp_ret, wp_opt, L_len, J_len, J_v, J_app, L_app, L_snoc, L_set, wp_vf, wp_lend, ldQ_t, relend, iterL_J, iterT_ft, iterL_lent, pyEq_00, plainAt, wipeS, backS, line]
      refine hQ _ _ _ ⟨by simpa using e2, by simp; omega, fun z m => ?_⟩ (hb3.le (by omega))
      rcases List.mem_cons.mp m with m | m
      · rw [m]; omega
      · exact hys z m
    · refine go_nx g1 ?_
      simp [wp_run, wp_seq, wp_ifs, wp_tst, wp_op, wp_un, wp_ix, wp_var, wp_mv, varS_io, varS_v, varS_l, varS_tu, varS_lent, mvS_t, lv_lst, lv_tup, lv_int, lv_bl, wp_c, wp_fz, fzR_v, fzR_lst, fzR_tup, fzR_lent, fzR_pk, toDs_L, toDs_nil, toDs_cons, toD_v, toD_lst, toD_tup, rvQ_v, bolQ_v, intQ_v, ixR_pk, ixR_fl, ixR_ft, ixR_ll, ixS_t, ixS_io, atI_Jq, atI_Lq, atI_0, atI_1, atI_2, iop_ii, icmp_ii, wp_asg, setSl_t, setSl_lent, wp_look, wp_look2, wp_cons, wp_nil, viewRs_cons, viewRs_nil, viewR_t, viewR_lent, viewR_pk, slD_t, slD_io, fInt_i, fLen_l, fLen_t, fMax_ii, fMin_ii, isi_ll, isi_ii, isi_ib, isi_bb, fEq_q, fNe_q, pyEq_J, pyEq_Jn, pyEq_nJ, pyEq_ii, pyEq_nn, pyEq_ni, pyEq_in, pyEq_JJ2, optS_some, optS_none, wp_setix, lstAt_q, rvT_q, rvTs_nil, rvTs_t, wp_return, wp_retN, wp_expr, wp_raise, wp_aug, wp_and, wp_or, wp_not, wp_andV, wp_orV, wp_notV, wp_if, wp_lst, wp_tup, wp_some, wp_no, wp_sl, wp_listof, wp_cat, wp_meth, opApp_q, wp_rng1, wp_rng2, wp_iter, wp_for, wp_comp, wp_call, wp_callK, wp_callR, dflR, argsOf, argOf, ios, lns, putOuts, putO, putT, freeRv, itemsR_pk, itemsL_pk, itemsR_fl, itemsL_fl, itemsR_lent, itemsL_lent, itemsR_L, itemsL_L, slI_t, slI_io, seqQ_nx, seqQ_ret, seqQ_bk, seqQ_ct, lpQ_nx, lpQ_ret, lpQ_bk, lpQ_ct, runQ_ret, runQ_nx, outOf, outsAt, putL, wp_nx, wp_bk, wp_ct, wp_ret, wp_opt, L_len, J_len, J_v, J_app, L_app, L_snoc, L_set, wp_vf, wp_lend, ldQ_t, relend, iterL_J, iterT_ft, iterL_lent, pyEq_00, plainAt, wipeS, backS, line]
      exact hQ _ _ _ ⟨e2, by simp; omega, e3⟩ (hb3.le (by omega))
end H

namespace H
open PySem PySem.Spec L2 W3
theorem setSl_ok {ρ : Sg} {i : Nat} {t : T} {o : Option Sl} {P : Sg → Prop} (h : ρ[i]? = some o) (hn : ∀ t, o ≠ some (.io t)) : optS (setSl i (.t t) ρ) P = P (ρ.set i (some (.t t))) := by
  rw [setSl_t, h]
  cases o with
  | none => rfl
  | some s => cases s with
    | io t => exact absurd rfl (hn t)
    | _ => rfl
def lawI (ns : List Int) (k : Nat) (ρ : Sg) : Prop := ∃ s1 s2 s3 s4, (∀ t, s1 ≠ some (.io t)) ∧ (∀ t, s2 ≠ some (.io t)) ∧ (∀ t, s3 ≠ some (.io t)) ∧ (∀ t, s4 ≠ some (.io t)) ∧ ρ = [some (.t (.v (.lst (J ns)))), s1, s2, s3, s4]
theorem law_spec (ns : List Int) (hl : ns.length ≤ 63) {Q : T → Sg → Prop} {E : ExQ} (hQ : Q (.v (.bl true)) [none]) : WPF phi_law [.t (.v (.lst (J ns)))] Q E := by
  unfold phi_law m_law
  rw [wp_run]
  refine wp_step fun Q1 g1 => ?_
  simp [wp_run, wp_seq, wp_ifs, wp_tst, wp_op, wp_un, wp_ix, wp_var, wp_mv, varS_io, varS_v, varS_l, varS_tu, varS_lent, mvS_t, lv_lst, lv_tup, lv_int, lv_bl, wp_c, wp_fz, fzR_v, fzR_lst, fzR_tup, fzR_lent, fzR_pk, toDs_L, toDs_nil, toDs_cons, toD_v, toD_lst, toD_tup, rvQ_v, bolQ_v, intQ_v, ixR_pk, ixR_fl, ixR_ft, ixR_ll, ixS_t, ixS_io, atI_Jq, atI_Lq, atI_0, atI_1, atI_2, iop_ii, icmp_ii, wp_asg, setSl_t, setSl_lent, wp_look, wp_look2, wp_cons, wp_nil, viewRs_cons, viewRs_nil, viewR_t, viewR_lent, viewR_pk, slD_t, slD_io, fInt_i, fLen_l, fLen_t, fMax_ii, fMin_ii, isi_ll, isi_ii, isi_ib, isi_bb, fEq_q, fNe_q, pyEq_J, pyEq_Jn, pyEq_nJ, pyEq_ii, pyEq_nn, pyEq_ni, pyEq_in, pyEq_JJ2, optS_some, optS_none, wp_setix, lstAt_q, rvT_q, rvTs_nil, rvTs_t, wp_return, wp_retN, wp_expr, wp_raise, wp_aug, wp_and, wp_or, wp_not, wp_andV, wp_orV, wp_notV, wp_if, wp_lst, wp_tup, wp_some, wp_no, wp_sl, wp_listof, wp_cat, wp_meth, opApp_q, wp_rng1, wp_rng2, wp_iter, wp_for, wp_comp, wp_call, wp_callK, wp_callR, dflR, argsOf, argOf, ios, lns, putOuts, putO, putT, freeRv, itemsR_pk, itemsL_pk, itemsR_fl, itemsL_fl, itemsR_lent, itemsL_lent, itemsR_L, itemsL_L, slI_t, slI_io, seqQ_nx, seqQ_ret, seqQ_bk, seqQ_ct, lpQ_nx, lpQ_ret, lpQ_bk, lpQ_ct, runQ_ret, runQ_nx, outOf, outsAt, putL, wp_nx, wp_bk, wp_ct, wp_ret, wp_opt, L_len, J_len, J_v, J_app, L_app, L_snoc, L_set, wp_vf, wp_lend, ldQ_t, relend, iterL_J, iterT_ft, iterL_lent, pyEq_00, plainAt, wipeS, backS, line]
  refine ⟨by omega, ?_⟩
  refine wp_loop (lawI ns) ⟨none, none, none, none, by simp, by simp, by simp, by simp, rfl⟩ ?_ ?_
  · rintro i hi ρ ⟨s1, s2, s3, s4, h1, h2, h3, h4, rfl⟩
    simp at hi
    rw [List.getElem_map, List.getElem_range, setSl_ok (o := s1) rfl h1, List.set_cons_succ, List.set_cons_zero]
    refine wp_step fun Q2 g2 => ?_
    simp [wp_run, wp_seq, wp_ifs, wp_tst, wp_op, wp_un, wp_ix, wp_var, wp_mv, varS_io, varS_v, varS_l, varS_tu, varS_lent, mvS_t, lv_lst, lv_tup, lv_int, lv_bl, wp_c, wp_fz, fzR_v, fzR_lst, fzR_tup, fzR_lent, fzR_pk, toDs_L, toDs_nil, toDs_cons, toD_v, toD_lst, toD_tup, rvQ_v, bolQ_v, intQ_v, ixR_pk, ixR_fl, ixR_ft, ixR_ll, ixS_t, ixS_io, atI_Jq, atI_Lq, atI_0, atI_1, atI_2, iop_ii, icmp_ii, wp_asg, setSl_t, setSl_lent, wp_look, wp_look2, wp_cons, wp_nil, viewRs_cons, viewRs_nil, viewR_t, viewR_lent, viewR_pk, slD_t, slD_io, fInt_i, fLen_l, fLen_t, fMax_ii, fMin_ii, isi_ll, isi_ii, isi_ib, isi_bb, fEq_q, fNe_q, pyEq_J, pyEq_Jn, pyEq_nJ, pyEq_ii, pyEq_nn, pyEq_ni, pyEq_in, pyEq_JJ2, optS_some, optS_none, wp_setix, lstAt_q, rvT_q, rvTs_nil, rvTs_t, wp_return, wp_retN, wp_expr, wp_raise, wp_aug, wp_and, wp_or, wp_not, wp_andV, wp_orV, wp_notV, wp_if, wp_lst, wp_tup, wp_some, wp_no, wp_sl, wp_listof, wp_cat, wp_meth, opApp_q, wp_rng1, wp_rng2, wp_iter, wp_for, wp_comp, wp_call, wp_callK, wp_callR, dflR, argsOf, argOf, ios, lns, putOuts, putO, putT, freeRv, itemsR_pk, itemsL_pk, itemsR_fl, itemsL_fl, itemsR_lent, itemsL_lent, itemsR_L, itemsL_L, slI_t, slI_io, seqQ_nx, seqQ_ret, seqQ_bk, seqQ_ct, lpQ_nx, lpQ_ret, lpQ_bk, lpQ_ct, runQ_ret, runQ_nx, outOf, outsAt, putL, wp_nx, wp_bk, wp_ct, wp_ret, wp_opt, L_len, J_len, J_v, J_app, L_app, L_snoc, L_set, wp_vf, wp_lend, ldQ_t, relend, iterL_J, iterT_ft, iterL_lent, pyEq_00, plainAt, wipeS, backS, line]
    refine pool_spec (by omega) fun a b hb => ?_
    simp [wp_run, wp_seq, wp_ifs, wp_tst, wp_op, wp_un, wp_ix, wp_var, wp_mv, varS_io, varS_v, varS_l, varS_tu, varS_lent, mvS_t, lv_lst, lv_tup, lv_int, lv_bl, wp_c, wp_fz, fzR_v, fzR_lst, fzR_tup, fzR_lent, fzR_pk, toDs_L, toDs_nil, toDs_cons, toD_v, toD_lst, toD_tup, rvQ_v, bolQ_v, intQ_v, ixR_pk, ixR_fl, ixR_ft, ixR_ll, ixS_t, ixS_io, atI_Jq, atI_Lq, atI_0, atI_1, atI_2, iop_ii, icmp_ii, wp_asg, setSl_t, setSl_lent, wp_look, wp_look2, wp_cons, wp_nil, viewRs_cons, viewRs_nil, viewR_t, viewR_lent, viewR_pk, slD_t, slD_io, fInt_i, fLen_l, fLen_t, fMax_ii, fMin_ii, isi_ll, isi_ii, isi_ib, isi_bb, fEq_q, fNe_q, pyEq_J, pyEq_Jn, pyEq_nJ, pyEq_ii, pyEq_nn, pyEq_ni, pyEq_in, pyEq_JJ2, optS_some, optS_none, wp_setix, lstAt_q, rvT_q, rvTs_nil, rvTs_t, wp_return, wp_retN, wp_expr, wp_raise, wp_aug, wp_and, wp_or, wp_not, wp_andV, wp_orV, wp_notV, wp_if, wp_lst, wp_tup, wp_some, wp_no, wp_sl, wp_listof, wp_cat, wp_meth, opApp_q, wp_rng1, wp_rng2, wp_iter, wp_for, wp_comp, wp_call, wp_callK, wp_callR, dflR, argsOf, argOf, ios, lns, putOuts, putO, putT, freeRv, itemsR_pk, itemsL_pk, itemsR_fl, itemsL_fl, itemsR_lent, itemsL_lent, itemsR_L, itemsL_L, slI_t, slI_io, seqQ_nx, seqQ_ret, seqQ_bk, seqQ_ct, lpQ_nx, lpQ_ret, lpQ_bk, lpQ_ct, runQ_ret, runQ_nx, outOf, outsAt, putL, wp_nx, wp_bk, wp_ct, wp_ret, wp_opt, L_len, J_len, J_v, J_app, L_app, L_snoc, L_set, wp_vf, wp_lend, ldQ_t, relend, iterL_J, iterT_ft, iterL_lent, pyEq_00, plainAt, wipeS, backS, line]
    refine go_nx g2 (wp_step fun Q2 g2 => ?_)
    simp [wp_run, wp_seq, wp_ifs, wp_tst, wp_op, wp_un, wp_ix, wp_var, wp_mv, varS_io, varS_v, varS_l, varS_tu, varS_lent, mvS_t, lv_lst, lv_tup, lv_int, lv_bl, wp_c, wp_fz, fzR_v, fzR_lst, fzR_tup, fzR_lent, fzR_pk, toDs_L, toDs_nil, toDs_cons, toD_v, toD_lst, toD_tup, rvQ_v, bolQ_v, intQ_v, ixR_pk, ixR_fl, ixR_ft, ixR_ll, ixS_t, ixS_io, atI_Jq, atI_Lq, atI_0, atI_1, atI_2, iop_ii, icmp_ii, wp_asg, setSl_t, setSl_lent, wp_look, wp_look2, wp_cons, wp_nil, viewRs_cons, viewRs_nil, viewR_t, viewR_lent, viewR_pk, slD_t, slD_io, fInt_i, fLen_l, fLen_t, fMax_ii, fMin_ii, isi_ll, isi_ii, isi_ib, isi_bb, fEq_q, fNe_q, pyEq_J, pyEq_Jn, pyEq_nJ, pyEq_ii, pyEq_nn, pyEq_ni, pyEq_in, pyEq_JJ2, optS_some, optS_none, wp_setix, lstAt_q, rvT_q, rvTs_nil, rvTs_t, wp_return, wp_retN, wp_expr, wp_raise, wp_aug, wp_and, wp_or, wp_not, wp_andV, wp_orV, wp_notV, wp_if, wp_lst, wp_tup, wp_some, wp_no, wp_sl, wp_listof, wp_cat, wp_meth, opApp_q, wp_rng1, wp_rng2, wp_iter, wp_for, wp_comp, wp_call, wp_callK, wp_callR, dflR, argsOf, argOf, ios, lns, putOuts, putO, putT, freeRv, itemsR_pk, itemsL_pk, itemsR_fl, itemsL_fl, itemsR_lent, itemsL_lent, itemsR_L, itemsL_L, slI_t, slI_io, seqQ_nx, seqQ_ret, seqQ_bk, seqQ_ct, lpQ_nx, lpQ_ret, lpQ_bk, lpQ_ct, runQ_ret, runQ_nx, outOf, outsAt, putL, wp_nx, wp_bk, wp_ct, wp_ret, wp_opt, L_len, J_len, J_v, J_app, L_app, L_snoc, L_set, wp_vf, wp_lend, ldQ_t, relend, iterL_J, iterT_ft, iterL_lent, pyEq_00, plainAt, wipeS, backS, line]
    refine size_spec hb (by omega) (by omega) fun v a1 c1 v0 v1 hb => ?_
    simp [wp_run, wp_seq, wp_ifs, wp_tst, wp_op, wp_un, wp_ix, wp_var, wp_mv, varS_io, varS_v, varS_l, varS_tu, varS_lent, mvS_t, lv_lst, lv_tup, lv_int, lv_bl, wp_c, wp_fz, fzR_v, fzR_lst, fzR_tup, fzR_lent, fzR_pk, toDs_L, toDs_nil, toDs_cons, toD_v, toD_lst, toD_tup, rvQ_v, bolQ_v, intQ_v, ixR_pk, ixR_fl, ixR_ft, ixR_ll, ixS_t, ixS_io, atI_Jq, atI_Lq, atI_0, atI_1, atI_2, iop_ii, icmp_ii, wp_asg, setSl_t, setSl_lent, wp_look, wp_look2, wp_cons, wp_nil, viewRs_cons, viewRs_nil, viewR_t, viewR_lent, viewR_pk, slD_t, slD_io, fInt_i, fLen_l, fLen_t, fMax_ii, fMin_ii, isi_ll, isi_ii, isi_ib, isi_bb, fEq_q, fNe_q, pyEq_J, pyEq_Jn, pyEq_nJ, pyEq_ii, pyEq_nn, pyEq_ni, pyEq_in, pyEq_JJ2, optS_some, optS_none, wp_setix, lstAt_q, rvT_q, rvTs_nil, rvTs_t, wp_return, wp_retN, wp_expr, wp_raise, wp_aug, wp_and, wp_or, wp_not, wp_andV, wp_orV, wp_notV, wp_if, wp_lst, wp_tup, wp_some, wp_no, wp_sl, wp_listof, wp_cat, wp_meth, opApp_q, wp_rng1, wp_rng2, wp_iter, wp_for, wp_comp, wp_call, wp_callK, wp_callR, dflR, argsOf, argOf, ios, lns, putOuts, putO, putT, freeRv, itemsR_pk, itemsL_pk, itemsR_fl, itemsL_fl, itemsR_lent, itemsL_lent, itemsR_L, itemsL_L, slI_t, slI_io, seqQ_nx, seqQ_ret, seqQ_bk, seqQ_ct, lpQ_nx, lpQ_ret, lpQ_bk, lpQ_ct, runQ_ret, runQ_nx, outOf, outsAt, putL, wp_nx, wp_bk, wp_ct, wp_ret, wp_opt, L_len, J_len, J_v, J_app, L_app, L_snoc, L_set, wp_vf, wp_lend, ldQ_t, relend, iterL_J, iterT_ft, iterL_lent, pyEq_00, plainAt, wipeS, backS, line]
    refine amount_spec hb (by omega) (by omega) fun one a1 c1 n0 n1 hb => ?_
    simp [wp_run, wp_seq, wp_ifs, wp_tst, wp_op, wp_un, wp_ix, wp_var, wp_mv, varS_io, varS_v, varS_l, varS_tu, varS_lent, mvS_t, lv_lst, lv_tup, lv_int, lv_bl, wp_c, wp_fz, fzR_v, fzR_lst, fzR_tup, fzR_lent, fzR_pk, toDs_L, toDs_nil, toDs_cons, toD_v, toD_lst, toD_tup, rvQ_v, bolQ_v, intQ_v, ixR_pk, ixR_fl, ixR_ft, ixR_ll, ixS_t, ixS_io, atI_Jq, atI_Lq, atI_0, atI_1, atI_2, iop_ii, icmp_ii, wp_asg, setSl_t, setSl_lent, wp_look, wp_look2, wp_cons, wp_nil, viewRs_cons, viewRs_nil, viewR_t, viewR_lent, viewR_pk, slD_t, slD_io, fInt_i, fLen_l, fLen_t, fMax_ii, fMin_ii, isi_ll, isi_ii, isi_ib, isi_bb, fEq_q, fNe_q, pyEq_J, pyEq_Jn, pyEq_nJ, pyEq_ii, pyEq_nn, pyEq_ni, pyEq_in, pyEq_JJ2, optS_some, optS_none, wp_setix, lstAt_q, rvT_q, rvTs_nil, rvTs_t, wp_return, wp_retN, wp_expr, wp_raise, wp_aug, wp_and, wp_or, wp_not, wp_andV, wp_orV, wp_notV, wp_if, wp_lst, wp_tup, wp_some, wp_no, wp_sl, wp_listof, wp_cat, wp_meth, opApp_q, wp_rng1, wp_rng2, wp_iter, wp_for, wp_comp, wp_call, wp_callK, wp_callR, dflR, argsOf, argOf, ios, lns, putOuts, putO, putT, freeRv, itemsR_pk, itemsL_pk, itemsR_fl, itemsL_fl, itemsR_lent, itemsL_lent, itemsR_L, itemsL_L, slI_t, slI_io, seqQ_nx, seqQ_ret, seqQ_bk, seqQ_ct, lpQ_nx, lpQ_ret, lpQ_bk, lpQ_ct, runQ_ret, runQ_nx, outOf, outsAt, putL, wp_nx, wp_bk, wp_ct, wp_ret, wp_opt, L_len, J_len, J_v, J_app, L_app, L_snoc, L_set, wp_vf, wp_lend, ldQ_t, relend, iterL_J, iterT_ft, iterL_lent, pyEq_00, plainAt, wipeS, backS, line]
    refine go_nx g2 (wp_step fun Q2 g2 => ?_)
    simp [wp_run, wp_seq, wp_ifs, wp_tst, wp_op, wp_un, wp_ix, wp_var, wp_mv, varS_io, varS_v, varS_l, varS_tu, varS_lent, mvS_t, lv_lst, lv_tup, lv_int, lv_bl, wp_c, wp_fz, fzR_v, fzR_lst, fzR_tup, fzR_lent, fzR_pk, toDs_L, toDs_nil, toDs_cons, toD_v, toD_lst, toD_tup, rvQ_v, bolQ_v, intQ_v, ixR_pk, ixR_fl, ixR_ft, ixR_ll, ixS_t, ixS_io, atI_Jq, atI_Lq, atI_0, atI_1, atI_2, iop_ii, icmp_ii, wp_asg, setSl_t, setSl_lent, wp_look, wp_look2, wp_cons, wp_nil, viewRs_cons, viewRs_nil, viewR_t, viewR_lent, viewR_pk, slD_t, slD_io, fInt_i, fLen_l, fLen_t, fMax_ii, fMin_ii, isi_ll, isi_ii, isi_ib, isi_bb, fEq_q, fNe_q, pyEq_J, pyEq_Jn, pyEq_nJ, pyEq_ii, pyEq_nn, pyEq_ni, pyEq_in, pyEq_JJ2, optS_some, optS_none, wp_setix, lstAt_q, rvT_q, rvTs_nil, rvTs_t, wp_return, wp_retN, wp_expr, wp_raise, wp_aug, wp_and, wp_or, wp_not, wp_andV, wp_orV, wp_notV, wp_if, wp_lst, wp_tup, wp_some, wp_no, wp_sl, wp_listof, wp_cat, wp_meth, opApp_q, wp_rng1, wp_rng2, wp_iter, wp_for, wp_comp, wp_call, wp_callK, wp_callR, dflR, argsOf, argOf, ios, lns, putOuts, putO, putT, freeRv, itemsR_pk, itemsL_pk, itemsR_fl, itemsL_fl, itemsR_lent, itemsL_lent, itemsR_L, itemsL_L, slI_t, slI_io, seqQ_nx, seqQ_ret, seqQ_bk, seqQ_ct, lpQ_nx, lpQ_ret, lpQ_bk, lpQ_ct, runQ_ret, runQ_nx, outOf, outsAt, putL, wp_nx, wp_bk, wp_ct, wp_ret, wp_opt, L_len, J_len, J_v, J_app, L_app, L_snoc, L_set, wp_vf, wp_lend, ldQ_t, relend, iterL_J, iterT_ft, iterL_lent, pyEq_00, plainAt, wipeS, backS, line]
    refine other_spec hb (by omega) n0 n1 fun other a1 c1 o0 hb => ?_
    simp [wp_run, wp_seq, wp_ifs, wp_tst, wp_op, wp_un, wp_ix, wp_var, wp_mv, varS_io, varS_v, varS_l, varS_tu, varS_lent, mvS_t, lv_lst, lv_tup, lv_int, lv_bl, wp_c, wp_fz, fzR_v, fzR_lst, fzR_tup, fzR_lent, fzR_pk, toDs_L, toDs_nil, toDs_cons, toD_v, toD_lst, toD_tup, rvQ_v, bolQ_v, intQ_v, ixR_pk, ixR_fl, ixR_ft, ixR_ll, ixS_t, ixS_io, atI_Jq, atI_Lq, atI_0, atI_1, atI_2, iop_ii, icmp_ii, wp_asg, setSl_t, setSl_lent, wp_look, wp_look2, wp_cons, wp_nil, viewRs_cons, viewRs_nil, viewR_t, viewR_lent, viewR_pk, slD_t, slD_io, fInt_i, fLen_l, fLen_t, fMax_ii, fMin_ii, isi_ll, isi_ii, isi_ib, isi_bb, fEq_q, fNe_q, pyEq_J, pyEq_Jn, pyEq_nJ, pyEq_ii, pyEq_nn, pyEq_ni, pyEq_in, pyEq_JJ2, optS_some, optS_none, wp_setix, lstAt_q, rvT_q, rvTs_nil, rvTs_t, wp_return, wp_retN, wp_expr, wp_raise, wp_aug, wp_and, wp_or, wp_not, wp_andV, wp_orV, wp_notV, wp_if, wp_lst, wp_tup, wp_some, wp_no, wp_sl, wp_listof, wp_cat, wp_meth, opApp_q, wp_rng1, wp_rng2, wp_iter, wp_for, wp_comp, wp_call, wp_callK, wp_callR, dflR, argsOf, argOf, ios, lns, putOuts, putO, putT, freeRv, itemsR_pk, itemsL_pk, itemsR_fl, itemsL_fl, itemsR_lent, itemsL_lent, itemsR_L, itemsL_L, slI_t, slI_io, seqQ_nx, seqQ_ret, seqQ_bk, seqQ_ct, lpQ_nx, lpQ_ret, lpQ_bk, lpQ_ct, runQ_ret, runQ_nx, outOf, outsAt, putL, wp_nx, wp_bk, wp_ct, wp_ret, wp_opt, L_len, J_len, J_v, J_app, L_app, L_snoc, L_set, wp_vf, wp_lend, ldQ_t, relend, iterL_J, iterT_ft, iterL_lent, pyEq_00, plainAt, wipeS, backS, line]
    refine go_nx g2 (wp_step fun Q2 g2 => ?_)
    simp [wp_run, wp_seq, wp_ifs, wp_tst, wp_op, wp_un, wp_ix, wp_var, wp_mv, varS_io, varS_v, varS_l, varS_tu, varS_lent, mvS_t, lv_lst, lv_tup, lv_int, lv_bl, wp_c, wp_fz, fzR_v, fzR_lst, fzR_tup, fzR_lent, fzR_pk, toDs_L, toDs_nil, toDs_cons, toD_v, toD_lst, toD_tup, rvQ_v, bolQ_v, intQ_v, ixR_pk, ixR_fl, ixR_ft, ixR_ll, ixS_t, ixS_io, atI_Jq, atI_Lq, atI_0, atI_1, atI_2, iop_ii, icmp_ii, wp_asg, setSl_t, setSl_lent, wp_look, wp_look2, wp_cons, wp_nil, viewRs_cons, viewRs_nil, viewR_t, viewR_lent, viewR_pk, slD_t, slD_io, fInt_i, fLen_l, fLen_t, fMax_ii, fMin_ii, isi_ll, isi_ii, isi_ib, isi_bb, fEq_q, fNe_q, pyEq_J, pyEq_Jn, pyEq_nJ, pyEq_ii, pyEq_nn, pyEq_ni, pyEq_in, pyEq_JJ2, optS_some, optS_none, wp_setix, lstAt_q, rvT_q, rvTs_nil, rvTs_t, wp_return, wp_retN, wp_expr, wp_raise, wp_aug, wp_and, wp_or, wp_not, wp_andV, wp_orV, wp_notV, wp_if, wp_lst, wp_tup, wp_some, wp_no, wp_sl, wp_listof, wp_cat, wp_meth, opApp_q, wp_rng1, wp_rng2, wp_iter, wp_for, wp_comp, wp_call, wp_callK, wp_callR, dflR, argsOf, argOf, ios, lns, putOuts, putO, putT, freeRv, itemsR_pk, itemsL_pk, itemsR_fl, itemsL_fl, itemsR_lent, itemsL_lent, itemsR_L, itemsL_L, slI_t, slI_io, seqQ_nx, seqQ_ret, seqQ_bk, seqQ_ct, lpQ_nx, lpQ_ret, lpQ_bk, lpQ_ct, runQ_ret, runQ_nx, outOf, outsAt, putL, wp_nx, wp_bk, wp_ct, wp_ret, wp_opt, L_len, J_len, J_v, J_app, L_app, L_snoc, L_set, wp_vf, wp_lend, ldQ_t, relend, iterL_J, iterT_ft, iterL_lent, pyEq_00, plainAt, wipeS, backS, line]
    refine right_spec n0 o0 ?_
    simp [wp_run, wp_seq, wp_ifs, wp_tst, wp_op, wp_un, wp_ix, wp_var, wp_mv, varS_io, varS_v, varS_l, varS_tu, varS_lent, mvS_t, lv_lst, lv_tup, lv_int, lv_bl, wp_c, wp_fz, fzR_v, fzR_lst, fzR_tup, fzR_lent, fzR_pk, toDs_L, toDs_nil, toDs_cons, toD_v, toD_lst, toD_tup, rvQ_v, bolQ_v, intQ_v, ixR_pk, ixR_fl, ixR_ft, ixR_ll, ixS_t, ixS_io, atI_Jq, atI_Lq, atI_0, atI_1, atI_2, iop_ii, icmp_ii, wp_asg, setSl_t, setSl_lent, wp_look, wp_look2, wp_cons, wp_nil, viewRs_cons, viewRs_nil, viewR_t, viewR_lent, viewR_pk, slD_t, slD_io, fInt_i, fLen_l, fLen_t, fMax_ii, fMin_ii, isi_ll, isi_ii, isi_ib, isi_bb, fEq_q, fNe_q, pyEq_J, pyEq_Jn, pyEq_nJ, pyEq_ii, pyEq_nn, pyEq_ni, pyEq_in, pyEq_JJ2, optS_some, optS_none, wp_setix, lstAt_q, rvT_q, rvTs_nil, rvTs_t, wp_return, wp_retN, wp_expr, wp_raise, wp_aug, wp_and, wp_or, wp_not, wp_andV, wp_orV, wp_notV, wp_if, wp_lst, wp_tup, wp_some, wp_no, wp_sl, wp_listof, wp_cat, wp_meth, opApp_q, wp_rng1, wp_rng2, wp_iter, wp_for, wp_comp, wp_call, wp_callK, wp_callR, dflR, argsOf, argOf, ios, lns, putOuts, putO, putT, freeRv, itemsR_pk, itemsL_pk, itemsR_fl, itemsL_fl, itemsR_lent, itemsL_lent, itemsR_L, itemsL_L, slI_t, slI_io, seqQ_nx, seqQ_ret, seqQ_bk, seqQ_ct, lpQ_nx, lpQ_ret, lpQ_bk, lpQ_ct, runQ_ret, runQ_nx, outOf, outsAt, putL, wp_nx, wp_bk, wp_ct, wp_ret, wp_opt, L_len, J_len, J_v, J_app, L_app, L_snoc, L_set, wp_vf, wp_lend, ldQ_t, relend, iterL_J, iterT_ft, iterL_lent, pyEq_00, plainAt, wipeS, backS, line]
    refine right_spec o0 n0 ?_
    simp [wp_run, wp_seq, wp_ifs, wp_tst, wp_op, wp_un, wp_ix, wp_var, wp_mv, varS_io, varS_v, varS_l, varS_tu, varS_lent, mvS_t, lv_lst, lv_tup, lv_int, lv_bl, wp_c, wp_fz, fzR_v, fzR_lst, fzR_tup, fzR_lent, fzR_pk, toDs_L, toDs_nil, toDs_cons, toD_v, toD_lst, toD_tup, rvQ_v, bolQ_v, intQ_v, ixR_pk, ixR_fl, ixR_ft, ixR_ll, ixS_t, ixS_io, atI_Jq, atI_Lq, atI_0, atI_1, atI_2, iop_ii, icmp_ii, wp_asg, setSl_t, setSl_lent, wp_look, wp_look2, wp_cons, wp_nil, viewRs_cons, viewRs_nil, viewR_t, viewR_lent, viewR_pk, slD_t, slD_io, fInt_i, fLen_l, fLen_t, fMax_ii, fMin_ii, isi_ll, isi_ii, isi_ib, isi_bb, fEq_q, fNe_q, pyEq_J, pyEq_Jn, pyEq_nJ, pyEq_ii, pyEq_nn, pyEq_ni, pyEq_in, pyEq_JJ2, optS_some, optS_none, wp_setix, lstAt_q, rvT_q, rvTs_nil, rvTs_t, wp_return, wp_retN, wp_expr, wp_raise, wp_aug, wp_and, wp_or, wp_not, wp_andV, wp_orV, wp_notV, wp_if, wp_lst, wp_tup, wp_some, wp_no, wp_sl, wp_listof, wp_cat, wp_meth, opApp_q, wp_rng1, wp_rng2, wp_iter, wp_for, wp_comp, wp_call, wp_callK, wp_callR, dflR, argsOf, argOf, ios, lns, putOuts, putO, putT, freeRv, itemsR_pk, itemsL_pk, itemsR_fl, itemsL_fl, itemsR_lent, itemsL_lent, itemsR_L, itemsL_L, slI_t, slI_io, seqQ_nx, seqQ_ret, seqQ_bk, seqQ_ct, lpQ_nx, lpQ_ret, lpQ_bk, lpQ_ct, runQ_ret, runQ_nx, outOf, outsAt, putL, wp_nx, wp_bk, wp_ct, wp_ret, wp_opt, L_len, J_len, J_v, J_app, L_app, L_snoc, L_set, wp_vf, wp_lend, ldQ_t, relend, iterL_J, iterT_ft, iterL_lent, pyEq_00, plainAt, wipeS, backS, line]
    refine right_spec n0 n0 ?_
    simp [wp_run, wp_seq, wp_ifs, wp_tst, wp_op, wp_un, wp_ix, wp_var, wp_mv, varS_io, varS_v, varS_l, varS_tu, varS_lent, mvS_t, lv_lst, lv_tup, lv_int, lv_bl, wp_c, wp_fz, fzR_v, fzR_lst, fzR_tup, fzR_lent, fzR_pk, toDs_L, toDs_nil, toDs_cons, toD_v, toD_lst, toD_tup, rvQ_v, bolQ_v, intQ_v, ixR_pk, ixR_fl, ixR_ft, ixR_ll, ixS_t, ixS_io, atI_Jq, atI_Lq, atI_0, atI_1, atI_2, iop_ii, icmp_ii, wp_asg, setSl_t, setSl_lent, wp_look, wp_look2, wp_cons, wp_nil, viewRs_cons, viewRs_nil, viewR_t, viewR_lent, viewR_pk, slD_t, slD_io, fInt_i, fLen_l, fLen_t, fMax_ii, fMin_ii, isi_ll, isi_ii, isi_ib, isi_bb, fEq_q, fNe_q, pyEq_J, pyEq_Jn, pyEq_nJ, pyEq_ii, pyEq_nn, pyEq_ni, pyEq_in, pyEq_JJ2, optS_some, optS_none, wp_setix, lstAt_q, rvT_q, rvTs_nil, rvTs_t, wp_return, wp_retN, wp_expr, wp_raise, wp_aug, wp_and, wp_or, wp_not, wp_andV, wp_orV, wp_notV, wp_if, wp_lst, wp_tup, wp_some, wp_no, wp_sl, wp_listof, wp_cat, wp_meth, opApp_q, wp_rng1, wp_rng2, wp_iter, wp_for, wp_comp, wp_call, wp_callK, wp_callR, dflR, argsOf, argOf, ios, lns, putOuts, putO, putT, freeRv, itemsR_pk, itemsL_pk, itemsR_fl, itemsL_fl, itemsR_lent, itemsL_lent, itemsR_L, itemsL_L, slI_t, slI_io, seqQ_nx, seqQ_ret, seqQ_bk, seqQ_ct, lpQ_nx, lpQ_ret, lpQ_bk, lpQ_ct, runQ_ret, runQ_nx, outOf, outsAt, putL, wp_nx, wp_bk, wp_ct, wp_ret, wp_opt, L_len, J_len, J_v, J_app, L_app, L_snoc, L_set, wp_vf, wp_lend, ldQ_t, relend, iterL_J, iterT_ft, iterL_lent, pyEq_00, plainAt, wipeS, backS, line]
    refine go_nx g2 ?_
    simp [wp_run, wp_seq, wp_ifs, wp_tst, wp_op, wp_un, wp_ix, wp_var, wp_mv, varS_io, varS_v, varS_l, varS_tu, varS_lent, mvS_t, lv_lst, lv_tup, lv_int, lv_bl, wp_c, wp_fz, fzR_v, fzR_lst, fzR_tup, fzR_lent, fzR_pk, toDs_L, toDs_nil, toDs_cons, toD_v, toD_lst, toD_tup, rvQ_v, bolQ_v, intQ_v, ixR_pk, ixR_fl, ixR_ft, ixR_ll, ixS_t, ixS_io, atI_Jq, atI_Lq, atI_0, atI_1, atI_2, iop_ii, icmp_ii, wp_asg, setSl_t, setSl_lent, wp_look, wp_look2, wp_cons, wp_nil, viewRs_cons, viewRs_nil, viewR_t, viewR_lent, viewR_pk, slD_t, slD_io, fInt_i, fLen_l, fLen_t, fMax_ii, fMin_ii, isi_ll, isi_ii, isi_ib, isi_bb, fEq_q, fNe_q, pyEq_J, pyEq_Jn, pyEq_nJ, pyEq_ii, pyEq_nn, pyEq_ni, pyEq_in, pyEq_JJ2, optS_some, optS_none, wp_setix, lstAt_q, rvT_q, rvTs_nil, rvTs_t, wp_return, wp_retN, wp_expr, wp_raise, wp_aug, wp_and, wp_or, wp_not, wp_andV, wp_orV, wp_notV, wp_if, wp_lst, wp_tup, wp_some, wp_no, wp_sl, wp_listof, wp_cat, wp_meth, opApp_q, wp_rng1, wp_rng2, wp_iter, wp_for, wp_comp, wp_call, wp_callK, wp_callR, dflR, argsOf, argOf, ios, lns, putOuts, putO, putT, freeRv, itemsR_pk, itemsL_pk, itemsR_fl, itemsL_fl, itemsR_lent, itemsL_lent, itemsR_L, itemsL_L, slI_t, slI_io, seqQ_nx, seqQ_ret, seqQ_bk, seqQ_ct, lpQ_nx, lpQ_ret, lpQ_bk, lpQ_ct, runQ_ret, runQ_nx, outOf, outsAt, putL, wp_nx, wp_bk, wp_ct, wp_ret, wp_opt, L_len, J_len, J_v, J_app, L_app, L_snoc, L_set, wp_vf, wp_lend, ldQ_t, relend, iterL_J, iterT_ft, iterL_lent, pyEq_00, plainAt, wipeS, backS, line, g_altered_cells_kaltered_amount]
    refine altered_spec n0 o0 ?_
    simp [wp_run, wp_seq, wp_ifs, wp_tst, wp_op, wp_un, wp_ix, wp_var, wp_mv, varS_io, varS_v, varS_l, varS_tu, varS_lent, mvS_t, lv_lst, lv_tup, lv_int, lv_bl, wp_c, wp_fz, fzR_v, fzR_lst, fzR_tup, fzR_lent, fzR_pk, toDs_L, toDs_nil, toDs_cons, toD_v, toD_lst, toD_tup, rvQ_v, bolQ_v, intQ_v, ixR_pk, ixR_fl, ixR_ft, ixR_ll, ixS_t, ixS_io, atI_Jq, atI_Lq, atI_0, atI_1, atI_2, iop_ii, icmp_ii, wp_asg, setSl_t, setSl_lent, wp_look, wp_look2, wp_cons, wp_nil, viewRs_cons, viewRs_nil, viewR_t, viewR_lent, viewR_pk, slD_t, slD_io, fInt_i, fLen_l, fLen_t, fMax_ii, fMin_ii, isi_ll, isi_ii, isi_ib, isi_bb, fEq_q, fNe_q, pyEq_J, pyEq_Jn, pyEq_nJ, pyEq_ii, pyEq_nn, pyEq_ni, pyEq_in, pyEq_JJ2, optS_some, optS_none, wp_setix, lstAt_q, rvT_q, rvTs_nil, rvTs_t, wp_return, wp_retN, wp_expr, wp_raise, wp_aug, wp_and, wp_or, wp_not, wp_andV, wp_orV, wp_notV, wp_if, wp_lst, wp_tup, wp_some, wp_no, wp_sl, wp_listof, wp_cat, wp_meth, opApp_q, wp_rng1, wp_rng2, wp_iter, wp_for, wp_comp, wp_call, wp_callK, wp_callR, dflR, argsOf, argOf, ios, lns, putOuts, putO, putT, freeRv, itemsR_pk, itemsL_pk, itemsR_fl, itemsL_fl, itemsR_lent, itemsL_lent, itemsR_L, itemsL_L, slI_t, slI_io, seqQ_nx, seqQ_ret, seqQ_bk, seqQ_ct, lpQ_nx, lpQ_ret, lpQ_bk, lpQ_ct, runQ_ret, runQ_nx, outOf, outsAt, putL, wp_nx, wp_bk, wp_ct, wp_ret, wp_opt, L_len, J_len, J_v, J_app, L_app, L_snoc, L_set, wp_vf, wp_lend, ldQ_t, relend, iterL_J, iterT_ft, iterL_lent, pyEq_00, plainAt, wipeS, backS, line]
    refine due_spec n0 o0 ?_
    simp [wp_run, wp_seq, wp_ifs, wp_tst, wp_op, wp_un, wp_ix, wp_var, wp_mv, varS_io, varS_v, varS_l, varS_tu, varS_lent, mvS_t, lv_lst, lv_tup, lv_int, lv_bl, wp_c, wp_fz, fzR_v, fzR_lst, fzR_tup, fzR_lent, fzR_pk, toDs_L, toDs_nil, toDs_cons, toD_v, toD_lst, toD_tup, rvQ_v, bolQ_v, intQ_v, ixR_pk, ixR_fl, ixR_ft, ixR_ll, ixS_t, ixS_io, atI_Jq, atI_Lq, atI_0, atI_1, atI_2, iop_ii, icmp_ii, wp_asg, setSl_t, setSl_lent, wp_look, wp_look2, wp_cons, wp_nil, viewRs_cons, viewRs_nil, viewR_t, viewR_lent, viewR_pk, slD_t, slD_io, fInt_i, fLen_l, fLen_t, fMax_ii, fMin_ii, isi_ll, isi_ii, isi_ib, isi_bb, fEq_q, fNe_q, pyEq_J, pyEq_Jn, pyEq_nJ, pyEq_ii, pyEq_nn, pyEq_ni, pyEq_in, pyEq_JJ2, optS_some, optS_none, wp_setix, lstAt_q, rvT_q, rvTs_nil, rvTs_t, wp_return, wp_retN, wp_expr, wp_raise, wp_aug, wp_and, wp_or, wp_not, wp_andV, wp_orV, wp_notV, wp_if, wp_lst, wp_tup, wp_some, wp_no, wp_sl, wp_listof, wp_cat, wp_meth, opApp_q, wp_rng1, wp_rng2, wp_iter, wp_for, wp_comp, wp_call, wp_callK, wp_callR, dflR, argsOf, argOf, ios, lns, putOuts, putO, putT, freeRv, itemsR_pk, itemsL_pk, itemsR_fl, itemsL_fl, itemsR_lent, itemsL_lent, itemsR_L, itemsL_L, slI_t, slI_io, seqQ_nx, seqQ_ret, seqQ_bk, seqQ_ct, lpQ_nx, lpQ_ret, lpQ_bk, lpQ_ct, runQ_ret, runQ_nx, outOf, outsAt, putL, wp_nx, wp_bk, wp_ct, wp_ret, wp_opt, L_len, J_len, J_v, J_app, L_app, L_snoc, L_set, wp_vf, wp_lend, ldQ_t, relend, iterL_J, iterT_ft, iterL_lent, pyEq_00, plainAt, wipeS, backS, line]
    exact ⟨_, _, _, _, by simp, by simp, by simp, by simp, rfl⟩
  · rintro ρ ⟨s1, s2, s3, s4, h1, h2, h3, h4, rfl⟩
    refine go_nx g1 ?_
    simp [wp_run, wp_seq, wp_ifs, wp_tst, wp_op, wp_un, wp_ix, wp_var, wp_mv, varS_io, varS_v, varS_l, varS_tu, varS_lent, mvS_t, lv_lst, lv_tup, lv_int, lv_bl, wp_c, wp_fz, fzR_v, fzR_lst, fzR_tup, fzR_lent, fzR_pk, toDs_L, toDs_nil, toDs_cons, toD_v, toD_lst, toD_tup, rvQ_v, bolQ_v, intQ_v, ixR_pk, ixR_fl, ixR_ft, ixR_ll, ixS_t, ixS_io, atI_Jq, atI_Lq, atI_0, atI_1, atI_2, iop_ii, icmp_ii, wp_asg, setSl_t, setSl_lent, wp_look, wp_look2, wp_cons, wp_nil, viewRs_cons, viewRs_nil, viewR_t, viewR_lent, viewR_pk, slD_t, slD_io, fInt_i, fLen_l, fLen_t, fMax_ii, fMin_ii, isi_ll, isi_ii, isi_ib, isi_bb, fEq_q, fNe_q, pyEq_J, pyEq_Jn, pyEq_nJ, pyEq_ii, pyEq_nn, pyEq_ni, pyEq_in, pyEq_JJ2, optS_some, optS_none, wp_setix, lstAt_q, rvT_q, rvTs_nil, rvTs_t, wp_return, wp_retN, wp_expr, wp_raise, wp_aug, wp_and, wp_or, wp_not, wp_andV, wp_orV, wp_notV, wp_if, wp_lst, wp_tup, wp_some, wp_no, wp_sl, wp_listof, wp_cat, wp_meth, opApp_q, wp_rng1, wp_rng2, wp_iter, wp_for, wp_comp, wp_call, wp_callK, wp_callR, dflR, argsOf, argOf, ios, lns, putOuts, putO, putT, freeRv, itemsR_pk, itemsL_pk, itemsR_fl, itemsL_fl, itemsR_lent, itemsL_lent, itemsR_L, itemsL_L, slI_t, slI_io, seqQ_nx, seqQ_ret, seqQ_bk, seqQ_ct, lpQ_nx, lpQ_ret, lpQ_bk, lpQ_ct, runQ_ret, runQ_nx, outOf, outsAt, putL, wp_nx, wp_bk, wp_ct, wp_ret, wp_opt, L_len, J_len, J_v, J_app, L_app, L_snoc, L_set, wp_vf, wp_lend, ldQ_t, relend, iterL_J, iterT_ft, iterL_lent, pyEq_00, plainAt, wipeS, backS, line]
    exact hQ
theorem plain (ns : List Int) (hl : ns.length ≤ 63) (_ : ∀ z ∈ ns, Builtin.Int.intBits z ≤ 1048576) : ∃ outs, phi_law [scr ns] = some (.ok (.v (.bl true)), outs) := by
  have h := law_spec ns hl (Q := fun t outs => t = .v (.bl true) ∧ outs = [none]) (E := NoE) ⟨rfl, rfl⟩
  unfold WPF at h
  show ∃ outs, phi_law [.t (.v (.lst (J ns)))] = _
  cases e : phi_law [.t (.v (.lst (J ns)))] with
  | none => rw [e] at h; exact h.elim
  | some p =>
    obtain ⟨o, outs⟩ := p
    rw [e] at h
    cases o with
    | exc c d => exact h.elim
    | ok t => obtain ⟨rfl, _⟩ := h; exact ⟨outs, rfl⟩
end H

namespace H
open PySem PySem.Spec PyProof.Rows L2 W3
section
variable {P : Program} {w : World} {K : PySem.W.Frag} {mg : Str → Option Value} {base h : Heap}
theorem sc_init : FnScope ["self", "value"] ["self", "value"] (defScope (inClass (top 1) 0)) := ⟨rfl, rfl, rfl, by decide +kernel, rfl, by decide +kernel, by decide +kernel⟩
theorem e_InvalidAmount (Z : Fc fa fn ex w h K mg) : ExOk P w K mg base (He.ga K) 1 "InvalidAmount" := by
  obtain ⟨fd, F⟩ := Z.c.t.d.def_ 0 rfl
  exact exOk_of (b := "InkError") (Bool.and_eq_true_iff.mp Z.c.more).2 (Z.glo 13) (init_ok F sc_init rfl rfl) (FunD.bindsN (ps := ["self", "value"]) F fun _ _ _ _ _ _ us hl => match us, hl with | [_, _], _ => rfl)
theorem sc__law_pool : FnScope ["script", "k", "cell", "seed"] ["script", "k"] (defScope (top 9)) := ⟨rfl, rfl, rfl, by decide +kernel, rfl, by decide +kernel, by decide +kernel⟩
theorem fn__law_pool (Z : Fc fa fn ex w h K mg) : ∃ fd, FunD K "_law_pool" "_law_pool" (defArgs (top 9)) (defBody (top 9)) (defScope (top 9)) [] [] (He.fAd K ("_law_pool", none)) fd ∧ FnOk P w K mg base (L2.CX P w) 1 (He.fAd K ("_law_pool", none)) fd ["script", "k"] (spC (He.ga K) 2 phi__law_pool) := by
  obtain ⟨fd, F⟩ := Z.c.t.d.def_ 5 rfl
  refine ⟨fd, F, fnC_of (N := ["script", "k", "cell", "seed"]) (ps := ["script", "k"]) (m := m__law_pool) F sc__law_pool fun cdv A outer s H E hr => ?_⟩
  exact (pms_cons (pms_set (i := 2) pm_int (fun _ => sc__law_pool.nd))
  (pms_cons (pms_if (pmt_lt (pm_var (i := 1)) (pm_lookB (fun _ => call_len_seq) cb_len (fun _ => Z.free 18) (pma_cons (pm_var (i := 0)) pma_nil)))
  (pms_one (pms_set (i := 2) (pm_ix (pm_var (i := 0)) (pm_var (i := 1)) (fun _ => rfl)) (fun _ => sc__law_pool.nd)))
  pms_nil)
  (pms_cons (pms_set (i := 3) (pm_mod (pm_lookT (fun _ => call_int1) cb_int (fun _ => Z.free 16) (pma_cons (pm_var (i := 2)) pma_nil)) pm_int) (fun _ => sc__law_pool.nd))
  (pms_cons (pms_if (pmt_ge (pm_var (i := 2)) (pm_pow pm_int pm_int))
  (pms_one (pms_ret (pm_lst (pma_cons (pm_sub (pm_var (i := 2)) (pm_pow pm_int pm_int)) (pma_cons (pm_var (i := 3)) (pma_cons pm_int pma_nil))))))
  pms_nil)
  (pms_one (pms_ret (pm_lst (pma_cons pm_int (pma_cons (pm_add (pm_var (i := 3)) (pm_mul pm_int (pm_var (i := 1)))) (pma_cons pm_int pma_nil))))))))))
theorem d__law_pool (Z : Fc fa fn ex w h K mg) : DefOk P w K mg base (He.ga K) 1 "_law_pool" 2 [] phi__law_pool := by
  obtain ⟨fd, F, h1⟩ := fn__law_pool (P := P) (base := base) Z
  exact defOk_all (ps := ["script", "k"]) F h1 (Z.glo 4) fun _ _ _ _ _ _ us hl => match us, hl with | [_, _], _ => rfl
theorem sc__law_take : FnScope ["bag", "many", "mixed", "found"] ["bag", "many"] (defScope (top 10)) := ⟨rfl, rfl, rfl, by decide +kernel, rfl, by decide +kernel, by decide +kernel⟩
theorem fn__law_take (Z : Fc fa fn ex w h K mg) : ∃ fd, FunD K "_law_take" "_law_take" (defArgs (top 10)) (defBody (top 10)) (defScope (top 10)) [] [] (He.fAd K ("_law_take", none)) fd ∧ FnOk P w K mg base (L2.CX P w) 1 (He.fAd K ("_law_take", none)) fd ["bag", "many"] (spC (He.ga K) 2 phi__law_take) := by
  obtain ⟨fd, F⟩ := Z.c.t.d.def_ 6 rfl
  refine ⟨fd, F, fnC_of (N := ["bag", "many", "mixed", "found"]) (ps := ["bag", "many"]) (m := m__law_take) F sc__law_take fun cdv A outer s H E hr => ?_⟩
  exact (pms_cons (pms_if (pmt_gt (pm_ix (pm_var (i := 0)) pm_int (fun _ => rfl)) pm_int)
  (pms_cons (pms_set (i := 3) (pm_mod (pm_lookT (fun _ => call_int1) cb_int (fun _ => Z.free 16) (pma_cons (pm_ix (pm_var (i := 0)) pm_int (fun _ => rfl)) pma_nil)) (pm_var (i := 1))) (fun _ => sc__law_take.nd))
  (pms_cons (pms_setix (k := 0) (pm_fdiv (pm_ix (pm_var (i := 0)) pm_int (fun _ => rfl)) (pm_var (i := 1))) pm_int)
  (pms_one (pms_ret (pm_var (i := 3))))))
  pms_nil)
  (pms_cons (pms_setix (k := 0) (pm_add (pm_ix (pm_var (i := 0)) pm_int (fun _ => rfl)) pm_int) pm_int)
  (pms_cons (pms_set (i := 2) (pm_mul (pm_add (pm_add (pm_ix (pm_var (i := 0)) pm_int (fun _ => rfl)) (pm_mul pm_int (pm_ix (pm_var (i := 0)) pm_int (fun _ => rfl)))) pm_int) (pm_add (pm_add (pm_ix (pm_var (i := 0)) pm_int (fun _ => rfl)) (pm_mul (pm_mul pm_int (pm_ix (pm_var (i := 0)) pm_int (fun _ => rfl))) (pm_ix (pm_var (i := 0)) pm_int (fun _ => rfl)))) pm_int)) (fun _ => sc__law_take.nd))
  (pms_cons (pms_set (i := 2) (pm_mod (pm_lookT (fun _ => call_int1) cb_int (fun _ => Z.free 16) (pma_cons (pm_var (i := 2)) pma_nil)) pm_int) (fun _ => sc__law_take.nd))
  (pms_cons (pms_set (i := 2) (pm_mod (pm_lookT (fun _ => call_int1) cb_int (fun _ => Z.free 16) (pma_cons (pm_mul (pm_var (i := 2)) (pm_add (pm_add (pm_var (i := 2)) (pm_mul pm_int (pm_ix (pm_var (i := 0)) pm_int (fun _ => rfl)))) pm_int)) pma_nil)) pm_int) (fun _ => sc__law_take.nd))
  (pms_one (pms_ret (pm_mod (pm_lookT (fun _ => call_int1) cb_int (fun _ => Z.free 16) (pma_cons (pm_fdiv (pm_var (i := 2)) pm_int) pma_nil)) (pm_var (i := 1))))))))))
theorem d__law_take (Z : Fc fa fn ex w h K mg) : DefOk P w K mg base (He.ga K) 1 "_law_take" 2 [] phi__law_take := by
  obtain ⟨fd, F, h1⟩ := fn__law_take (P := P) (base := base) Z
  exact defOk_all (ps := ["bag", "many"]) F h1 (Z.glo 5) fun _ _ _ _ _ _ us hl => match us, hl with | [_, _], _ => rfl
theorem sc__law_amount : FnScope ["bag", "size", "found"] ["bag", "size"] (defScope (top 11)) := ⟨rfl, rfl, rfl, by decide +kernel, rfl, by decide +kernel, by decide +kernel⟩
theorem fn__law_amount (Z : Fc fa fn ex w h K mg) : ∃ fd, FunD K "_law_amount" "_law_amount" (defArgs (top 11)) (defBody (top 11)) (defScope (top 11)) [] [] (He.fAd K ("_law_amount", none)) fd ∧ FnOk P w K mg base (L2.CX P w) 2 (He.fAd K ("_law_amount", none)) fd ["bag", "size"] (spC (He.ga K) 2 phi__law_amount) := by
  have d__law_take := d__law_take (P := P) (base := base) Z
  obtain ⟨fd, F⟩ := Z.c.t.d.def_ 7 rfl
  refine ⟨fd, F, fnC_of (N := ["bag", "size", "found"]) (ps := ["bag", "size"]) (m := m__law_amount) F sc__law_amount fun cdv A outer s H E hr => ?_⟩
  exact (pms_cons (pms_set (i := 2) (pm_lst (pma_cons (pm_add pm_int (pm_call d__law_take [true, false] (fun _ => ⟨rfl, rfl, rfl, rfl, rfl⟩) (fun _ => hr.mono (by decide)) (fun _ => tk_cx) (pma_cons (pm_var (i := 0)) (pma_cons pm_int pma_nil)))) pma_nil)) (fun _ => sc__law_amount.nd))
  (pms_cons (pms_while (fun _ => po_cx) (pmt_lt (pm_lookB (fun _ => call_len_seq) cb_len (fun _ => Z.free 18) (pma_cons (pm_var (i := 2)) pma_nil)) (pm_var (i := 1)))
  (pms_one (pms_expr (pm_meth (k := 2) PySem.F.plainAttrs_list PySem.F.slot_list_append PySem.F.type_list_append (fun _ => mt_append) ok_app (fun _ => rfl) (pma_cons (pm_call d__law_take [true, false] (fun _ => ⟨rfl, rfl, rfl, rfl, rfl⟩) (fun _ => hr.mono (by decide)) (fun _ => tk_cx) (pma_cons (pm_var (i := 0)) (pma_cons pm_int pma_nil))) pma_nil) ))))
  (pms_one (pms_ret (pm_var (i := 2))))))
theorem d__law_amount (Z : Fc fa fn ex w h K mg) : DefOk P w K mg base (He.ga K) 2 "_law_amount" 2 [] phi__law_amount := by
  obtain ⟨fd, F, h1⟩ := fn__law_amount (P := P) (base := base) Z
  exact defOk_all (ps := ["bag", "size"]) F h1 (Z.glo 6) fun _ _ _ _ _ _ us hl => match us, hl with | [_, _], _ => rfl
theorem sc__law_size : FnScope ["bag", "top", "kind"] ["bag", "top"] (defScope (top 12)) := ⟨rfl, rfl, rfl, by decide +kernel, rfl, by decide +kernel, by decide +kernel⟩
theorem fn__law_size (Z : Fc fa fn ex w h K mg) : ∃ fd, FunD K "_law_size" "_law_size" (defArgs (top 12)) (defBody (top 12)) (defScope (top 12)) [] [] (He.fAd K ("_law_size", none)) fd ∧ FnOk P w K mg base (L2.CX P w) 2 (He.fAd K ("_law_size", none)) fd ["bag", "top"] (spC (He.ga K) 2 phi__law_size) := by
  have d__law_take := d__law_take (P := P) (base := base) Z
  obtain ⟨fd, F⟩ := Z.c.t.d.def_ 8 rfl
  refine ⟨fd, F, fnC_of (N := ["bag", "top", "kind"]) (ps := ["bag", "top"]) (m := m__law_size) F sc__law_size fun cdv A outer s H E hr => ?_⟩
  exact (pms_cons (pms_set (i := 2) (pm_call d__law_take [true, false] (fun _ => ⟨rfl, rfl, rfl, rfl, rfl⟩) (fun _ => hr.mono (by decide)) (fun _ => tk_cx) (pma_cons (pm_var (i := 0)) (pma_cons pm_int pma_nil))) (fun _ => sc__law_size.nd))
  (pms_cons (pms_if (pmt_eq (fun _ => rfl) (fun _ => hr.units) (pm_var (i := 2)) pm_int)
  (pms_one (pms_ret (pm_add pm_int (pm_call d__law_take [true, false] (fun _ => ⟨rfl, rfl, rfl, rfl, rfl⟩) (fun _ => hr.mono (by decide)) (fun _ => tk_cx) (pma_cons (pm_var (i := 0)) (pma_cons pm_int pma_nil))))))
  pms_nil)
  (pms_cons (pms_if (pmt_eq (fun _ => rfl) (fun _ => hr.units) (pm_var (i := 2)) pm_int)
  (pms_one (pms_ret (pm_add pm_int (pm_call d__law_take [true, false] (fun _ => ⟨rfl, rfl, rfl, rfl, rfl⟩) (fun _ => hr.mono (by decide)) (fun _ => tk_cx) (pma_cons (pm_var (i := 0)) (pma_cons pm_int pma_nil))))))
  pms_nil)
  (pms_one (pms_ret (pm_add pm_int (pm_call d__law_take [true, false] (fun _ => ⟨rfl, rfl, rfl, rfl, rfl⟩) (fun _ => hr.mono (by decide)) (fun _ => tk_cx) (pma_cons (pm_var (i := 0)) (pma_cons (pm_var (i := 1)) pma_nil)))))))))
theorem d__law_size (Z : Fc fa fn ex w h K mg) : DefOk P w K mg base (He.ga K) 2 "_law_size" 2 [] phi__law_size := by
  obtain ⟨fd, F, h1⟩ := fn__law_size (P := P) (base := base) Z
  exact defOk_all (ps := ["bag", "top"]) F h1 (Z.glo 7) fun _ _ _ _ _ _ us hl => match us, hl with | [_, _], _ => rfl
theorem sc__law_other : FnScope ["bag", "base", "kind", "found", "turn"] ["bag", "base"] (defScope (top 14)) := ⟨rfl, rfl, rfl, by decide +kernel, rfl, by decide +kernel, by decide +kernel⟩
theorem fn__law_other (Z : Fc fa fn ex w h K mg) : ∃ fd, FunD K "_law_other" "_law_other" (defArgs (top 14)) (defBody (top 14)) (defScope (top 14)) [] [] (He.fAd K ("_law_other", none)) fd ∧ FnOk P w K mg base (L2.CX P w) 3 (He.fAd K ("_law_other", none)) fd ["bag", "base"] (spC (He.ga K) 2 phi__law_other) := by
  have d__law_take := d__law_take (P := P) (base := base) Z
  have d__law_amount := d__law_amount (P := P) (base := base) Z
  have d__law_size := d__law_size (P := P) (base := base) Z
  obtain ⟨fd, F⟩ := Z.c.t.d.def_ 10 rfl
  refine ⟨fd, F, fnC_of (N := ["bag", "base", "kind", "found", "turn"]) (ps := ["bag", "base"]) (m := m__law_other) F sc__law_other fun cdv A outer s H E hr => ?_⟩
  exact (pms_cons (pms_set (i := 2) (pm_call d__law_take [true, false] (fun _ => ⟨rfl, rfl, rfl, rfl, rfl⟩) (fun _ => hr.mono (by decide)) (fun _ => tk_cx) (pma_cons (pm_var (i := 0)) (pma_cons pm_int pma_nil))) (fun _ => sc__law_other.nd))
  (pms_cons (pms_if (pmt_eq (fun _ => rfl) (fun _ => hr.units) (pm_var (i := 2)) pm_int)
  (pms_one (pms_ret (pm_call d__law_amount [true, false] (fun _ => ⟨rfl, rfl, rfl, rfl, rfl⟩) (fun _ => hr.mono (by decide)) (fun _ => tk_cx) (pma_cons (pm_var (i := 0)) (pma_cons (pm_call d__law_size [true, false] (fun _ => ⟨rfl, rfl, rfl, rfl, rfl⟩) (fun _ => hr.mono (by decide)) (fun _ => tk_cx) (pma_cons (pm_var (i := 0)) (pma_cons pm_int pma_nil))) pma_nil)))))
  pms_nil)
  (pms_cons (pms_set (i := 3) (pm_listof (fun _ => rfl) (fun _ => Z.free 19) (pma_cons (pm_var (i := 1)) pma_nil)) (fun _ => sc__law_other.nd))
  (pms_cons (pms_for (fun _ => po_cx) (fun _ => rfl) (pmi_rng1 (fun _ => Z.free 22) (pma_cons (pm_call d__law_take [true, false] (fun _ => ⟨rfl, rfl, rfl, rfl, rfl⟩) (fun _ => hr.mono (by decide)) (fun _ => tk_cx) (pma_cons (pm_var (i := 0)) (pma_cons pm_int pma_nil))) pma_nil)) (pmg_nm (i := 4) (fun _ => sc__law_other.nd))
  (pms_one (pms_setix (k := 3) (pm_call d__law_take [true, false] (fun _ => ⟨rfl, rfl, rfl, rfl, rfl⟩) (fun _ => hr.mono (by decide)) (fun _ => tk_cx) (pma_cons (pm_var (i := 0)) (pma_cons pm_int pma_nil))) (pm_call d__law_take [true, false] (fun _ => ⟨rfl, rfl, rfl, rfl, rfl⟩) (fun _ => hr.mono (by decide)) (fun _ => tk_cx) (pma_cons (pm_var (i := 0)) (pma_cons (pm_lookB (fun _ => call_len_seq) cb_len (fun _ => Z.free 18) (pma_cons (pm_var (i := 3)) pma_nil)) pma_nil))))))
  (pms_cons (pms_if (pmt_eq (fun _ => rfl) (fun _ => hr.units) (pm_var (i := 2)) pm_int)
  (pms_one (pms_set (i := 3) (pm_cat (pm_comp (own := [("turn", 4)]) (fun _ => rfl) (fun _ => sc__law_other.nd) (pmi_rng1 (fun _ => Z.free 22) (pma_cons (pm_lookB (fun _ => call_min2 rfl) cb_min2 (fun _ => Z.free 21) (pma_cons (pm_sub pm_int (pm_lookB (fun _ => call_len_seq) cb_len (fun _ => Z.free 18) (pma_cons (pm_var (i := 3)) pma_nil))) (pma_cons (pm_add pm_int (pm_call d__law_take [true, false] (fun _ => ⟨rfl, rfl, rfl, rfl, rfl⟩) (fun _ => hr.mono (by decide)) (fun _ => tk_cx) (pma_cons (pm_var (i := 0)) (pma_cons pm_int pma_nil)))) pma_nil))) pma_nil)) (fun _ => blkB_ok rfl (by kernel_rfl)) (pmg_nm (i := 4) (fun _ => sc__law_other.nd)) pmts_nil (pm_call d__law_take [true, false] (fun _ => ⟨rfl, rfl, rfl, rfl, rfl⟩) (fun _ => hr.mono (by decide)) (fun _ => takes_no) (pma_cons (pm_var (i := 0)) (pma_cons pm_int pma_nil)))) (pm_var (i := 3))) (fun _ => sc__law_other.nd)))
  (pms_one (pms_if (pmt_eq (fun _ => rfl) (fun _ => hr.units) (pm_var (i := 2)) pm_int)
  (pms_one (pms_set (i := 3) (pm_sl (pm_var (i := 3)) (pmo_some (pm_call d__law_take [true, false] (fun _ => ⟨rfl, rfl, rfl, rfl, rfl⟩) (fun _ => hr.mono (by decide)) (fun _ => tk_cx) (pma_cons (pm_var (i := 0)) (pma_cons (pm_lookB (fun _ => call_min2 rfl) cb_min2 (fun _ => Z.free 21) (pma_cons pm_int (pma_cons (pm_lookB (fun _ => call_len_seq) cb_len (fun _ => Z.free 18) (pma_cons (pm_var (i := 3)) pma_nil)) pma_nil))) pma_nil)))) pmo_none (fun _ => rfl)) (fun _ => sc__law_other.nd)))
  pms_nil)))
  (pms_cons (pms_if (pmt_eq (fun _ => rfl) (fun _ => hr.units) (pm_ix (pm_var (i := 3)) pm_int (fun _ => rfl)) pm_int)
  (pms_one (pms_setix (k := 3) (pm_add pm_int (pm_call d__law_take [true, false] (fun _ => ⟨rfl, rfl, rfl, rfl, rfl⟩) (fun _ => hr.mono (by decide)) (fun _ => tk_cx) (pma_cons (pm_var (i := 0)) (pma_cons pm_int pma_nil)))) pm_int))
  pms_nil)
  (pms_one (pms_ret (pm_var (i := 3))))))))))
theorem d__law_other (Z : Fc fa fn ex w h K mg) : DefOk P w K mg base (He.ga K) 3 "_law_other" 2 [] phi__law_other := by
  obtain ⟨fd, F, h1⟩ := fn__law_other (P := P) (base := base) Z
  exact defOk_all (ps := ["bag", "base"]) F h1 (Z.glo 9) fun _ _ _ _ _ _ us hl => match us, hl with | [_, _], _ => rfl
theorem sc__law_due : FnScope ["one", "other", "found", "cell"] ["one", "other"] (defScope (top 13)) := ⟨rfl, rfl, rfl, by decide +kernel, rfl, by decide +kernel, by decide +kernel⟩
theorem fn__law_due (Z : Fc fa fn ex w h K mg) : ∃ fd, FunD K "_law_due" "_law_due" (defArgs (top 13)) (defBody (top 13)) (defScope (top 13)) [] [] (He.fAd K ("_law_due", none)) fd ∧ FnOk P w K mg base (L2.CX P w) 1 (He.fAd K ("_law_due", none)) fd ["one", "other"] (spC (He.ga K) 2 phi__law_due) := by
  obtain ⟨fd, F⟩ := Z.c.t.d.def_ 9 rfl
  refine ⟨fd, F, fnC_of (N := ["one", "other", "found", "cell"]) (ps := ["one", "other"]) (m := m__law_due) F sc__law_due fun cdv A outer s H E hr => ?_⟩
  exact (pms_cons (pms_set (i := 2) (pm_lst pma_nil) (fun _ => sc__law_due.nd))
  (pms_cons (pms_for (fun _ => po_cx) (fun _ => rfl) (pmi_rng1 (fun _ => Z.free 22) (pma_cons (pm_lookB (fun _ => call_max2 rfl) cb_max2 (fun _ => Z.free 20) (pma_cons (pm_lookB (fun _ => call_len_seq) cb_len (fun _ => Z.free 18) (pma_cons (pm_var (i := 0)) pma_nil)) (pma_cons (pm_lookB (fun _ => call_len_seq) cb_len (fun _ => Z.free 18) (pma_cons (pm_var (i := 1)) pma_nil)) pma_nil))) pma_nil)) (pmg_nm (i := 3) (fun _ => sc__law_due.nd))
  (pms_one (pms_if (pmt_w (pmw_or (pmt_ge (pm_var (i := 3)) (pm_lookB (fun _ => call_len_seq) cb_len (fun _ => Z.free 18) (pma_cons (pm_var (i := 0)) pma_nil))) (pmw_or (pmt_ge (pm_var (i := 3)) (pm_lookB (fun _ => call_len_seq) cb_len (fun _ => Z.free 18) (pma_cons (pm_var (i := 1)) pma_nil))) (pmw_or1 (pmt_ne (fun _ => rfl) (fun _ => hr.units) (pm_ix (pm_var (i := 0)) (pm_sub (pm_sub (pm_lookB (fun _ => call_len_seq) cb_len (fun _ => Z.free 18) (pma_cons (pm_var (i := 0)) pma_nil)) pm_int) (pm_var (i := 3))) (fun _ => rfl)) (pm_ix (pm_var (i := 1)) (pm_sub (pm_sub (pm_lookB (fun _ => call_len_seq) cb_len (fun _ => Z.free 18) (pma_cons (pm_var (i := 1)) pma_nil)) pm_int) (pm_var (i := 3))) (fun _ => rfl)))))))
  (pms_one (pms_expr (pm_meth (k := 2) PySem.F.plainAttrs_list PySem.F.slot_list_append PySem.F.type_list_append (fun _ => mt_append) ok_app (fun _ => rfl) (pma_cons (pm_var (i := 3)) pma_nil) )))
  pms_nil)))
  (pms_one (pms_ret (pm_var (i := 2))))))
theorem d__law_due (Z : Fc fa fn ex w h K mg) : DefOk P w K mg base (He.ga K) 1 "_law_due" 2 [] phi__law_due := by
  obtain ⟨fd, F, h1⟩ := fn__law_due (P := P) (base := base) Z
  exact defOk_all (ps := ["one", "other"]) F h1 (Z.glo 8) fun _ _ _ _ _ _ us hl => match us, hl with | [_, _], _ => rfl
theorem sc_require_amount : FnScope ["amount", "wrong", "figure"] ["amount"] (defScope (top 4)) := ⟨rfl, rfl, rfl, by decide +kernel, rfl, by decide +kernel, by decide +kernel⟩
theorem fn_require_amount (Z : Fc fa fn ex w h K mg) : ∃ fd, FunD K "require_amount" "require_amount" (defArgs (top 4)) (defBody (top 4)) (defScope (top 4)) [] [] (He.fAd K ("require_amount", none)) fd ∧ FnOk P w K mg base (L2.CX P w) 3 (He.fAd K ("require_amount", none)) fd ["amount"] (spC (He.ga K) 1 phi_require_amount) := by
  have e_InvalidAmount := e_InvalidAmount (P := P) (base := base) Z
  obtain ⟨fd, F⟩ := Z.c.t.d.def_ 1 rfl
  refine ⟨fd, F, fnC_of (N := ["amount", "wrong", "figure"]) (ps := ["amount"]) (m := m_require_amount) F sc_require_amount fun cdv A outer s H E hr => ?_⟩
  exact (pms_cons (pms_setLc (i := 1) (own := [("figure", 2)]) (fz := m_fz) (.inr rfl) (fun _ => rfl) (fun _ => sc_require_amount.nd) (pmi_list (fun _ => rfl) (pm_var (i := 0))) (fun _ => blkB_ok rfl (by kernel_rfl)) (pmg_nm (i := 2) (fun _ => sc_require_amount.nd)) (pmts_one (pmt_w (pmw_or (pmt_lt (pm_var (i := 2)) pm_int) (pmw_or1 (pmt_gt (pm_var (i := 2)) pm_int))))) (pm_var (i := 2)))
  (pms_one (pms_if (pmt_w (pmw_or (pmt_eq (fun _ => rfl) (fun _ => hr.units) (pm_var (i := 0)) (pm_lst pma_nil)) (pmw_or (pmt_eq (fun _ => rfl) (fun _ => hr.units) (pm_ix (pm_var (i := 0)) pm_int (fun _ => rfl)) pm_int) (pmw_or1 (pmt_ne (fun _ => rfl) (fun _ => hr.units) (pm_var (i := 1)) (pm_lst pma_nil))))))
  (pms_one (pms_raise e_InvalidAmount (fun _ => ⟨rfl, rfl, rfl, rfl, rfl⟩) (fun _ => rfl) (fun _ => hr.mono (by decide)) (fun _ => tk_cx) (pm_fz (pm_listof (fun _ => rfl) (fun _ => Z.free 19) (pma_cons (pm_var (i := 0)) pma_nil)))))
  pms_nil)))
theorem d_require_amount (Z : Fc fa fn ex w h K mg) : DefOk P w K mg base (He.ga K) 3 "require_amount" 1 [] phi_require_amount := by
  obtain ⟨fd, F, h1⟩ := fn_require_amount (P := P) (base := base) Z
  exact defOk_all (ps := ["amount"]) F h1 (Z.glo 0) fun _ _ _ _ _ _ us hl => match us, hl with | [_], _ => rfl
theorem sc_figure_in : FnScope ["amount", "cell"] ["amount", "cell"] (defScope (top 5)) := ⟨rfl, rfl, rfl, by decide +kernel, rfl, by decide +kernel, by decide +kernel⟩
theorem fn_figure_in (Z : Fc fa fn ex w h K mg) : ∃ fd, FunD K "figure_in" "figure_in" (defArgs (top 5)) (defBody (top 5)) (defScope (top 5)) [] [] (He.fAd K ("figure_in", none)) fd ∧ FnOk P w K mg base (L2.CX P w) 1 (He.fAd K ("figure_in", none)) fd ["amount", "cell"] (spC (He.ga K) 2 phi_figure_in) := by
  obtain ⟨fd, F⟩ := Z.c.t.d.def_ 2 rfl
  refine ⟨fd, F, fnC_of (N := ["amount", "cell"]) (ps := ["amount", "cell"]) (m := m_figure_in) F sc_figure_in fun cdv A outer s H E hr => ?_⟩
  exact (pms_cons (pms_if (pmt_lt (pm_var (i := 1)) (pm_lookB (fun _ => call_len_seq) cb_len (fun _ => Z.free 18) (pma_cons (pm_var (i := 0)) pma_nil)))
  (pms_one (pms_ret (pm_ix (pm_var (i := 0)) (pm_sub (pm_sub (pm_lookB (fun _ => call_len_seq) cb_len (fun _ => Z.free 18) (pma_cons (pm_var (i := 0)) pma_nil)) pm_int) (pm_var (i := 1))) (fun _ => rfl))))
  pms_nil)
  (pms_one (pms_ret pm_non)))
theorem d_figure_in (Z : Fc fa fn ex w h K mg) : DefOk P w K mg base (He.ga K) 1 "figure_in" 2 [] phi_figure_in := by
  obtain ⟨fd, F, h1⟩ := fn_figure_in (P := P) (base := base) Z
  exact defOk_all (ps := ["amount", "cell"]) F h1 (Z.glo 1) fun _ _ _ _ _ _ us hl => match us, hl with | [_, _], _ => rfl
theorem sc_differing_cells : FnScope ["amount", "altered", "size", "cell"] ["amount", "altered"] (defScope (top 6)) := ⟨rfl, rfl, rfl, by decide +kernel, rfl, by decide +kernel, by decide +kernel⟩
theorem fn_differing_cells (Z : Fc fa fn ex w h K mg) : ∃ fd, FunD K "differing_cells" "differing_cells" (defArgs (top 6)) (defBody (top 6)) (defScope (top 6)) [] [] (He.fAd K ("differing_cells", none)) fd ∧ FnOk P w K mg base (L2.CX P w) 2 (He.fAd K ("differing_cells", none)) fd ["amount", "altered"] (spC (He.ga K) 2 phi_differing_cells) := by
  have d_figure_in := d_figure_in (P := P) (base := base) Z
  obtain ⟨fd, F⟩ := Z.c.t.d.def_ 3 rfl
  refine ⟨fd, F, fnC_of (N := ["amount", "altered", "size", "cell"]) (ps := ["amount", "altered"]) (m := m_differing_cells) F sc_differing_cells fun cdv A outer s H E hr => ?_⟩
  exact (pms_cons (pms_set (i := 2) (pm_lookB (fun _ => call_max2 rfl) cb_max2 (fun _ => Z.free 20) (pma_cons (pm_lookB (fun _ => call_len_seq) cb_len (fun _ => Z.free 18) (pma_cons (pm_var (i := 0)) pma_nil)) (pma_cons (pm_lookB (fun _ => call_len_seq) cb_len (fun _ => Z.free 18) (pma_cons (pm_var (i := 1)) pma_nil)) pma_nil))) (fun _ => sc_differing_cells.nd))
  (pms_one (pms_ret (pm_comp (own := [("cell", 3)]) (fun _ => rfl) (fun _ => sc_differing_cells.nd) (pmi_rng1 (fun _ => Z.free 22) (pma_cons (pm_var (i := 2)) pma_nil)) (fun _ => blkB_ok rfl (by kernel_rfl)) (pmg_nm (i := 3) (fun _ => sc_differing_cells.nd)) (pmts_one (pmt_ne (fun _ => rfl) (fun _ => hr.units) (pm_call d_figure_in [false, false] (fun _ => ⟨rfl, rfl, rfl, rfl, rfl⟩) (fun _ => hr.mono (by decide)) (fun _ => takes_no) (pma_cons (pm_var (i := 0)) (pma_cons (pm_var (i := 3)) pma_nil))) (pm_call d_figure_in [false, false] (fun _ => ⟨rfl, rfl, rfl, rfl, rfl⟩) (fun _ => hr.mono (by decide)) (fun _ => takes_no) (pma_cons (pm_var (i := 1)) (pma_cons (pm_var (i := 3)) pma_nil))))) (pm_var (i := 3))))))
theorem d_differing_cells (Z : Fc fa fn ex w h K mg) : DefOk P w K mg base (He.ga K) 2 "differing_cells" 2 [] phi_differing_cells := by
  obtain ⟨fd, F, h1⟩ := fn_differing_cells (P := P) (base := base) Z
  exact defOk_all (ps := ["amount", "altered"]) F h1 (Z.glo 2) fun _ _ _ _ _ _ us hl => match us, hl with | [_, _], _ => rfl
theorem sc_altered_cells : FnScope ["amount", "altered"] ["amount", "altered"] (defScope (top 7)) := ⟨rfl, rfl, rfl, by decide +kernel, rfl, by decide +kernel, by decide +kernel⟩
theorem fn_altered_cells (Z : Fc fa fn ex w h K mg) : ∃ fd, FunD K "altered_cells" "altered_cells" (defArgs (top 7)) (defBody (top 7)) (defScope (top 7)) [] [] (He.fAd K ("altered_cells", none)) fd ∧ FnOk P w K mg base (L2.CX P w) 4 (He.fAd K ("altered_cells", none)) fd ["amount", "altered"] (spC (He.ga K) 2 phi_altered_cells) := by
  have d_require_amount := d_require_amount (P := P) (base := base) Z
  have d_differing_cells := d_differing_cells (P := P) (base := base) Z
  obtain ⟨fd, F⟩ := Z.c.t.d.def_ 4 rfl
  refine ⟨fd, F, fnC_of (N := ["amount", "altered"]) (ps := ["amount", "altered"]) (m := m_altered_cells) F sc_altered_cells fun cdv A outer s H E hr => ?_⟩
  exact (pms_cons (pms_expr (pm_call d_require_amount [false] (fun _ => ⟨rfl, rfl, rfl, rfl, rfl⟩) (fun _ => hr.mono (by decide)) (fun _ => tk_cx) (pma_cons (pm_var (i := 0)) pma_nil)))
  (pms_cons (pms_expr (pm_call d_require_amount [false] (fun _ => ⟨rfl, rfl, rfl, rfl, rfl⟩) (fun _ => hr.mono (by decide)) (fun _ => tk_cx) (pma_cons (pm_var (i := 1)) pma_nil)))
  (pms_one (pms_ret (pm_call d_differing_cells [false, false] (fun _ => ⟨rfl, rfl, rfl, rfl, rfl⟩) (fun _ => hr.mono (by decide)) (fun _ => tk_cx) (pma_cons (pm_var (i := 0)) (pma_cons (pm_var (i := 1)) pma_nil)))))))
theorem d_altered_cells (Z : Fc fa fn ex w h K mg) : DefOk P w K mg base (He.ga K) 4 "altered_cells" 2 [] phi_altered_cells := by
  obtain ⟨fd, F, h1⟩ := fn_altered_cells (P := P) (base := base) Z
  exact defOk_all (ps := ["amount", "altered"]) F h1 (Z.glo 3) fun _ _ _ _ _ _ us hl => match us, hl with | [_, _], _ => rfl
theorem p_altered_cells_kaltered_amount {α β : Type} {R : α → β → Prop} {as zs : List α} {bs ys : List β} (h1 : PySem.Paired R as bs) (h2 : PySem.Paired R zs ys) (_ : as.length = 0) (_ : zs.length = (["altered", "amount"] : List Str).length) : PySem.Paired R (g_altered_cells_kaltered_amount as zs) (g_altered_cells_kaltered_amount bs ys) := by
  cases h1 with
  | cons _ _ => cases h2 <;> exact .nil
  | nil =>
    cases h2 with
    | nil => exact .nil
    | cons b0 h2 =>
      cases h2 with
      | nil => exact .nil
      | cons b1 h2 =>
        cases h2 with
        | cons _ _ => exact .nil
        | nil => exact (.cons b1 (.cons b0 .nil))
theorem r_altered_cells_kaltered_amount {vs zs : List V} {us ws : List Value} (h1 : Vals vs us) (h2 : Vals zs ws) : Vals (g_altered_cells_kaltered_amount vs zs) (g_altered_cells_kaltered_amount us ws) := by
  cases h1 with
  | cons _ _ => cases h2 <;> exact .nil
  | nil =>
    cases h2 with
    | nil => exact .nil
    | cons b0 h2 =>
      cases h2 with
      | nil => exact .nil
      | cons b1 h2 =>
        cases h2 with
        | cons _ _ => exact .nil
        | nil => exact (.cons b1 (.cons b0 .nil))
theorem k_altered_cells_kaltered_amount (Z : Fc fa fn ex w h K mg) : DefKw P w K mg base (He.ga K) 4 "altered_cells" 2 0 ["altered", "amount"] g_altered_cells_kaltered_amount phi_altered_cells := by
  obtain ⟨fd, F, h1⟩ := fn_altered_cells (P := P) (base := base) Z
  exact defKw_all (ps := ["amount", "altered"]) (n1 := 0) (ks := ["altered", "amount"]) (g := g_altered_cells_kaltered_amount) F h1 (Z.glo 3) r_altered_cells_kaltered_amount fun _ _ _ _ _ _ us ws l1 l2 => match us, ws, l1, l2 with | [], [_, _], _, _ => rfl
theorem sc__law_right : FnScope ["one", "other", "passed", "due", "turn", "found", "cell"] ["one", "other"] (defScope (top 15)) := ⟨rfl, rfl, rfl, by decide +kernel, rfl, by decide +kernel, by decide +kernel⟩
theorem fn__law_right (Z : Fc fa fn ex w h K mg) : ∃ fd, FunD K "_law_right" "_law_right" (defArgs (top 15)) (defBody (top 15)) (defScope (top 15)) [] [] (He.fAd K ("_law_right", none)) fd ∧ FnOk P w K mg base (L2.CX P w) 5 (He.fAd K ("_law_right", none)) fd ["one", "other"] (spC (He.ga K) 2 phi__law_right) := by
  have d__law_due := d__law_due (P := P) (base := base) Z
  have d_altered_cells := d_altered_cells (P := P) (base := base) Z
  obtain ⟨fd, F⟩ := Z.c.t.d.def_ 11 rfl
  refine ⟨fd, F, fnC_of (N := ["one", "other", "passed", "due", "turn", "found", "cell"]) (ps := ["one", "other"]) (m := m__law_right) F sc__law_right fun cdv A outer s H E hr => ?_⟩
  exact (pms_cons (pms_set (i := 2) (pm_fz (pm_lst (pma_cons (pm_listof (fun _ => rfl) (fun _ => Z.free 19) (pma_cons (pm_var (i := 0)) pma_nil)) (pma_cons (pm_listof (fun _ => rfl) (fun _ => Z.free 19) (pma_cons (pm_var (i := 1)) pma_nil)) pma_nil)))) (fun _ => sc__law_right.nd))
  (pms_cons (pms_set (i := 3) (pm_fz (pm_call d__law_due [false, false] (fun _ => ⟨rfl, rfl, rfl, rfl, rfl⟩) (fun _ => hr.mono (by decide)) (fun _ => tk_cx) (pma_cons (pm_var (i := 0)) (pma_cons (pm_var (i := 1)) pma_nil)))) (fun _ => sc__law_right.nd))
  (pms_cons (pms_for (fun _ => po_cx) (fun _ => rfl) (pmi_rng1 (fun _ => Z.free 22) (pma_cons pm_int pma_nil)) (pmg_nm (i := 4) (fun _ => sc__law_right.nd))
  (pms_cons (pms_set (i := 5) (pm_call d_altered_cells [false, false] (fun _ => ⟨rfl, rfl, rfl, rfl, rfl⟩) (fun _ => hr.mono (by decide)) (fun _ => tk_cx) (pma_cons (pm_ix (pm_var (i := 2)) pm_int (fun _ => rfl)) (pma_cons (pm_ix (pm_var (i := 2)) pm_int (fun _ => rfl)) pma_nil))) (fun _ => sc__law_right.nd))
  (pms_cons (pms_if (pmt_w (pmw_or (pmt_not (pmt_val (pm_lookB (fun _ => call_isi) cb_isi (fun _ => Z.free 17) (pma_cons (pm_var (i := 5)) (pma_cons (pm_ty (hm := (fun _ => Z.free 19))) pma_nil))))) (pmw_or (pmt_ne (fun _ => rfl) (fun _ => hr.units) (pm_var (i := 5)) (pm_var (i := 3))) (pmw_or1 (pmt_ne (fun _ => rfl) (fun _ => hr.units) (pm_var (i := 2)) (pm_lst (pma_cons (pm_var (i := 0)) (pma_cons (pm_var (i := 1)) pma_nil))))))))
  (pms_one (pms_ret pm_bl))
  pms_nil)
  (pms_cons (pms_if (pmt_ne (fun _ => rfl) (fun _ => hr.units) (pm_lend (k := 5) (pm_comp (own := [("cell", 6)]) (fun _ => rfl) (fun _ => sc__law_right.nd) (pmi_list (fun _ => rfl) (pm_var (i := 5))) (fun _ => blkB_ok rfl (by kernel_rfl)) (pmg_nm (i := 6) (fun _ => sc__law_right.nd)) (pmts_one (pmt_w (pmw_or (pmt_not (pmt_val (pm_lookB (fun _ => call_isi) cb_isi (fun _ => Z.free 17) (pma_cons (pm_var (i := 6)) (pma_cons (pm_ty (hm := (fun _ => Z.free 16))) pma_nil))))) (pmw_or1 (pmt_val (pm_lookB (fun _ => call_isi) cb_isi (fun _ => Z.free 17) (pma_cons (pm_var (i := 6)) (pma_cons (pm_ty (hm := (fun _ => Z.free 15))) pma_nil)))))))) (pm_var (i := 6)))) (pm_lst pma_nil))
  (pms_one (pms_ret pm_bl))
  pms_nil)
  (pms_one (pms_expr (pm_meth (k := 5) PySem.F.plainAttrs_list PySem.F.slot_list_append PySem.F.type_list_append (fun _ => mt_append) ok_app (fun _ => rfl) (pma_cons pm_int pma_nil) )))))))
  (pms_one (pms_ret pm_bl)))))
theorem d__law_right (Z : Fc fa fn ex w h K mg) : DefOk P w K mg base (He.ga K) 5 "_law_right" 2 [] phi__law_right := by
  obtain ⟨fd, F, h1⟩ := fn__law_right (P := P) (base := base) Z
  exact defOk_all (ps := ["one", "other"]) F h1 (Z.glo 10) fun _ _ _ _ _ _ us hl => match us, hl with | [_, _], _ => rfl
theorem sc_law : FnScope ["script", "k", "bag", "one", "other"] ["script"] (defScope (top 16)) := ⟨rfl, rfl, rfl, by decide +kernel, rfl, by decide +kernel, by decide +kernel⟩
theorem fn_law (Z : Fc fa fn ex w h K mg) : ∃ fd, FunD K "law" "law" (defArgs (top 16)) (defBody (top 16)) (defScope (top 16)) [] [] (He.fAd K ("law", none)) fd ∧ FnOk P w K mg base (L2.CX P w) 6 (He.fAd K ("law", none)) fd ["script"] (spC (He.ga K) 1 phi_law) := by
  have d__law_pool := d__law_pool (P := P) (base := base) Z
  have d__law_amount := d__law_amount (P := P) (base := base) Z
  have d__law_size := d__law_size (P := P) (base := base) Z
  have d__law_other := d__law_other (P := P) (base := base) Z
  have d__law_right := d__law_right (P := P) (base := base) Z
  have d_altered_cells := d_altered_cells (P := P) (base := base) Z
  have d__law_due := d__law_due (P := P) (base := base) Z
  have k_altered_cells_kaltered_amount := k_altered_cells_kaltered_amount (P := P) (base := base) Z
  obtain ⟨fd, F⟩ := Z.c.t.d.def_ 12 rfl
  refine ⟨fd, F, fnC_of (N := ["script", "k", "bag", "one", "other"]) (ps := ["script"]) (m := m_law) F sc_law fun cdv A outer s H E hr => ?_⟩
  exact (pms_cons (pms_for (fun _ => po_cx) (fun _ => rfl) (pmi_rng1 (fun _ => Z.free 22) (pma_cons (pm_lookB (fun _ => call_max2 rfl) cb_max2 (fun _ => Z.free 20) (pma_cons pm_int (pma_cons (pm_lookB (fun _ => call_min2 rfl) cb_min2 (fun _ => Z.free 21) (pma_cons (pm_lookB (fun _ => call_len_seq) cb_len (fun _ => Z.free 18) (pma_cons (pm_var (i := 0)) pma_nil)) (pma_cons pm_int pma_nil))) pma_nil))) pma_nil)) (pmg_nm (i := 1) (fun _ => sc_law.nd))
  (pms_cons (pms_set (i := 2) (pm_call d__law_pool [false, false] (fun _ => ⟨rfl, rfl, rfl, rfl, rfl⟩) (fun _ => hr.mono (by decide)) (fun _ => tk_cx) (pma_cons (pm_var (i := 0)) (pma_cons (pm_var (i := 1)) pma_nil))) (fun _ => sc_law.nd))
  (pms_cons (pms_set (i := 3) (pm_fz (pm_call d__law_amount [true, false] (fun _ => ⟨rfl, rfl, rfl, rfl, rfl⟩) (fun _ => hr.mono (by decide)) (fun _ => tk_cx) (pma_cons (pm_var (i := 2)) (pma_cons (pm_call d__law_size [true, false] (fun _ => ⟨rfl, rfl, rfl, rfl, rfl⟩) (fun _ => hr.mono (by decide)) (fun _ => tk_cx) (pma_cons (pm_var (i := 2)) (pma_cons pm_int pma_nil))) pma_nil)))) (fun _ => sc_law.nd))
  (pms_cons (pms_set (i := 4) (pm_fz (pm_call d__law_other [true, false] (fun _ => ⟨rfl, rfl, rfl, rfl, rfl⟩) (fun _ => hr.mono (by decide)) (fun _ => tk_cx) (pma_cons (pm_var (i := 2)) (pma_cons (pm_var (i := 3)) pma_nil)))) (fun _ => sc_law.nd))
  (pms_cons (pms_if (pmt_w (pmw_or (pmt_not (pmt_val (pm_call d__law_right [false, false] (fun _ => ⟨rfl, rfl, rfl, rfl, rfl⟩) (fun _ => hr.mono (by decide)) (fun _ => tk_cx) (pma_cons (pm_var (i := 3)) (pma_cons (pm_var (i := 4)) pma_nil))))) (pmw_or (pmt_not (pmt_val (pm_call d__law_right [false, false] (fun _ => ⟨rfl, rfl, rfl, rfl, rfl⟩) (fun _ => hr.mono (by decide)) (fun _ => tk_cx) (pma_cons (pm_var (i := 4)) (pma_cons (pm_var (i := 3)) pma_nil))))) (pmw_or1 (pmt_not (pmt_val (pm_call d__law_right [false, false] (fun _ => ⟨rfl, rfl, rfl, rfl, rfl⟩) (fun _ => hr.mono (by decide)) (fun _ => tk_cx) (pma_cons (pm_var (i := 3)) (pma_cons (pm_var (i := 3)) pma_nil)))))))))
  (pms_one (pms_ret pm_bl))
  pms_nil)
  (pms_one (pms_if (pmt_ne (fun _ => rfl) (fun _ => hr.units) (pm_callK0 k_altered_cells_kaltered_amount [false, false] p_altered_cells_kaltered_amount (fun _ => ⟨rfl, rfl, rfl, rfl, rfl⟩) (fun _ => hr.mono (by decide)) (fun _ => tk_cx) (pmk_cons (pm_fz (pm_listof (fun _ => rfl) (fun _ => Z.free 19) (pma_cons (pm_var (i := 4)) pma_nil))) (pmk_cons (pm_fz (pm_listof (fun _ => rfl) (fun _ => Z.free 19) (pma_cons (pm_var (i := 3)) pma_nil))) pmk_nil))) (pm_call d__law_due [false, false] (fun _ => ⟨rfl, rfl, rfl, rfl, rfl⟩) (fun _ => hr.mono (by decide)) (fun _ => tk_cx) (pma_cons (pm_var (i := 3)) (pma_cons (pm_var (i := 4)) pma_nil))))
  (pms_one (pms_ret pm_bl))
  pms_nil)))))))
  (pms_one (pms_ret pm_bl)))
end
end H

namespace H
open PySem PySem.Spec PyProof.Rows L2 W3
theorem run (w : World) : HandSHeadRun.RunEq R (PySem.W.view R.prog [16]) hk ob 4000 loose w := by
  intro os
  kernel_rfl
theorem holds_of (most : PySem.Challenge.rw_addedink_k20_altered_cells.most = some 63) (hp : ∀ ns : List Int, ns.length ≤ 63 → (∀ z ∈ ns, Builtin.Int.intBits z ≤ 1048576) → ∃ outs, phi_law [scr ns] = some (.ok (.v (.bl true)), outs)) : PySem.Challenge.rw_addedink_k20_altered_cells.Holds := by
  w_on; o_law
  refine HandSHeadRun.head_any (r := PySem.W.OpenLaw.row PySem.Challenge.rw_addedink_k20_altered_cells) (q := PySem.W.view (PySem.W.OpenLaw.row PySem.Challenge.rw_addedink_k20_altered_cells).prog [16]) (H := hk) (ob := ob) (M := 4000) (loose := loose) (d := HandSHeadRun.topDef (PySem.W.OpenLaw.row PySem.Challenge.rw_addedink_k20_altered_cells).prog 16) (kwd := []) ob_eq
    (by kernel_rfl) (fun s => by kernel_rfl) run (by kernel_rfl) (by kernel_rfl) (by kernel_rfl) (by rfl) (by first | assumption | decide +kernel) (by decide +kernel) ⟨rfl, rfl, rfl, rfl, rfl, by decide +kernel⟩ ?hw ?hc
  case hw => w_witness2
  case hc =>
    refine LamX.walk_ofTsE (l := PySem.Challenge.rw_addedink_k20_altered_cells) (n := 63) (k := 6) (x := "script") (CX := fun w => L2.CX (PySem.Challenge.rw_addedink_k20_altered_cells).prog w) most (by decide) (by kernel_rfl) ⟨rfl, by decide, by decide⟩ ?F (fun _ _ _ _ _ ⟨_, _, _, _, _, _, _, _, _, _, _, _, z⟩ => z)
    intro w mg fa0 h Y G hmg0
    obtain ⟨K, KX, c⟩ := Y
    have hmg : mg ("law" : PySem.Str) = some (.ref fa0) := by
      have e : (HandSHeadRun.topDef (PySem.W.OpenLaw.row PySem.Challenge.rw_addedink_k20_altered_cells).prog 16).name = ("law" : PySem.Str) := by kernel_rfl
      rw [← e]
      exact hmg0
    have Z : Fc fa fn ex w h K mg := ⟨c, KX, G⟩
    have efa := hmg.symm.trans (Z.glo 11)
    cases efa
    obtain ⟨fd, F⟩ := c.t.d.def_ 12 rfl
    have b := FunD.bindsA (ps := ["script"]) F fun _ _ _ _ _ _ us hl => match us, hl with | [_], _ => rfl
    refine ⟨K, KX, fd, [], spC (He.ga K) 1 phi_law, fun _ m => (nomatch m), fun _ m => (nomatch m), fun _ m => (nomatch m), fun s v => b s [v] rfl, fun H a ns hl hb _ hS => ?_, fun base KB GB _ => ?_⟩
    · obtain ⟨outs, e⟩ := hp ns hl hb
      exact law_sp (Bool.and_eq_true_iff.mp c.more).1 hS e
    · have Z2 : Fc fa fn ex w h K mg := ⟨c, KX, G⟩
      obtain ⟨fd2, F2, h2⟩ := fn_law (P := (PySem.Challenge.rw_addedink_k20_altered_cells).prog) (base := base) Z2
      have : fd2 = fd := by
        obtain ⟨_, _, _, _, _, _, _, _, _, _, _, l1, _⟩ := F.ex
        obtain ⟨_, _, _, _, _, _, _, _, _, _, _, l2, _⟩ := F2.ex
        rw [l1] at l2
        cases l2
        rfl
      rw [← this]
      exact h2
end H

theorem PySem.Challenge.cw_addedink_k20_altered_cells_holds : PySem.Challenge.rw_addedink_k20_altered_cells.Holds := by
  exact H.holds_of rfl H.plain

