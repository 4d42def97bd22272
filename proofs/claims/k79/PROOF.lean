import PyProof.Rows.All
import Wide.All
import OpenK.AllK
import Wide.FinOn
import HandS.ForMost
import HandS.ForExc
import HandS.HeadHook1
import HandS.Wide
import HandS.TupAny
import HandS.Deep
import HandS.Style
import HandS.IsInst
import HandS.SortInts
import KE.DataMinMax
import PyProof.SumAny
import HandS.TupLen
import KE.KSortedM
import HandS.Comp
import HandS.Walk
import HandS.Defaults
import HandS.ExcOwn
import HandS.ExcCtx
import HandS.WordsExc
import KE.KExcSuper
import KE.KSuper
import HandS.Nested
import HandS.ExcInit
import HandS.HotCalls
import HandS.ExcInitHot
import HandS.Words
import HandS.ClsMeth
import HandS.ExcIs
import HandS.ExcField
import HandS.TryMany
import HandS.More
import OpenK.KOps
import HandS.Property
import HandS.Iter
import KE.GoesEnum
import HandS.HeadHook2
import HandS.HeadNt
import HandS.Head2
import HandS.HeadEnd
import HandS.HeadWalk
import PySem.Challenge.RW_restnights_k79_price_lists_hold
set_option Elab.async false
set_option linter.all false
set_option maxRecDepth 100000
set_option maxHeartbeats 4000000
/-! A functional layer: values without addresses, and what of them stands in the abstract heap. -/
namespace FL
open PySem PySem.Spec PyProof.Rows L2
/-- data without addresses; nothing of it is ever changed -/
inductive D where
  | non | bl (b : Bool) | int (i : Int) | str (s : Str)
  | lst (xs : List D) | tup (xs : List D) | rl (xs : List Int)
  | obj (c : Str) (fs : List (Str × D)) | dK (fs : List (Key × D)) | dT (fs : List (List Key × D)) | ty (n : String) | cl (c : Str)
/-- what a name holds: data, or an object of its own that may be changed: a list of data, a list of such, an instance -/
inductive M where
  | d (x : D) | ol (xs : List D) | odK (fs : List (Key × D)) | odT (fs : List (List Key × D)) | on (xs : List M) | oo (c : Str) (fs : List (Str × M))
mutual
def M.toD : M → D
  | .d x => x
  | .ol xs => .lst xs
  | .odK fs => .dK fs
  | .odT fs => .dT fs
  | .on xs => .lst (M.toDs xs)
  | .oo c fs => .obj c (M.toDf fs)
def M.toDs : List M → List D
  | [] => []
  | m :: ms => m.toD :: M.toDs ms
def M.toDf : List (Str × M) → List (Str × D)
  | [] => []
  | (k, m) :: fs => (k, m.toD) :: M.toDf fs
end
section
variable (K : PySem.W.Frag)
mutual
def Rep (F : Hp) : D → V → Prop
  | .non, v => v = .non
  | .bl b, v => v = .bl b
  | .int i, v => v = .int i
  | .str s, v => v = .str s
  | .ty n, v => v = .ty n
  | .cl c, v => v = .ref (He.ga K c)
  | .lst xs, v => ∃ a vs, v = .ref a ∧ F a = some (.lst vs) ∧ Reps F xs vs
  | .rl xs, v => ∃ a, v = .ref a ∧ SqL K F a (xs.map V.int)
  | .tup xs, v => ∃ a vs, v = .ref a ∧ SqT K F a vs ∧ Reps F xs vs
  | .obj c fs, v => ∃ a dx vs, v = .ref a ∧ F a = some (.ins (He.ga K c) dx vs) ∧ RepF F fs vs
  | .dK fs, v => ∃ a vs, v = .ref a ∧ F a = some (.dK vs) ∧ RepK F fs vs
  | .dT fs, v => ∃ a vs, v = .ref a ∧ F a = some (.dT vs) ∧ RepT F fs vs
def Reps (F : Hp) : List D → List V → Prop
  | [], vs => vs = []
  | x :: xs, vs => ∃ v ws, vs = v :: ws ∧ Rep F x v ∧ Reps F xs ws
def RepF (F : Hp) : List (Str × D) → List (Str × V) → Prop
  | [], vs => vs = []
  | (k, x) :: fs, vs => ∃ v ws, vs = (k, v) :: ws ∧ Rep F x v ∧ RepF F fs ws
def RepK (F : Hp) : List (Key × D) → List (Key × V) → Prop
  | [], vs => vs = []
  | (k, x) :: fs, vs => ∃ v ws, vs = (k, v) :: ws ∧ Rep F x v ∧ RepK F fs ws
def RepT (F : Hp) : List (List Key × D) → List (List Key × V) → Prop
  | [], vs => vs = []
  | (k, x) :: fs, vs => ∃ v ws, vs = (k, v) :: ws ∧ Rep F x v ∧ RepT F fs ws
end
mutual
def RM (F H : Hp) : M → V → List Addr → Prop
  | .d x, v, fp => fp = [] ∧ Rep K F x v
  | .ol xs, v, fp => ∃ a vs, v = .ref a ∧ fp = [a] ∧ H a = some (.lst vs) ∧ Reps K F xs vs
  | .odK fs, v, fp => ∃ a vs, v = .ref a ∧ fp = [a] ∧ H a = some (.dK vs) ∧ RepK K F fs vs
  | .odT fs, v, fp => ∃ a vs, v = .ref a ∧ fp = [a] ∧ H a = some (.dT vs) ∧ RepT K F fs vs
  | .on ms, v, fp => ∃ a vs fp', v = .ref a ∧ fp = a :: fp' ∧ H a = some (.lst vs) ∧ RMs F H ms vs fp'
  | .oo c fs, v, fp => ∃ a dx vs fp', v = .ref a ∧ fp = a :: fp' ∧ H a = some (.ins (He.ga K c) dx vs) ∧ RMf F H fs vs fp'
def RMs (F H : Hp) : List M → List V → List Addr → Prop
  | [], vs, fp => vs = [] ∧ fp = []
  | m :: ms, vs, fp => ∃ v ws f1 f2, vs = v :: ws ∧ fp = f1 ++ f2 ∧ RM F H m v f1 ∧ RMs F H ms ws f2
def RMf (F H : Hp) : List (Str × M) → List (Str × V) → List Addr → Prop
  | [], vs, fp => vs = [] ∧ fp = []
  | (k, m) :: ms, vs, fp => ∃ v ws f1 f2, vs = (k, v) :: ws ∧ fp = f1 ++ f2 ∧ RM F H m v f1 ∧ RMf F H ms ws f2
end
end
/-- a part of the heap within another -/
abbrev Le (F G : Hp) : Prop := ∀ a o, F a = some o → G a = some o
theorem Le.refl (F : Hp) : Le F F := fun _ _ h => h
theorem Le.trans {F G H : Hp} (a : Le F G) (b : Le G H) : Le F H := fun c o h => b c o (a c o h)
theorem Le.none {F G : Hp} (l : Le F G) {a : Addr} (h : G a = none) : F a = none := by
  cases q : F a with
  | none => rfl
  | some o => rw [l a o q] at h; cases h
theorem SqL.le {K : PySem.W.Frag} {F G : Hp} {a : Addr} {xs : List V} (l : Le F G) (h : SqL K F a xs) : SqL K G a xs := by
  rcases h with (h | ⟨o, h⟩) | h
  · exact .inl (.inl (l _ _ h))
  · exact .inl (.inr ⟨o, l _ _ h⟩)
  · exact .inr h
theorem SqT.le {K : PySem.W.Frag} {F G : Hp} {a : Addr} {xs : List V} (l : Le F G) (h : SqT K F a xs) : SqT K G a xs := by
  rcases h with (h | ⟨o, h⟩) | h
  · exact .inl (.inl (l _ _ h))
  · exact .inl (.inr ⟨o, l _ _ h⟩)
  · exact .inr h
section
variable {K : PySem.W.Frag} {F G H H' : Hp}
mutual
theorem Rep.le (l : Le F G) : ∀ (d : D) (v : V), Rep K F d v → Rep K G d v
  | .non, _, h => h
  | .bl _, _, h => h
  | .int _, _, h => h
  | .str _, _, h => h
  | .ty _, _, h => h
  | .cl _, _, h => h
  | .lst xs, _, ⟨a, vs, e, h, r⟩ => ⟨a, vs, e, l _ _ h, Reps.le l xs vs r⟩
  | .rl xs, _, ⟨a, e, h⟩ => ⟨a, e, SqL.le l h⟩
  | .tup xs, _, ⟨a, vs, e, h, r⟩ => ⟨a, vs, e, SqT.le l h, Reps.le l xs vs r⟩
  | .obj c fs, _, ⟨a, dx, vs, e, h, r⟩ => ⟨a, dx, vs, e, l _ _ h, RepF.le l fs vs r⟩
  | .dK fs, _, ⟨a, vs, e, h, r⟩ => ⟨a, vs, e, l _ _ h, RepK.le l fs vs r⟩
  | .dT fs, _, ⟨a, vs, e, h, r⟩ => ⟨a, vs, e, l _ _ h, RepT.le l fs vs r⟩
theorem Reps.le (l : Le F G) : ∀ (d : List D) (v : List V), Reps K F d v → Reps K G d v
  | [], _, h => h
  | x :: xs, _, ⟨v, ws, e, h, r⟩ => ⟨v, ws, e, Rep.le l x v h, Reps.le l xs ws r⟩
theorem RepF.le (l : Le F G) : ∀ (d : List (Str × D)) (v : List (Str × V)), RepF K F d v → RepF K G d v
  | [], _, h => h
  | (k, x) :: xs, _, ⟨v, ws, e, h, r⟩ => ⟨v, ws, e, Rep.le l x v h, RepF.le l xs ws r⟩
theorem RepK.le (l : Le F G) : ∀ (d : List (Key × D)) (v : List (Key × V)), RepK K F d v → RepK K G d v
  | [], _, h => h
  | (k, x) :: xs, _, ⟨v, ws, e, h, r⟩ => ⟨v, ws, e, Rep.le l x v h, RepK.le l xs ws r⟩
theorem RepT.le (l : Le F G) : ∀ (d : List (List Key × D)) (v : List (List Key × V)), RepT K F d v → RepT K G d v
  | [], _, h => h
  | (k, x) :: xs, _, ⟨v, ws, e, h, r⟩ => ⟨v, ws, e, Rep.le l x v h, RepT.le l xs ws r⟩
end
mutual
/-- what is owned stays as it is where its own objects stay -/
theorem RM.mv (l : Le F G) : ∀ (m : M) (v : V) (fp : List Addr), (∀ a ∈ fp, ∀ o, H a = some o → H' a = some o) → RM K F H m v fp → RM K G H' m v fp
  | .d x, v, _, _, ⟨e, r⟩ => ⟨e, Rep.le l x v r⟩
  | .ol xs, _, _, k, ⟨a, vs, e, ef, h, r⟩ => ⟨a, vs, e, ef, k a (by rw [ef]; exact List.mem_cons_self) _ h, Reps.le l xs vs r⟩
  | .odK fs, _, _, k, ⟨a, vs, e, ef, h, r⟩ => ⟨a, vs, e, ef, k a (by rw [ef]; exact List.mem_cons_self) _ h, RepK.le l fs vs r⟩
  | .odT fs, _, _, k, ⟨a, vs, e, ef, h, r⟩ => ⟨a, vs, e, ef, k a (by rw [ef]; exact List.mem_cons_self) _ h, RepT.le l fs vs r⟩
  | .on ms, _, _, k, ⟨a, vs, fp', e, ef, h, r⟩ => ⟨a, vs, fp', e, ef, k a (by rw [ef]; exact List.mem_cons_self) _ h, RMs.mv l ms vs fp' (fun b hb => k b (by rw [ef]; exact List.mem_cons_of_mem _ hb)) r⟩
  | .oo c fs, _, _, k, ⟨a, dx, vs, fp', e, ef, h, r⟩ => ⟨a, dx, vs, fp', e, ef, k a (by rw [ef]; exact List.mem_cons_self) _ h, RMf.mv l fs vs fp' (fun b hb => k b (by rw [ef]; exact List.mem_cons_of_mem _ hb)) r⟩
theorem RMs.mv (l : Le F G) : ∀ (m : List M) (v : List V) (fp : List Addr), (∀ a ∈ fp, ∀ o, H a = some o → H' a = some o) → RMs K F H m v fp → RMs K G H' m v fp
  | [], _, _, _, h => h
  | m :: ms, _, _, k, ⟨v, ws, f1, f2, e, ef, h, r⟩ => ⟨v, ws, f1, f2, e, ef, RM.mv l m v f1 (fun a ha => k a (by rw [ef]; exact List.mem_append_left _ ha)) h, RMs.mv l ms ws f2 (fun a ha => k a (by rw [ef]; exact List.mem_append_right _ ha)) r⟩
theorem RMf.mv (l : Le F G) : ∀ (m : List (Str × M)) (v : List (Str × V)) (fp : List Addr), (∀ a ∈ fp, ∀ o, H a = some o → H' a = some o) → RMf K F H m v fp → RMf K G H' m v fp
  | [], _, _, _, h => h
  | (_, m) :: ms, _, _, k, ⟨v, ws, f1, f2, e, ef, h, r⟩ => ⟨v, ws, f1, f2, e, ef, RM.mv l m v f1 (fun a ha => k a (by rw [ef]; exact List.mem_append_left _ ha)) h, RMf.mv l ms ws f2 (fun a ha => k a (by rw [ef]; exact List.mem_append_right _ ha)) r⟩
end
mutual
/-- frozen: what is owned is data of a heap part that holds its objects -/
theorem RM.frz (l : Le F G) : ∀ (m : M) (v : V) (fp : List Addr), (∀ a ∈ fp, ∀ o, H a = some o → G a = some o) → RM K F H m v fp → Rep K G m.toD v
  | .d x, v, _, _, ⟨_, r⟩ => Rep.le l x v r
  | .ol xs, _, _, k, ⟨a, vs, e, ef, h, r⟩ => ⟨a, vs, e, k a (by rw [ef]; exact List.mem_cons_self) _ h, Reps.le l xs vs r⟩
  | .odK fs, _, _, k, ⟨a, vs, e, ef, h, r⟩ => ⟨a, vs, e, k a (by rw [ef]; exact List.mem_cons_self) _ h, RepK.le l fs vs r⟩
  | .odT fs, _, _, k, ⟨a, vs, e, ef, h, r⟩ => ⟨a, vs, e, k a (by rw [ef]; exact List.mem_cons_self) _ h, RepT.le l fs vs r⟩
  | .on ms, _, _, k, ⟨a, vs, fp', e, ef, h, r⟩ => ⟨a, vs, e, k a (by rw [ef]; exact List.mem_cons_self) _ h, RMs.frz l ms vs fp' (fun b hb => k b (by rw [ef]; exact List.mem_cons_of_mem _ hb)) r⟩
  | .oo c fs, _, _, k, ⟨a, dx, vs, fp', e, ef, h, r⟩ => ⟨a, dx, vs, e, k a (by rw [ef]; exact List.mem_cons_self) _ h, RMf.frz l fs vs fp' (fun b hb => k b (by rw [ef]; exact List.mem_cons_of_mem _ hb)) r⟩
theorem RMs.frz (l : Le F G) : ∀ (m : List M) (v : List V) (fp : List Addr), (∀ a ∈ fp, ∀ o, H a = some o → G a = some o) → RMs K F H m v fp → Reps K G (M.toDs m) v
  | [], _, _, _, h => h.1
  | m :: ms, _, _, k, ⟨v, ws, f1, f2, e, ef, h, r⟩ => ⟨v, ws, e, RM.frz l m v f1 (fun a ha => k a (by rw [ef]; exact List.mem_append_left _ ha)) h, RMs.frz l ms ws f2 (fun a ha => k a (by rw [ef]; exact List.mem_append_right _ ha)) r⟩
theorem RMf.frz (l : Le F G) : ∀ (m : List (Str × M)) (v : List (Str × V)) (fp : List Addr), (∀ a ∈ fp, ∀ o, H a = some o → G a = some o) → RMf K F H m v fp → RepF K G (M.toDf m) v
  | [], _, _, _, h => h.1
  | (_, m) :: ms, _, _, k, ⟨v, ws, f1, f2, e, ef, h, r⟩ => ⟨v, ws, e, RM.frz l m v f1 (fun a ha => k a (by rw [ef]; exact List.mem_append_left _ ha)) h, RMf.frz l ms ws f2 (fun a ha => k a (by rw [ef]; exact List.mem_append_right _ ha)) r⟩
end
mutual
/-- what is owned is tracked -/
theorem RM.on_ : ∀ (m : M) (v : V) (fp : List Addr), RM K F H m v fp → ∀ a ∈ fp, H a ≠ none
  | .d x, v, _, ⟨e, r⟩, a, ha => by rw [e] at ha; cases ha
  | .ol xs, _, _, ⟨a, vs, e, ef, h, r⟩, b, hb => by
    rw [ef] at hb
    cases hb with
    | head => rw [h]; exact nofun
    | tail _ z => cases z
  | .odK fs, _, _, ⟨a, vs, e, ef, h, r⟩, b, hb => by
    rw [ef] at hb
    cases hb with
    | head => rw [h]; exact nofun
    | tail _ z => cases z
  | .odT fs, _, _, ⟨a, vs, e, ef, h, r⟩, b, hb => by
    rw [ef] at hb
    cases hb with
    | head => rw [h]; exact nofun
    | tail _ z => cases z
  | .on ms, _, _, ⟨a, vs, fp', e, ef, h, r⟩, b, hb => by
    rw [ef] at hb
    cases hb with
    | head => rw [h]; exact nofun
    | tail _ z => exact RMs.on_ ms vs fp' r b z
  | .oo c fs, _, _, ⟨a, dx, vs, fp', e, ef, h, r⟩, b, hb => by
    rw [ef] at hb
    cases hb with
    | head => rw [h]; exact nofun
    | tail _ z => exact RMf.on_ fs vs fp' r b z
theorem RMs.on_ : ∀ (m : List M) (v : List V) (fp : List Addr), RMs K F H m v fp → ∀ a ∈ fp, H a ≠ none
  | [], _, _, h, a, ha => by rw [h.2] at ha; cases ha
  | m :: ms, _, _, ⟨v, ws, f1, f2, e, ef, h, r⟩, a, ha => by
    rw [ef] at ha
    rcases List.mem_append.mp ha with z | z
    · exact RM.on_ m v f1 h a z
    · exact RMs.on_ ms ws f2 r a z
theorem RMf.on_ : ∀ (m : List (Str × M)) (v : List (Str × V)) (fp : List Addr), RMf K F H m v fp → ∀ a ∈ fp, H a ≠ none
  | [], _, _, h, a, ha => by rw [h.2] at ha; cases ha
  | (_, m) :: ms, _, _, ⟨v, ws, f1, f2, e, ef, h, r⟩, a, ha => by
    rw [ef] at ha
    rcases List.mem_append.mp ha with z | z
    · exact RM.on_ m v f1 h a z
    · exact RMf.on_ ms ws f2 r a z
end
theorem Reps.length : ∀ {xs : List D} {vs : List V}, Reps K F xs vs → vs.length = xs.length
  | [], _, h => by rw [h] <;> rfl
  | x :: xs, _, ⟨v, ws, e, h, r⟩ => by rw [e, List.length_cons, List.length_cons, Reps.length r]
theorem Reps.get : ∀ {xs : List D} {vs : List V} {i : Nat} {x : D}, Reps K F xs vs → xs[i]? = some x → ∃ v, vs[i]? = some v ∧ Rep K F x v
  | [], _, _, _, _, e => by simp at e
  | _ :: _, _, 0, _, ⟨v, ws, e, h, r⟩, q => by
    simp at q; subst q; subst e
    exact ⟨v, rfl, h⟩
  | _ :: _, _, i + 1, x, ⟨v, ws, e, h, r⟩, q => by
    subst e
    simp at q
    obtain ⟨u, hu, ru⟩ := Reps.get (i := i) r q
    exact ⟨u, by simpa using hu, ru⟩
theorem Reps.nil : Reps K F [] [] := rfl
theorem Reps.cons {x : D} {v : V} {xs : List D} {vs : List V} (h : Rep K F x v) (r : Reps K F xs vs) : Reps K F (x :: xs) (v :: vs) := ⟨v, vs, rfl, h, r⟩
theorem Reps.append : ∀ {xs ys : List D} {vs ws : List V}, Reps K F xs vs → Reps K F ys ws → Reps K F (xs ++ ys) (vs ++ ws)
  | [], _, _, _, h, r => by rw [show _ = [] from h]; exact r
  | _ :: _, _, _, _, ⟨v, us, e, h, r⟩, q => by subst e; exact ⟨v, _, rfl, h, Reps.append r q⟩
theorem Reps.take : ∀ {xs : List D} {vs : List V} (n : Nat), Reps K F xs vs → Reps K F (xs.take n) (vs.take n)
  | _, _, 0, _ => rfl
  | [], _, n + 1, h => by rw [show _ = [] from h]; rfl
  | _ :: _, _, n + 1, ⟨v, us, e, h, r⟩ => by subst e; exact ⟨v, _, rfl, h, Reps.take n r⟩
theorem Reps.drop : ∀ {xs : List D} {vs : List V} (n : Nat), Reps K F xs vs → Reps K F (xs.drop n) (vs.drop n)
  | _, _, 0, h => h
  | [], _, n + 1, h => by rw [show _ = [] from h]; rfl
  | _ :: _, _, n + 1, ⟨v, us, e, h, r⟩ => by subst e; exact Reps.drop n r
theorem Reps.set {x : D} {v : V} (h : Rep K F x v) : ∀ {xs : List D} {vs : List V} (n : Nat), Reps K F xs vs → Reps K F (xs.set n x) (vs.set n v)
  | [], _, _, r => by rw [show _ = [] from r]; rfl
  | _ :: _, _, 0, ⟨w, us, e, _, r⟩ => by subst e; exact ⟨v, _, rfl, h, r⟩
  | _ :: _, _, n + 1, ⟨w, us, e, q, r⟩ => by subst e; exact ⟨w, _, rfl, q, Reps.set h n r⟩
theorem RepF.lookup : ∀ {fs : List (Str × D)} {vs : List (Str × V)} {f : Str} {x : D}, RepF K F fs vs → fs.lookup f = some x → ∃ v, vs.lookup f = some v ∧ Rep K F x v
  | [], _, _, _, _, e => by cases e
  | (k, y) :: fs, _, f, x, ⟨v, ws, e, h, r⟩, q => by
    subst e
    by_cases hk : f = k
    · subst hk
      have q' : some y = some x := by simpa [List.lookup] using q
      cases q'
      exact ⟨v, by simp [List.lookup], h⟩
    · have hb : (f == k) = false := by simpa using hk
      simp only [List.lookup, hb] at q ⊢
      exact RepF.lookup r q
theorem RepF.lookup_none : ∀ {fs : List (Str × D)} {vs : List (Str × V)} {f : Str}, RepF K F fs vs → fs.lookup f = none → vs.lookup f = none
  | [], _, _, h, _ => by rw [show _ = [] from h]; rfl
  | (k, y) :: fs, _, f, ⟨v, ws, e, h, r⟩, q => by
    subst e
    by_cases hk : f = k
    · subst hk
      simp [List.lookup] at q
    · have hb : (f == k) = false := by simpa using hk
      simp only [List.lookup, hb] at q ⊢
      exact RepF.lookup_none r q
end
end FL
namespace FL
open PySem PySem.Spec PyProof.Rows L2
/-! ### the state of a def's names -/
abbrev En := List (Option M)
structure EnvOk (K : PySem.W.Frag) (F H : Hp) (ε : En) (σ : L2.St) (φ : Nat → List Addr) : Prop where
  sub : Le F H
  len : ε.length = σ.length
  slot : ∀ (i : Nat) m, ε[i]? = some (some m) → ∃ v, σ[i]? = some (some v) ∧ RM K F H m v (φ i)
  emp : ∀ i : Nat, (∀ m, ε[i]? ≠ some (some m)) → φ i = []
  nd : ∀ i, (φ i).Nodup
  dj : ∀ i j a, a ∈ φ i → a ∈ φ j → i = j
  off : ∀ i a, a ∈ φ i → F a = none
abbrev Own (φ : Nat → List Addr) (a : Addr) : Prop := ∃ i, a ∈ φ i
/-- what has happened between two states: P owned ahead, P' behind -/
structure Step (F H : Hp) (P : Addr → Prop) (F' H' : Hp) (P' : Addr → Prop) : Prop where
  f : Le F F'
  h : ∀ a o, ¬ P a → H a = some o → H' a = some o
  o : ∀ a, P' a → P a ∨ H a = none
  n : ∀ a, F' a ≠ none → F a ≠ none ∨ P a ∨ H a = none
  t : ∀ a, H' a = none → H a = none
theorem Step.refl {F H : Hp} {P P' : Addr → Prop} (h : ∀ a, P' a → P a) : Step F H P F H P' := ⟨Le.refl _, fun _ _ _ h => h, fun a x => .inl (h a x), fun _ x => .inl x, fun _ x => x⟩
theorem Step.trans {F H F1 H1 F2 H2 : Hp} {P P1 P2 : Addr → Prop} (a : Step F H P F1 H1 P1) (b : Step F1 H1 P1 F2 H2 P2) : Step F H P F2 H2 P2 where
  f := a.f.trans b.f
  h := fun x o hp e => b.h x o (fun h1 => (a.o x h1).elim hp fun z => by rw [e] at z; cases z) (a.h x o hp e)
  o := fun x h2 => (b.o x h2).elim (fun h1 => a.o x h1) fun z => .inr (a.t x z)
  n := fun x h2 => (b.n x h2).elim (fun h1 => a.n x h1) fun z => z.elim (fun h1 => .inr (a.o x h1)) fun z => .inr (.inr (a.t x z))
  t := fun x z => a.t x (b.t x z)
theorem Step.imp {F H F1 H1 : Hp} {P P1 P1' : Addr → Prop} (a : Step F H P F1 H1 P1) (h : ∀ x, P1' x → P1 x) : Step F H P F1 H1 P1' := ⟨a.f, a.h, fun x q => a.o x (h x q), a.n, a.t⟩
section
variable {K : PySem.W.Frag} {F H F' H' : Hp} {ε : En} {σ : L2.St} {φ : Nat → List Addr}
theorem EnvOk.tr (e : EnvOk K F H ε σ φ) {i : Nat} {a : Addr} (h : a ∈ φ i) : H a ≠ none := by
  by_cases hm : ∃ m, ε[i]? = some (some m)
  · obtain ⟨m, hm⟩ := hm
    obtain ⟨v, _, r⟩ := e.slot i m hm
    exact RM.on_ m v _ r a h
  · rw [e.emp i (fun m q => hm ⟨m, q⟩)] at h
    cases h
/-- only new objects came -/
structure Grow (F H F' H' : Hp) (s : List Addr) : Prop where
  f : Le F F'
  h : Le H H'
  fh : Le F' H'
  n : ∀ a, F' a ≠ none → F a ≠ none ∨ H a = none
  s : ∀ a ∈ s, H a = none ∧ F' a = none
theorem Grow.refl (l : Le F H) : Grow F H F H [] := ⟨Le.refl _, Le.refl _, l, fun _ h => .inl h, fun _ h => by cases h⟩
theorem EnvOk.grow {s : List Addr} (e : EnvOk K F H ε σ φ) (g : Grow F H F' H' s) : EnvOk K F' H' ε σ φ where
  sub := g.fh
  len := e.len
  slot := fun i m hm => by
    obtain ⟨v, hv, r⟩ := e.slot i m hm
    exact ⟨v, hv, RM.mv g.f m v _ (fun a _ o q => g.h a o q) r⟩
  emp := e.emp
  nd := e.nd
  dj := e.dj
  off := fun i a ha => by
    have h1 := e.off i a ha
    cases q : F' a with
    | none => rfl
    | some o =>
      rcases g.n a (by rw [q]; exact nofun) with z | z
      · exact absurd h1 z
      · exact absurd z (e.tr ha)
theorem Grow.step {s : List Addr} (g : Grow F H F' H' s) : Step F H (Own φ) F' H' (fun a => Own φ a ∨ a ∈ s) where
  f := g.f
  h := fun a o _ q => g.h a o q
  o := fun a h => h.elim .inl fun z => .inr (g.s a z).1
  n := fun a h => (g.n a h).elim .inl fun z => .inr (.inr z)
  t := fun a h => Le.none g.h h
/-- a new object, of data -/
theorem grow_f (l : Le F H) {p : Addr} (hp : H p = none) (o : HO) : Grow F H (upd F p o) (upd H p o) [] where
  f := fun a u e => by rw [upd_ne (ne_of_none e (Le.none l hp))]; exact e
  h := fun a u e => by rw [upd_ne (ne_of_none e hp)]; exact e
  fh := fun a u e => by
    by_cases h : a = p
    · subst h; rw [upd_same] at e ⊢; exact e
    · rw [upd_ne h] at e ⊢; exact l a u e
  n := fun a h => by
    by_cases q : a = p
    · subst q; exact .inr hp
    · rw [upd_ne q] at h; exact .inl h
  s := fun _ h => by cases h
/-- a new object, owned -/
theorem grow_o (l : Le F H) {p : Addr} (hp : H p = none) (o : HO) : Grow F H F (upd H p o) [p] where
  f := Le.refl _
  h := fun a u e => by rw [upd_ne (ne_of_none e hp)]; exact e
  fh := fun a u e => by rw [upd_ne (ne_of_none (l a u e) hp)]; exact l a u e
  n := fun a h => .inl h
  s := fun a h => by
    rw [List.mem_singleton] at h
    subst h
    exact ⟨hp, Le.none l hp⟩
theorem Grow.trans {F1 H1 F2 H2 : Hp} {s : List Addr} (a : Grow F H F1 H1 []) (b : Grow F1 H1 F2 H2 s) : Grow F H F2 H2 s where
  f := a.f.trans b.f
  h := a.h.trans b.h
  fh := b.fh
  n := fun x q => (b.n x q).elim (fun z => a.n x z) fun z => .inr (Le.none a.h z)
  s := fun x q => ⟨Le.none a.h (b.s x q).1, (b.s x q).2⟩
/-- what stands at s is data from now on -/
def frzF (F H : Hp) (s : List Addr) : Hp := fun a => if a ∈ s then H a else F a
theorem frzF_in {s : List Addr} {a : Addr} (h : a ∈ s) : frzF F H s a = H a := if_pos h
theorem frzF_out {s : List Addr} {a : Addr} (h : a ∉ s) : frzF F H s a = F a := if_neg h
theorem frz_le {s : List Addr} (ho : ∀ a ∈ s, F a = none) : Le F (frzF F H s) := fun a o e => by
  rw [frzF_out (fun h => by rw [ho a h] at e; cases e)]; exact e
theorem frz_sub {s : List Addr} (l : Le F H) : Le (frzF F H s) H := fun a o e => by
  by_cases h : a ∈ s
  · rw [frzF_in h] at e; exact e
  · rw [frzF_out h] at e; exact l a o e
theorem EnvOk.frz {s : List Addr} (e : EnvOk K F H ε σ φ) (ho : ∀ a ∈ s, F a = none ∧ ∀ i, a ∉ φ i) : EnvOk K (frzF F H s) H ε σ φ where
  sub := frz_sub e.sub
  len := e.len
  slot := fun i m hm => by
    obtain ⟨v, hv, r⟩ := e.slot i m hm
    exact ⟨v, hv, RM.mv (frz_le fun a h => (ho a h).1) m v _ (fun a _ o q => q) r⟩
  emp := e.emp
  nd := e.nd
  dj := e.dj
  off := fun i a ha => by rw [frzF_out (fun h => (ho a h).2 i ha)]; exact e.off i a ha
theorem frz_rep {s : List Addr} {m : M} {v : V} (ho : ∀ a ∈ s, F a = none) (r : RM K F H m v s) : Rep K (frzF F H s) m.toD v :=
  RM.frz (frz_le ho) m v s (fun a h o e => by rw [frzF_in h]; exact e) r
theorem frz_step {s : List Addr} (ho : ∀ a ∈ s, F a = none) (l : Le F H) : Step F H (fun a => Own φ a ∨ a ∈ s) (frzF F H s) H (Own φ) where
  f := frz_le ho
  h := fun a o _ q => q
  o := fun a h => .inl (.inl h)
  n := fun a h => by
    by_cases q : a ∈ s
    · exact .inr (.inl (.inr q))
    · rw [frzF_out q] at h; exact .inl h
  t := fun a h => h
end
/-! ### outcomes -/
inductive Out (α : Type) where
  | ok (a : α) (ε : En) | ex (c : Str) (fs : List (Str × D)) (ε : En) | bad
def Out.bnd {α β : Type} (o : Out α) (k : α → En → Out β) : Out β := match o with
  | .ok a ε => k a ε
  | .ex c fs ε => .ex c fs ε
  | .bad => .bad
@[simp] theorem bnd_ok {α β : Type} (a : α) (ε : En) (k : α → En → Out β) : (Out.ok a ε).bnd k = k a ε := rfl
@[simp] theorem bnd_ex {α β : Type} (c : Str) (fs : List (Str × D)) (ε : En) (k : α → En → Out β) : (Out.ex c fs ε : Out α).bnd k = .ex c fs ε := rfl
@[simp] theorem bnd_bad {α β : Type} (k : α → En → Out β) : (Out.bad : Out α).bnd k = .bad := rfl
def optO {α : Type} (o : Option α) (ε : En) : Out α := match o with
  | some a => .ok a ε
  | none => .bad
@[simp] theorem optO_some {α : Type} (a : α) (ε : En) : optO (some a) ε = .ok a ε := rfl
@[simp] theorem optO_none {α : Type} (ε : En) : optO (none : Option α) ε = .bad := rfl
/-- an operand: data, or a name of the def (read when all are there) -/
inductive Arg where
  | val (d : D) | var (i : Nat)
section
variable (K : PySem.W.Frag)
/-- what an exception's way wants -/
def PostX (W : WX) (σ : L2.St) (F H : Hp) (P : Addr → Prop) (c : Str) (fs : List (Str × D)) (ε' : En) : Prop :=
  ∀ dx vs F' H' φ', EnvOk K F' H' ε' σ φ' → Step F H P F' H' (Own φ') → H' dx = some (.xd vs) → RepF K F' fs vs → W (.ref (He.ga K c)) (some dx) σ H'
def ArgOk (F : Hp) (σ : L2.St) : Arg → V → Prop
  | .val d, v => Rep K F d v
  | .var i, v => σ[i]? = some (some v)
def ArgsOk (F : Hp) (σ : L2.St) : List Arg → List V → Prop
  | [], vs => vs = []
  | a :: as, vs => ∃ v ws, vs = v :: ws ∧ ArgOk K F σ a v ∧ ArgsOk F σ as ws
def PostE (W : WX) (σ : L2.St) (F H : Hp) (P : Addr → Prop) (Q : VK) : Out M → Prop
  | .ok m ε' => ∀ v F' H' φ' s, EnvOk K F' H' ε' σ φ' → Step F H P F' H' (fun a => Own φ' a ∨ a ∈ s) → RM K F' H' m v s → s.Nodup → (∀ a ∈ s, F' a = none ∧ ∀ i, a ∉ φ' i) → Q v H'
  | .ex c fs ε' => PostX K W σ F H P c fs ε'
  | .bad => False
def PostO (W : WX) (σ : L2.St) (F H : Hp) (P : Addr → Prop) (Q : VK) : Out Arg → Prop
  | .ok a ε' => ∀ v F' H' φ', EnvOk K F' H' ε' σ φ' → Step F H P F' H' (Own φ') → ArgOk K F' σ a v → Q v H'
  | .ex c fs ε' => PostX K W σ F H P c fs ε'
  | .bad => False
def PostA (W : WX) (σ : L2.St) (F H : Hp) (P : Addr → Prop) (Q : List V → Hp → Prop) : Out (List Arg) → Prop
  | .ok as ε' => ∀ vs F' H' φ', EnvOk K F' H' ε' σ φ' → Step F H P F' H' (Own φ') → ArgsOk K F' σ as vs → Q vs H'
  | .ex c fs ε' => PostX K W σ F H P c fs ε'
  | .bad => False
def PostT (W : WX) (σ : L2.St) (F H : Hp) (P : Addr → Prop) (Q : Bool → Hp → Prop) : Out Bool → Prop
  | .ok b ε' => ∀ F' H' φ', EnvOk K F' H' ε' σ φ' → Step F H P F' H' (Own φ') → Q b H'
  | .ex c fs ε' => PostX K W σ F H P c fs ε'
  | .bad => False
end
/-! ### the judgements: what an expression does, as a function of the names' values -/
structure FE (X : Cx) (W : WX) (e : Expr) (f : En → Out M) : Prop where
  ex : ∃ t, PE X e t ∧ ∀ ε σ F H φ Q, EnvOk X.K F H ε σ φ → PostE X.K W σ F H (Own φ) Q (f ε) → t σ H Q
structure FO (X : Cx) (W : WX) (e : Expr) (f : En → Out Arg) : Prop where
  ex : ∃ t, PE X e t ∧ ∀ ε σ F H φ Q, EnvOk X.K F H ε σ φ → PostO X.K W σ F H (Own φ) Q (f ε) → t σ H Q
structure FA (X : Cx) (W : WX) (es : List Expr) (f : En → Out (List Arg)) : Prop where
  ex : ∃ t, PA X es t ∧ ∀ ε σ F H φ Q, EnvOk X.K F H ε σ φ → PostA X.K W σ F H (Own φ) Q (f ε) → t σ H Q
structure FT (X : Cx) (W : WX) (e : Expr) (f : En → Out Bool) : Prop where
  ex : ∃ t, PT X e t ∧ ∀ ε σ F H φ Q, EnvOk X.K F H ε σ φ → PostT X.K W σ F H (Own φ) Q (f ε) → t σ H Q
structure FW (X : Cx) (W : WX) (e : Expr) (f : En → Out Bool) : Prop where
  ex : ∃ t, PW X e t ∧ ∀ ε σ F H φ Q, EnvOk X.K F H ε σ φ → PostT X.K W σ F H (Own φ) Q (f ε) → t σ H Q
section
variable {K : PySem.W.Frag} {W : WX} {σ : L2.St} {F H F1 H1 : Hp} {P P1 : Addr → Prop} {c : Str} {fs : List (Str × D)} {ε : En}
theorem PostX.step (st : Step F H P F1 H1 P1) (h : PostX K W σ F H P c fs ε) : PostX K W σ F1 H1 P1 c fs ε :=
  fun dx vs F' H' φ' e s q r => h dx vs F' H' φ' e (st.trans s) q r
theorem ArgOk.le {G : Hp} (l : Le F G) {a : Arg} {v : V} (h : ArgOk K F σ a v) : ArgOk K G σ a v := by
  cases a with
  | val d => exact Rep.le l d v h
  | var i => exact h
theorem ArgsOk.le {G : Hp} (l : Le F G) : ∀ {as : List Arg} {vs : List V}, ArgsOk K F σ as vs → ArgsOk K G σ as vs
  | [], _, h => h
  | a :: as, _, ⟨v, ws, e, h, r⟩ => ⟨v, ws, e, ArgOk.le l h, ArgsOk.le l r⟩
end
section
variable {X : Cx} {W : WX} {e a b : Expr} {es : List Expr}
/-! ### operands -/
def oVar (i : Nat) (ε : En) : Out Arg := match ε[i]? with
  | some (some _) => .ok (.var i) ε
  | _ => .bad
def oV (f : En → Out M) (ε : En) : Out Arg := (f ε).bnd fun m ε' => .ok (.val m.toD) ε'
def aNil (ε : En) : Out (List Arg) := .ok [] ε
def aCons (o : En → Out Arg) (g : En → Out (List Arg)) (ε : En) : Out (List Arg) := (o ε).bnd fun a ε1 => (g ε1).bnd fun as ε2 => .ok (a :: as) ε2
theorem fo_var (i : Nat) {x : Str} {pos : Pos} (hN : X.N[i]? = some x := by rfl) (hv : Vis X.env.scope x := by first | exact Or.inl rfl | exact Or.inr (Or.inl rfl) | exact Or.inr (Or.inr rfl)) (hd : (x == ("__debug__" : Str)) = false := by decide)
    (hcd : (x == ("__classdict__" : Str)) = false := by decide) : FO X W (.Name x pos) (oVar i) := by
  refine ⟨_, pe_var hN hv hd hcd, fun ε σ F H φ Q ok h => ?_⟩
  unfold oVar at h
  split at h
  · rename_i m hm
    obtain ⟨v, hv, r⟩ := ok.slot i m hm
    exact ⟨v, hv, h v F H φ ok (Step.refl fun _ z => z) hv⟩
  · exact h.elim
theorem fo_val {f : En → Out M} (he : FE X W e f) : FO X W e (oV f) := by
  obtain ⟨t, h1, h2⟩ := he.ex
  refine ⟨t, h1, fun ε σ F H φ Q ok h => h2 ε σ F H φ Q ok ?_⟩
  unfold oV at h
  cases q : f ε with
  | bad => rw [q] at h; exact h
  | ex c fs ε' => rw [q] at h; exact h
  | ok m ε' =>
    rw [q] at h
    intro v F' H' φ' s ok' st r nd ho
    have off : ∀ a ∈ s, F' a = none := fun a ha => (ho a ha).1
    exact h v (frzF F' H' s) H' φ' (ok'.frz ho) (st.trans (frz_step off ok'.sub)) (frz_rep off r)
theorem fa_nil : FA X W [] aNil := ⟨_, pa_nil, fun ε σ F H φ Q ok h => h [] F H φ ok (Step.refl fun _ z => z) rfl⟩
theorem fa_cons {o : En → Out Arg} {g : En → Out (List Arg)} (he : FO X W e o) (hr : FA X W es g) (hs : starEach (e :: es) X.env = (false, eval e X.env) :: starEach es X.env := by rfl) : FA X W (e :: es) (aCons o g) := by
  obtain ⟨t, h1, h2⟩ := he.ex
  obtain ⟨u, h3, h4⟩ := hr.ex
  refine ⟨_, pa_cons h1 h3 hs, fun ε σ F H φ Q ok h => h2 ε σ F H φ _ ok ?_⟩
  unfold aCons at h
  cases q : o ε with
  | bad => rw [q] at h; exact h
  | ex c fs ε' => rw [q] at h; exact h
  | ok a ε1 =>
    rw [q] at h
    intro v F1 H1 φ1 ok1 st1 r1
    refine h4 ε1 σ F1 H1 φ1 _ ok1 ?_
    simp only [bnd_ok] at h
    cases q2 : g ε1 with
    | bad => rw [q2] at h; exact h
    | ex c fs ε' => rw [q2] at h; exact PostX.step st1 h
    | ok as ε2 =>
      rw [q2] at h
      intro vs F2 H2 φ2 ok2 st2 r2
      exact h (v :: vs) F2 H2 φ2 ok2 (st1.trans st2) ⟨v, vs, rfl, ArgOk.le st2.f r1, r2⟩
/-! ### constants, names -/
def eC (d : D) (ε : En) : Out M := .ok (.d d) ε
theorem fe_c {d : D} {v : V} (h : PE X e (tC v)) (r : ∀ F, Rep X.K F d v) : FE X W e (eC d) :=
  ⟨_, h, fun ε σ F H φ Q ok k => k v F H φ [] ok (Step.refl fun _ z => z.elim (fun z => z) (fun z => by cases z)) ⟨rfl, r F⟩ List.nodup_nil (fun _ z => by cases z)⟩
theorem fe_int {i j pos} : FE X W (.Constant (.int i) j pos) (eC (.int i)) := fe_c pe_int fun _ => rfl
theorem fe_bl {b j pos} : FE X W (.Constant (.bool b) j pos) (eC (.bl b)) := fe_c pe_bl fun _ => rfl
theorem fe_non {j pos} : FE X W (.Constant .none j pos) (eC .non) := fe_c pe_non fun _ => rfl
theorem fe_str {x j pos} : FE X W (.Constant (.str x) j pos) (eC (.str x)) := fe_c pe_str fun _ => rfl
/-- a module's name that holds an int -/
theorem fe_gint {x : Str} {pos : Pos} {i : Int} (hg : Gl X x := by rfl) (hm : ∃ t, X.mg x = some (.int i t)) (hd : (x == ("__debug__" : Str)) = false := by decide) : FE X W (.Name x pos) (eC (.int i)) := by
  obtain ⟨t, hm⟩ := hm
  exact fe_c (pe_glob hg hm (show RelV (.int i) _ from ⟨t, rfl⟩) hd) fun _ => rfl
def eVar (i : Nat) (ε : En) : Out M := match ε[i]? with
  | some (some (.d x)) => .ok (.d x) ε
  | some (some m) => .ok (.d m.toD) (ε.set i (some (.d m.toD)))
  | _ => .bad
end
end FL
namespace FL
open PySem PySem.Spec PyProof.Rows L2
/-! ### operations on values -/
def RMr (K : PySem.W.Frag) (F H : Hp) (m : M) (v : V) : Prop := ∃ s, RM K F H m v s
def RMrs (K : PySem.W.Frag) (F H : Hp) : List M → List V → Prop
  | [], vs => vs = []
  | m :: ms, vs => ∃ v ws, vs = v :: ws ∧ RMr K F H m v ∧ RMrs K F H ms ws
/-- an operation's reading by values, and the function that says what it gives -/
def OpS (K : PySem.W.Frag) (r : List V → Hp → VK → Prop) (g : List M → Option M) : Prop :=
  ∀ ms vs F H Q m', Le F H → RMrs K F H ms vs → g ms = some m' → (∀ v F' H' s, Grow F H F' H' s → RM K F' H' m' v s → s.Nodup → Q v H') → r vs H Q
def OpS2 (K : PySem.W.Frag) (r : R2) (g : M → M → Option M) : Prop :=
  ∀ m n x y F H Q m', Le F H → RMr K F H m x → RMr K F H n y → g m n = some m' → (∀ v F' H' s, Grow F H F' H' s → RM K F' H' m' v s → s.Nodup → Q v H') → r x y H Q
def OpS1 (K : PySem.W.Frag) (r : V → Hp → VK → Prop) (g : M → Option M) : Prop :=
  ∀ m x F H Q m', Le F H → RMr K F H m x → g m = some m' → (∀ v F' H' s, Grow F H F' H' s → RM K F' H' m' v s → s.Nodup → Q v H') → r x H Q
def rd (ε : En) : Arg → Option M
  | .val d => some (.d d)
  | .var i => match ε[i]? with
    | some (some m) => some m
    | _ => none
def rds (ε : En) : List Arg → Option (List M)
  | [] => some []
  | a :: as => match rd ε a, rds ε as with
    | some m, some ms => some (m :: ms)
    | _, _ => none
def eOp (g : List M → Option M) (fa : En → Out (List Arg)) (ε : En) : Out M := (fa ε).bnd fun as ε' => match rds ε' as with
  | some ms => optO (g ms) ε'
  | none => .bad
def eOp2 (g : M → M → Option M) (oa ob : En → Out Arg) (ε : En) : Out M := (oa ε).bnd fun a ε1 => (ob ε1).bnd fun b ε2 => match rd ε2 a, rd ε2 b with
  | some m, some n => optO (g m n) ε2
  | _, _ => .bad
def eOp1 (g : M → Option M) (oa : En → Out Arg) (ε : En) : Out M := (oa ε).bnd fun a ε1 => match rd ε1 a with
  | some m => optO (g m) ε1
  | _ => .bad
section
variable {K : PySem.W.Frag} {F H : Hp} {ε : En} {σ : L2.St} {φ : Nat → List Addr}
theorem rd_ok (ok : EnvOk K F H ε σ φ) {a : Arg} {v : V} {m : M} (h : ArgOk K F σ a v) (e : rd ε a = some m) : RMr K F H m v := by
  cases a with
  | val d => cases e; exact ⟨[], rfl, h⟩
  | var i =>
    have e' : (match ε[i]? with
      | some (some m) => some m
      | _ => none) = some m := e
    split at e'
    · rename_i m' hm
      cases e'
      obtain ⟨v', hv, r⟩ := ok.slot i _ hm
      have h' : σ[i]? = some (some v) := h
      rw [hv] at h'
      cases h'
      exact ⟨_, r⟩
    · cases e'
theorem rds_ok (ok : EnvOk K F H ε σ φ) : ∀ {as : List Arg} {vs : List V} {ms : List M}, ArgsOk K F σ as vs → rds ε as = some ms → RMrs K F H ms vs
  | [], _, _, h, e => by cases e; exact h
  | a :: as, _, ms, ⟨v, ws, hv, h, r⟩, e => by
    unfold rds at e
    split at e
    · rename_i m ms' e1 e2
      cases e
      exact ⟨v, ws, hv, rd_ok ok h e1, rds_ok ok r e2⟩
    · cases e
/-- an operation's result is an expression's -/
theorem PostE.of_op {W : WX} {Fo Ho : Hp} {P : Addr → Prop} {Q : VK} {m : M} (ok : EnvOk K F H ε σ φ) (st : Step Fo Ho P F H (Own φ)) (h : PostE K W σ Fo Ho P Q (.ok m ε)) :
    ∀ v F' H' s, Grow F H F' H' s → RM K F' H' m v s → s.Nodup → Q v H' := fun v F' H' s g r nd =>
  h v F' H' φ s (ok.grow g) (st.trans g.step) r nd fun a ha => ⟨(g.s a ha).2, fun i hi => ok.tr hi (g.s a ha).1⟩
end
section
variable {X : Cx} {W : WX} {e a b : Expr} {es : List Expr} {x : Str} {p pos : Pos}
theorem fe_op {r : List V → Hp → VK → Prop} {g : List M → Option M} {fa : En → Out (List Arg)} {e : Expr} (hS : OpS X.K r g) (ha : FA X W es fa)
    (hpe : ∀ t, PA X es t → PE X e (fun σ H Q => t σ H fun vs H1 => r vs H1 Q)) : FE X W e (eOp g fa) := by
  obtain ⟨t, h1, h2⟩ := ha.ex
  refine ⟨_, hpe t h1, fun ε σ F H φ Q ok h => h2 ε σ F H φ _ ok ?_⟩
  unfold eOp at h
  cases q : fa ε with
  | bad => rw [q] at h; exact h
  | ex c fs ε' => rw [q] at h; exact h
  | ok as ε1 =>
    rw [q] at h
    simp only [bnd_ok] at h
    intro vs F1 H1 φ1 ok1 st1 r1
    cases q2 : rds ε1 as with
    | none => rw [q2] at h; exact h.elim
    | some ms =>
      rw [q2] at h
      cases q3 : g ms with
      | none => simp only [q3, optO_none] at h; exact h.elim
      | some m =>
        simp only [q3, optO_some] at h
        exact hS ms vs F1 H1 Q m ok1.sub (rds_ok ok1 r1 q2) q3 (PostE.of_op ok1 st1 h)
theorem fe_op2 {r : R2} {g : M → M → Option M} {oa ob : En → Out Arg} {e : Expr} (hS : OpS2 X.K r g) (ha : FO X W a oa) (hb : FO X W b ob)
    (hpe : ∀ ta tb, PE X a ta → PE X b tb → PE X e (tOp r ta tb)) : FE X W e (eOp2 g oa ob) := by
  obtain ⟨ta, h1, h2⟩ := ha.ex
  obtain ⟨tb, h3, h4⟩ := hb.ex
  refine ⟨_, hpe ta tb h1 h3, fun ε σ F H φ Q ok h => h2 ε σ F H φ _ ok ?_⟩
  unfold eOp2 at h
  cases q : oa ε with
  | bad => rw [q] at h; exact h
  | ex c fs ε' => rw [q] at h; exact h
  | ok u ε1 =>
    rw [q] at h
    simp only [bnd_ok] at h
    intro v F1 H1 φ1 ok1 st1 r1
    refine h4 ε1 σ F1 H1 φ1 _ ok1 ?_
    cases q2 : ob ε1 with
    | bad => rw [q2] at h; exact h
    | ex c fs ε' => rw [q2] at h; exact PostX.step st1 h
    | ok w ε2 =>
      rw [q2] at h
      simp only [bnd_ok] at h
      intro v2 F2 H2 φ2 ok2 st2 r2
      have r1' := ArgOk.le st2.f r1
      cases q3 : rd ε2 u with
      | none => rw [q3] at h; exact h.elim
      | some m =>
        cases q4 : rd ε2 w with
        | none => rw [q3, q4] at h; exact h.elim
        | some n =>
          rw [q3, q4] at h
          cases q5 : g m n with
          | none => simp only [q5, optO_none] at h; exact h.elim
          | some z =>
            simp only [q5, optO_some] at h
            exact hS m n v v2 F2 H2 Q z ok2.sub (rd_ok ok2 r1' q3) (rd_ok ok2 r2 q4) q5 (PostE.of_op ok2 (st1.trans st2) h)
theorem fe_op1 {r : V → Hp → VK → Prop} {g : M → Option M} {oa : En → Out Arg} {e : Expr} (hS : OpS1 X.K r g) (ha : FO X W a oa)
    (hpe : ∀ ta, PE X a ta → PE X e (fun σ H Q => ta σ H fun x H1 => r x H1 Q)) : FE X W e (eOp1 g oa) := by
  obtain ⟨ta, h1, h2⟩ := ha.ex
  refine ⟨_, hpe ta h1, fun ε σ F H φ Q ok h => h2 ε σ F H φ _ ok ?_⟩
  unfold eOp1 at h
  cases q : oa ε with
  | bad => rw [q] at h; exact h
  | ex c fs ε' => rw [q] at h; exact h
  | ok u ε1 =>
    rw [q] at h
    simp only [bnd_ok] at h
    intro v F1 H1 φ1 ok1 st1 r1
    cases q3 : rd ε1 u with
    | none => rw [q3] at h; exact h.elim
    | some m =>
      rw [q3] at h
      cases q5 : g m with
      | none => simp only [q5, optO_none] at h; exact h.elim
      | some z =>
        simp only [q5, optO_some] at h
        exact hS m v F1 H1 Q z ok1.sub (rd_ok ok1 r1 q3) q5 (PostE.of_op ok1 st1 h)
theorem fe_bin {op : Operator} {r : R2} {g : M → M → Option M} {oa ob : En → Out Arg} (ho : OpR X (binaryOp op) r) (hS : OpS2 X.K r g) (ha : FO X W a oa) (hb : FO X W b ob) : FE X W (.BinOp a op b pos) (eOp2 g oa ob) :=
  fe_op2 hS ha hb fun _ _ h1 h2 => pe_op ho h1 h2
theorem fe_cmp {op : CmpOp} {r : R2} {g : M → M → Option M} {oa ob : En → Out Arg} (ho : OpR X (compareOp op) r) (hS : OpS2 X.K r g) (ha : FO X W a oa) (hb : FO X W b ob) (hm : behindInMarks op b = false) : FE X W (.Compare a [op] [b] pos) (eOp2 g oa ob) :=
  fe_op2 hS ha hb fun _ _ h1 h2 => pe_cmpR ho h1 h2 hm
theorem fe_un {op : UnaryOp} {r : V → Hp → VK → Prop} {g : M → Option M} {oa : En → Out Arg} (ho : UnR X (unaryOp op) r) (hS : OpS1 X.K r g) (ha : FO X W a oa) : FE X W (.UnaryOp op a pos) (eOp1 g oa) :=
  fe_op1 hS ha fun _ h1 => pe_un ho h1
theorem fe_cb {id : String} {r : List V → Hp → VK → Prop} {g : List M → Option M} {fa : En → Out (List Arg)} (hc : CallR X (.builtin id) r) (hS : OpS X.K r g) (hm : X.mg x = none) (hv : bootBuiltins x = some (.builtin id)) (ha : FA X W (e :: es) fa) (hg : Gl X x := by rfl) (hn : x ≠ "__name__" := by decide) (hdb : (x == ("__debug__" : Str)) = false := by decide)
    (he : starEach (e :: es) X.env = (false, eval e X.env) :: starEach es X.env := by rfl) (hpl : (backTo pos (starEach es X.env)).any (·.1) = false := by rfl) : FE X W (.Call (.Name x p) (e :: es) [] pos) (eOp g fa) :=
  fe_op hS ha fun _ h => pe_callB hc hg hm hv h hn hdb he hpl
theorem fe_ty {T : String} {r : List V → Hp → VK → Prop} {g : List M → Option M} {fa : En → Out (List Arg)} (hc : CallR X (.type T) r) (hS : OpS X.K r g) (hm : X.mg x = none) (hv : bootBuiltins x = some (.type T)) (ha : FA X W (e :: es) fa) (hg : Gl X x := by rfl) (hn : x ≠ "__name__" := by decide) (hdb : (x == ("__debug__" : Str)) = false := by decide)
    (he : starEach (e :: es) X.env = (false, eval e X.env) :: starEach es X.env := by rfl) (hpl : (backTo pos (starEach es X.env)).any (·.1) = false := by rfl) : FE X W (.Call (.Name x p) (e :: es) [] pos) (eOp g fa) :=
  fe_op hS ha fun _ h => pe_callTy hc hg hm hv h hn hdb he hpl
theorem fe_ix {r : R2} {g : M → M → Option M} {oa ob : En → Out Arg} (hr : IxR X r) (hS : OpS2 X.K r g) (ha : FO X W a oa) (hb : FO X W b ob) (hs : PlainIx b) : FE X W (.Subscript a b pos) (eOp2 g oa ob) :=
  fe_op2 hS ha hb fun _ _ h1 h2 => pe_ix hr h1 h2 hs
end
/-! ### what stands behind a value -/
def lim : Nat := 16777216
def M.lst? : M → Option (List D)
  | .d (.lst xs) => some xs
  | .ol xs => some xs
  | _ => none
def M.tup? : M → Option (List D)
  | .d (.tup xs) => some xs
  | _ => none
/-- a list's or a tuple's items -/
def M.seq? : M → Option (List D)
  | .d (.lst xs) => some xs
  | .d (.tup xs) => some xs
  | .d (.rl ns) => some (ns.map .int)
  | .ol xs => some xs
  | _ => none
def ints? : List D → Option (List Int)
  | [] => some []
  | .int i :: r => (ints? r).map (i :: ·)
  | _ => none
@[simp] theorem ints_map : ∀ ns : List Int, ints? (ns.map D.int) = some ns
  | [] => rfl
  | n :: r => by
    show (ints? (r.map D.int)).map (n :: ·) = some (n :: r)
    rw [ints_map r]
    rfl
theorem ints_eq : ∀ {xs : List D} {ns : List Int}, ints? xs = some ns → xs = ns.map D.int
  | [], _, h => by cases h; rfl
  | .int i :: r, ns, h => by
    have h' : (ints? r).map (i :: ·) = some ns := h
    cases q : ints? r with
    | none => rw [q] at h'; cases h'
    | some ms =>
      rw [q] at h'
      cases h'
      rw [ints_eq q]
      rfl
  | .non :: _, _, h | .bl _ :: _, _, h | .str _ :: _, _, h | .lst _ :: _, _, h | .tup _ :: _, _, h | .rl _ :: _, _, h | .obj _ _ :: _, _, h | .dK _ :: _, _, h | .dT _ :: _, _, h | .ty _ :: _, _, h | .cl _ :: _, _, h => by cases h
section
variable {K : PySem.W.Frag} {F H : Hp}
theorem reps_ints : ∀ {ns : List Int} {vs : List V}, Reps K F (ns.map D.int) vs → vs = ns.map V.int
  | [], _, h => h
  | n :: r, _, ⟨v, ws, e, h, q⟩ => by
    have h' : v = .int n := h
    rw [e, h', reps_ints q]
    rfl
theorem ints_reps : ∀ (ns : List Int), Reps K F (ns.map D.int) (ns.map V.int)
  | [] => rfl
  | n :: r => ⟨_, _, rfl, rfl, ints_reps r⟩
theorem lst_at {m : M} {v : V} {xs : List D} (l : Le F H) (r : RMr K F H m v) (e : m.lst? = some xs) : ∃ a vs, v = .ref a ∧ H a = some (.lst vs) ∧ Reps K F xs vs := by
  obtain ⟨s, r⟩ := r
  cases m with
  | d x =>
    cases x with
    | lst ys =>
      cases e
      obtain ⟨_, a, vs, e, h, q⟩ := r
      exact ⟨a, vs, e, l _ _ h, q⟩
    | _ => cases e
  | ol ys =>
    cases e
    obtain ⟨a, vs, e, _, h, q⟩ := r
    exact ⟨a, vs, e, h, q⟩
  | _ => cases e
theorem tup_at {m : M} {v : V} {xs : List D} (l : Le F H) (r : RMr K F H m v) (e : m.tup? = some xs) : ∃ a vs, v = .ref a ∧ SqT K H a vs ∧ Reps K F xs vs := by
  obtain ⟨s, r⟩ := r
  cases m with
  | d x =>
    cases x with
    | tup ys =>
      cases e
      obtain ⟨_, a, vs, e, h, q⟩ := r
      exact ⟨a, vs, e, SqT.le l h, q⟩
    | _ => cases e
  | _ => cases e
theorem seq_at {m : M} {v : V} {xs : List D} (l : Le F H) (r : RMr K F H m v) (e : m.seq? = some xs) : ∃ a vs, v = .ref a ∧ (SqL K H a vs ∨ SqT K H a vs) ∧ Reps K F xs vs := by
  cases m with
  | d x =>
    cases x with
    | lst ys =>
      cases e
      obtain ⟨a, vs, e, h, q⟩ := lst_at l r rfl
      exact ⟨a, vs, e, .inl (SqL.of h), q⟩
    | tup ys =>
      cases e
      obtain ⟨a, vs, e, h, q⟩ := tup_at l r rfl
      exact ⟨a, vs, e, .inr h, q⟩
    | rl ns =>
      cases e
      obtain ⟨s, _, a, e, h⟩ := r
      exact ⟨a, _, e, .inl (SqL.le l h), ints_reps ns⟩
    | _ => cases e
  | ol ys =>
    cases e
    obtain ⟨a, vs, e, h, q⟩ := lst_at l r rfl
    exact ⟨a, vs, e, .inl (SqL.of h), q⟩
  | _ => cases e
theorem int_at {m : M} {v : V} {i : Int} (r : RMr K F H m v) (e : m = .d (.int i)) : v = .int i := by
  subst e
  obtain ⟨_, _, r⟩ := r
  exact r
theorem RMr.dat {d : D} {v : V} (r : RMr K F H (.d d) v) : Rep K F d v := by
  obtain ⟨_, _, r⟩ := r
  exact r
/-- a plain result -/
theorem plain_ok {Q : VK} {d : D} {v : V} (l : Le F H) (h : ∀ v F' H' s, Grow F H F' H' s → RM K F' H' (.d d) v s → s.Nodup → Q v H') (r : Rep K F d v) : Q v H := h v F H [] (Grow.refl l) ⟨rfl, r⟩ List.nodup_nil
/-- a new list, owned -/
theorem new_ok {Q : VK} {xs : List D} {vs : List V} (l : Le F H) (h : ∀ v F' H' s, Grow F H F' H' s → RM K F' H' (.ol xs) v s → s.Nodup → Q v H') (r : Reps K F xs vs) : ∀ p, H p = none → Q (.ref p) (upd H p (.lst vs)) :=
  fun p hp => h _ F _ [p] (grow_o l hp _) ⟨p, vs, rfl, rfl, upd_same, r⟩ (by simp)
/-- a new tuple -/
theorem newT_ok {Q : VK} {xs : List D} {vs : List V} (l : Le F H) (h : ∀ v F' H' s, Grow F H F' H' s → RM K F' H' (.d (.tup xs)) v s → s.Nodup → Q v H') (r : Reps K F xs vs) : ∀ p, H p = none → Q (.ref p) (upd H p (.tup vs)) :=
  fun p hp => h _ (upd F p (.tup vs)) _ [] (grow_f l hp _) ⟨rfl, p, vs, rfl, SqT.of upd_same, Reps.le (grow_f l hp _).f xs vs r⟩ List.nodup_nil
end
/-! ### ints -/
def sm (i : Int) : Prop := i.natAbs < 2 ^ 400000
instance (i : Int) : Decidable (sm i) := inferInstanceAs (Decidable (_ < _))
end FL
namespace FL
open PySem PySem.Spec PyProof.Rows L2
theorem lim_eq : lim = sizeLine := by rw [sizeLine_eq] <;> rfl
/-! ### +, -, * .. -/
def gAdd (m n : M) : Option M := match m, n with
  | .d (.int i), .d (.int j) => some (.d (.int (i + j)))
  | .d (.str s), .d (.str t) => if s.length + t.length ≤ lim then some (.d (.str (s ++ t))) else none
  | .d (.tup xs), .d (.tup ys) => if xs.length + ys.length ≤ lim then some (.d (.tup (xs ++ ys))) else none
  | m, n => match m.lst?, n.lst? with
    | some xs, some ys => if xs.length + ys.length ≤ lim then some (.ol (xs ++ ys)) else none
    | _, _ => none
@[simp] theorem gAdd_int (i j : Int) : gAdd (.d (.int i)) (.d (.int j)) = some (.d (.int (i + j))) := rfl
def gSub (m n : M) : Option M := match m, n with
  | .d (.int i), .d (.int j) => some (.d (.int (i - j)))
  | _, _ => none
@[simp] theorem gSub_int (i j : Int) : gSub (.d (.int i)) (.d (.int j)) = some (.d (.int (i - j))) := rfl
def gMul (m n : M) : Option M := match m, n with
  | .d (.int i), .d (.int j) => if sm i ∧ sm j then some (.d (.int (i * j))) else none
  | m, .d (.int k) => match m.lst? with
    | some xs => if -(2 ^ 62) ≤ k ∧ k ≤ 2 ^ 62 ∧ xs.length * k.toNat ≤ lim then some (.ol (List.replicate k.toNat xs).flatten) else none
    | none => none
  | _, _ => none
def gDiv (m n : M) : Option M := match m, n with
  | .d (.int i), .d (.int j) => if 0 < j ∧ j.natAbs < 2 ^ 8000 then some (.d (.int (i / j))) else none
  | _, _ => none
def gMod (m n : M) : Option M := match m, n with
  | .d (.int i), .d (.int j) => if 0 < j then some (.d (.int (i % j))) else none
  | _, _ => none
def gPow (m n : M) : Option M := match m, n with
  | .d (.int i), .d (.int j) => if 0 ≤ j ∧ j ≤ 1000000 ∧ i.natAbs < 2 ^ 64 then some (.d (.int (i ^ j.toNat))) else none
  | _, _ => none
def gNeg (m : M) : Option M := match m with
  | .d (.int i) => some (.d (.int (-i)))
  | _ => none
section
variable {K : PySem.W.Frag}
theorem ints_op2 {r : Int → Int → Prop} {f : Int → Int → D} {fv : Int → Int → V} (hf : ∀ i j F, Rep K F (f i j) (fv i j)) {m n : M} {x y : V} {F H : Hp} {Q : VK} {i j : Int} (l : Le F H) (rx : RMr K F H m x) (ry : RMr K F H n y)
    (em : m = .d (.int i)) (en : n = .d (.int j)) (c : r i j) (h : ∀ v F' H' s, Grow F H F' H' s → RM K F' H' (.d (f i j)) v s → s.Nodup → Q v H') : rI r fv x y H Q :=
  ⟨i, j, int_at rx em, int_at ry en, c, plain_ok l h (hf i j F)⟩
theorem ints_op20 {f : Int → Int → D} {fv : Int → Int → V} (hf : ∀ i j F, Rep K F (f i j) (fv i j)) {m n : M} {x y : V} {F H : Hp} {Q : VK} {i j : Int} (l : Le F H) (rx : RMr K F H m x) (ry : RMr K F H n y)
    (em : m = .d (.int i)) (en : n = .d (.int j)) (h : ∀ v F' H' s, Grow F H F' H' s → RM K F' H' (.d (f i j)) v s → s.Nodup → Q v H') : rI0 fv x y H Q :=
  ⟨i, j, int_at rx em, int_at ry en, plain_ok l h (hf i j F)⟩
theorem Rep_str {F : Hp} {s : Str} {v : V} (h : Rep K F (.str s) v) : v = .str s := h
def rStrAdd : R2 := fun x y H Q => ∃ i j, x = V.str i ∧ y = V.str j ∧ i.length + j.length ≤ sizeLine ∧ Q (.str (i ++ j)) H
theorem s_add : OpS2 K (fun x y H Q => rI0 (fun i j => V.int (i + j)) x y H Q ∨ (rStrAdd x y H Q ∨ (rCatA K x y H Q ∨ rCat x y H Q))) gAdd := by
  intro m n x y F H Q m' l rx ry e h
  unfold gAdd at e
  split at e
  · cases e
    exact .inl (ints_op20 (f := fun i j => .int (i + j)) (fun _ _ _ => rfl) l rx ry rfl rfl h)
  · rename_i s t
    split at e
    · rename_i hz
      cases e
      exact .inr (.inl ⟨s, t, rx.dat, ry.dat, by rw [← lim_eq]; exact hz, plain_ok l h rfl⟩)
    · cases e
  · rename_i xs ys
    split at e
    · rename_i hz
      cases e
      obtain ⟨a, vs, e1, h1, r1⟩ := tup_at l rx (xs := xs) rfl
      obtain ⟨b, ws, e2, h2, r2⟩ := tup_at l ry (xs := ys) rfl
      refine .inr (.inr (.inl ⟨a, b, vs, ws, e1, e2, h1, h2, by rw [← lim_eq, r1.length, r2.length]; exact hz, fun z => ?_, fun z1 z2 => ?_, fun z1 z2 => newT_ok l h (r1.append r2)⟩))
      · subst z
        have e3 : xs = [] := by
          have := r1.length
          simpa using this.symm
        subst e3
        exact plain_ok l h (by rw [← e2]; exact ry.dat)
      · subst z2
        have e3 : ys = [] := by
          have := r2.length
          simpa using this.symm
        subst e3
        refine plain_ok l h ?_
        rw [← e1, List.append_nil]
        exact rx.dat
    · cases e
  · split at e
    · rename_i xs ys q1 q2
      split at e
      · rename_i hz
        cases e
        obtain ⟨a, vs, e1, h1, r1⟩ := lst_at l rx q1
        obtain ⟨b, ws, e2, h2, r2⟩ := lst_at l ry q2
        exact .inr (.inr (.inr ⟨a, b, vs, ws, e1, e2, h1, h2, by rw [← lim_eq, r1.length, r2.length]; exact hz, new_ok l h (r1.append r2)⟩))
      · cases e
    · cases e
theorem s_sub : OpS2 K (rI0 fun i j => V.int (i - j)) gSub := by
  intro m n x y F H Q m' l rx ry e h
  unfold gSub at e
  split at e
  · cases e
    exact ints_op20 (f := fun i j => .int (i - j)) (fun _ _ _ => rfl) l rx ry rfl rfl h
  · cases e
theorem reps_flat {F : Hp} {xs : List D} {vs : List V} (r : Reps K F xs vs) : ∀ n : Nat, Reps K F (List.replicate n xs).flatten (List.replicate n vs).flatten
  | 0 => rfl
  | n + 1 => by
    rw [List.replicate_succ, List.replicate_succ, List.flatten_cons, List.flatten_cons]
    exact r.append (reps_flat r n)
theorem s_mul : OpS2 K (fun x y H Q => rI CMulW (fun i j => V.int (i * j)) x y H Q ∨ rRep x y H Q) gMul := by
  intro m n x y F H Q m' l rx ry e h
  unfold gMul at e
  split at e
  · rename_i i j
    split at e
    · rename_i hz
      cases e
      exact .inl (ints_op2 (f := fun i j => .int (i * j)) (fun _ _ _ => rfl) l rx ry rfl rfl (wide_mul hz.1 hz.2 (by decide) (by decide) (by decide)) h)
    · cases e
  · rename_i k _
    split at e
    · rename_i xs q1
      split at e
      · rename_i hz
        cases e
        obtain ⟨a, vs, e1, h1, r1⟩ := lst_at l rx q1
        refine .inr ⟨a, k, vs, e1, ry.dat, h1, by omega, by omega, by rw [← lim_eq, r1.length]; exact hz.2.2, new_ok l h (reps_flat r1 _)⟩
      · cases e
    · cases e
  · cases e
theorem s_div : OpS2 K (rI CDivW fun i j => V.int (i / j)) gDiv := by
  intro m n x y F H Q m' l rx ry e h
  unfold gDiv at e
  split at e
  · split at e
    · rename_i hz
      cases e
      exact ints_op2 (f := fun i j => .int (i / j)) (fun _ _ _ => rfl) l rx ry rfl rfl (wide_div hz.1 hz.2 (by decide) (by decide)) h
    · cases e
  · cases e
theorem s_mod : OpS2 K (rI (fun _ j => 0 < j) fun i j => V.int (i % j)) gMod := by
  intro m n x y F H Q m' l rx ry e h
  unfold gMod at e
  split at e
  · split at e
    · rename_i hz
      cases e
      exact ints_op2 (f := fun i j => .int (i % j)) (fun _ _ _ => rfl) l rx ry rfl rfl hz h
    · cases e
  · cases e
theorem s_pow : OpS2 K (rI CPow fun i j => V.int (i ^ j.toNat)) gPow := by
  intro m n x y F H Q m' l rx ry e h
  unfold gPow at e
  split at e
  · split at e
    · rename_i hz
      cases e
      exact ints_op2 (f := fun i j => .int (i ^ j.toNat)) (fun _ _ _ => rfl) l rx ry rfl rfl hz h
    · cases e
  · cases e
theorem s_neg : OpS1 K (rU fun i => V.int (-i)) gNeg := by
  intro m x F H Q m' l rx e h
  unfold gNeg at e
  split at e
  · cases e
    exact ⟨_, rx.dat, plain_ok l h rfl⟩
  · cases e
end
/-! ### comparisons -/
def gLt (m n : M) : Option M := match m, n with
  | .d (.int i), .d (.int j) => some (.d (.bl (decide (i < j))))
  | _, _ => none
def gLe (m n : M) : Option M := match m, n with
  | .d (.int i), .d (.int j) => some (.d (.bl (decide (i ≤ j))))
  | _, _ => none
def gGt (m n : M) : Option M := match m, n with
  | .d (.int i), .d (.int j) => some (.d (.bl (decide (j < i))))
  | _, _ => none
def gGe (m n : M) : Option M := match m, n with
  | .d (.int i), .d (.int j) => some (.d (.bl (decide (j ≤ i))))
  | _, _ => none
@[simp] theorem gLt_int (i j : Int) : gLt (.d (.int i)) (.d (.int j)) = some (.d (.bl (decide (i < j)))) := rfl
@[simp] theorem gLe_int (i j : Int) : gLe (.d (.int i)) (.d (.int j)) = some (.d (.bl (decide (i ≤ j)))) := rfl
@[simp] theorem gGt_int (i j : Int) : gGt (.d (.int i)) (.d (.int j)) = some (.d (.bl (decide (j < i)))) := rfl
@[simp] theorem gGe_int (i j : Int) : gGe (.d (.int i)) (.d (.int j)) = some (.d (.bl (decide (j ≤ i)))) := rfl
/- data for == -/
mutual
def D.py : D → PyData
  | .non => .none
  | .bl b => .bool b
  | .int i => .int i
  | .str s => .str s
  | .lst xs => .list (D.pys xs)
  | .tup xs => .tuple (D.pys xs)
  | .rl ns => .list (ns.map .int)
  | .obj _ _ => .dict []
  | .dK _ => .dict []
  | .dT _ => .dict []
  | .ty _ => .dict []
  | .cl _ => .dict []
def D.pys : List D → List PyData
  | [] => []
  | x :: xs => x.py :: D.pys xs
end
def gEqB (m n : M) : Option Bool := match m, n with
  | .d (.int i), .d (.int j) => some (decide (i = j))
  | .d (.str i), .d (.str j) => some (decide (i = j))
  | .d (.bl i), .d (.bl j) => some (decide (i = j))
  | m, n => if SeqAt.shaped m.toD.py = true ∧ SeqAt.shaped n.toD.py = true then some (PyData.eqv m.toD.py n.toD.py) else none
def gEq (m n : M) : Option M := (gEqB m n).map fun b => .d (.bl b)
def gNe (m n : M) : Option M := (gEqB m n).map fun b => .d (.bl (!b))
@[simp] theorem gEq_int (i j : Int) : gEq (.d (.int i)) (.d (.int j)) = some (.d (.bl (decide (i = j)))) := rfl
@[simp] theorem gNe_int (i j : Int) : gNe (.d (.int i)) (.d (.int j)) = some (.d (.bl (!decide (i = j)))) := rfl
@[simp] theorem gEq_str (i j : Str) : gEq (.d (.str i)) (.d (.str j)) = some (.d (.bl (decide (i = j)))) := rfl
@[simp] theorem gNe_str (i j : Str) : gNe (.d (.str i)) (.d (.str j)) = some (.d (.bl (!decide (i = j)))) := rfl
@[simp] theorem gEq_bl (i j : Bool) : gEq (.d (.bl i)) (.d (.bl j)) = some (.d (.bl (decide (i = j)))) := rfl
@[simp] theorem gNe_bl (i j : Bool) : gNe (.d (.bl i)) (.d (.bl j)) = some (.d (.bl (!decide (i = j)))) := rfl
def M.isN : M → Bool
  | .d .non => true
  | _ => false
def M.isB (m : M) (b : Bool) : Bool := match m with
  | .d (.bl a) => decide (a = b)
  | _ => false
def gIs (m n : M) : Option M := match n with
  | .d .non => some (.d (.bl m.isN))
  | .d (.bl b) => some (.d (.bl (m.isB b)))
  | _ => none
def gIsNot (m n : M) : Option M := match gIs m n with
  | some (.d (.bl b)) => some (.d (.bl (!b)))
  | _ => none
def gInB (m n : M) : Option Bool := match n.lst? with
  | some xs => if SeqAt.shaped m.toD.py = true ∧ SeqAt.shaped (.list (D.pys xs)) = true then some ((D.pys xs).any fun z => PyData.eqv z m.toD.py) else none
  | none => match n.tup? with
    | some xs => match m, ints? xs with
      | .d (.int i), some ns => some (decide (i ∈ ns))
      | _, _ => none
    | none => none
def gIn (m n : M) : Option M := (gInB m n).map fun b => .d (.bl b)
def gNotIn (m n : M) : Option M := (gInB m n).map fun b => .d (.bl (!b))
section
variable {K : PySem.W.Frag}
theorem s_lt : OpS2 K (rI0 fun i j => V.bl (decide (i < j))) gLt := by
  intro m n x y F H Q m' l rx ry e h
  unfold gLt at e
  split at e
  · cases e
    exact ints_op20 (f := fun i j => .bl (decide (i < j))) (fun _ _ _ => rfl) l rx ry rfl rfl h
  · cases e
theorem s_le : OpS2 K (rI0 fun i j => V.bl (decide (i ≤ j))) gLe := by
  intro m n x y F H Q m' l rx ry e h
  unfold gLe at e
  split at e
  · cases e
    exact ints_op20 (f := fun i j => .bl (decide (i ≤ j))) (fun _ _ _ => rfl) l rx ry rfl rfl h
  · cases e
theorem s_gt : OpS2 K (rI0 fun i j => V.bl (decide (j < i))) gGt := by
  intro m n x y F H Q m' l rx ry e h
  unfold gGt at e
  split at e
  · cases e
    exact ints_op20 (f := fun i j => .bl (decide (j < i))) (fun _ _ _ => rfl) l rx ry rfl rfl h
  · cases e
theorem s_ge : OpS2 K (rI0 fun i j => V.bl (decide (j ≤ i))) gGe := by
  intro m n x y F H Q m' l rx ry e h
  unfold gGe at e
  split at e
  · cases e
    exact ints_op20 (f := fun i j => .bl (decide (j ≤ i))) (fun _ _ _ => rfl) l rx ry rfl rfl h
  · cases e
theorem shaped_dict {l : List (PyData × PyData)} : ¬ SeqAt.shaped (.dict l) = true := by
  intro h
  have := SeqAt.canLay_of_shaped h
  cases this
mutual
theorem Rep.dp {F H : Hp} (l : Le F H) : ∀ (d : D) (v : V), d.py.canLay0 = true → Rep K F d v → Dp K H v d.py
  | .non, v, _, h => by have h' : v = .non := h; subst h'; exact .non
  | .bl b, v, _, h => by have h' : v = .bl b := h; subst h'; exact .bl b
  | .int i, v, _, h => by have h' : v = .int i := h; subst h'; exact .int i
  | .str s, v, _, h => by have h' : v = .str s := h; subst h'; exact .str s
  | .lst xs, v, c, ⟨a, vs, e, h, r⟩ => by subst e; exact .lst (SqL.of (l _ _ h)) (Reps.dp l xs vs c r)
  | .tup xs, v, c, ⟨a, vs, e, h, r⟩ => by subst e; exact .tup (SqT.le l h) (Reps.dp l xs vs c r)
  | .rl ns, v, c, ⟨a, e, h⟩ => by
    subst e
    refine .lst (SqL.le l h) ?_
    clear c h
    induction ns with
    | nil => exact .nil
    | cons n r ih => exact .cons (.int n) ih
  | .obj _ _, _, c, _ => by cases c
  | .dK _, _, c, _ => by cases c
  | .dT _, _, c, _ => by cases c
  | .ty _, _, c, _ => by cases c
  | .cl _, _, c, _ => by cases c
theorem Reps.dp {F H : Hp} (l : Le F H) : ∀ (d : List D) (v : List V), PyData.canLayAll0 (D.pys d) = true → Reps K F d v → DpAll K H v (D.pys d)
  | [], v, _, h => by have h' : v = [] := h; subst h'; exact .nil
  | x :: xs, v, c, ⟨u, ws, e, h, r⟩ => by
    subst e
    obtain ⟨c1, c2⟩ := Bool.and_eq_true_iff.mp (show (x.py.canLay0 && PyData.canLayAll0 (D.pys xs)) = true from c)
    exact .cons (Rep.dp l x u c1 h) (Reps.dp l xs ws c2 r)
end
mutual
theorem RM.hh {F H : Hp} (l : Le F H) : ∀ (m : M) (v : V) (fp : List Addr), RM K F H m v fp → Rep K H m.toD v
  | .d x, v, _, ⟨_, r⟩ => Rep.le l x v r
  | .ol xs, _, _, ⟨a, vs, e, _, h, r⟩ => ⟨a, vs, e, h, Reps.le l xs vs r⟩
  | .odK xs, _, _, ⟨a, vs, e, _, h, r⟩ => ⟨a, vs, e, h, RepK.le l xs vs r⟩
  | .odT xs, _, _, ⟨a, vs, e, _, h, r⟩ => ⟨a, vs, e, h, RepT.le l xs vs r⟩
  | .on ms, _, _, ⟨a, vs, fp', e, _, h, r⟩ => ⟨a, vs, e, h, RMs.hh l ms vs fp' r⟩
  | .oo c fs, _, _, ⟨a, dx, vs, fp', e, _, h, r⟩ => ⟨a, dx, vs, e, h, RMf.hh l fs vs fp' r⟩
theorem RMs.hh {F H : Hp} (l : Le F H) : ∀ (m : List M) (v : List V) (fp : List Addr), RMs K F H m v fp → Reps K H (M.toDs m) v
  | [], _, _, h => h.1
  | m :: ms, _, _, ⟨v, ws, f1, f2, e, _, h, r⟩ => ⟨v, ws, e, RM.hh l m v f1 h, RMs.hh l ms ws f2 r⟩
theorem RMf.hh {F H : Hp} (l : Le F H) : ∀ (m : List (Str × M)) (v : List (Str × V)) (fp : List Addr), RMf K F H m v fp → RepF K H (M.toDf m) v
  | [], _, _, h => h.1
  | (_, m) :: ms, _, _, ⟨v, ws, f1, f2, e, _, h, r⟩ => ⟨v, ws, e, RM.hh l m v f1 h, RMf.hh l ms ws f2 r⟩
end
theorem dp_at {m : M} {v : V} {F H : Hp} (l : Le F H) (r : RMr K F H m v) (c : SeqAt.shaped m.toD.py = true) : Dp K H v m.toD.py := by
  obtain ⟨s, r⟩ := r
  exact Rep.dp (Le.refl H) m.toD v (SeqAt.canLay_of_shaped c) (RM.hh l m v s r)
def rEqS (K : PySem.W.Frag) : R2 := fun x y H Q => rEq x y H Q ∨ rEqD K x y H Q
def rNeS (K : PySem.W.Frag) : R2 := fun x y H Q => rNe x y H Q ∨ rNeD K x y H Q
theorem s_eq : OpS2 K (rEqS K) gEq := by
  intro m n x y F H Q m' l rx ry e h
  unfold gEq gEqB at e
  split at e
  · rename_i i j
    cases e
    refine .inl ?_
    rw [show x = .int i from rx.dat, show y = .int j from ry.dat]
    refine ⟨rfl, ?_⟩
    have e2 : decide (V.int i = V.int j) = decide (i = j) := by simp
    rw [e2]
    exact plain_ok l h rfl
  · rename_i i j
    cases e
    refine .inl ?_
    rw [show x = .str i from rx.dat, show y = .str j from ry.dat]
    refine ⟨rfl, ?_⟩
    have e2 : decide (V.str i = V.str j) = decide (i = j) := by simp
    rw [e2]
    exact plain_ok l h rfl
  · rename_i i j
    cases e
    refine .inl ?_
    rw [show x = .bl i from rx.dat, show y = .bl j from ry.dat]
    refine ⟨rfl, ?_⟩
    have e2 : decide (V.bl i = V.bl j) = decide (i = j) := by simp
    rw [e2]
    exact plain_ok l h rfl
  · split at e
    · rename_i hz
      cases e
      exact .inr ⟨_, _, dp_at l rx hz.1, dp_at l ry hz.2, hz.1, hz.2, plain_ok l h rfl⟩
    · cases e
theorem s_ne : OpS2 K (rNeS K) gNe := by
  intro m n x y F H Q m' l rx ry e h
  unfold gNe gEqB at e
  split at e
  · rename_i i j
    cases e
    refine .inl ?_
    rw [show x = .int i from rx.dat, show y = .int j from ry.dat]
    refine ⟨rfl, ?_⟩
    have e2 : decide (V.int i = V.int j) = decide (i = j) := by simp
    rw [e2]
    exact plain_ok l h rfl
  · rename_i i j
    cases e
    refine .inl ?_
    rw [show x = .str i from rx.dat, show y = .str j from ry.dat]
    refine ⟨rfl, ?_⟩
    have e2 : decide (V.str i = V.str j) = decide (i = j) := by simp
    rw [e2]
    exact plain_ok l h rfl
  · rename_i i j
    cases e
    refine .inl ?_
    rw [show x = .bl i from rx.dat, show y = .bl j from ry.dat]
    refine ⟨rfl, ?_⟩
    have e2 : decide (V.bl i = V.bl j) = decide (i = j) := by simp
    rw [e2]
    exact plain_ok l h rfl
  · split at e
    · rename_i hz
      cases e
      exact .inr ⟨_, _, dp_at l rx hz.1, dp_at l ry hz.2, hz.1, hz.2, plain_ok l h rfl⟩
    · cases e
theorem non_at {m : M} {v : V} {F H : Hp} (r : RMr K F H m v) : decide (v = .non) = m.isN := by
  obtain ⟨s, r⟩ := r
  cases m with
  | d x =>
    cases x with
    | non => cases (show v = .non from r.2); rfl
    | bl b => cases (show v = .bl b from r.2); rfl
    | int b => cases (show v = .int b from r.2); rfl
    | str b => cases (show v = .str b from r.2); rfl
    | ty b => cases (show v = .ty b from r.2); rfl
    | cl c => cases (show v = .ref (He.ga K c) from r.2); rfl
    | lst _ => obtain ⟨_, a, vs, e, _⟩ := r; subst e; rfl
    | tup _ => obtain ⟨_, a, vs, e, _⟩ := r; subst e; rfl
    | rl _ => obtain ⟨_, a, e, _⟩ := r; subst e; rfl
    | obj _ _ => obtain ⟨_, a, dx, vs, e, _⟩ := r; subst e; rfl
    | dK _ => obtain ⟨_, a, vs, e, _⟩ := r; subst e; rfl
    | dT _ => obtain ⟨_, a, vs, e, _⟩ := r; subst e; rfl
  | ol _ => obtain ⟨a, vs, e, _⟩ := r; subst e; rfl
  | odK _ => obtain ⟨a, vs, e, _⟩ := r; subst e; rfl
  | odT _ => obtain ⟨a, vs, e, _⟩ := r; subst e; rfl
  | on _ => obtain ⟨a, vs, _, e, _⟩ := r; subst e; rfl
  | oo _ _ => obtain ⟨a, _, vs, _, e, _⟩ := r; subst e; rfl
def isB (v : V) (b : Bool) : Bool := match v with
  | .bl a => decide (a = b)
  | _ => false
theorem bl_at {m : M} {v : V} {F H : Hp} (b : Bool) (r : RMr K F H m v) : isB v b = m.isB b := by
  obtain ⟨s, r⟩ := r
  cases m with
  | d x =>
    cases x with
    | non => cases (show v = .non from r.2); rfl
    | bl b => cases (show v = .bl b from r.2); rfl
    | int b => cases (show v = .int b from r.2); rfl
    | str b => cases (show v = .str b from r.2); rfl
    | ty b => cases (show v = .ty b from r.2); rfl
    | cl c => cases (show v = .ref (He.ga K c) from r.2); rfl
    | lst _ => obtain ⟨_, a, vs, e, _⟩ := r; subst e; rfl
    | tup _ => obtain ⟨_, a, vs, e, _⟩ := r; subst e; rfl
    | rl _ => obtain ⟨_, a, e, _⟩ := r; subst e; rfl
    | obj _ _ => obtain ⟨_, a, dx, vs, e, _⟩ := r; subst e; rfl
    | dK _ => obtain ⟨_, a, vs, e, _⟩ := r; subst e; rfl
    | dT _ => obtain ⟨_, a, vs, e, _⟩ := r; subst e; rfl
  | ol _ => obtain ⟨a, vs, e, _⟩ := r; subst e; rfl
  | odK _ => obtain ⟨a, vs, e, _⟩ := r; subst e; rfl
  | odT _ => obtain ⟨a, vs, e, _⟩ := r; subst e; rfl
  | on _ => obtain ⟨a, vs, _, e, _⟩ := r; subst e; rfl
  | oo _ _ => obtain ⟨a, _, vs, _, e, _⟩ := r; subst e; rfl
def rIsNB (neg : Bool) : R2 := fun x y H Q => (y = .non ∧ Q (.bl (if neg then !decide (x = .non) else decide (x = .non))) H) ∨ ∃ b, y = .bl b ∧ Q (.bl (if neg then !isB x b else isB x b)) H
theorem op_isNB {X : Cx} : OpR X (compareOp .Is) (rIsNB false) := by
  intro pins s σ H x y v u Q I rx ry h
  rcases h with ⟨rfl, q⟩ | ⟨b, rfl, q⟩
  · exact op_isN pins s σ H x _ v u Q I rx ry ⟨rfl, q⟩
  · cases (show u = Value.bool b from ry)
    cases x with
    | bl a =>
      cases (show v = Value.bool a from rx)
      by_cases e : a = b
      · subst e
        refine wpAny_is_self rfl ⟨.bl true, H, I, rfl, ?_⟩
        simpa [isB] using q
      · refine wpAny_is_other rfl (fun z => e (Value.bool.inj z)) ⟨.bl false, H, I, rfl, ?_⟩
        simpa [isB, e] using q
    | int i => obtain ⟨t, rfl⟩ := (show ∃ t, v = Value.int i t from rx); exact wpAny_is_other rfl (fun z => nomatch z) ⟨.bl false, H, I, rfl, q⟩
    | str i => obtain ⟨t, rfl⟩ := (show ∃ t, v = Value.str i t from rx); exact wpAny_is_other rfl (fun z => nomatch z) ⟨.bl false, H, I, rfl, q⟩
    | byt i => obtain ⟨t, rfl⟩ := (show ∃ t, v = Value.bytes i t from rx); exact wpAny_is_other rfl (fun z => nomatch z) ⟨.bl false, H, I, rfl, q⟩
    | flt i => obtain ⟨t, rfl⟩ := (show ∃ t, v = Value.float i t from rx); exact wpAny_is_other rfl (fun z => nomatch z) ⟨.bl false, H, I, rfl, q⟩
    | non => cases (show v = Value.none from rx); exact wpAny_is_other rfl (fun z => nomatch z) ⟨.bl false, H, I, rfl, q⟩
    | ref a => cases (show v = Value.ref a from rx); exact wpAny_is_other rfl (fun z => nomatch z) ⟨.bl false, H, I, rfl, q⟩
    | ty a => cases (show v = Value.type a from rx); exact wpAny_is_other rfl (fun z => nomatch z) ⟨.bl false, H, I, rfl, q⟩
theorem op_isNotNB {X : Cx} : OpR X (compareOp .IsNot) (rIsNB true) := by
  intro pins s σ H x y v u Q I rx ry h
  rcases h with ⟨rfl, q⟩ | ⟨b, rfl, q⟩
  · exact op_notN pins s σ H x _ v u Q I rx ry ⟨rfl, q⟩
  · cases (show u = Value.bool b from ry)
    cases x with
    | bl a =>
      cases (show v = Value.bool a from rx)
      by_cases e : a = b
      · subst e
        refine wpAny_isNot_self rfl ⟨.bl false, H, I, rfl, ?_⟩
        simpa [isB] using q
      · refine wpAny_isNot_other rfl (fun z => e (Value.bool.inj z)) ⟨.bl true, H, I, rfl, ?_⟩
        simpa [isB, e] using q
    | int i => obtain ⟨t, rfl⟩ := (show ∃ t, v = Value.int i t from rx); exact wpAny_isNot_other rfl (fun z => nomatch z) ⟨.bl true, H, I, rfl, q⟩
    | str i => obtain ⟨t, rfl⟩ := (show ∃ t, v = Value.str i t from rx); exact wpAny_isNot_other rfl (fun z => nomatch z) ⟨.bl true, H, I, rfl, q⟩
    | byt i => obtain ⟨t, rfl⟩ := (show ∃ t, v = Value.bytes i t from rx); exact wpAny_isNot_other rfl (fun z => nomatch z) ⟨.bl true, H, I, rfl, q⟩
    | flt i => obtain ⟨t, rfl⟩ := (show ∃ t, v = Value.float i t from rx); exact wpAny_isNot_other rfl (fun z => nomatch z) ⟨.bl true, H, I, rfl, q⟩
    | non => cases (show v = Value.none from rx); exact wpAny_isNot_other rfl (fun z => nomatch z) ⟨.bl true, H, I, rfl, q⟩
    | ref a => cases (show v = Value.ref a from rx); exact wpAny_isNot_other rfl (fun z => nomatch z) ⟨.bl true, H, I, rfl, q⟩
    | ty a => cases (show v = Value.type a from rx); exact wpAny_isNot_other rfl (fun z => nomatch z) ⟨.bl true, H, I, rfl, q⟩
theorem s_is : OpS2 K (rIsNB false) gIs := by
  intro m n x y F H Q m' l rx ry e h
  unfold gIs at e
  split at e
  · cases e
    refine .inl ⟨ry.dat, ?_⟩
    show Q (.bl (decide (x = .non))) H
    rw [non_at rx]
    exact plain_ok l h rfl
  · rename_i b
    cases e
    refine .inr ⟨b, ry.dat, ?_⟩
    show Q (.bl (isB x b)) H
    rw [bl_at b rx]
    exact plain_ok l h rfl
  · cases e
theorem s_isnot : OpS2 K (rIsNB true) gIsNot := by
  intro m n x y F H Q m' l rx ry e h
  unfold gIsNot gIs at e
  split at e
  · rename_i b0 q0
    cases e
    split at q0
    · cases q0
      refine .inl ⟨ry.dat, ?_⟩
      show Q (.bl (!decide (x = .non))) H
      rw [non_at rx]
      exact plain_ok l h rfl
    · rename_i b
      cases q0
      refine .inr ⟨b, ry.dat, ?_⟩
      show Q (.bl (!isB x b)) H
      rw [bl_at b rx]
      exact plain_ok l h rfl
    · cases q0
  · cases e
def rInS2 (K : PySem.W.Frag) : R2 := fun x y H Q => rInD K x y H Q ∨ rIn K false x y H Q
def rNotInS2 (K : PySem.W.Frag) : R2 := fun x y H Q => rNotInD K x y H Q ∨ rIn K true x y H Q
theorem all_flat : ∀ ns : List Int, (ns.map V.int).all flatV = true
  | [] => rfl
  | n :: r => by
    show (true && (r.map V.int).all flatV) = true
    rw [all_flat r]
    rfl
theorem inV_int (i : Int) : ∀ ns : List Int, inV (.int i) (ns.map V.int) = decide (i ∈ ns)
  | [] => by simp [inV]
  | n :: r => by
    have ih := inV_int i r
    show (eqV (.int n) (.int i) || inV (.int i) (r.map V.int)) = decide (i ∈ n :: r)
    rw [ih]
    show ((n == i) || decide (i ∈ r)) = decide (i ∈ n :: r)
    by_cases h : n = i
    · subst h; simp
    · have h' : ¬ i = n := fun z => h z.symm
      have h2 : (n == i) = false := by simpa using h
      simp [h', h2]
theorem s_in : OpS2 K (rInS2 K) gIn := by
  intro m n x y F H Q m' l rx ry e h
  unfold gIn gInB at e
  split at e
  · rename_i xs q1
    split at e
    · rename_i hz
      cases e
      obtain ⟨a, vs, e2, h2, r2⟩ := lst_at l ry q1
      refine .inl ⟨_, _, dp_at l rx hz.1, ?_, hz.1, hz.2, plain_ok l h rfl⟩
      subst e2
      exact .lst (SqL.of h2) (Reps.dp l xs vs (show PyData.canLayAll0 (D.pys xs) = true from SeqAt.canLay_of_shaped hz.2) r2)
    · cases e
  · split at e
    · rename_i xs q2
      split at e
      · rename_i i ns q3
        cases e
        obtain ⟨a, vs, e2, h2, r2⟩ := tup_at l ry q2
        have e3 := ints_eq q3
        subst e3
        have e4 := reps_ints r2
        subst e4
        have e5 : x = .int i := rx.dat
        subst e5
        refine .inr ⟨a, _, e2, .inr h2, rfl, all_flat ns, ?_⟩
        show Q (.bl (inV (.int i) (ns.map V.int))) H
        rw [inV_int]
        exact plain_ok l h rfl
      · cases e
    · cases e
theorem s_notin : OpS2 K (rNotInS2 K) gNotIn := by
  intro m n x y F H Q m' l rx ry e h
  unfold gNotIn gInB at e
  split at e
  · rename_i xs q1
    split at e
    · rename_i hz
      cases e
      obtain ⟨a, vs, e2, h2, r2⟩ := lst_at l ry q1
      refine .inl ⟨_, _, dp_at l rx hz.1, ?_, hz.1, hz.2, plain_ok l h rfl⟩
      subst e2
      exact .lst (SqL.of h2) (Reps.dp l xs vs (show PyData.canLayAll0 (D.pys xs) = true from SeqAt.canLay_of_shaped hz.2) r2)
    · cases e
  · split at e
    · rename_i xs q2
      split at e
      · rename_i i ns q3
        cases e
        obtain ⟨a, vs, e2, h2, r2⟩ := tup_at l ry q2
        have e3 := ints_eq q3
        subst e3
        have e4 := reps_ints r2
        subst e4
        have e5 : x = .int i := rx.dat
        subst e5
        refine .inr ⟨a, _, e2, .inr h2, rfl, all_flat ns, ?_⟩
        show Q (.bl (!inV (.int i) (ns.map V.int))) H
        rw [inV_int]
        exact plain_ok l h rfl
      · cases e
    · cases e
end
end FL
namespace FL
open PySem PySem.Spec PyProof.Rows L2
/-! ### len, int, abs, min, max, sum, list, tuple, sorted -/
def M.len? : M → Option Nat
  | .d (.lst xs) => some xs.length
  | .d (.tup xs) => some xs.length
  | .d (.rl xs) => some xs.length
  | .d (.dK xs) => some xs.length
  | .d (.dT xs) => some xs.length
  | .d (.str s) => if s.length ≤ lim then some s.length else none
  | .ol xs => some xs.length
  | .odK xs => some xs.length
  | .odT xs => some xs.length
  | .on xs => some xs.length
  | _ => none
def gLen : List M → Option M
  | [m] => m.len?.map fun n => .d (.int (n : Int))
  | _ => none
def gInt : List M → Option M
  | [.d (.int i)] => some (.d (.int i))
  | [.d (.bl b)] => some (.d (.int (if b then 1 else 0)))
  | _ => none
def gAbs : List M → Option M
  | [.d (.int i)] => some (.d (.int (if i < 0 then -i else i)))
  | _ => none
def gMax2 : List M → Option M
  | [.d (.int i), .d (.int j)] => some (.d (.int (if j > i then j else i)))
  | _ => none
def gMin2 : List M → Option M
  | [.d (.int i), .d (.int j)] => some (.d (.int (if j < i then j else i)))
  | _ => none
def M.intsL? (m : M) : Option (List Int) := match m.seq? with
  | some xs => ints? xs
  | none => none
def gSum : List M → Option M
  | [m] => m.intsL?.map fun ns => .d (.int ns.sum)
  | _ => none
/-- the least, the greatest of a list of ints -/
def minL : List Int → Int
  | [] => 0
  | [x] => x
  | x :: y :: r => min x (minL (y :: r))
def maxL : List Int → Int
  | [] => 0
  | [x] => x
  | x :: y :: r => max x (maxL (y :: r))
def M.intsLL? (m : M) : Option (List Int) := match m.lst? with
  | some xs => ints? xs
  | none => none
def gMin1 : List M → Option M
  | [m] => match m.intsLL? with
    | some ns => if 0 < ns.length then some (.d (.int (minL ns))) else none
    | none => none
  | _ => none
def gMax1 : List M → Option M
  | [m] => match m.intsLL? with
    | some ns => if 0 < ns.length then some (.d (.int (maxL ns))) else none
    | none => none
  | _ => none
def gList : List M → Option M
  | [m] => m.seq?.map .ol
  | _ => none
def M.lseq? : M → Option (List D)
  | .d (.lst xs) => some xs
  | .d (.rl ns) => some (ns.map .int)
  | .ol xs => some xs
  | _ => none
def gTuple : List M → Option M
  | [.d (.tup xs)] => some (.d (.tup xs))
  | [m] => m.lseq?.map fun xs => .d (.tup xs)
  | _ => none
def sortI (ns : List Int) : List Int := ns.mergeSort (fun x y => decide (x ≤ y))
theorem sortI_perm (ns : List Int) : (sortI ns).Perm ns := List.mergeSort_perm ns _
theorem sortI_sorted (ns : List Int) : (sortI ns).Pairwise (· ≤ ·) := by
  have h := List.pairwise_mergeSort (le := fun x y : Int => decide (x ≤ y)) (fun a b c h1 h2 => by simp only [decide_eq_true_eq] at *; omega) (fun a b => by simp only [Bool.or_eq_true, decide_eq_true_eq]; omega) ns
  exact h.imp fun h => of_decide_eq_true h
def gSorted : List M → Option M
  | [m] => m.intsLL?.map fun ns => .ol ((sortI ns).map D.int)
  | _ => none
theorem minL_mem : ∀ {ns : List Int}, 0 < ns.length → minL ns ∈ ns
  | [x], _ => by simp [minL]
  | x :: y :: r, _ => by
    have ih := minL_mem (ns := y :: r) (by simp)
    show min x (minL (y :: r)) ∈ x :: y :: r
    rcases Int.le_total x (minL (y :: r)) with h | h
    · rw [Int.min_eq_left h]; exact List.mem_cons_self
    · rw [Int.min_eq_right h]; exact List.mem_cons_of_mem _ ih
theorem minL_le : ∀ {ns : List Int} {z : Int}, z ∈ ns → minL ns ≤ z
  | [x], z, h => by simp at h; subst h; exact Int.le_refl _
  | x :: y :: r, z, h => by
    show min x (minL (y :: r)) ≤ z
    rcases List.mem_cons.mp h with h | h
    · subst h; exact Int.min_le_left _ _
    · exact Int.le_trans (Int.min_le_right _ _) (minL_le (ns := y :: r) h)
theorem maxL_mem : ∀ {ns : List Int}, 0 < ns.length → maxL ns ∈ ns
  | [x], _ => by simp [maxL]
  | x :: y :: r, _ => by
    have ih := maxL_mem (ns := y :: r) (by simp)
    show max x (maxL (y :: r)) ∈ x :: y :: r
    rcases Int.le_total x (maxL (y :: r)) with h | h
    · rw [Int.max_eq_right h]; exact List.mem_cons_of_mem _ ih
    · rw [Int.max_eq_left h]; exact List.mem_cons_self
theorem le_maxL : ∀ {ns : List Int} {z : Int}, z ∈ ns → z ≤ maxL ns
  | [x], z, h => by simp at h; subst h; exact Int.le_refl _
  | x :: y :: r, z, h => by
    show z ≤ max x (maxL (y :: r))
    rcases List.mem_cons.mp h with h | h
    · subst h; exact Int.le_max_left _ _
    · exact Int.le_trans (le_maxL (ns := y :: r) h) (Int.le_max_right _ _)
section
variable {K : PySem.W.Frag} {F H : Hp}
theorem rms1 {ms : List M} {vs : List V} {m : M} (h : RMrs K F H ms vs) (e : ms = [m]) : ∃ v, vs = [v] ∧ RMr K F H m v := by
  subst e
  obtain ⟨v, ws, e, r, r2⟩ := h
  have e2 : ws = [] := r2
  subst e2
  exact ⟨v, e, r⟩
theorem rms2 {ms : List M} {vs : List V} {m n : M} (h : RMrs K F H ms vs) (e : ms = [m, n]) : ∃ v u, vs = [v, u] ∧ RMr K F H m v ∧ RMr K F H n u := by
  subst e
  obtain ⟨v, ws, e, r, u, xs, e2, r2, r3⟩ := h
  have e3 : xs = [] := r3
  subst e3
  subst e2
  exact ⟨v, u, e, r, r2⟩
theorem repK_len : ∀ {fs : List (Key × D)} {vs : List (Key × V)}, RepK K F fs vs → vs.length = fs.length
  | [], _, h => by rw [show _ = [] from h]; rfl
  | (k, x) :: fs, _, ⟨v, ws, e, _, r⟩ => by rw [e, List.length_cons, List.length_cons, repK_len r]
theorem repT_len : ∀ {fs : List (List Key × D)} {vs : List (List Key × V)}, RepT K F fs vs → vs.length = fs.length
  | [], _, h => by rw [show _ = [] from h]; rfl
  | (k, x) :: fs, _, ⟨v, ws, e, _, r⟩ => by rw [e, List.length_cons, List.length_cons, repT_len r]
theorem rms_len : ∀ {ms : List M} {vs : List V} {fp : List Addr}, RMs K F H ms vs fp → vs.length = ms.length
  | [], _, _, h => by rw [h.1]; rfl
  | m :: ms, _, _, ⟨v, ws, f1, f2, e, _, _, r⟩ => by rw [e, List.length_cons, List.length_cons, rms_len r]
def rLenS (K : PySem.W.Frag) : List V → Hp → VK → Prop := fun xs H Q =>
  (∃ p ys, xs = [.ref p] ∧ (SqL K H p ys ∨ SqT K H p ys) ∧ Q (.int ys.length) H) ∨ ((∃ z, xs = [.str z] ∧ z.length ≤ sizeLine ∧ Q (.int z.length) H) ∨ ((∃ a kvs, xs = [V.ref a] ∧ H a = some (.dK kvs) ∧ Q (.int kvs.length) H) ∨ rLenT xs H Q))
theorem c_len {X : Cx} : CallR X (.builtin "len") (rLenS X.K) := CallR.or call_len_seq (CallR.or call_len_str (CallR.or call_lenD call_len_dT))
theorem s_len : OpS K (rLenS K) gLen := by
  intro ms vs F H Q m' l rs e h
  unfold gLen at e
  split at e
  · rename_i m
    obtain ⟨v, rfl, r⟩ := rms1 rs rfl
    cases q : m.len? with
    | none => rw [q] at e; cases e
    | some n =>
      rw [q] at e
      cases e
      unfold M.len? at q
      split at q
      · cases q
        obtain ⟨a, ws, e, h1, r1⟩ := seq_at l r rfl
        refine .inl ⟨a, ws, by rw [e], h1, ?_⟩
        rw [r1.length]
        exact plain_ok l h rfl
      · cases q
        obtain ⟨a, ws, e, h1, r1⟩ := seq_at l r rfl
        refine .inl ⟨a, ws, by rw [e], h1, ?_⟩
        rw [r1.length]
        exact plain_ok l h rfl
      · cases q
        obtain ⟨a, ws, e, h1, r1⟩ := seq_at l r rfl
        refine .inl ⟨a, ws, by rw [e], h1, ?_⟩
        rw [r1.length, List.length_map]
        exact plain_ok l h rfl
      · cases q
        obtain ⟨s, _, a, ws, e, h1, r1⟩ := r
        refine .inr (.inr (.inl ⟨a, ws, by rw [e], l _ _ h1, ?_⟩))
        rw [repK_len r1]
        exact plain_ok l h rfl
      · cases q
        obtain ⟨s, _, a, ws, e, h1, r1⟩ := r
        refine .inr (.inr (.inr ⟨a, ws, by rw [e], l _ _ h1, ?_⟩))
        rw [repT_len r1]
        exact plain_ok l h rfl
      · rename_i z
        split at q
        · rename_i hz
          cases q
          refine .inr (.inl ⟨z, by rw [show v = .str z from r.dat], by rw [← lim_eq]; exact hz, plain_ok l h rfl⟩)
        · cases q
      · cases q
        obtain ⟨a, ws, e, h1, r1⟩ := seq_at l r rfl
        refine .inl ⟨a, ws, by rw [e], h1, ?_⟩
        rw [r1.length]
        exact plain_ok l h rfl
      · cases q
        obtain ⟨s, a, ws, e, _, h1, r1⟩ := r
        refine .inr (.inr (.inl ⟨a, ws, by rw [e], h1, ?_⟩))
        rw [repK_len r1]
        exact plain_ok l h rfl
      · cases q
        obtain ⟨s, a, ws, e, _, h1, r1⟩ := r
        refine .inr (.inr (.inr ⟨a, ws, by rw [e], h1, ?_⟩))
        rw [repT_len r1]
        exact plain_ok l h rfl
      · cases q
        obtain ⟨s, a, ws, fp', e, _, h1, r1⟩ := r
        refine .inl ⟨a, ws, by rw [e], .inl (SqL.of h1), ?_⟩
        rw [rms_len r1]
        exact plain_ok l h rfl
      · cases q
  · cases e
theorem s_int : OpS K (fun xs H Q => (∃ i, xs = [.int i] ∧ Q (.int i) H) ∨ ∃ k, xs = [.bl k] ∧ Q (.int (if k then 1 else 0)) H) gInt := by
  intro ms vs F H Q m' l rs e h
  unfold gInt at e
  split at e
  · cases e
    obtain ⟨v, rfl, r⟩ := rms1 rs rfl
    exact .inl ⟨_, by rw [show v = _ from r.dat], plain_ok l h rfl⟩
  · cases e
    obtain ⟨v, rfl, r⟩ := rms1 rs rfl
    exact .inr ⟨_, by rw [show v = _ from r.dat], plain_ok l h rfl⟩
  · cases e
theorem s_abs : OpS K (fun xs H Q => ∃ i, xs = [.int i] ∧ Q (.int (if i < 0 then -i else i)) H) gAbs := by
  intro ms vs F H Q m' l rs e h
  unfold gAbs at e
  split at e
  · cases e
    obtain ⟨v, rfl, r⟩ := rms1 rs rfl
    exact ⟨_, by rw [show v = _ from r.dat], plain_ok l h rfl⟩
  · cases e
theorem s_max2 : OpS K (fun xs H Q => ∃ i j, xs = [.int i, .int j] ∧ Q (.int (if j > i then j else i)) H) gMax2 := by
  intro ms vs F H Q m' l rs e h
  unfold gMax2 at e
  split at e
  · cases e
    obtain ⟨v, u, rfl, r, r2⟩ := rms2 rs rfl
    exact ⟨_, _, by rw [show v = _ from r.dat, show u = _ from r2.dat], plain_ok l h rfl⟩
  · cases e
theorem s_min2 : OpS K (fun xs H Q => ∃ i j, xs = [.int i, .int j] ∧ Q (.int (if j < i then j else i)) H) gMin2 := by
  intro ms vs F H Q m' l rs e h
  unfold gMin2 at e
  split at e
  · cases e
    obtain ⟨v, u, rfl, r, r2⟩ := rms2 rs rfl
    exact ⟨_, _, by rw [show v = _ from r.dat, show u = _ from r2.dat], plain_ok l h rfl⟩
  · cases e
theorem intsL_at {m : M} {v : V} {ns : List Int} (l : Le F H) (r : RMr K F H m v) (e : m.intsL? = some ns) : ∃ a, v = .ref a ∧ (SqL K H a (ns.map V.int) ∨ SqT K H a (ns.map V.int)) := by
  unfold M.intsL? at e
  split at e
  · rename_i xs q
    obtain ⟨a, vs, e2, h2, r2⟩ := seq_at l r q
    have e3 := ints_eq e
    subst e3
    have e4 := reps_ints r2
    subst e4
    exact ⟨a, e2, h2⟩
  · cases e
theorem intsLL_at {m : M} {v : V} {ns : List Int} (l : Le F H) (r : RMr K F H m v) (e : m.intsLL? = some ns) : ∃ a, v = .ref a ∧ H a = some (.lst (ns.map V.int)) := by
  unfold M.intsLL? at e
  split at e
  · rename_i xs q
    obtain ⟨a, vs, e2, h2, r2⟩ := lst_at l r q
    have e3 := ints_eq e
    subst e3
    have e4 := reps_ints r2
    subst e4
    exact ⟨a, e2, h2⟩
  · cases e
/-- sum(t), t a tuple of ints -/
theorem preSum_list (ns : List Int) : ∀ k, preSum (fun i => ns.getD i 0) k = (ns.take k).sum
  | 0 => by simp [preSum]
  | k + 1 => by
    show preSum (fun i => ns.getD i 0) k + ns.getD k 0 = _
    rw [preSum_list ns k]
    by_cases h : k < ns.length
    · rw [List.take_succ_eq_append_getElem h, List.sum_append, List.getD_eq_getElem?_getD, List.getElem?_eq_getElem h]
      simp
    · have h' : ns.length ≤ k := by omega
      rw [List.take_of_length_le h', List.take_of_length_le (by omega), List.getD_eq_getElem?_getD, List.getElem?_eq_none h']
      simp
def rSumT (K : PySem.W.Frag) : List V → Hp → VK → Prop := fun vs H Q => ∃ (a : Addr) (ns : List Int), vs = [V.ref a] ∧ SqT K H a (ns.map V.int) ∧ Q (.int ns.sum) H
theorem cr_sumT {X : Cx} (hc : X.calm = true) : CallR X (.builtin "sum") (rSumT X.K) := by
  intro pins s σ H vs us Q I r h
  obtain ⟨a, ns, rfl, hs, q⟩ := h
  obtain ⟨its, rv, ht, _⟩ := I.tuple hs
  rw [Vals.ref1 r]
  have hi := rv.ints
  refine call_sum_walkAnyS (PySem.W.iter_tupleW (I.ok.hd hc) ht fun s₂ e W st hfp hold hk => ?_)
  refine ⟨_, _, _, _, _, _, _, fun i => ns.getD i 0, rfl, W, st, hfp, fun i v hv => ?_, fun s' t' m => ?_⟩
  · have hv' : its[i]? = some v := by simpa using hv
    have hlt : i < ns.length := by
      have h1 := (List.getElem?_eq_some_iff.mp hv').1
      rw [← rv.length, List.length_map] at h1
      exact h1
    obtain ⟨u, hu, t, ru⟩ := rv.get (i := i) (x := .int (ns.getD i 0)) (by simp [List.getD_eq_getElem?_getD, hlt])
    rw [hv'] at hu
    exact ⟨t, (Option.some.inj hu).trans ru⟩
  · obtain ⟨h', tk, e', k⟩ := PySem.W.moved_old e rfl m
    subst e'
    refine ⟨.int _, H, I.kept (t' := tk) k, ⟨_, rfl⟩, ?_⟩
    rw [preSum_list]
    have hl : its.toArray.size = ns.length := by
      rw [List.size_toArray, ← rv.length, List.length_map]
    rw [hl, List.take_length]
    exact q
def rSumS (K : PySem.W.Frag) : List V → Hp → VK → Prop := fun vs H Q => rSum K vs H Q ∨ rSumT K vs H Q
theorem s_sum : OpS K (rSumS K) gSum := by
  intro ms vs F H Q m' l rs e h
  unfold gSum at e
  split at e
  · rename_i m
    obtain ⟨v, rfl, r⟩ := rms1 rs rfl
    cases q : m.intsL? with
    | none => rw [q] at e; cases e
    | some ns =>
      rw [q] at e
      cases e
      obtain ⟨a, rfl, h1⟩ := intsL_at l r q
      rcases h1 with h1 | h1
      · exact .inl ⟨a, ns, rfl, h1, plain_ok l h rfl⟩
      · exact .inr ⟨a, ns, rfl, h1, plain_ok l h rfl⟩
  · cases e
theorem s_min1 : OpS K (rMin K) gMin1 := by
  intro ms vs F H Q m' l rs e h
  unfold gMin1 at e
  split at e
  · rename_i m
    obtain ⟨v, rfl, r⟩ := rms1 rs rfl
    cases q : m.intsLL? with
    | none => rw [q] at e; cases e
    | some ns =>
      rw [q] at e
      simp only at e
      split at e
      · rename_i hz
        cases e
        obtain ⟨a, rfl, h1⟩ := intsLL_at l r q
        refine ⟨a, ns, rfl, SqL.of h1, hz, fun m hm hle => ?_⟩
        have e2 : m = minL ns := Int.le_antisymm (hle _ (minL_mem hz)) (minL_le hm)
        subst e2
        exact plain_ok l h rfl
      · cases e
  · cases e
theorem s_max1 : OpS K (rMax K) gMax1 := by
  intro ms vs F H Q m' l rs e h
  unfold gMax1 at e
  split at e
  · rename_i m
    obtain ⟨v, rfl, r⟩ := rms1 rs rfl
    cases q : m.intsLL? with
    | none => rw [q] at e; cases e
    | some ns =>
      rw [q] at e
      simp only at e
      split at e
      · rename_i hz
        cases e
        obtain ⟨a, rfl, h1⟩ := intsLL_at l r q
        refine ⟨a, ns, rfl, SqL.of h1, hz, fun m hm hle => ?_⟩
        have e2 : m = maxL ns := Int.le_antisymm (le_maxL hm) (hle _ (maxL_mem hz))
        subst e2
        exact plain_ok l h rfl
      · cases e
  · cases e
theorem s_list : OpS K (fun xs H Q => ∃ p ys, xs = [.ref p] ∧ (SqL K H p ys ∨ SqT K H p ys) ∧ ∀ l, H l = none → Q (.ref l) (upd H l (.lst ys))) gList := by
  intro ms vs F H Q m' l rs e h
  unfold gList at e
  split at e
  · rename_i m
    obtain ⟨v, rfl, r⟩ := rms1 rs rfl
    cases q : m.seq? with
    | none => rw [q] at e; cases e
    | some xs =>
      rw [q] at e
      cases e
      obtain ⟨a, ws, e2, h2, r2⟩ := seq_at l r q
      subst e2
      exact ⟨a, ws, rfl, h2, new_ok l h r2⟩
  · cases e
theorem lseq_at {m : M} {v : V} {xs : List D} (l : Le F H) (r : RMr K F H m v) (e : m.lseq? = some xs) : ∃ a vs, v = .ref a ∧ SqL K H a vs ∧ Reps K F xs vs := by
  cases m with
  | d x =>
    cases x with
    | lst ys =>
      cases e
      obtain ⟨a, vs, e, h, q⟩ := lst_at l r rfl
      exact ⟨a, vs, e, SqL.of h, q⟩
    | rl ns =>
      cases e
      obtain ⟨s, _, a, e, h⟩ := r
      exact ⟨a, _, e, SqL.le l h, ints_reps ns⟩
    | _ => cases e
  | ol ys =>
    cases e
    obtain ⟨a, vs, e, h, q⟩ := lst_at l r rfl
    exact ⟨a, vs, e, SqL.of h, q⟩
  | _ => cases e
theorem s_tuple : OpS K (fun xs H Q => ∃ p ys, xs = [.ref p] ∧ ((SqL K H p ys ∧ ∀ l, H l = none → Q (.ref l) (upd H l (.tup ys))) ∨ (SqT K H p ys ∧ Q (.ref p) H))) gTuple := by
  intro ms vs F H Q m' l rs e h
  unfold gTuple at e
  split at e
  · obtain ⟨v, rfl, r⟩ := rms1 rs rfl
    cases e
    obtain ⟨a, ws, e2, h2, r2⟩ := tup_at l r rfl
    subst e2
    exact ⟨a, ws, rfl, .inr ⟨h2, plain_ok l h r.dat⟩⟩
  · rename_i m _
    obtain ⟨v, rfl, r⟩ := rms1 rs rfl
    cases q : m.lseq? with
    | none => rw [q] at e; cases e
    | some xs =>
      rw [q] at e
      cases e
      obtain ⟨a, ws, e2, h2, r2⟩ := lseq_at l r q
      subst e2
      exact ⟨a, ws, rfl, .inl ⟨h2, newT_ok l h r2⟩⟩
  · cases e
theorem s_sorted : OpS K (rSortedI K) gSorted := by
  intro ms vs F H Q m' l rs e h
  unfold gSorted at e
  split at e
  · rename_i m
    obtain ⟨v, rfl, r⟩ := rms1 rs rfl
    cases q : m.intsLL? with
    | none => rw [q] at e; cases e
    | some ns =>
      rw [q] at e
      cases e
      obtain ⟨a, rfl, h1⟩ := intsLL_at l r q
      refine ⟨a, ns, rfl, SqL.of h1, fun ns' p hp hs hn => ?_⟩
      have e2 : ns' = sortI ns := PySem.W.ksm_same (hp.trans (sortI_perm ns).symm) hs (sortI_sorted ns)
      subst e2
      exact new_ok l h (ints_reps _) p hn
  · cases e
end
end FL
namespace FL
open PySem PySem.Spec PyProof.Rows L2
/-! ### subscripts, slices -/
def gIx (m n : M) : Option M := match n with
  | .d (.int i) => match m with
    | .d (.str s) => if s.length ≤ lim then (atI s.cps.toList i).map fun c => .d (.str ⟨#[c]⟩) else none
    | m => match m.seq? with
      | some xs => (atI xs i).map .d
      | none => none
  | _ => none
def cutD (xs : List D) (lo hi : Option Int) : List D := (xs.drop (HT.sIx xs.length 0 lo)).take (HT.sIx xs.length xs.length hi - HT.sIx xs.length 0 lo)
def gSl (m : M) (lo hi : Option Int) : Option M := match m with
  | .d (.str s) => if s.length ≤ lim then some (.d (.str (cutS s lo hi))) else none
  | .d (.tup xs) => some (.d (.tup (cutD xs lo hi)))
  | m => m.lseq?.map fun xs => .ol (cutD xs lo hi)
section
variable {K : PySem.W.Frag} {F H : Hp}
theorem Reps.atI {xs : List D} {vs : List V} {i : Int} {d : D} (r : Reps K F xs vs) (h : atI xs i = some d) : ∃ v, L2.atI vs i = some v ∧ Rep K F d v := by
  unfold L2.atI at h ⊢
  rw [r.length]
  cases q : ixN xs.length i with
  | none => rw [q] at h; cases h
  | some j =>
    rw [q] at h
    exact Reps.get r h
theorem Reps.cut {xs : List D} {vs : List V} (r : Reps K F xs vs) (lo hi : Option Int) : Reps K F (cutD xs lo hi) (cutV vs lo hi) := by
  unfold cutD cutV
  rw [r.length]
  exact Reps.take _ (Reps.drop _ r)
theorem s_ix : OpS2 K (rIx K) gIx := by
  intro m n x y F H Q m' l rx ry e h
  unfold gIx at e
  split at e
  · rename_i i
    split at e
    · rename_i z
      split at e
      · rename_i hz
        cases q : atI z.cps.toList i with
        | none => rw [q] at e; cases e
        | some c =>
          rw [q] at e
          cases e
          exact .inr (.inr ⟨z, i, c, rx.dat, ry.dat, by rw [← lim_eq]; exact hz, q, plain_ok l h rfl⟩)
      · cases e
    · cases q : m.seq? with
      | none => rw [q] at e; cases e
      | some xs =>
        rw [q] at e
        simp only at e
        cases q2 : atI xs i with
        | none => rw [q2] at e; cases e
        | some d =>
          rw [q2] at e
          cases e
          obtain ⟨a, vs, ex, hx, r⟩ := seq_at l rx q
          obtain ⟨v, hv, rv⟩ := r.atI q2
          rcases hx with hx | hx
          · exact .inl ⟨a, vs, i, v, ex, ry.dat, hx, hv, plain_ok l h rv⟩
          · exact .inr (.inl ⟨a, vs, i, v, ex, ry.dat, hx, hv, plain_ok l h rv⟩)
  · cases e
def rSlS2 (K : PySem.W.Frag) : V → Option Int → Option Int → Hp → VK → Prop := fun x lo hi H Q => rSlL K x lo hi H Q ∨ (rSlA K x lo hi H Q ∨ rSlS x lo hi H Q)
theorem s_sl {m m' : M} {x : V} {lo hi : Option Int} {Q : VK} (l : Le F H) (rx : RMr K F H m x) (e : gSl m lo hi = some m') (h : ∀ v F' H' s, Grow F H F' H' s → RM K F' H' m' v s → s.Nodup → Q v H') : rSlS2 K x lo hi H Q := by
  unfold gSl at e
  split at e
  · split at e
    · rename_i hz
      cases e
      exact .inr (.inr ⟨_, rx.dat, by rw [← lim_eq]; exact hz, plain_ok l h rfl⟩)
    · cases e
  · rename_i xs
    cases e
    obtain ⟨a, vs, ex, hx, r⟩ := tup_at l rx (xs := xs) rfl
    refine .inr (.inl ⟨a, vs, ex, hx, fun z => ?_, fun _ => newT_ok l h (r.cut lo hi)⟩)
    have e2 : cutD xs lo hi = xs := by
      unfold cutD
      rw [← r.length, z.1, z.2, List.drop_zero, Nat.sub_zero, r.length, List.take_length]
    rw [e2] at h
    rw [← ex]
    exact plain_ok l h rx.dat
  · cases q : m.lseq? with
    | none => rw [q] at e; cases e
    | some xs =>
      rw [q] at e
      cases e
      obtain ⟨a, vs, ex, hx, r⟩ := lseq_at l rx q
      exact .inl ⟨a, vs, ex, hx, new_ok l h (r.cut lo hi)⟩
end
theorem sl_all {X : Cx} : SlR X (rSlS2 X.K) := SlR.or sl_list (SlR.or sl_tupA sl_str)
section
variable {X : Cx} {W : WX} {e a b c : Expr} {es : List Expr} {x : Str} {p pos : Pos}
theorem fe_item {oa ob : En → Out Arg} (ha : FO X W a oa) (hb : FO X W b ob) (hs : PlainIx b := by exact fun _ _ => rfl) : FE X W (.Subscript a b pos) (eOp2 gIx oa ob) := fe_ix ix_seq s_ix ha hb hs
/-- a slice's part -/
def PostP (K : PySem.W.Frag) (W : WX) (σ : L2.St) (F H : Hp) (P : Addr → Prop) (Q : Option Int → Hp → Prop) : Out (Option Int) → Prop
  | .ok o ε' => ∀ F' H' φ', EnvOk K F' H' ε' σ φ' → Step F H P F' H' (Own φ') → Q o H'
  | .ex c fs ε' => PostX K W σ F H P c fs ε'
  | .bad => False
structure FP (X : Cx) (W : WX) (e : Option Expr) (f : En → Out (Option Int)) : Prop where
  ex : ∃ t, PO X e t ∧ ∀ ε σ F H φ Q, EnvOk X.K F H ε σ φ → PostP X.K W σ F H (Own φ) Q (f ε) → t σ H Q
def pNo (ε : En) : Out (Option Int) := .ok none ε
def pSome (oa : En → Out Arg) (ε : En) : Out (Option Int) := (oa ε).bnd fun a ε1 => match rd ε1 a with
  | some (.d (.int i)) => .ok (some i) ε1
  | _ => .bad
theorem fp_no : FP X W none pNo := ⟨_, po_none, fun ε σ F H φ Q ok h => h F H φ ok (Step.refl fun _ z => z)⟩
theorem fp_some {oa : En → Out Arg} (ha : FO X W e oa) : FP X W (some e) (pSome oa) := by
  obtain ⟨t, h1, h2⟩ := ha.ex
  refine ⟨_, po_some h1, fun ε σ F H φ Q ok h => h2 ε σ F H φ _ ok ?_⟩
  unfold pSome at h
  cases q : oa ε with
  | bad => rw [q] at h; exact h
  | ex c fs ε' => rw [q] at h; exact h
  | ok u ε1 =>
    rw [q] at h
    simp only [bnd_ok] at h
    intro v F1 H1 φ1 ok1 st1 r1
    split at h
    · rename_i i q2
      exact ⟨i, (rd_ok ok1 r1 q2).dat, h F1 H1 φ1 ok1 st1⟩
    · exact h.elim
def eSl (oa : En → Out Arg) (pl ph : En → Out (Option Int)) (ε : En) : Out M := (oa ε).bnd fun a ε1 => (pl ε1).bnd fun lo ε2 => (ph ε2).bnd fun hi ε3 => match rd ε3 a with
  | some m => optO (gSl m lo hi) ε3
  | none => .bad
theorem fe_sl {oa : En → Out Arg} {pl ph : En → Out (Option Int)} {lo hi : Option Expr} {p2 : Pos} (ha : FO X W a oa) (hl : FP X W lo pl) (hh : FP X W hi ph) : FE X W (.Subscript a (.Slice lo hi none p2) pos) (eSl oa pl ph) := by
  obtain ⟨ta, h1, h2⟩ := ha.ex
  obtain ⟨tl, h3, h4⟩ := hl.ex
  obtain ⟨th, h5, h6⟩ := hh.ex
  refine ⟨_, pe_slice sl_all h1 h3 h5, fun ε σ F H φ Q ok h => h2 ε σ F H φ _ ok ?_⟩
  unfold eSl at h
  cases q : oa ε with
  | bad => rw [q] at h; exact h
  | ex c fs ε' => rw [q] at h; exact h
  | ok u ε1 =>
    rw [q] at h
    simp only [bnd_ok] at h
    intro v F1 H1 φ1 ok1 st1 r1
    refine h4 ε1 σ F1 H1 φ1 _ ok1 ?_
    cases q2 : pl ε1 with
    | bad => rw [q2] at h; exact h
    | ex c fs ε' => rw [q2] at h; exact PostX.step st1 h
    | ok o2 ε2 =>
      rw [q2] at h
      simp only [bnd_ok] at h
      intro F2 H2 φ2 ok2 st2
      refine h6 ε2 σ F2 H2 φ2 _ ok2 ?_
      cases q3 : ph ε2 with
      | bad => rw [q3] at h; exact h
      | ex c fs ε' => rw [q3] at h; exact PostX.step (st1.trans st2) h
      | ok o3 ε3 =>
        rw [q3] at h
        simp only [bnd_ok] at h
        intro F3 H3 φ3 ok3 st3
        have r3 := ArgOk.le (st2.trans st3).f r1
        cases q4 : rd ε3 u with
        | none => rw [q4] at h; exact h.elim
        | some m =>
          rw [q4] at h
          cases q5 : gSl m o2 o3 with
          | none => simp only [q5, optO_none] at h; exact h.elim
          | some z =>
            simp only [q5, optO_some] at h
            exact s_sl ok3.sub (rd_ok ok3 r3 q4) q5 (PostE.of_op ok3 ((st1.trans st2).trans st3) h)
/-! ### displays: names that stand in them are data from then on -/
def frzV (ε : En) (i : Nat) : Option (D × En) := match ε[i]? with
  | some (some (.d x)) => some (x, ε)
  | some (some m) => some (m.toD, ε.set i (some (.d m.toD)))
  | _ => none
def resD (ε : En) : List Arg → Option (List D × En)
  | [] => some ([], ε)
  | .val d :: as => match resD ε as with
    | some (ds, ε') => some (d :: ds, ε')
    | none => none
  | .var i :: as => match frzV ε i with
    | some (x, ε1) => match resD ε1 as with
      | some (ds, ε') => some (x :: ds, ε')
      | none => none
    | none => none
end
section
variable {K : PySem.W.Frag} {F H : Hp} {ε : En} {σ : L2.St} {φ : Nat → List Addr}
/-- a slot's content is another, owned by no object -/
theorem EnvOk.setD {G : Hp} (ok : EnvOk K F H ε σ φ) {i : Nat} {m : M} {d : D} {v : V} (lg : Le F G) (gs : Le G H) (hm : ε[i]? = some (some m)) (hv : σ[i]? = some (some v)) (r : Rep K G d v) (off : ∀ j a, j ≠ i → a ∈ φ j → G a = none) :
    EnvOk K G H (ε.set i (some (.d d))) σ (fun j => if j = i then [] else φ j) where
  sub := gs
  len := by rw [List.length_set]; exact ok.len
  slot := fun j m' hj => by
    by_cases h : j = i
    · subst h
      have hlt : j < ε.length := (List.getElem?_eq_some_iff.mp hm).1
      rw [List.getElem?_set_self hlt] at hj
      cases hj
      exact ⟨v, hv, by rw [if_pos rfl], r⟩
    · rw [List.getElem?_set_ne (Ne.symm h)] at hj
      obtain ⟨u, hu, q⟩ := ok.slot j m' hj
      refine ⟨u, hu, ?_⟩
      rw [if_neg h]
      exact RM.mv lg m' u _ (fun a _ o q => q) q
  emp := fun j hj => by
    by_cases h : j = i
    · rw [if_pos h]
    · rw [if_neg h]
      refine ok.emp j fun m' q => hj m' ?_
      rw [List.getElem?_set_ne (Ne.symm h)]
      exact q
  nd := fun j => by
    by_cases h : j = i
    · rw [if_pos h]; exact List.nodup_nil
    · rw [if_neg h]; exact ok.nd j
  dj := fun j k a h1 h2 => by
    by_cases q1 : j = i
    · rw [if_pos q1] at h1; cases h1
    · by_cases q2 : k = i
      · rw [if_pos q2] at h2; cases h2
      · rw [if_neg q1] at h1; rw [if_neg q2] at h2
        exact ok.dj j k a h1 h2
  off := fun j a h1 => by
    by_cases q1 : j = i
    · rw [if_pos q1] at h1; cases h1
    · rw [if_neg q1] at h1; exact off j a q1 h1
/-- freezing a slot -/
theorem frzV_ok {P : Addr → Prop} {F0 H0 : Hp} (ok : EnvOk K F H ε σ φ) (st : Step F0 H0 P F H (Own φ)) {i : Nat} {x : D} {ε' : En} {v : V} (hv : σ[i]? = some (some v)) (e : frzV ε i = some (x, ε')) :
    ∃ G φ', EnvOk K G H ε' σ φ' ∧ Step F0 H0 P G H (Own φ') ∧ Rep K G x v ∧ Le F G := by
  unfold frzV at e
  split at e
  · rename_i y hm
    cases e
    obtain ⟨u, hu, r⟩ := ok.slot i _ hm
    rw [hv] at hu
    cases hu
    exact ⟨F, φ, ok, st, r.2, Le.refl _⟩
  · rename_i m hne hm
    cases e
    obtain ⟨u, hu, r⟩ := ok.slot i m hm
    rw [hv] at hu
    cases hu
    have of : ∀ a ∈ φ i, F a = none := ok.off i
    have lg : Le F (frzF F H (φ i)) := frz_le of
    refine ⟨frzF F H (φ i), _, ok.setD lg (frz_sub ok.sub) hm hv (frz_rep of r) (fun j a hj ha => ?_), ?_, frz_rep of r, lg⟩
    · rw [frzF_out (fun h => hj (ok.dj j i a ha h))]
      exact ok.off j a ha
    · refine st.trans { f := lg, h := fun a o _ q => q, o := fun a h => ?_, n := fun a h => ?_, t := fun a h => h }
      · obtain ⟨j, hj⟩ := h
        by_cases q : j = i
        · simp only [if_pos q] at hj; cases hj
        · simp only [if_neg q] at hj; exact .inl ⟨j, hj⟩
      · by_cases q : a ∈ φ i
        · exact .inr (.inl ⟨i, q⟩)
        · rw [frzF_out q] at h; exact .inl h
  · cases e
theorem resD_ok {P : Addr → Prop} {F0 H0 : Hp} : ∀ {as : List Arg} {F : Hp} {φ : Nat → List Addr} {ε ε' : En} {vs : List V} {ds : List D}, EnvOk K F H ε σ φ → Step F0 H0 P F H (Own φ) → ArgsOk K F σ as vs → resD ε as = some (ds, ε') →
    ∃ G φ', EnvOk K G H ε' σ φ' ∧ Step F0 H0 P G H (Own φ') ∧ Reps K G ds vs ∧ Le F G
  | [], F, φ, ε, ε', vs, ds, ok, st, h, e => by
    cases e
    exact ⟨F, φ, ok, st, h, Le.refl _⟩
  | .val d :: as, F, φ, ε, ε', vs, ds, ok, st, ⟨v, ws, ev, h, r⟩, e => by
    unfold resD at e
    split at e
    · rename_i ds' ε1 q
      cases e
      obtain ⟨G, φ', ok', st', r', l⟩ := resD_ok ok st r q
      exact ⟨G, φ', ok', st', ⟨v, ws, ev, Rep.le l d v h, r'⟩, l⟩
    · cases e
  | .var i :: as, F, φ, ε, ε', vs, ds, ok, st, ⟨v, ws, ev, h, r⟩, e => by
    unfold resD at e
    split at e
    · rename_i x ε1 q
      split at e
      · rename_i ds' ε2 q2
        cases e
        obtain ⟨G, φ', ok', st', r', l⟩ := frzV_ok ok st h q
        obtain ⟨G2, φ2, ok2, st2, r2, l2⟩ := resD_ok ok' st' (ArgsOk.le l r) q2
        exact ⟨G2, φ2, ok2, st2, ⟨v, ws, ev, Rep.le l2 x v r', r2⟩, l.trans l2⟩
      · cases e
    · cases e
end
section
variable {X : Cx} {W : WX} {e a b c : Expr} {es : List Expr} {x : Str} {p pos : Pos}
def eDisp (mk : List D → M) (fa : En → Out (List Arg)) (ε : En) : Out M := (fa ε).bnd fun as ε1 => match resD ε1 as with
  | some (ds, ε2) => if ds.length ≤ lim then .ok (mk ds) ε2 else .bad
  | none => .bad
theorem fe_disp {mk : List D → M} {fa : En → Out (List Arg)} {r : List V → Hp → VK → Prop} {e : Expr} (ha : FA X W es fa) (hpe : ∀ t, PA X es t → PE X e (fun σ H Q => t σ H fun xs H1 => xs.length ≤ sizeLine ∧ ∀ p, H1 p = none → r xs H1 Q))
    (hr : ∀ xs vs F H Q, Le F H → Reps X.K F xs vs → (∀ v F' H' s, Grow F H F' H' s → RM X.K F' H' (mk xs) v s → s.Nodup → Q v H') → ∀ p, H p = none → r vs H Q) : FE X W e (eDisp mk fa) := by
  obtain ⟨t, h1, h2⟩ := ha.ex
  refine ⟨_, hpe t h1, fun ε σ F H φ Q ok h => h2 ε σ F H φ _ ok ?_⟩
  unfold eDisp at h
  cases q : fa ε with
  | bad => rw [q] at h; exact h
  | ex c fs ε' => rw [q] at h; exact h
  | ok as ε1 =>
    rw [q] at h
    simp only [bnd_ok] at h
    intro vs F1 H1 φ1 ok1 st1 r1
    split at h
    · rename_i ds ε2 q2
      split at h
      · rename_i hz
        obtain ⟨G, φ', ok', st', r', l⟩ := resD_ok ok1 st1 r1 q2
        refine ⟨by rw [← lim_eq, r'.length]; exact hz, hr ds vs G H1 Q ok'.sub r' (PostE.of_op ok' st' h)⟩
      · exact h.elim
    · exact h.elim
end
section
variable {X : Cx} {W : WX} {e a b c : Expr} {es : List Expr} {x : Str} {p pos : Pos}
theorem fe_lst {fa : En → Out (List Arg)} (ha : FA X W es fa) : FE X W (.List es pos) (eDisp .ol fa) := by
  obtain ⟨t, h1, h2⟩ := ha.ex
  refine ⟨_, pe_lst h1, fun ε σ F H φ Q ok h => h2 ε σ F H φ _ ok ?_⟩
  unfold eDisp at h
  cases q : fa ε with
  | bad => rw [q] at h; exact h
  | ex c fs ε' => rw [q] at h; exact h
  | ok as ε1 =>
    rw [q] at h
    simp only [bnd_ok] at h
    intro vs F1 H1 φ1 ok1 st1 r1
    split at h
    · rename_i ds ε2 q2
      split at h
      · rename_i hz
        obtain ⟨G, φ', ok', st', r', l⟩ := resD_ok ok1 st1 r1 q2
        exact ⟨by rw [← lim_eq, r'.length]; exact hz, new_ok ok'.sub (PostE.of_op ok' st' h) r'⟩
      · exact h.elim
    · exact h.elim
theorem fe_tup {fa : En → Out (List Arg)} {k} (ha : FA X W es fa) : FE X W (.Tuple es k pos) (eDisp (fun ds => .d (.tup ds)) fa) := by
  obtain ⟨t, h1, h2⟩ := ha.ex
  refine ⟨_, pe_tup h1, fun ε σ F H φ Q ok h => h2 ε σ F H φ _ ok ?_⟩
  unfold eDisp at h
  cases q : fa ε with
  | bad => rw [q] at h; exact h
  | ex c fs ε' => rw [q] at h; exact h
  | ok as ε1 =>
    rw [q] at h
    simp only [bnd_ok] at h
    intro vs F1 H1 φ1 ok1 st1 r1
    split at h
    · rename_i ds ε2 q2
      split at h
      · rename_i hz
        obtain ⟨G, φ', ok', st', r', l⟩ := resD_ok ok1 st1 r1 q2
        exact ⟨by rw [← lim_eq, r'.length]; exact hz, newT_ok ok'.sub (PostE.of_op ok' st' h) r'⟩
      · exact h.elim
    · exact h.elim
/-- a name as a value: what it owns is data from then on -/
def eName (i : Nat) (ε : En) : Out M := match frzV ε i with
  | some (x, ε') => .ok (.d x) ε'
  | none => .bad
theorem fe_name (i : Nat) {x : Str} {pos : Pos} (hN : X.N[i]? = some x := by rfl) (hv : Vis X.env.scope x := by first | exact Or.inl rfl | exact Or.inr (Or.inl rfl) | exact Or.inr (Or.inr rfl)) (hd : (x == ("__debug__" : Str)) = false := by decide)
    (hcd : (x == ("__classdict__" : Str)) = false := by decide) : FE X W (.Name x pos) (eName i) := by
  refine ⟨_, pe_var hN hv hd hcd, fun ε σ F H φ Q ok h => ?_⟩
  unfold eName at h
  cases q : frzV ε i with
  | none => rw [q] at h; exact h.elim
  | some y =>
    obtain ⟨d, ε'⟩ := y
    rw [q] at h
    have hs : ∃ v, σ[i]? = some (some v) := by
      unfold frzV at q
      split at q
      · rename_i hm
        obtain ⟨u, hu, _⟩ := ok.slot i _ hm
        exact ⟨u, hu⟩
      · rename_i hm
        obtain ⟨u, hu, _⟩ := ok.slot i _ hm
        exact ⟨u, hu⟩
      · cases q
    obtain ⟨v, hv⟩ := hs
    obtain ⟨G, φ', ok', st', r', l⟩ := frzV_ok ok (Step.refl fun _ z => z) hv q
    exact ⟨v, hv, h v G H φ' [] ok' (st'.imp fun _ z => z.elim (fun z => z) (fun z => by cases z)) ⟨rfl, r'⟩ List.nodup_nil (fun _ z => by cases z)⟩
/-! ### and, or, not, if .. else; tests -/
def eAnd (f g : En → Out M) (ε : En) : Out M := (f ε).bnd fun m ε1 => match m with
  | .d (.bl true) => g ε1
  | .d (.bl false) => .ok (.d (.bl false)) ε1
  | _ => .bad
def eOr (f g : En → Out M) (ε : En) : Out M := (f ε).bnd fun m ε1 => match m with
  | .d (.bl true) => .ok (.d (.bl true)) ε1
  | .d (.bl false) => g ε1
  | _ => .bad
def eNot (f : En → Out M) (ε : En) : Out M := (f ε).bnd fun m ε1 => match m with
  | .d (.bl b) => .ok (.d (.bl (!b))) ε1
  | _ => .bad
def tVal (f : En → Out M) (ε : En) : Out Bool := (f ε).bnd fun m ε1 => match m with
  | .d (.bl b) => .ok b ε1
  | _ => .bad
def tAnd' (f g : En → Out Bool) (ε : En) : Out Bool := (f ε).bnd fun b ε1 => if b = true then g ε1 else .ok false ε1
def tOr' (f g : En → Out Bool) (ε : En) : Out Bool := (f ε).bnd fun b ε1 => if b = true then .ok true ε1 else g ε1
def tNot' (f : En → Out Bool) (ε : En) : Out Bool := (f ε).bnd fun b ε1 => .ok (!b) ε1
def eIf (t : En → Out Bool) (f g : En → Out M) (ε : En) : Out M := (t ε).bnd fun b ε1 => if b = true then f ε1 else g ε1
theorem PostE.step {K : PySem.W.Frag} {σ : L2.St} {F H F1 H1 : Hp} {P P1 : Addr → Prop} {Q : VK} {o : Out M} (st : Step F H P F1 H1 P1) (h : PostE K W σ F H P Q o) : PostE K W σ F1 H1 P1 Q o := by
  cases o with
  | ok m ε' => exact fun v F' H' φ' s ok' st' => h v F' H' φ' s ok' (st.trans st')
  | ex c fs ε' => exact PostX.step st h
  | bad => exact h
theorem PostT.step {K : PySem.W.Frag} {σ : L2.St} {F H F1 H1 : Hp} {P P1 : Addr → Prop} {Q : Bool → Hp → Prop} {o : Out Bool} (st : Step F H P F1 H1 P1) (h : PostT K W σ F H P Q o) : PostT K W σ F1 H1 P1 Q o := by
  cases o with
  | ok m ε' => exact fun F' H' φ' ok' st' => h F' H' φ' ok' (st.trans st')
  | ex c fs ε' => exact PostX.step st h
  | bad => exact h
theorem nil_own {φ : Nat → List Addr} {F H F' H' : Hp} {P : Addr → Prop} {s : List Addr} (es : s = []) (st : Step F H P F' H' (fun a => Own φ a ∨ a ∈ s)) : Step F H P F' H' (Own φ) := by
  subst es
  exact st.imp fun _ z => .inl z
/-- what an expression wants, by cases of a truth value -/
theorem FE.bool {f : En → Out M} {t : TE} {ε : En} {σ : L2.St} {F H : Hp} {φ : Nat → List Addr} {k : Bool → En → Out M} {Q : VK} {R : Bool → Hp → Prop} (h2 : ∀ ε σ F H φ Q, EnvOk X.K F H ε σ φ → PostE X.K W σ F H (Own φ) Q (f ε) → t σ H Q)
    (ok : EnvOk X.K F H ε σ φ) (h : PostE X.K W σ F H (Own φ) Q ((f ε).bnd fun m ε1 => match m with
      | .d (.bl b) => k b ε1
      | _ => .bad)) (hk : ∀ b ε1 F1 H1 φ1, EnvOk X.K F1 H1 ε1 σ φ1 → PostE X.K W σ F1 H1 (Own φ1) Q (k b ε1) → R b H1) : t σ H fun x H1 => ∃ c, x = .bl c ∧ R c H1 := by
  refine h2 ε σ F H φ _ ok ?_
  cases q : f ε with
  | bad => rw [q] at h; exact h
  | ex c fs ε' => rw [q] at h; exact h
  | ok m ε1 =>
    rw [q] at h
    simp only [bnd_ok] at h
    intro v F1 H1 φ1 s ok1 st1 r nd ho
    split at h
    · rename_i b
      have es : s = [] := r.1
      exact ⟨b, r.2, hk b ε1 F1 H1 φ1 ok1 (PostE.step (nil_own es st1) h)⟩
    · exact h.elim
theorem FE.boolT {f : En → Out M} {t : TE} {ε : En} {σ : L2.St} {F H : Hp} {φ : Nat → List Addr} {Q : Bool → Hp → Prop} (h2 : ∀ ε σ F H φ Q, EnvOk X.K F H ε σ φ → PostE X.K W σ F H (Own φ) Q (f ε) → t σ H Q)
    (ok : EnvOk X.K F H ε σ φ) (h : PostT X.K W σ F H (Own φ) Q (tVal f ε)) : t σ H fun x H1 => ∃ c, x = .bl c ∧ Q c H1 := by
  refine h2 ε σ F H φ _ ok ?_
  unfold tVal at h
  cases q : f ε with
  | bad => rw [q] at h; exact h
  | ex c fs ε' => rw [q] at h; exact h
  | ok m ε1 =>
    rw [q] at h
    simp only [bnd_ok] at h
    intro v F1 H1 φ1 s ok1 st1 r nd ho
    split at h
    · rename_i b
      have es : s = [] := r.1
      exact ⟨b, r.2, h F1 H1 φ1 ok1 (nil_own es st1)⟩
    · exact h.elim
theorem eAnd_eq (f g : En → Out M) (ε : En) : eAnd f g ε = (f ε).bnd fun m ε1 => match m with
      | .d (.bl b) => (if b = true then g ε1 else .ok (.d (.bl false)) ε1)
      | _ => .bad := by
  unfold eAnd
  congr 1
  funext m ε1
  split <;> first | rfl | skip
  split
  · rename_i b h1 h2
    cases b
    · exact absurd rfl h2
    · exact absurd rfl h1
  · rfl
theorem eOr_eq (f g : En → Out M) (ε : En) : eOr f g ε = (f ε).bnd fun m ε1 => match m with
      | .d (.bl b) => (if b = true then .ok (.d (.bl true)) ε1 else g ε1)
      | _ => .bad := by
  unfold eOr
  congr 1
  funext m ε1
  split <;> first | rfl | skip
  split
  · rename_i b h1 h2
    cases b
    · exact absurd rfl h2
    · exact absurd rfl h1
  · rfl
theorem fe_and {f g : En → Out M} {rest : List Expr} (ha : FE X W a f) (hb : FE X W (.BoolOp .And (b :: rest) pos) g) : FE X W (.BoolOp .And (a :: b :: rest) pos) (eAnd f g) := by
  obtain ⟨t, h1, h2⟩ := ha.ex
  obtain ⟨u, h3, h4⟩ := hb.ex
  refine ⟨_, pe_and h1 h3, fun ε σ F H φ Q ok h => ?_⟩
  rw [eAnd_eq] at h
  refine FE.bool h2 ok h fun c ε1 F1 H1 φ1 ok1 q => ?_
  cases c with
  | true => exact h4 ε1 σ F1 H1 φ1 Q ok1 q
  | false =>
    have q' : PostE X.K W σ F1 H1 (Own φ1) Q (.ok (.d (.bl false)) ε1) := q
    exact q' _ F1 H1 φ1 [] ok1 (Step.refl fun _ z => z.elim (fun z => z) (fun z => by cases z)) ⟨rfl, rfl⟩ List.nodup_nil (fun _ z => by cases z)
theorem fe_or {f g : En → Out M} {rest : List Expr} (ha : FE X W a f) (hb : FE X W (.BoolOp .Or (b :: rest) pos) g) : FE X W (.BoolOp .Or (a :: b :: rest) pos) (eOr f g) := by
  obtain ⟨t, h1, h2⟩ := ha.ex
  obtain ⟨u, h3, h4⟩ := hb.ex
  refine ⟨_, pe_or h1 h3, fun ε σ F H φ Q ok h => ?_⟩
  rw [eOr_eq] at h
  refine FE.bool h2 ok h fun c ε1 F1 H1 φ1 ok1 q => ?_
  cases c with
  | false => exact h4 ε1 σ F1 H1 φ1 Q ok1 q
  | true =>
    have q' : PostE X.K W σ F1 H1 (Own φ1) Q (.ok (.d (.bl true)) ε1) := q
    exact q' _ F1 H1 φ1 [] ok1 (Step.refl fun _ z => z.elim (fun z => z) (fun z => by cases z)) ⟨rfl, rfl⟩ List.nodup_nil (fun _ z => by cases z)
theorem fe_one {f : En → Out M} {op : BoolOp} (ha : FE X W a f) : FE X W (.BoolOp op [a] pos) f := by
  obtain ⟨t, h1, h2⟩ := ha.ex
  exact ⟨t, pe_one h1, h2⟩
theorem fe_not {f : En → Out M} (ha : FE X W a f) : FE X W (.UnaryOp .Not a pos) (eNot f) := by
  obtain ⟨t, h1, h2⟩ := ha.ex
  refine ⟨_, pe_not h1, fun ε σ F H φ Q ok h => ?_⟩
  unfold eNot at h
  refine FE.bool (k := fun b ε1 => .ok (.d (.bl (!b))) ε1) h2 ok h fun c ε1 F1 H1 φ1 ok1 q => ?_
  exact q _ F1 H1 φ1 [] ok1 (Step.refl fun _ z => z.elim (fun z => z) (fun z => by cases z)) ⟨rfl, rfl⟩ List.nodup_nil (fun _ z => by cases z)
theorem ft_val {f : En → Out M} (ha : FE X W e f) (he : ∀ whole, isTrue e X.env whole = (do let v ← whole; standAt e.pos; holding [v] (truthy v)) := by intro _; rfl) : FT X W e (tVal f) := by
  obtain ⟨t, h1, h2⟩ := ha.ex
  exact ⟨_, pt_val h1 he, fun ε σ F H φ Q ok h => FE.boolT h2 ok h⟩
theorem ft_cmp {op : CmpOp} {r : R2} {g : M → M → Option M} {oa ob : En → Out Arg} (ho : OpR X (compareOp op) r) (hS : OpS2 X.K r g) (ha : FO X W a oa) (hb : FO X W b ob) (hm : behindInMarks op b = false) : FT X W (.Compare a [op] [b] pos) (tVal (eOp2 g oa ob)) := by
  obtain ⟨ta, h1, h2⟩ := ha.ex
  obtain ⟨tb, h3, h4⟩ := hb.ex
  have hE : FE X W (.Compare a [op] [b] pos) (eOp2 g oa ob) := fe_cmp ho hS ha hb hm
  refine ⟨_, pt_cmpR ho h1 h3 hm, fun ε σ F H φ Q ok h => ?_⟩
  -- the same reading as the expression's
  refine FE.boolT (W := W) (f := eOp2 g oa ob) (t := tOp r ta tb) (fun ε σ F H φ Q ok h => h2 ε σ F H φ _ ok ?_) ok h
  unfold eOp2 at h
  cases q : oa ε with
  | bad => rw [q] at h; exact h
  | ex c fs ε' => rw [q] at h; exact h
  | ok u ε1 =>
    rw [q] at h
    simp only [bnd_ok] at h
    intro v F1 H1 φ1 ok1 st1 r1
    refine h4 ε1 σ F1 H1 φ1 _ ok1 ?_
    cases q2 : ob ε1 with
    | bad => rw [q2] at h; exact h
    | ex c fs ε' => rw [q2] at h; exact PostX.step st1 h
    | ok w ε2 =>
      rw [q2] at h
      simp only [bnd_ok] at h
      intro v2 F2 H2 φ2 ok2 st2 r2
      have r1' := ArgOk.le st2.f r1
      cases q3 : rd ε2 u with
      | none => rw [q3] at h; exact h.elim
      | some m =>
        cases q4 : rd ε2 w with
        | none => rw [q3, q4] at h; exact h.elim
        | some n =>
          rw [q3, q4] at h
          cases q5 : g m n with
          | none => simp only [q5, optO_none] at h; exact h.elim
          | some z =>
            simp only [q5, optO_some] at h
            exact hS m n v v2 F2 H2 Q z ok2.sub (rd_ok ok2 r1' q3) (rd_ok ok2 r2 q4) q5 (PostE.of_op ok2 (st1.trans st2) h)
theorem fw_and1 {f : En → Out Bool} (ha : FT X W a f) : FW X W (.BoolOp .And [a] pos) f := by
  obtain ⟨t, h1, h2⟩ := ha.ex
  exact ⟨t, pw_and1 h1, h2⟩
theorem fw_or1 {f : En → Out Bool} (ha : FT X W a f) : FW X W (.BoolOp .Or [a] pos) f := by
  obtain ⟨t, h1, h2⟩ := ha.ex
  exact ⟨t, pw_or1 h1, h2⟩
theorem FT.seq {f : En → Out Bool} {t : TT} {ε : En} {σ : L2.St} {F H : Hp} {φ : Nat → List Addr} {k : Bool → En → Out Bool} {Q : Bool → Hp → Prop} {R : Bool → Hp → Prop} (h2 : ∀ ε σ F H φ Q, EnvOk X.K F H ε σ φ → PostT X.K W σ F H (Own φ) Q (f ε) → t σ H Q)
    (ok : EnvOk X.K F H ε σ φ) (h : PostT X.K W σ F H (Own φ) Q ((f ε).bnd k)) (hk : ∀ b ε1 F1 H1 φ1, EnvOk X.K F1 H1 ε1 σ φ1 → PostT X.K W σ F1 H1 (Own φ1) Q (k b ε1) → R b H1) : t σ H R := by
  refine h2 ε σ F H φ _ ok ?_
  cases q : f ε with
  | bad => rw [q] at h; exact h
  | ex c fs ε' => rw [q] at h; exact h
  | ok b ε1 =>
    rw [q] at h
    exact fun F1 H1 φ1 ok1 st1 => hk b ε1 F1 H1 φ1 ok1 (PostT.step st1 h)
theorem fw_and {f g : En → Out Bool} {rest : List Expr} (ha : FT X W a f) (hb : FW X W (.BoolOp .And (b :: rest) pos) g) : FW X W (.BoolOp .And (a :: b :: rest) pos) (tAnd' f g) := by
  obtain ⟨t, h1, h2⟩ := ha.ex
  obtain ⟨u, h3, h4⟩ := hb.ex
  refine ⟨_, pw_and h1 h3, fun ε σ F H φ Q ok h => FT.seq (t := t) (R := fun c H1 => if c = true then u σ H1 Q else Q false H1) h2 ok h fun c ε1 F1 H1 φ1 ok1 q => ?_⟩
  cases c with
  | true => exact h4 ε1 σ F1 H1 φ1 Q ok1 q
  | false => exact q F1 H1 φ1 ok1 (Step.refl fun _ z => z)
theorem fw_or {f g : En → Out Bool} {rest : List Expr} (ha : FT X W a f) (hb : FW X W (.BoolOp .Or (b :: rest) pos) g) : FW X W (.BoolOp .Or (a :: b :: rest) pos) (tOr' f g) := by
  obtain ⟨t, h1, h2⟩ := ha.ex
  obtain ⟨u, h3, h4⟩ := hb.ex
  refine ⟨_, pw_or h1 h3, fun ε σ F H φ Q ok h => FT.seq (t := t) (R := fun c H1 => if c = true then Q true H1 else u σ H1 Q) h2 ok h fun c ε1 F1 H1 φ1 ok1 q => ?_⟩
  cases c with
  | false => exact h4 ε1 σ F1 H1 φ1 Q ok1 q
  | true => exact q F1 H1 φ1 ok1 (Step.refl fun _ z => z)
theorem FW.ft {f : En → Out Bool} (h : FW X W e f) : FT X W e f := by
  obtain ⟨t, h1, h2⟩ := h.ex
  exact ⟨t, h1.pt, h2⟩
theorem ft_not {f : En → Out Bool} (ha : FT X W a f) : FT X W (.UnaryOp .Not a pos) (tNot' f) := by
  obtain ⟨t, h1, h2⟩ := ha.ex
  refine ⟨_, pt_not h1, fun ε σ F H φ Q ok h => FT.seq (t := t) (R := fun c H1 => Q (!c) H1) h2 ok h fun c ε1 F1 H1 φ1 ok1 q => q F1 H1 φ1 ok1 (Step.refl fun _ z => z)⟩
theorem fe_if {t : En → Out Bool} {f g : En → Out M} (hc : FT X W c t) (ha : FE X W a f) (hb : FE X W b g) : FE X W (.IfExp c a b pos) (eIf t f g) := by
  obtain ⟨tc, h1, h2⟩ := hc.ex
  obtain ⟨ta, h3, h4⟩ := ha.ex
  obtain ⟨tb, h5, h6⟩ := hb.ex
  refine ⟨_, pe_ifExp h1 h3 h5, fun ε σ F H φ Q ok h => h2 ε σ F H φ _ ok ?_⟩
  unfold eIf at h
  cases q : t ε with
  | bad => rw [q] at h; exact h
  | ex c fs ε' => rw [q] at h; exact h
  | ok b ε1 =>
    rw [q] at h
    simp only [bnd_ok] at h
    intro F1 H1 φ1 ok1 st1
    cases b with
    | true => exact h4 ε1 σ F1 H1 φ1 Q ok1 (PostE.step st1 h)
    | false => exact h6 ε1 σ F1 H1 φ1 Q ok1 (PostE.step st1 h)
end
end FL
namespace FL
open PySem PySem.Spec PyProof.Rows L2
/-! ### statements -/
inductive SOut where
  | nx (ε : En) | rt (m : M) (ε : En) | bk (ε : En) | ct (ε : En) | ex (c : Str) (fs : List (Str × D)) (ε : En) | bad
/-- fx: slots that a statement leaves alone (what a caller has handed in to be changed) -/
abbrev Fx (fx : Nat → Prop) (σ σ' : L2.St) : Prop := ∀ i, fx i → σ'[i]? = σ[i]?
section
variable (K : PySem.W.Frag)
def PostN (fx : Nat → Prop) (σ : L2.St) (F H : Hp) (P : Addr → Prop) (Q : L2.St → Hp → Prop) (ε' : En) : Prop :=
  ∀ σ' F' H' φ', EnvOk K F' H' ε' σ' φ' → Step F H P F' H' (Own φ') → Fx fx σ σ' → Q σ' H'
def PostS (W : WX) (fx : Nat → Prop) (σ : L2.St) (F H : Hp) (P : Addr → Prop) (D : Ends) : SOut → Prop
  | .nx ε' => PostN K fx σ F H P D.nx ε'
  | .bk ε' => PostN K fx σ F H P D.bk ε'
  | .ct ε' => PostN K fx σ F H P D.ct ε'
  | .rt m ε' => ∀ v σ' F' H' φ' s, EnvOk K F' H' ε' σ' φ' → Step F H P F' H' (fun a => Own φ' a ∨ a ∈ s) → RM K F' H' m v s → s.Nodup → (∀ a ∈ s, F' a = none ∧ ∀ i, a ∉ φ' i) → Fx fx σ σ' → D.rt v H'
  | .ex c fs ε' => ∀ dx vs σ' F' H' φ', EnvOk K F' H' ε' σ' φ' → Step F H P F' H' (Own φ') → H' dx = some (.xd vs) → RepF K F' fs vs → Fx fx σ σ' → W (.ref (He.ga K c)) (some dx) σ' H'
  | .bad => False
end
structure FS (X : Cx) (W : WX) (fx : Nat → Prop) (st : Stmt) (f : En → SOut) : Prop where
  ex : ∃ t, PS X st t ∧ ∀ ε σ F H φ D, EnvOk X.K F H ε σ φ → PostS X.K W fx σ F H (Own φ) D (f ε) → t D σ H
structure FSs (X : Cx) (W : WX) (fx : Nat → Prop) (st : List Stmt) (f : En → SOut) : Prop where
  ex : ∃ t, PSs X st t ∧ ∀ ε σ F H φ D, EnvOk X.K F H ε σ φ → PostS X.K W fx σ F H (Own φ) D (f ε) → t D σ H
section
variable {K : PySem.W.Frag} {W : WX} {fx : Nat → Prop} {σ σ1 : L2.St} {F H F1 H1 : Hp} {P P1 : Addr → Prop} {D : Ends}
theorem PostN.step {Q : L2.St → Hp → Prop} {ε : En} (st : Step F H P F1 H1 P1) (hx : Fx fx σ σ1) (h : PostN K fx σ F H P Q ε) : PostN K fx σ1 F1 H1 P1 Q ε :=
  fun σ' F' H' φ' ok s q => h σ' F' H' φ' ok (st.trans s) fun i hi => (q i hi).trans (hx i hi)
theorem PostS.step {o : SOut} (st : Step F H P F1 H1 P1) (hx : Fx fx σ σ1) (h : PostS K W fx σ F H P D o) : PostS K W fx σ1 F1 H1 P1 D o := by
  cases o with
  | nx ε => exact PostN.step st hx h
  | bk ε => exact PostN.step st hx h
  | ct ε => exact PostN.step st hx h
  | rt m ε => exact fun v σ' F' H' φ' s ok s' r nd off q => h v σ' F' H' φ' s ok (st.trans s') r nd off fun i hi => (q i hi).trans (hx i hi)
  | ex c fs ε => exact fun dx vs σ' F' H' φ' ok s' e r q => h dx vs σ' F' H' φ' ok (st.trans s') e r fun i hi => (q i hi).trans (hx i hi)
  | bad => exact h
theorem Fx.refl : Fx fx σ σ := fun _ _ => rfl
/-- behind the same end -/
theorem PostX.toS {c : Str} {fs : List (Str × FL.D)} {ε : En} (h : PostS K W fx σ F H P D (.ex c fs ε)) : PostX K W σ F H P c fs ε :=
  fun dx vs F' H' φ' ok st e r => h dx vs σ F' H' φ' ok st e r Fx.refl
end
/-! ### a slot is stored -/
theorem EnvOk.store {K : PySem.W.Frag} {F H : Hp} {ε : En} {σ : L2.St} {φ : Nat → List Addr} (ok : EnvOk K F H ε σ φ) (i : Nat) {m : M} {v : V} {s : List Addr} (r : RM K F H m v s) (nd : s.Nodup) (off : ∀ a ∈ s, F a = none ∧ ∀ j, a ∉ φ j) :
    EnvOk K F H (ε.set i (some m)) (σ.set i (some v)) (fun j => if j = i then (if i < ε.length then s else []) else φ j) where
  sub := ok.sub
  len := by rw [List.length_set, List.length_set]; exact ok.len
  slot := fun j m' hj => by
    by_cases h : j = i
    · subst h
      have hlt : j < ε.length := by
        have := (List.getElem?_eq_some_iff.mp hj).1
        rwa [List.length_set] at this
      rw [List.getElem?_set_self hlt] at hj
      cases hj
      refine ⟨v, by rw [List.getElem?_set_self (by rw [← ok.len]; exact hlt)], ?_⟩
      rw [if_pos rfl, if_pos hlt]
      exact r
    · rw [List.getElem?_set_ne (Ne.symm h)] at hj
      obtain ⟨u, hu, q⟩ := ok.slot j m' hj
      refine ⟨u, by rw [List.getElem?_set_ne (Ne.symm h)]; exact hu, ?_⟩
      rw [if_neg h]
      exact q
  emp := fun j hj => by
    by_cases h : j = i
    · subst h
      rw [if_pos rfl]
      by_cases hlt : j < ε.length
      · exact absurd (List.getElem?_set_self hlt) (hj m)
      · rw [if_neg hlt]
    · rw [if_neg h]
      refine ok.emp j fun m' q => hj m' ?_
      rw [List.getElem?_set_ne (Ne.symm h)]
      exact q
  nd := fun j => by
    by_cases h : j = i
    · rw [if_pos h]
      split
      · exact nd
      · exact List.nodup_nil
    · rw [if_neg h]; exact ok.nd j
  dj := fun j k a h1 h2 => by
    by_cases q1 : j = i
    · by_cases q2 : k = i
      · rw [q1, q2]
      · rw [if_pos q1] at h1
        rw [if_neg q2] at h2
        split at h1
        · exact absurd h2 ((off a h1).2 k)
        · cases h1
    · by_cases q2 : k = i
      · rw [if_neg q1] at h1
        rw [if_pos q2] at h2
        split at h2
        · exact absurd h1 ((off a h2).2 j)
        · cases h2
      · rw [if_neg q1] at h1; rw [if_neg q2] at h2
        exact ok.dj j k a h1 h2
  off := fun j a h1 => by
    by_cases q1 : j = i
    · rw [if_pos q1] at h1
      split at h1
      · exact (off a h1).1
      · cases h1
    · rw [if_neg q1] at h1; exact ok.off j a h1
theorem store_own {φ : Nat → List Addr} {i n : Nat} {s : List Addr} {a : Addr} (h : Own (fun j => if j = i then (if i < n then s else []) else φ j) a) : Own φ a ∨ a ∈ s := by
  obtain ⟨j, hj⟩ := h
  simp only at hj
  split at hj
  · split at hj
    · exact .inr hj
    · cases hj
  · exact .inl ⟨j, hj⟩
/-- a slot's content is given up -/
theorem EnvOk.drop {K : PySem.W.Frag} {F H : Hp} {ε : En} {σ : L2.St} {φ : Nat → List Addr} (ok : EnvOk K F H ε σ φ) (i : Nat) : EnvOk K F H (ε.set i none) σ (fun j => if j = i then [] else φ j) where
  sub := ok.sub
  len := by rw [List.length_set]; exact ok.len
  slot := fun j m' hj => by
    by_cases h : j = i
    · subst h
      have hlt : j < ε.length := by
        have := (List.getElem?_eq_some_iff.mp hj).1
        rwa [List.length_set] at this
      rw [List.getElem?_set_self hlt] at hj
      cases hj
    · rw [List.getElem?_set_ne (Ne.symm h)] at hj
      obtain ⟨u, hu, q⟩ := ok.slot j m' hj
      refine ⟨u, hu, ?_⟩
      rw [if_neg h]
      exact q
  emp := fun j hj => by
    by_cases h : j = i
    · rw [if_pos h]
    · rw [if_neg h]
      refine ok.emp j fun m' q => hj m' ?_
      rw [List.getElem?_set_ne (Ne.symm h)]
      exact q
  nd := fun j => by
    by_cases h : j = i
    · rw [if_pos h]; exact List.nodup_nil
    · rw [if_neg h]; exact ok.nd j
  dj := fun j k a h1 h2 => by
    by_cases q1 : j = i
    · rw [if_pos q1] at h1; cases h1
    · by_cases q2 : k = i
      · rw [if_pos q2] at h2; cases h2
      · rw [if_neg q1] at h1; rw [if_neg q2] at h2
        exact ok.dj j k a h1 h2
  off := fun j a h1 => by
    by_cases q1 : j = i
    · rw [if_pos q1] at h1; cases h1
    · rw [if_neg q1] at h1; exact ok.off j a h1
theorem drop_own {φ : Nat → List Addr} {i : Nat} {a : Addr} (h : Own (fun j => if j = i then [] else φ j) a) : Own φ a := by
  obtain ⟨j, hj⟩ := h
  simp only at hj
  split at hj
  · cases hj
  · exact ⟨j, hj⟩
def sNil (ε : En) : SOut := .nx ε
def sSeq (f g : En → SOut) (ε : En) : SOut := match f ε with
  | .nx ε1 => g ε1
  | o => o
def sNever (_ : En) : SOut := .bad
def sDrop (f : En → Out M) (ε : En) : SOut := match f ε with
  | .ok _ ε' => .nx ε'
  | .ex c fs ε' => .ex c fs ε'
  | .bad => .bad
def sSet (i : Nat) (f : En → Out M) (ε : En) : SOut := match f ε with
  | .ok m ε' => .nx (ε'.set i (some m))
  | .ex c fs ε' => .ex c fs ε'
  | .bad => .bad
def sRet (f : En → Out M) (ε : En) : SOut := match f ε with
  | .ok m ε' => .rt m ε'
  | .ex c fs ε' => .ex c fs ε'
  | .bad => .bad
def sRetN (ε : En) : SOut := .rt (.d .non) ε
/-- return x: what the name owns goes to the caller -/
def sRetV (i : Nat) (ε : En) : SOut := match ε[i]? with
  | some (some m) => .rt m (ε.set i none)
  | _ => .bad
def sIf (t : En → Out Bool) (f g : En → SOut) (ε : En) : SOut := match t ε with
  | .ok b ε1 => if b = true then f ε1 else g ε1
  | .ex c fs ε' => .ex c fs ε'
  | .bad => .bad
section
variable {X : Cx} {W : WX} {fx : Nat → Prop} {e a b c : Expr} {es : List Expr} {x : Str} {p pos : Pos} {st : Stmt} {sts : List Stmt}
theorem ss_nil : FSs X W fx [] sNil := ⟨_, pss_nil, fun ε σ F H φ D ok h => h σ F H φ ok (Step.refl fun _ z => z) Fx.refl⟩
theorem ss_cons {f g : En → SOut} (h1 : FS X W fx st f) (h2 : FSs X W fx sts g) : FSs X W fx (st :: sts) (sSeq f g) := by
  obtain ⟨t, p1, q1⟩ := h1.ex
  obtain ⟨u, p2, q2⟩ := h2.ex
  refine ⟨_, pss_cons p1 p2, fun ε σ F H φ D ok h => ?_⟩
  show t { D with nx := u D } σ H
  refine q1 ε σ F H φ _ ok ?_
  unfold sSeq at h
  cases q : f ε with
  | nx ε1 =>
    rw [q] at h
    exact fun σ' F' H' φ' ok' st' hx => q2 ε1 σ' F' H' φ' D ok' (PostS.step st' hx h)
  | rt m ε1 => rw [q] at h; exact h
  | bk ε1 => rw [q] at h; exact h
  | ct ε1 => rw [q] at h; exact h
  | ex c fs ε1 => rw [q] at h; exact h
  | bad => rw [q] at h; exact h
theorem ss_one {f : En → SOut} (h1 : FS X W fx st f) : FSs X W fx [st] f := by
  obtain ⟨t, p1, q1⟩ := h1.ex
  exact ⟨t, pss_one p1, q1⟩
theorem st_never : FS X W fx st sNever := ⟨_, ps_never, fun ε σ F H φ D ok h => h.elim⟩
theorem ss_never : FSs X W fx sts sNever := ⟨_, pss_never, fun ε σ F H φ D ok h => h.elim⟩
theorem st_pass : FS X W fx (.Pass pos) sNil := ⟨_, ps_pass, fun ε σ F H φ D ok h => h σ F H φ ok (Step.refl fun _ z => z) Fx.refl⟩
theorem st_break : FS X W fx (.Break pos) .bk := ⟨_, ps_break, fun ε σ F H φ D ok h => h σ F H φ ok (Step.refl fun _ z => z) Fx.refl⟩
theorem st_continue : FS X W fx (.Continue pos) .ct := ⟨_, ps_continue, fun ε σ F H φ D ok h => h σ F H φ ok (Step.refl fun _ z => z) Fx.refl⟩
theorem st_expr {f : En → Out M} (he : FE X W e f) (hs : swapsWith e none pos.line X.env = pure false := by rfl) : FS X W fx (.Expr e pos) (sDrop f) := by
  obtain ⟨t, p1, q1⟩ := he.ex
  refine ⟨_, ps_expr p1 hs, fun ε σ F H φ D ok h => q1 ε σ F H φ _ ok ?_⟩
  unfold sDrop at h
  cases q : f ε with
  | bad => rw [q] at h; exact h
  | ex c fs ε' => rw [q] at h; exact PostX.toS h
  | ok m ε1 =>
    rw [q] at h
    exact fun v F1 H1 φ1 s ok1 st1 r nd ho => h σ F1 H1 φ1 ok1 (st1.imp fun _ z => .inl z) Fx.refl
theorem st_set (i : Nat) {f : En → Out M} {pos' : Pos} (hN : X.N.Nodup) (hfx : ¬ fx i) (he : FE X W e f) (hi : X.N[i]? = some x := by rfl) (hx : Loc X.env.scope x := by first | exact Or.inl rfl | exact Or.inr rfl) (hs : swapsWith e (some (.Name x pos')) pos.line X.env = pure false := by rfl)
    (hf : X.fn x = true ∨ X.env.scope.names.lookup x = some .local := by first | exact .inl rfl | exact .inr rfl) : FS X W fx (.Assign [.Name x pos'] e pos) (sSet i f) := by
  obtain ⟨t, p1, q1⟩ := he.ex
  refine ⟨_, ps_set hN hi hx p1 hs hf, fun ε σ F H φ D ok h => q1 ε σ F H φ _ ok ?_⟩
  unfold sSet at h
  cases q : f ε with
  | bad => rw [q] at h; exact h
  | ex c fs ε' => rw [q] at h; exact PostX.toS h
  | ok m ε1 =>
    rw [q] at h
    intro v F1 H1 φ1 s ok1 st1 r nd ho
    refine h _ F1 H1 _ (ok1.store i r nd ho) (st1.imp fun a z => store_own z) fun j hj => ?_
    rw [List.getElem?_set_ne (fun z : i = j => hfx (by rw [z]; exact hj))]
theorem st_ret {f : En → Out M} (he : FE X W e f) : FS X W fx (.Return (some e) pos) (sRet f) := by
  obtain ⟨t, p1, q1⟩ := he.ex
  refine ⟨_, ps_ret p1, fun ε σ F H φ D ok h => q1 ε σ F H φ _ ok ?_⟩
  unfold sRet at h
  cases q : f ε with
  | bad => rw [q] at h; exact h
  | ex c fs ε' => rw [q] at h; exact PostX.toS h
  | ok m ε1 =>
    rw [q] at h
    exact fun v F1 H1 φ1 s ok1 st1 r nd ho => h v σ F1 H1 φ1 s ok1 st1 r nd ho Fx.refl
theorem st_retN : FS X W fx (.Return none pos) sRetN :=
  ⟨_, ps_retN, fun ε σ F H φ D ok h => h .non σ F H φ [] ok (Step.refl fun _ z => z.elim (fun z => z) (fun z => by cases z)) ⟨rfl, rfl⟩ List.nodup_nil (fun _ z => by cases z) Fx.refl⟩
theorem st_retV (i : Nat) {pos' : Pos} (hN : X.N[i]? = some x := by rfl) (hv : Vis X.env.scope x := by first | exact Or.inl rfl | exact Or.inr (Or.inl rfl) | exact Or.inr (Or.inr rfl)) (hd : (x == ("__debug__" : Str)) = false := by decide)
    (hcd : (x == ("__classdict__" : Str)) = false := by decide) : FS X W fx (.Return (some (.Name x pos')) pos) (sRetV i) := by
  refine ⟨_, ps_ret (pe_var hN hv hd hcd), fun ε σ F H φ D ok h => ?_⟩
  unfold sRetV at h
  split at h
  · rename_i m hm
    obtain ⟨v, hv, r⟩ := ok.slot i m hm
    refine ⟨v, hv, h v σ F H _ (φ i) (ok.drop i) (Step.refl fun a z => ?_) r (ok.nd i) (fun a ha => ⟨ok.off i a ha, fun j hj => ?_⟩) Fx.refl⟩
    · exact z.elim drop_own fun z => ⟨i, z⟩
    · split at hj
      · cases hj
      · rename_i hne
        exact hne (ok.dj j i a hj ha)
  · exact h.elim
theorem st_if {t : En → Out Bool} {f g : En → SOut} {as bs : List Stmt} (hc : FT X W c t) (ha : FSs X W fx as f) (hb : FSs X W fx bs g) : FS X W fx (.If c as bs pos) (sIf t f g) := by
  obtain ⟨tc, p1, q1⟩ := hc.ex
  obtain ⟨ta, p2, q2⟩ := ha.ex
  obtain ⟨tb, p3, q3⟩ := hb.ex
  refine ⟨_, ps_if p1 p2 p3, fun ε σ F H φ D ok h => q1 ε σ F H φ _ ok ?_⟩
  unfold sIf at h
  cases q : t ε with
  | bad => rw [q] at h; exact h
  | ex c fs ε' => rw [q] at h; exact PostX.toS h
  | ok b ε1 =>
    rw [q] at h
    intro F1 H1 φ1 ok1 st1
    cases b with
    | true => exact q2 ε1 σ F1 H1 φ1 D ok1 (PostS.step st1 Fx.refl h)
    | false => exact q3 ε1 σ F1 H1 φ1 D ok1 (PostS.step st1 Fx.refl h)
/-- x op= e, x an int -/
def sAug (i : Nat) (g : M → M → Option M) (oa : En → Out Arg) (ε : En) : SOut := match ε[i]? with
  | some (some (.d (.int k))) => (match oa ε with
    | .ok a ε1 => (match rd ε1 a with
      | some m => (match g (.d (.int k)) m with
        | some (.d (.int z)) => .nx (ε1.set i (some (.d (.int z))))
        | _ => .bad)
      | none => .bad)
    | .ex c fs ε' => .ex c fs ε'
    | .bad => .bad)
  | _ => .bad
theorem st_aug (i : Nat) {op : Operator} {f : Int → Int → Int} {g : M → M → Option M} {oa : En → Out Arg} {pos' : Pos} (hN : X.N.Nodup) (hfx : ¬ fx i) (ho : PIp X op (ipI f)) (hg : ∀ k m z, g (.d (.int k)) m = some (.d (.int z)) → ∃ j, m = .d (.int j) ∧ z = f k j) (he : FO X W e oa)
    (hi : X.N[i]? = some x := by rfl) (hx : Loc X.env.scope x := by first | exact Or.inl rfl | exact Or.inr rfl) (hf : X.fn x = true ∨ X.env.scope.names.lookup x = some .local := by first | exact .inl rfl | exact .inr rfl) : FS X W fx (.AugAssign (.Name x pos') op e pos) (sAug i g oa) := by
  obtain ⟨t, p1, q1⟩ := he.ex
  refine ⟨_, ps_aug hN hi hx p1 ho hf, fun ε σ F H φ D ok h => ?_⟩
  unfold sAug at h
  split at h
  · rename_i k hk
    obtain ⟨v, hv, r⟩ := ok.slot i _ hk
    refine ⟨v, hv, q1 ε σ F H φ _ ok ?_⟩
    cases q : oa ε with
    | bad => rw [q] at h; exact h
    | ex c fs ε' => rw [q] at h; exact PostX.toS h
    | ok u ε1 =>
      rw [q] at h
      intro w F1 H1 φ1 ok1 st1 r1
      simp only at h
      split at h
      · rename_i m hm
        split at h
        · rename_i z hz
          obtain ⟨j, em, ez⟩ := hg k m z hz
          have rm := rd_ok ok1 r1 hm
          refine ⟨k, j, r.2, int_at rm em, ?_⟩
          subst ez
          refine h _ F1 H1 _ (ok1.store i (s := []) ⟨rfl, rfl⟩ List.nodup_nil fun _ z => by cases z) (st1.imp fun a z => (store_own z).elim (fun z => z) fun z => by cases z) fun j hj => ?_
          rw [List.getElem?_set_ne (fun z : i = j => hfx (by rw [z]; exact hj))]
        · exact h.elim
      · exact h.elim
  · exact h.elim
end
end FL
namespace FL
open PySem PySem.Spec PyProof.Rows L2
/-! ### targets -/
/-- tg stores the value d by set, in slots of ts alone -/
structure FG (X : Cx) (ts : List Nat) (tg : Expr) (set : D → En → Option En) : Prop where
  ex : ∃ g, PG X tg g ∧ ∀ d v ε ε' σ F H φ Q, EnvOk X.K F H ε σ φ → Rep X.K F d v → set d ε = some ε' →
    (∀ σ' φ', EnvOk X.K F H ε' σ' φ' → (∀ a, Own φ' a → Own φ a) → (∀ j, j ∉ ts → σ'[j]? = σ[j]?) → σ'.length = σ.length → Q σ' H) → g v σ H Q
structure FGs (X : Cx) (ts : List Nat) (tgs : List Expr) (set : List D → En → Option En) : Prop where
  ex : ∃ g, PGs X tgs g ∧ ∀ ds vs ε ε' σ F H φ Q, EnvOk X.K F H ε σ φ → Reps X.K F ds vs → set ds ε = some ε' →
    (∀ σ' φ', EnvOk X.K F H ε' σ' φ' → (∀ a, Own φ' a → Own φ a) → (∀ j, j ∉ ts → σ'[j]? = σ[j]?) → σ'.length = σ.length → Q σ' H) → g vs σ H Q
def gSet (i : Nat) (d : D) (ε : En) : Option En := some (ε.set i (some (.d d)))
def gsNil (ds : List D) (ε : En) : Option En := match ds with
  | [] => some ε
  | _ => none
def gsCons (f : D → En → Option En) (g : List D → En → Option En) (ds : List D) (ε : En) : Option En := match ds with
  | [] => none
  | d :: r => match f d ε with
    | some ε1 => g r ε1
    | none => none
def gTupS (n : Nat) (g : List D → En → Option En) (d : D) (ε : En) : Option En := match d with
  | .tup ds => if ds.length = n then g ds ε else none
  | _ => none
section
variable {X : Cx} {x : Str} {pos : Pos} {ts us : List Nat}
theorem fg_name (i : Nat) (hN : X.N.Nodup) (hi : X.N[i]? = some x := by rfl) (hx : Loc X.env.scope x := by first | exact Or.inl rfl | exact Or.inr rfl) (hf : X.fn x = true ∨ X.env.scope.names.lookup x = some .local := by first | exact .inl rfl | exact .inr rfl) : FG X [i] (.Name x pos) (gSet i) := by
  refine ⟨_, pg_name hN hi hx hf, fun d v ε ε' σ F H φ Q ok r e h => ?_⟩
  cases e
  refine h _ _ (ok.store i (s := []) ⟨rfl, r⟩ List.nodup_nil fun _ z => by cases z) (fun a z => (store_own z).elim (fun z => z) fun z => by cases z) (fun j hj => ?_) (by rw [List.length_set])
  rw [List.getElem?_set_ne (fun z : i = j => hj (by rw [z]; exact List.mem_singleton.mpr rfl))]
theorem fgs_nil : FGs X [] [] gsNil := by
  refine ⟨_, pgs_nil, fun ds vs ε ε' σ F H φ Q ok r e h => ?_⟩
  cases ds with
  | nil =>
    cases e
    exact ⟨r, h σ φ ok (fun _ z => z) (fun _ _ => rfl) rfl⟩
  | cons d ds => cases e
theorem fgs_cons {t : Expr} {tt : List Expr} {f : D → En → Option En} {g : List D → En → Option En} (h1 : FG X ts t f) (h2 : FGs X us tt g) (hs : (assignEach (t :: tt) X.env).map (·.2) = assign t X.env :: (assignEach tt X.env).map (·.2) := by rfl) : FGs X (ts ++ us) (t :: tt) (gsCons f g) := by
  obtain ⟨g1, p1, q1⟩ := h1.ex
  obtain ⟨g2, p2, q2⟩ := h2.ex
  refine ⟨_, pgs_cons p1 p2 hs, fun ds vs ε ε' σ F H φ Q ok r e h => ?_⟩
  cases ds with
  | nil => cases e
  | cons d ds =>
    obtain ⟨v, ws, ev, rv, rw⟩ := r
    unfold gsCons at e
    simp only at e
    cases q : f d ε with
    | none => rw [q] at e; cases e
    | some ε1 =>
      rw [q] at e
      refine ⟨v, ws, ev, q1 d v ε ε1 σ F H φ _ ok rv q fun σ1 φ1 ok1 o1 k1 l1 => ?_⟩
      refine q2 ds ws ε1 ε' σ1 F H φ1 _ ok1 rw e fun σ2 φ2 ok2 o2 k2 l2 => ?_
      refine h σ2 φ2 ok2 (fun a z => o1 a (o2 a z)) (fun j hj => ?_) (l2.trans l1)
      rw [List.mem_append] at hj
      exact (k2 j fun z => hj (.inr z)).trans (k1 j fun z => hj (.inl z))
theorem fg_tup {tt : List Expr} {k n : Nat} {g : List D → En → Option En} (hc : X.calm = true) (h : FGs X ts tt g) (hn : (assignEach tt X.env).length = n := by rfl) (hst : (assignEach tt X.env).findIdx? (·.1) = none := by rfl) : FG X ts (.Tuple tt k pos) (gTupS n g) := by
  obtain ⟨g1, p1, q1⟩ := h.ex
  refine ⟨_, pg_tup (n := n) hc p1 hn hst, fun d v ε ε' σ F H φ Q ok r e h => ?_⟩
  unfold gTupS at e
  split at e
  · rename_i ds
    split at e
    · rename_i hl
      obtain ⟨a, vs, ev, hs, rs⟩ := r
      exact ⟨a, vs, ev, SqT.le ok.sub hs, by rw [rs.length]; exact hl, q1 ds vs ε ε' σ F H φ Q ok rs e h⟩
    · cases e
  · cases e
end
/-! ### what is walked -/
/-- J gives the items ds, while F stands -/
def ItOk (K : PySem.W.Frag) (J : It) (F : Hp) (ds : List D) : Prop :=
  ∀ i G H', Le F G → Le G H' → (i < ds.length → J.go i H') ∧ (i = ds.length → J.stop i H') ∧ ∀ d x H2, ds[i]? = some d → J.yld i H' x H2 → ∃ G2, Grow G H' G2 H2 [] ∧ Rep K G2 d x
def PostI (K : PySem.W.Frag) (W : WX) (σ : L2.St) (F H : Hp) (P : Addr → Prop) (R : It → Hp → Prop) : Out (List D) → Prop
  | .ok ds ε' => ∀ J F' H' φ', EnvOk K F' H' ε' σ φ' → Step F H P F' H' (Own φ') → ItOk K J F' ds → R J H'
  | .ex c fs ε' => PostX K W σ F H P c fs ε'
  | .bad => False
structure FI (X : Cx) (W : WX) (tg iter : Expr) (f : En → Out (List D)) : Prop where
  ex : ∃ wi, PI X tg iter wi ∧ ∀ ε σ F H φ R, EnvOk X.K F H ε σ φ → PostI X.K W σ F H (Own φ) R (f ε) → wi σ H R
/-- a list or a tuple -/
def iSeq (K : PySem.W.Frag) (tl : TE) : TI := fun σ H R => tl σ H fun x H1 => ∃ a, x = .ref a ∧ (((∃ xs, SqL K H1 a xs) ∧ R (Itl K a) H1) ∨ ((∃ xs, SqT K H1 a xs) ∧ R (Itt K a) H1))
theorem pi_seq {X : Cx} {tg l : Expr} {tl : TE} (hl : PE X l tl) : PI X tg l (iSeq X.K tl) := by
  refine ⟨fun pins s σ H R I h => ?_⟩
  refine thn (hl.run pins s σ H _ I h) fun v s1 ⟨x, H1, I1, r1, q1⟩ => ?_
  obtain ⟨a, e, q⟩ := q1
  subst e
  cases r1
  rcases q with ⟨⟨xs, hq⟩, q⟩ | ⟨⟨xs, hq⟩, q⟩
  · obtain ⟨its, rv, p, hz⟩ := I1.list hq
    refine wpAny_pyIter_list p.isList ?_
    refine ⟨s1.heap.objs.size, [s1.heap.objs.size], _, _, H1, rfl, I1.kept (t' := s1.toks) fun b o e => Heap.get?_push_of_some _ e, turn_list a _, ⟨_, Heap.get?_push_size _ rfl, rfl, rfl⟩, fun b hb => ?_, q⟩
    have e : b = s1.heap.objs.size := by simpa using hb
    subst e
    exact I1.fpOk (Nat.le_refl _) (I1.hok.fresh (Nat.le_refl _))
  · obtain ⟨its, rv, p, hz⟩ := I1.tuple hq
    refine wpAny_pyIter_tuple (show s1.heap.IsTuple a its.toArray from p) ?_
    refine ⟨s1.heap.objs.size, [s1.heap.objs.size], _, _, H1, rfl, I1.kept (t' := s1.toks) fun b o e => Heap.get?_push_of_some _ e, turn_tuple a _, ⟨_, Heap.get?_push_size _ rfl, rfl, rfl⟩, fun b hb => ?_, q⟩
    have e : b = s1.heap.objs.size := by simpa using hb
    subst e
    exact I1.fpOk (Nat.le_refl _) (I1.hok.fresh (Nat.le_refl _))
def D.seq? (d : D) : Option (List D) := (M.d d).seq?
theorem dseq_at {K : PySem.W.Frag} {F : Hp} {d : D} {v : V} {xs : List D} (r : Rep K F d v) (e : d.seq? = some xs) : ∃ a vs, v = .ref a ∧ (SqL K F a vs ∨ SqT K F a vs) ∧ Reps K F xs vs :=
  seq_at (H := F) (m := .d d) (Le.refl F) ⟨[], rfl, r⟩ e
theorem it_list {K : PySem.W.Frag} {F : Hp} {a : Addr} {vs : List V} {ds : List D} (hs : SqL K F a vs) (r : Reps K F ds vs) : ItOk K (Itl K a) F ds := by
  intro i G H' lg gh
  have hs' : SqL K H' a vs := SqL.le gh (SqL.le lg hs)
  refine ⟨fun hi => ⟨vs, vs[i]'(by rw [r.length]; exact hi), hs', by simp [r.length, hi]⟩, fun hi => ⟨vs, hs', by rw [r.length, hi]; exact Nat.le_refl _⟩, fun d x H2 hd y => ?_⟩
  obtain ⟨e, y⟩ := y
  subst e
  obtain ⟨v, hv, rv⟩ := r.get hd
  have e2 := y vs hs'
  rw [hv] at e2
  cases e2
  exact ⟨G, Grow.refl gh, Rep.le lg d _ rv⟩
theorem it_tup {K : PySem.W.Frag} {F : Hp} {a : Addr} {vs : List V} {ds : List D} (hs : SqT K F a vs) (r : Reps K F ds vs) : ItOk K (Itt K a) F ds := by
  intro i G H' lg gh
  have hs' : SqT K H' a vs := SqT.le gh (SqT.le lg hs)
  refine ⟨fun hi => ⟨vs, vs[i]'(by rw [r.length]; exact hi), hs', by simp [r.length, hi]⟩, fun hi => ⟨vs, hs', by rw [r.length, hi]; exact Nat.le_refl _⟩, fun d x H2 hd y => ?_⟩
  obtain ⟨e, y⟩ := y
  subst e
  obtain ⟨v, hv, rv⟩ := r.get hd
  have e2 := y vs hs'
  rw [hv] at e2
  cases e2
  exact ⟨G, Grow.refl gh, Rep.le lg d _ rv⟩
def iItems (f : En → Out M) (ε : En) : Out (List D) := (f ε).bnd fun m ε' => optO m.toD.seq? ε'
theorem fi_seq {X : Cx} {W : WX} {tg e : Expr} {f : En → Out M} (he : FE X W e f) : FI X W tg e (iItems f) := by
  obtain ⟨t, h1, h2⟩ := he.ex
  refine ⟨_, pi_seq h1, fun ε σ F H φ R ok h => h2 ε σ F H φ _ ok ?_⟩
  unfold iItems at h
  cases q : f ε with
  | bad => rw [q] at h; exact h
  | ex c fs ε' => rw [q] at h; exact h
  | ok m ε1 =>
    rw [q] at h
    simp only [bnd_ok] at h
    intro v F1 H1 φ1 s ok1 st1 r nd ho
    cases q2 : m.toD.seq? with
    | none => rw [q2] at h; exact h.elim
    | some ds =>
      rw [q2] at h
      have of : ∀ a ∈ s, F1 a = none := fun a ha => (ho a ha).1
      have r2 : Rep X.K (frzF F1 H1 s) m.toD v := frz_rep of r
      obtain ⟨a, vs, ev, hs, rs⟩ := dseq_at r2 q2
      have ok2 := ok1.frz ho
      refine ⟨a, ev, ?_⟩
      have st2 := st1.trans (frz_step of ok1.sub)
      rcases hs with hs | hs
      · exact .inl ⟨⟨vs, SqL.le ok2.sub hs⟩, h _ _ H1 φ1 ok2 st2 (it_list hs rs)⟩
      · exact .inr ⟨⟨vs, SqT.le ok2.sub hs⟩, h _ _ H1 φ1 ok2 st2 (it_tup hs rs)⟩
/-- range -/
def rangeD (lo : Int) (n : Nat) : List D := (List.range n).map fun i => .int (lo + ((i : Nat) : Int))
theorem it_range {K : PySem.W.Frag} {F : Hp} {lo : Int} {n : Nat} : ItOk K (Itr lo n) F (rangeD lo n) := by
  intro i G H' lg gh
  have hl : (rangeD lo n).length = n := by unfold rangeD; rw [List.length_map, List.length_range]
  refine ⟨fun hi => by rw [hl] at hi; exact hi, fun hi => by rw [hl] at hi; exact Nat.le_of_eq hi.symm, fun d x H2 hd y => ?_⟩
  obtain ⟨e, y⟩ := y
  subst e
  have hi : i < n := by
    have := (List.getElem?_eq_some_iff.mp hd).1
    rwa [hl] at this
  unfold rangeD at hd
  rw [List.getElem?_map, List.getElem?_range hi] at hd
  cases hd
  exact ⟨G, Grow.refl gh, y⟩
def rOk (i : Int) : Prop := i.natAbs ≤ 2305843009213693952
instance (i : Int) : Decidable (rOk i) := inferInstanceAs (Decidable (_ ≤ _))
theorem rOk_lt {i : Int} (h : rOk i) : -(2 ^ 62) ≤ i ∧ i < 2 ^ 62 := by
  unfold rOk at h
  omega
def iRange1 (fa : En → Out (List Arg)) (ε : En) : Out (List D) := (fa ε).bnd fun as ε' => match rds ε' as with
  | some [.d (.int j)] => if rOk j then .ok (rangeD 0 j.toNat) ε' else .bad
  | _ => .bad
def iRange2 (fa : En → Out (List Arg)) (ε : En) : Out (List D) := (fa ε).bnd fun as ε' => match rds ε' as with
  | some [.d (.int i), .d (.int j)] => if rOk i ∧ rOk j then .ok (rangeD i (j - i).toNat) ε' else .bad
  | _ => .bad
section
variable {X : Cx} {W : WX} {a b : Expr} {tg : Expr} {p pos : Pos}
theorem fi_range1 {fa : En → Out (List Arg)} (hm : X.mg "range" = none) (ha : FA X W [a] fa) (hg : Gl X "range" := by rfl) (hs : starEach [a] X.env = [(false, eval a X.env)] := by rfl) : FI X W tg (.Call (.Name "range" p) [a] [] pos) (iRange1 fa) := by
  obtain ⟨t, h1, h2⟩ := ha.ex
  refine ⟨_, pi_range1 hg hm h1 hs, fun ε σ F H φ R ok h => h2 ε σ F H φ _ ok ?_⟩
  unfold iRange1 at h
  cases q : fa ε with
  | bad => rw [q] at h; exact h
  | ex c fs ε' => rw [q] at h; exact h
  | ok as ε1 =>
    rw [q] at h
    simp only [bnd_ok] at h
    intro vs F1 H1 φ1 ok1 st1 r1
    split at h
    · rename_i j q2
      split at h
      · rename_i hr
        obtain ⟨v, rfl, r⟩ := rms1 (rds_ok ok1 r1 q2) rfl
        exact ⟨j, by rw [show v = _ from r.dat], (rOk_lt hr).1, (rOk_lt hr).2, h _ F1 H1 φ1 ok1 st1 it_range⟩
      · exact h.elim
    · exact h.elim
theorem fi_range2 {fa : En → Out (List Arg)} (hm : X.mg "range" = none) (ha : FA X W [a, b] fa) (hg : Gl X "range" := by rfl) (hs : starEach [a, b] X.env = [(false, eval a X.env), (false, eval b X.env)] := by rfl) (hs2 : starEach [b] X.env = [(false, eval b X.env)] := by rfl) : FI X W tg (.Call (.Name "range" p) [a, b] [] pos) (iRange2 fa) := by
  obtain ⟨t, h1, h2⟩ := ha.ex
  refine ⟨_, pi_range2 hg hm h1 hs hs2, fun ε σ F H φ R ok h => h2 ε σ F H φ _ ok ?_⟩
  unfold iRange2 at h
  cases q : fa ε with
  | bad => rw [q] at h; exact h
  | ex c fs ε' => rw [q] at h; exact h
  | ok as ε1 =>
    rw [q] at h
    simp only [bnd_ok] at h
    intro vs F1 H1 φ1 ok1 st1 r1
    split at h
    · rename_i i j q2
      split at h
      · rename_i hr
        obtain ⟨v, u, rfl, r, r'⟩ := rms2 (rds_ok ok1 r1 q2) rfl
        exact ⟨i, j, by rw [show v = _ from r.dat, show u = _ from r'.dat], ⟨(rOk_lt hr.1).1, (rOk_lt hr.1).2, (rOk_lt hr.2).1, (rOk_lt hr.2).2⟩, h _ F1 H1 φ1 ok1 st1 it_range⟩
      · exact h.elim
    · exact h.elim
end
/-! ### for, while -/
def loopF (set : D → En → Option En) (body : En → SOut) : List D → En → SOut
  | [], ε => .nx ε
  | d :: ds, ε => match set d ε with
    | some ε1 => (match body ε1 with
      | .nx ε2 => loopF set body ds ε2
      | .ct ε2 => loopF set body ds ε2
      | .bk ε2 => .nx ε2
      | .rt m ε2 => .rt m ε2
      | .ex c fs ε2 => .ex c fs ε2
      | .bad => .bad)
    | none => .bad
def sFor (it : En → Out (List D)) (set : D → En → Option En) (body : En → SOut) (ε : En) : SOut := match it ε with
  | .ok ds ε1 => loopF set body ds ε1
  | .ex c fs ε' => .ex c fs ε'
  | .bad => .bad
theorem passes_tr {X : Cx} : True := trivial
section
variable {X : Cx} {W : WX} {fx : Nat → Prop} {ts : List Nat} {tg iter c : Expr} {body : List Stmt} {pos : Pos}
theorem st_for {it : En → Out (List D)} {set : D → En → Option En} {f : En → SOut} (hp : PassesOwn (model X.prog X.w) X.A X.env X.xe) (hc : X.calm = true) (hfx : ∀ i ∈ ts, ¬ fx i) (hi : FI X W tg iter it) (hg : FG X ts tg set) (hb : FSs X W fx body f)
    (hs : ∀ x, foldedSetIterable iter X.env x = pure x := by intro _; rfl) : FS X W fx (.For tg iter body [] pos) (sFor it set f) := by
  obtain ⟨wi, p1, q1⟩ := hi.ex
  obtain ⟨g, p2, q2⟩ := hg.ex
  obtain ⟨tb, p3, q3⟩ := hb.ex
  refine ⟨_, ps_for hp hc p1 p2 p3 hs, fun ε σ F H φ D ok h => q1 ε σ F H φ _ ok ?_⟩
  unfold sFor at h
  cases q : it ε with
  | bad => rw [q] at h; exact h
  | ex c fs ε' => rw [q] at h; exact PostX.toS h
  | ok ds ε1 =>
    rw [q] at h
    intro J F1 H1 φ1 ok1 st1 hJ
    have h' : PostS X.K W fx σ F1 H1 (Own φ1) D (loopF set f ds ε1) := PostS.step st1 Fx.refl h
    clear h
    refine ⟨fun i m σi Hi => m = ds.length - i ∧ i ≤ ds.length ∧ ∃ εi Fi φi, EnvOk X.K Fi Hi εi σi φi ∧ Step F1 H1 (Own φ1) Fi Hi (Own φi) ∧ Fx fx σ σi ∧ PostS X.K W fx σi Fi Hi (Own φi) D (loopF set f (ds.drop i) εi),
      ⟨ds.length, by simp, Nat.zero_le _, ε1, F1, φ1, ok1, Step.refl fun _ z => z, Fx.refl, h'⟩, ?_⟩
    rintro i m σi Hi ⟨rfl, hile, εi, Fi, φi, oki, sti, fxi, hi⟩
    obtain ⟨go, stop, yld⟩ := hJ i Fi Hi sti.f oki.sub
    by_cases hlt : i < ds.length
    · refine .inr ⟨go hlt, fun σ' H' => ∃ ε' F' φ', EnvOk X.K F' H' ε' σ' φ' ∧ Step F1 H1 (Own φ1) F' H' (Own φ') ∧ Fx fx σ σ' ∧ PostS X.K W fx σ' F' H' (Own φ') D (loopF set f (ds.drop (i + 1)) ε'), fun σ' H' q => ⟨ds.length - (i + 1), by omega, rfl, hlt, q⟩, fun x H2 y => ?_⟩
      obtain ⟨G2, gr, rx⟩ := yld ds[i] x H2 (by simp [hlt]) y
      have ok2 := oki.grow gr
      have st2 : Step Fi Hi (Own φi) G2 H2 (Own φi) := gr.step.imp fun _ z => .inl z
      rw [List.drop_eq_getElem_cons hlt] at hi
      unfold loopF at hi
      cases qs : set ds[i] εi with
      | none => rw [qs] at hi; exact hi.elim
      | some ε2 =>
        rw [qs] at hi
        simp only at hi
        refine q2 ds[i] x εi ε2 σi G2 H2 φi _ ok2 rx qs fun σ3 φ3 ok3 own3 k3 l3 => ?_
        have st3 : Step Fi Hi (Own φi) G2 H2 (Own φ3) := st2.imp own3
        have fx3 : Fx fx σi σ3 := fun j hj => k3 j fun z => hfx j z hj
        refine q3 ε2 σ3 G2 H2 φ3 _ ok3 ?_
        have hi3 := PostS.step (σ1 := σ3) st3 fx3 hi
        cases qb : f ε2 with
        | nx ε3 =>
          rw [qb] at hi3
          exact fun σ' F' H' φ' ok' st' fx' => ⟨ε3, F', φ', ok', (sti.trans st3).trans st', fun j hj => (fx' j hj).trans ((fx3 j hj).trans (fxi j hj)), PostS.step st' fx' hi3⟩
        | ct ε3 =>
          rw [qb] at hi3
          exact fun σ' F' H' φ' ok' st' fx' => ⟨ε3, F', φ', ok', (sti.trans st3).trans st', fun j hj => (fx' j hj).trans ((fx3 j hj).trans (fxi j hj)), PostS.step st' fx' hi3⟩
        | bk ε3 => rw [qb] at hi3; exact hi3
        | rt m ε3 => rw [qb] at hi3; exact hi3
        | ex c fs ε3 => rw [qb] at hi3; exact hi3
        | bad => rw [qb] at hi3; exact hi3
    · have hie : i = ds.length := by omega
      refine .inl ⟨stop hie, ?_⟩
      subst hie
      rw [List.drop_length] at hi
      exact hi σi Fi Hi φi oki (Step.refl fun _ z => z) Fx.refl
/-- while: the turns are counted down from a bound -/
def loopW (t : En → Out Bool) (body : En → SOut) : Nat → En → SOut
  | 0, _ => .bad
  | n + 1, ε => match t ε with
    | .ok true ε1 => (match body ε1 with
      | .nx ε2 => loopW t body n ε2
      | .ct ε2 => loopW t body n ε2
      | .bk ε2 => .nx ε2
      | .rt m ε2 => .rt m ε2
      | .ex c fs ε2 => .ex c fs ε2
      | .bad => .bad)
    | .ok false ε1 => .nx ε1
    | .ex c fs ε' => .ex c fs ε'
    | .bad => .bad
def sWhile (fuel : En → Nat) (t : En → Out Bool) (body : En → SOut) (ε : En) : SOut := loopW t body (fuel ε) ε
theorem st_while (fuel : En → Nat) {t : En → Out Bool} {f : En → SOut} (hp : PassesOwn (model X.prog X.w) X.A X.env X.xe) (hc : FT X W c t) (hb : FSs X W fx body f) : FS X W fx (.While c body [] pos) (sWhile fuel t f) := by
  obtain ⟨tc, p1, q1⟩ := hc.ex
  obtain ⟨tb, p3, q3⟩ := hb.ex
  refine ⟨_, ps_while hp p1 p3, fun ε σ F H φ D ok h => ?_⟩
  unfold sWhile at h
  refine ⟨fun m σi Hi => ∃ εi Fi φi, EnvOk X.K Fi Hi εi σi φi ∧ PostS X.K W fx σi Fi Hi (Own φi) D (loopW t f m εi), ⟨fuel ε, ε, F, φ, ok, h⟩, ?_⟩
  rintro m σi Hi ⟨εi, Fi, φi, oki, hi⟩
  refine q1 εi σi Fi Hi φi _ oki ?_
  cases m with
  | zero => exact hi.elim
  | succ m =>
    unfold loopW at hi
    cases q : t εi with
    | bad => rw [q] at hi; exact hi
    | ex c fs ε' => rw [q] at hi; exact PostX.toS hi
    | ok b ε1 =>
      rw [q] at hi
      intro F1 H1 φ1 ok1 st1
      cases b with
      | false =>
        simp only at hi
        exact hi σi F1 H1 φ1 ok1 st1 Fx.refl
      | true =>
        simp only at hi
        refine ⟨fun σ' H' => ∃ ε' F' φ', EnvOk X.K F' H' ε' σ' φ' ∧ PostS X.K W fx σ' F' H' (Own φ') D (loopW t f m ε'), fun σ' H' q => ⟨m, Nat.lt_succ_self _, q⟩, ?_⟩
        refine q3 ε1 σi F1 H1 φ1 _ ok1 ?_
        have hi1 := PostS.step (σ1 := σi) st1 Fx.refl hi
        cases qb : f ε1 with
        | nx ε3 =>
          rw [qb] at hi1
          exact fun σ' F' H' φ' ok' st' fx' => ⟨ε3, F', φ', ok', PostS.step st' fx' hi1⟩
        | ct ε3 =>
          rw [qb] at hi1
          exact fun σ' F' H' φ' ok' st' fx' => ⟨ε3, F', φ', ok', PostS.step st' fx' hi1⟩
        | bk ε3 => rw [qb] at hi1; exact hi1
        | rt m ε3 => rw [qb] at hi1; exact hi1
        | ex c fs ε3 => rw [qb] at hi1; exact hi1
        | bad => rw [qb] at hi1; exact hi1
end
end FL
namespace FL
open PySem PySem.Spec PyProof.Rows L2
/-! ### readings that do not depend on the place -/
def tF (K : PySem.W.Frag) (W : WX) (f : En → Out M) : TE := fun σ H Q => ∃ ε F φ, EnvOk K F H ε σ φ ∧ PostE K W σ F H (Own φ) Q (f ε)
def tFT (K : PySem.W.Frag) (W : WX) (f : En → Out Bool) : TT := fun σ H Q => ∃ ε F φ, EnvOk K F H ε σ φ ∧ PostT K W σ F H (Own φ) Q (f ε)
def tFG (K : PySem.W.Frag) (ts : List Nat) (set : D → En → Option En) : TG := fun v σ H Q => ∃ d ε ε' F φ, EnvOk K F H ε σ φ ∧ Rep K F d v ∧ set d ε = some ε' ∧
  ∀ σ' φ', EnvOk K F H ε' σ' φ' → (∀ a, Own φ' a → Own φ a) → (∀ j, j ∉ ts → σ'[j]? = σ[j]?) → σ'.length = σ.length → Q σ' H
structure FTs (X : Cx) (W : WX) (ifs : List Expr) (f : En → Out Bool) : Prop where
  ex : ∃ t, PTs X ifs t ∧ ∀ ε σ F H φ Q, EnvOk X.K F H ε σ φ → PostT X.K W σ F H (Own φ) Q (f ε) → t σ H Q
section
variable {X : Cx} {W : WX} {e : Expr} {ifs : List Expr} {ts : List Nat}
theorem FE.pe {f : En → Out M} (h : FE X W e f) : PE X e (tF X.K W f) := by
  obtain ⟨t, h1, h2⟩ := h.ex
  exact ⟨fun pins s σ H Q I ⟨ε, F, φ, ok, p⟩ => h1.run pins s σ H Q I (h2 ε σ F H φ Q ok p)⟩
theorem FTs.pt {f : En → Out Bool} (h : FTs X W ifs f) : PTs X ifs (tFT X.K W f) := by
  obtain ⟨t, h1, h2⟩ := h.ex
  exact ⟨fun pins s σ H Q I ⟨ε, F, φ, ok, p⟩ => h1.run pins s σ H Q I (h2 ε σ F H φ Q ok p)⟩
theorem FG.pg {set : D → En → Option En} (h : FG X ts e set) : PG X e (tFG X.K ts set) := by
  obtain ⟨t, h1, h2⟩ := h.ex
  exact ⟨fun pins s σ H v u Q I rv ⟨d, ε, ε', F, φ, ok, r, es, k⟩ => h1.run pins s σ H v u Q I rv (h2 d v ε ε' σ F H φ Q ok r es k)⟩
def tOne (ε : En) : Out Bool := .ok true ε
theorem fts_nil : FTs X W [] tOne := ⟨_, pts_nil, fun ε σ F H φ Q ok h => h F H φ ok (Step.refl fun _ z => z)⟩
theorem fts_one {f : En → Out Bool} (h : FT X W e f) : FTs X W [e] f := by
  obtain ⟨t, h1, h2⟩ := h.ex
  exact ⟨t, pts_one h1, h2⟩
end
/-! ### slots set all at once -/
def setA {α : Type} (g : Nat → α) (l : List α) : List Nat → List α
  | [] => l
  | v :: vs => (setA g l vs).set v (g v)
theorem setA_length {α : Type} (g : Nat → α) (l : List α) : ∀ vs, (setA g l vs).length = l.length
  | [] => rfl
  | v :: vs => by unfold setA; rw [List.length_set, setA_length g l vs]
theorem setA_get {α : Type} (g : Nat → α) (l : List α) (j : Nat) : ∀ vs, (setA g l vs)[j]? = if j ∈ vs then (l[j]?).map (fun _ => g j) else l[j]?
  | [] => by simp [setA]
  | v :: vs => by
    unfold setA
    by_cases h : v = j
    · subst h
      rw [List.getElem?_set_self', setA_get g l v vs]
      simp only [List.mem_cons, true_or, if_true]
      split
      · cases l[v]? <;> rfl
      · cases l[v]? <;> rfl
    · rw [List.getElem?_set_ne h, setA_get g l j vs]
      have e : (j ∈ v :: vs) ↔ j ∈ vs := by
        rw [List.mem_cons]
        exact ⟨fun q => q.elim (fun q => absurd q.symm h) id, .inr⟩
      by_cases q : j ∈ vs
      · rw [if_pos q, if_pos (e.mpr q)]
      · rw [if_neg q, if_neg (fun z => q (e.mp z))]
theorem wipe_setA (σ : L2.St) : ∀ vs, wipe σ vs = setA (fun _ => none) σ vs
  | [] => rfl
  | v :: vs => by unfold wipe setA; rw [wipe_setA σ vs]
def wipeE (ε : En) (vs : List Nat) : En := setA (fun _ => none) ε vs
def keepD (ε : En) (j : Nat) : Option M := match ε[j]? with
  | some (some (.d x)) => some (.d x)
  | _ => none
/-- behind a comprehension: its own names are as they were -/
def resE (ε0 ε : En) (vs : List Nat) : En := setA (keepD ε0) ε vs
theorem wipe_eq {σ σ2 : L2.St} {vs : List Nat} (hl : σ2.length = (wipe σ vs).length) (h : ∀ j, j ∉ vs → σ2[j]? = (wipe σ vs)[j]?) : wipe σ2 vs = wipe σ vs := by
  apply List.ext_getElem?
  intro j
  rw [wipe_length] at hl
  rw [wipe_setA, wipe_setA, setA_get, setA_get]
  by_cases q : j ∈ vs
  · rw [if_pos q, if_pos q]
    by_cases z : j < σ.length
    · rw [List.getElem?_eq_getElem z, List.getElem?_eq_getElem (by rw [hl]; exact z)]
      rfl
    · rw [List.getElem?_eq_none (by omega), List.getElem?_eq_none (by omega)]
  · rw [if_neg q, if_neg q, h j q, wipe_setA, setA_get, if_neg q]
section
variable {K : PySem.W.Frag} {F H : Hp} {ε : En} {σ : L2.St} {φ : Nat → List Addr}
def phiW (φ : Nat → List Addr) (vs : List Nat) : Nat → List Addr := fun j => if j ∈ vs then [] else φ j
theorem phiW_own {vs : List Nat} {a : Addr} (h : Own (phiW φ vs) a) : Own φ a := by
  obtain ⟨j, hj⟩ := h
  unfold phiW at hj
  split at hj
  · cases hj
  · exact ⟨j, hj⟩
theorem phiW_mem {vs : List Nat} {j : Nat} {a : Addr} (h : a ∈ phiW φ vs j) : a ∈ φ j := by
  unfold phiW at h
  split at h
  · cases h
  · exact h
theorem EnvOk.wipe (ok : EnvOk K F H ε σ φ) (vs : List Nat) : EnvOk K F H (wipeE ε vs) (L2.wipe σ vs) (phiW φ vs) where
  sub := ok.sub
  len := by rw [wipeE, setA_length, wipe_length]; exact ok.len
  slot := fun j m hj => by
    unfold wipeE at hj
    rw [setA_get] at hj
    rw [wipe_setA, setA_get]
    unfold phiW
    by_cases q : j ∈ vs
    · rw [if_pos q] at hj
      cases z : ε[j]? with
      | none => rw [z] at hj; cases hj
      | some w => rw [z] at hj; cases hj
    · rw [if_neg q] at hj ⊢
      rw [if_neg q]
      exact ok.slot j m hj
  emp := fun j hj => by
    unfold phiW
    by_cases q : j ∈ vs
    · rw [if_pos q]
    · rw [if_neg q]
      refine ok.emp j fun m z => hj m ?_
      unfold wipeE
      rw [setA_get, if_neg q]
      exact z
  nd := fun j => by
    unfold phiW
    split
    · exact List.nodup_nil
    · exact ok.nd j
  dj := fun i j a h1 h2 => ok.dj i j a (phiW_mem h1) (phiW_mem h2)
  off := fun j a h => ok.off j a (phiW_mem h)
/-- the comprehension's end -/
theorem EnvOk.unwipe {F0 H0 : Hp} {ε0 : En} {φ0 : Nat → List Addr} {vs : List Nat} (ok0 : EnvOk K F0 H0 ε0 σ φ0) (lf : Le F0 F) (ok : EnvOk K F H ε (L2.wipe σ vs) φ) : EnvOk K F H (resE ε0 ε vs) σ (phiW φ vs) where
  sub := ok.sub
  len := by
    have := ok.len
    rw [wipe_length] at this
    rw [resE, setA_length]; exact this
  slot := fun j m hj => by
    unfold resE at hj
    rw [setA_get] at hj
    unfold phiW
    by_cases q : j ∈ vs
    · rw [if_pos q] at hj ⊢
      cases z : ε[j]? with
      | none => rw [z] at hj; cases hj
      | some w =>
        rw [z] at hj
        have hk : keepD ε0 j = some m := Option.some.inj hj
        unfold keepD at hk
        split at hk
        · rename_i x hx
          cases hk
          obtain ⟨v, hv, r⟩ := ok0.slot j _ hx
          exact ⟨v, hv, rfl, Rep.le lf x v r.2⟩
        · cases hk
    · rw [if_neg q] at hj ⊢
      obtain ⟨v, hv, r⟩ := ok.slot j m hj
      rw [wipe_setA, setA_get, if_neg q] at hv
      exact ⟨v, hv, r⟩
  emp := fun j hj => by
    unfold phiW
    by_cases q : j ∈ vs
    · rw [if_pos q]
    · rw [if_neg q]
      refine ok.emp j fun m z => hj m ?_
      unfold resE
      rw [setA_get, if_neg q]
      exact z
  nd := fun j => by
    unfold phiW
    split
    · exact List.nodup_nil
    · exact ok.nd j
  dj := fun i j a h1 h2 => ok.dj i j a (phiW_mem h1) (phiW_mem h2)
  off := fun j a h => ok.off j a (phiW_mem h)
/-! ### objects that stand aside -/
structure Aside (F H : Hp) (φ : Nat → List Addr) (S : List Addr) : Prop where
  f : ∀ a ∈ S, F a = none
  o : ∀ a ∈ S, ¬ Own φ a
  h : ∀ a ∈ S, H a ≠ none
theorem Aside.step {S : List Addr} {F' H' : Hp} {φ' : Nat → List Addr} {T : Addr → Prop} (A : Aside F H φ S) (st : Step F H (Own φ) F' H' (fun a => Own φ' a ∨ T a)) : Aside F' H' φ' S ∧ (∀ a ∈ S, ∀ o, H a = some o → H' a = some o) ∧ ∀ a ∈ S, ¬ T a := by
  have keep : ∀ a ∈ S, ∀ o, H a = some o → H' a = some o := fun a ha o e => st.h a o (A.o a ha) e
  have not' : ∀ a ∈ S, ¬ (Own φ' a ∨ T a) := fun a ha z => (st.o a z).elim (A.o a ha) (A.h a ha)
  refine ⟨⟨fun a ha => ?_, fun a ha z => not' a ha (.inl z), fun a ha z => A.h a ha (st.t a z)⟩, keep, fun a ha z => not' a ha (.inr z)⟩
  cases q : F' a with
  | none => rfl
  | some o =>
    rcases st.n a (by rw [q]; exact nofun) with z | z | z
    · exact absurd (A.f a ha) z
    · exact absurd z (A.o a ha)
    · exact absurd z (A.h a ha)
theorem Step.own {F' H' : Hp} {φ' : Nat → List Addr} (st : Step F H (Own φ) F' H' (Own φ')) : Step F H (Own φ) F' H' (fun a => Own φ' a ∨ False) := st.imp fun _ z => z.elim id False.elim
theorem Step.aside {F' H' : Hp} {P P' T : Addr → Prop} (st : Step F H P F' H' P') : Step F H (fun a => P a ∨ T a) F' H' (fun a => P' a ∨ T a) where
  f := st.f
  h := fun a o q e => st.h a o (fun z => q (.inl z)) e
  o := fun a z => z.elim (fun z => (st.o a z).elim (fun z => .inl (.inl z)) .inr) fun z => .inl (.inr z)
  n := fun a z => (st.n a z).elim .inl fun z => z.elim (fun z => .inr (.inl (.inl z))) fun z => .inr (.inr z)
  t := st.t
/-- one of them is written -/
theorem EnvOk.aside {p : Addr} {o : HO} (ok : EnvOk K F H ε σ φ) (hf : F p = none) (ho : ¬ Own φ p) : EnvOk K F (upd H p o) ε σ φ where
  sub := fun a u e => by rw [upd_ne (ne_of_none e hf)]; exact ok.sub a u e
  len := ok.len
  slot := fun i m hm => by
    obtain ⟨v, hv, r⟩ := ok.slot i m hm
    exact ⟨v, hv, RM.mv (Le.refl _) m v _ (fun a ha u e => by rw [upd_ne (fun z : a = p => ho (z ▸ ⟨i, ha⟩))]; exact e) r⟩
  emp := ok.emp
  nd := ok.nd
  dj := ok.dj
  off := ok.off
theorem upd_step {p : Addr} {o o' : HO} {P : Addr → Prop} (hp : P p) (he : H p = some o') : Step F H P F (upd H p o) P where
  f := Le.refl _
  h := fun a u q e => by rw [upd_ne (fun z : a = p => q (z ▸ hp))]; exact e
  o := fun a z => .inl z
  n := fun a z => .inl z
  t := fun a z => by
    by_cases q : a = p
    · subst q; rw [upd_same] at z; cases z
    · rw [upd_ne q] at z; exact z
theorem RMs.append : ∀ {ms : List M} {vs : List V} {fp : List Addr} {m : M} {v : V} {s : List Addr}, RMs K F H ms vs fp → RM K F H m v s → RMs K F H (ms ++ [m]) (vs ++ [v]) (fp ++ s)
  | [], _, _, m, v, s, h, r => by
    obtain ⟨e1, e2⟩ := h
    subst e1; subst e2
    exact ⟨v, [], s, [], rfl, by simp, r, rfl, rfl⟩
  | m0 :: ms, _, _, m, v, s, h, r => by
    obtain ⟨u, ws, f1, f2, e1, e2, q, r2⟩ := h
    subst e1; subst e2
    exact ⟨u, ws ++ [v], f1, f2 ++ s, rfl, by rw [List.append_assoc], q, RMs.append r2 r⟩
theorem RMs.length : ∀ {ms : List M} {vs : List V} {fp : List Addr}, RMs K F H ms vs fp → vs.length = ms.length
  | [], _, _, h => by rw [h.1]; rfl
  | m :: ms, _, _, ⟨v, ws, f1, f2, e, _, _, r⟩ => by rw [e, List.length_cons, List.length_cons, RMs.length r]
theorem RMs.ofD : ∀ {xs : List D} {vs : List V} {fp : List Addr}, RMs K F H (xs.map M.d) vs fp → Reps K F xs vs ∧ fp = []
  | [], _, _, h => h
  | x :: xs, _, _, ⟨v, ws, f1, f2, e1, e2, q, r⟩ => by
    obtain ⟨r1, r2⟩ := RMs.ofD (xs := xs) r
    subst e1; subst e2
    have hf : f1 = [] := q.1
    subst hf; subst r2
    exact ⟨⟨v, ws, rfl, q.2, r1⟩, rfl⟩
end
/-! ### comprehensions -/
def lcL (set : D → En → Option En) (tt : En → Out Bool) (f : En → Out M) (fz : M → M) (vs : List Nat) : List D → En → Option (List M × En)
  | [], ε => some ([], ε)
  | d :: ds, ε => match set d ε with
    | some ε1 => match tt ε1 with
      | .ok true ε2 => (match f ε2 with
        | .ok m ε3 => (match lcL set tt f fz vs ds (wipeE ε3 vs) with
          | some (r, ε4) => some (fz m :: r, ε4)
          | none => none)
        | _ => none)
      | .ok false ε2 => lcL set tt f fz vs ds (wipeE ε2 vs)
      | _ => none
    | none => none
def fzD (m : M) : M := .d m.toD
def eLcM (fi : En → Out (List D)) (set : D → En → Option En) (tt : En → Out Bool) (f : En → Out M) (fz : M → M) (vs : List Nat) (ε : En) : Out (List M) := (fi ε).bnd fun ds ε1 =>
  if ds.length ≤ lim then (match lcL set tt f fz vs ds (wipeE ε1 vs) with
    | some (ms, ε2) => .ok ms (resE ε1 ε2 vs)
    | none => .bad) else .bad
def eLc (fi : En → Out (List D)) (set : D → En → Option En) (tt : En → Out Bool) (f : En → Out M) (vs : List Nat) (ε : En) : Out M := (eLcM fi set tt f fzD vs ε).bnd fun ms ε' => .ok (.ol (ms.map M.toD)) ε'
def eLcO (fi : En → Out (List D)) (set : D → En → Option En) (tt : En → Out Bool) (f : En → Out M) (vs : List Nat) (ε : En) : Out M := (eLcM fi set tt f id vs ε).bnd fun ms ε' => .ok (.on ms) ε'
theorem lcL_D {set : D → En → Option En} {tt : En → Out Bool} {f : En → Out M} {vs : List Nat} : ∀ {ds : List D} {ε : En} {ms : List M} {ε' : En}, lcL set tt f fzD vs ds ε = some (ms, ε') → ms = (ms.map M.toD).map M.d
  | [], _, _, _, h => by
    unfold lcL at h
    cases h; rfl
  | d :: ds, ε, ms, ε', h => by
    unfold lcL at h
    split at h
    · split at h
      · split at h
        · split at h
          · rename_i r ε4 q
            cases h
            have := lcL_D q
            show _ = M.d _ :: _
            rw [← this]; rfl
          · cases h
        · cases h
      · exact lcL_D h
      · cases h
    · cases h
abbrev WN : WX := fun _ _ _ _ => False
section
variable {X : Cx} {W : WX}
theorem lc_run {own : List (Str × Nat)} {ts : List Nat} {fi : En → Out (List D)} {set : D → En → Option En} {tt : En → Out Bool} {f : En → Out M} {fz : M → M} {wi : TI} (hfz : fz = id ∨ fz = fzD)
    (hts : ∀ i ∈ ts, i ∈ own.map (·.2)) (hi : ∀ ε σ F H φ R, EnvOk X.K F H ε σ φ → PostI X.K W σ F H (Own φ) R (fi ε) → wi σ H R)
    {ε : En} {σ : L2.St} {F H : Hp} {φ : Nat → List Addr} {Q : VK} (ok : EnvOk X.K F H ε σ φ)
    (h : PostE X.K W σ F H (Own φ) Q ((eLcM fi set tt f fz (own.map (·.2)) ε).bnd fun ms ε' => .ok (.on ms) ε')) :
    tLc wi (tFG X.K ts set) (tFT X.K WN tt) (tF X.K WN f) (own.map (·.2)) σ H Q := by
  generalize hvs : own.map (·.2) = vs at *
  refine hi ε σ F H φ _ ok ?_
  unfold eLcM at h
  cases q : fi ε with
  | bad => rw [q] at h; exact h
  | ex c fs ε' => rw [q] at h; exact h
  | ok ds ε1 =>
    rw [q] at h
    simp only [bnd_ok] at h
    intro J F1 H1 φ1 ok1 st1 it
    split at h
    case isFalse => exact h.elim
    rename_i hlim
    cases q2 : lcL set tt f fz vs ds (wipeE ε1 vs) with
    | none => rw [q2] at h; exact h.elim
    | some r0 =>
      obtain ⟨ms, ε2⟩ := r0
      rw [q2] at h
      simp only [bnd_ok] at h
      intro Dd hD
      refine ⟨fun i m Hi => i ≤ ds.length ∧ m = ds.length - i ∧ ∃ accM acc fpA εi Fi φi r, Hi Dd = some (.lst acc) ∧ RMs X.K Fi Hi accM acc fpA ∧ EnvOk X.K Fi Hi εi (L2.wipe σ vs) φi ∧ Aside Fi Hi φi (Dd :: fpA) ∧ (Dd :: fpA).Nodup ∧
        Step F1 H1 (Own φ1) Fi Hi (fun a => Own φi a ∨ a ∈ Dd :: fpA) ∧ accM.length ≤ i ∧ lcL set tt f fz vs (ds.drop i) εi = some (r, ε2) ∧ accM ++ r = ms, ⟨ds.length, Nat.zero_le _, rfl, [], [], [], _, F1, _, ms, upd_same, ⟨rfl, rfl⟩, (ok1.wipe vs).grow (grow_o ok1.sub hD _), ?_, by simp, ?_, Nat.zero_le _, q2, rfl⟩, ?_⟩
      · refine ⟨fun a ha => ?_, fun a ha z => ?_, fun a ha => ?_⟩
        · rw [List.mem_singleton] at ha; subst ha; exact Le.none ok1.sub hD
        · rw [List.mem_singleton] at ha; subst ha
          obtain ⟨j, hj⟩ := phiW_own z
          exact ok1.tr hj hD
        · rw [List.mem_singleton] at ha; subst ha; rw [upd_same]; exact nofun
      · exact (grow_o ok1.sub hD _).step.imp fun a z => z.elim (fun z => .inl (phiW_own z)) .inr
      · rintro i m Hi ⟨hile, hm, accM, acc, fpA, εi, Fi, φi, r, eD, rA, oki, asd, nd, sti, hal, hr, ems⟩
        obtain ⟨itgo, itstop, ityld⟩ := it i Fi Hi sti.f oki.sub
        by_cases hlt : i < ds.length
        · refine .inr ⟨itgo hlt, fun H' => ∃ m' , m' < m ∧ (i + 1 ≤ ds.length ∧ m' = ds.length - (i + 1) ∧ ∃ accM acc fpA εi Fi φi r, H' Dd = some (.lst acc) ∧ RMs X.K Fi H' accM acc fpA ∧ EnvOk X.K Fi H' εi (L2.wipe σ vs) φi ∧ Aside Fi H' φi (Dd :: fpA) ∧ (Dd :: fpA).Nodup ∧
            Step F1 H1 (Own φ1) Fi H' (fun a => Own φi a ∨ a ∈ Dd :: fpA) ∧ accM.length ≤ i + 1 ∧ lcL set tt f fz vs (ds.drop (i + 1)) εi = some (r, ε2) ∧ accM ++ r = ms), fun H' z => z, fun x H2 y => ?_⟩
          obtain ⟨G2, g2, rx⟩ := ityld ds[i] x H2 (by rw [List.getElem?_eq_getElem hlt]) y
          have ok2 := oki.grow g2
          have st2 : Step Fi Hi (Own φi) G2 H2 (Own φi) := g2.step.imp fun a z => .inl z
          obtain ⟨as2, kp2, _⟩ := asd.step st2.own
          rw [List.drop_eq_getElem_cons hlt] at hr
          unfold lcL at hr
          cases qs : set ds[i] εi with
          | none => rw [qs] at hr; cases hr
          | some ε3 =>
            rw [qs] at hr
            simp only at hr
            refine ⟨ds[i], εi, ε3, G2, φi, ok2, rx, qs, fun σ3 φ3 ok3 own3 k3 l3 => ⟨wipe_eq l3 (fun j hj => k3 j fun z => hj (hts j z)), ?_⟩⟩
            have we : L2.wipe σ3 vs = L2.wipe σ vs := wipe_eq l3 (fun j hj => k3 j fun z => hj (hts j z))
            have st3 : Step Fi Hi (Own φi) G2 H2 (Own φ3) := st2.imp own3
            obtain ⟨as3, kp3, _⟩ := asd.step st3.own
            refine ⟨ε3, G2, φ3, ok3, ?_⟩
            cases qt : tt ε3 with
            | bad => rw [qt] at hr; cases hr
            | ex c fs ε' => rw [qt] at hr; cases hr
            | ok b ε4 =>
              rw [qt] at hr
              intro F4 H4 φ4 ok4 st4
              obtain ⟨as4, kp4, _⟩ := as3.step st4.own
              have rA4 : RMs X.K F4 H4 accM acc fpA := RMs.mv (g2.f.trans st4.f) accM acc fpA (fun a ha o e => kp4 a (List.mem_cons_of_mem _ ha) o (kp3 a (List.mem_cons_of_mem _ ha) o e)) rA
              have eD4 : H4 Dd = some (.lst acc) := kp4 _ List.mem_cons_self _ (kp3 _ List.mem_cons_self _ eD)
              have sti4 : Step F1 H1 (Own φ1) F4 H4 (fun a => Own φ4 a ∨ a ∈ Dd :: fpA) := sti.trans ((st3.trans st4).aside)
              cases b with
              | false =>
                simp only [Bool.false_eq_true, if_false] at hr ⊢
                have ok5 := ok4.wipe vs
                rw [we] at ok5
                refine ⟨ds.length - (i + 1), by omega, by omega, rfl, accM, acc, fpA, _, F4, _, r, eD4, rA4, ok5, ⟨as4.f, fun a ha z => as4.o a ha (phiW_own z), as4.h⟩, nd, sti4.imp fun a z => z.elim (fun z => .inl (phiW_own z)) .inr, by omega, hr, ems⟩
              | true =>
                simp only [if_true] at hr ⊢
                refine ⟨ε4, F4, φ4, ok4, ?_⟩
                cases qf : f ε4 with
                | bad => rw [qf] at hr; cases hr
                | ex c fs ε' => rw [qf] at hr; cases hr
                | ok m2 ε5 =>
                  rw [qf] at hr
                  simp only at hr
                  cases ql : lcL set tt f fz vs (ds.drop (i + 1)) (wipeE ε5 vs) with
                  | none => rw [ql] at hr; cases hr
                  | some r5 =>
                    obtain ⟨rr, ε6⟩ := r5
                    rw [ql] at hr
                    simp only [Option.some.injEq, Prod.mk.injEq] at hr
                    obtain ⟨er, ee⟩ := hr
                    subst er; subst ee
                    intro v F5 H5 φ5 s ok5 st5 rm ndS off
                    obtain ⟨as5, kp5, ns5⟩ := as4.step st5
                    have rA5 : RMs X.K F5 H5 accM acc fpA := RMs.mv st5.f accM acc fpA (fun a ha o e => kp5 a (List.mem_cons_of_mem _ ha) o e) rA4
                    have eD5 : H5 Dd = some (.lst acc) := kp5 _ List.mem_cons_self _ eD4
                    have hacc : acc.length < sizeLine := by
                      rw [rA5.length, ← lim_eq]; omega
                    refine ⟨acc, eD5, hacc, ds.length - (i + 1), by omega, by omega, rfl, ?_⟩
                    have of : ∀ a ∈ s, F5 a = none := fun a ha => (off a ha).1
                    have fD : F5 Dd = none := as5.f _ List.mem_cons_self
                    have oD : ¬ Own φ5 Dd := as5.o _ List.mem_cons_self
                    have nfp : ∀ a ∈ fpA, a ≠ Dd := fun a ha z => by
                      rw [List.nodup_cons] at nd
                      exact nd.1 (z ▸ ha)
                    have nsD : ∀ a ∈ s, a ≠ Dd := fun a ha z => ns5 Dd List.mem_cons_self (z ▸ ha)
                    have sti5 := (sti4.trans (st5.aside (T := fun a => a ∈ Dd :: fpA)))
                    rcases hfz with rfl | rfl
                    · -- owned
                      have ok6 := (ok5.aside (o := .lst (acc ++ [v])) fD oD).wipe vs
                      rw [we] at ok6
                      refine ⟨accM ++ [m2], acc ++ [v], fpA ++ s, _, F5, _, rr, upd_same, ?_, ok6, ?_, ?_, ?_, by rw [List.length_append, List.length_singleton]; omega, ql, by rw [← ems, List.append_assoc]; rfl⟩
                      · have up : ∀ (a : Addr), a ≠ Dd → ∀ o, H5 a = some o → upd H5 Dd (.lst (acc ++ [v])) a = some o := fun a ha o e => by rw [upd_ne ha]; exact e
                        exact RMs.append (RMs.mv (Le.refl _) accM acc fpA (fun a ha o e => up a (nfp a ha) o e) rA5) (RM.mv (Le.refl _) m2 v s (fun a ha o e => up a (nsD a ha) o e) rm)
                      · have all : ∀ a ∈ Dd :: (fpA ++ s), (a ∈ Dd :: fpA) ∨ a ∈ s := fun a ha => by
                          rcases List.mem_cons.mp ha with z | z
                          · exact .inl (z ▸ List.mem_cons_self)
                          · rcases List.mem_append.mp z with z | z
                            · exact .inl (List.mem_cons_of_mem _ z)
                            · exact .inr z
                        refine ⟨fun a ha => ?_, fun a ha z => ?_, fun a ha z => ?_⟩
                        · exact (all a ha).elim (as5.f a) (of a)
                        · have z' := phiW_own z
                          exact (all a ha).elim (fun q => as5.o a q z') fun q => by
                            obtain ⟨j, hj⟩ := z'
                            exact (off a q).2 j hj
                        · by_cases e : a = Dd
                          · subst e; rw [upd_same] at z; cases z
                          · rw [upd_ne e] at z
                            exact (all a ha).elim (fun q => as5.h a q z) fun q => RM.on_ m2 v s rm a q z
                      · rw [List.nodup_cons, List.nodup_append]
                        rw [List.nodup_cons] at nd
                        refine ⟨fun z => ?_, nd.2, ndS, fun a ha b hb e => ?_⟩
                        · rcases List.mem_append.mp z with z | z
                          · exact nd.1 z
                          · exact nsD _ z rfl
                        · subst e
                          exact ns5 a (List.mem_cons_of_mem _ ha) hb
                      · refine (sti5.trans (upd_step (.inr List.mem_cons_self) eD5)).imp fun a z => ?_
                        rcases z with z | z
                        · exact .inl (.inl (phiW_own z))
                        · rcases List.mem_cons.mp z with z | z
                          · exact .inr (z ▸ List.mem_cons_self)
                          · rcases List.mem_append.mp z with z | z
                            · exact .inr (List.mem_cons_of_mem _ z)
                            · exact .inl (.inr z)
                    · -- frozen
                      have okf := ok5.frz off
                      have fD' : frzF F5 H5 s Dd = none := by rw [frzF_out (fun z => nsD _ z rfl)]; exact fD
                      have ok6 := (okf.aside (o := .lst (acc ++ [v])) fD' oD).wipe vs
                      rw [we] at ok6
                      have rf := frz_rep of rm
                      refine ⟨accM ++ [fzD m2], acc ++ [v], fpA ++ [], _, frzF F5 H5 s, _, rr, upd_same, ?_, ok6, ?_, ?_, ?_, by rw [List.length_append, List.length_singleton]; omega, ql, by rw [← ems, List.append_assoc]; rfl⟩
                      · exact RMs.append (RMs.mv (frz_le of) accM acc fpA (fun a ha o e => by rw [upd_ne (nfp a ha)]; exact e) rA5) ⟨rfl, rf⟩
                      · rw [List.append_nil]
                        refine ⟨fun a ha => ?_, fun a ha z => as5.o a ha (phiW_own z), fun a ha z => ?_⟩
                        · rw [frzF_out (fun z => ns5 a ha z)]; exact as5.f a ha
                        · by_cases e : a = Dd
                          · subst e; rw [upd_same] at z; cases z
                          · rw [upd_ne e] at z; exact as5.h a ha z
                      · rw [List.append_nil]; exact nd
                      · rw [List.append_nil]
                        have stf : Step F5 H5 (fun a => (Own φ5 a ∨ a ∈ s) ∨ a ∈ Dd :: fpA) (frzF F5 H5 s) H5 (fun a => Own φ5 a ∨ a ∈ Dd :: fpA) := (frz_step of ok5.sub).aside
                        refine ((sti5.trans stf).trans (upd_step (.inr List.mem_cons_self) eD5)).imp fun a z => z.elim (fun z => .inl (phiW_own z)) .inr
        · have hie : i = ds.length := by omega
          refine .inl ⟨itstop hie, ?_⟩
          subst hie
          rw [List.drop_length] at hr
          unfold lcL at hr
          cases hr
          rw [List.append_nil] at ems
          subst ems
          have asd' := asd
          refine h (.ref Dd) Fi Hi _ (Dd :: fpA) (EnvOk.unwipe ok1 sti.f oki) (st1.trans (sti.imp fun a z => z.elim (fun z => .inl (phiW_own z)) .inr)) ⟨Dd, acc, fpA, rfl, rfl, eD, rA⟩ nd fun a ha => ⟨asd.f a ha, fun j hj => asd.o a ha ⟨j, phiW_mem hj⟩⟩
end
end FL
namespace FL
open PySem PySem.Spec PyProof.Rows L2
section
variable {X : Cx} {W : WX}
theorem lc_D {fi : En → Out (List D)} {set : D → En → Option En} {tt : En → Out Bool} {f : En → Out M} {vs : List Nat} {ε ε' : En} {ms : List M} (h : eLcM fi set tt f fzD vs ε = .ok ms ε') : ms = (ms.map M.toD).map M.d := by
  unfold eLcM at h
  cases q : fi ε with
  | bad => rw [q] at h; cases h
  | ex c fs e => rw [q] at h; cases h
  | ok ds ε1 =>
    rw [q] at h
    simp only [bnd_ok] at h
    split at h
    · cases q2 : lcL set tt f fzD vs ds (wipeE ε1 vs) with
      | none => rw [q2] at h; cases h
      | some r =>
        obtain ⟨ms2, ε2⟩ := r
        rw [q2] at h
        cases h
        exact lcL_D q2
    · cases h
/-- a list of data is what a list of names' contents is, all of them data -/
theorem lc_post {K : PySem.W.Frag} {σ : L2.St} {F H : Hp} {P : Addr → Prop} {Q : VK} {fi : En → Out (List D)} {set : D → En → Option En} {tt : En → Out Bool} {f : En → Out M} {vs : List Nat} {ε : En} (h : PostE K W σ F H P Q (eLc fi set tt f vs ε)) :
    PostE K W σ F H P Q ((eLcM fi set tt f fzD vs ε).bnd fun ms ε' => .ok (.on ms) ε') := by
  unfold eLc at h
  cases q : eLcM fi set tt f fzD vs ε with
  | bad => rw [q] at h; exact h
  | ex c fs e => rw [q] at h; exact h
  | ok ms ε1 =>
    rw [q] at h
    simp only [bnd_ok] at h ⊢
    intro v F' H' φ' s ok st r nd off
    refine h v F' H' φ' s ok st ?_ nd off
    obtain ⟨a, vs', fp', e1, e2, e3, r2⟩ := r
    rw [lc_D q] at r2
    obtain ⟨r3, e4⟩ := r2.ofD
    subst e4
    exact ⟨a, vs', e1, e2, e3, r3⟩
variable {elt tg iter : Expr} {ifs : List Expr} {scope : Scope} {own : List (Str × Nat)} {pos spos : Pos} {ts : List Nat} {fi : En → Out (List D)} {set : D → En → Option En} {tt : En → Out Bool} {f : En → Out M}
theorem fe_lc (own : List (Str × Nat)) (hc : X.calm = true) (hN : X.N.Nodup) (hi : FI X W tg iter fi) (ok : BlkOk X.N X.env.scope scope own)
    (hg : ∀ (s : Shared) (H : Hp) (C : Addr) (cl : List (Str × Addr)) (fp : List Addr), FG (X.blk s H scope (compEnvC scope cl C X.env) fp) ts tg set) (hts : ∀ i ∈ ts, i ∈ own.map (·.2)) (ht : ∀ (s : Shared) (H : Hp) (C : Addr) (cl : List (Str × Addr)) (fp : List Addr), FTs (X.blk s H scope (compEnvC scope cl C X.env) fp) WN ifs tt)
    (he : ∀ (s : Shared) (H : Hp) (C : Addr) (cl : List (Str × Addr)) (fp : List Addr), FE (X.blk s H scope (compEnvC scope cl C X.env) fp) WN elt f) (hs : ∀ x, foldedSetIterable iter X.env x = pure x := by intro _; rfl) :
    FE X W (.ListComp elt [⟨tg, iter, ifs, 0⟩] scope pos) (eLc fi set tt f (own.map (·.2))) := by
  obtain ⟨wi, h1, h2⟩ := hi.ex
  exact ⟨_, pe_lc (own := own) hc hN h1 ok (fun s H C cl fp => (hg s H C cl fp).pg) (fun s H C cl fp => (ht s H C cl fp).pt) (fun s H C cl fp => (he s H C cl fp).pe) hs,
    fun ε σ F H φ Q okE h => lc_run (.inr rfl) hts h2 okE (lc_post h)⟩
theorem fe_lcO (own : List (Str × Nat)) (hc : X.calm = true) (hN : X.N.Nodup) (hi : FI X W tg iter fi) (ok : BlkOk X.N X.env.scope scope own)
    (hg : ∀ (s : Shared) (H : Hp) (C : Addr) (cl : List (Str × Addr)) (fp : List Addr), FG (X.blk s H scope (compEnvC scope cl C X.env) fp) ts tg set) (hts : ∀ i ∈ ts, i ∈ own.map (·.2)) (ht : ∀ (s : Shared) (H : Hp) (C : Addr) (cl : List (Str × Addr)) (fp : List Addr), FTs (X.blk s H scope (compEnvC scope cl C X.env) fp) WN ifs tt)
    (he : ∀ (s : Shared) (H : Hp) (C : Addr) (cl : List (Str × Addr)) (fp : List Addr), FE (X.blk s H scope (compEnvC scope cl C X.env) fp) WN elt f) (hs : ∀ x, foldedSetIterable iter X.env x = pure x := by intro _; rfl) :
    FE X W (.ListComp elt [⟨tg, iter, ifs, 0⟩] scope pos) (eLcO fi set tt f (own.map (·.2))) := by
  obtain ⟨wi, h1, h2⟩ := hi.ex
  exact ⟨_, pe_lc (own := own) hc hN h1 ok (fun s H C cl fp => (hg s H C cl fp).pg) (fun s H C cl fp => (ht s H C cl fp).pt) (fun s H C cl fp => (he s H C cl fp).pe) hs,
    fun ε σ F H φ Q okE h => lc_run (.inl rfl) hts h2 okE h⟩
/-- what st_set wants of a reading -/
theorem set_run {t : TE} {f : En → Out M} {i : Nat} {fx : Nat → Prop} (hfx : ¬ fx i) {ε : En} {σ : L2.St} {F H : Hp} {φ : Nat → List Addr} {Dd : Ends} (ok : EnvOk X.K F H ε σ φ)
    (q1 : ∀ ε σ F H φ Q, EnvOk X.K F H ε σ φ → PostE X.K W σ F H (Own φ) Q (f ε) → t σ H Q) (h : PostS X.K W fx σ F H (Own φ) Dd (sSet i f ε)) : tAsg t (gName i) Dd σ H := by
  refine q1 ε σ F H φ _ ok ?_
  unfold sSet at h
  cases q : f ε with
  | bad => rw [q] at h; exact h
  | ex c fs ε' => rw [q] at h; exact PostX.toS h
  | ok m ε1 =>
    rw [q] at h
    intro v F1 H1 φ1 s ok1 st1 r nd ho
    refine h _ F1 H1 _ (ok1.store i r nd ho) (st1.imp fun a z => store_own z) fun j hj => ?_
    rw [List.getElem?_set_ne (fun z : i = j => hfx (by rw [z]; exact hj))]
/-- name = [.. for ..] on one line -/
theorem st_setLc (i : Nat) {y : Str} {py : Pos} {fx : Nat → Prop} (own : List (Str × Nat)) (hfx : ¬ fx i) (hc : X.calm = true) (hN : X.N.Nodup) (hi : FI X W tg iter fi) (ok : BlkOk X.N X.env.scope scope own)
    (hg : ∀ (s : Shared) (H : Hp) (C : Addr) (cl : List (Str × Addr)) (fp : List Addr), FG (X.blk s H scope (compEnvC scope cl C X.env) fp) ts tg set) (hts : ∀ i ∈ ts, i ∈ own.map (·.2)) (ht : ∀ (s : Shared) (H : Hp) (C : Addr) (cl : List (Str × Addr)) (fp : List Addr), FTs (X.blk s H scope (compEnvC scope cl C X.env) fp) WN ifs tt)
    (he : ∀ (s : Shared) (H : Hp) (C : Addr) (cl : List (Str × Addr)) (fp : List Addr), FE (X.blk s H scope (compEnvC scope cl C X.env) fp) WN elt f) (hy : X.N[i]? = some y := by rfl) (hyl : X.env.scope.names.lookup y = some .local := by rfl)
    (hsw : swapsWith (.ListComp elt [⟨tg, iter, ifs, 0⟩] scope pos) (some (.Name y py)) spos.line X.env = pure true := by rfl) (hs : ∀ x, foldedSetIterable iter X.env x = pure x := by intro _; rfl) :
    FS X W fx (.Assign [.Name y py] (.ListComp elt [⟨tg, iter, ifs, 0⟩] scope pos) spos) (sSet i (eLc fi set tt f (own.map (·.2)))) := by
  obtain ⟨wi, h1, h2⟩ := hi.ex
  exact ⟨_, ps_setLc (own := own) hc hN hy hyl hsw h1 ok (fun s H C cl fp => (hg s H C cl fp).pg) (fun s H C cl fp => (ht s H C cl fp).pt) (fun s H C cl fp => (he s H C cl fp).pe) hs,
    fun ε σ F H φ Dd okE h => set_run hfx okE (fun ε σ F H φ Q okE h => lc_run (.inr rfl) hts h2 okE (lc_post h)) h⟩
theorem st_setLcO (i : Nat) {y : Str} {py : Pos} {fx : Nat → Prop} (own : List (Str × Nat)) (hfx : ¬ fx i) (hc : X.calm = true) (hN : X.N.Nodup) (hi : FI X W tg iter fi) (ok : BlkOk X.N X.env.scope scope own)
    (hg : ∀ (s : Shared) (H : Hp) (C : Addr) (cl : List (Str × Addr)) (fp : List Addr), FG (X.blk s H scope (compEnvC scope cl C X.env) fp) ts tg set) (hts : ∀ i ∈ ts, i ∈ own.map (·.2)) (ht : ∀ (s : Shared) (H : Hp) (C : Addr) (cl : List (Str × Addr)) (fp : List Addr), FTs (X.blk s H scope (compEnvC scope cl C X.env) fp) WN ifs tt)
    (he : ∀ (s : Shared) (H : Hp) (C : Addr) (cl : List (Str × Addr)) (fp : List Addr), FE (X.blk s H scope (compEnvC scope cl C X.env) fp) WN elt f) (hy : X.N[i]? = some y := by rfl) (hyl : X.env.scope.names.lookup y = some .local := by rfl)
    (hsw : swapsWith (.ListComp elt [⟨tg, iter, ifs, 0⟩] scope pos) (some (.Name y py)) spos.line X.env = pure true := by rfl) (hs : ∀ x, foldedSetIterable iter X.env x = pure x := by intro _; rfl) :
    FS X W fx (.Assign [.Name y py] (.ListComp elt [⟨tg, iter, ifs, 0⟩] scope pos) spos) (sSet i (eLcO fi set tt f (own.map (·.2)))) := by
  obtain ⟨wi, h1, h2⟩ := hi.ex
  exact ⟨_, ps_setLc (own := own) hc hN hy hyl hsw h1 ok (fun s H C cl fp => (hg s H C cl fp).pg) (fun s H C cl fp => (ht s H C cl fp).pt) (fun s H C cl fp => (he s H C cl fp).pe) hs,
    fun ε σ F H φ Dd okE h => set_run hfx okE (fun ε σ F H φ Q okE h => lc_run (.inl rfl) hts h2 okE h) h⟩
end
/-! ### a list that a name owns is changed -/
theorem EnvOk.upd {K : PySem.W.Frag} {F H : Hp} {ε : En} {σ : L2.St} {φ : Nat → List Addr} (ok : EnvOk K F H ε σ φ) {i : Nat} {a : Addr} {xs xs' : List D} {vs' : List V} (hi : ε[i]? = some (some (.ol xs))) (ha : σ[i]? = some (some (.ref a))) (hf : φ i = [a]) (r : Reps K F xs' vs') :
    EnvOk K F (upd H a (.lst vs')) (ε.set i (some (.ol xs'))) σ φ where
  sub := fun b u e => by
    rw [upd_ne (ne_of_none e (ok.off i a (by rw [hf]; exact List.mem_singleton.mpr rfl)))]
    exact ok.sub b u e
  len := by rw [List.length_set]; exact ok.len
  slot := fun j m hj => by
    by_cases h : j = i
    · subst h
      have hlt : j < ε.length := by
        have := (List.getElem?_eq_some_iff.mp hj).1
        rwa [List.length_set] at this
      rw [List.getElem?_set_self hlt] at hj
      cases hj
      exact ⟨_, ha, a, vs', rfl, hf, upd_same, r⟩
    · rw [List.getElem?_set_ne (Ne.symm h)] at hj
      obtain ⟨v, hv, q⟩ := ok.slot j m hj
      refine ⟨v, hv, RM.mv (Le.refl _) m v _ (fun b hb u e => ?_) q⟩
      have ne : b ≠ a := fun z => h (ok.dj j i a (z ▸ hb) (by rw [hf]; exact List.mem_singleton.mpr rfl))
      rw [upd_ne ne]; exact e
  emp := fun j hj => by
    by_cases h : j = i
    · subst h
      have hlt : j < ε.length := (List.getElem?_eq_some_iff.mp hi).1
      exact absurd (List.getElem?_set_self hlt) (hj _)
    · refine ok.emp j fun m q => hj m ?_
      rw [List.getElem?_set_ne (Ne.symm h)]
      exact q
  nd := ok.nd
  dj := ok.dj
  off := ok.off
/-- an operation that writes a list: its reading, what it gives and leaves -/
def MutS (K : PySem.W.Frag) (r : V → List V → Hp → VK → Prop) (g : List D → List D → Option (D × List D)) : Prop :=
  ∀ xs ds a vs ws F H Q d xs', H a = some (.lst vs) → Reps K F xs vs → Reps K F ds ws → g xs ds = some (d, xs') → (∀ v vs', Rep K F d v → Reps K F xs' vs' → Q v (upd H a (.lst vs'))) → r (.ref a) ws H Q
def eMth (i : Nat) (g : List D → List D → Option (D × List D)) (fa : En → Out (List Arg)) (ε : En) : Out M := match ε[i]? with
  | some (some (.ol _)) => (fa ε).bnd fun as ε1 => match resD ε1 as with
    | some (ds, ε2) => match ε2[i]? with
      | some (some (.ol xs)) => match g xs ds with
        | some (d, xs') => .ok (.d d) (ε2.set i (some (.ol xs')))
        | none => .bad
      | _ => .bad
    | none => .bad
  | _ => .bad
def gApp (xs ds : List D) : Option (D × List D) := match ds with
  | [d] => if xs.length < lim then some (.non, xs ++ [d]) else none
  | _ => none
def gPop (xs ds : List D) : Option (D × List D) := match ds with
  | [] => (xs[xs.length - 1]?).map fun d => (d, xs.dropLast)
  | _ => none
def gExt (xs ds : List D) : Option (D × List D) := match ds with
  | [.lst ys] => if xs.length + ys.length ≤ lim then some (.non, xs ++ ys) else none
  | _ => none
def gClr (xs ds : List D) : Option (D × List D) := match ds with
  | [] => some (.non, [])
  | _ => none
def gRevM (xs ds : List D) : Option (D × List D) := match ds with
  | [] => some (.non, xs.reverse)
  | _ => none
def gPopAt (xs ds : List D) : Option (D × List D) := match ds with
  | [.int i] => if -(2 ^ 63) ≤ i ∧ i < 2 ^ 63 then (match seqIndex? i xs.length with
    | some k => (xs[k]?).map fun d => (d, xs.eraseIdx k)
    | none => none) else none
  | _ => none
section
variable {K : PySem.W.Frag} {F : Hp}
theorem Reps.dropLast : ∀ {xs : List D} {vs : List V}, Reps K F xs vs → Reps K F xs.dropLast vs.dropLast
  | [], _, h => by rw [show _ = [] from h]; rfl
  | [x], _, ⟨v, ws, e, h, r⟩ => by
    have e2 : ws = [] := r
    subst e2; subst e; rfl
  | x :: y :: xs, _, ⟨v, ws, e, h, r⟩ => by
    have r' := r
    obtain ⟨v2, ws2, e2, h2, r2⟩ := r
    subst e2; subst e
    exact ⟨v, _, rfl, h, Reps.dropLast r'⟩
theorem Reps.eraseIdx : ∀ {xs : List D} {vs : List V} (i : Nat), Reps K F xs vs → Reps K F (xs.eraseIdx i) (vs.eraseIdx i)
  | [], _, _, h => by rw [show _ = [] from h]; rfl
  | x :: xs, _, 0, ⟨v, ws, e, h, r⟩ => by subst e; exact r
  | x :: xs, _, i + 1, ⟨v, ws, e, h, r⟩ => by subst e; exact ⟨v, _, rfl, h, Reps.eraseIdx i r⟩
theorem Reps.reverse : ∀ {xs : List D} {vs : List V}, Reps K F xs vs → Reps K F xs.reverse vs.reverse
  | [], _, h => by rw [show _ = [] from h]; rfl
  | x :: xs, _, ⟨v, ws, e, h, r⟩ => by
    subst e
    rw [List.reverse_cons, List.reverse_cons]
    exact Reps.append (Reps.reverse r) ⟨v, [], rfl, h, rfl⟩
theorem m_app : MutS K rAppend gApp := by
  intro xs ds a vs ws F H Q d xs' e r q g h
  unfold gApp at g
  split at g
  · rename_i y
    split at g
    · rename_i hl
      cases g
      obtain ⟨v, us, e2, rv, e3⟩ := q
      have e4 : us = [] := e3
      subst e4; subst e2
      exact ⟨a, vs, v, rfl, rfl, e, by rw [r.length, ← lim_eq]; exact hl, h .non _ rfl (Reps.append r ⟨v, [], rfl, rv, rfl⟩)⟩
    · cases g
  · cases g
theorem m_pop : MutS K rPop gPop := by
  intro xs ds a vs ws F H Q d xs' e r q g h
  unfold gPop at g
  split at g
  · cases hx : xs[xs.length - 1]? with
    | none => rw [hx] at g; cases g
    | some y =>
      rw [hx] at g
      cases g
      obtain ⟨v, hv, rv⟩ := r.get hx
      have q' : ws = [] := q
      subst q'
      exact ⟨a, vs, v, rfl, rfl, e, by rw [r.length]; exact hv, h v _ rv r.dropLast⟩
  · cases g
theorem m_clr : MutS K rClear gClr := by
  intro xs ds a vs ws F H Q d xs' e r q g h
  unfold gClr at g
  split at g
  · cases g
    have q' : ws = [] := q
    subst q'
    exact ⟨a, vs, rfl, rfl, e, h .non [] rfl rfl⟩
  · cases g
theorem m_rev : MutS K rReverse gRevM := by
  intro xs ds a vs ws F H Q d xs' e r q g h
  unfold gRevM at g
  split at g
  · cases g
    have q' : ws = [] := q
    subst q'
    exact ⟨a, vs, rfl, rfl, e, h .non _ rfl r.reverse⟩
  · cases g
theorem m_popAt : MutS K rPopAt gPopAt := by
  intro xs ds a vs ws F H Q d xs' e r q g h
  unfold gPopAt at g
  split at g
  · rename_i i
    split at g
    · rename_i hb
      split at g
      · rename_i k hk
        cases hx : xs[k]? with
        | none => rw [hx] at g; cases g
        | some y =>
          rw [hx] at g
          cases g
          obtain ⟨v, hv, rv⟩ := r.get hx
          obtain ⟨u, us, e2, ru, e3⟩ := q
          have e4 : us = [] := e3
          subst e4
          have e5 : u = .int i := ru
          subst e5; subst e2
          exact ⟨a, vs, i, k, v, rfl, rfl, e, hb.1, hb.2, by rw [r.length]; exact hk, hv, h v _ rv (r.eraseIdx k)⟩
      · cases g
    · cases g
  · cases g
end
section
variable {X : Cx} {W : WX} {fx : Nat → Prop} {e : Expr} {es : List Expr} {x : Str} {p apos pos : Pos}
theorem mth_run {r : V → List V → Hp → VK → Prop} {g : List D → List D → Option (D × List D)} {fa : En → Out (List Arg)} {t : TA} {i : Nat} (hS : MutS X.K r g) (h2 : ∀ ε σ F H φ Q, EnvOk X.K F H ε σ φ → PostA X.K W σ F H (Own φ) Q (fa ε) → t σ H Q)
    {ε : En} {σ : L2.St} {F H : Hp} {φ : Nat → List Addr} {Q : VK} (ok : EnvOk X.K F H ε σ φ) (h : PostE X.K W σ F H (Own φ) Q (eMth i g fa ε)) : ∃ v, σ[i]? = some (some v) ∧ tyV X.K "list" v H ∧ t σ H fun vs H1 => r v vs H1 Q := by
  unfold eMth at h
  split at h
  case h_2 => exact h.elim
  rename_i xs0 hx0
  obtain ⟨v, hv, a0, vs0, ev, hf0, ha0, r0⟩ := ok.slot i _ hx0
  subst ev
  refine ⟨_, hv, .inl ⟨rfl, vs0, SqL.of ha0⟩, h2 ε σ F H φ _ ok ?_⟩
  cases q : fa ε with
  | bad => rw [q] at h; exact h
  | ex c fs ε' => rw [q] at h; exact h
  | ok as ε1 =>
    rw [q] at h
    simp only [bnd_ok] at h
    intro vs F1 H1 φ1 ok1 st1 r1
    cases q2 : resD ε1 as with
    | none => rw [q2] at h; exact h.elim
    | some z =>
      obtain ⟨ds, ε2⟩ := z
      rw [q2] at h
      simp only at h
      obtain ⟨G, φ2, ok2, st2, r2, l2⟩ := resD_ok ok1 st1 r1 q2
      split at h
      case h_2 => exact h.elim
      rename_i xs hx
      cases q3 : g xs ds with
      | none => rw [q3] at h; exact h.elim
      | some z3 =>
        obtain ⟨d, xs'⟩ := z3
        rw [q3] at h
        obtain ⟨v', hv', a, vs', ev, hf, ha, rr⟩ := ok2.slot i _ hx
        subst ev
        rw [hv] at hv'
        cases hv'
        refine hS xs ds a0 vs' vs G H1 Q d xs' ha rr r2 q3 fun u us ru rus => ?_
        exact h u G _ φ2 [] (ok2.upd hx hv hf rus) ((st2.trans (upd_step ⟨i, by rw [hf]; exact List.mem_singleton.mpr rfl⟩ ha)).imp fun b z => z.elim id (fun z => by cases z)) ⟨rfl, ru⟩ List.nodup_nil (fun _ z => by cases z)
/-- the call of a list's method that writes the list -/
theorem fe_mth (i : Nat) {name id : String} {r : V → List V → Hp → VK → Prop} {g : List D → List D → Option (D × List D)} {fa : En → Out (List Arg)} (slot : Slot "list" name id) (hty : typeOf (.builtin id) = pure (.type "method_descriptor")) (hm : MtR X id r) (hS : MutS X.K r g) (ha : FA X W (e :: es) fa)
    (hN : X.N[i]? = some x := by rfl) (hv : Vis X.env.scope x := by first | exact Or.inl rfl | exact Or.inr (Or.inl rfl) | exact Or.inr (Or.inr rfl)) (hd : (x == ("__debug__" : Str)) = false := by decide) (hcd : (x == ("__classdict__" : Str)) = false := by decide)
    (hbase : attributeBase (.Name x p) name X.env (eval (.Name x p) X.env) = eval (.Name x p) X.env := by rfl)
    (hfew : ((backTo pos (starEach (e :: es) X.env)).all (fun x => !x.1) && (backToKw pos (keywordEach [] X.env)).all (fun x => x.1.isSome)
      && decide ((e :: es).length + ([] : List Keyword).length + (if ([] : List Keyword).isEmpty then 0 else 1) < 30)) = true := by rfl)
    (hline : (apos.endLine == pos.line) = true := by rfl) (hs : starEach (e :: es) X.env = (false, eval e X.env) :: starEach es X.env := by rfl) (hplain : (backTo pos (starEach es X.env)).any (·.1) = false := by rfl) : FE X W (.Call (.Attribute (.Name x p) name apos) (e :: es) [] pos) (eMth i g fa) := by
  obtain ⟨t, h1, h2⟩ := ha.ex
  exact ⟨_, pe_bm PySem.F.plainAttrs_list slot hty hm (pe_var hN hv hd hcd) h1 hbase hfew hline hs hplain, fun ε σ F H φ Q ok h => mth_run hS h2 ok h⟩
theorem fe_mth0 (i : Nat) {name id : String} {r : V → List V → Hp → VK → Prop} {g : List D → List D → Option (D × List D)} (slot : Slot "list" name id) (hty : typeOf (.builtin id) = pure (.type "method_descriptor")) (hm : MtR X id r) (hS : MutS X.K r g)
    (hN : X.N[i]? = some x := by rfl) (hv : Vis X.env.scope x := by first | exact Or.inl rfl | exact Or.inr (Or.inl rfl) | exact Or.inr (Or.inr rfl)) (hd : (x == ("__debug__" : Str)) = false := by decide) (hcd : (x == ("__classdict__" : Str)) = false := by decide)
    (hbase : attributeBase (.Name x p) name X.env (eval (.Name x p) X.env) = eval (.Name x p) X.env := by rfl)
    (hline : (apos.endLine == pos.line) = true := by rfl) : FE X W (.Call (.Attribute (.Name x p) name apos) [] [] pos) (eMth i g aNil) := by
  refine ⟨_, pe_bm0 PySem.F.plainAttrs_list slot hty hm (pe_var hN hv hd hcd) hbase hline, fun ε σ F H φ Q ok h => ?_⟩
  exact mth_run (t := tNil) (fa := aNil) (W := W) hS (fun ε σ F H φ Q ok h => by
    have h' : PostA X.K W σ F H (Own φ) Q (.ok [] ε) := h
    exact h' [] F H φ ok (Step.refl fun _ z => z) rfl) ok h
theorem fe_append (i : Nat) {fa : En → Out (List Arg)} (ha : FA X W [e] fa)
    (hN : X.N[i]? = some x := by rfl) (hv : Vis X.env.scope x := by first | exact Or.inl rfl | exact Or.inr (Or.inl rfl) | exact Or.inr (Or.inr rfl)) (hd : (x == ("__debug__" : Str)) = false := by decide) (hcd : (x == ("__classdict__" : Str)) = false := by decide)
    (hbase : attributeBase (.Name x p) "append" X.env (eval (.Name x p) X.env) = eval (.Name x p) X.env := by rfl)
    (hfew : ((backTo pos (starEach [e] X.env)).all (fun x => !x.1) && (backToKw pos (keywordEach [] X.env)).all (fun x => x.1.isSome)
      && decide ([e].length + ([] : List Keyword).length + (if ([] : List Keyword).isEmpty then 0 else 1) < 30)) = true := by rfl)
    (hline : (apos.endLine == pos.line) = true := by rfl) (hs : starEach [e] X.env = (false, eval e X.env) :: starEach [] X.env := by rfl) (hplain : (backTo pos (starEach [] X.env)).any (·.1) = false := by rfl) : FE X W (.Call (.Attribute (.Name x p) "append" apos) [e] [] pos) (eMth i gApp fa) :=
  fe_mth i PySem.F.slot_list_append PySem.F.type_list_append mt_append m_app ha hN hv hd hcd hbase hfew hline hs hplain
theorem fe_pop (i : Nat) (hN : X.N[i]? = some x := by rfl) (hv : Vis X.env.scope x := by first | exact Or.inl rfl | exact Or.inr (Or.inl rfl) | exact Or.inr (Or.inr rfl)) (hd : (x == ("__debug__" : Str)) = false := by decide) (hcd : (x == ("__classdict__" : Str)) = false := by decide)
    (hbase : attributeBase (.Name x p) "pop" X.env (eval (.Name x p) X.env) = eval (.Name x p) X.env := by rfl)
    (hline : (apos.endLine == pos.line) = true := by rfl) : FE X W (.Call (.Attribute (.Name x p) "pop" apos) [] [] pos) (eMth i gPop aNil) :=
  fe_mth0 i PySem.F.slot_list_pop PySem.F.type_list_pop mt_pop m_pop hN hv hd hcd hbase hline
/-! ### x[k] = e, x[k] op= e -/
def setI (xs : List D) (k : Int) (d : D) : Option (List D) := (ixN xs.length k).map fun j => xs.set j d
def sStore (i : Nat) (f : En → Out M) (oi : En → Out Arg) (ε : En) : SOut := match f ε with
  | .ok m ε1 => (match ε1[i]? with
    | some (some (.ol _)) => (match oi ε1 with
      | .ok a ε2 => (match ε2[i]?, rd ε2 a with
        | some (some (.ol xs)), some (.d (.int k)) => (match setI xs k m.toD with
          | some xs' => .nx (ε2.set i (some (.ol xs')))
          | none => .bad)
        | _, _ => .bad)
      | .ex c fs ε' => .ex c fs ε'
      | .bad => .bad)
    | _ => .bad)
  | .ex c fs ε' => .ex c fs ε'
  | .bad => .bad
variable {a b : Expr}
theorem st_store (i : Nat) {f : En → Out M} {oi : En → Out Arg} {pos1 : Pos} (he : FE X W e f) (hi : FO X W a oi)
    (hN : X.N[i]? = some x := by rfl) (hv : Vis X.env.scope x := by first | exact Or.inl rfl | exact Or.inr (Or.inl rfl) | exact Or.inr (Or.inr rfl)) (hd : (x == ("__debug__" : Str)) = false := by decide) (hcd : (x == ("__classdict__" : Str)) = false := by decide)
    (hs : swapsWithSole [.Subscript (.Name x p) a pos1] e pos.line X.env = pure false := by rfl) (hw : swappedStores [.Subscript (.Name x p) a pos1] e X.env = pure none := by rfl)
    (h1 : (assignEach [.Subscript (.Name x p) a pos1] X.env).map (·.2) = [assign (.Subscript (.Name x p) a pos1) X.env] := by rfl)
    (ha : ∀ v, assign (.Subscript (.Name x p) a pos1) X.env v = (do
      let ov ← holding [v] (eval (.Name x p) X.env)
      let iv ← holding [v, ov] (eval a X.env)
      standAt pos1
      holding [v, ov, iv] (setItem ov iv v)
      release [v, ov, iv] []) := by intro _; rfl) : FS X W fx (.Assign [.Subscript (.Name x p) a pos1] e pos) (sStore i f oi) := by
  obtain ⟨t, p1, q1⟩ := he.ex
  obtain ⟨u, p2, q2⟩ := hi.ex
  refine ⟨_, ps_asg p1 (pg_sub (pe_var hN hv hd hcd) p2 set_list ha) hs hw h1, fun ε σ F H φ Dd ok h => q1 ε σ F H φ _ ok ?_⟩
  unfold sStore at h
  cases q : f ε with
  | bad => rw [q] at h; exact h
  | ex c fs ε' => rw [q] at h; exact PostX.toS h
  | ok m ε1 =>
    rw [q] at h
    simp only at h
    intro v F1 H1 φ1 s ok1 st1 r nd ho
    have of : ∀ b ∈ s, F1 b = none := fun b hb => (ho b hb).1
    have okf := ok1.frz ho
    have stf := st1.trans (frz_step of ok1.sub)
    have rf := frz_rep of r
    split at h
    case h_2 => exact h.elim
    rename_i xs0 hx0
    obtain ⟨o, hv, -⟩ := okf.slot i _ hx0
    refine ⟨o, hv, q2 ε1 σ _ H1 φ1 _ okf ?_⟩
    cases qi : oi ε1 with
    | bad => rw [qi] at h; exact h
    | ex c fs ε' => rw [qi] at h; exact PostX.step stf (PostX.toS h)
    | ok k ε2 =>
      rw [qi] at h
      simp only at h
      intro w F2 H2 φ2 ok2 st2 rk
      split at h
      case h_2 => exact h.elim
      rename_i xs kk hx hk
      have rk' := int_at (rd_ok ok2 rk hk) rfl
      cases qs : setI xs kk m.toD with
      | none => rw [qs] at h; exact h.elim
      | some xs' =>
        rw [qs] at h
        obtain ⟨o', hv', ad, vs, ev, hf, hA, rr⟩ := ok2.slot i _ hx
        rw [hv] at hv'
        cases hv'
        unfold setI at qs
        cases qn : ixN xs.length kk with
        | none => rw [qn] at qs; cases qs
        | some j =>
          rw [qn] at qs
          cases qs
          refine ⟨ad, vs, kk, j, ev, rk', hA, by rw [rr.length]; exact qn, ?_⟩
          refine h σ F2 _ φ2 (ok2.upd hx (ev ▸ hv) hf (Reps.set (Rep.le st2.f _ _ rf) j rr)) ((stf.trans st2).trans (upd_step ⟨i, by rw [hf]; exact List.mem_singleton.mpr rfl⟩ hA)) Fx.refl
/-- a list's item -/
theorem get_list : PGet X (rIxL X.K) := by
  intro pins s σ H o i ov iv Q I ro ri h
  obtain ⟨p, xs, k, z, rfl, rfl, hq, he, q⟩ := h
  cases ro
  obtain ⟨t, rfl⟩ := ri
  obtain ⟨its, r, pl, hz⟩ := I.list hq
  obtain ⟨j, h1, h2, h3, h4, h5⟩ := atI_get he
  obtain ⟨w, ew, rw'⟩ := r.get h2
  have hl := r.length
  have hn := line63
  have fin : EP X pins σ Q w s := ⟨z, H, I, rw', q⟩
  by_cases h0 : 0 ≤ k
  · have hj : k.toNat = j := by
      rw [seqIndex_of h0 h5] at h1
      exact Option.some.inj h1
    exact thn (wpAny_getItem_list (Q := fun r s' => r = w ∧ EP X pins σ Q r s') pl.isList h0 (by omega) (by rw [hj]; simpa using ew) ⟨rfl, fin⟩) fun _ _ q => q.2
  · have hj : (k + (its.toArray.size : Int)).toNat = j := by
      rw [seqIndex_neg (by omega) h4] at h1
      rw [List.size_toArray, ← hl]
      exact Option.some.inj h1
    exact thn (wpAny_getItem_list_neg (Q := fun r s' => r = w ∧ EP X pins σ Q r s') pl.isList (by omega) (by rw [List.size_toArray] <;> omega) (by omega) (by rw [hj]; simpa using ew) ⟨rfl, fin⟩) fun _ _ q => q.2
def sAugS (i : Nat) (g : M → M → Option M) (oi oe : En → Out Arg) (ε : En) : SOut := match ε[i]? with
  | some (some (.ol _)) => (match oi ε with
    | .ok a ε1 => (match ε1[i]?, rd ε1 a with
      | some (some (.ol xs)), some (.d (.int k)) => (match atI xs k with
        | some (.int z) => (match oe ε1 with
          | .ok b ε2 => (match ε2[i]?, rd ε2 b with
            | some (some (.ol ys)), some m => (match g (.d (.int z)) m with
              | some (.d (.int z')) => (match setI ys k (.int z') with
                | some ys' => .nx (ε2.set i (some (.ol ys')))
                | none => .bad)
              | _ => .bad)
            | _, _ => .bad)
          | .ex c fs ε' => .ex c fs ε'
          | .bad => .bad)
        | _ => .bad)
      | _, _ => .bad)
    | .ex c fs ε' => .ex c fs ε'
    | .bad => .bad)
  | _ => .bad
theorem st_augS (i : Nat) {op : Operator} {f : Int → Int → Int} {g : M → M → Option M} {oi oe : En → Out Arg} {tpos : Pos} (ho : PIp X op (ipI f)) (hg : ∀ k m z, g (.d (.int k)) m = some (.d (.int z)) → ∃ j, m = .d (.int j) ∧ z = f k j) (hi : FO X W a oi) (he : FO X W e oe)
    (hN : X.N[i]? = some x := by rfl) (hv : Vis X.env.scope x := by first | exact Or.inl rfl | exact Or.inr (Or.inl rfl) | exact Or.inr (Or.inr rfl)) (hd : (x == ("__debug__" : Str)) = false := by decide) (hcd : (x == ("__classdict__" : Str)) = false := by decide)
    (ha : ∀ ov iv new, augStore a ov iv new = (do holding [new, ov, iv] (setItem ov iv new); release [new, ov, iv] []; pure .next) := by intros; rfl) : FS X W fx (.AugAssign (.Subscript (.Name x p) a tpos) op e pos) (sAugS i g oi oe) := by
  obtain ⟨u, p2, q2⟩ := hi.ex
  obtain ⟨t, p1, q1⟩ := he.ex
  refine ⟨_, ps_augS (pe_var hN hv hd hcd) p2 get_list p1 ho set_list ha, fun ε σ F H φ Dd ok h => ?_⟩
  unfold sAugS at h
  split at h
  case h_2 => exact h.elim
  rename_i xs0 hx0
  obtain ⟨o, hv, -⟩ := ok.slot i _ hx0
  refine ⟨o, hv, q2 ε σ F H φ _ ok ?_⟩
  cases qi : oi ε with
  | bad => rw [qi] at h; exact h
  | ex c fs ε' => rw [qi] at h; exact PostX.toS h
  | ok k ε1 =>
    rw [qi] at h
    simp only at h
    intro w F1 H1 φ1 ok1 st1 rk
    split at h
    case h_2 => exact h.elim
    rename_i xs kk hx hk
    have rk' := int_at (rd_ok ok1 rk hk) rfl
    split at h
    case h_2 => exact h.elim
    rename_i z hz
    obtain ⟨o1, hv1, ad, vs, ev, hf, hA, rr⟩ := ok1.slot i _ hx
    rw [hv] at hv1
    cases hv1
    obtain ⟨zv, ezv, rz⟩ := Reps.atI rr hz
    refine ⟨ad, vs, kk, zv, ev, rk', SqL.of hA, ezv, q1 ε1 σ F1 H1 φ1 _ ok1 ?_⟩
    cases qe : oe ε1 with
    | bad => rw [qe] at h; exact h
    | ex c fs ε' => rw [qe] at h; exact PostX.step st1 (PostX.toS h)
    | ok b ε2 =>
      rw [qe] at h
      simp only at h
      intro y F2 H2 φ2 ok2 st2 ry
      split at h
      case h_2 => exact h.elim
      rename_i ys m hy hm
      split at h
      case h_2 => exact h.elim
      rename_i z' hz'
      obtain ⟨j, em, ez⟩ := hg z m z' hz'
      have ry' := int_at (rd_ok ok2 ry hm) em
      have rzi : zv = .int z := rz
      refine ⟨z, j, rzi, ry', ?_⟩
      cases qs : setI ys kk (.int z') with
      | none => rw [qs] at h; exact h.elim
      | some ys' =>
        rw [qs] at h
        obtain ⟨o2, hv2, ad2, vs2, ev2, hf2, hA2, rr2⟩ := ok2.slot i _ hy
        rw [hv] at hv2
        cases hv2
        unfold setI at qs
        cases qn : ixN ys.length kk with
        | none => rw [qn] at qs; cases qs
        | some jj =>
          rw [qn] at qs
          cases qs
          refine ⟨ad2, vs2, kk, jj, ev2, rk', hA2, by rw [rr2.length]; exact qn, ?_⟩
          refine h σ F2 _ φ2 (ok2.upd hy (ev2 ▸ hv) hf2 (Reps.set (x := .int z') (by rw [ez]; rfl) jj rr2)) ((st1.trans st2).trans (upd_step ⟨i, by rw [hf2]; exact List.mem_singleton.mpr rfl⟩ hA2)) Fx.refl
end
end FL
namespace FL
open PySem PySem.Spec PyProof.Rows L2
/-! ### what a def does, as a function of its arguments: the result, and what the arguments hold behind it -/
inductive FOut where
  | rt (m : M) (outs : List M) | ex (c : Str) (fs : List (Str × D)) (outs : List M) | bad
section
variable (K : PySem.W.Frag)
def PostF (F H : Hp) (P : Addr → Prop) (vs : List V) (Q : VK) (E : XK) : FOut → Prop
  | .rt m outs => ∀ v F' H' ψ' s, EnvOk K F' H' (outs.map some) (vs.map some) ψ' → Step F H P F' H' (fun a => Own ψ' a ∨ a ∈ s) → RM K F' H' m v s → s.Nodup → (∀ a ∈ s, F' a = none ∧ ∀ i, a ∉ ψ' i) → Q v H'
  | .ex c fs outs => ∀ dx xs F' H' ψ', EnvOk K F' H' (outs.map some) (vs.map some) ψ' → Step F H P F' H' (Own ψ') → H' dx = some (.xd xs) → RepF K F' fs xs → E (.ref (He.ga K c)) (some dx) H'
  | .bad => False
/-- the promise of a def with n parameters -/
def spM (n : Nat) (mir : List M → FOut) : Sp := fun vs H Q E => vs.length = n ∧ ∃ ms F ψ, EnvOk K F H (ms.map some) (vs.map some) ψ ∧ PostF K F H (Own ψ) vs Q E (mir ms)
end
theorem spM_len {K : PySem.W.Frag} {n : Nat} {mir : List M → FOut} : ∀ vs H Q E, spM K n mir vs H Q E → vs.length = n := fun _ _ _ _ h => h.1
/-- behind a body: what the arguments hold; io: the places that may be changed -/
def outL (io : List Nat) (ε' : En) : Nat → List M → Option (List M)
  | _, [] => some []
  | k, m :: ms => match (if k ∈ io then (match ε'[k]? with
      | some (some m') => some m'
      | _ => none) else (match m with
      | .d x => some (.d x)
      | _ => none)), outL io ε' (k + 1) ms with
    | some m', some r => some (m' :: r)
    | _, _ => none
def outF (io : List Nat) (ms : List M) (ε' : En) (f : List M → FOut) : FOut := match outL io ε' 0 ms with
  | some outs => f outs
  | none => .bad
/-- the def with nl local slots and this body -/
def runB (nl : Nat) (io : List Nat) (body : En → SOut) (ms : List M) : FOut := match body (ms.map some ++ List.replicate (nl - ms.length) none) with
  | .nx ε' => outF io ms ε' (.rt (.d .non))
  | .rt m ε' => outF io ms ε' (.rt m)
  | .ex c fs ε' => outF io ms ε' (.ex c fs)
  | _ => .bad
section
variable {K : PySem.W.Frag} {F H : Hp}
theorem outL_len {io : List Nat} {ε' : En} : ∀ {k : Nat} {ms outs : List M}, outL io ε' k ms = some outs → outs.length = ms.length
  | _, [], _, h => by cases h; rfl
  | k, m :: ms, outs, h => by
    unfold outL at h
    split at h
    · rename_i m' r e1 e2
      cases h
      rw [List.length_cons, List.length_cons, outL_len e2]
    · cases h
theorem outL_get {io : List Nat} {ε' : En} : ∀ {k : Nat} {ms outs : List M} {j : Nat} {o : M}, outL io ε' k ms = some outs → outs[j]? = some o →
    (k + j ∈ io ∧ ε'[k + j]? = some (some o)) ∨ (k + j ∉ io ∧ ms[j]? = some o ∧ ∃ x, o = .d x)
  | _, [], _, _, _, h, q => by cases h; simp at q
  | k, m :: ms, outs, j, o, h, q => by
    unfold outL at h
    split at h
    · rename_i m' r e1 e2
      cases h
      cases j with
      | zero =>
        simp at q; subst q
        split at e1
        · rename_i hio
          split at e1
          · rename_i m2 hm
            cases e1
            exact .inl ⟨hio, hm⟩
          · cases e1
        · rename_i hio
          split at e1
          · cases e1
            exact .inr ⟨hio, rfl, _, rfl⟩
          · cases e1
      | succ j =>
        have q' : r[j]? = some o := by simpa using q
        have := outL_get e2 q'
        rw [show k + (j + 1) = k + 1 + j from by omega]
        simpa using this
    · cases h
/-- the end of a body is the end of the call -/
theorem out_ok {io : List Nat} {ms : List M} {vs : List V} {ψ : Nat → List Addr} {σ σ' : L2.St} {F' H' : Hp} {ε' : En} {φ' : Nat → List Addr} {outs : List M} (ok : EnvOk K F H (ms.map some) (vs.map some) ψ) (hs : ∀ (j : Nat) (v : V), vs[j]? = some v → σ[j]? = some (some v))
    (lf : Le F F') (ok' : EnvOk K F' H' ε' σ' φ') (fx : Fx (fun i : Nat => i ∈ io) σ σ') (h : outL io ε' 0 ms = some outs) : EnvOk K F' H' (outs.map some) (vs.map some) (fun j => if j ∈ io ∧ j < outs.length then φ' j else []) where
  sub := ok'.sub
  len := by
    have := ok.len
    rw [List.length_map, List.length_map] at this ⊢
    rw [outL_len h, this]
  slot := fun j m hj => by
    rw [List.getElem?_map] at hj
    cases q : outs[j]? with
    | none => rw [q] at hj; cases hj
    | some o =>
      rw [q] at hj
      cases hj
      have hlt : j < outs.length := (List.getElem?_eq_some_iff.mp q).1
      have hl : j < vs.length := by
        have := ok.len
        rw [List.length_map, List.length_map] at this
        rw [← this, ← outL_len h]; exact hlt
      have ev : vs[j]? = some vs[j] := List.getElem?_eq_getElem hl
      refine ⟨vs[j], by rw [List.getElem?_map, ev]; rfl, ?_⟩
      rcases outL_get h q with ⟨hio, e⟩ | ⟨hio, e, x, ex⟩
      · rw [Nat.zero_add] at hio e
        rw [if_pos ⟨hio, hlt⟩]
        obtain ⟨v, hv, r⟩ := ok'.slot j m e
        rw [fx j hio, hs j _ ev] at hv
        cases hv
        exact r
      · rw [Nat.zero_add] at hio
        rw [if_neg (fun z => hio z.1)]
        subst ex
        obtain ⟨v, hv, r⟩ := ok.slot j _ (show (ms.map some)[j]? = some (some (.d x)) from by rw [List.getElem?_map, e]; rfl)
        rw [List.getElem?_map, ev] at hv
        cases hv
        exact ⟨rfl, Rep.le lf _ _ r.2⟩
  emp := fun j hj => by
    by_cases q : j < outs.length
    · exact absurd (show (outs.map some)[j]? = some (some outs[j]) from by rw [List.getElem?_map, List.getElem?_eq_getElem q]; rfl) (hj _)
    · rw [if_neg (fun z => q z.2)]
  nd := fun j => by
    split
    · exact ok'.nd j
    · exact List.nodup_nil
  dj := fun i j a h1 h2 => by
    split at h1
    · split at h2
      · exact ok'.dj i j a h1 h2
      · cases h2
    · cases h1
  off := fun j a h1 => by
    split at h1
    · exact ok'.off j a h1
    · cases h1
theorem out_own {io : List Nat} {φ' : Nat → List Addr} {n : Nat} {a : Addr} (h : Own (fun j => if j ∈ io ∧ j < n then φ' j else []) a) : Own φ' a := by
  obtain ⟨j, hj⟩ := h
  simp only at hj
  split at hj
  · exact ⟨j, hj⟩
  · cases hj
theorem start_ok {ms : List M} {vs : List V} {ψ : Nat → List Addr} (n : Nat) (ok : EnvOk K F H (ms.map some) (vs.map some) ψ) : EnvOk K F H (ms.map some ++ List.replicate (n - ms.length) none) (vs.map some ++ List.replicate (n - vs.length) none) ψ where
  sub := ok.sub
  len := by
    have := ok.len
    rw [List.length_map, List.length_map] at this
    rw [List.length_append, List.length_append, List.length_map, List.length_map, List.length_replicate, List.length_replicate, this]
  slot := fun j m hj => by
    have := ok.len
    by_cases q : j < (ms.map some).length
    · rw [List.getElem?_append_left q] at hj
      rw [List.getElem?_append_left (by rw [← this]; exact q)]
      exact ok.slot j m hj
    · rw [List.getElem?_append_right (by omega), List.getElem?_replicate] at hj
      split at hj <;> cases hj
  emp := fun j hj => ok.emp j fun m q => hj m (by
    have hlt : j < (ms.map some).length := (List.getElem?_eq_some_iff.mp q).1
    rw [List.getElem?_append_left hlt]
    exact q)
  nd := ok.nd
  dj := ok.dj
  off := ok.off
end
/-- A DEF: its body's function is its promise -/
theorem fn_ok {P : Program} {w : World} {K : PySem.W.Frag} {mg : Str → Option Value} {base : Heap} {x qual : Str} {params : Arguments} {body : List Stmt} {scope : Scope} {dvs : List V} {kws : List (Str × V)} {f : Addr} {fd : FuncData} {N ps : List Str} {k : Nat} {g : En → SOut} (io : List Nat)
    (F : FunD K x qual params body scope dvs kws f fd) (S : FnScope N ps scope)
    (hb : ∀ (cdv : Value) (A : Around) (outer : List Env) (s : Shared) (H : Hp) (E : XK), Room k (A.deeper (envOfC qual scope s.heap.objs.size f cdv)) →
      FSs (cxOf (L2N.CX P w) P w K mg base N qual scope f cdv A outer s H E) (fun cls d _ H => E cls d H) (fun i : Nat => i ∈ io) body g) :
    FnOk P w K mg base (L2N.CX P w) (k + 1) f fd ps (spM K ps.length (runB N.length io g)) := by
  refine F.ok S spM_len fun cdv A outer s H vs Q E hr ⟨hl, ms, F0, ψ, ok, h⟩ => ?_
  obtain ⟨t, p1, q1⟩ := (hb cdv A outer s H E hr).ex
  refine ⟨t, p1, ?_⟩
  have hs : ∀ (j : Nat) (v : V), vs[j]? = some v → (L2.start N vs)[j]? = some (some v) := fun j v e => by
    unfold L2.start
    have hlt : j < vs.length := (List.getElem?_eq_some_iff.mp e).1
    rw [List.getElem?_append_left (by rw [List.length_map]; exact hlt), List.getElem?_map, e]
    rfl
  refine q1 _ _ F0 H ψ _ (start_ok N.length ok) ?_
  unfold runB at h
  cases q : g (ms.map some ++ List.replicate (N.length - ms.length) none) with
  | bk ε' => rw [q] at h; exact h.elim
  | ct ε' => rw [q] at h; exact h.elim
  | bad => rw [q] at h; exact h.elim
  | nx ε' =>
    rw [q] at h
    simp only [outF] at h
    intro σ' F' H' φ' ok' st fx
    cases q2 : outL io ε' 0 ms with
    | none => rw [q2] at h; exact h.elim
    | some outs =>
      rw [q2] at h
      exact h .non F' H' _ [] (out_ok ok hs st.f ok' fx q2) (st.imp fun a z => z.elim out_own (fun z => by cases z)) ⟨rfl, rfl⟩ List.nodup_nil (fun _ z => by cases z)
  | rt m ε' =>
    rw [q] at h
    simp only [outF] at h
    intro v σ' F' H' φ' s' ok' st r nd off fx
    cases q2 : outL io ε' 0 ms with
    | none => rw [q2] at h; exact h.elim
    | some outs =>
      rw [q2] at h
      refine h v F' H' _ s' (out_ok ok hs st.f ok' fx q2) (st.imp fun a z => z.elim (fun z => .inl (out_own z)) .inr) r nd fun a ha => ⟨(off a ha).1, fun i hi => ?_⟩
      split at hi
      · exact (off a ha).2 i hi
      · cases hi
  | ex c fs ε' =>
    rw [q] at h
    simp only [outF] at h
    intro dx xs σ' F' H' φ' ok' st e r fx
    cases q2 : outL io ε' 0 ms with
    | none => rw [q2] at h; exact h.elim
    | some outs =>
      rw [q2] at h
      exact h dx xs F' H' _ (out_ok ok hs st.f ok' fx q2) (st.imp fun a z => out_own z) e r
/-! ### what holds no list -/
mutual
def flatD : D → Bool
  | .lst _ | .rl _ => false
  | .tup xs => flatDs xs
  | .obj _ fs => flatDf fs
  | .dK fs => flatDk fs
  | .dT fs => flatDt fs
  | _ => true
def flatDs : List D → Bool
  | [] => true
  | x :: xs => flatD x && flatDs xs
def flatDf : List (Str × D) → Bool
  | [] => true
  | (_, x) :: xs => flatD x && flatDf xs
def flatDk : List (Key × D) → Bool
  | [] => true
  | (_, x) :: xs => flatD x && flatDk xs
def flatDt : List (List Key × D) → Bool
  | [] => true
  | (_, x) :: xs => flatD x && flatDt xs
end
mutual
def flatM : M → Bool
  | .d x => flatD x
  | .ol xs => flatDs xs
  | .odK fs => flatDk fs
  | .odT fs => flatDt fs
  | .on ms => flatMs ms
  | .oo _ fs => flatMf fs
def flatMs : List M → Bool
  | [] => true
  | m :: ms => flatM m && flatMs ms
def flatMf : List (Str × M) → Bool
  | [] => true
  | (_, m) :: ms => flatM m && flatMf ms
end
mutual
/-- what is owned there are lists -/
def listM : M → Bool
  | .d _ => true
  | .ol _ => true
  | .on ms => listMs ms
  | _ => false
def listMs : List M → Bool
  | [] => true
  | m :: ms => listM m && listMs ms
end
def cutF (F : Hp) (S : List Addr) : Hp := fun a => if a ∈ S then none else F a
theorem cutF_in {F : Hp} {S : List Addr} {a : Addr} (h : a ∈ S) : cutF F S a = none := if_pos h
theorem cutF_out {F : Hp} {S : List Addr} {a : Addr} (h : a ∉ S) : cutF F S a = F a := if_neg h
theorem cut_le {F : Hp} {S : List Addr} : Le (cutF F S) F := fun a o e => by
  by_cases h : a ∈ S
  · rw [cutF_in h] at e; cases e
  · rw [cutF_out h] at e; exact e
section
variable {K : PySem.W.Frag} {F H : Hp} {S : List Addr}
theorem cut_at (hS : ∀ a ∈ S, ∃ vs, F a = some (.lst vs)) {a : Addr} {o : HO} (h : F a = some o) (hne : ∀ vs, o ≠ .lst vs) : cutF F S a = some o := by
  rw [cutF_out (fun z => by
    obtain ⟨vs, e⟩ := hS a z
    rw [h] at e
    exact hne vs (Option.some.inj e))]
  exact h
theorem SqT.hid (hS : ∀ a ∈ S, ∃ vs, F a = some (.lst vs)) {a : Addr} {vs : List V} (h : SqT K F a vs) : SqT K (cutF F S) a vs := by
  rcases h with (h | ⟨o, h⟩) | h
  · exact .inl (.inl (cut_at hS h nofun))
  · exact .inl (.inr ⟨o, cut_at hS h nofun⟩)
  · exact .inr h
mutual
theorem Rep.hid (hS : ∀ a ∈ S, ∃ vs, F a = some (.lst vs)) : ∀ (d : D) (v : V), flatD d = true → Rep K F d v → Rep K (cutF F S) d v
  | .non, _, _, h => h
  | .bl _, _, _, h => h
  | .int _, _, _, h => h
  | .str _, _, _, h => h
  | .ty _, _, _, h => h
  | .cl _, _, _, h => h
  | .lst xs, _, k, h => by cases k
  | .rl xs, _, k, h => by cases k
  | .tup xs, _, k, ⟨a, vs, e, h, r⟩ => ⟨a, vs, e, SqT.hid hS h, Reps.hid hS xs vs k r⟩
  | .obj c fs, _, k, ⟨a, dx, vs, e, h, r⟩ => ⟨a, dx, vs, e, cut_at hS h nofun, RepF.hid hS fs vs k r⟩
  | .dK fs, _, k, ⟨a, vs, e, h, r⟩ => ⟨a, vs, e, cut_at hS h nofun, RepK.hid hS fs vs k r⟩
  | .dT fs, _, k, ⟨a, vs, e, h, r⟩ => ⟨a, vs, e, cut_at hS h nofun, RepT.hid hS fs vs k r⟩
theorem Reps.hid (hS : ∀ a ∈ S, ∃ vs, F a = some (.lst vs)) : ∀ (d : List D) (v : List V), flatDs d = true → Reps K F d v → Reps K (cutF F S) d v
  | [], _, _, h => h
  | x :: xs, _, k, ⟨v, ws, e, h, r⟩ => by
    obtain ⟨k1, k2⟩ := Bool.and_eq_true_iff.mp (show (flatD x && flatDs xs) = true from k)
    exact ⟨v, ws, e, Rep.hid hS x v k1 h, Reps.hid hS xs ws k2 r⟩
theorem RepF.hid (hS : ∀ a ∈ S, ∃ vs, F a = some (.lst vs)) : ∀ (d : List (Str × D)) (v : List (Str × V)), flatDf d = true → RepF K F d v → RepF K (cutF F S) d v
  | [], _, _, h => h
  | (_, x) :: xs, _, k, ⟨v, ws, e, h, r⟩ => by
    obtain ⟨k1, k2⟩ := Bool.and_eq_true_iff.mp (show (flatD x && flatDf xs) = true from k)
    exact ⟨v, ws, e, Rep.hid hS x v k1 h, RepF.hid hS xs ws k2 r⟩
theorem RepK.hid (hS : ∀ a ∈ S, ∃ vs, F a = some (.lst vs)) : ∀ (d : List (Key × D)) (v : List (Key × V)), flatDk d = true → RepK K F d v → RepK K (cutF F S) d v
  | [], _, _, h => h
  | (_, x) :: xs, _, k, ⟨v, ws, e, h, r⟩ => by
    obtain ⟨k1, k2⟩ := Bool.and_eq_true_iff.mp (show (flatD x && flatDk xs) = true from k)
    exact ⟨v, ws, e, Rep.hid hS x v k1 h, RepK.hid hS xs ws k2 r⟩
theorem RepT.hid (hS : ∀ a ∈ S, ∃ vs, F a = some (.lst vs)) : ∀ (d : List (List Key × D)) (v : List (List Key × V)), flatDt d = true → RepT K F d v → RepT K (cutF F S) d v
  | [], _, _, h => h
  | (_, x) :: xs, _, k, ⟨v, ws, e, h, r⟩ => by
    obtain ⟨k1, k2⟩ := Bool.and_eq_true_iff.mp (show (flatD x && flatDt xs) = true from k)
    exact ⟨v, ws, e, Rep.hid hS x v k1 h, RepT.hid hS xs ws k2 r⟩
end
mutual
theorem RM.hid (hS : ∀ a ∈ S, ∃ vs, F a = some (.lst vs)) : ∀ (m : M) (v : V) (fp : List Addr), flatM m = true → RM K F H m v fp → RM K (cutF F S) H m v fp
  | .d x, v, _, k, ⟨e, r⟩ => ⟨e, Rep.hid hS x v k r⟩
  | .ol xs, _, _, k, ⟨a, vs, e, ef, h, r⟩ => ⟨a, vs, e, ef, h, Reps.hid hS xs vs k r⟩
  | .odK fs, _, _, k, ⟨a, vs, e, ef, h, r⟩ => ⟨a, vs, e, ef, h, RepK.hid hS fs vs k r⟩
  | .odT fs, _, _, k, ⟨a, vs, e, ef, h, r⟩ => ⟨a, vs, e, ef, h, RepT.hid hS fs vs k r⟩
  | .on ms, _, _, k, ⟨a, vs, fp', e, ef, h, r⟩ => ⟨a, vs, fp', e, ef, h, RMs.hid hS ms vs fp' k r⟩
  | .oo c fs, _, _, k, ⟨a, dx, vs, fp', e, ef, h, r⟩ => ⟨a, dx, vs, fp', e, ef, h, RMf.hid hS fs vs fp' k r⟩
theorem RMs.hid (hS : ∀ a ∈ S, ∃ vs, F a = some (.lst vs)) : ∀ (m : List M) (v : List V) (fp : List Addr), flatMs m = true → RMs K F H m v fp → RMs K (cutF F S) H m v fp
  | [], _, _, _, h => h
  | m :: ms, _, _, k, ⟨v, ws, f1, f2, e, ef, h, r⟩ => by
    obtain ⟨k1, k2⟩ := Bool.and_eq_true_iff.mp (show (flatM m && flatMs ms) = true from k)
    exact ⟨v, ws, f1, f2, e, ef, RM.hid hS m v f1 k1 h, RMs.hid hS ms ws f2 k2 r⟩
theorem RMf.hid (hS : ∀ a ∈ S, ∃ vs, F a = some (.lst vs)) : ∀ (m : List (Str × M)) (v : List (Str × V)) (fp : List Addr), flatMf m = true → RMf K F H m v fp → RMf K (cutF F S) H m v fp
  | [], _, _, _, h => h
  | (_, m) :: ms, _, _, k, ⟨v, ws, f1, f2, e, ef, h, r⟩ => by
    obtain ⟨k1, k2⟩ := Bool.and_eq_true_iff.mp (show (flatM m && flatMf ms) = true from k)
    exact ⟨v, ws, f1, f2, e, ef, RM.hid hS m v f1 k1 h, RMf.hid hS ms ws f2 k2 r⟩
end
mutual
theorem RM.lists : ∀ (m : M) (v : V) (fp : List Addr), listM m = true → RM K F H m v fp → ∀ a ∈ fp, ∃ vs, H a = some (.lst vs)
  | .d x, v, _, _, ⟨e, r⟩, a, ha => by rw [e] at ha; cases ha
  | .ol xs, _, _, _, ⟨a, vs, e, ef, h, r⟩, b, hb => by
    rw [ef] at hb
    cases hb with
    | head => exact ⟨vs, h⟩
    | tail _ z => cases z
  | .on ms, _, _, k, ⟨a, vs, fp', e, ef, h, r⟩, b, hb => by
    rw [ef] at hb
    cases hb with
    | head => exact ⟨vs, h⟩
    | tail _ z => exact RMs.lists ms vs fp' k r b z
  | .odK _, _, _, k, _, _, _ => by cases k
  | .odT _, _, _, k, _, _, _ => by cases k
  | .oo _ _, _, _, k, _, _, _ => by cases k
theorem RMs.lists : ∀ (m : List M) (v : List V) (fp : List Addr), listMs m = true → RMs K F H m v fp → ∀ a ∈ fp, ∃ vs, H a = some (.lst vs)
  | [], _, _, _, h, a, ha => by rw [h.2] at ha; cases ha
  | m :: ms, _, _, k, ⟨v, ws, f1, f2, e, ef, h, r⟩, a, ha => by
    obtain ⟨k1, k2⟩ := Bool.and_eq_true_iff.mp (show (listM m && listMs ms) = true from k)
    rw [ef] at ha
    rcases List.mem_append.mp ha with z | z
    · exact RM.lists m v f1 k1 h a z
    · exact RMs.lists ms ws f2 k2 r a z
end
end
/-! ### the call: an argument is data (0), handed in by name to be changed (1), lent by name (2) -/
inductive CA where
  | io (i : Nat) | da (d : D) | bo (i : Nat)
def resC (ε : En) : List Nat → List Arg → Option (List CA × En)
  | [], [] => some ([], ε)
  | 1 :: bs, .var i :: as => (resC ε bs as).map fun r => (.io i :: r.1, r.2)
  | _ :: bs, .val d :: as => (resC ε bs as).map fun r => (.da d :: r.1, r.2)
  | 0 :: bs, .var i :: as => match frzV ε i with
    | some (x, ε1) => (resC ε1 bs as).map fun r => (.da x :: r.1, r.2)
    | none => none
  | 2 :: bs, .var i :: as => match ε[i]? with
    | some (some (.d x)) => (resC ε bs as).map fun r => (.da x :: r.1, r.2)
    | some (some _) => (resC ε bs as).map fun r => (.bo i :: r.1, r.2)
    | _ => none
  | _, _ => none
def caMs (ε : En) : List CA → Option (List M)
  | [] => some []
  | .io i :: r => match ε[i]?, caMs ε r with
    | some (some m), some ms => some (m :: ms)
    | _, _ => none
  | .bo i :: r => match ε[i]?, caMs ε r with
    | some (some m), some ms => if listM m = true then some (.d m.toD :: ms) else none
    | _, _ => none
  | .da d :: r => (caMs ε r).map (.d d :: ·)
def caSl : List CA → List Nat
  | [] => []
  | .io i :: r => i :: caSl r
  | .da _ :: r => caSl r
  | .bo _ :: r => caSl r
def caBo : List CA → List Nat
  | [] => []
  | .bo i :: r => i :: caBo r
  | .da _ :: r => caBo r
  | .io _ :: r => caBo r
def caPut (ε : En) : List CA → List M → En
  | .io i :: r, m :: ms => (caPut ε r ms).set i (some m)
  | .da _ :: r, _ :: ms => caPut ε r ms
  | .bo _ :: r, _ :: ms => caPut ε r ms
  | _, _ => ε
def caFlat : List CA → List M → Bool
  | .io _ :: r, m :: ms => flatM m && caFlat r ms
  | .da _ :: r, _ :: ms => caFlat r ms
  | .bo _ :: r, _ :: ms => caFlat r ms
  | _, _ => true
def caGood (cs : List CA) (outs : List M) (b : Bool) : Bool := match caBo cs with
  | [] => true
  | _ => b && caFlat cs outs
def tailC (bs : List Nat) (mir : List M → FOut) (as : List Arg) (ε1 : En) : Out M := match resC ε1 bs as with
  | some (cs, ε2) => (match caMs ε2 cs with
    | some ms => if (caSl cs).Nodup ∧ ∀ i ∈ caSl cs, i ∉ caBo cs then (match mir ms with
      | .rt m outs => if outs.length = ms.length ∧ caGood cs outs (flatM m) = true then .ok m (caPut ε2 cs outs) else .bad
      | .ex c fs outs => if outs.length = ms.length ∧ caGood cs outs (flatDf fs) = true then .ex c fs (caPut ε2 cs outs) else .bad
      | .bad => .bad) else .bad
    | none => .bad)
  | none => .bad
def eCall (bs : List Nat) (mir : List M → FOut) (fa : En → Out (List Arg)) (ε : En) : Out M := (fa ε).bnd fun as ε1 => tailC bs mir as ε1
section
variable {K : PySem.W.Frag} {F H : Hp} {σ : L2.St}
def CaOk (K : PySem.W.Frag) (F : Hp) (σ : L2.St) : List CA → List V → Prop
  | [], vs => vs = []
  | .io i :: r, vs => ∃ v ws, vs = v :: ws ∧ σ[i]? = some (some v) ∧ CaOk K F σ r ws
  | .bo i :: r, vs => ∃ v ws, vs = v :: ws ∧ σ[i]? = some (some v) ∧ CaOk K F σ r ws
  | .da d :: r, vs => ∃ v ws, vs = v :: ws ∧ Rep K F d v ∧ CaOk K F σ r ws
theorem resC_ok {P : Addr → Prop} {F0 H0 : Hp} : ∀ {bs : List Nat} {as : List Arg} {F : Hp} {φ : Nat → List Addr} {ε ε' : En} {vs : List V} {cs : List CA}, EnvOk K F H ε σ φ → Step F0 H0 P F H (Own φ) → ArgsOk K F σ as vs → resC ε bs as = some (cs, ε') →
    (∃ G φ', EnvOk K G H ε' σ φ' ∧ Step F0 H0 P G H (Own φ') ∧ CaOk K G σ cs vs ∧ Le F G) ∧ cs.length = bs.length := by
  intro bs
  induction bs with
  | nil =>
    intro as F φ ε ε' vs cs ok st h e
    cases as with
    | nil => cases e; exact ⟨⟨F, φ, ok, st, h, Le.refl _⟩, rfl⟩
    | cons a as => cases e
  | cons b bs ih =>
    intro as F φ ε ε' vs cs ok st h e
    cases as with
    | nil =>
      have e' : resC ε (b :: bs) [] = none := by
        match b with
        | 0 | 1 | 2 | (n + 3) => rfl
      rw [e'] at e; cases e
    | cons a as =>
      obtain ⟨v, ws, ev, hv, r⟩ := h
      cases a with
      | val d =>
        have e' : (resC ε bs as).map (fun r => (CA.da d :: r.1, r.2)) = some (cs, ε') := by
          rw [← e]
          match b with
          | 0 | 1 | 2 | (n + 3) => rfl
        cases q : resC ε bs as with
        | none => rw [q] at e'; cases e'
        | some z =>
          obtain ⟨cs', ε1⟩ := z
          rw [q] at e'
          cases e'
          obtain ⟨⟨G, φ', ok', st', r', l⟩, hl⟩ := ih ok st r q
          exact ⟨⟨G, φ', ok', st', ⟨v, ws, ev, Rep.le l d v hv, r'⟩, l⟩, by rw [List.length_cons, List.length_cons, hl]⟩
      | var i =>
        match b with
        | 0 =>
          unfold resC at e
          simp only at e
          cases q1 : frzV ε i with
          | none => rw [q1] at e; cases e
          | some z1 =>
            obtain ⟨x, ε1⟩ := z1
            rw [q1] at e
            simp only at e
            obtain ⟨G1, φ1, ok1, st1, r1, l1⟩ := frzV_ok ok st hv q1
            cases q : resC ε1 bs as with
            | none => rw [q] at e; cases e
            | some z =>
              obtain ⟨cs', ε2⟩ := z
              rw [q] at e
              cases e
              obtain ⟨⟨G, φ', ok', st', r', l⟩, hl⟩ := ih ok1 st1 (ArgsOk.le l1 r) q
              exact ⟨⟨G, φ', ok', st', ⟨v, ws, ev, Rep.le l x v r1, r'⟩, l1.trans l⟩, by rw [List.length_cons, List.length_cons, hl]⟩
        | 1 =>
          have e : (resC ε bs as).map (fun r => (CA.io i :: r.1, r.2)) = some (cs, ε') := e
          cases q : resC ε bs as with
          | none => rw [q] at e; cases e
          | some z =>
            obtain ⟨cs', ε1⟩ := z
            rw [q] at e
            cases e
            obtain ⟨⟨G, φ', ok', st', r', l⟩, hl⟩ := ih ok st r q
            exact ⟨⟨G, φ', ok', st', ⟨v, ws, ev, hv, r'⟩, l⟩, by rw [List.length_cons, List.length_cons, hl]⟩
        | 2 =>
          unfold resC at e
          simp only at e
          split at e
          · rename_i x hx
            cases q : resC ε bs as with
            | none => rw [q] at e; cases e
            | some z =>
              obtain ⟨cs', ε1⟩ := z
              rw [q] at e
              cases e
              obtain ⟨⟨G, φ', ok', st', r', l⟩, hl⟩ := ih ok st r q
              obtain ⟨u, hu, ru⟩ := ok.slot i _ hx
              have hv' : σ[i]? = some (some v) := hv
              rw [hv'] at hu
              cases hu
              exact ⟨⟨G, φ', ok', st', ⟨v, ws, ev, Rep.le l x v ru.2, r'⟩, l⟩, by rw [List.length_cons, List.length_cons, hl]⟩
          · cases q : resC ε bs as with
            | none => rw [q] at e; cases e
            | some z =>
              obtain ⟨cs', ε1⟩ := z
              rw [q] at e
              cases e
              obtain ⟨⟨G, φ', ok', st', r', l⟩, hl⟩ := ih ok st r q
              exact ⟨⟨G, φ', ok', st', ⟨v, ws, ev, hv, r'⟩, l⟩, by rw [List.length_cons, List.length_cons, hl]⟩
          · cases e
        | n + 3 => cases e
theorem CaOk.length : ∀ {cs : List CA} {vs : List V}, CaOk K F σ cs vs → vs.length = cs.length
  | [], _, h => by rw [show _ = [] from h]; rfl
  | .io _ :: r, _, ⟨v, ws, e, _, h⟩ => by rw [e, List.length_cons, List.length_cons, CaOk.length h]
  | .bo _ :: r, _, ⟨v, ws, e, _, h⟩ => by rw [e, List.length_cons, List.length_cons, CaOk.length h]
  | .da _ :: r, _, ⟨v, ws, e, _, h⟩ => by rw [e, List.length_cons, List.length_cons, CaOk.length h]
theorem caMs_len {ε : En} : ∀ {cs : List CA} {ms : List M}, caMs ε cs = some ms → ms.length = cs.length
  | [], _, h => by cases h; rfl
  | .io i :: r, ms, h => by
    unfold caMs at h
    split at h
    · rename_i m ms' e1 e2
      cases h
      rw [List.length_cons, List.length_cons, caMs_len e2]
    · cases h
  | .bo i :: r, ms, h => by
    unfold caMs at h
    split at h
    · rename_i m ms' e1 e2
      split at h
      · cases h
        rw [List.length_cons, List.length_cons, caMs_len e2]
      · cases h
    · cases h
  | .da d :: r, ms, h => by
    unfold caMs at h
    cases q : caMs ε r with
    | none => rw [q] at h; cases h
    | some z => rw [q] at h; cases h; rw [List.length_cons, List.length_cons, caMs_len q]
theorem caMs_get {ε : En} : ∀ {cs : List CA} {ms : List M} {k : Nat} {m : M}, caMs ε cs = some ms → ms[k]? = some m → (∃ i, cs[k]? = some (.io i) ∧ ε[i]? = some (some m)) ∨ (∃ d, cs[k]? = some (.da d) ∧ m = .d d) ∨ ∃ i m', cs[k]? = some (.bo i) ∧ ε[i]? = some (some m') ∧ m = .d m'.toD
  | [], _, _, _, h, e => by cases h; simp at e
  | .io i :: r, ms, k, m, h, e => by
    unfold caMs at h
    split at h
    · rename_i m0 ms' e1 e2
      cases h
      cases k with
      | zero => simp at e; subst e; exact .inl ⟨i, rfl, e1⟩
      | succ k =>
        have e' : ms'[k]? = some m := by simpa using e
        simpa using caMs_get e2 e'
    · cases h
  | .bo i :: r, ms, k, m, h, e => by
    unfold caMs at h
    split at h
    · rename_i m0 ms' e1 e2
      split at h
      · cases h
        cases k with
        | zero => simp at e; subst e; exact .inr (.inr ⟨i, m0, rfl, e1, rfl⟩)
        | succ k =>
          have e' : ms'[k]? = some m := by simpa using e
          simpa using caMs_get e2 e'
      · cases h
    · cases h
  | .da d :: r, ms, k, m, h, e => by
    unfold caMs at h
    cases q : caMs ε r with
    | none => rw [q] at h; cases h
    | some z =>
      rw [q] at h; cases h
      cases k with
      | zero => simp at e; subst e; exact .inr (.inl ⟨d, rfl, rfl⟩)
      | succ k =>
        have e' : z[k]? = some m := by simpa using e
        simpa using caMs_get q e'
theorem caMs_bo {ε : En} : ∀ {cs : List CA} {ms : List M}, caMs ε cs = some ms → ∀ i ∈ caBo cs, ∃ m, ε[i]? = some (some m) ∧ listM m = true
  | [], _, _, _, h => by cases h
  | .io i :: r, ms, h, j, hj => by
    unfold caMs at h
    split at h
    · rename_i m0 ms' e1 e2
      exact caMs_bo e2 j hj
    · cases h
  | .bo i :: r, ms, h, j, hj => by
    unfold caMs at h
    split at h
    · rename_i m0 ms' e1 e2
      split at h
      · rename_i hl
        rcases List.mem_cons.mp hj with z | z
        · subst z; exact ⟨m0, e1, hl⟩
        · exact caMs_bo e2 j z
      · cases h
    · cases h
  | .da d :: r, ms, h, j, hj => by
    unfold caMs at h
    cases q : caMs ε r with
    | none => rw [q] at h; cases h
    | some z => exact caMs_bo q j hj
theorem caOk_get : ∀ {cs : List CA} {vs : List V} {k : Nat}, CaOk K F σ cs vs → ∀ v, vs[k]? = some v → (∀ i, cs[k]? = some (.io i) → σ[i]? = some (some v)) ∧ (∀ i, cs[k]? = some (.bo i) → σ[i]? = some (some v)) ∧ ∀ d, cs[k]? = some (.da d) → Rep K F d v
  | [], _, _, h, v, e => by rw [show _ = [] from h] at e; simp at e
  | .io i :: r, _, k, ⟨u, ws, ev, hu, hr⟩, v, e => by
    subst ev
    cases k with
    | zero =>
      simp at e; subst e
      exact ⟨fun j q => by simp at q; subst q; exact hu, fun j q => by simp at q, fun d q => by simp at q⟩
    | succ k =>
      have e' : ws[k]? = some v := by simpa using e
      simpa using caOk_get hr v e'
  | .bo i :: r, _, k, ⟨u, ws, ev, hu, hr⟩, v, e => by
    subst ev
    cases k with
    | zero =>
      simp at e; subst e
      exact ⟨fun j q => by simp at q, fun j q => by simp at q; subst q; exact hu, fun d q => by simp at q⟩
    | succ k =>
      have e' : ws[k]? = some v := by simpa using e
      simpa using caOk_get hr v e'
  | .da d :: r, _, k, ⟨u, ws, ev, hu, hr⟩, v, e => by
    subst ev
    cases k with
    | zero =>
      simp at e; subst e
      exact ⟨fun j q => by simp at q, fun j q => by simp at q, fun d q => by simp at q; subst q; exact hu⟩
    | succ k =>
      have e' : ws[k]? = some v := by simpa using e
      simpa using caOk_get hr v e'
theorem caSl_mem : ∀ {cs : List CA} {k i : Nat}, cs[k]? = some (.io i) → i ∈ caSl cs
  | [], _, _, e => by simp at e
  | .io j :: r, k, i, e => by
    cases k with
    | zero => simp at e; subst e; exact List.mem_cons_self
    | succ k => exact List.mem_cons_of_mem _ (caSl_mem (cs := r) (k := k) (by simpa using e))
  | .bo d :: r, k, i, e => by
    cases k with
    | zero => simp at e
    | succ k => exact caSl_mem (cs := r) (k := k) (by simpa using e)
  | .da d :: r, k, i, e => by
    cases k with
    | zero => simp at e
    | succ k => exact caSl_mem (cs := r) (k := k) (by simpa using e)
theorem caBo_mem : ∀ {cs : List CA} {k i : Nat}, cs[k]? = some (.bo i) → i ∈ caBo cs
  | [], _, _, e => by simp at e
  | .bo j :: r, k, i, e => by
    cases k with
    | zero => simp at e; subst e; exact List.mem_cons_self
    | succ k => exact List.mem_cons_of_mem _ (caBo_mem (cs := r) (k := k) (by simpa using e))
  | .io d :: r, k, i, e => by
    cases k with
    | zero => simp at e
    | succ k => exact caBo_mem (cs := r) (k := k) (by simpa using e)
  | .da d :: r, k, i, e => by
    cases k with
    | zero => simp at e
    | succ k => exact caBo_mem (cs := r) (k := k) (by simpa using e)
theorem caSl_inj : ∀ {cs : List CA} {k l i : Nat}, (caSl cs).Nodup → cs[k]? = some (.io i) → cs[l]? = some (.io i) → k = l
  | [], _, _, _, _, e, _ => by simp at e
  | .io j :: r, k, l, i, nd, e1, e2 => by
    rw [caSl, List.nodup_cons] at nd
    cases k with
    | zero =>
      simp at e1; subst e1
      cases l with
      | zero => rfl
      | succ l => exact absurd (caSl_mem (cs := r) (k := l) (by simpa using e2)) nd.1
    | succ k =>
      cases l with
      | zero => simp at e2; subst e2; exact absurd (caSl_mem (cs := r) (k := k) (by simpa using e1)) nd.1
      | succ l => rw [caSl_inj (cs := r) (k := k) (l := l) nd.2 (by simpa using e1) (by simpa using e2)]
  | .bo d :: r, k, l, i, nd, e1, e2 => by
    cases k with
    | zero => simp at e1
    | succ k =>
      cases l with
      | zero => simp at e2
      | succ l => rw [caSl_inj (cs := r) (k := k) (l := l) nd (by simpa using e1) (by simpa using e2)]
  | .da d :: r, k, l, i, nd, e1, e2 => by
    cases k with
    | zero => simp at e1
    | succ k =>
      cases l with
      | zero => simp at e2
      | succ l => rw [caSl_inj (cs := r) (k := k) (l := l) nd (by simpa using e1) (by simpa using e2)]
/-- which argument stands in slot j -/
def caPos : List CA → Nat → Option Nat
  | [], _ => none
  | .io i :: r, j => if i = j then some 0 else (caPos r j).map (· + 1)
  | .bo _ :: r, j => (caPos r j).map (· + 1)
  | .da _ :: r, j => (caPos r j).map (· + 1)
theorem caPos_some : ∀ {cs : List CA} {j k : Nat}, caPos cs j = some k → cs[k]? = some (.io j)
  | [], _, _, e => by cases e
  | .io i :: r, j, k, e => by
    unfold caPos at e
    split at e
    · rename_i h
      cases e; subst h; rfl
    · cases q : caPos r j with
      | none => rw [q] at e; cases e
      | some l => rw [q] at e; cases e; simpa using caPos_some q
  | .bo d :: r, j, k, e => by
    unfold caPos at e
    cases q : caPos r j with
    | none => rw [q] at e; cases e
    | some l => rw [q] at e; cases e; simpa using caPos_some q
  | .da d :: r, j, k, e => by
    unfold caPos at e
    cases q : caPos r j with
    | none => rw [q] at e; cases e
    | some l => rw [q] at e; cases e; simpa using caPos_some q
theorem caPos_none : ∀ {cs : List CA} {j : Nat}, caPos cs j = none → ∀ k : Nat, cs[k]? ≠ some (CA.io j)
  | [], _, _, k, e => by simp at e
  | .io i :: r, j, e, k, h => by
    unfold caPos at e
    split at e
    · cases e
    · rename_i hne
      cases q : caPos r j with
      | some l => rw [q] at e; cases e
      | none =>
        cases k with
        | zero => simp at h; exact hne h
        | succ k => exact caPos_none q k (by simpa using h)
  | .bo d :: r, j, e, k, h => by
    unfold caPos at e
    cases q : caPos r j with
    | some l => rw [q] at e; cases e
    | none =>
      cases k with
      | zero => simp at h
      | succ k => exact caPos_none q k (by simpa using h)
  | .da d :: r, j, e, k, h => by
    unfold caPos at e
    cases q : caPos r j with
    | some l => rw [q] at e; cases e
    | none =>
      cases k with
      | zero => simp at h
      | succ k => exact caPos_none q k (by simpa using h)
theorem caPut_len {ε : En} : ∀ {cs : List CA} {ms : List M}, (caPut ε cs ms).length = ε.length
  | [], _ => rfl
  | .io i :: r, [] => rfl
  | .io i :: r, m :: ms => by unfold caPut; rw [List.length_set, caPut_len]
  | .bo d :: r, [] => rfl
  | .bo d :: r, m :: ms => by unfold caPut; exact caPut_len
  | .da d :: r, [] => rfl
  | .da d :: r, m :: ms => by unfold caPut; exact caPut_len
theorem caPut_get {ε : En} : ∀ {cs : List CA} {ms : List M} {j : Nat}, ms.length = cs.length → (caSl cs).Nodup → (caPut ε cs ms)[j]? = match caPos cs j with
    | some k => (match ms[k]? with
      | some m => if j < ε.length then some (some m) else none
      | none => ε[j]?)
    | none => ε[j]?
  | [], _, _, _, _ => rfl
  | .io i :: r, [], j, hl, _ => by simp at hl
  | .bo d :: r, [], j, hl, _ => by simp at hl
  | .da d :: r, [], j, hl, _ => by simp at hl
  | .io i :: r, m :: ms, j, hl, nd => by
    rw [caSl, List.nodup_cons] at nd
    unfold caPut caPos
    by_cases h : i = j
    · subst h
      rw [if_pos rfl, List.getElem?_set_self', ]
      simp only [List.getElem?_cons_zero]
      by_cases q : i < ε.length
      · rw [if_pos q, List.getElem?_eq_getElem (by rw [caPut_len]; exact q)]; rfl
      · rw [if_neg q, List.getElem?_eq_none (by rw [caPut_len]; omega)]; rfl
    · rw [if_neg h, List.getElem?_set_ne h, caPut_get (by simpa using hl) nd.2]
      cases q : caPos r j with
      | none => rfl
      | some k => simp
  | .bo d :: r, m :: ms, j, hl, nd => by
    unfold caPut caPos
    have ih := caPut_get (ε := ε) (cs := r) (ms := ms) (j := j) (by simpa using hl) nd
    rw [ih]
    cases q : caPos r j with
    | none => rfl
    | some k => simp
  | .da d :: r, m :: ms, j, hl, nd => by
    unfold caPut caPos
    have ih := caPut_get (ε := ε) (cs := r) (ms := ms) (j := j) (by simpa using hl) nd
    rw [ih]
    cases q : caPos r j with
    | none => rfl
    | some k => simp
theorem caFlat_get : ∀ {cs : List CA} {ms : List M} {k i : Nat} {m : M}, caFlat cs ms = true → cs[k]? = some (.io i) → ms[k]? = some m → flatM m = true
  | [], _, _, _, _, _, e, _ => by simp at e
  | _ :: _, [], _, _, _, _, _, e => by simp at e
  | .io j :: r, m0 :: ms, k, i, m, h, e1, e2 => by
    obtain ⟨h1, h2⟩ := Bool.and_eq_true_iff.mp (show (flatM m0 && caFlat r ms) = true from h)
    cases k with
    | zero => simp at e2; subst e2; exact h1
    | succ k => exact caFlat_get (cs := r) (ms := ms) (k := k) h2 (by simpa using e1) (by simpa using e2)
  | .bo j :: r, m0 :: ms, k, i, m, h, e1, e2 => by
    cases k with
    | zero => simp at e1
    | succ k => exact caFlat_get (cs := r) (ms := ms) (k := k) h (by simpa using e1) (by simpa using e2)
  | .da j :: r, m0 :: ms, k, i, m, h, e1, e2 => by
    cases k with
    | zero => simp at e1
    | succ k => exact caFlat_get (cs := r) (ms := ms) (k := k) h (by simpa using e1) (by simpa using e2)
/-- what a callee's argument owns -/
def caPsi (cs : List CA) (φ : Nat → List Addr) (k : Nat) : List Addr := match cs[k]? with
  | some (.io i) => φ i
  | _ => []
theorem caPsi_mem {cs : List CA} {φ : Nat → List Addr} {k : Nat} {a : Addr} (h : a ∈ caPsi cs φ k) : ∃ i, cs[k]? = some (.io i) ∧ a ∈ φ i := by
  unfold caPsi at h
  split at h
  · rename_i i e
    exact ⟨i, e, h⟩
  · cases h
/-- what is lent -/
def caS (cs : List CA) (φ : Nat → List Addr) : List Addr := (caBo cs).flatMap φ
theorem caS_mem {cs : List CA} {φ : Nat → List Addr} {a : Addr} (h : a ∈ caS cs φ) : ∃ i ∈ caBo cs, a ∈ φ i := by
  unfold caS at h
  obtain ⟨i, hi, ha⟩ := List.mem_flatMap.mp h
  exact ⟨i, hi, ha⟩
theorem call_env {ε : En} {φ : Nat → List Addr} {cs : List CA} {ms : List M} {vs : List V} (ok : EnvOk K F H ε σ φ) (hc : CaOk K F σ cs vs) (hm : caMs ε cs = some ms) (nd : (caSl cs).Nodup) (dj : ∀ i ∈ caSl cs, i ∉ caBo cs) : EnvOk K (frzF F H (caS cs φ)) H (ms.map some) (vs.map some) (caPsi cs φ) := by
  have off : ∀ a ∈ caS cs φ, F a = none := fun a ha => by
    obtain ⟨i, _, h⟩ := caS_mem ha
    exact ok.off i a h
  exact {
  sub := frz_sub ok.sub
  len := by rw [List.length_map, List.length_map, caMs_len hm, hc.length]
  slot := fun k m hk => by
    rw [List.getElem?_map] at hk
    cases q : ms[k]? with
    | none => rw [q] at hk; cases hk
    | some m' =>
      rw [q] at hk
      cases hk
      have hlt : k < vs.length := by
        rw [hc.length, ← caMs_len hm]
        exact (List.getElem?_eq_some_iff.mp q).1
      have ev : vs[k]? = some vs[k] := List.getElem?_eq_getElem hlt
      refine ⟨vs[k], by rw [List.getElem?_map, ev]; rfl, ?_⟩
      obtain ⟨h1, h3, h2⟩ := caOk_get hc _ ev
      unfold caPsi
      rcases caMs_get hm q with ⟨i, e1, e2⟩ | ⟨d, e1, e2⟩ | ⟨i, m', e1, e2, e3⟩
      · rw [e1]
        obtain ⟨u, hu, r⟩ := ok.slot i _ e2
        rw [h1 i e1] at hu
        cases hu
        exact RM.mv (frz_le off) m _ _ (fun _ _ _ z => z) r
      · rw [e1]
        subst e2
        exact ⟨rfl, Rep.le (frz_le off) _ _ (h2 d e1)⟩
      · rw [e1]
        subst e3
        obtain ⟨u, hu, r⟩ := ok.slot i _ e2
        rw [h3 i e1] at hu
        cases hu
        refine ⟨rfl, RM.frz (frz_le off) m' _ _ (fun a ha o e => ?_) r⟩
        rw [frzF_in (show a ∈ caS cs φ from List.mem_flatMap.mpr ⟨i, caBo_mem e1, ha⟩)]
        exact e
  emp := fun k hk => by
    unfold caPsi
    split
    · rename_i i e
      by_cases q : k < ms.length
      · exact absurd (show (ms.map some)[k]? = some (some ms[k]) from by rw [List.getElem?_map, List.getElem?_eq_getElem q]; rfl) (hk _)
      · have := (List.getElem?_eq_some_iff.mp e).1
        rw [caMs_len hm] at q
        omega
    · rfl
  nd := fun k => by
    unfold caPsi
    split
    · exact ok.nd _
    · exact List.nodup_nil
  dj := fun k l a h1 h2 => by
    obtain ⟨i, e1, m1⟩ := caPsi_mem h1
    obtain ⟨j, e2, m2⟩ := caPsi_mem h2
    have := ok.dj i j a m1 m2
    subst this
    exact caSl_inj nd e1 e2
  off := fun k a h => by
    obtain ⟨i, e1, m1⟩ := caPsi_mem h
    rw [frzF_out (fun z => by
      obtain ⟨j, hj, h2⟩ := caS_mem z
      have := ok.dj i j a m1 h2
      subst this
      exact dj i (caSl_mem e1) hj)]
    exact ok.off i a m1 }
def caPhi (cs : List CA) (φ ψ' : Nat → List Addr) (j : Nat) : List Addr := match caPos cs j with
  | some k => ψ' k
  | none => φ j
/-- back from the call: what was lent is the caller's again -/
theorem call_back {ε : En} {φ ψ' : Nat → List Addr} {cs : List CA} {ms outs : List M} {vs : List V} {F' H' : Hp} {T : Addr → Prop} (ok : EnvOk K F H ε σ φ) (hc : CaOk K F σ cs vs) (hm : caMs ε cs = some ms) (nd : (caSl cs).Nodup) (hl : outs.length = ms.length)
    (fl : caBo cs = [] ∨ caFlat cs outs = true) (ok' : EnvOk K F' H' (outs.map some) (vs.map some) ψ') (st : Step (frzF F H (caS cs φ)) H (Own (caPsi cs φ)) F' H' (fun a => Own ψ' a ∨ T a)) :
    EnvOk K (cutF F' (caS cs φ)) H' (caPut ε cs outs) σ (caPhi cs φ ψ') ∧ (∀ a, T a → ¬ Own ψ' a → ¬ Own (caPhi cs φ ψ') a) ∧ (∀ a ∈ caS cs φ, ∃ vs, F' a = some (.lst vs)) ∧
      Step F H (Own φ) (cutF F' (caS cs φ)) H' (fun a => Own (caPhi cs φ ψ') a ∨ T a) := by
  have hl2 : outs.length = cs.length := hl.trans (caMs_len hm)
  have offS : ∀ a ∈ caS cs φ, F a = none := fun a ha => by
    obtain ⟨i, _, h⟩ := caS_mem ha
    exact ok.off i a h
  have lF : Le F (cutF F' (caS cs φ)) := fun a o e => by
    rw [cutF_out (fun z => by rw [offS a z] at e; cases e)]
    exact st.f a o (frz_le offS a o e)
  have lst : ∀ a ∈ caS cs φ, ∃ vs, F' a = some (.lst vs) := fun a ha => by
    obtain ⟨i, hi, h⟩ := caS_mem ha
    obtain ⟨m, hm', hlm⟩ := caMs_bo hm i hi
    obtain ⟨v, _, r⟩ := ok.slot i m hm'
    obtain ⟨vs, e⟩ := RM.lists m v _ hlm r a h
    exact ⟨vs, st.f a _ (by rw [frzF_in ha]; exact e)⟩
  -- what other names own is no concern of the callee
  have other : ∀ j a, caPos cs j = none → a ∈ φ j → ¬ Own (caPsi cs φ) a := fun j a e h ⟨k, hk⟩ => by
    obtain ⟨i, e1, m1⟩ := caPsi_mem hk
    have := ok.dj i j a m1 h
    subst this
    exact caPos_none e k e1
  have notr : ∀ j a, caPos cs j = none → a ∈ φ j → ¬ (Own ψ' a ∨ T a) := fun j a e h z => (st.o a z).elim (other j a e h) (ok.tr h)
  refine ⟨⟨cut_le.trans ok'.sub, by rw [caPut_len]; exact ok.len, fun j m hj => ?_, fun j hj => ?_, fun j => ?_, fun i j a h1 h2 => ?_, fun j a h => ?_⟩, fun a ha hn ⟨j, hj⟩ => ?_, lst, ⟨lF, fun a o q e => st.h a o (fun ⟨k, hk⟩ => ?_) e, fun a z => ?_, fun a z => ?_, st.t⟩⟩
  · rw [caPut_get hl2 nd] at hj
    unfold caPhi
    cases q : caPos cs j with
    | none =>
      rw [q] at hj
      obtain ⟨v, hv, r⟩ := ok.slot j m hj
      exact ⟨v, hv, RM.mv lF m v _ (fun a ha o e => st.h a o (other j a q ha) e) r⟩
    | some k =>
      rw [q] at hj
      have e1 := caPos_some q
      have hk : k < outs.length := by rw [hl2]; exact (List.getElem?_eq_some_iff.mp e1).1
      simp only [List.getElem?_eq_getElem hk] at hj
      split at hj
      · cases hj
        obtain ⟨v, hv, r⟩ := ok'.slot k _ (show (outs.map some)[k]? = some (some outs[k]) from by rw [List.getElem?_map, List.getElem?_eq_getElem hk]; rfl)
        have hv' : vs[k]? = some v := by
          rw [List.getElem?_map] at hv
          cases z : vs[k]? with
          | none => rw [z] at hv; cases hv
          | some u => rw [z] at hv; cases hv; rfl
        refine ⟨v, (caOk_get hc v hv').1 j e1, ?_⟩
        rcases fl with fl | fl
        · have eS : cutF F' (caS cs φ) = F' := by
            funext a
            rw [cutF_out (fun z => by
              obtain ⟨i, hi, _⟩ := caS_mem z
              rw [fl] at hi; cases hi)]
          rw [eS]; exact r
        · exact RM.hid lst _ _ _ (caFlat_get fl e1 (List.getElem?_eq_getElem hk)) r
      · cases hj
  · rw [caPut_get hl2 nd] at hj
    unfold caPhi
    cases q : caPos cs j with
    | none =>
      rw [q] at hj
      exact ok.emp j hj
    | some k =>
      rw [q] at hj
      have e1 := caPos_some q
      have hk : k < outs.length := by rw [hl2]; exact (List.getElem?_eq_some_iff.mp e1).1
      simp only [List.getElem?_eq_getElem hk] at hj
      -- the slot is there
      have hkm : k < ms.length := by rw [← hl]; exact hk
      rcases caMs_get hm (List.getElem?_eq_getElem hkm) with ⟨i, e2, e3⟩ | ⟨d, e2, _⟩ | ⟨i, m', e2, _⟩
      · rw [e1] at e2
        cases e2
        have hjl : j < ε.length := (List.getElem?_eq_some_iff.mp e3).1
        rw [if_pos hjl] at hj
        exact absurd rfl (hj _)
      · rw [e1] at e2; cases e2
      · rw [e1] at e2; cases e2
  · unfold caPhi
    split
    · exact ok'.nd _
    · exact ok.nd j
  · unfold caPhi at h1 h2
    cases q1 : caPos cs i with
    | none =>
      rw [q1] at h1
      cases q2 : caPos cs j with
      | none =>
        rw [q2] at h2
        exact ok.dj i j a h1 h2
      | some l =>
        rw [q2] at h2
        exact absurd (.inl ⟨l, h2⟩) (notr i a q1 h1)
    | some k =>
      rw [q1] at h1
      cases q2 : caPos cs j with
      | none =>
        rw [q2] at h2
        exact absurd (.inl ⟨k, h1⟩) (notr j a q2 h2)
      | some l =>
        rw [q2] at h2
        have := ok'.dj k l a h1 h2
        subst this
        have e1 := caPos_some q1
        rw [caPos_some q2] at e1
        cases e1
        rfl
  · by_cases hS : a ∈ caS cs φ
    · exact cutF_in hS
    rw [cutF_out hS]
    unfold caPhi at h
    cases q : caPos cs j with
    | some k => rw [q] at h; exact ok'.off k a h
    | none =>
      rw [q] at h
      cases z : F' a with
      | none => rfl
      | some o =>
        rcases st.n a (by rw [z]; exact nofun) with z | z | z
        · rw [frzF_out hS] at z; exact absurd (ok.off j a h) z
        · exact absurd z (other j a q h)
        · exact absurd z (ok.tr h)
  · unfold caPhi at hj
    split at hj
    · exact hn ⟨_, hj⟩
    · rename_i q
      exact notr j a q hj (.inr ha)
  · obtain ⟨i, _, m1⟩ := caPsi_mem hk
    exact q ⟨i, m1⟩
  · have lift : Own ψ' a ∨ T a → Own φ a ∨ H a = none := fun z => (st.o a z).imp_left fun ⟨k, hk⟩ => by
      obtain ⟨i, _, m1⟩ := caPsi_mem hk
      exact ⟨i, m1⟩
    rcases z with ⟨j, hj⟩ | z
    · unfold caPhi at hj
      split at hj
      · exact lift (.inl ⟨_, hj⟩)
      · exact .inl ⟨j, hj⟩
    · exact lift (.inr z)
  · by_cases hS : a ∈ caS cs φ
    · rw [cutF_in hS] at z; exact absurd rfl z
    · rw [cutF_out hS] at z
      rcases st.n a z with z | ⟨k, hk⟩ | z
      · rw [frzF_out hS] at z; exact .inl z
      · obtain ⟨i, _, m1⟩ := caPsi_mem hk
        exact .inr (.inl ⟨i, m1⟩)
      · exact .inr (.inr z)
theorem caGood_or {cs : List CA} {outs : List M} {b : Bool} (h : caGood cs outs b = true) : caBo cs = [] ∨ (b = true ∧ caFlat cs outs = true) := by
  unfold caGood at h
  split at h
  · rename_i e; exact .inl e
  · exact .inr (Bool.and_eq_true_iff.mp h)
theorem cutF_nil {cs : List CA} {φ : Nat → List Addr} {F' : Hp} (h : caBo cs = []) : cutF F' (caS cs φ) = F' := by
  funext a
  rw [cutF_out (fun z => by
    obtain ⟨i, hi, _⟩ := caS_mem z
    rw [h] at hi; cases hi)]
/-- what a call by a promise gives -/
theorem call_post {W : WX} {mir : List M → FOut} {n : Nat} {bs : List Nat} {as : List Arg} {vs : List V} {ε1 : En} {F0 H0 : Hp} {P : Addr → Prop} {φ1 : Nat → List Addr} {Q : VK} (hn : bs.length = n) (ok1 : EnvOk K F H ε1 σ φ1) (st1 : Step F0 H0 P F H (Own φ1)) (r1 : ArgsOk K F σ as vs)
    (h : PostE K W σ F0 H0 P Q (tailC bs mir as ε1)) : spM K n mir vs H Q (WE W σ) := by
  unfold tailC at h
  cases q2 : resC ε1 bs as with
  | none => rw [q2] at h; exact h.elim
  | some z =>
    obtain ⟨cs, ε2⟩ := z
    rw [q2] at h
    simp only at h
    obtain ⟨⟨G, φ2, ok2, st2, rc, l⟩, hcl⟩ := resC_ok ok1 st1 r1 q2
    cases q3 : caMs ε2 cs with
    | none => rw [q3] at h; exact h.elim
    | some ms =>
      rw [q3] at h
      simp only at h
      split at h
      case isFalse => exact h.elim
      rename_i ndj
      obtain ⟨nd, dj⟩ := ndj
      refine ⟨by rw [rc.length, hcl, hn], ms, _, _, call_env ok2 rc q3 nd dj, ?_⟩
      cases q4 : mir ms with
      | bad => rw [q4] at h; exact h
      | rt m outs =>
        rw [q4] at h
        simp only at h
        split at h
        case isFalse => exact h.elim
        rename_i hlg
        obtain ⟨hl, hg⟩ := hlg
        intro v F' H' ψ' s ok' st r nds off
        obtain ⟨b1, b3, lst, b4⟩ := call_back ok2 rc q3 nd hl ((caGood_or hg).imp_right fun z => z.2) ok' st
        refine h v _ H' _ s b1 (st2.trans b4) ?_ nds fun a ha => ⟨?_, fun i hi => b3 a ha (fun ⟨k, hk⟩ => (off a ha).2 k hk) ⟨i, hi⟩⟩
        · rcases caGood_or hg with z | z
          · rw [cutF_nil z]; exact r
          · exact RM.hid lst m v s z.1 r
        · by_cases hS : a ∈ caS cs φ2
          · exact cutF_in hS
          · rw [cutF_out hS]; exact (off a ha).1
      | ex c fs outs =>
        rw [q4] at h
        simp only at h
        split at h
        case isFalse => exact h.elim
        rename_i hlg
        obtain ⟨hl, hg⟩ := hlg
        intro dx xs F' H' ψ' ok' st e r
        have st' : Step (frzF G H (caS cs φ2)) H (Own (caPsi cs φ2)) F' H' (fun a => Own ψ' a ∨ False) := st.imp fun a z => z.elim id False.elim
        obtain ⟨b1, b3, lst, b4⟩ := call_back ok2 rc q3 nd hl ((caGood_or hg).imp_right fun z => z.2) ok' st'
        refine h dx xs _ H' _ b1 (st2.trans (b4.imp fun a z => .inl z)) e ?_
        rcases caGood_or hg with z | z
        · rw [cutF_nil z]; exact r
        · exact RepF.hid lst fs xs z.1 r
theorem call_run {W : WX} {mir : List M → FOut} {n : Nat} {bs : List Nat} {fa : En → Out (List Arg)} {t : TA} (h2 : ∀ ε σ F H φ Q, EnvOk K F H ε σ φ → PostA K W σ F H (Own φ) Q (fa ε) → t σ H Q)
    {ε : En} {φ : Nat → List Addr} {Q : VK} (hn : bs.length = n) (ok : EnvOk K F H ε σ φ) (h : PostE K W σ F H (Own φ) Q (eCall bs mir fa ε)) : t σ H fun vs H1 => spM K n mir vs H1 Q (WE W σ) := by
  refine h2 ε σ F H φ _ ok ?_
  unfold eCall at h
  cases q : fa ε with
  | bad => rw [q] at h; exact h
  | ex c fs ε' => rw [q] at h; exact h
  | ok as ε1 =>
    rw [q] at h
    simp only [bnd_ok] at h
    intro vs F1 H1 φ1 ok1 st1 r1
    exact call_post hn ok1 st1 r1 h
end
section
variable {X : Cx} {W : WX} {k : Nat} {f C : Addr} {fd : FuncData} {ps : List Str} {x m : Str} {p pos apos : Pos} {e o : Expr} {es : List Expr} {mir : List M → FOut}
theorem fe_call (bs : List Nat) {fa : En → Out (List Arg)} (tk : L2N.Takes X W) (F : FnOk X.prog X.w X.K X.mg X.base (L2N.CX X.prog X.w) k f fd ps (spM X.K ps.length mir)) (hr : Room k X.A) (hm : X.mg x = some (.ref f)) (hk : PySem.W.keepIn X.K (.ref f) = true) (hb : Binds X.K fd ps []) (ha : FA X W (e :: es) fa) (hn : bs.length = ps.length := by rfl) (hg : Gl X x := by rfl)
    (hdb : (x == ("__debug__" : Str)) = false := by decide) (he : starEach (e :: es) X.env = (false, eval e X.env) :: starEach es X.env := by rfl) (hpl : (backTo pos (starEach es X.env)).any (·.1) = false := by rfl) :
    FE X W (.Call (.Name x p) (e :: es) [] pos) (eCall bs mir fa) := by
  obtain ⟨t, h1, h2⟩ := ha.ex
  exact ⟨_, pe_callS (E := WE W) F hr hg hm hk hb (fun σ => L2N.passAt tk σ) h1 hdb he hpl, fun ε σ F H φ Q ok h => call_run h2 hn ok h⟩
end
end FL
/-! own exceptions whose __init__ says super().__init__('..') and keeps its arguments as fields -/
namespace FLE
open PySem PySem.Spec PyProof.Rows L2 PySem.W NdefX ClX
/-- what is known of such a class's __init__ -/
structure ExF (P : Program) (K : PySem.W.Frag) (D f cc cda : Addr) (qual : Str) (st : Stmt) (fd : FuncData) : Prop where
  fn : ∃ (dV kV doc pm ct : Value) (an : Option Addr), fd = ksFn "__init__" qual (defArgs st) (defBody st) (defScope st) dV kV doc pm an (.ref cda) ct cc
  at_ : ∃ (oc : Value) (od : Option Addr) (osl : Array (Option Value)), K.lookup f = some ⟨oc, od, .func fd, osl⟩
  code : codeIn K (.ref cda) qual = true
  file : ∃ (ccl : Value) (cdd : Option Addr) (vs : Array Value) (ccs : Array (Option Value)) (file : Str) (tf : Tok), K.lookup cda = some ⟨ccl, cdd, .fields vs, ccs⟩ ∧ vs[2]? = some (.str file tf) ∧ ((P.main.file : Str) == file) = true
  cell : ∃ (cl : Value) (cld : Option Addr) (csl : Array (Option Value)), K.lookup cc = some ⟨cl, cld, .cell (some (.ref D)), csl⟩
  sub : mroIn K D (.ref D) = some true
  sup : nsIn K mainGlobals "super" = some none
  top : (P.main.scope.names.lookup ("super" : Str)).isSome = false
  opq : nsIn K cStatics "thirdparty.any" = some none
  along : ks_superIn K D D "__init__" = some (some (.builtin "ValueError.__init__"))
  ve : subIn K (.ref D) (.type "ValueError") = some true
  T : OexC K D
/-- self.f = p, one behind another -/
def tStores (K : PySem.W.Frag) : List (Str × Nat) → TS
  | [] => tNext
  | (f, i) :: r => tSeq (tOst K f (tVar 0) (tVar i)) (tStores K r)
def getW (σ : L2.St) (i : Nat) : V := match σ[i]? with
  | some (some v) => v
  | _ => .non
theorem stores_old {K : PySem.W.Frag} {D a dx : Addr} {σ : L2.St} {De : Ends} (T : OexC K D) (h0 : σ[0]? = some (some (.ref a))) : ∀ (fs : List (Str × Nat)) (acc : List (Str × V)) (H : Hp), (∀ p ∈ fs, findIn K (.ref D) p.1 = some none ∧ ∃ v, σ[p.2]? = some (some v)) → H a = some (exo a D (some dx)) → H dx = some (exd dx acc) → acc.length + fs.length ≤ 900 → a ≠ dx →
    De.nx σ (upd H dx (exd dx ((fs.map fun p => (p.1, getW σ p.2)).reverse ++ acc))) → tStores K fs De σ H
  | [], acc, H, _, ha, hd, _, _, h => by
    have e : upd H dx (exd dx ((([] : List (Str × Nat)).map fun p => (p.1, getW σ p.2)).reverse ++ acc)) = H := by
      funext b
      by_cases hb : b = dx
      · subst hb; rw [upd_same]; exact hd.symm
      · rw [upd_ne hb]
    rw [e] at h
    exact h
  | (f, i) :: r, acc, H, hf, ha, hd, hl, hne, h => by
    obtain ⟨h1, v, hv⟩ := hf (f, i) List.mem_cons_self
    rw [List.length_cons] at hl
    refine ⟨v, hv, _, h0, a, D, rfl, T, h1, .inr ⟨dx, acc, ha, hd, by omega, ?_⟩⟩
    have eg : getW σ i = v := by unfold getW; rw [show σ[i]? = some (some v) from hv]
    refine stores_old T h0 r ((f, v) :: acc) _ (fun p hp => hf p (List.mem_cons_of_mem _ hp)) (by rw [upd_ne hne]; exact ha) upd_same (by rw [List.length_cons]; omega) hne ?_
    have e2 : upd (upd H dx (exd dx ((f, v) :: acc))) dx (exd dx ((r.map fun p => (p.1, getW σ p.2)).reverse ++ (f, v) :: acc)) = upd H dx (exd dx ((((f, i) :: r).map fun p => (p.1, getW σ p.2)).reverse ++ acc)) := by
      funext b
      by_cases hb : b = dx
      · subst hb
        rw [upd_same, upd_same, List.map_cons, List.reverse_cons, List.append_assoc, eg]
        rfl
      · rw [upd_ne hb, upd_ne hb, upd_ne hb]
    rw [e2]
    exact h
theorem stores_new {K : PySem.W.Frag} {D a : Addr} {σ : L2.St} {De : Ends} (T : OexC K D) (h0 : σ[0]? = some (some (.ref a))) {f : Str} {i : Nat} (r : List (Str × Nat)) {H : Hp} (hf : ∀ p ∈ (f, i) :: r, findIn K (.ref D) p.1 = some none ∧ ∃ v, σ[p.2]? = some (some v)) (ha : H a = some (exo a D none)) (hl : r.length ≤ 800)
    (h : ∀ dx, H dx = none → dx ≠ a → De.nx σ (upd (upd H dx (exd dx (((f, i) :: r).map fun p => (p.1, getW σ p.2)).reverse)) a (exo a D (some dx)))) : tStores K ((f, i) :: r) De σ H := by
  obtain ⟨h1, v, hv⟩ := hf (f, i) List.mem_cons_self
  refine ⟨v, hv, _, h0, a, D, rfl, T, h1, .inl ⟨ha, fun dx hn hne => ?_⟩⟩
  have eg : getW σ i = v := by unfold getW; rw [show σ[i]? = some (some v) from hv]
  refine stores_old T h0 r [(f, v)] _ (fun p hp => hf p (List.mem_cons_of_mem _ hp)) upd_same (by rw [upd_ne hne, upd_same]) (by rw [List.length_singleton]; omega) (Ne.symm hne) ?_
  have e2 : upd (upd (upd H dx (exd dx [(f, v)])) a (exo a D (some dx))) dx (exd dx ((r.map fun p => (p.1, getW σ p.2)).reverse ++ [(f, v)])) = upd (upd H dx (exd dx (((f, i) :: r).map fun p => (p.1, getW σ p.2)).reverse)) a (exo a D (some dx)) := by
    funext b
    by_cases hb : b = dx
    · subst hb
      rw [upd_same, upd_ne hne, upd_same, List.map_cons, List.reverse_cons, eg]
    · rw [upd_ne hb]
      by_cases hba : b = a
      · subst hba; rw [upd_same, upd_same]
      · rw [upd_ne hba, upd_ne hba, upd_ne hb, upd_ne hb]
  rw [e2]
  exact h dx hn hne
/-- the promise of the __init__: n arguments, kept as the fields fs -/
def spEx (D : Addr) (fs : List Str) : Sp := fun vs H Q _ => ∃ (a : Addr) (ws : List V), vs = .ref a :: ws ∧ ws.length = fs.length ∧ H a = some (exo a D none) ∧ ∀ dx, H dx = none → dx ≠ a → Q .non (upd (upd H dx (exd dx (fs.zip ws).reverse)) a (exo a D (some dx)))
theorem call_mw {prog : Program} {w : World} {A : Around} {E : Value → Shared → Prop} {h : Heap} {g : Array GenState} {d : Drawn} {t : Nat} {os : OsState} {nm q : Str} {C N : Addr} {bs bm : List Value} {hdct : Bool} {sn : List Str} {sub : List Value} {ab : Bool} {col : Option Bool} {dd : Option Addr} {k0 k1 k2 k3 k5 : Option Value} {u e t0 : Addr} {rest : List Value} {Q : Value → Shared → Prop}
    (hC : h.get? C = some (excClassObj nm q C N bs bm hdct sn sub ab col dd k0 k1 k2 k3 k5 "ValueError.__new__")) (he : h.get? e = some (HandSPX.excO C t0)) (hu : h.get? u = some (kxs_mw "ValueError.__init__" e)) (hrest : rest.length ≤ sizeLine)
    (hq : ∀ h' t1, (∀ b o, b ≠ e → h.get? b = some o → h'.get? b = some o) → h'.get? e = some (HandSPX.excO C t1) → Q .none ⟨h', g, d, t, os⟩) :
    wpAny (model prog w) A (call (.ref u) rest) Q E ⟨h, g, d, t, os⟩ := by
  refine wpAny_call (codeAny_of_tree ?_)
  show wpAny _ A.in1 (callAny (.ref u) ⟨rest, []⟩) _ _ _
  simp only [callAny]
  refine wpAny_bind (wpAny_load hu ?_)
  simp only [kxs_mw, show (Value.type "method-wrapper" == Value.type "method" || Value.type "method-wrapper" == Value.type "builtin_function_or_method" || Value.type "method-wrapper" == Value.type "method-wrapper") = true by decide, if_true]
  refine KFB.if_so (by decide) ?_
  refine wpAny_bind (check_bound_init F.excBase_ValueError.toExcCallFacts hC he rfl ?_)
  refine wpAny_bind (wpAny_pure (wpAny_pure ?_))
  refine ⟨plainId_quiet F.excBase_ValueError.init.plain _, codeAny_builtin F.excBase_ValueError.initEntry ?_⟩
  rw [Around.under_plainId F.excBase_ValueError.init.plain _]
  wp_walk
  refine hq _ h.objs.size (fun b o hb ho => ?_) ?_
  · rw [Heap.get?_update_other _ _ (Ne.symm hb)]
    exact Heap.get?_push_of_some _ ho
  · rw [Heap.get?_update_self _ (Heap.get?_push_of_some _ he) rfl]
    rfl
theorem exInit_ok {P : Program} {w : World} {K : PySem.W.Frag} {mg : Str → Option Value} {base : Heap} {D f cc cda : Addr} {qual : Str} {st : Stmt} {fd : FuncData} {N ps' fs : List Str} {k : Nat} {p0 p1 p2 p3 p4 p5 : Pos} {z : Str} {j : Nat} {sts : List Stmt} {ar : Arg}
    (X : ExF P K D f cc cda qual st fd) (S : NScope N (("self" : Str) :: ps') [("__class__" : Str)] (defScope st)) (hpar : ((defArgs st).posonlyargs ++ (defArgs st).args).head? = some ar) (har : ar.arg = "self") (hks : (defScope st).names.lookup ("super" : Str) = some .globalImplicit)
    (hb : defBody st = .Expr (.Call (.Attribute (.Call (.Name "super" p0) [] [] p1) "__init__" p2) [.Constant (.str z) j p3] [] p4) p5 :: sts)
    (hst : ∀ (A : Around) (outer : List Env) (s : Shared) (H : Hp) (E : XK), PSs (ncx (L2N.CX P w) P w K mg base N ⟨"__init__", qual, defArgs st, defBody st, defScope st, [(("__class__" : Str), cc)], cda⟩ f A outer s H E) sts (tStores K (fs.zip (List.range' 1 fs.length))))
    (hno : ∀ g ∈ fs, findIn K (.ref D) g = some none) (hlen : fs.length = ps'.length) (hne : fs ≠ []) (hl8 : fs.length ≤ 800)
    (hsw : ∀ env, swapsWith (.Call (.Attribute (.Call (.Name "super" p0) [] [] p1) "__init__" p2) [.Constant (.str z) j p3] [] p4) none p5.line env = pure false)
    (hin : ∀ L, interactive (ksEnv qual (defScope st) L f (.ref cda) cc) = false) (hev : ∀ L, ∃ pl : Sem Bool, eval (.Call (.Attribute (.Call (.Name "super" p0) [] [] p1) "__init__" p2) [.Constant (.str z) j p3] [] p4) (ksEnv qual (defScope st) L f (.ref cda) cc) = (do
      let ov ← attributeBase (.Call (.Name "super" p0) [] [] p1) "__init__" (ksEnv qual (defScope st) L f (.ref cda) cc) (eval (.Call (.Name "super" p0) [] [] p1) (ksEnv qual (defScope st) L f (.ref cda) cc))
      standAt p2.atName
      let (f', first) ← holding [ov] (getMethod ov "__init__" pl)
      callWith p4 f' first (backTo p4 (starEach [.Constant (.str z) j p3] (ksEnv qual (defScope st) L f (.ref cda) cc))) [])) :
    FnOk P w K mg base (L2N.CX P w) (k + 1) f fd (("self" : Str) :: ps') (spEx D fs) := by
  refine ⟨fun vs H Q E h => ?_, fun A outer s H args us vs Q E hr e0 hbind r hsp => ?_⟩
  · obtain ⟨a, ws, rfl, hw, _⟩ := h
    rw [List.length_cons, List.length_cons, hw, hlen]
  obtain ⟨a, ws, rfl, hwl, ha, hq⟩ := hsp
  have KX : K.In s.heap := e0.mod.kin.keeps fun b o e => (e0.bs b o e).1
  have lim : s.heap.NoLimit := e0.mod.nolimit.keeps fun b o e => (e0.bs b o e).1
  obtain ⟨dV, kV, doc, pm, ct, an, rfl⟩ := X.fn
  obtain ⟨oc, od, osl, lk⟩ := X.at_
  obtain ⟨cl, cld, csl, hcell⟩ := X.cell
  obtain ⟨ccl, cdd, vs2, ccs, file, tf, hcode, hvs, hfile⟩ := X.file
  obtain ⟨nm, q, N', bs, bm, sn, sub, ab, col, dd, k0, k1, k2, k3, k5, hC, hbm⟩ := X.T.cls
  have hcl : clsIn K D = some { name := nm, bases := bs, mro := .ref D :: bm, ns := N', qualname := q, hasDict := true, slotNames := sn, subclasses := sub, abstract := ab, collection := col, hasDel := false } := by unfold clsIn; rw [hC] <;> rfl
  have hlv : (V.ref a :: ws).length = (("self" : Str) :: ps').length := by rw [List.length_cons, List.length_cons, hwl, hlen]
  have ccell : s.heap.IsCell cc (some (.ref D)) := ⟨_, KX _ _ hcell, rfl⟩
  have ccH : H cc = none := by
    have hbase := e0.mod.kin _ _ hcell
    exact (e0.bs _ _ hbase).2
  have CA : CellsAt [(("__class__" : Str), cc)] [("__class__" : Str)] [some (V.ref D)] s.heap H := by
    refine ⟨rfl, fun y c e => ?_, fun x y c e1 e2 => ?_, fun i y e => ?_⟩
    · have := PySem.mem_of_lookup e
      simp at this
      obtain ⟨_, rfl⟩ := this
      exact ⟨ccH, _, ccell⟩
    · have h1 := PySem.mem_of_lookup e1
      have h2 := PySem.mem_of_lookup e2
      simp at h1 h2
      rw [h1.1, h2.1]
    · cases i with
      | zero =>
        simp at e; subst e
        exact ⟨cc, rfl, fun v hv => by simp at hv; subst hv; exact ⟨.ref D, rfl, ccell⟩⟩
      | succ i => simp at e
  refine ks_codeAny_call_defAt (fd := ksFn "__init__" qual (defArgs st) (defBody st) (defScope st) dV kV doc pm an (.ref cda) ct cc) (body := defBody st) (binds := (("self" : Str) :: ps').zip us) (Room.depth hr) (KX _ _ lk) rfl lim (codeRec_of KX X.code) rfl hbind S.nocell (fun ⟨n, _⟩ hy => S.par n (List.of_mem_zip hy).1) (fun h₁ hns kp => ?_) S.co S.gen S.kind
  have I := inv_startN (CX := L2N.CX P w) (E := E) (f := f) (F := ⟨"__init__", qual, defArgs st, defBody st, defScope st, [(("__class__" : Str), cc)], cda⟩) (tk := s.toks + ((("self" : Str) :: ps').zip us).length) S hr.hd e0 hlv r CA hns kp
  have key : _root_.PySem.wpAt (model P w) (A.deeper (ksEnv qual (defScope st) s.heap.objs.size f (.ref cda) cc)) (.func (defBody st) (ksEnv qual (defScope st) s.heap.objs.size f (.ref cda) cc))
      (execs (.Expr (.Call (.Attribute (.Call (.Name "super" p0) [] [] p1) "__init__" p2) [.Constant (.str z) j p3] [] p4) p5 :: sts) (ksEnv qual (defScope st) s.heap.objs.size f (.ref cda) cc))
      (fun fl s' => CR (L2N.CX P w) outer P w H s Q E (.ok (.ret (match fl with | .ret v => v | _ => .none))) s')
      (fun e s' => wpAny (model P w) (A.deeper (ksEnv qual (defScope st) s.heap.objs.size f (.ref cda) cc)) (leaving (ksEnv qual (defScope st) s.heap.objs.size f (.ref cda) cc) e) (fun _ s'' => L2N.CX P w outer H s E e s'') (fun e' s'' => L2N.CX P w outer H s E e' s'') s')
      { s with heap := h₁, toks := s.toks + ((("self" : Str) :: ps').zip us).length } := by
    obtain ⟨pl, hpl⟩ := hev s.heap.objs.size
    refine ks_wpAt_execs_cons (ks_wpAt_Expr_any (ks_wpAt_MethodCall (pl := pl) (he := hpl) (ks_wpAt_super_base (f := f) (cc := cda) (fd := ksFn "__init__" qual (defArgs st) (defBody st) (defScope st) dV kV doc pm an (.ref cda) ct cc) (ar := ar) hks (S.frk _ List.mem_cons_self) (by decide) rfl (I.kIn _ _ lk) rfl hpar rfl (I.kIn _ _ hcode) rfl hvs hfile X.top ?_)) (hin _) (hsw _))
    obtain ⟨mb, hb1, hb2⟩ := I.mod.blt
    refine ks_loadName_global S.kind hks (Calls.loadGlobal_builtin (I.mod.glob.keeps I.bk) (mg_none_of e0.mod.kin e0.mod.glob X.sup) (hb1.keeps I.bk) ((hb2 _ (by decide)).trans (show bootBuiltins "super" = some (.type "super") from by kernel_rfl)) ⟨rfl, ?_⟩)
    obtain ⟨t1, hx⟩ := exo_at I.hok ha
    have Ii : InstAt h₁ a { cls := .ref D, dict := none, data := .fields #[.ref t1, .none, .none, .none, .bool false, .none] } D none := ⟨hx, rfl, rfl, trivial⟩
    refine wpAny_loadName_free S.kind (S.frk _ List.mem_cons_self) rfl ⟨_, I.kIn _ _ hcell, rfl⟩ ?_
    obtain ⟨u0, ur, eus, ru0, rur⟩ : ∃ u0 ur, us = u0 :: ur ∧ RelV (.ref a) u0 ∧ Vals ws ur := by
      cases r with
      | cons h1 h2 => exact ⟨_, _, rfl, h1, h2⟩
    have eu0 : u0 = .ref a := ru0
    rw [har]
    refine wpAny_loadName_local S.kind (S.par _ List.mem_cons_self) hns (v := .ref a) (by
      have ndP : (("self" : Str) :: ps').Nodup := by
        have q := S.nd.sublist (List.take_sublist (((("self" : Str) :: ps').length + [("__class__" : Str)].length)) N)
        rw [S.pre] at q
        exact (List.nodup_append.mp q).1
      refine zip_look (i := 0) ndP rfl ?_
      rw [eus, eu0]; rfl) ?_
    refine ks_wpAny_isType_cls (I.kIn _ _ hC) rfl ⟨rfl, ?_⟩
    refine ks_wpAny_call_super (I.kIn _ _ hC) rfl hx rfl (fun c e => nomatch e) (looks_mroIn I.kIn X.sub) (fun h2 e2 k2' => ?_)
    have I2 := I.kept (h' := h2) (t' := s.toks + ((("self" : Str) :: ps').zip us).length) k2'
    have Ii2 : InstAt h2 a { cls := .ref D, dict := none, data := .fields #[.ref t1, .none, .none, .none, .bool false, .none] } D none := ⟨k2' _ _ hx, rfl, rfl, trivial⟩
    have hI2 : Looks (model P w) h2 (isInstance (.ref a) (.type "ValueError")) true := (InstAt.type Ii2).andThen (looks_subIn I2.kIn X.ve)
    have hal := X.along
    unfold ks_superIn at hal
    rw [hcl] at hal
    refine kxs_getMethod kxs_ValueError e2 (looks_opaque I2.kIn X.opq) (l₀ := .ref D :: bm) (fun A Q E s k q => wpAny_bind ((looks_clsIn I2.kIn hcl) A _ E s k (wpAny_pure q))) rfl I2.kIn hal hI2 (ks_ne I2.kIn Ii2 hcl) (by decide) ?_
    have I3 := pin_new (o := kxs_mw "ValueError.__init__" a) (h' := h2.push (kxs_mw "ValueError.__init__" a)) (t' := s.toks + ((("self" : Str) :: ps').zip us).length + 1) I2 (fun b u e => Heap.get?_push_of_some _ e) (Nat.le_refl _) (Heap.get?_push_size _ rfl) (fun v => nofun)
    refine kxs_callWith (i := "ValueError.__init__") (x := a) rfl (Calls.evalArgs_plain ?_)
    have hA := (pa_cons (X := ncx (L2N.CX P w) P w K mg base N ⟨"__init__", qual, defArgs st, defBody st, defScope st, [(("__class__" : Str), cc)], cda⟩ f A outer s H E) (e := .Constant (.str z) j p3) (es := []) pe_str pa_nil).run p4 _ _ _ H (fun vs H' => vs.length ≤ 1000 ∧ H' = H) I3 ⟨by show 1 ≤ 1000; omega, rfl⟩
    refine thn hA fun us4 s4 ⟨vs4, H4, I4, r4, hl4, e4⟩ => ?_
    subst e4
    refine ⟨pin_at I4, ?_⟩
    obtain ⟨t4, hx4⟩ := exo_at I4.hok ha
    have hu4 := pin_at I4
    obtain ⟨hp4, g4, d4, tk4, os4⟩ := s4
    refine call_mw (I4.kIn _ _ hC) hx4 hu4 (by show ([] ++ us4).length ≤ _; rw [List.nil_append, ← r4.length, sizeLine_eq]; omega) (fun h5 t5 k5' hx5 => ?_)
    have I4' := unpin I4
    have J := I4'.write (t' := tk4) (x := a) (e := a) (o := exo a D none) (by rw [ha]; exact True.intro) (.inl rfl) k5' ⟨_, hx5⟩ (exo_ok hx5)
    have eu : upd H4 a (exo a D none) = H4 := by
      funext b
      by_cases hb : b = a
      · rw [hb, upd_same, ha]
      · rw [upd_ne hb]
    rw [eu] at J
    have hst' := hst A outer s H4 E
    have h0 : (startF N (V.ref a :: ws) [some (V.ref D)])[0]? = some (some (.ref a)) := rfl
    have hw : ∀ i v, ws[i]? = some v → (startF N (V.ref a :: ws) [some (V.ref D)])[i + 1]? = some (some v) := fun i v e => by
      have hlt := (List.getElem?_eq_some_iff.mp e).1
      unfold startF
      rw [List.getElem?_append_left (by rw [List.length_map, List.length_cons]; omega), List.getElem?_map, List.getElem?_cons_succ, e]
      rfl
    have hz : ∀ (l : List Str) (vs : List V) (b : Nat), l.length = vs.length → (∀ i v, vs[i]? = some v → (startF N (V.ref a :: ws) [some (V.ref D)])[b + i]? = some (some v)) →
        (l.zip (List.range' b l.length)).map (fun p => (p.1, getW (startF N (V.ref a :: ws) [some (V.ref D)]) p.2)) = l.zip vs := by
      intro l
      induction l with
      | nil => intro vs b e _; rfl
      | cons x l ih =>
        intro vs b e hv
        cases vs with
        | nil => cases e
        | cons v vs =>
          rw [List.length_cons, List.range'_succ, List.zip_cons_cons, List.map_cons, List.zip_cons_cons, ih vs (b + 1) (by simpa using e) (fun i u hu => by
            have := hv (i + 1) u (by rw [List.getElem?_cons_succ]; exact hu)
            rw [show b + 1 + i = b + (i + 1) from by omega]; exact this)]
          have h1 := hv 0 v rfl
          unfold getW
          rw [show (startF N (V.ref a :: ws) [some (V.ref D)])[b]? = some (some v) from h1]
    have hzz := hz fs ws 1 hwl.symm (fun i v e => by rw [Nat.add_comm]; exact hw i v e)
    refine wpAt_of_wpAny (thn (hst'.run [] _ _ H4 ({ nx := fun _ H' => Q .non H', rt := Q } : Ends) J ?_) fun fl s' hs => ?_)
    · cases fs with
      | nil => exact absurd rfl hne
      | cons f1 fr =>
        refine stores_new (a := a) X.T h0 (fr.zip (List.range' 2 fr.length)) (fun p hp => ?_) ha (by rw [List.length_zip, List.length_range']; simp at hl8; omega) (fun dx h1 h2 => ?_)
        · have hp' : p ∈ (f1 :: fr).zip (List.range' 1 (f1 :: fr).length) := hp
          refine ⟨hno p.1 (List.of_mem_zip hp').1, ?_⟩
          have h3 := (List.of_mem_zip hp').2
          rw [List.mem_range'_1] at h3
          have h4 : p.2 - 1 < ws.length := by rw [hwl]; omega
          exact ⟨ws[p.2 - 1], by
            have := hw (p.2 - 1) _ (List.getElem?_eq_getElem h4)
            rw [show p.2 - 1 + 1 = p.2 from by omega] at this
            exact this⟩
        · have hzz' : ((f1, 1) :: fr.zip (List.range' 2 fr.length)).map (fun p => (p.1, getW (startF N (V.ref a :: ws) [some (V.ref D)]) p.2)) = (f1 :: fr).zip ws := hzz
          rw [hzz']
          exact hq dx h1 h2
    · have fin : ∀ {σ' : L2.St} {H' : Hp} {v : V} {u : Value}, Inv (ncx (L2N.CX P w) P w K mg base N ⟨"__init__", qual, defArgs st, defBody st, defScope st, [(("__class__" : Str), cc)], cda⟩ f A outer s H4 E) [] σ' H' s' → L2.RelV v u → Q v H' → CE outer P w H4 s Q u s' :=
        fun {σ' H' v u} J rv q => ⟨v, H', J.os, J.bare, J.base, J.hok, rv, q⟩
      cases fl with
      | ret u =>
        obtain ⟨v, σ', H', J, rv, q⟩ := hs
        exact fin J rv q
      | next =>
        obtain ⟨σ', H', J, q⟩ := hs
        exact fin (v := V.non) (u := Value.none) J rfl q
      | brk =>
        obtain ⟨_, _, _, q⟩ := hs
        exact False.elim q
      | cont =>
        obtain ⟨_, _, _, q⟩ := hs
        exact False.elim q
  rw [← hb] at key
  exact key
theorem passN0 {P : Program} {w : World} {X : Cx} : Passes (L2N.CX P w) X (fun _ _ _ => False) := fun _ _ _ _ _ _ _ h => by
  obtain ⟨_, _, _, _, _, _, _, _, _, _, _, _, z⟩ := h
  exact z.elim
/-- C(e, ..) of such a class makes an exception whose context is None -/
theorem pmk_n {X : Cx} {CX : CXT} {x : Str} {e : Expr} {es : List Expr} {ta : TA} {p pos : Pos} {C fI : Addr} {k : Nat} {fd : FuncData} {ps : List Str} {sp : Sp} (T : OexC X.K C) (iC : findIn X.K (.ref C) "__init__" = some (some (.ref fI))) (tI : typeIn X.K (.ref fI) = some (.type "function"))
    (F1 : FnOk X.prog X.w X.K X.mg X.base CX k fI fd ps sp) (hr : Room (k + 1) X.A) (hb : Binds X.K fd ps []) (hx : Passes CX X (fun _ _ _ => False)) (hg : Gl X x) (hm : X.mg x = some (.ref C)) (ha : PA X (e :: es) ta)
    (hdb : (x == ("__debug__" : Str)) = false := by decide) (he : starEach (e :: es) X.env = (false, eval e X.env) :: starEach es X.env := by rfl) (hpl : (backTo pos (starEach es X.env)).any (·.1) = false := by rfl) :
    L2N.PMk X (.Call (.Name x p) (e :: es) [] pos) (tMkO C sp [] ta) := by
  intro pins s σ H Q I h
  obtain ⟨nm, q, N, bs, bm, sn, sub, ab, col, dd, k0, k1, k2, k3, k5, hC, hbm⟩ := T.cls
  refine wpAny_Call_Name_kw (ld_glob I hg hm (callWith_K (h₀ := X.base) I.ok.mod.kin T.kC (thn (ha.run pos pins s σ H _ I h) fun us s1 ⟨vs, H1, I1, r1, hz, q1⟩ => ⟨I1.kIn, ?_⟩) he hpl) hdb)
  show wpAny _ _ (call (.ref C) us) _ _ _
  obtain ⟨hp, g, dr, tk, os⟩ := s1
  -- the new object and its place
  generalize hao : hp.objs.size + 1 = ao at *
  have hsz : hp.objs.size ≤ ao := by omega
  have hn : H1 ao = none := I1.hok.fresh hsz
  have hq := q1 ao hn
  rw [List.append_nil] at hq
  generalize hh2 : (hp.push (kdv_tup us)).push (HandSPX.excO C hp.objs.size) = h2
  have kk : ∀ b o, hp.get? b = some o → h2.get? b = some o := fun b o e => by
    rw [← hh2]; exact Heap.get?_push_of_some _ (Heap.get?_push_of_some _ e)
  have hget : h2.get? ao = some (HandSPX.excO C hp.objs.size) := by
    rw [← hh2, ← hao]; heap_get
  have I2 : Inv X pins σ (upd H1 ao (exo ao C none)) ⟨h2, g, dr, tk, os⟩ := I1.laid (t' := tk) (a := ao) (o := exo ao C none) (h' := h2) kk hsz (exo_ok hget)
  have r2 : Vals (V.ref ao :: vs) (Value.ref ao :: us) := .cons rfl r1
  have hl : (Value.ref ao :: us ++ []).length = ps.length := by
    have z := r2.length
    rw [F1.len _ _ _ _ hq] at z
    rw [List.append_nil]; exact z.symm
  have hus : us.length ≤ sizeLine := by
    rw [← Paired.length r1, sizeLine_eq]; omega
  have b2 := hb _ (Value.ref ao :: us) I2.kIn hl
  rw [List.append_nil] at b2
  have body := F1.run _ X.stack _ _ ⟨Value.ref ao :: us, []⟩ (Value.ref ao :: us) _ _ (fun _ _ _ => False) (hr.make C us []) (I2.env0.make C us []) b2 r2 hq
  refine wpAny_call (HandSPX.call_own F.excBase_ValueError (fun Y => HandSPX.refsVE_contains Y bm hbm) (I1.kIn _ _ hC) (looks_findIn I1.kIn iC) (fun self => bind_fn I1.kIn self tI) hus ?_)
  rw [hh2, hao]
  refine codeAny_mono body fun r s' hq' => ?_
  match r, hq' with
  | .error er, hq' => exact hx pins σ _ _ er s' I2 hq'
  | .ok (.ret u), hq' =>
    obtain ⟨v, H2, os2, bare2, un2, hok2, rv, ⟨ev, d, fs, ea, ed, hd1, q2⟩⟩ := hq'
    subst ev
    obtain ⟨h3, g2, d2, t2, os'⟩ := s'
    obtain ⟨t0, G, J, kG, ge, hoe, na⟩ := mk_end0 (d2 := d2) (t2 := t2) I1 hsz kk un2 hok2 os2 bare2 ea ed hd1
    exact ⟨rv, ao, _, _, ⟨G, g2, d2, t2, os'⟩, _, .ref C, some d, rfl, J, kG, ge, hoe, ⟨rfl, rfl, fun ws hv => by cases hv; rfl⟩, rfl, rfl, na, rfl, bare2, raises_own T.exC T.tyC, q2⟩
  | .ok .next, hq' => exact False.elim hq'
  | .ok .brk, hq' => exact False.elim hq'
  | .ok .cont, hq' => exact False.elim hq'
end FLE
/-! isinstance of a caught error that has a dict; the law's def that asks two such questions, called in the suite -/
namespace FLE
open PySem PySem.Spec PySem.Calls PyProof.Rows L2 PySem.W
section
variable {prog : Program} {w : World} {A : Around} {E : Value → Shared → Prop} {s : Shared} {K : Frag} {x D : Addr} {ox : Obj} {od : Option Obj}
theorem find_cls (hc : (clsIn K D).isSome = true) (ha : findIn K (.ref D) "__class__" = some (some (.builtin "object.__class__"))) (hn : specialIn K (.builtin "object.__class__") "__get__" = some (some (.builtin "getset_descriptor.__get__")))
    (ht : takesIn K (.builtin "object.__class__") = some true) : findObj K D od "__class__" = some (.bind (.builtin "getset_descriptor.__get__") (.builtin "object.__class__")) := by
  obtain ⟨cd, e⟩ := Option.isSome_iff_exists.mp hc
  unfold findObj
  rw [e, Option.bind_some, ha, Option.bind_some]
  simp [hn, ht]
theorem cls_some (C : L2.ExcC K D) : (clsIn K D).isSome = true := by
  obtain ⟨cd, e, _⟩ := any_some C.hd
  rw [e]; rfl
theorem class_ask {Q : Option Value → Shared → Prop} (C : L2.ExcC K D) (X : K.In s.heap) (I : InstAt s.heap x ox D od) (h : Q (some (.ref D)) { s with toks := s.toks + 1 }) : wpAny (model prog w) A (getAttr? (.ref x) "__class__") Q E s := by
  obtain ⟨hp, g, d, t, os⟩ := s
  have LT := I.type (M := model prog w)
  have LG := looks_findIn (M := model prog w) X C.hg
  have LA := looks_findIn (M := model prog w) X C.hk
  have LF := looks_find (M := model prog w) X I (find_cls (od := od) (cls_some C) C.ha C.hn C.ht)
  have LS : Looks (model prog w) hp (isInstance (.ref x) (.type "BaseException")) true := LT.andThen (looks_subIn X C.hs)
  unfold getAttr? getAttrBy? getAttrBy
  refine wpAny_bind (wpAny_mkText (wpAny_bind (wpAny_attempt (wpAny_holding (wpAny_bind (LT.at (wpAny_bind (LG.at ?_))))))))
  have b1 : (Value.builtin "BaseException.__getattribute__" == Value.builtin "object.__getattribute__") = false := by decide +kernel
  have b2 : (onTheHeap (Value.ref D) && Value.builtin "BaseException.__getattribute__" == Value.builtin "object.__getattribute__") = false := by rw [b1, Bool.and_false]
  show wpAny _ _ (if (onTheHeap (Value.ref D) && Value.builtin "BaseException.__getattribute__" == Value.builtin "object.__getattribute__") = true then _ else _) _ _ _
  rw [if_neg (by rw [b2]; exact Bool.false_ne_true)]
  unfold getAttrByItsOwn hookBefore
  refine wpAny_bind ?_
  rw [if_pos (show onTheHeap (Value.ref D) = true from rfl)]
  refine LA.at (wpAny_bind (wpAny_attempt (wpAny_holding ?_)))
  unfold callGetattribute
  rw [if_neg (show ¬ (false && onTheHeap (Value.builtin "BaseException.__getattribute__")) = true from Bool.false_ne_true)]
  unfold boundAndCalled
  rw [F.excAttr_ValueError.ga.bind (.ref x)]
  refine wpAny_bind (wpAny_pure ?_)
  show wpAny _ _ (call (.builtin "BaseException.__getattribute__") [.ref x, .str "__class__" t]) _ _ _
  refine wpAny_call (codeAny_call_builtin F.excAttr_ValueError.ga.plain F.entry_bexc_ga (@check_slot (model prog w) _ _ ⟨hp, g, d, t + 1, os⟩ "BaseException.__getattribute__" "BaseException" "__getattribute__" (.ref x) [.str "__class__" t] [] _ (by decide +kernel) (by decide +kernel) LS (F.args_bexc_ga (.ref x) (.str "__class__" t)) ?_))
  unfold Builtin.«object.__getattribute__»
  refine wpAny_bind (wpAny_of_eq (a := ((Value.ref x : Value), [Value.str "__class__" t])) (by first | rfl | (simp only [slotArgs]; rfl)) (wpAny_bind (wpAny_pure (wpAny_bind (LT.at (wpAny_bind (LF.at ?_)))))))
  show wpAny _ _ (holding [Value.builtin "object.__class__"] (call (.builtin "getset_descriptor.__get__") [.builtin "object.__class__", .ref x, .ref D]) >>= ret) _ _ _
  refine wpAny_bind (wpAny_holding (wpAny_call (class_get (s := ⟨hp, g, d, t + 1, os⟩) (ox := ox) (od := od) X I C.hm (wpAny_pure ?_))))
  show wpAny _ _ (handedOut (.ref D)) _ _ _
  rw [handedOut_of (v := .ref D) rfl]
  first
    | exact wpAny_pure (wpAny_pure h)
    | exact wpAny_pure h
    | exact wpAny_pure (wpAny_bind (wpAny_pure (wpAny_pure h)))
theorem kit_exc (C : L2.ExcC K D) : KitX K (.ref x) (.ref D) (fun h => ∃ od, InstAt h x ox D od) where
  ty := fun _ _ _ ⟨_, I⟩ => I.type
  it := fun _ _ X _ => by
    have hc := cls_some C
    unfold clsIn at hc
    split at hc
    · rename_i ho
      intro A' Q' E' s' k q
      unfold isType loadHead
      exact wpAny_bind (wpAny_loadPart (k _ _ (X _ _ ho)) (wpAny_pure q))
    · cases hc
  ne := fun h tp dd its n sl X htp => by
    have hc := cls_some C
    cases e : (Value.ref D == Value.ref tp) with
    | false => rfl
    | true =>
      have e2 : D = tp := Value.ref.inj (beq_iff_eq.mp e)
      subst e2
      unfold clsIn at hc
      split at hc
      · rename_i ho
        have z := (X _ _ ho).symm.trans htp
        cases z
      · cases hc
  ca := fun X ⟨_, I⟩ k => class_ask C X I k
end
/-- isinstance(e, c), e an exception that stands pinned, its dict at dd -/
def rIsX (K : Frag) (D a dd : Addr) : List V → Hp → VK → Prop := fun xs H Q => ∃ (c : V) (cv : Value) (b : Bool) (fs : List (Str × V)), xs = [.ref a, c] ∧ (∀ u, RelV c u → u = cv) ∧ kitOne K (.ref D) cv = some b ∧ H dd = some (.xd fs) ∧ Q (.bl b) H
theorem call_isX {X : Cx} {a D dd : Addr} {oe : Obj} (C : L2.ExcC X.K D) (hp : (a, oe) ∈ X.pn) (hz : Zc (.ref D) (some dd) oe) (hf : ∃ vs, oe.data = .fields vs) : CallR X (.builtin "isinstance") (rIsX X.K D a dd) := by
  intro pins s σ H xs us Q I r h
  obtain ⟨c, cv, b, fs, rfl, hcv, e, hd, q⟩ := h
  cases r with
  | cons rx rr =>
    cases rr with
    | cons rt rr =>
      cases rr
      cases rx
      have ec := hcv _ rt
      subst ec
      have hget := (I.pin (a, oe) (List.mem_append_left _ hp)).1
      obtain ⟨vs, hv⟩ := hf
      obtain ⟨mA, hns, _⟩ : ∃ mA, s.heap.Ns1 dd mA ∧ True := by
        have z : ObjOk X.prog X.w H s.heap dd (.xd fs) := I.hok dd _ hd
        obtain ⟨mA, z1, _⟩ := z
        exact ⟨mA, z1, True.intro⟩
      obtain ⟨oD, es, ep, hoD, _⟩ := hns
      have J : InstAt s.heap a oe D (some oD) := by
        obtain ⟨oc, odd, oda, osl⟩ := oe
        obtain ⟨h1, h2⟩ := hz
        dsimp only at h1 h2 hv
        subst h1 h2 hv
        exact ⟨hget, rfl, rfl, hoD⟩
      exact kia_one (kit_exc C) I.kIn ⟨_, J⟩ e (fun z => nomatch z) fun tk => ⟨.bl b, H, I.kept (t' := tk) fun _ _ z => z, rfl, q⟩
end FLE
/-! several except clauses, with or without a name; a def called with the caught error -/
namespace FLE
open PySem PySem.Spec PySem.Calls PyProof.Rows L2 PySem.W
abbrev TSu : Type := Addr → Value → Option Addr → TS
/-- the ends behind a clause that bears the name of slot i -/
def nmE (o : Option Nat) (D : Ends) : Ends := match o with
  | none => D
  | some i => { nx := fun σ H => D.nx (σ.set i none) H, rt := D.rt, bk := fun σ H => D.bk (σ.set i none) H, ct := fun σ H => D.ct (σ.set i none) H }
def nmS (o : Option Nat) (a : Addr) (σ : L2.St) : L2.St := match o with
  | none => σ
  | some i => σ.set i (some (.ref a))
def wCl (K : Frag) (Wout : WX) (D : Ends) : List (Option Nat × Value × TSu) → WX
  | [] => Wout
  | (o, c, ts) :: r => fun cls d σ H => ∃ b, exmOne K cls c = some b ∧ (b = true → ∀ a, H a = none → ts a cls d (nmE o D) (nmS o a σ) H) ∧ (b = false → wCl K Wout D r cls d σ H)
inductive ClsOk (X : Cx) : List ExceptHandler → List (Option Nat × Value × TSu) → Prop
  | nil : ClsOk X [] []
  | anon {x : Str} {c : Value} {ts : TSu} {b₀ : Stmt} {suite : List Stmt} {np pos' : Pos} {hds : List ExceptHandler} {l : List (Option Nat × Value × TSu)} (hc : Names X x c)
      (hsu : ∀ (a : Addr) (oe : Obj) (cls : Value) (d : Option Addr) (pn : List (Addr × Obj)), L2N.Zn cls d oe → (∃ vs, oe.data = .fields vs) → PSs (X.suite a ((a, oe) :: pn)) (b₀ :: suite) (ts a cls d)) (r : ClsOk X hds l) :
      ClsOk X (.ExceptHandler (some (.Name x np)) none (b₀ :: suite) pos' :: hds) ((none, c, ts) :: l)
  | as {x n : Str} {i : Nat} {c : Value} {ts : TSu} {b₀ : Stmt} {suite : List Stmt} {np pos' : Pos} {hds : List ExceptHandler} {l : List (Option Nat × Value × TSu)} (hc : Names X x c) (hi : X.N[i]? = some n) (hln : X.env.kindOf n = some .local)
      (hsu : ∀ (a : Addr) (oe : Obj) (cls : Value) (d : Option Addr) (pn : List (Addr × Obj)), L2N.Zn cls d oe → (∃ vs, oe.data = .fields vs) → PSs (X.suite a ((a, oe) :: pn)) (b₀ :: suite) (ts a cls d)) (r : ClsOk X hds l) :
      ClsOk X (.ExceptHandler (some (.Name x np)) (some n) (b₀ :: suite) pos' :: hds) ((some i, c, ts) :: l)
theorem ps_try_cls {X : Cx} {body : List Stmt} {h₀ : ExceptHandler} {hds : List ExceptHandler} {l : List (Option Nat × Value × TSu)} {pos : Pos} {tb : WX → TS} {Wout : WX} (hs : X.stack = X.env :: X.outer) (hf : X.env.frame = some X.env.locals) (hN : X.N.Nodup) (tk : L2N.Takes X Wout)
    (hb : ∀ (W : WX) (pn : List (Addr × Obj)) (xe : Value → Shared → Prop), L2N.Takes (X.tr pn xe) W → PassesOwn (model X.prog X.w) X.A X.env xe → PSs (X.tr pn xe) body (tb W))
    (hh : ClsOk X (h₀ :: hds) l) : PS X (.Try body (h₀ :: hds) [] [] pos) (fun D σ H => tb (wCl X.K Wout D l) D σ H) := by
  refine ⟨fun pins s σ H D I h => ?_⟩
  have ok := I.ok
  have hfr : X.A.frames = some (X.env :: X.outer) := by rw [ok.frames, hs]
  refine wpAny_Try_except ?_
  -- what the body's exception meets
  let catch_ : Value → Shared → Prop := fun e s₁ => wpAny (model X.prog X.w) X.A (noteFrame e X.env) (fun _ s₂ => wpAny (model X.prog X.w) X.A (setFlight e none) (fun _ s₃ => wpAny (model X.prog X.w) X.A (handleBy e X.env (h₀ :: hds)) (SP X pins D) X.xe s₃) X.xe s₂) X.xe s₁
  have caught : L2N.Takes (X.tr (X.pn ++ pins) catch_) (wCl X.K Wout D l) := by
    rintro u s' ⟨a, B, sI, pins', σ', H', cls, d, rfl, J', nb, up, sky, na, os, ag, w⟩
    have J : Inv X pins σ' H' sI := J'.ofTry ok
    have sky' : Sky B (X.env :: X.outer) a (L2N.Zn cls d) X.env.locals s'.heap := by rw [← hs]; exact sky
    show wpAny (model X.prog X.w) X.A (noteFrame (.ref a) X.env) _ _ _
    refine L2N.Sky.land L2N.Zn.steady hfr hf sky' fun h3 fl3 up3 => ?_
    have J3 : Inv X pins σ' H' { s' with heap := h3 } := J.landed nb fl3.1 (up.trans up3) os ag
    obtain ⟨oe3, vs3, he3, hz3, hd3⟩ := fl3.there
    have nfr : a ∉ frs (X.env :: X.outer) := fun hm => by
      obtain ⟨_, o', e', hnf⟩ := (show h3.FunFrames B (X.env :: X.outer) from fl3.2.2.1).mem hm
      rw [he3] at e'; cases e'
      exact hnf _ hd3
    have nL : a ≠ X.env.locals := fun z => nfr (List.mem_filterMap.mpr ⟨X.env, List.mem_cons_self, by rw [hf, z]⟩)
    have nF : a ∉ X.fs := fun hm => by
      obtain ⟨e, he, q⟩ := List.mem_filterMap.mp hm
      exact nfr (List.mem_filterMap.mpr ⟨e, List.mem_cons_of_mem _ he, q⟩)
    have S3 := J3.suite he3 hd3 na nL nF
    have LT : Looks (model X.prog X.w) h3 (typeOf (.ref a)) cls := fun A Q E s k q => wpAny_typeOf_ref (k _ _ he3) (by rw [hz3.1]; exact q)
    have test : ∀ {x : Str} {np : Pos} {c : Value} {Q : Value → Shared → Prop} {E : Value → Shared → Prop}, Names X x c → Q c { s' with heap := h3 } → wpAny (model X.prog X.w) (X.A.mark (some (.ref a))) (eval (.Name x np) X.env) Q E { s' with heap := h3 } := fun {x np c Q E} hc q => by
      obtain ⟨hg, hdbg, hm | ⟨hm, hv, hnn⟩⟩ := hc
      · exact ld_glob (X := X.suite a ((a, oe3) :: (X.pn ++ pins))) S3 hg hm q hdbg
      · exact ld_blt (X := X.suite a ((a, oe3) :: (X.pn ++ pins))) S3 hg hm hv q hnn hdbg
    have go : ∀ {hs' : List ExceptHandler} {l' : List (Option Nat × Value × TSu)}, ClsOk X hs' l' → wCl X.K Wout D l' cls d σ' H' → wpAny (model X.prog X.w) X.A (handleBy (.ref a) X.env hs') (SP X pins D) X.xe { s' with heap := h3 } := by
      intro hs' l' hk
      induction hk with
      | nil =>
        intro w
        refine wpAny_handleBy_nil ?_
        obtain ⟨k1, k2, k3, oe, vs, T, oT, ts', he, hz, hd, h1, hr⟩ := id fl3
        unfold PySem.passOn
        refine wpAny_bind (wpAny_field he hd h1 ?_)
        rw [if_neg (show ¬ ((Value.ref T == Value.none) = true) from by simp)]
        have fin : wpAny (model X.prog X.w) X.A (setFlight (.ref a) X.env.frame) (fun _ s4 => wpAny (model X.prog X.w) X.A (throw (.ref a) : Sem Flow) (SP X pins D) X.xe s4) X.xe { s' with heap := h3 } := by
          rw [hf]
          exact HandSPX.setFlight_upZ fl3 fun h4 hh4 up4 => wpAny_throw (tk _ _ ⟨a, B, sI, pins, σ', H', cls, d, rfl, J, nb, (up.trans up3).trans up4, .inr (.inr (by rw [hs]; exact hh4)), na, os, ag, w⟩)
        first
          | exact wpAny_bind (wpAny_pure (wpAny_bind fin))
          | exact wpAny_bind fin
      | @anon x c ts b₀ suite np pos' hds2 l2 hc hsu r ih =>
        rintro ⟨b, hb1, hyes, hno⟩
        refine wpAny_handleBy_cons (codeAny_handlers_test ?_) (by intro q; cases q)
        refine test hc ((exm_one (M := model X.prog X.w) (J3.kIn) LT hb1).here ?_)
        cases b with
        | false => exact ih (hno rfl)
        | true =>
          refine codeAny_handlers_suite (HandSPX.lands_againZ fl3 fun h4 fl4 up4 => ?_)
          have J4 : Inv X pins σ' H' { s' with heap := h4 } := J.landed nb fl4.1 ((up.trans up3).trans up4) os ag
          obtain ⟨oe4, vs4, he4, hz4, hd4⟩ := fl4.there
          have S4 := J4.suite he4 hd4 na nL nF
          refine wpAny_mono ((hsu a oe4 cls d (X.pn ++ pins) hz4 ⟨_, hd4⟩).run [] _ _ H' _ S4 (hyes rfl a na)) (fun f s6 hsp => ?_) (fun _ _ z => False.elim z)
          cases f with
          | next =>
            obtain ⟨σ6, H6, S6, q6⟩ := hsp
            exact ⟨_, _, S6.unsuite ok, q6⟩
          | brk =>
            obtain ⟨σ6, H6, S6, q6⟩ := hsp
            exact ⟨_, _, S6.unsuite ok, q6⟩
          | cont =>
            obtain ⟨σ6, H6, S6, q6⟩ := hsp
            exact ⟨_, _, S6.unsuite ok, q6⟩
          | ret u =>
            obtain ⟨v6, σ6, H6, S6, r6, q6⟩ := hsp
            exact ⟨_, _, _, S6.unsuite ok, r6, q6⟩
      | @as x n i c ts b₀ suite np pos' hds2 l2 hc hi hln hsu r ih =>
        rintro ⟨b, hb1, hyes, hno⟩
        refine wpAny_handleBy_cons (codeAny_handlers_test ?_) (by intro q; cases q)
        refine test hc ((exm_one (M := model X.prog X.w) (J3.kIn) LT hb1).here ?_)
        cases b with
        | false => exact ih (hno rfl)
        | true =>
          refine codeAny_handlers_suite_as (HandSPX.lands_againZ fl3 fun h4 fl4 up4 => ?_)
          have J4 : Inv X pins σ' H' { s' with heap := h4 } := J.landed nb fl4.1 ((up.trans up3).trans up4) os ag
          obtain ⟨oe4, vs4, he4, hz4, hd4⟩ := fl4.there
          have S4 := J4.suite he4 hd4 na nL nF
          refine store_ok (X := X.suite a ((a, oe4) :: (X.pn ++ pins))) (v := .ref a) S4 hN hi (.inl hln) rfl (fun s5 S5 => ?_) (.inr hln)
          refine wpAny_mono ((hsu a oe4 cls d (X.pn ++ pins) hz4 ⟨_, hd4⟩).run [] s5 _ H' _ S5 (hyes rfl a na)) (fun f s6 hsp => ?_) (fun _ _ z => False.elim z)
          have end_ : ∀ {σ6 : L2.St} {H6 : Hp} {Q : Shared → Prop}, Inv (X.suite a ((a, oe4) :: (X.pn ++ pins))) [] σ6 H6 s6 → (∀ s7, Inv X pins (σ6.set i none) H6 s7 → Q s7) →
              wpAny (model X.prog X.w) X.A (do bindName X.env n .none; unbindBehindTheSuite X.env n pos') (fun _ s7 => Q s7) X.xe s6 := fun {σ6 H6 Q} S6 hq => gone_ok (S6.unsuite ok) hN hi hln hq
          cases f with
          | next =>
            obtain ⟨σ6, H6, S6, q6⟩ := hsp
            exact end_ S6 fun s7 J7 => ⟨_, _, J7, q6⟩
          | brk =>
            obtain ⟨σ6, H6, S6, q6⟩ := hsp
            exact end_ S6 fun s7 J7 => ⟨_, _, J7, q6⟩
          | cont =>
            obtain ⟨σ6, H6, S6, q6⟩ := hsp
            exact end_ S6 fun s7 J7 => ⟨_, _, J7, q6⟩
          | ret u =>
            obtain ⟨v6, σ6, H6, S6, r6, q6⟩ := hsp
            exact end_ S6 fun s7 J7 => ⟨_, _, _, J7, r6, q6⟩
    exact go hh w
  refine wpAny_mono ((hb _ (X.pn ++ pins) catch_ caught PassesOwn.looking).run [] s σ H D (I.toTry _) h) (fun f s1 hsp => ?_) (fun e s1 he => he)
  cases f with
  | next =>
    obtain ⟨σ', H', J', q⟩ := hsp
    exact wpAny_execs_nil ⟨σ', H', J'.ofTry ok, q⟩
  | brk =>
    obtain ⟨σ', H', J', q⟩ := hsp
    exact ⟨σ', H', J'.ofTry ok, q⟩
  | cont =>
    obtain ⟨σ', H', J', q⟩ := hsp
    exact ⟨σ', H', J'.ofTry ok, q⟩
  | ret u =>
    obtain ⟨v, σ', H', J', r, q⟩ := hsp
    exact ⟨v, σ', H', J'.ofTry ok, r, q⟩
end FLE
/-! a def that is called while the exception p is handled, p known -/
namespace FLE
open PySem PySem.Spec PySem.Calls PyProof.Rows L2 PySem.W L2H
structure FnP (P : Program) (w : World) (K : Frag) (mg : Str → Option Value) (base : Heap) (CX : CXT) (k : Nat) (f : Addr) (fd : FuncData) (ps : List Str) (sp : Sp) (p : Addr × Obj) : Prop where
  len : ∀ vs H Q E, sp vs H Q E → vs.length = ps.length
  run : ∀ (A : Around) (outer : List Env) (s : Shared) (H : Hp) (args : Args) (us : List Value) (vs : List V) (Q : VK) (E : XK), RoomH k A → Hot1 A p → PinOk outer H s p → Env0 P w K mg base A outer s H → BindsTo s fd args (ps.zip us) → Vals vs us → sp vs H Q E →
    codeAny (model P w) A (.call (.ref f) args) (CR CX outer P w H s Q E) s
theorem fnP_of {CX : CXT} {P : Program} {w : World} {K : Frag} {mg : Str → Option Value} {base : Heap} {k : Nat} {f : Addr} {x qual : Str} {params : Arguments} {body : List Stmt} {scope : Scope} {dvs : List V} {kws : List (Str × V)} {fd : FuncData} {N ps : List Str} {sp : Sp} {p : Addr × Obj}
    (F : FunD K x qual params body scope dvs kws f fd) (S : FnScope N ps scope) (len : ∀ vs H Q E, sp vs H Q E → vs.length = ps.length)
    (hbody : ∀ (cdv : Value) (A : Around) (outer : List Env) (s : Shared) (H : Hp) (vs : List V) (Q : VK) (E : XK), Hot1 A p → sp vs H Q E →
      ∃ t, PSs (cxH CX P w K mg base N qual scope f cdv A outer s H E p) body t ∧ t { nx := fun _ H' => Q .non H', rt := Q } (L2.start N vs) H) : FnP P w K mg base CX (k + 1) f fd ps sp p := by
  obtain ⟨oc, od, dV, kV, doc, pm, an, cdv, ct, osl, rfl, lk, hcd, _, _⟩ := F.ex
  refine ⟨len, fun A outer s H args us vs Q E hr hot hpin e0 hb r hsp => ?_⟩
  have KX : K.In s.heap := e0.mod.kin.keeps fun b o e => (e0.bs b o e).1
  have lim : s.heap.NoLimit := e0.mod.nolimit.keeps fun b o e => (e0.bs b o e).1
  refine codeAny_call_function hr.depth (KX _ _ lk) rfl S.co S.gen rfl (codeRec_of KX hcd) (hb _ _ _ _ (wpAny_newFunctionEnv_cells S.kind (fun ⟨n, v⟩ hy => ?_) fun env he s1 x => ?_))
  · rcases S.par n (List.of_mem_zip hy).1 with q | q
    · exact .inl q
    · exact .inr ⟨q, cellsFrom_some _ _ _ (.inl q)⟩
  · subst he
    obtain ⟨t, ht, hq⟩ := hbody cdv A outer s H vs Q E hot hsp
    have I : Inv (cxH CX P w K mg base N qual scope f cdv A outer s H E p) [] (L2.start N vs) H s1 := inv_startH S hpin e0 (len _ _ _ _ hsp) r x
    refine ⟨lim.keeps x.toInCall.keep, codeAny_func (wpAny_mono (ht.run [] s1 (L2.start N vs) H _ I hq) (fun fl s' hs => ?_) fun e s' hs => hs)⟩
    have done : ∀ {σ' : L2.St} {H' : Hp} {v : V} {u : Value}, Inv (cxH CX P w K mg base N qual scope f cdv A outer s H E p) [] σ' H' s' → RelV v u → Q v H' → CE outer P w H s Q u s' := fun J rv q => ⟨_, _, J.os, J.bare, J.base, J.hok, rv, q⟩
    cases fl with
    | ret u =>
      obtain ⟨v, σ', H', J, rv, q⟩ := hs
      exact done J rv q
    | next =>
      obtain ⟨σ', H', J, q⟩ := hs
      exact done (v := V.non) (u := Value.none) J rfl q
    | brk => exact hs.elim fun _ z => z.elim fun _ z => z.2.elim
    | cont => exact hs.elim fun _ z => z.elim fun _ z => z.2.elim
theorem pe_callP {X : Cx} {CX : CXT} {k : Nat} {f : Addr} {fd : FuncData} {ps : List Str} {sp : Sp} {E : L2.St → XK} {x : Str} {q pos : Pos} {e : Expr} {es : List Expr} {t : TA} {p : Addr × Obj} (F : FnP X.prog X.w X.K X.mg X.base CX k f fd ps sp p) (hr : RoomH k X.A) (hot : Hot1 X.A p) (hp : p ∈ X.pn) (hg : Gl X x) (hm : X.mg x = some (.ref f)) (hk : keepIn X.K (.ref f) = true) (hb : Binds X.K fd ps [])
    (hx : ∀ σ, PassesAt CX X σ (E σ)) (ha : PA X (e :: es) t) (hdb : (x == ("__debug__" : Str)) = false := by decide) (he : starEach (e :: es) X.env = (false, eval e X.env) :: starEach es X.env := by rfl) (hpl : (backTo pos (starEach es X.env)).any (·.1) = false := by rfl) :
    PE X (.Call (.Name x q) (e :: es) [] pos) (tCallS sp E t) := by
  refine ⟨fun pins s σ H Q I h => wpAny_Call_Name_kw (ld_glob I hg hm (callWith_K (h₀ := X.base) I.ok.mod.kin hk (thn (ha.run pos pins s σ H _ I h) fun us s1 ⟨vs, H1, I1, r, q⟩ => ⟨I1.kIn, ?_⟩) he hpl) hdb)⟩
  have hl : us.length = ps.length := by rw [← r.length]; exact F.len _ _ _ _ q
  have b := hb s1 us I1.kIn (by rw [List.append_nil]; exact hl)
  rw [List.append_nil] at b
  have P1 := I1.pin p (List.mem_append_left _ hp)
  have hpin : PinOk X.stack H1 s1 p := ⟨P1.1, P1.2.1, fun hm => (List.mem_cons.mp (I1.stkSub p.1 hm)).elim P1.2.2.1 P1.2.2.2.1, P1.2.2.2.2⟩
  show wpAny _ _ (call (.ref f) us) _ _ _
  refine wpAny_call (codeAny_mono (F.run X.A X.stack s1 H1 ⟨us, []⟩ us vs Q (E σ) hr hot hpin I1.env0 b r q) fun r s' hq => ?_)
  match r, hq with
  | .error e, hq => exact hx σ pins H1 s1 e s' I1 hq
  | .ok (.ret u), hq => exact I1.after hq
  | .ok .next, hq => exact False.elim hq
  | .ok .brk, hq => exact False.elim hq
  | .ok .cont, hq => exact False.elim hq
/-- isinstance(e, c1) and isinstance(e, c2), of the caught e -/
def spKin (K : Frag) (D a dd : Addr) (c1 c2 : Value) : Sp := fun vs H Q _ => vs = [.ref a] ∧ ∃ b1 b2 fs, kitOne K (.ref D) c1 = some b1 ∧ kitOne K (.ref D) c2 = some b2 ∧ H dd = some (.xd fs) ∧ Q (.bl (b1 && b2)) H
theorem kin_ok {P : Program} {w : World} {K : Frag} {mg : Str → Option Value} {base : Heap} {CX : CXT} {k : Nat} {f : Addr} {x qual : Str} {params : Arguments} {scope : Scope} {dvs : List V} {kws : List (Str × V)} {fd : FuncData} {N : List Str} {e c1 c2 : Str} {C1 : Addr} {D a dd : Addr} {oe : Obj} {q1 q2 q3 q4 q5 q6 q7 q8 q9 q10 : Pos}
    (F : FunD K x qual params [.Return (some (.BoolOp .And [.Call (.Name "isinstance" q1) [.Name e q2, .Name c1 q3] [] q4, .Call (.Name "isinstance" q5) [.Name e q6, .Name "ValueError" q7] [] q8] q9)) q10] scope dvs kws f fd) (S : FnScope N [e] scope) (hN : N[0]? = some e) (he : scope.names.lookup e = some .local) (hgi : scope.names.lookup ("isinstance" : Str) = some .globalImplicit) (hg1 : scope.names.lookup c1 = some .globalImplicit) (hg2 : scope.names.lookup ("ValueError" : Str) = some .globalImplicit)
    (m1 : mg c1 = some (.ref C1)) (mi : mg "isinstance" = none) (mv : mg "ValueError" = none) (hd1 : (c1 == ("__debug__" : Str)) = false) (hde : (e == ("__debug__" : Str)) = false) (hce : (e == ("__classdict__" : Str)) = false) (C : L2.ExcC K D) (hz : Zc (.ref D) (some dd) oe) (hf : ∃ vs, oe.data = .fields vs)
    (hs1 : ∀ env, starEach [.Name e q2, .Name c1 q3] env = (false, eval (.Name e q2) env) :: starEach [.Name c1 q3] env) (hs2 : ∀ env, starEach [.Name c1 q3] env = (false, eval (.Name c1 q3) env) :: starEach [] env) (hp1 : ∀ env, (backTo q4 (starEach [.Name c1 q3] env)).any (·.1) = false)
    (hs3 : ∀ env, starEach [.Name e q6, .Name "ValueError" q7] env = (false, eval (.Name e q6) env) :: starEach [.Name "ValueError" q7] env) : FnP P w K mg base CX (k + 1) f fd [e] (spKin K D a dd (.ref C1) (.type "ValueError")) (a, oe) := by
  refine fnP_of F S (fun vs H Q E h => by rw [h.1]; rfl) fun cdv A outer s H vs Q E hot ⟨hv, b1, b2, fs, k1, k2, hd, q⟩ => ?_
  subst hv
  have gi : Gl (cxH CX P w K mg base N qual scope f cdv A outer s H E (a, oe)) "isinstance" := hgi
  have ve : PE (cxH CX P w K mg base N qual scope f cdv A outer s H E (a, oe)) (.Name e q2) (tVar 0) := pe_var hN (.inl he) hde hce
  have ve2 : PE (cxH CX P w K mg base N qual scope f cdv A outer s H E (a, oe)) (.Name e q6) (tVar 0) := pe_var hN (.inl he) hde hce
  have ci := call_isX (X := cxH CX P w K mg base N qual scope f cdv A outer s H E (a, oe)) (a := a) (D := D) (dd := dd) (oe := oe) C List.mem_cons_self hz hf
  have p1 := pe_callB (p := q1) (pos := q4) ci gi mi (show bootBuiltins "isinstance" = some (.builtin "isinstance") from by kernel_rfl) (pa_cons ve (pa_cons (pe_glob (v := .ref C1) (pos := q3) hg1 m1 rfl hd1) pa_nil (hs2 _)) (hs1 _)) (by decide) (by decide) (hs1 _) (hp1 _)
  have p2 := pe_callB (p := q5) (pos := q8) ci gi mi (show bootBuiltins "isinstance" = some (.builtin "isinstance") from by kernel_rfl) (pa_cons ve2 (pa_cons (pe_bltn (v := .ty "ValueError") (pos := q7) hg2 mv (show bootBuiltins "ValueError" = some (.type "ValueError") from by kernel_rfl) rfl) pa_nil)) (by decide) (by decide)
  refine ⟨_, pss_one (ps_ret (pe_and p1 (pe_one p2))), ?_⟩
  refine ⟨_, rfl, .ref C1, .ref C1, b1, fs, rfl, fun u hu => hu, k1, hd, b1, rfl, ?_⟩
  cases b1 with
  | false => exact q
  | true => exact ⟨_, rfl, .ty "ValueError", .type "ValueError", b2, fs, rfl, fun u hu => hu, k2, hd, q⟩
end FLE
/-! calls by a promise, at the names' values as they are: defs, methods, classes, classmethods, len of an own object -/
namespace FLE
open PySem PySem.Spec PySem.Calls PyProof.Rows L2 PySem.W
section
variable {X : Cx} {CX : CXT} {k i : Nat} {f C D : Addr} {sp : Sp} {E : L2.St → XK} {x m : Str} {p pos apos : Pos} {e o : Expr} {es : List Expr} {ta : TE} {t : TA} {pins : List (Addr × Obj)} {σ : L2.St} {H : Hp} {s : Shared} {Q : VK} {us : List Value} {vs : List V}
theorem runR {E : XK} (F : FnR X.prog X.w X.K X.mg X.base CX k f sp) (hr : Room k X.A) (hx : PassesAt CX X σ E) (I : Inv X pins σ H s) (r : Vals vs us) (h : sp vs H Q E) :
    codeAny (model X.prog X.w) X.A (.call (.ref f) ⟨us, []⟩) (fun r s' => match r with | .ok (.ret v) => EP X pins σ Q v s' | .ok _ => False | .error e => X.xe e s') s :=
  codeAny_mono (F X.A X.stack s H us vs Q E hr I.env0 r h) fun r s' hq => match r, hq with
    | .error e, hq => hx pins H s e s' I hq
    | .ok (.ret u), hq => I.after hq
    | .ok .next, hq => hq.elim
    | .ok .brk, hq => hq.elim
    | .ok .cont, hq => hq.elim
theorem callR {E : XK} (F : FnR X.prog X.w X.K X.mg X.base CX k f sp) (hr : Room k X.A) (hx : PassesAt CX X σ E) (I : Inv X pins σ H s) (r : Vals vs us) (h : sp vs H Q E) : wpAny (model X.prog X.w) X.A (call (.ref f) us) (EP X pins σ Q) X.xe s :=
  wpAny_call (runR F hr hx I r h)
/-- f(e, ..) -/
theorem pe_cR (F : FnR X.prog X.w X.K X.mg X.base CX k f sp) (hr : Room k X.A) (hm : X.mg x = some (.ref f)) (hk : keepIn X.K (.ref f) = true) (hx : ∀ σ, PassesAt CX X σ (E σ)) (ha : PA X (e :: es) t) (hg : Gl X x) (hdb : (x == ("__debug__" : Str)) = false)
    (he : starEach (e :: es) X.env = (false, eval e X.env) :: starEach es X.env) (hpl : (backTo pos (starEach es X.env)).any (·.1) = false) : PE X (.Call (.Name x p) (e :: es) [] pos) (tCallS sp E t) :=
  ⟨fun pins s σ H Q I h => wpAny_Call_Name_kw (ld_glob I hg hm (callWith_K (h₀ := X.base) I.ok.mod.kin hk (thn (ha.run pos pins s σ H _ I h) fun us s1 ⟨vs, H1, I1, r, q⟩ => ⟨I1.kIn, callR F hr (hx σ) I1 r q⟩) he hpl) hdb)⟩
theorem pe_cR0 (F : FnR X.prog X.w X.K X.mg X.base CX k f sp) (hr : Room k X.A) (hm : X.mg x = some (.ref f)) (hk : keepIn X.K (.ref f) = true) (hx : ∀ σ, PassesAt CX X σ (E σ)) (hg : Gl X x) (hdb : (x == ("__debug__" : Str)) = false) :
    PE X (.Call (.Name x p) [] [] pos) (tCallS sp E tNil) :=
  ⟨fun pins s σ H Q I h => wpAny_Call_Name_kw (ld_glob I hg hm (callWith_K0 I.kIn hk (callR (us := []) F hr (hx σ) I .nil h)) hdb)⟩
/-- o.m(e, ..) -/
def tMR (C : Addr) (m : Str) (sp : Sp) (E : L2.St → XK) (ta : TE) (t : TA) : TE := fun σ H Q => ta σ H fun x H1 => ∃ a dx fs, x = .ref a ∧ H1 a = some (.ins C dx fs) ∧ fs.lookup m = none ∧ t σ H1 fun vs H2 => sp (x :: vs) H2 Q (E σ)
theorem pe_mR {pl : Sem Bool} (ho : PE X o ta) (c : Cls X.K C) (hm : Meth X.K C m f) (F : FnR X.prog X.w X.K X.mg X.base CX k f sp) (hr : Room k X.A) (hx : ∀ σ, PassesAt CX X σ (E σ)) (ha : PA X (e :: es) t)
    (hst : starEach (e :: es) X.env = (false, eval e X.env) :: starEach es X.env) (hpl : (backTo pos (starEach es X.env)).any (·.1) = false)
    (ht : eval (.Call (.Attribute o m apos) (e :: es) [] pos) X.env = (do
      let ov ← eval o X.env
      standAt apos.atName
      let (g, first) ← holding [ov] (getMethod ov m pl)
      callWith pos g first (backTo pos (starEach (e :: es) X.env)) (backToKw pos (keywordEach [] X.env)))) : PE X (.Call (.Attribute o m apos) (e :: es) [] pos) (tMR C m sp E ta t) := by
  refine ⟨fun pins s σ H Q I h => methodCall_KW (pl := pl) (thn (ho.run pins s σ H _ I h) fun u s1 ⟨x, H1, I1, rx, a, dx, fs, ex, ea, l, q⟩ => ?_) ht⟩
  subst ex
  obtain rfl : u = Value.ref a := rx
  refine getmeth_ok I1 ea c hm l (callWith_K (first := [.ref a]) (h₀ := X.base) I.ok.mod.kin hm.kp (thn (ha.run pos pins s1 σ H1 _ I1 q) fun us s2 ⟨vs, H2, I2, r, q2⟩ => ⟨I2.kIn, ?_⟩) hst hpl)
  exact callR (us := .ref a :: us) (vs := .ref a :: vs) F hr (hx σ) I2 (.cons rfl r) q2
theorem pe_mR0 {pl : Sem Bool} (ho : PE X o ta) (c : Cls X.K C) (hm : Meth X.K C m f) (F : FnR X.prog X.w X.K X.mg X.base CX k f sp) (hr : Room k X.A) (hx : ∀ σ, PassesAt CX X σ (E σ))
    (ht : eval (.Call (.Attribute o m apos) [] [] pos) X.env = (do
      let ov ← eval o X.env
      standAt apos.atName
      let (g, first) ← holding [ov] (getMethod ov m pl)
      callWith pos g first (backTo pos (starEach [] X.env)) (backToKw pos (keywordEach [] X.env)))) : PE X (.Call (.Attribute o m apos) [] [] pos) (tMR C m sp E ta tNil) := by
  refine ⟨fun pins s σ H Q I h => methodCall_KW (pl := pl) (thn (ho.run pins s σ H _ I h) fun u s1 ⟨x, H1, I1, rx, a, dx, fs, ex, ea, l, q⟩ => ?_) ht⟩
  subst ex
  obtain rfl : u = Value.ref a := rx
  exact getmeth_ok I1 ea c hm l (callWith_K0 (first := [.ref a]) I1.kIn hm.kp (callR (us := [.ref a]) (vs := [.ref a]) F hr (hx σ) I1 (.cons rfl .nil) q))
/-- C(e, ..) -/
def tKR (C : Addr) (sp : Sp) (E : L2.St → XK) (t : TA) : TE := fun σ H Q => t σ H fun vs H1 => ∀ x dx, H1 x = none → H1 dx = none → dx ≠ x → sp (.ref x :: vs) (upd (upd H1 dx (.own x)) x (.ins C dx [])) (fun v H2 => v = .non ∧ Q (.ref x) H2) (E σ)
theorem makeR {E : XK} (M : Mk X.K C f) (F : FnR X.prog X.w X.K X.mg X.base CX k f sp) (hr : Room (k + 1) X.A) (hx : PassesAt CX X σ E) (I : Inv X pins σ H s) (r : Vals vs us)
    (h : ∀ x dx, H x = none → H dx = none → dx ≠ x → sp (.ref x :: vs) (upd (upd H dx (.own x)) x (.ins C dx [])) (fun v H2 => v = .non ∧ Q (.ref x) H2) E) : wpAny (model X.prog X.w) X.A (call (.ref C) us) (EP X pins σ Q) X.xe s := by
  have I2 := Inv.made (C := C) I
  have hq := h (s.heap.objs.size + 1) s.heap.objs.size (I.hok.fresh (Nat.le_succ _)) (I.hok.fresh (Nat.le_refl _)) (Nat.ne_of_lt (Nat.lt_succ_self _))
  have r2 : Vals (V.ref (s.heap.objs.size + 1) :: vs) (Value.ref (s.heap.objs.size + 1) :: us) := .cons rfl r
  refine wpAny_call (make_map (f := f) I.kIn M.makes M.init (beq_iff_eq.mp M.fn) (codeAny_mono (F _ X.stack _ _ (Value.ref (s.heap.objs.size + 1) :: us) _ _ E (hr.make C us []) (I2.env0.make C us []) r2 hq) fun r s' hq' => ?_))
  match r, hq' with
  | .error e, hq' => exact hx pins _ _ e s' I2 hq'
  | .ok (.ret u), hq' =>
    obtain ⟨v, H', I3, rv, ev, q3⟩ := I2.after hq'
    subst ev
    exact ⟨rv, ⟨V.ref (s.heap.objs.size + 1), H', I3, rfl, q3⟩⟩
  | .ok .next, hq' => exact hq'.elim
  | .ok .brk, hq' => exact hq'.elim
  | .ok .cont, hq' => exact hq'.elim
theorem pe_kR (M : Mk X.K C f) (F : FnR X.prog X.w X.K X.mg X.base CX k f sp) (hr : Room (k + 1) X.A) (hm : X.mg x = some (.ref C)) (hx : ∀ σ, PassesAt CX X σ (E σ)) (ha : PA X (e :: es) t) (hg : Gl X x) (hdb : (x == ("__debug__" : Str)) = false)
    (he : starEach (e :: es) X.env = (false, eval e X.env) :: starEach es X.env) (hpl : (backTo pos (starEach es X.env)).any (·.1) = false) : PE X (.Call (.Name x p) (e :: es) [] pos) (tKR C sp E t) :=
  ⟨fun pins s σ H Q I h => wpAny_Call_Name_kw (ld_glob I hg hm (callWith_K (h₀ := X.base) I.ok.mod.kin M.kp (thn (ha.run pos pins s σ H _ I h) fun us s1 ⟨vs, H1, I1, r, q⟩ => ⟨I1.kIn, makeR M F hr (hx σ) I1 r q⟩) he hpl) hdb)⟩
theorem pe_kR0 (M : Mk X.K C f) (F : FnR X.prog X.w X.K X.mg X.base CX k f sp) (hr : Room (k + 1) X.A) (hm : X.mg x = some (.ref C)) (hx : ∀ σ, PassesAt CX X σ (E σ)) (hg : Gl X x) (hdb : (x == ("__debug__" : Str)) = false) :
    PE X (.Call (.Name x p) [] [] pos) (tKR C sp E tNil) :=
  ⟨fun pins s σ H Q I h => wpAny_Call_Name_kw (ld_glob I hg hm (callWith_K0 I.kIn M.kp (makeR (us := []) M F hr (hx σ) I .nil h)) hdb)⟩
/-- cls(e, ..), the name holds the class at C -/
def tKV (i : Nat) (C : Addr) (sp : Sp) (E : L2.St → XK) (t : TA) : TE := fun σ H Q => σ[i]? = some (some (.ref C)) ∧ tKR C sp E t σ H Q
theorem pe_kV (M : Mk X.K C f) (F : FnR X.prog X.w X.K X.mg X.base CX k f sp) (hr : Room (k + 1) X.A) (hx : ∀ σ, PassesAt CX X σ (E σ)) (ha : PA X (e :: es) t) (hN : X.N[i]? = some x) (hv : Vis X.env.scope x) (hdb : (x == ("__debug__" : Str)) = false) (hcd : (x == ("__classdict__" : Str)) = false)
    (he : starEach (e :: es) X.env = (false, eval e X.env) :: starEach es X.env) (hpl : (backTo pos (starEach es X.env)).any (·.1) = false) : PE X (.Call (.Name x p) (e :: es) [] pos) (tKV i C sp E t) := by
  refine ⟨fun pins s σ H Q I ⟨hs, h⟩ => wpAny_Call_Name_kw (thn ((pe_var (pos := p) hN hv hdb hcd).run pins s σ H (fun v H1 => v = .ref C ∧ H1 = H) I ⟨.ref C, hs, rfl, rfl⟩) fun u s1 ⟨v, H1, I1, r1, e1, e2⟩ => ?_)⟩
  subst e1 e2
  cases r1
  exact callWith_K (h₀ := X.base) I.ok.mod.kin M.kp (thn (ha.run pos pins s1 σ _ _ I1 h) fun us s2 ⟨vs, H2, I2, r, q⟩ => ⟨I2.kIn, makeR M F hr (hx σ) I2 r q⟩) he hpl
/-- C.m(e, ..), m a classmethod -/
def tCR (C : Addr) (sp : Sp) (E : L2.St → XK) (ta : TE) (t : TA) : TE := fun σ H Q => ta σ H fun x H1 => x = .ref C ∧ t σ H1 fun vs H2 => sp (.ref C :: vs) H2 Q (E σ)
theorem pe_cmR {mc : Value} {pl : Sem Bool} {q : Addr} (ho : PE X o ta) (r : ClX.CRead X.K C mc) (c : ClX.CMet X.K C mc m q f) (F : FnR X.prog X.w X.K X.mg X.base CX k f sp) (hr : Room k X.A) (hx : ∀ σ, PassesAt CX X σ (E σ)) (ha : PA X (e :: es) t)
    (hst : starEach (e :: es) X.env = (false, eval e X.env) :: starEach es X.env) (hpl : (backTo pos (starEach es X.env)).any (·.1) = false)
    (ht : eval (.Call (.Attribute o m apos) (e :: es) [] pos) X.env = (do
      let ov ← eval o X.env
      standAt apos.atName
      let (g, first) ← holding [ov] (getMethod ov m pl)
      callWith pos g first (backTo pos (starEach (e :: es) X.env)) (backToKw pos (keywordEach [] X.env)))) : PE X (.Call (.Attribute o m apos) (e :: es) [] pos) (tCR C sp E ta t) := by
  refine ⟨fun pins s σ H Q I h => methodCall_KW (pl := pl) (thn (ho.run pins s σ H _ I h) fun u s1 ⟨x, H1, I1, rx, ex, q1⟩ => ?_) ht⟩
  subst ex
  obtain rfl : u = Value.ref C := rx
  refine ClX.getmethcm_ok I1 r c fun s2 I2 => ClX.callwith_cm I2 (ClX.base_none I1 (Nat.le_refl _)) c.fi (thn (ha.run pos _ s2 σ H1 _ I2 q1) fun us s3 ⟨vs, H2, I3, rv, q2⟩ => ⟨⟨ClX.pin_at I3, I3.kIn⟩, ?_⟩) hst hpl
  have z : wpAny (model X.prog X.w) X.A (call (.ref s1.heap.objs.size) us) (EP X ((s1.heap.objs.size, methodObj (.ref f) (.ref C)) :: pins) σ Q) X.xe s3 := wpAny_call (method_call (ClX.pin_at I3) (runR (us := .ref C :: us) (vs := .ref C :: vs) F hr (hx σ) I3 (.cons rfl rv) q2))
  exact thn z fun _ _ y => ClX.unpinE y
/-- len(o) of an own object: its __len__ -/
def rLenO (C : Addr) (sp : Sp) : List V → Hp → VK → Prop := fun xs H Q => ∃ a dx fs, xs = [.ref a] ∧ H a = some (.ins C dx fs) ∧ sp xs H (fun v H' => ∃ n : Int, v = .int n ∧ 0 ≤ n ∧ n < 2 ^ 63 ∧ Q (.int n) H') (fun _ _ _ => False)
theorem call_lenO (hs : findIn X.K (.ref C) "__len__" = some (some (.ref f))) (hf : isFn X.K (.ref f) = true) (F : FnR X.prog X.w X.K X.mg X.base CX k f sp) (hr : Room (k + 1) X.A) (hx : Passes CX X (fun _ _ _ => False)) : CallR X (.builtin "len") (rLenO C sp) := by
  intro pins s σ H xs us Q I r h
  obtain ⟨a, dx, fs, rfl, ea, q⟩ := h
  cases r with
  | cons r0 rr =>
    cases rr
    cases r0
    obtain ⟨mA, O, _, _, _, _⟩ := ins_get I.hok ea
    obtain ⟨od, J, _⟩ := O.look
    obtain ⟨m0, fr⟩ := I.fr
    refine len_K fr I.ok.mod.kin J hs hf ?_
    refine wpAny_call (codeAny_mono (F X.A.in1 X.stack s H [.ref a] [.ref a] _ _ hr.in1 I.env0.in1 (.cons rfl .nil) q) fun r s' hq => ?_)
    match r, hq with
    | .error e, hq => exact hx pins σ H s e s' I hq
    | .ok (.ret u), hq =>
      obtain ⟨v, H', I3, rv, n, ev, h0, h1, q3⟩ := I.after hq
      subst ev
      obtain ⟨t, rfl⟩ := rv
      exact ⟨⟨h0, h1⟩, .int n, H', I3.tok _, ⟨_, rfl⟩, q3⟩
    | .ok .next, hq => exact hq.elim
    | .ok .brk, hq => exact hq.elim
    | .ok .cont, hq => exact hq.elim
end
end FLE
namespace FL
open PySem PySem.Spec PyProof.Rows L2 FLE
theorem fnR_of {P : Program} {w : World} {K : PySem.W.Frag} {mg : Str → Option Value} {base : Heap} {CX : CXT} {k : Nat} {f : Addr} {fd : FuncData} {ps : List Str} {sp : Sp} (F : FnOk P w K mg base CX k f fd ps sp) (hb : Binds K fd ps []) : FnR P w K mg base CX k f sp := by
  have := F.raw hb .nil
  refine fun A outer s H us vs Q E hr e0 r hs => this A outer s H us vs Q E hr e0 r (by show sp (vs ++ []) H Q E; rw [List.append_nil]; exact hs)
/-- what a def does: its promise by a function of its arguments -/
abbrev FnM (P : Program) (w : World) (K : PySem.W.Frag) (mg : Str → Option Value) (base : Heap) (k : Nat) (f : Addr) (n : Nat) (mir : List M → FOut) : Prop := FnR P w K mg base (L2N.CX P w) k f (spM K n mir)
theorem FnM.mono {P : Program} {w : World} {K : PySem.W.Frag} {mg : Str → Option Value} {base : Heap} {j k : Nat} {f : Addr} {n : Nat} {mir : List M → FOut} (F : FnM P w K mg base j f n mir) (h : j ≤ k) : FnM P w K mg base k f n mir := FnR.mono F h
section
variable {X : Cx} {W : WX} {fx : Nat → Prop} {k : Nat} {f C : Addr} {x m : Str} {p pos apos : Pos} {e o : Expr} {es : List Expr} {mir : List M → FOut} {n : Nat}
theorem fe_cR (bs : List Nat) {fa : En → Out (List Arg)} (tk : L2N.Takes X W) (F : FnM X.prog X.w X.K X.mg X.base k f n mir) (hr : Room k X.A) (hm : X.mg x = some (.ref f)) (hk : PySem.W.keepIn X.K (.ref f) = true) (ha : FA X W (e :: es) fa) (hn : bs.length = n := by rfl) (hg : Gl X x := by rfl)
    (hdb : (x == ("__debug__" : Str)) = false := by decide) (he : starEach (e :: es) X.env = (false, eval e X.env) :: starEach es X.env := by rfl) (hpl : (backTo pos (starEach es X.env)).any (·.1) = false := by rfl) :
    FE X W (.Call (.Name x p) (e :: es) [] pos) (eCall bs mir fa) := by
  obtain ⟨t, h1, h2⟩ := ha.ex
  exact ⟨_, pe_cR (E := WE W) F hr hm hk (fun σ => L2N.passAt tk σ) h1 hg hdb he hpl, fun ε σ F H φ Q ok h => call_run h2 hn ok h⟩
theorem fe_cR0 (tk : L2N.Takes X W) (F : FnM X.prog X.w X.K X.mg X.base k f 0 mir) (hr : Room k X.A) (hm : X.mg x = some (.ref f)) (hk : PySem.W.keepIn X.K (.ref f) = true) (hg : Gl X x := by rfl)
    (hdb : (x == ("__debug__" : Str)) = false := by decide) : FE X W (.Call (.Name x p) [] [] pos) (eCall [] mir aNil) := by
  refine ⟨_, pe_cR0 (E := WE W) F hr hm hk (fun σ => L2N.passAt tk σ) hg hdb, fun ε σ F H φ Q ok h => ?_⟩
  exact call_run (t := tNil) (fa := aNil) (W := W) (fun ε σ F H φ Q ok h => by
    have h' : PostA X.K W σ F H (Own φ) Q (.ok [] ε) := h
    exact h' [] F H φ ok (Step.refl fun _ z => z) rfl) rfl ok h
/-! ### methods -/
/-- an object of the class c without a field named m -/
def insC (c m : Str) : M → Bool
  | .d (.obj c' fs) => c' == c && (fs.lookup m).isNone
  | .oo c' fs => c' == c && (fs.lookup m).isNone
  | _ => false
theorem RMf.lookup_none {K : PySem.W.Frag} {F H : Hp} : ∀ {fs : List (Str × M)} {vs : List (Str × V)} {fp : List Addr} {f : Str}, RMf K F H fs vs fp → fs.lookup f = none → vs.lookup f = none
  | [], _, _, _, h, _ => by rw [h.1]; rfl
  | (k, y) :: fs, _, _, f, ⟨v, ws, f1, f2, e, _, h, r⟩, q => by
    subst e
    by_cases hk : f = k
    · subst hk
      simp [List.lookup] at q
    · have hb : (f == k) = false := by simpa using hk
      simp only [List.lookup, hb] at q ⊢
      exact RMf.lookup_none r q
theorem insC_at {K : PySem.W.Frag} {F H : Hp} {c m : Str} {mm : M} {v : V} (l : Le F H) (r : RMr K F H mm v) (h : insC c m mm = true) : ∃ a dx fs, v = .ref a ∧ H a = some (.ins (He.ga K c) dx fs) ∧ fs.lookup m = none := by
  obtain ⟨s, r⟩ := r
  unfold insC at h
  split at h
  · rename_i c' fs
    obtain ⟨h1, h2⟩ := Bool.and_eq_true_iff.mp h
    have e := eq_of_beq h1
    subst e
    obtain ⟨_, a, dx, vs, e, ha, rf⟩ := r
    exact ⟨a, dx, vs, e, l _ _ ha, RepF.lookup_none rf (Option.isNone_iff_eq_none.mp h2)⟩
  · rename_i c' fs
    obtain ⟨h1, h2⟩ := Bool.and_eq_true_iff.mp h
    have e := eq_of_beq h1
    subst e
    obtain ⟨a, dx, vs, fp', e, _, ha, rf⟩ := r
    exact ⟨a, dx, vs, e, ha, RMf.lookup_none rf (Option.isNone_iff_eq_none.mp h2)⟩
  · cases h
def eMeth (c m : Str) (bs : List Nat) (mir : List M → FOut) (oa : En → Out Arg) (fa : En → Out (List Arg)) (ε : En) : Out M := (oa ε).bnd fun a ε1 => match rd ε1 a with
  | some mm => if insC c m mm = true then (fa ε1).bnd fun as ε2 => tailC bs mir (a :: as) ε2 else .bad
  | none => .bad
theorem meth_run {c : Str} {bs : List Nat} {oa : En → Out Arg} {fa : En → Out (List Arg)} {ta : TE} {t : TA} (hn : bs.length = n) (h1 : ∀ ε σ F H φ Q, EnvOk X.K F H ε σ φ → PostO X.K W σ F H (Own φ) Q (oa ε) → ta σ H Q)
    (h2 : ∀ ε σ F H φ Q, EnvOk X.K F H ε σ φ → PostA X.K W σ F H (Own φ) Q (fa ε) → t σ H Q) {ε : En} {σ : L2.St} {F H : Hp} {φ : Nat → List Addr} {Q : VK} (ok : EnvOk X.K F H ε σ φ) (h : PostE X.K W σ F H (Own φ) Q (eMeth c m bs mir oa fa ε)) :
    tMR (He.ga X.K c) m (spM X.K n mir) (WE W) ta t σ H Q := by
  refine h1 ε σ F H φ _ ok ?_
  unfold eMeth at h
  cases q : oa ε with
  | bad => rw [q] at h; exact h
  | ex c fs ε' => rw [q] at h; exact h
  | ok a ε1 =>
    rw [q] at h
    simp only [bnd_ok] at h
    intro v F1 H1 φ1 ok1 st1 r1
    cases q2 : rd ε1 a with
    | none => rw [q2] at h; exact h.elim
    | some mm =>
      rw [q2] at h
      simp only at h
      split at h
      case isFalse => exact h.elim
      rename_i hi
      obtain ⟨ad, dx, fs, ev, ea, l⟩ := insC_at ok1.sub (rd_ok ok1 r1 q2) hi
      refine ⟨ad, dx, fs, ev, ea, l, h2 ε1 σ F1 H1 φ1 _ ok1 ?_⟩
      cases q3 : fa ε1 with
      | bad => rw [q3] at h; exact h
      | ex c fs ε' => rw [q3] at h; exact PostX.step st1 h
      | ok as ε2 =>
        rw [q3] at h
        simp only [bnd_ok] at h
        intro vs F2 H2 φ2 ok2 st2 r2
        exact call_post (as := a :: as) hn ok2 (st1.trans st2) ⟨v, vs, rfl, ArgOk.le st2.f r1, r2⟩ h
theorem fe_mR (c : Str) (bs : List Nat) {pl : Sem Bool} {oa : En → Out Arg} {fa : En → Out (List Arg)} (tk : L2N.Takes X W) (cl : Cls X.K (He.ga X.K c)) (hm : Meth X.K (He.ga X.K c) m f) (F : FnM X.prog X.w X.K X.mg X.base k f n mir) (hr : Room k X.A) (ho : FO X W o oa) (ha : FA X W (e :: es) fa) (hn : bs.length = n := by rfl)
    (hst : starEach (e :: es) X.env = (false, eval e X.env) :: starEach es X.env := by rfl) (hpl : (backTo pos (starEach es X.env)).any (·.1) = false := by rfl)
    (ht : eval (.Call (.Attribute o m apos) (e :: es) [] pos) X.env = (do
      let ov ← eval o X.env
      standAt apos.atName
      let (g, first) ← holding [ov] (getMethod ov m pl)
      callWith pos g first (backTo pos (starEach (e :: es) X.env)) (backToKw pos (keywordEach [] X.env))) := by rfl) : FE X W (.Call (.Attribute o m apos) (e :: es) [] pos) (eMeth c m bs mir oa fa) := by
  obtain ⟨ta, p1, q1⟩ := ho.ex
  obtain ⟨t, p2, q2⟩ := ha.ex
  exact ⟨_, pe_mR (pl := pl) (E := WE W) p1 cl hm F hr (fun σ => L2N.passAt tk σ) p2 hst hpl ht, fun ε σ F H φ Q ok h => meth_run hn q1 q2 ok h⟩
theorem fe_mR0 (c : Str) (bs : List Nat) {pl : Sem Bool} {oa : En → Out Arg} (tk : L2N.Takes X W) (cl : Cls X.K (He.ga X.K c)) (hm : Meth X.K (He.ga X.K c) m f) (F : FnM X.prog X.w X.K X.mg X.base k f n mir) (hr : Room k X.A) (ho : FO X W o oa) (hn : bs.length = n := by rfl)
    (ht : eval (.Call (.Attribute o m apos) [] [] pos) X.env = (do
      let ov ← eval o X.env
      standAt apos.atName
      let (g, first) ← holding [ov] (getMethod ov m pl)
      callWith pos g first (backTo pos (starEach [] X.env)) (backToKw pos (keywordEach [] X.env))) := by rfl) : FE X W (.Call (.Attribute o m apos) [] [] pos) (eMeth c m bs mir oa aNil) := by
  obtain ⟨ta, p1, q1⟩ := ho.ex
  exact ⟨_, pe_mR0 (pl := pl) (E := WE W) p1 cl hm F hr (fun σ => L2N.passAt tk σ) ht, fun ε σ F H φ Q ok h => meth_run (fa := aNil) (t := tNil) hn q1 (fun ε σ F H φ Q ok h => by
    have h' : PostA X.K W σ F H (Own φ) Q (.ok [] ε) := h
    exact h' [] F H φ ok (Step.refl fun _ z => z) rfl) ok h⟩
/-! ### C(..) -/
/-- the arguments are data; __init__ changes its self alone -/
def tailK (c : Str) (mir : List M → FOut) (as : List Arg) (ε1 : En) : Out M := match resD ε1 as with
  | some (ds, ε2) => (match mir (.oo c [] :: ds.map .d) with
    | .rt (.d .non) (s :: _) => .ok s ε2
    | .ex c' fs _ => .ex c' fs ε2
    | _ => .bad)
  | none => .bad
def eMake (c : Str) (mir : List M → FOut) (fa : En → Out (List Arg)) (ε : En) : Out M := (fa ε).bnd fun as ε1 => tailK c mir as ε1
theorem ArgsOk.length {K : PySem.W.Frag} {F : Hp} {σ : L2.St} : ∀ {as : List Arg} {vs : List V}, ArgsOk K F σ as vs → as.length = vs.length
  | [], _, h => by rw [show _ = [] from h]; rfl
  | a :: as, _, ⟨v, ws, e, _, r⟩ => by rw [e, List.length_cons, List.length_cons, ArgsOk.length r]
/-- what a new object alone owns -/
def psi0 (x : Addr) : Nat → List Addr := fun j => if j = 0 then [x] else []
theorem psi0_own {x a : Addr} (h : Own (psi0 x) a) : a = x := by
  obtain ⟨j, hj⟩ := h
  unfold psi0 at hj
  split at hj
  · exact List.mem_singleton.mp hj
  · cases hj
theorem psi0_mem {x a : Addr} {j : Nat} (h : a ∈ psi0 x j) : a = x ∧ j = 0 := by
  unfold psi0 at h
  split at h
  · rename_i e; exact ⟨List.mem_singleton.mp h, e⟩
  · cases h
theorem make_post {K : PySem.W.Frag} {c : Str} {as : List Arg} {vs : List V} {ε1 : En} {σ : L2.St} {F0 H0 F H : Hp} {P : Addr → Prop} {φ1 : Nat → List Addr} {Q : VK} (hn : as.length + 1 = n) (ok1 : EnvOk K F H ε1 σ φ1) (st1 : Step F0 H0 P F H (Own φ1)) (r1 : ArgsOk K F σ as vs)
    (h : PostE K W σ F0 H0 P Q (tailK c mir as ε1)) : ∀ x dx, H x = none → H dx = none → dx ≠ x → spM K n mir (.ref x :: vs) (upd (upd H dx (.own x)) x (.ins (He.ga K c) dx [])) (fun v H2 => v = .non ∧ Q (.ref x) H2) (WE W σ) := by
  intro x dx hx hdx hne
  unfold tailK at h
  cases q : resD ε1 as with
  | none => rw [q] at h; exact h.elim
  | some z =>
    obtain ⟨ds, ε2⟩ := z
    rw [q] at h
    simp only at h
    obtain ⟨G, φ2, ok2, st2, r2, l2⟩ := resD_ok ok1 st1 r1 q
    -- the new object and its dict
    have g1 : Grow G H G (upd H dx (.own x)) [dx] := grow_o ok2.sub hdx _
    have hx1 : upd H dx (.own x) x = none := by rw [upd_ne (Ne.symm hne)]; exact hx
    have g2 : Grow G (upd H dx (.own x)) G (upd (upd H dx (.own x)) x (.ins (He.ga K c) dx [])) [x] := grow_o g1.fh hx1 _
    have gg : Grow G H G (upd (upd H dx (.own x)) x (.ins (He.ga K c) dx [])) [x] := ⟨Le.refl _, g1.h.trans g2.h, g2.fh, fun a z => .inl z, fun a ha => by
      rw [List.mem_singleton] at ha; subst ha
      exact ⟨hx, Le.none ok2.sub hx⟩⟩
    generalize hH3 : upd (upd H dx (.own x)) x (.ins (He.ga K c) dx []) = H3 at g2 gg
    have e3 : H3 x = some (.ins (He.ga K c) dx []) := by rw [← hH3]; exact upd_same
    have hl : ds.length = vs.length := r2.length.symm
    have offx : G x = none := Le.none ok2.sub hx
    have okc : EnvOk K G H3 ((.oo c [] :: ds.map M.d).map some) ((V.ref x :: vs).map some) (psi0 x) := by
      refine ⟨gg.fh, ?_, fun j m hj => ?_, fun j hj => ?_, fun j => ?_, fun i j a h1 h2 => ?_, fun j a h1 => ?_⟩
      · rw [List.length_map, List.length_map, List.length_cons, List.length_cons, List.length_map, hl]
      · cases j with
        | zero =>
          simp at hj; subst hj
          exact ⟨.ref x, rfl, x, dx, [], [], rfl, rfl, e3, rfl, rfl⟩
        | succ j =>
          rw [List.map_cons, List.getElem?_cons_succ, List.map_map, List.getElem?_map] at hj
          cases q3 : ds[j]? with
          | none => rw [q3] at hj; cases hj
          | some d =>
            rw [q3] at hj
            cases hj
            obtain ⟨v, hv, rv⟩ := r2.get q3
            refine ⟨v, by rw [List.map_cons, List.getElem?_cons_succ, List.getElem?_map, hv]; rfl, ?_⟩
            unfold psi0
            rw [if_neg (by omega)]
            exact ⟨rfl, rv⟩
      · cases j with
        | zero => exact absurd rfl (hj (.oo c []))
        | succ j => unfold psi0; rw [if_neg (by omega)]
      · unfold psi0
        split
        · simp
        · exact List.nodup_nil
      · rw [(psi0_mem h1).2, (psi0_mem h2).2]
      · rw [(psi0_mem h1).1]; exact offx
    refine ⟨by rw [List.length_cons, ← ArgsOk.length r1]; exact hn, .oo c [] :: ds.map .d, G, _, okc, ?_⟩
    have notx : ∀ a, H a ≠ none → ¬ Own (psi0 x) a := fun a ha z => ha (by rw [psi0_own z]; exact hx)
    have stc : ∀ {F' H' : Hp} {T : Addr → Prop}, Step G H3 (Own (psi0 x)) F' H' T → Step G H (Own φ2) F' H' (fun a => Own φ2 a ∨ T a) := fun {F' H' T} st => {
      f := st.f
      h := fun a o hp e => st.h a o (notx a (by rw [e]; exact nofun)) (gg.h a o e)
      o := fun a z => z.elim .inl fun z => .inr ((st.o a z).elim (fun z => by rw [psi0_own z]; exact hx) fun z => Le.none gg.h z)
      n := fun a z => (st.n a z).elim .inl fun z => .inr (.inr (z.elim (fun z => by rw [psi0_own z]; exact hx) fun z => Le.none gg.h z))
      t := fun a z => Le.none gg.h (st.t a z) }
    have notO : ∀ {F' H' : Hp} {T : Addr → Prop}, Step G H3 (Own (psi0 x)) F' H' T → ∀ a, T a → ∀ i, a ∉ φ2 i := fun {F' H' T} st a z i hi => ok2.tr hi ((st.o a z).elim (fun z => by rw [psi0_own z]; exact hx) fun z => Le.none gg.h z)
    -- what the names own is not touched
    have keepE : ∀ {F' H' : Hp} {T : Addr → Prop}, Le F' H' → Step G H3 (Own (psi0 x)) F' H' T → EnvOk K F' H' ε2 σ φ2 := fun {F' H' T} fh st => {
      sub := fh
      len := ok2.len
      slot := fun i m hm => by
        obtain ⟨v, hv, r⟩ := ok2.slot i m hm
        exact ⟨v, hv, RM.mv st.f m v _ (fun a ha o e => st.h a o (notx a (ok2.tr ha)) (gg.h a o e)) r⟩
      emp := ok2.emp
      nd := ok2.nd
      dj := ok2.dj
      off := fun i a ha => by
        cases q4 : F' a with
        | none => rfl
        | some o =>
          rcases st.n a (by rw [q4]; exact nofun) with z | z | z
          · exact absurd (ok2.off i a ha) z
          · exact absurd z (notx a (ok2.tr ha))
          · exact absurd (Le.none gg.h z) (ok2.tr ha) }
    cases q5 : mir (.oo c [] :: ds.map M.d) with
    | bad => rw [q5] at h; exact h
    | rt m outs =>
      rw [q5] at h
      intro v F' H' ψ' s ok' st r nd off
      split at h
      · rename_i s0 rest e
        cases e
        refine ⟨r.2, ?_⟩
        obtain ⟨u, hu, ru⟩ := ok'.slot 0 s0 rfl
        have eu : u = .ref x := by
          have hu' : ((V.ref x :: vs).map some)[0]? = some (some u) := hu
          simp at hu'; exact hu'.symm
        subst eu
        refine h (.ref x) F' H' φ2 (ψ' 0) (keepE ok'.sub st) (st2.trans ((stc st).imp fun a z => z.imp_right fun z => .inl ⟨0, z⟩)) ru (ok'.nd 0) fun a ha => ⟨ok'.off 0 a ha, fun i hi => ?_⟩
        exact notO st a (.inl ⟨0, ha⟩) i hi
      · rename_i e; cases e
      · exact h.elim
    | ex c' fs outs =>
      rw [q5] at h
      intro dx' xs F' H' ψ' ok' st e r
      exact h dx' xs F' H' φ2 (keepE ok'.sub st) (st2.trans ((stc st).imp fun a z => .inl z)) e r
theorem make_run {c : Str} {fa : En → Out (List Arg)} {t : TA} (hl : ∀ ε as ε1, fa ε = .ok as ε1 → as.length + 1 = n) (h2 : ∀ ε σ F H φ Q, EnvOk X.K F H ε σ φ → PostA X.K W σ F H (Own φ) Q (fa ε) → t σ H Q) {ε : En} {σ : L2.St} {F H : Hp} {φ : Nat → List Addr} {Q : VK} (ok : EnvOk X.K F H ε σ φ)
    (h : PostE X.K W σ F H (Own φ) Q (eMake c mir fa ε)) : tKR (He.ga X.K c) (spM X.K n mir) (WE W) t σ H Q := by
  refine h2 ε σ F H φ _ ok ?_
  unfold eMake at h
  cases q : fa ε with
  | bad => rw [q] at h; exact h
  | ex c fs ε' => rw [q] at h; exact h
  | ok as ε1 =>
    rw [q] at h
    simp only [bnd_ok] at h
    intro vs F1 H1 φ1 ok1 st1 r1
    exact make_post (hl _ _ _ q) ok1 st1 r1 h
theorem aCons_len {o : En → Out Arg} {g : En → Out (List Arg)} {n : Nat} (hg : ∀ ε as ε1, g ε = .ok as ε1 → as.length = n) : ∀ ε as ε1, aCons o g ε = .ok as ε1 → as.length = n + 1 := by
  intro ε as ε1 h
  unfold aCons at h
  cases q : o ε with
  | bad => rw [q] at h; cases h
  | ex c fs e => rw [q] at h; cases h
  | ok a ε2 =>
    rw [q] at h
    simp only [bnd_ok] at h
    cases q2 : g ε2 with
    | bad => rw [q2] at h; cases h
    | ex c fs e => rw [q2] at h; cases h
    | ok bs ε3 =>
      rw [q2] at h
      cases h
      rw [List.length_cons, hg _ _ _ q2]
theorem aNil_len : ∀ ε as ε1, aNil ε = .ok as ε1 → as.length = 0 := by
  intro ε as ε1 h
  cases h; rfl
theorem fe_kR (c : Str) {fa : En → Out (List Arg)} (tk : L2N.Takes X W) (Mk_ : Mk X.K (He.ga X.K c) f) (F : FnM X.prog X.w X.K X.mg X.base k f n mir) (hr : Room (k + 1) X.A) (hm : X.mg x = some (.ref (He.ga X.K c))) (ha : FA X W (e :: es) fa) (hl : ∀ ε as ε1, fa ε = .ok as ε1 → as.length + 1 = n) (hg : Gl X x := by rfl)
    (hdb : (x == ("__debug__" : Str)) = false := by decide) (he : starEach (e :: es) X.env = (false, eval e X.env) :: starEach es X.env := by rfl) (hpl : (backTo pos (starEach es X.env)).any (·.1) = false := by rfl) : FE X W (.Call (.Name x p) (e :: es) [] pos) (eMake c mir fa) := by
  obtain ⟨t, p2, q2⟩ := ha.ex
  exact ⟨_, pe_kR (E := WE W) Mk_ F hr hm (fun σ => L2N.passAt tk σ) p2 hg hdb he hpl, fun ε σ F H φ Q ok h => make_run hl q2 ok h⟩
theorem fe_kR0 (c : Str) (tk : L2N.Takes X W) (Mk_ : Mk X.K (He.ga X.K c) f) (F : FnM X.prog X.w X.K X.mg X.base k f 1 mir) (hr : Room (k + 1) X.A) (hm : X.mg x = some (.ref (He.ga X.K c))) (hg : Gl X x := by rfl)
    (hdb : (x == ("__debug__" : Str)) = false := by decide) : FE X W (.Call (.Name x p) [] [] pos) (eMake c mir aNil) :=
  ⟨_, pe_kR0 (E := WE W) Mk_ F hr hm (fun σ => L2N.passAt tk σ) hg hdb, fun ε σ F H φ Q ok h => make_run (fa := aNil) (t := tNil) (fun ε as ε1 h => by rw [aNil_len ε as ε1 h]) (fun ε σ F H φ Q ok h => by
    have h' : PostA X.K W σ F H (Own φ) Q (.ok [] ε) := h
    exact h' [] F H φ ok (Step.refl fun _ z => z) rfl) ok h⟩
/-- cls(..), the name holds a class -/
def eMakeV (i : Nat) (c : Str) (mir : List M → FOut) (fa : En → Out (List Arg)) (ε : En) : Out M := match ε[i]? with
  | some (some (.d (.cl c'))) => if c' = c then eMake c mir fa ε else .bad
  | _ => .bad
theorem fe_kV (i : Nat) (c : Str) {fa : En → Out (List Arg)} (tk : L2N.Takes X W) (Mk_ : Mk X.K (He.ga X.K c) f) (F : FnM X.prog X.w X.K X.mg X.base k f n mir) (hr : Room (k + 1) X.A) (ha : FA X W (e :: es) fa) (hl : ∀ ε as ε1, fa ε = .ok as ε1 → as.length + 1 = n) (hN : X.N[i]? = some x := by rfl)
    (hv : Vis X.env.scope x := by first | exact Or.inl rfl | exact Or.inr (Or.inl rfl) | exact Or.inr (Or.inr rfl)) (hdb : (x == ("__debug__" : Str)) = false := by decide) (hcd : (x == ("__classdict__" : Str)) = false := by decide) (he : starEach (e :: es) X.env = (false, eval e X.env) :: starEach es X.env := by rfl)
    (hpl : (backTo pos (starEach es X.env)).any (·.1) = false := by rfl) : FE X W (.Call (.Name x p) (e :: es) [] pos) (eMakeV i c mir fa) := by
  obtain ⟨t, p2, q2⟩ := ha.ex
  refine ⟨_, pe_kV (E := WE W) Mk_ F hr (fun σ => L2N.passAt tk σ) p2 hN hv hdb hcd he hpl, fun ε σ F H φ Q ok h => ?_⟩
  unfold eMakeV at h
  split at h
  · rename_i c' hc
    split at h
    · rename_i ec
      subst ec
      obtain ⟨v, hv, r⟩ := ok.slot i _ hc
      have ev : v = .ref (He.ga X.K c') := r.2
      subst ev
      exact ⟨hv, make_run hl q2 ok h⟩
    · exact h.elim
  · exact h.elim
/-- C.m(..), a classmethod -/
def eCM (c : Str) (bs : List Nat) (mir : List M → FOut) (fa : En → Out (List Arg)) (ε : En) : Out M := (fa ε).bnd fun as ε2 => tailC (0 :: bs) mir (.val (.cl c) :: as) ε2
theorem fe_cm (c : Str) (bs : List Nat) {mc : Value} {pl : Sem Bool} {q : Addr} {fa : En → Out (List Arg)} {opos : Pos} (tk : L2N.Takes X W) (r : ClX.CRead X.K (He.ga X.K c) mc) (cm : ClX.CMet X.K (He.ga X.K c) mc m q f) (F : FnM X.prog X.w X.K X.mg X.base k f n mir) (hr : Room k X.A) (hm : X.mg x = some (.ref (He.ga X.K c))) (ha : FA X W (e :: es) fa) (hn : bs.length + 1 = n := by rfl) (hg : Gl X x := by rfl)
    (hdb : (x == ("__debug__" : Str)) = false := by decide) (hst : starEach (e :: es) X.env = (false, eval e X.env) :: starEach es X.env := by rfl) (hpl : (backTo pos (starEach es X.env)).any (·.1) = false := by rfl)
    (ht : eval (.Call (.Attribute (.Name x opos) m apos) (e :: es) [] pos) X.env = (do
      let ov ← eval (.Name x opos) X.env
      standAt apos.atName
      let (g, first) ← holding [ov] (getMethod ov m pl)
      callWith pos g first (backTo pos (starEach (e :: es) X.env)) (backToKw pos (keywordEach [] X.env))) := by rfl) : FE X W (.Call (.Attribute (.Name x opos) m apos) (e :: es) [] pos) (eCM c bs mir fa) := by
  obtain ⟨t, p2, q2⟩ := ha.ex
  refine ⟨_, pe_cmR (pl := pl) (E := WE W) (pe_glob (v := .ref (He.ga X.K c)) hg hm rfl hdb) r cm F hr (fun σ => L2N.passAt tk σ) p2 hst hpl ht, fun ε σ F H φ Q ok h => ⟨rfl, q2 ε σ F H φ _ ok ?_⟩⟩
  unfold eCM at h
  cases q : fa ε with
  | bad => rw [q] at h; exact h
  | ex c fs ε' => rw [q] at h; exact h
  | ok as ε1 =>
    rw [q] at h
    simp only [bnd_ok] at h
    intro vs F1 H1 φ1 ok1 st1 r1
    exact call_post (as := .val (.cl c) :: as) (bs := 0 :: bs) hn ok1 st1 ⟨_, vs, rfl, rfl, r1⟩ h
end
end FL
namespace FL
open PySem PySem.Spec PyProof.Rows L2 FLE
/-! ### one of two readings -/
def eAlt (f g : En → Out M) (ε : En) : Out M := match f ε with
  | .bad => g ε
  | o => o
section
variable {X : Cx} {W : WX} {e o : Expr} {es : List Expr} {x : Str} {p pos apos : Pos}
theorem fe_alt {f g : En → Out M} (h : FE X W e f) (h' : FE X W e g) : FE X W e (eAlt f g) := by
  obtain ⟨t, p1, q1⟩ := h.ex
  obtain ⟨u, p2, q2⟩ := h'.ex
  refine ⟨fun σ H Q => t σ H Q ∨ u σ H Q, ⟨fun pins s σ H Q I k => k.elim (p1.run pins s σ H Q I) (p2.run pins s σ H Q I)⟩, fun ε σ F H φ Q ok k => ?_⟩
  unfold eAlt at k
  cases q : f ε with
  | bad => rw [q] at k; exact .inr (q2 ε σ F H φ Q ok k)
  | ok m ε' => rw [q] at k; exact .inl (q1 ε σ F H φ Q ok (by rw [q]; exact k))
  | ex c fs ε' => rw [q] at k; exact .inl (q1 ε σ F H φ Q ok (by rw [q]; exact k))
/-! ### classes as values -/
theorem fe_cls {c : Str} (hg : Gl X x := by rfl) (hm : X.mg x = some (.ref (He.ga X.K c))) (hd : (x == ("__debug__" : Str)) = false := by decide) : FE X W (.Name x pos) (eC (.cl c)) :=
  fe_c (pe_glob (v := .ref (He.ga X.K c)) hg hm rfl hd) fun _ => rfl
theorem fe_bty {n : String} (hg : Gl X x := by rfl) (hm : X.mg x = none) (hv : bootBuiltins x = some (.type n)) (hn : x ≠ "__name__" := by decide) (hd : (x == ("__debug__" : Str)) = false := by decide) : FE X W (.Name x pos) (eC (.ty n)) :=
  fe_c (pe_bltn (v := .ty n) hg hm hv rfl hn hd) fun _ => rfl
end
/-! ### isinstance -/
inductive Tg where
  | bi (n : String) | own (c : Str)
  deriving DecidableEq
def tgV (K : PySem.W.Frag) : Tg → Value
  | .bi n => .type n
  | .own c => .ref (He.ga K c)
abbrev ITab := List (Tg × Tg × Bool)
def itGet : ITab → Tg → Tg → Option Bool
  | [], _, _ => none
  | (a, b, r) :: l, x, y => if a = x ∧ b = y then some r else itGet l x y
abbrev ItabOk (K : PySem.W.Frag) (tab : ITab) : Prop := ∀ q ∈ tab, PySem.W.kitOne K (tgV K q.1) (tgV K q.2.1) = some q.2.2
theorem itGet_ok {K : PySem.W.Frag} : ∀ {tab : ITab}, ItabOk K tab → ∀ {a b : Tg} {r : Bool}, itGet tab a b = some r → PySem.W.kitOne K (tgV K a) (tgV K b) = some r
  | [], _, _, _, _, h => by cases h
  | (a, b, r) :: l, k, x, y, z, h => by
    unfold itGet at h
    split at h
    · rename_i e
      cases h
      obtain ⟨e1, e2⟩ := e
      subst e1; subst e2
      exact k _ List.mem_cons_self
    · exact itGet_ok (fun q hq => k q (List.mem_cons_of_mem _ hq)) h
/-- what isinstance asks of an own class -/
structure OwnC (K : PySem.W.Frag) (c : Str) : Prop where
  cls : Cls K (He.ga K c)
  ha : PySem.W.findIn K (.ref (He.ga K c)) "__class__" = some (some (.builtin "object.__class__"))
  hn : PySem.W.specialIn K (.builtin "object.__class__") "__get__" = some (some (.builtin "getset_descriptor.__get__"))
  ht : PySem.W.takesIn K (.builtin "object.__class__") = some true
  hm : PySem.W.mroIn K (He.ga K c) (.type "object") = some true
def M.tg? (own : List Str) : M → Option Tg
  | .d .non => some (.bi "NoneType")
  | .d (.bl _) => some (.bi "bool")
  | .d (.int _) => some (.bi "int")
  | .d (.str _) => some (.bi "str")
  | .d (.lst _) => some (.bi "list")
  | .d (.rl _) => some (.bi "list")
  | .d (.tup _) => some (.bi "tuple")
  | .d (.dK _) => some (.bi "dict")
  | .d (.dT _) => some (.bi "dict")
  | .d (.obj c _) => if c ∈ own then some (.own c) else none
  | .ol _ => some (.bi "list")
  | .on _ => some (.bi "list")
  | .odK _ => some (.bi "dict")
  | .odT _ => some (.bi "dict")
  | .oo c _ => if c ∈ own then some (.own c) else none
  | _ => none
theorem tyx_l {K : PySem.W.Frag} {H : Hp} {a : Addr} {xs : List V} (h : SqL K H a xs) : TyX K H (.ref a) (.type "list") := by
  rcases h with (h | ⟨o, h⟩) | ⟨o, _, _, h, hc, _⟩
  · exact .base (.lst h)
  · exact .base (.frz h)
  · exact .kList h hc
theorem tyx_t {K : PySem.W.Frag} {H : Hp} {a : Addr} {xs : List V} (h : SqT K H a xs) : TyX K H (.ref a) (.type "tuple") := by
  rcases h with (h | ⟨o, h⟩) | ⟨o, _, _, h, hc, _⟩
  · exact .base (.tup h)
  · exact .fTuple h
  · exact .kTuple h hc
theorem tg_ok {K : PySem.W.Frag} {F H : Hp} {own : List Str} (ho : ∀ c ∈ own, OwnC K c) {m : M} {v : V} {t : Tg} (l : Le F H) (r : RMr K F H m v) (h : m.tg? own = some t) : TyX K H v (tgV K t) := by
  obtain ⟨s, r⟩ := r
  unfold M.tg? at h
  split at h
  · cases h; rw [show v = .non from r.2]; exact .base .non
  · cases h; rw [show v = .bl _ from r.2]; exact .base (.bl _)
  · cases h; rw [show v = .int _ from r.2]; exact .base (.int _)
  · cases h; rw [show v = .str _ from r.2]; exact .base (.str _)
  · cases h
    obtain ⟨_, a, vs, e, ha, _⟩ := r
    subst e; exact .base (.lst (l _ _ ha))
  · cases h
    obtain ⟨_, a, e, ha⟩ := r
    subst e; exact tyx_l (SqL.le l ha)
  · cases h
    obtain ⟨_, a, vs, e, ha, _⟩ := r
    subst e; exact tyx_t (SqT.le l ha)
  · cases h
    obtain ⟨_, a, vs, e, ha, _⟩ := r
    subst e; exact .base (.dK (l _ _ ha))
  · cases h
    obtain ⟨_, a, vs, e, ha, _⟩ := r
    subst e; exact .base (.dT (l _ _ ha))
  · split at h
    · rename_i hc
      cases h
      obtain ⟨_, a, dx, vs, e, ha, _⟩ := r
      have z := ho _ hc
      subst e; exact .base (.ins (l _ _ ha) z.cls z.ha z.hn z.ht z.hm)
    · cases h
  · cases h
    obtain ⟨a, vs, e, _, ha, _⟩ := r
    subst e; exact .base (.lst ha)
  · cases h
    obtain ⟨a, vs, _, e, _, ha, _⟩ := r
    subst e; exact .base (.lst ha)
  · cases h
    obtain ⟨a, vs, e, _, ha, _⟩ := r
    subst e; exact .base (.dK ha)
  · cases h
    obtain ⟨a, vs, e, _, ha, _⟩ := r
    subst e; exact .base (.dT ha)
  · split at h
    · rename_i hc
      cases h
      obtain ⟨a, dx, vs, fp', e, _, ha, _⟩ := r
      have z := ho _ hc
      subst e; exact .base (.ins ha z.cls z.ha z.hn z.ht z.hm)
    · cases h
  · cases h
def M.asTg : M → Option Tg
  | .d (.ty n) => some (.bi n)
  | .d (.cl c) => some (.own c)
  | _ => none
def gIsi (own : List Str) (tab : ITab) : List M → Option M
  | [m, c] => match m.tg? own, c.asTg with
    | some a, some b => (itGet tab a b).map fun r => .d (.bl r)
    | _, _ => none
  | _ => none
theorem s_isi {K : PySem.W.Frag} {own : List Str} {tab : ITab} (ho : ∀ c ∈ own, OwnC K c) (ht : ItabOk K tab) : OpS K (rIsi K) (gIsi own tab) := by
  intro ms vs F H Q m' l r g h
  unfold gIsi at g
  split at g
  · rename_i m c
    split at g
    · rename_i a b e1 e2
      cases q : itGet tab a b with
      | none => rw [q] at g; cases g
      | some b0 =>
        rw [q] at g
        cases g
        obtain ⟨v, u, rfl, r1, r2⟩ := rms2 r rfl
        have hk := itGet_ok ht q
        have ty := tg_ok ho l r1 e1
        have hc : ClsV u (tgV K b) := by
          unfold M.asTg at e2
          split at e2
          · cases e2
            obtain ⟨_, _, r2⟩ := r2
            rw [show u = .ty _ from r2]; exact .ty _
          · cases e2
            obtain ⟨_, _, r2⟩ := r2
            rw [show u = .ref _ from r2]; exact .own _
          · cases e2
        exact ⟨v, u, _, _, b0, rfl, hc, ty, hk, plain_ok l h rfl⟩
    · cases g
  · cases g
section
variable {X : Cx} {W : WX} {fx : Nat → Prop} {e o : Expr} {es : List Expr} {x : Str} {p pos apos : Pos}
theorem fe_isi {own : List Str} {tab : ITab} {fa : En → Out (List Arg)} (ho : ∀ c ∈ own, OwnC X.K c) (ht : ItabOk X.K tab) (hm : X.mg "isinstance" = none) (ha : FA X W (e :: es) fa) (hg : Gl X "isinstance" := by rfl)
    (he : starEach (e :: es) X.env = (false, eval e X.env) :: starEach es X.env := by rfl) (hpl : (backTo pos (starEach es X.env)).any (·.1) = false := by rfl) : FE X W (.Call (.Name "isinstance" p) (e :: es) [] pos) (eOp (gIsi own tab) fa) :=
  fe_cb call_isi (s_isi ho ht) hm (by kernel_rfl) ha hg (by decide) (by decide) he hpl
/-! ### fields -/
abbrev FTab := List (Str × List Str)
def ftHas (ft : FTab) (c f : Str) : Bool := ft.any fun q => q.1 == c && q.2.contains f
abbrev FtabOk (K : PySem.W.Frag) (ft : FTab) : Prop := ∀ q ∈ ft, Cls K (He.ga K q.1) ∧ ∀ f ∈ q.2, NoAttr K (He.ga K q.1) f
theorem ftHas_ok {K : PySem.W.Frag} {ft : FTab} (h : FtabOk K ft) {c f : Str} (k : ftHas ft c f = true) : Cls K (He.ga K c) ∧ NoAttr K (He.ga K c) f := by
  unfold ftHas at k
  obtain ⟨q, hq, k⟩ := List.any_eq_true.mp k
  obtain ⟨k1, k2⟩ := Bool.and_eq_true_iff.mp k
  have e := eq_of_beq k1
  obtain ⟨h1, h2⟩ := h q hq
  rw [← e]
  exact ⟨h1, h2 f (by simpa using k2)⟩
def gFld (ft : FTab) (f : Str) : M → Option M
  | .d (.obj c fs) => if ftHas ft c f = true then (fs.lookup f).map .d else none
  | .oo c fs => if ftHas ft c f = true then (match fs.lookup f with
    | some (.d x) => some (.d x)
    | _ => none) else none
  | _ => none
theorem RMf.lookup {K : PySem.W.Frag} {F H : Hp} : ∀ {fs : List (Str × M)} {vs : List (Str × V)} {fp : List Addr} {f : Str} {m : M}, RMf K F H fs vs fp → fs.lookup f = some m → ∃ v s, vs.lookup f = some v ∧ RM K F H m v s ∧ ∀ a ∈ s, a ∈ fp
  | [], _, _, _, _, h, q => by cases q
  | (k, y) :: fs, _, _, f, m, ⟨v, ws, f1, f2, e, ef, h, r⟩, q => by
    subst e
    by_cases hk : f = k
    · subst hk
      have q' : some y = some m := by simpa [List.lookup] using q
      cases q'
      exact ⟨v, f1, by simp [List.lookup], h, fun a ha => by rw [ef]; exact List.mem_append_left _ ha⟩
    · have hb : (f == k) = false := by simpa using hk
      simp only [List.lookup, hb] at q ⊢
      obtain ⟨u, s, h1, h2, h3⟩ := RMf.lookup r q
      exact ⟨u, s, h1, h2, fun a ha => by rw [ef]; exact List.mem_append_right _ (h3 a ha)⟩
theorem fe_fld {ft : FTab} {f : Str} {oa : En → Out Arg} (hft : FtabOk X.K ft) (ho : FO X W o oa) (hb : attributeBase o f X.env (eval o X.env) = eval o X.env := by rfl) : FE X W (.Attribute o f pos) (eOp1 (gFld ft f) oa) := by
  refine fe_op1 (r := fun x H1 Q => ∃ a C dx fs v, x = .ref a ∧ H1 a = some (.ins C dx fs) ∧ Cls X.K C ∧ NoAttr X.K C f ∧ fs.lookup f = some v ∧ Q v H1) ?_ ho fun ta h1 => pe_fld h1 hb
  intro m v F H Q m' l r g h
  obtain ⟨s, r⟩ := r
  unfold gFld at g
  split at g
  · rename_i c fs
    split at g
    · rename_i hk
      cases q : fs.lookup f with
      | none => rw [q] at g; cases g
      | some d =>
        rw [q] at g
        cases g
        obtain ⟨k1, k2⟩ := ftHas_ok hft hk
        obtain ⟨_, a, dx, vs, e, ha, rf⟩ := r
        obtain ⟨u, hu, ru⟩ := rf.lookup q
        exact ⟨a, _, dx, vs, u, e, l _ _ ha, k1, k2, hu, plain_ok l h ru⟩
    · cases g
  · rename_i c fs
    split at g
    · rename_i hk
      split at g
      · rename_i d q
        cases g
        obtain ⟨k1, k2⟩ := ftHas_ok hft hk
        obtain ⟨a, dx, vs, fp', e, _, ha, rf⟩ := r
        obtain ⟨u, s', hu, ru, _⟩ := RMf.lookup rf q
        exact ⟨a, _, dx, vs, u, e, ha, k1, k2, hu, plain_ok l h ru.2⟩
      · cases g
    · cases g
  · cases g
/-- o.f, a property of the class c -/
def eProp (c : Str) (mir : List M → FOut) (oa : En → Out Arg) (ε : En) : Out M := (oa ε).bnd fun a ε1 => match rd ε1 a with
  | some mm => if insC c "" mm = true then (match tailC [0] mir [a] ε1 with
    | .ok m ε2 => .ok m ε2
    | _ => .bad) else .bad
  | none => .bad
theorem fe_prop (c : Str) {f : Str} {q g : Addr} {k : Nat} {fd : FuncData} {ps : List Str} {mir : List M → FOut} {oa : En → Out Arg} (cl : Cls X.K (He.ga X.K c)) (hp : PropOf X.K (He.ga X.K c) f q g) (F : FnOk X.prog X.w X.K X.mg X.base (L2N.CX X.prog X.w) k g fd ps (spM X.K 1 mir)) (hr : Room (k + 1) X.A) (hb : Binds X.K fd ps []) (ho : FO X W o oa)
    (hab : attributeBase o f X.env (eval o X.env) = eval o X.env := by rfl) : FE X W (.Attribute o f pos) (eProp c mir oa) := by
  obtain ⟨ta, p1, q1⟩ := ho.ex
  refine ⟨_, pe_prop (E := fun _ _ _ => False) (dvs := []) (ds := []) p1 cl hp F hr hb .nil passN0 hab, fun ε σ F H φ Q ok h => q1 ε σ F H φ _ ok ?_⟩
  unfold eProp at h
  cases e1 : oa ε with
  | bad => rw [e1] at h; exact h
  | ex c fs ε' => rw [e1] at h; exact h
  | ok a ε1 =>
    rw [e1] at h
    simp only [bnd_ok] at h
    intro v F1 H1 φ1 ok1 st1 r1
    cases e2 : rd ε1 a with
    | none => rw [e2] at h; exact h.elim
    | some mm =>
      rw [e2] at h
      simp only at h
      split at h
      case isFalse => exact h.elim
      rename_i hi
      obtain ⟨ad, dx, fs, ev, ea, l⟩ := insC_at ok1.sub (rd_ok ok1 r1 e2) hi
      refine ⟨ad, dx, fs, ev, ea, ?_⟩
      have := call_post (W := fun _ _ _ _ => False) (Q := Q) (as := [a]) (bs := [0]) (mir := mir) (n := 1) (vs := [v]) (F0 := F) (H0 := H) (P := Own φ) rfl ok1 st1 ⟨v, [], rfl, r1, rfl⟩ (by
        cases e3 : tailC [0] mir [a] ε1 with
        | bad => rw [e3] at h; exact h.elim
        | ex c fs ε' => rw [e3] at h; exact h.elim
        | ok m ε2 => rw [e3] at h; exact h)
      rw [ev] at this
      exact this
/-! ### len of an own object -/
def eLenO (c : Str) (mir : List M → FOut) (fa : En → Out (List Arg)) (ε : En) : Out M := (fa ε).bnd fun as ε1 => match as with
  | [a] => (match rd ε1 a with
    | some mm => if insC c "" mm = true then (match tailC [0] mir [a] ε1 with
      | .ok (.d (.int n)) ε2 => if 0 ≤ n ∧ rOk n then .ok (.d (.int n)) ε2 else .bad
      | _ => .bad) else .bad
    | none => .bad)
  | _ => .bad
theorem fe_lenO (c : Str) {g : Addr} {k : Nat} {mir : List M → FOut} {fa : En → Out (List Arg)} (hs : PySem.W.findIn X.K (.ref (He.ga X.K c)) "__len__" = some (some (.ref g))) (hf : PySem.W.isFn X.K (.ref g) = true) (F : FnM X.prog X.w X.K X.mg X.base k g 1 mir) (hr : Room (k + 1) X.A) (hm : X.mg "len" = none) (ha : FA X W [e] fa) (hg : Gl X "len" := by rfl)
    (he : starEach [e] X.env = (false, eval e X.env) :: starEach [] X.env := by rfl) (hpl : (backTo pos (starEach [] X.env)).any (·.1) = false := by rfl) : FE X W (.Call (.Name "len" p) [e] [] pos) (eLenO c mir fa) := by
  obtain ⟨t, p1, q1⟩ := ha.ex
  refine ⟨_, pe_callB (call_lenO hs hf F hr passN0) hg hm boot_len p1 (by decide) (by decide) he hpl, fun ε σ F H φ Q ok h => q1 ε σ F H φ _ ok ?_⟩
  unfold eLenO at h
  cases e1 : fa ε with
  | bad => rw [e1] at h; exact h
  | ex c fs ε' => rw [e1] at h; exact h
  | ok as ε1 =>
    rw [e1] at h
    simp only [bnd_ok] at h
    intro vs F1 H1 φ1 ok1 st1 r1
    split at h
    · rename_i a
      obtain ⟨v, ws, ev0, rv, rw0⟩ := r1
      have ew : ws = [] := rw0
      subst ew; subst ev0
      cases e2 : rd ε1 a with
      | none => rw [e2] at h; exact h.elim
      | some mm =>
        rw [e2] at h
        simp only at h
        split at h
        case isFalse => exact h.elim
        rename_i hi
        obtain ⟨ad, dx, fs, ev, ea, l⟩ := insC_at ok1.sub (rd_ok ok1 rv e2) hi
        subst ev
        refine ⟨ad, dx, fs, rfl, ea, ?_⟩
        cases e3 : tailC [0] mir [a] ε1 with
        | bad => rw [e3] at h; exact h.elim
        | ex c fs ε' => rw [e3] at h; exact h.elim
        | ok m ε2 =>
          rw [e3] at h
          have hp : PostE X.K (fun _ _ _ _ => False) σ F H (Own φ) (fun v H' => ∃ n : Int, v = .int n ∧ 0 ≤ n ∧ n < 2 ^ 63 ∧ Q (.int n) H') (tailC [0] mir [a] ε1) := by
            rw [e3]
            intro v F' H' φ' s ok' st r nd off
            split at h
            · rename_i n ε3 e5
              cases e5
              split at h
              · rename_i hb
                have ev : v = .int n := r.2
                subst ev
                exact ⟨n, rfl, hb.1, by have := (rOk_lt hb.2).2; omega, h _ F' H' φ' s ok' st r nd off⟩
              · exact h.elim
            · exact h.elim
          exact call_post (W := fun _ _ _ _ => False) (as := [a]) (bs := [0]) (n := 1) (vs := [.ref ad]) rfl ok1 st1 ⟨_, [], rfl, rv, rfl⟩ hp
    · exact h.elim
/-! ### self.f = e -/
def putM (f : Str) (m : M) : List (Str × M) → List (Str × M)
  | [] => [(f, m)]
  | (g, x) :: r => if g = f then (g, m) :: r else (g, x) :: putM f m r
theorem RMf.put {K : PySem.W.Frag} {F H : Hp} {f : Str} {m : M} {v : V} {s : List Addr} (r : RM K F H m v s) (nd : s.Nodup) : ∀ {fs : List (Str × M)} {vs : List (Str × V)} {fp : List Addr}, RMf K F H fs vs fp → fp.Nodup → (∀ a ∈ s, a ∉ fp) → ∃ fp', RMf K F H (putM f m fs) (putF f v vs) fp' ∧ fp'.Nodup ∧ ∀ a ∈ fp', a ∈ fp ∨ a ∈ s
  | [], _, _, h, _, _ => by
    obtain ⟨e1, e2⟩ := h
    subst e1; subst e2
    exact ⟨s, ⟨v, [], s, [], rfl, by simp, r, rfl, rfl⟩, nd, fun a ha => .inr ha⟩
  | (g, x) :: fs, _, _, ⟨u, ws, f1, f2, e, ef, h, rr⟩, ndp, dj => by
    subst e; subst ef
    rw [List.nodup_append] at ndp
    obtain ⟨n1, n2, n3⟩ := ndp
    unfold putM putF
    by_cases hg : g = f
    · rw [if_pos hg, if_pos hg]
      refine ⟨s ++ f2, ⟨v, ws, s, f2, rfl, rfl, r, rr⟩, ?_, fun a ha => ?_⟩
      · rw [List.nodup_append]
        exact ⟨nd, n2, fun a ha b hb e => dj a ha (by rw [e]; exact List.mem_append_right _ hb)⟩
      · rcases List.mem_append.mp ha with z | z
        · exact .inr z
        · exact .inl (List.mem_append_right _ z)
    · rw [if_neg hg, if_neg hg]
      obtain ⟨fp', r', nd', sub⟩ := RMf.put (f := f) r nd rr n2 (fun a ha z => dj a ha (List.mem_append_right _ z))
      refine ⟨f1 ++ fp', ⟨u, _, f1, fp', rfl, rfl, h, r'⟩, ?_, fun a ha => ?_⟩
      · rw [List.nodup_append]
        refine ⟨n1, nd', fun a ha b hb e => ?_⟩
        subst e
        rcases sub a hb with z | z
        · exact n3 a ha a z rfl
        · exact dj a z (List.mem_append_left _ ha)
      · rcases List.mem_append.mp ha with z | z
        · exact .inl (List.mem_append_left _ z)
        · exact (sub a z).imp_left (List.mem_append_right _)
def sFldM (ft : FTab) (i : Nat) (f : Str) (fe : En → Out M) (ε : En) : SOut := match fe ε with
  | .ok m ε1 => (match ε1[i]? with
    | some (some (.oo c fs)) => if ftHas ft c f = true ∧ fs.length < 1000 then .nx (ε1.set i (some (.oo c (putM f m fs)))) else .bad
    | _ => .bad)
  | .ex c fs ε' => .ex c fs ε'
  | .bad => .bad
theorem RMf.length {K : PySem.W.Frag} {F H : Hp} : ∀ {fs : List (Str × M)} {vs : List (Str × V)} {fp : List Addr}, RMf K F H fs vs fp → vs.length = fs.length
  | [], _, _, h => by rw [h.1]; rfl
  | (k, m) :: fs, _, _, ⟨v, ws, f1, f2, e, _, _, r⟩ => by rw [e, List.length_cons, List.length_cons, RMf.length r]
theorem st_fld {ft : FTab} (i : Nat) {f : Str} {fe : En → Out M} {opos pos' : Pos} (hft : FtabOk X.K ft) (hv : FE X W e fe) (hN : X.N[i]? = some x := by rfl) (hvis : Vis X.env.scope x := by first | exact Or.inl rfl | exact Or.inr (Or.inl rfl) | exact Or.inr (Or.inr rfl)) (hd : (x == ("__debug__" : Str)) = false := by decide)
    (hcd : (x == ("__classdict__" : Str)) = false := by decide) (hs : swapsWith e (some (.Attribute (.Name x opos) f pos')) pos.line X.env = pure false := by rfl) : FS X W fx (.Assign [.Attribute (.Name x opos) f pos'] e pos) (sFldM ft i f fe) := by
  obtain ⟨t, p1, q1⟩ := hv.ex
  refine ⟨_, ps_fld (pe_var hN hvis hd hcd) p1 hs, fun ε σ F H φ Dd ok h => q1 ε σ F H φ _ ok ?_⟩
  unfold sFldM at h
  cases q : fe ε with
  | bad => rw [q] at h; exact h
  | ex c fs ε' => rw [q] at h; exact PostX.toS h
  | ok m ε1 =>
    rw [q] at h
    simp only at h
    intro v F1 H1 φ1 s ok1 st1 r nd off
    split at h
    case h_2 => exact h.elim
    rename_i c fs hx
    split at h
    case isFalse => exact h.elim
    rename_i hc
    obtain ⟨k1, k2⟩ := ftHas_ok hft hc.1
    obtain ⟨o, hv, a, dx, vs, fp', eo, efp, ha, rf⟩ := ok1.slot i _ hx
    subst eo
    refine ⟨_, hv, a, _, dx, vs, rfl, ha, k1, k2, by rw [RMf.length rf]; exact hc.2, ?_⟩
    have ndi := ok1.nd i
    rw [efp] at ndi
    obtain ⟨na, ndf⟩ := List.nodup_cons.mp ndi
    have sa : ∀ b ∈ s, b ≠ a := fun b hb z => (off b hb).2 i (by rw [efp, z]; exact List.mem_cons_self)
    have fa : ∀ b ∈ fp', b ≠ a := fun b hb z => na (z ▸ hb)
    obtain ⟨fq, rq, ndq, sub⟩ := RMf.put (f := f) r nd rf ndf (fun b hb z => (off b hb).2 i (by rw [efp]; exact List.mem_cons_of_mem _ z))
    have aq : ∀ b ∈ fq, b ≠ a := fun b hb => (sub b hb).elim (fa b) (sa b)
    have up : ∀ (b : Addr), b ≠ a → ∀ u, H1 b = some u → upd H1 a (.ins (He.ga X.K c) dx (putF f v vs)) b = some u := fun b hb u e => by rw [upd_ne hb]; exact e
    have lt : i < ε1.length := (List.getElem?_eq_some_iff.mp hx).1
    have aOwn : Own φ1 a := ⟨i, by rw [efp]; exact List.mem_cons_self⟩
    refine h σ F1 _ (fun j => if j = i then a :: fq else φ1 j) ⟨fun b u z => ?_, by rw [List.length_set]; exact ok1.len, fun j m' hj => ?_, fun j hj => ?_, fun j => ?_, fun j l b h1 h2 => ?_, fun j b h1 => ?_⟩ ((st1.trans (upd_step (.inl aOwn) ha)).imp fun b z => ?_) Fx.refl
    · rw [upd_ne (ne_of_none z (ok1.off i a (by rw [efp]; exact List.mem_cons_self)))]
      exact ok1.sub b u z
    · by_cases hj2 : j = i
      · subst hj2
        rw [List.getElem?_set_self lt] at hj
        cases hj
        refine ⟨_, hv, ?_⟩
        rw [if_pos rfl]
        exact ⟨a, dx, _, fq, rfl, rfl, upd_same, RMf.mv (Le.refl _) _ _ _ (fun b hb u z => up b (aq b hb) u z) rq⟩
      · rw [List.getElem?_set_ne (Ne.symm hj2)] at hj
        obtain ⟨w, hw, rw'⟩ := ok1.slot j m' hj
        refine ⟨w, hw, ?_⟩
        rw [if_neg hj2]
        exact RM.mv (Le.refl _) m' w _ (fun b hb u z => up b (fun e => hj2 (ok1.dj j i a (e ▸ hb) (by rw [efp]; exact List.mem_cons_self))) u z) rw'
    · by_cases hj2 : j = i
      · subst hj2
        exact absurd (List.getElem?_set_self lt) (hj _)
      · rw [if_neg hj2]
        refine ok1.emp j fun m' z => hj m' ?_
        rw [List.getElem?_set_ne (Ne.symm hj2)]
        exact z
    · by_cases hj2 : j = i
      · rw [if_pos hj2, List.nodup_cons]
        exact ⟨fun z => aq a z rfl, ndq⟩
      · rw [if_neg hj2]; exact ok1.nd j
    · have key : ∀ {b : Addr}, b ∈ a :: fq → b ∈ φ1 i ∨ b ∈ s := fun {b} hb => by
        rcases List.mem_cons.mp hb with z | z
        · exact .inl (by rw [efp, z]; exact List.mem_cons_self)
        · exact (sub b z).imp_left fun z => by rw [efp]; exact List.mem_cons_of_mem _ z
      by_cases q1 : j = i
      · by_cases q2 : l = i
        · rw [q1, q2]
        · rw [if_pos q1] at h1; rw [if_neg q2] at h2
          rcases key h1 with z | z
          · exact absurd (ok1.dj i l b z h2) (fun e => q2 e.symm)
          · exact absurd h2 ((off b z).2 l)
      · by_cases q2 : l = i
        · rw [if_neg q1] at h1; rw [if_pos q2] at h2
          rcases key h2 with z | z
          · exact absurd (ok1.dj j i b h1 z) q1
          · exact absurd h1 ((off b z).2 j)
        · rw [if_neg q1] at h1; rw [if_neg q2] at h2
          exact ok1.dj j l b h1 h2
    · by_cases q1 : j = i
      · rw [if_pos q1] at h1
        rcases List.mem_cons.mp h1 with z | z
        · rw [z]; exact ok1.off i a (by rw [efp]; exact List.mem_cons_self)
        · rcases sub b z with z | z
          · exact ok1.off i b (by rw [efp]; exact List.mem_cons_of_mem _ z)
          · exact (off b z).1
      · rw [if_neg q1] at h1; exact ok1.off j b h1
    · obtain ⟨j, hj⟩ := z
      simp only at hj
      split at hj
      · rcases List.mem_cons.mp hj with z | z
        · rw [z]; exact .inl aOwn
        · rcases sub b z with z | z
          · exact .inl ⟨i, by rw [efp]; exact List.mem_cons_of_mem _ z⟩
          · exact .inr z
      · exact .inl ⟨j, hj⟩
end
end FL
namespace FL
open PySem PySem.Spec PyProof.Rows L2 FLE
/-! ### raise -/
/-- an own exception class that keeps its arguments as the fields fs -/
structure ExR (P : Program) (w : World) (K : PySem.W.Frag) (mg : Str → Option Value) (base : Heap) (k : Nat) (c : Str) (fs : List Str) : Prop where
  ex : ∃ (f : Addr) (fd : FuncData) (ps : List Str), OexC K (He.ga K c) ∧ PySem.W.findIn K (.ref (He.ga K c)) "__init__" = some (some (.ref f)) ∧ PySem.W.typeIn K (.ref f) = some (.type "function") ∧ FnOk P w K mg base (L2N.CX P w) k f fd ps (spEx (He.ga K c) fs) ∧ Binds K fd ps []
  gl : mg c = some (.ref (He.ga K c))
def sRaise (c : Str) (fs : List Str) (fa : En → Out (List Arg)) (ε : En) : SOut := match fa ε with
  | .ok as ε1 => (match resD ε1 as with
    | some (ds, ε2) => if ds.length = fs.length then .ex c (fs.zip ds).reverse ε2 else .bad
    | none => .bad)
  | .ex c fs ε' => .ex c fs ε'
  | .bad => .bad
section
variable {K : PySem.W.Frag} {F : Hp}
theorem RepF.append : ∀ {xs ys : List (Str × D)} {vs ws : List (Str × V)}, RepF K F xs vs → RepF K F ys ws → RepF K F (xs ++ ys) (vs ++ ws)
  | [], _, _, _, h, r => by rw [show _ = [] from h]; exact r
  | (k, x) :: xs, _, _, _, ⟨v, us, e, h, r⟩, q => by subst e; exact ⟨v, _, rfl, h, RepF.append r q⟩
theorem RepF.reverse : ∀ {xs : List (Str × D)} {vs : List (Str × V)}, RepF K F xs vs → RepF K F xs.reverse vs.reverse
  | [], _, h => by rw [show _ = [] from h]; rfl
  | (k, x) :: xs, _, ⟨v, us, e, h, r⟩ => by
    subst e
    rw [List.reverse_cons, List.reverse_cons]
    exact RepF.append (RepF.reverse r) ⟨v, [], rfl, h, rfl⟩
theorem RepF.zip : ∀ {fs : List Str} {ds : List D} {vs : List V}, Reps K F ds vs → ds.length = fs.length → RepF K F (fs.zip ds) (fs.zip vs)
  | [], _, _, _, _ => rfl
  | f :: fs, [], _, _, h => by cases h
  | f :: fs, d :: ds, _, ⟨v, ws, e, h, r⟩, hl => by subst e; exact ⟨v, _, rfl, h, RepF.zip r (by simpa using hl)⟩
end
section
variable {X : Cx} {W : WX} {fx : Nat → Prop} {e o : Expr} {es : List Expr} {c x : Str} {p pos pos' : Pos}
theorem st_raise {fs : List Str} {k : Nat} {fa : En → Out (List Arg)} (hc : X.calm = true) (tk : L2N.Takes X W) (R : ExR X.prog X.w X.K X.mg X.base k c fs) (hr : Room (k + 1) X.A) (ha : FA X W (e :: es) fa) (hl : fs.length ≤ 900 := by decide) (hg : Gl X c := by rfl)
    (hdb : (c == ("__debug__" : Str)) = false := by decide) (he : starEach (e :: es) X.env = (false, eval e X.env) :: starEach es X.env := by rfl) (hpl : (backTo pos (starEach es X.env)).any (·.1) = false := by rfl) : FS X W fx (.Raise (some (.Call (.Name c p) (e :: es) [] pos)) none pos') (sRaise c fs fa) := by
  obtain ⟨f, fd, ps, T, iC, tI, F1, hb⟩ := R.ex
  obtain ⟨t, p1, q1⟩ := ha.ex
  refine ⟨_, L2N.ps_raise hc tk (pmk_n T iC tI F1 hr hb passN0 hg R.gl p1 hdb he hpl), fun ε σ F H φ Dd ok h => q1 ε σ F H φ _ ok ?_⟩
  unfold sRaise at h
  cases q : fa ε with
  | bad => rw [q] at h; exact h
  | ex c fs ε' => rw [q] at h; exact PostX.toS h
  | ok as ε1 =>
    rw [q] at h
    simp only at h
    intro vs F1' H1 φ1 ok1 st1 r1
    cases q2 : resD ε1 as with
    | none => rw [q2] at h; exact h.elim
    | some z =>
      obtain ⟨ds, ε2⟩ := z
      rw [q2] at h
      simp only at h
      split at h
      case isFalse => exact h.elim
      rename_i hln
      obtain ⟨G, φ2, ok2, st2, r2, l2⟩ := resD_ok ok1 st1 r1 q2
      refine ⟨by rw [r2.length, hln]; omega, fun a ha => ⟨a, vs, by rw [List.append_nil], by rw [r2.length, hln], upd_same, fun dx hdx hne => ⟨rfl, dx, (fs.zip vs).reverse, upd_same, ?_, ?_, ?_⟩⟩⟩
      · rw [upd_ne hne, upd_same]
      · rw [upd_ne hne] at hdx; exact hdx
      · have hdx' : H1 dx = none := by rw [upd_ne hne] at hdx; exact hdx
        have eH : upd (del (upd (upd (upd H1 a (exo a (He.ga X.K c) none)) dx (exd dx (fs.zip vs).reverse)) a (exo a (He.ga X.K c) (some dx))) a) dx (.xd (fs.zip vs).reverse) = upd H1 dx (.xd (fs.zip vs).reverse) := by
          funext b
          by_cases hb : b = dx
          · subst hb; rw [upd_same, upd_same]
          · rw [upd_ne hb, upd_ne hb]
            by_cases hba : b = a
            · subst hba; rw [del_same]; exact ha.symm
            · rw [del_ne hba, upd_ne hba, upd_ne hb, upd_ne hba]
        rw [eH]
        have g := grow_o ok2.sub hdx' (.xd (fs.zip vs).reverse)
        exact h dx _ σ G _ φ2 (ok2.grow g) ((st2.trans g.step).imp fun a z => .inl z) upd_same (RepF.reverse (RepF.zip r2 hln)) Fx.refl
/-! ### the suites: return (.., e.f, .., kin(e), isinstance(e, C)) -/
inductive SE where
  | c (d : D) | f (n : Str) | kin | isi (b : Tg)
def seVal (tab : ITab) (k1 : Str) (c : Str) (fs : List (Str × D)) : SE → Option D
  | .c d => some d
  | .f n => fs.lookup n
  | .kin => match itGet tab (.own c) (.own k1), itGet tab (.own c) (.bi "ValueError") with
    | some a, some b => some (.bl (a && b))
    | _, _ => none
  | .isi b => (itGet tab (.own c) b).map .bl
def seVals (tab : ITab) (k1 : Str) (c : Str) (fs : List (Str × D)) : List SE → Option (List D)
  | [] => some []
  | s :: r => match seVal tab k1 c fs s, seVals tab k1 c fs r with
    | some d, some ds => some (d :: ds)
    | _, _ => none
end
/-- an element of a suite's tuple, slot i the caught error's -/
structure FXE (X : Cx) (tab : ITab) (k1 : Str) (i : Nat) (xs : List Str) (e : Expr) (se : SE) : Prop where
  ex : ∀ (a : Addr) (oe : Obj) (dd : Addr) (c : Str) (pn : List (Addr × Obj)), L2N.Zn (.ref (He.ga X.K c)) (some dd) oe → (∃ vs, oe.data = .fields vs) → c ∈ xs → ∃ t, PE (X.suite a ((a, oe) :: pn)) e t ∧
    ∀ σ F H fs vs d Q, Le F H → σ[i]? = some (some (.ref a)) → H dd = some (.xd vs) → RepF X.K F fs vs → seVal tab k1 c fs se = some d → (∀ v, Rep X.K F d v → Q v H) → t σ H Q
structure FXA (X : Cx) (tab : ITab) (k1 : Str) (i : Nat) (xs : List Str) (es : List Expr) (ses : List SE) : Prop where
  ex : ∀ (a : Addr) (oe : Obj) (dd : Addr) (c : Str) (pn : List (Addr × Obj)), L2N.Zn (.ref (He.ga X.K c)) (some dd) oe → (∃ vs, oe.data = .fields vs) → c ∈ xs → ∃ t, PA (X.suite a ((a, oe) :: pn)) es t ∧
    ∀ σ F H fs vs ds Q, Le F H → σ[i]? = some (some (.ref a)) → H dd = some (.xd vs) → RepF X.K F fs vs → seVals tab k1 c fs ses = some ds → (∀ us, Reps X.K F ds us → Q us H) → t σ H Q
/-- what is known of the exception classes xs: fields may be read, they may be asked for -/
structure XOk (K : PySem.W.Frag) (xs : List Str) (fns : List Str) : Prop where
  xf : ∀ c ∈ xs, XfC K (He.ga K c)
  no : ∀ c ∈ xs, ∀ n ∈ fns, PySem.W.findIn K (.ref (He.ga K c)) n = some none
  xc : ∀ c ∈ xs, L2.ExcC K (He.ga K c)
section
variable {X : Cx} {tab : ITab} {k1 : Str} {i : Nat} {xs fns : List Str} {e : Expr} {es : List Expr} {x n : Str} {p p2 p3 pos : Pos}
theorem fx_str {z : Str} {j : Nat} : FXE X tab k1 i xs (.Constant (.str z) j pos) (.c (.str z)) := ⟨fun a oe dd c pn hz hf hc => ⟨_, pe_str, fun σ F H fs vs d Q l h1 h2 h3 e q => by cases e; exact q _ rfl⟩⟩
theorem fx_int {z : Int} {j : Nat} : FXE X tab k1 i xs (.Constant (.int z) j pos) (.c (.int z)) := ⟨fun a oe dd c pn hz hf hc => ⟨_, pe_int, fun σ F H fs vs d Q l h1 h2 h3 e q => by cases e; exact q _ rfl⟩⟩
theorem fx_bl {z : Bool} {j : Nat} : FXE X tab k1 i xs (.Constant (.bool z) j pos) (.c (.bl z)) := ⟨fun a oe dd c pn hz hf hc => ⟨_, pe_bl, fun σ F H fs vs d Q l h1 h2 h3 e q => by cases e; exact q _ rfl⟩⟩
theorem fx_fld (O : XOk X.K xs fns) (hn : n ∈ fns) (hN : X.N[i]? = some x := by rfl) (hv : Vis X.env.scope x := by first | exact Or.inl rfl | exact Or.inr (Or.inl rfl) | exact Or.inr (Or.inr rfl)) (hd : (x == ("__debug__" : Str)) = false := by decide) (hcd : (x == ("__classdict__" : Str)) = false := by decide)
    (hb : attributeBase (.Name x p) n X.env (eval (.Name x p) X.env) = eval (.Name x p) X.env := by rfl) : FXE X tab k1 i xs (.Attribute (.Name x p) n pos) (.f n) :=
  ⟨fun a oe dd c pn hz hf hc => ⟨_, pe_xf (X := X) (O.xf c hc) (O.no c hc n hn) hz.zc hf (pe_var hN hv hd hcd) hb, fun σ F H fs vs d Q l h1 h2 h3 e q => by
    obtain ⟨v, hv, rv⟩ := RepF.lookup h3 e
    exact ⟨_, h1, rfl, rfl, dd, vs, v, rfl, h2, hv, q v rv⟩⟩⟩
theorem pe_isi_x {a : Addr} {oe : Obj} {dd : Addr} {c : Str} {pn : List (Addr × Obj)} {eb : Expr} {b : Tg} (O : XOk X.K xs fns) (hz : L2N.Zn (.ref (He.ga X.K c)) (some dd) oe) (hf : ∃ vs, oe.data = .fields vs) (hc : c ∈ xs) (hm : X.mg "isinstance" = none) (hg : Gl X "isinstance") (hN : X.N[i]? = some x) (hv : Vis X.env.scope x) (hd : (x == ("__debug__" : Str)) = false) (hcd : (x == ("__classdict__" : Str)) = false)
    (hb : ∃ v, PE (X.suite a ((a, oe) :: pn)) eb (tC v) ∧ ∀ u, RelV v u → u = tgV X.K b) (hs1 : starEach [.Name x p2, eb] X.env = (false, eval (.Name x p2) X.env) :: starEach [eb] X.env) (hs2 : starEach [eb] X.env = (false, eval eb X.env) :: starEach [] X.env) (hp1 : (backTo pos (starEach [eb] X.env)).any (·.1) = false) :
    ∃ t, PE (X.suite a ((a, oe) :: pn)) (.Call (.Name "isinstance" p) [.Name x p2, eb] [] pos) t ∧ ∀ σ H fs r Q, σ[i]? = some (some (.ref a)) → H dd = some (.xd fs) → PySem.W.kitOne X.K (.ref (He.ga X.K c)) (tgV X.K b) = some r → Q (.bl r) H → t σ H Q := by
  obtain ⟨v, hpb, hrel⟩ := hb
  have pv : PE (X.suite a ((a, oe) :: pn)) (.Name x p2) (tVar i) := pe_var hN hv hd hcd
  refine ⟨_, pe_callB (call_isX (X := X.suite a ((a, oe) :: pn)) (O.xc c hc) List.mem_cons_self hz.zc hf) hg hm (by kernel_rfl) (pa_cons pv (pa_cons hpb pa_nil hs2) hs1) (by decide) (by decide) hs1 hp1, fun σ H fs r Q h1 h2 h3 q => ?_⟩
  exact ⟨_, h1, v, _, r, fs, rfl, hrel, h3, h2, q⟩
theorem fx_isiO {b : Str} (O : XOk X.K xs fns) (ht : ItabOk X.K tab) (hmb : X.mg b = some (.ref (He.ga X.K b))) (hm : X.mg "isinstance" = none) (hgb : Gl X b := by rfl) (hdb : (b == ("__debug__" : Str)) = false := by decide) (hg : Gl X "isinstance" := by rfl) (hN : X.N[i]? = some x := by rfl) (hv : Vis X.env.scope x := by first | exact Or.inl rfl | exact Or.inr (Or.inl rfl) | exact Or.inr (Or.inr rfl))
    (hd : (x == ("__debug__" : Str)) = false := by decide) (hcd : (x == ("__classdict__" : Str)) = false := by decide) (hs1 : starEach [.Name x p2, .Name b p3] X.env = (false, eval (.Name x p2) X.env) :: starEach [.Name b p3] X.env := by rfl) (hs2 : starEach [.Name b p3] X.env = (false, eval (.Name b p3) X.env) :: starEach [] X.env := by rfl) (hp1 : (backTo pos (starEach [.Name b p3] X.env)).any (·.1) = false := by rfl) :
    FXE X tab k1 i xs (.Call (.Name "isinstance" p) [.Name x p2, .Name b p3] [] pos) (.isi (.own b)) := by
  refine ⟨fun a oe dd c pn hz hf hc => ?_⟩
  obtain ⟨t, h1, h2⟩ := pe_isi_x (p := p) (p2 := p2) (pos := pos) (b := .own b) (pn := pn) O hz hf hc hm hg hN hv hd hcd ⟨.ref (He.ga X.K b), pe_glob hgb hmb rfl hdb, fun u hu => hu⟩ hs1 hs2 hp1
  refine ⟨t, h1, fun σ F H fs vs d Q l k1 k2 k3 e q => ?_⟩
  have e' : (itGet tab (.own c) (.own b)).map D.bl = some d := e
  cases z : itGet tab (.own c) (.own b) with
  | none => rw [z] at e'; cases e'
  | some r => rw [z] at e'; cases e'; exact h2 σ H vs r Q k1 k2 (itGet_ok ht z) (q _ rfl)
theorem fx_isiB {b : String} {bs : Str} (O : XOk X.K xs fns) (ht : ItabOk X.K tab) (hmb : X.mg bs = none) (hvb : bootBuiltins bs = some (.type b)) (hm : X.mg "isinstance" = none) (hgb : Gl X bs := by rfl) (hnb : bs ≠ "__name__" := by decide) (hdb : (bs == ("__debug__" : Str)) = false := by decide) (hg : Gl X "isinstance" := by rfl) (hN : X.N[i]? = some x := by rfl) (hv : Vis X.env.scope x := by first | exact Or.inl rfl | exact Or.inr (Or.inl rfl) | exact Or.inr (Or.inr rfl))
    (hd : (x == ("__debug__" : Str)) = false := by decide) (hcd : (x == ("__classdict__" : Str)) = false := by decide) (hs1 : starEach [.Name x p2, .Name bs p3] X.env = (false, eval (.Name x p2) X.env) :: starEach [.Name bs p3] X.env := by rfl) (hs2 : starEach [.Name bs p3] X.env = (false, eval (.Name bs p3) X.env) :: starEach [] X.env := by rfl) (hp1 : (backTo pos (starEach [.Name bs p3] X.env)).any (·.1) = false := by rfl) :
    FXE X tab k1 i xs (.Call (.Name "isinstance" p) [.Name x p2, .Name bs p3] [] pos) (.isi (.bi b)) := by
  refine ⟨fun a oe dd c pn hz hf hc => ?_⟩
  obtain ⟨t, h1, h2⟩ := pe_isi_x (p := p) (p2 := p2) (pos := pos) (b := .bi b) (pn := pn) O hz hf hc hm hg hN hv hd hcd ⟨.ty b, pe_bltn hgb hmb hvb rfl hnb hdb, fun u hu => hu⟩ hs1 hs2 hp1
  refine ⟨t, h1, fun σ F H fs vs d Q l k1 k2 k3 e q => ?_⟩
  have e' : (itGet tab (.own c) (.bi b)).map D.bl = some d := e
  cases z : itGet tab (.own c) (.bi b) with
  | none => rw [z] at e'; cases e'
  | some r => rw [z] at e'; cases e'; exact h2 σ H vs r Q k1 k2 (itGet_ok ht z) (q _ rfl)
/-- the law's kin(e) -/
structure KinOk (P : Program) (w : World) (K : PySem.W.Frag) (mg : Str → Option Value) (base : Heap) (k : Nat) (kin k1 : Str) (xs : List Str) : Prop where
  ex : ∃ (f : Addr) (fd : FuncData) (e : Str), mg kin = some (.ref f) ∧ PySem.W.keepIn K (.ref f) = true ∧ Binds K fd [e] [] ∧ ∀ c ∈ xs, ∀ (a dd : Addr) (oe : Obj), Zc (.ref (He.ga K c)) (some dd) oe → (∃ vs, oe.data = .fields vs) → FnP P w K mg base (L2N.CX P w) k f fd [e] (spKin K (He.ga K c) a dd (.ref (He.ga K k1)) (.type "ValueError")) (a, oe)
theorem passK {P : Program} {w : World} {X : Cx} (σ : L2.St) : PassesAt (L2N.CX P w) X σ (fun _ _ _ => False) := fun _ _ _ _ _ _ h => by
  obtain ⟨_, _, _, _, _, _, _, _, _, _, _, _, z⟩ := h
  exact z.elim
theorem fx_kin {k : Nat} {kin : Str} (ht : ItabOk X.K tab) (KO : KinOk X.prog X.w X.K X.mg X.base k kin k1 xs) (hr : Room k X.A) (hg : Gl X kin := by rfl) (hdb : (kin == ("__debug__" : Str)) = false := by decide) (hN : X.N[i]? = some x := by rfl) (hv : Vis X.env.scope x := by first | exact Or.inl rfl | exact Or.inr (Or.inl rfl) | exact Or.inr (Or.inr rfl))
    (hd : (x == ("__debug__" : Str)) = false := by decide) (hcd : (x == ("__classdict__" : Str)) = false := by decide) (he : starEach [.Name x p2] X.env = (false, eval (.Name x p2) X.env) :: starEach [] X.env := by rfl) (hpl : (backTo pos (starEach [] X.env)).any (·.1) = false := by rfl) : FXE X tab k1 i xs (.Call (.Name kin p) [.Name x p2] [] pos) .kin := by
  refine ⟨fun a oe dd c pn hz hf hc => ?_⟩
  obtain ⟨f, fd, en, h1, h2, h3, h4⟩ := KO.ex
  have hot : L2H.Hot1 (X.suite a ((a, oe) :: pn)).A (a, oe) := by
    obtain ⟨vs, hvs⟩ := hf
    exact ⟨rfl, vs, hvs, hz.2.2 vs hvs⟩
  have pv : PE (X.suite a ((a, oe) :: pn)) (.Name x p2) (tVar i) := pe_var hN hv hd hcd
  refine ⟨_, pe_callP (X := X.suite a ((a, oe) :: pn)) (E := fun _ _ _ _ => False) (h4 c hc a dd oe hz.zc hf) (L2H.roomH_mark hr _) hot List.mem_cons_self hg h1 h2 h3 passK (pa_cons pv pa_nil he) hdb he hpl, fun σ F H fs vs d Q l g1 g2 g3 e q => ?_⟩
  have e' : (match itGet tab (.own c) (.own k1), itGet tab (.own c) (.bi "ValueError") with
    | some a, some b => some (D.bl (a && b))
    | _, _ => none) = some d := e
  split at e'
  · rename_i r1 r2 z1 z2
    cases e'
    exact ⟨_, g1, rfl, r1, r2, vs, itGet_ok ht z1, itGet_ok ht z2, g2, q _ rfl⟩
  · cases e'
theorem fxa_nil : FXA X tab k1 i xs [] [] := ⟨fun a oe dd c pn hz hf hc => ⟨_, pa_nil, fun σ F H fs vs ds Q l h1 h2 h3 e q => by cases e; exact q [] rfl⟩⟩
theorem fxa_cons {se : SE} {ses : List SE} (h : FXE X tab k1 i xs e se) (r : FXA X tab k1 i xs es ses) (hs : starEach (e :: es) X.env = (false, eval e X.env) :: starEach es X.env := by rfl) : FXA X tab k1 i xs (e :: es) (se :: ses) := by
  refine ⟨fun a oe dd c pn hz hf hc => ?_⟩
  obtain ⟨t, p1, q1⟩ := h.ex a oe dd c pn hz hf hc
  obtain ⟨u, p2, q2⟩ := r.ex a oe dd c pn hz hf hc
  refine ⟨_, pa_cons p1 p2 hs, fun σ F H fs vs ds Q l h1 h2 h3 e q => ?_⟩
  unfold seVals at e
  split at e
  · rename_i d ds' z1 z2
    cases e
    exact q1 σ F H fs vs d _ l h1 h2 h3 z1 fun v rv => q2 σ F H fs vs ds' _ l h1 h2 h3 z2 fun us rs => q _ ⟨v, us, rfl, rv, rs⟩
  · cases e
end
/-- a suite: what it does with the caught error of class c, fields fs; slot i is the error's -/
structure FX (X : Cx) (fx : Nat → Prop) (i : Nat) (xs : List Str) (suite : List Stmt) (g : Str → List (Str × D) → En → SOut) : Prop where
  ex : ∀ (a : Addr) (oe : Obj) (dd : Addr) (c : Str) (pn : List (Addr × Obj)), L2N.Zn (.ref (He.ga X.K c)) (some dd) oe → (∃ vs, oe.data = .fields vs) → c ∈ xs → ∃ t, PSs (X.suite a ((a, oe) :: pn)) suite t ∧
    ∀ ε σ F H φ vs fs D, EnvOk X.K F H ε σ φ → (∀ m, ε[i]? ≠ some (some m)) → σ[i]? = some (some (.ref a)) → H dd = some (.xd vs) → RepF X.K F fs vs → PostS X.K WN fx σ F H (Own φ) D (g c fs ε) → t D σ H
def xRet (tab : ITab) (k1 : Str) (ses : List SE) (c : Str) (fs : List (Str × D)) (ε : En) : SOut := match seVals tab k1 c fs ses with
  | some ds => if ds.length ≤ lim then .rt (.d (.tup ds)) ε else .bad
  | none => .bad
def xRetC (d : D) (_ : Str) (_ : List (Str × D)) (ε : En) : SOut := .rt (.d d) ε
section
variable {X : Cx} {fx : Nat → Prop} {tab : ITab} {k1 : Str} {i : Nat} {xs : List Str} {e : Expr} {es : List Expr} {pos pos' : Pos}
theorem fx_ret {ses : List SE} {k} (h : FXA X tab k1 i xs es ses) : FX X fx i xs [.Return (some (.Tuple es k pos)) pos'] (xRet tab k1 ses) := by
  refine ⟨fun a oe dd c pn hz hf hc => ?_⟩
  obtain ⟨t, p1, q1⟩ := h.ex a oe dd c pn hz hf hc
  refine ⟨_, pss_one (ps_ret (pe_tup p1)), fun ε σ F H φ vs fs Dd ok hi h1 h2 h3 k => ?_⟩
  unfold xRet at k
  cases z : seVals tab k1 c fs ses with
  | none => rw [z] at k; exact k.elim
  | some ds =>
    rw [z] at k
    simp only at k
    split at k
    case isFalse => exact k.elim
    rename_i hl
    refine q1 σ F H fs vs ds _ ok.sub h1 h2 h3 z fun us rs => ⟨by rw [← lim_eq, rs.length]; exact hl, newT_ok ok.sub (fun v F' H' s g r nd => ?_) rs⟩
    exact k v σ F' H' φ s (ok.grow g) g.step r nd (fun a ha => ⟨(g.s a ha).2, fun i hi => ok.tr hi (g.s a ha).1⟩) Fx.refl
/-! ### try -/
def tFSs (K : PySem.W.Frag) (fx : Nat → Prop) (f : En → SOut) (W : WX) : TS := fun D σ H => ∃ ε F φ, EnvOk K F H ε σ φ ∧ PostS K W fx σ F H (Own φ) D (f ε)
theorem FSs.pss {W : WX} {sts : List Stmt} {f : En → SOut} (h : FSs X W fx sts f) : PSs X sts (tFSs X.K fx f W) := by
  obtain ⟨t, h1, h2⟩ := h.ex
  exact ⟨fun pins s σ H D I ⟨ε, F, φ, ok, p⟩ => h1.run pins s σ H D I (h2 ε σ F H φ D ok p)⟩
def tFX (K : PySem.W.Frag) (fx : Nat → Prop) (i : Nat) (xs : List Str) (g : Str → List (Str × D) → En → SOut) : TSu := fun a cls d D σ H => ∃ (c : Str) (dd : Addr) (vs : List (Str × V)) (fs : List (Str × FL.D)) (ε : En) (F : Hp) (φ : Nat → List Addr),
  cls = .ref (He.ga K c) ∧ d = some dd ∧ c ∈ xs ∧ EnvOk K F H ε σ φ ∧ (∀ m, ε[i]? ≠ some (some m)) ∧ σ[i]? = some (some (.ref a)) ∧ H dd = some (.xd vs) ∧ RepF K F fs vs ∧ PostS K WN fx σ F H (Own φ) D (g c fs ε)
theorem FX.pss {suite : List Stmt} {g : Str → List (Str × D) → En → SOut} (h : FX X fx i xs suite g) (a : Addr) (oe : Obj) (cls : Value) (d : Option Addr) (pn : List (Addr × Obj)) (hz : L2N.Zn cls d oe) (hf : ∃ vs, oe.data = .fields vs) : PSs (X.suite a ((a, oe) :: pn)) suite (tFX X.K fx i xs g a cls d) := by
  refine ⟨fun pins s σ H D I k => ?_⟩
  obtain ⟨c, dd, vs, fs, ε, F, φ, rfl, rfl, hc, ok, hi, h1, h2, h3, p⟩ := k
  obtain ⟨t, p1, q1⟩ := h.ex a oe dd c pn hz hf hc
  exact p1.run pins s σ H D I (q1 ε σ F H φ vs fs D ok hi h1 h2 h3 p)
/-- the clauses: the class, the name's slot, what the suite does -/
abbrev Clause := Str × Nat × (Str → List (Str × D) → En → SOut)
def sEnd (i : Nat) : SOut → SOut
  | .nx ε => .nx (ε.set i none)
  | .bk ε => .bk (ε.set i none)
  | .ct ε => .ct (ε.set i none)
  | .rt m ε => .rt m ε
  | .ex _ _ _ => .bad
  | .bad => .bad
/-- et: which class meets which clause -/
abbrev XTab := List (Str × Str × Bool)
def xtGet : XTab → Str → Str → Option Bool
  | [], _, _ => none
  | (a, b, r) :: l, x, y => if a = x ∧ b = y then some r else xtGet l x y
abbrev XtabOk (K : PySem.W.Frag) (et : XTab) : Prop := ∀ q ∈ et, PySem.W.exmOne K (.ref (He.ga K q.1)) (.ref (He.ga K q.2.1)) = some q.2.2
theorem xtGet_ok {K : PySem.W.Frag} : ∀ {et : XTab}, XtabOk K et → ∀ {a b : Str} {r : Bool}, xtGet et a b = some r → PySem.W.exmOne K (.ref (He.ga K a)) (.ref (He.ga K b)) = some r
  | [], _, _, _, _, h => by cases h
  | (a, b, r) :: l, k, x, y, z, h => by
    unfold xtGet at h
    split at h
    · rename_i e
      cases h
      obtain ⟨e1, e2⟩ := e
      subst e1; subst e2
      exact k _ List.mem_cons_self
    · exact xtGet_ok (fun q hq => k q (List.mem_cons_of_mem _ hq)) h
def hTry (et : XTab) (xs : List Str) : List Clause → Str → List (Str × D) → En → SOut
  | [], c, fs, ε => .ex c fs ε
  | (C, i, g) :: r, c, fs, ε => match xtGet et c C with
    | some true => if c ∈ xs then (match ε[i]? with
      | some none => sEnd i (g c fs ε)
      | _ => .bad) else .bad
    | some false => hTry et xs r c fs ε
    | none => .bad
def sTry (et : XTab) (xs : List Str) (f : En → SOut) (hs : List Clause) (ε : En) : SOut := match f ε with
  | .ex c fs ε' => hTry et xs hs c fs ε'
  | o => o
/-- the clauses of a try -/
inductive HdsF (X : Cx) (fx : Nat → Prop) (xs : List Str) : List ExceptHandler → List Clause → Prop
  | nil : HdsF X fx xs [] []
  | cons {x n : Str} {i : Nat} {b₀ : Stmt} {suite : List Stmt} {np pos' : Pos} {hds : List ExceptHandler} {l : List Clause} {g : Str → List (Str × D) → En → SOut} (hfx : ¬ fx i) (hm : X.mg x = some (.ref (He.ga X.K x))) (hg : Gl X x) (hdb : (x == ("__debug__" : Str)) = false) (hi : X.N[i]? = some n) (hln : X.env.kindOf n = some .local)
      (hs : FX X fx i xs (b₀ :: suite) g) (r : HdsF X fx xs hds l) : HdsF X fx xs (.ExceptHandler (some (.Name x np)) (some n) (b₀ :: suite) pos' :: hds) ((x, i, g) :: l)
def clsL (K : PySem.W.Frag) (fx : Nat → Prop) (xs : List Str) : List Clause → List (Option Nat × Value × TSu)
  | [] => []
  | (x, i, g) :: r => (some i, .ref (He.ga K x), tFX K fx i xs g) :: clsL K fx xs r
theorem HdsF.cls {hds : List ExceptHandler} {l : List Clause} (h : HdsF X fx xs hds l) : ClsOk X hds (clsL X.K fx xs l) := by
  induction h with
  | nil => exact .nil
  | cons hfx hm hg hdb hi hln hs r ih => exact .as ⟨hg, hdb, .inl hm⟩ hi hln (fun a oe cls d pn hz hf => hs.pss a oe cls d pn hz hf) ih
theorem EnvOk.sset {K : PySem.W.Frag} {F H : Hp} {ε : En} {σ : L2.St} {φ : Nat → List Addr} (ok : EnvOk K F H ε σ φ) {i : Nat} (hi : ∀ m, ε[i]? ≠ some (some m)) (o : Option V) : EnvOk K F H ε (σ.set i o) φ :=
  ⟨ok.sub, by rw [List.length_set]; exact ok.len, fun j m hj => by
    obtain ⟨v, hv, r⟩ := ok.slot j m hj
    exact ⟨v, by rw [List.getElem?_set_ne (fun z : i = j => hi m (z ▸ hj))]; exact hv, r⟩, ok.emp, ok.nd, ok.dj, ok.off⟩
/-- the ends behind a clause -/
theorem PostS.clause {K : PySem.W.Frag} {σ : L2.St} {F H : Hp} {P : Addr → Prop} {De : Ends} {a : Addr} (hfx : ¬ fx i) {o : SOut} (h : PostS K WN fx σ F H P De (sEnd i o)) : PostS K WN fx (σ.set i (some (.ref a))) F H P (nmE (some i) De) o := by
  have back : ∀ {σ' : L2.St}, Fx fx (σ.set i (some (.ref a))) σ' → Fx fx σ σ' := fun {σ'} q j hj => (q j hj).trans (by rw [List.getElem?_set_ne (fun z : i = j => hfx (z ▸ hj))])
  have back2 : ∀ {σ' : L2.St}, Fx fx σ σ' → Fx fx σ (σ'.set i none) := fun {σ'} q j hj => by rw [List.getElem?_set_ne (fun z : i = j => hfx (z ▸ hj))]; exact q j hj
  have dropS : ∀ {ε' : En} {σ' : L2.St} {F' H' : Hp} {φ' : Nat → List Addr}, EnvOk K F' H' ε' σ' φ' → EnvOk K F' H' (ε'.set i none) (σ'.set i none) (fun j => if j = i then [] else φ' j) := fun {ε' σ' F' H' φ'} ok => (ok.drop i).sset (fun m z => by
      by_cases hl : i < ε'.length
      · rw [List.getElem?_set_self hl] at z; cases z
      · rw [List.getElem?_eq_none (by rw [List.length_set]; omega)] at z; cases z) none
  cases o with
  | nx ε' => exact fun σ' F' H' φ' ok st q => h _ F' H' _ (dropS ok) (st.imp fun a z => drop_own z) (back2 (back q))
  | bk ε' => exact fun σ' F' H' φ' ok st q => h _ F' H' _ (dropS ok) (st.imp fun a z => drop_own z) (back2 (back q))
  | ct ε' => exact fun σ' F' H' φ' ok st q => h _ F' H' _ (dropS ok) (st.imp fun a z => drop_own z) (back2 (back q))
  | rt m ε' => exact fun v σ' F' H' φ' s ok st r nd off q => h v σ' F' H' φ' s ok st r nd off (back q)
  | ex c fs ε' => exact h.elim
  | bad => exact h
theorem hTry_ok {W : WX} {et : XTab} (het : XtabOk X.K et) {De : Ends} {hds : List ExceptHandler} {l : List Clause} (h : HdsF X fx xs hds l) : ∀ {c : Str} {fs : List (Str × D)} {ε' : En} {σ : L2.St} {F H : Hp} {P : Addr → Prop}, PostS X.K W fx σ F H P De (hTry et xs l c fs ε') →
    ∀ dx vs σ' F' H' φ', EnvOk X.K F' H' ε' σ' φ' → Step F H P F' H' (Own φ') → H' dx = some (.xd vs) → RepF X.K F' fs vs → Fx fx σ σ' → wCl X.K W De (clsL X.K fx xs l) (.ref (He.ga X.K c)) (some dx) σ' H' := by
  induction h with
  | nil => intro c fs ε' σ F H P h dx vs σ' F' H' φ' ok st e r q; exact h dx vs σ' F' H' φ' ok st e r q
  | @cons x n i b₀ suite np pos' hds l g hfx hm hg hdb hi hln hs r ih =>
    intro c fs ε' σ F H P h dx vs σ' F' H' φ' ok st e rf q
    unfold hTry at h
    cases z : xtGet et c x with
    | none => rw [z] at h; exact h.elim
    | some b =>
      rw [z] at h
      cases b with
      | false => exact ⟨false, xtGet_ok het z, (fun k => by cases k), fun _ => ih h dx vs σ' F' H' φ' ok st e rf q⟩
      | true =>
        simp only at h
        split at h
        case isFalse => exact h.elim
        rename_i hc
        split at h
        case h_2 => exact h.elim
        rename_i hslot
        have hno : ∀ m, ε'[i]? ≠ some (some m) := fun m z => by rw [hslot] at z; cases z
        refine ⟨true, xtGet_ok het z, fun _ a ha => ?_, fun k => by cases k⟩
        have lt : i < σ'.length := by rw [← ok.len]; exact (List.getElem?_eq_some_iff.mp hslot).1
        refine ⟨c, dx, vs, fs, ε', F', φ', rfl, rfl, hc, ok.sset hno _, hno, List.getElem?_set_self lt, e, rf, ?_⟩
        have h' : PostS X.K WN fx σ' F' H' (Own φ') De (sEnd i (g c fs ε')) := by
          have h1 := PostS.step st q h
          cases zg : g c fs ε' with
          | ex c2 fs2 ε2 => rw [zg] at h1; exact h1
          | nx ε2 => rw [zg] at h1; exact h1
          | bk ε2 => rw [zg] at h1; exact h1
          | ct ε2 => rw [zg] at h1; exact h1
          | rt m ε2 => rw [zg] at h1; exact h1
          | bad => rw [zg] at h1; exact h1
        exact PostS.clause hfx h'
theorem st_try {W : WX} {et : XTab} {h₀ : ExceptHandler} {hds : List ExceptHandler} {body : List Stmt} {f : En → SOut} {hs : List Clause} (het : XtabOk X.K et) (hst : X.stack = X.env :: X.outer) (hfr : X.env.frame = some X.env.locals) (hN : X.N.Nodup) (tk : L2N.Takes X W)
    (hb : ∀ (W' : WX) (pn : List (Addr × Obj)) (xe : Value → Shared → Prop), L2N.Takes (X.tr pn xe) W' → PassesOwn (model X.prog X.w) X.A X.env xe → FSs (X.tr pn xe) W' fx body f) (hh : HdsF X fx xs (h₀ :: hds) hs) : FS X W fx (.Try body (h₀ :: hds) [] [] pos) (sTry et xs f hs) := by
  refine ⟨_, ps_try_cls (tb := fun W' => tFSs X.K fx f W') hst hfr hN tk (fun W' pn xe t p => (hb W' pn xe t p).pss) hh.cls, fun ε σ F H φ De ok h => ⟨ε, F, φ, ok, ?_⟩⟩
  unfold sTry at h
  cases q : f ε with
  | ex c fs ε' =>
    rw [q] at h
    exact fun dx vs σ' F' H' φ' ok' st e r fxx => hTry_ok het hh h dx vs σ' F' H' φ' ok' st e r fxx
  | nx ε' => rw [q] at h; exact h
  | bk ε' => rw [q] at h; exact h
  | ct ε' => rw [q] at h; exact h
  | rt m ε' => rw [q] at h; exact h
  | bad => rw [q] at h; exact h
end
end FL
namespace FL
open PySem PySem.Spec PyProof.Rows L2
/-! ### enumerate, zip over lists and tuples in any mix (false: list, true: tuple) -/
def SqB (K : PySem.W.Frag) (b : Bool) (H : Hp) (a : Addr) (xs : List V) : Prop := match b with
  | true => SqT K H a xs
  | false => SqL K H a xs
def SrcB (b : Bool) (h : Heap) (a : Addr) (its : Array Value) : Prop := match b with
  | true => h.IsTuple a its
  | false => h.IsList a its
def IterB (b : Bool) (h : Heap) (it a : Addr) (i : Nat) : Prop := match b with
  | true => h.IsTupleIter it a i
  | false => h.IsListIter it a i
def itObj (b : Bool) (a : Addr) : Obj := match b with
  | true => { cls := .type "tuple_iterator", data := .fields #[.ref a, .int 0 0] }
  | false => { cls := .type "list_iterator", data := .fields #[.ref a, .int 0 0] }
section
variable {X : Cx} {pins : List (Addr × Obj)} {σ : L2.St} {H : Hp} {s : Shared} {b : Bool} {a : Addr} {xs : List V}
theorem srcB (I : Inv X pins σ H s) (h : SqB X.K b H a xs) : ∃ its : List Value, Vals xs its ∧ SrcB b s.heap a its.toArray := by
  cases b with
  | true => obtain ⟨its, rv, p, _⟩ := I.tuple h; exact ⟨its, rv, p⟩
  | false => obtain ⟨its, rv, p, _⟩ := I.list h; exact ⟨its, rv, p.isList⟩
theorem sqB_inj (I : Inv X pins σ H s) {ys : List V} (h : SqB X.K b H a xs) (h' : SqB X.K b H a ys) : xs = ys := by
  cases b with
  | true => exact I.tuple_inj h h'
  | false => exact I.list_inj h h'
theorem SrcB.lt {h : Heap} {its : Array Value} (p : SrcB b h a its) : a < h.objs.size := by
  cases b with
  | true => obtain ⟨o, ho, _⟩ := p; exact Heap.lt_size ho
  | false => obtain ⟨o, ho, _⟩ := p; exact Heap.lt_size ho
theorem IterB.at' {h h' : Heap} {it : Addr} {i : Nat} (p : IterB b h it a i) (k : ∀ o, h.get? it = some o → h'.get? it = some o) : IterB b h' it a i := by
  cases b with
  | true => obtain ⟨o, ho, r⟩ := p; exact ⟨o, k o ho, r⟩
  | false => obtain ⟨o, ho, r⟩ := p; exact ⟨o, k o ho, r⟩
theorem IterB.ob {h : Heap} {it : Addr} {i : Nat} (p : IterB b h it a i) : ∃ o, h.get? it = some o ∧ ∀ v, o.data ≠ .cell v := by
  cases b with
  | true => obtain ⟨o, ho, _, hd⟩ := p; exact ⟨o, ho, fun v z => by rw [hd] at z; cases z⟩
  | false => obtain ⟨o, ho, _, hd⟩ := p; exact ⟨o, ho, fun v z => by rw [hd] at z; cases z⟩
theorem IterB.new {h : Heap} {it : Addr} (e : h.get? it = some (itObj b a)) : IterB b h it a 0 := by
  cases b with
  | true => exact ⟨_, e, rfl, rfl⟩
  | false => exact ⟨_, e, rfl, rfl⟩
theorem drawsB {prog : Program} {w : World} {A : Around} (hh : A.handled = none) (b : Bool) (it a : Addr) (hne : a ≠ it) (items : Array Value) :
    Draws prog w A it [it, a] items.size (fun i v => items[i]? = some v) (fun i h => IterB b h it a i ∧ SrcB b h a items) := by
  cases b with
  | true => exact Draws.tuple hh it a hne items
  | false => exact Draws.list hh it a hne items
theorem beginsB (b : Bool) (a : Addr) (items : Array Value) : Begins (.ref a) (itObj b a) (fun h => SrcB b h a items) := by
  cases b with
  | true => exact begins_tuple a items
  | false => exact begins_list a items
end
/-- enumerate's turns -/
def IteB (K : PySem.W.Frag) (b : Bool) (a : Addr) : It :=
  ⟨fun i H => ∃ (xs : List V) (x : V), SqB K b H a xs ∧ xs[i]? = some x, fun i H v H' => ∃ T x, v = .ref T ∧ H T = none ∧ H' = upd H T (.tup [.int (i : Nat), x]) ∧ ∀ xs, SqB K b H a xs → xs[i]? = some x, fun i H => ∃ xs : List V, SqB K b H a xs ∧ xs.length = i⟩
theorem turn_enB {P : Program} {w : World} {K : PySem.W.Frag} {elts : List Expr} {kk : Nat} {tpos : Pos} (b : Bool) (a e it : Addr) (hai : a ≠ it) (hei : e ≠ it) (hea : e ≠ a) :
    Turn P w K (.Tuple elts kk tpos) (IteB K b a) [e, it] e (fun i h => (∃ old, IsEnum h e it ((i : Nat) : Int) old) ∧ IterB b h it a i) where
  mem := by simp
  obj := fun i h st c hb => by
    obtain ⟨⟨old, he⟩, hi⟩ := st
    have e' : c = e ∨ c = it := by simpa using hb
    rcases e' with z | z
    · rw [z]; exact ⟨_, he, fun v q => nomatch q⟩
    · rw [z]; exact hi.ob
  keep := fun i h h' st k => by
    obtain ⟨⟨old, he⟩, hi⟩ := st
    exact ⟨⟨old, k e (by simp) _ he⟩, hi.at' fun o q => k it (by simp) o q⟩
  item := by
    intro X hP hw hK hc i pins s σ H E I hf st hg
    subst hP hw hK
    obtain ⟨⟨old, he⟩, hit⟩ := st
    obtain ⟨xs, x, hq, hx⟩ := hg
    obtain ⟨its, rv, p⟩ := srcB I hq
    obtain ⟨u, hu, ru⟩ := rv.get hx
    have hel : e < s.heap.objs.size := Heap.lt_size he
    have hil : it < s.heap.objs.size := by obtain ⟨o, q, _⟩ := hit.ob; exact Heap.lt_size q
    have D := drawsB (prog := X.prog) (w := X.w) (A := X.A.in1) (I.ok.hd hc) b it a hai its.toArray
    refine wpAny_pyNext_enum_itemD D he ⟨hit, p⟩ (by rw [List.size_toArray]; exact (List.getElem?_eq_some_iff.mp hu).1) hei (by simp [hei, hea]) fun y h' tk hy ho hst hT hsz hk => ?_
    have ey : y = u := by
      have hy' : its[i]? = some y := by simpa using hy
      rw [hu] at hy'
      exact (Option.some.inj hy').symm
    subst ey
    refine ⟨_, rfl, wpAny_letOwnedTupleGo_enum (s := { s with heap := h', toks := tk + 1 }) ho fun h'' he' sb => ?_⟩
    have hT2 : h''.get? s.heap.objs.size = some { cls := .type "tuple", data := .seq #[.int i tk, y] } := (sb.2 _ (Nat.ne_of_gt hel)).trans hT
    have new : ObjOk X.prog X.w (upd H s.heap.objs.size (.tup [.int (i : Nat), x])) h'' s.heap.objs.size (.tup [.int (i : Nat), x]) :=
      ⟨by show 2 ≤ sizeLine; decide, [.int i tk, y], .cons ⟨_, rfl⟩ (.cons ru .nil), ⟨_, hT2, rfl, _, rfl⟩⟩
    have I1 : Inv X pins σ (upd H s.heap.objs.size (.tup [.int (i : Nat), x])) { s with heap := h'', toks := tk + 1 } :=
      I.turnedNew (ch := [e, it]) (fun c ob hb q => (sb.2 c (fun z => hb (by simp [z]))).trans (hk c ob (fun z => hb (by simp [z])) (fun z => hb (by simp [z])) q)) hf (Nat.le_refl _) new
    refine ⟨.ref s.heap.objs.size, _, I1, rfl, ⟨_, x, rfl, I.hok.fresh (Nat.le_refl _), rfl, fun ys hy => by rw [sqB_inj I hy hq]; exact hx⟩, ⟨⟨y, ?_⟩, hst.1.at' fun o q => (sb.2 it (Ne.symm hei)).trans q⟩, fun c hb => ?_⟩
    · have e1 : ((i + 1 : Nat) : Int) = (i : Int) + 1 := by omega
      rw [e1]; exact he'
    · have hb' : c < s.heap.objs.size := by
        have e' : c = e ∨ c = it := by simpa using hb
        rcases e' with z | z
        · rw [z]; exact hel
        · rw [z]; exact hil
      rw [upd_ne (Nat.ne_of_lt hb')]
      exact (hf c hb).1
  done := by
    intro X hP hw hK hc i pins s σ H E I hf st hg
    subst hP hw hK
    obtain ⟨⟨old, he⟩, hit⟩ := st
    obtain ⟨xs, hq, hx⟩ := hg
    obtain ⟨its, rv, p⟩ := srcB I hq
    obtain ⟨f0, f1, f2, f3, f4, f5⟩ := hf it (by simp)
    have hl := rv.length
    have D := drawsB (prog := X.prog) (w := X.w) (A := X.A.in1) (I.ok.hd hc) b it a hai its.toArray
    have hn : its.toArray.size = i := by rw [List.size_toArray]; omega
    exact wpAny_pyNext_enum_endD D he (by rw [hn]; exact ⟨hit, p⟩) fun h' eb => ⟨rfl, I.turned (t' := s.toks) (fun c o hb q => eb c o hb q) f0 f1 f3 f4 f5⟩
  self := fun A i s Q E st h => let ⟨⟨_, he⟩, _⟩ := st; wpAny_pyIter_enum he h
/-- zip's turns -/
def ItzB (K : PySem.W.Frag) (b c : Bool) (p q : Addr) : It :=
  ⟨fun i H => ∃ (xs ys : List V) (x y : V), SqB K b H p xs ∧ SqB K c H q ys ∧ xs[i]? = some x ∧ ys[i]? = some y,
    fun i H v H' => ∃ T x y, v = .ref T ∧ H T = none ∧ H' = upd H T (.tup [x, y]) ∧ (∀ xs, SqB K b H p xs → xs[i]? = some x) ∧ ∀ ys, SqB K c H q ys → ys[i]? = some y,
    fun i H => ∃ xs ys : List V, SqB K b H p xs ∧ SqB K c H q ys ∧ i ≤ xs.length ∧ i ≤ ys.length ∧ (i = xs.length ∨ i = ys.length)⟩
theorem turn_ziB {P : Program} {w : World} {K : PySem.W.Frag} {elts : List Expr} {kk : Nat} {tpos : Pos} (b c : Bool) {p q z TI TO i1 i2 : Addr} (hp : p ≠ i1) (hq : q ≠ i2) (S : ZipSep2 z TI TO i1 i2 [i1, p] [i2, q]) :
    Turn P w K (.Tuple elts kk tpos) (ItzB K b c p q) [z, TI, TO, i1, i2] z (fun i h => IsZip h z TI TO .none ∧ IsTupOf2 h TI (.ref i1) (.ref i2) ∧ (∃ x y, IsTupOf2 h TO x y) ∧ IterB b h i1 p i ∧ IterB c h i2 q i) where
  mem := by simp
  obj := fun i h st d hc => by
    obtain ⟨hz, hTI, ⟨x, y, hTO⟩, h1, h2⟩ := st
    have e' : d = z ∨ d = TI ∨ d = TO ∨ d = i1 ∨ d = i2 := by simpa using hc
    rcases e' with q | q | q | q | q
    · rw [q]; exact ⟨_, hz, fun v q => nomatch q⟩
    · rw [q]; exact ⟨_, hTI, fun v q => nomatch q⟩
    · rw [q]; exact ⟨_, hTO, fun v q => nomatch q⟩
    · rw [q]; exact h1.ob
    · rw [q]; exact h2.ob
  keep := fun i h h' st k => by
    obtain ⟨hz, hTI, ⟨x, y, hTO⟩, h1, h2⟩ := st
    exact ⟨k z (by simp) _ hz, k TI (by simp) _ hTI, ⟨x, y, k TO (by simp) _ hTO⟩, h1.at' fun o q => k i1 (by simp) o q, h2.at' fun o q => k i2 (by simp) o q⟩
  item := by
    intro X hP hw hK hcl i pins s σ H E I hf st hg
    subst hP hw hK
    obtain ⟨hz, hTI, ⟨x0, y0, hTO⟩, h1, h2⟩ := st
    obtain ⟨xs, ys, x, y, hqx, hqy, hx, hy⟩ := hg
    obtain ⟨its, rv, p1⟩ := srcB I hqx
    obtain ⟨its2, rv2, p2⟩ := srcB I hqy
    obtain ⟨u, hu, ru⟩ := rv.get hx
    obtain ⟨u2, hu2, ru2⟩ := rv2.get hy
    have hzl : z < s.heap.objs.size := Heap.lt_size hz
    have D1 := drawsB (prog := X.prog) (w := X.w) (A := X.A.in1) (I.ok.hd hcl) b i1 p hp its.toArray
    have D2 := drawsB (prog := X.prog) (w := X.w) (A := X.A.in1) (I.ok.hd hcl) c i2 q hq its2.toArray
    refine wpAny_pyNext_zipD2_item S D1 D2 hz hTI hTO ⟨h1, p1⟩ ⟨h2, p2⟩ (by rw [List.size_toArray]; exact (List.getElem?_eq_some_iff.mp hu).1) (by rw [List.size_toArray]; exact (List.getElem?_eq_some_iff.mp hu2).1) fun v1 v2 h' tk hv1 hv2 z' TO' hs1 hs2 hT hsz hk => ?_
    have e1 : v1 = u := by
      have hy' : its[i]? = some v1 := by simpa using hv1
      rw [hu] at hy'
      exact (Option.some.inj hy').symm
    have e2 : v2 = u2 := by
      have hy' : its2[i]? = some v2 := by simpa using hv2
      rw [hu2] at hy'
      exact (Option.some.inj hy').symm
    subst e1 e2
    refine ⟨_, rfl, wpAny_letOwnedTupleGo_zip (s := { s with heap := h', toks := tk }) z' fun h'' z'' sb => ?_⟩
    have hT2 : h''.get? s.heap.objs.size = some { cls := .type "tuple", data := .seq #[v1, v2] } := (sb.2 _ (Nat.ne_of_gt hzl)).trans hT
    have new : ObjOk X.prog X.w (upd H s.heap.objs.size (.tup [x, y])) h'' s.heap.objs.size (.tup [x, y]) :=
      ⟨by show 2 ≤ sizeLine; decide, [v1, v2], .cons ru (.cons ru2 .nil), ⟨_, hT2, rfl, _, rfl⟩⟩
    have hi1z : i1 ≠ z := fun e => S.zf1 (e ▸ S.mem1)
    have hi2z : i2 ≠ z := fun e => S.zf2 (e ▸ S.mem2)
    have hTIi2 := S.TIi2
    have I1 : Inv X pins σ (upd H s.heap.objs.size (.tup [x, y])) { s with heap := h'', toks := tk } :=
      I.turnedNew (t' := tk) (ch := [z, TI, TO, i1, i2]) (fun d o hb q => (sb.2 d (fun q' => hb (by simp [q']))).trans (hk d o (fun q' => hb (by simp [q'])) (fun q' => hb (by simp [q'])) (fun q' => hb (by simp [q'])) (fun q' => hb (by simp [q'])) q)) hf (Nat.le_refl _) new
    refine ⟨.ref s.heap.objs.size, _, I1, rfl, ⟨_, x, y, rfl, I.hok.fresh (Nat.le_refl _), rfl, fun l hl => by rw [sqB_inj I hl hqx]; exact hx, fun l hl => by rw [sqB_inj I hl hqy]; exact hy⟩, ⟨z'', ?_, ⟨v1, v2, ?_⟩, ?_, ?_⟩, fun d hcm => ?_⟩
    · exact (sb.2 _ S.TIz).trans (hk _ _ S.TIz S.TITO S.TIi1 hTIi2 hTI)
    · exact (sb.2 _ S.TOz).trans TO'
    · exact hs1.1.at' fun o q => (sb.2 _ hi1z).trans q
    · exact hs2.1.at' fun o q => (sb.2 _ hi2z).trans q
    · have hlt : d < s.heap.objs.size := by
        have e' : d = z ∨ d = TI ∨ d = TO ∨ d = i1 ∨ d = i2 := by simpa using hcm
        rcases e' with q | q | q | q | q
        · rw [q]; exact hzl
        · rw [q]; exact Heap.lt_size hTI
        · rw [q]; exact Heap.lt_size hTO
        · rw [q]; obtain ⟨_, e1, _⟩ := h1.ob; exact Heap.lt_size e1
        · rw [q]; obtain ⟨_, e2, _⟩ := h2.ob; exact Heap.lt_size e2
      rw [upd_ne (Nat.ne_of_lt hlt)]
      exact (hf d hcm).1
  done := by
    intro X hP hw hK hcl i pins s σ H E I hf st hg
    subst hP hw hK
    obtain ⟨hz, hTI, ⟨x0, y0, hTO⟩, h1, h2⟩ := st
    obtain ⟨xs, ys, hqx, hqy, l1, l2, hend⟩ := hg
    obtain ⟨its, rv, p1⟩ := srcB I hqx
    obtain ⟨its2, rv2, p2⟩ := srcB I hqy
    have e1 := rv.length
    have e2 := rv2.length
    have D1 := drawsB (prog := X.prog) (w := X.w) (A := X.A.in1) (I.ok.hd hcl) b i1 p hp its.toArray
    have D2 := drawsB (prog := X.prog) (w := X.w) (A := X.A.in1) (I.ok.hd hcl) c i2 q hq its2.toArray
    exact wpAny_pyNext_zipD2_end S D1 D2 hz hTI hTO ⟨h1, p1⟩ ⟨h2, p2⟩ (by rw [List.size_toArray]; omega) (by rw [List.size_toArray]; omega) (by rw [List.size_toArray, List.size_toArray]; omega) fun h' tk hk => ⟨rfl, I.turnedL (t' := tk) (ch := [z, TI, TO, i1, i2]) (fun d o hb q =>
      hk d o (fun q' => hb (by simp [q'])) (fun q' => hb (by simp [q'])) (fun q' => hb (by simp [q'])) (fun q' => hb (by simp [q'])) q) hf⟩
  self := fun A i s Q E st h => wpAny_pyIter_zip st.1 h
/-! ### enumerate(v) begins -/
theorem en_new {v : Value} {o : Obj} {H : Heap → Prop} (B : Begins v o H) :
    Meets (Builtin.«enumerate.__new__» ⟨[.type "enumerate", v], []⟩) (fun _ R s => H s.heap ∧ R (.ok (.ret (.ref (s.heap.push o).objs.size))) { s with heap := (s.heap.push o).push { cls := .type "enumerate", data := .fields #[.none, .bool false, .ref s.heap.objs.size, rawInt 0, .none, .none] } }) :=
  .of_wp fun prog w A R s h => by
    obtain ⟨hp, g, d, tk, os⟩ := s
    obtain ⟨h1, h⟩ := h
    have hsub := sub_enumerate
    have it1 : ∀ {A' : Around} {E : Value → Shared → Prop} {Q : Value → Shared → Prop}, Q (.ref hp.objs.size) ⟨hp.push o, g, d, tk, os⟩ → wpAny (model prog w) A' (pyIter v) Q E ⟨hp, g, d, tk, os⟩ := fun q => B.iter prog w _ _ ⟨hp, g, d, tk, os⟩ _ h1 q
    wp_walk using it1
    refine wpAny_stack_any fun st => wpAny_pure ?_
    split
    · rename_i c _ _ _ _ _
      cases (c == Value.type "enumerate") <;> (wp_walk using it1; exact ⟨_, rfl, h⟩)
    · wp_walk using it1
      exact ⟨_, rfl, h⟩
theorem en_call {prog : Program} {w : World} {A : Around} {E : Value → Shared → Prop} {s : Shared} {v : Value} {o : Obj} {H : Heap → Prop} {Q : Value → Shared → Prop} (B : Begins v o H) (h1 : H s.heap)
    (h : ∀ h', IsEnum h' (s.heap.objs.size + 1) s.heap.objs.size 0 .none → h'.get? s.heap.objs.size = some o → (∀ b o, s.heap.get? b = some o → h'.get? b = some o) → Q (.ref (s.heap.objs.size + 1)) { s with heap := h' }) :
    wpAny (model prog w) A (call (.type "enumerate") [v]) Q E s := by
  refine callType_new F.called_enumerate (by decide) (F.typeCall_enumerate_1 _) (F.newCall_enumerate_1 _) (fun obj => F.args_object_init_2 obj _) F.entry_enumerate_new (en_new B) ⟨h1, ?_⟩
  have hz : (s.heap.push o).objs.size = s.heap.objs.size + 1 := Heap.size_push ..
  have he : IsEnum ((s.heap.push o).push { cls := .type "enumerate", data := .fields #[.none, .bool false, .ref s.heap.objs.size, rawInt 0, .none, .none] }) (s.heap.objs.size + 1) s.heap.objs.size 0 .none := by
    have z := Heap.get?_push_size (s.heap.push o) (o := { cls := .type "enumerate", data := .fields #[.none, .bool false, .ref s.heap.objs.size, rawInt 0, .none, .none] }) rfl
    rw [hz] at z
    exact z
  show _ ∧ _
  rw [hz]
  exact ⟨⟨_, he, rfl⟩, h _ he (Heap.get?_push_of_some _ (Heap.get?_push_size _ B.free)) fun b o x => Heap.get?_push_of_some _ (Heap.get?_push_of_some _ x)⟩
def iEnB (K : PySem.W.Frag) (ta : TA) : TI := fun σ H R => ta σ H fun vs H1 => ∃ b a xs, vs = [.ref a] ∧ SqB K b H1 a xs ∧ R (IteB K b a) H1
theorem pi_enB {X : Cx} {e : Expr} {ta : TA} {p pos tpos : Pos} {elts : List Expr} {kk : Nat} (hg : Gl X "enumerate") (hm : X.mg "enumerate" = none) (ha : PA X [e] ta) (hs : starEach [e] X.env = [(false, eval e X.env)]) :
    PI X (.Tuple elts kk tpos) (.Call (.Name "enumerate" p) [e] [] pos) (iEnB X.K ta) := by
  refine ⟨fun pins s σ H R I h => Call_ (ld_blt I hg hm boot_enumerate (PyProof.Rows.callWith_type1 (thn (ha.run pos pins s σ H _ I h) fun us s1 ⟨vs, H1, I1, r1, q1⟩ => ?_) hs rfl))⟩
  obtain ⟨b, a, xs, ex, hq, q⟩ := q1
  subst ex
  cases r1 with
  | cons r rr =>
    cases rr
    cases r
    obtain ⟨its, rv, p'⟩ := srcB I1 hq
    have la := p'.lt
    refine en_call (beginsB b a its.toArray) p' fun h' he ho hk => wpAny_pyIter_enum he ?_
    have I2 : Inv X pins σ H1 { s1 with heap := h' } := I1.kept (t' := s1.toks) hk
    refine ⟨s1.heap.objs.size + 1, [s1.heap.objs.size + 1, s1.heap.objs.size], _, _, H1, rfl, I2, turn_enB b a (s1.heap.objs.size + 1) s1.heap.objs.size (Nat.ne_of_lt la) (Nat.succ_ne_self _) (Nat.ne_of_gt (Nat.lt_succ_of_lt la)), ⟨⟨.none, he⟩, IterB.new ho⟩, fun c hb => ?_, q⟩
    have hle : s1.heap.objs.size ≤ c := by
      have e' : c = s1.heap.objs.size + 1 ∨ c = s1.heap.objs.size := by simpa using hb
      rcases e' with z | z <;> rw [z]
      · exact Nat.le_succ _
      · exact Nat.le_refl _
    exact I1.fpOk hle (I1.hok.fresh hle)
def iZiB (K : PySem.W.Frag) (ta : TA) : TI := fun σ H R => ta σ H fun vs H1 => ∃ b c p q xs ys, vs = [.ref p, .ref q] ∧ SqB K b H1 p xs ∧ SqB K c H1 q ys ∧ R (ItzB K b c p q) H1
theorem pi_ziB {X : Cx} {e e2 : Expr} {ta : TA} {p pos tpos : Pos} {elts : List Expr} {kk : Nat} (hg : Gl X "zip") (hm : X.mg "zip" = none) (ha : PA X [e, e2] ta) (hs : starEach [e, e2] X.env = (false, eval e X.env) :: starEach [e2] X.env) (hpl : (backTo pos (starEach [e2] X.env)).any (·.1) = false) :
    PI X (.Tuple elts kk tpos) (.Call (.Name "zip" p) [e, e2] [] pos) (iZiB X.K ta) := by
  refine ⟨fun pins s σ H R I h => Call_ (ld_blt I hg hm PyProof.Rows.boot_zip (PyProof.Rows.callWith_type1 (thn (ha.run pos pins s σ H _ I h) fun us s1 ⟨vs, H1, I1, r1, q1⟩ => ?_) hs hpl))⟩
  obtain ⟨b, c, a1, a2, xs, ys, ex, hqx, hqy, q⟩ := q1
  subst ex
  cases r1 with
  | cons r rr =>
    cases rr with
    | cons r' rr =>
      cases rr
      cases r
      cases r'
      obtain ⟨its, rv, p1⟩ := srcB I1 hqx
      obtain ⟨its2, rv2, p2⟩ := srcB I1 hqy
      have l1 := p1.lt
      have l2 := p2.lt
      refine zip_begins2 (beginsB b a1 its.toArray) (beginsB c a2 its2.toArray) p1 p2 fun h' hz hTI hTO h1 h2 hsz hk => wpAny_pyIter_zip hz ?_
      have I2 : Inv X pins σ H1 { s1 with heap := h' } := I1.kept (t' := s1.toks) hk
      refine ⟨s1.heap.objs.size + 4, [s1.heap.objs.size + 4, s1.heap.objs.size + 2, s1.heap.objs.size + 3, s1.heap.objs.size, s1.heap.objs.size + 1], _, _, H1, rfl, I2,
        turn_ziB b c (Nat.ne_of_lt l1) (Nat.ne_of_lt (Nat.lt_succ_of_lt l2)) (zip_sep2 (fp1 := [a1]) (fp2 := [a2]) (fun d hd => by rw [List.mem_singleton.mp hd]; exact l1) (fun d hd => by rw [List.mem_singleton.mp hd]; exact l2)), ⟨hz, hTI, ⟨_, _, hTO⟩, IterB.new h1, IterB.new h2⟩, fun d hd => ?_, q⟩
      have hle : s1.heap.objs.size ≤ d := by
        have e' : d = s1.heap.objs.size + 4 ∨ d = s1.heap.objs.size + 2 ∨ d = s1.heap.objs.size + 3 ∨ d = s1.heap.objs.size ∨ d = s1.heap.objs.size + 1 := by simpa using hd
        rcases e' with z | z | z | z | z <;> rw [z]
        · exact Nat.le_add_right _ _
        · exact Nat.le_add_right _ _
        · exact Nat.le_add_right _ _
        · exact Nat.le_refl _
        · exact Nat.le_add_right _ _
      exact I1.fpOk hle (I1.hok.fresh hle)
/-! ### .. of values -/
def enumD (ds : List D) : List D := ds.zipIdx.map fun q => .tup [.int (q.2 : Int), q.1]
def zipD (ds es : List D) : List D := (ds.zip es).map fun q => .tup [q.1, q.2]
theorem SqB.le {K : PySem.W.Frag} {F G : Hp} {b : Bool} {a : Addr} {xs : List V} (l : Le F G) (h : SqB K b F a xs) : SqB K b G a xs := by
  cases b with
  | true => exact SqT.le l h
  | false => exact SqL.le l h
theorem it_enB {K : PySem.W.Frag} {F : Hp} {b : Bool} {a : Addr} {vs : List V} {ds : List D} (hs : SqB K b F a vs) (r : Reps K F ds vs) : ItOk K (IteB K b a) F (enumD ds) := by
  intro i G H' lg gh
  have hs' : SqB K b H' a vs := SqB.le gh (SqB.le lg hs)
  have hl : (enumD ds).length = ds.length := by unfold enumD; rw [List.length_map, List.length_zipIdx]
  refine ⟨fun hi => ⟨vs, vs[i]'(by rw [r.length, ← hl]; exact hi), hs', by simp [r.length, ← hl, hi]⟩, fun hi => ⟨vs, hs', by rw [r.length, hi, hl]⟩, fun d x H2 hd y => ?_⟩
  obtain ⟨T, v, ev, hT, eH, y⟩ := y
  subst ev
  unfold enumD at hd
  rw [List.getElem?_map, List.getElem?_zipIdx] at hd
  cases z : ds[i]? with
  | none => rw [z] at hd; cases hd
  | some d0 =>
    rw [z] at hd
    have ed : d = .tup [.int (i : Int), d0] := by
      have := Option.some.inj hd
      simpa using this.symm
    subst ed
    obtain ⟨v0, hv0, rv0⟩ := r.get z
    have e2 := y vs hs'
    rw [hv0] at e2
    cases e2
    subst eH
    have g := grow_f gh hT (.tup [.int (i : Nat), v])
    exact ⟨_, g, T, _, rfl, SqT.of upd_same, _, _, rfl, rfl, _, _, rfl, Rep.le (lg.trans g.f) d0 v rv0, rfl⟩
theorem it_ziB {K : PySem.W.Frag} {F : Hp} {b c : Bool} {p q : Addr} {vs ws : List V} {ds es : List D} (hp : SqB K b F p vs) (hq : SqB K c F q ws) (r : Reps K F ds vs) (r' : Reps K F es ws) : ItOk K (ItzB K b c p q) F (zipD ds es) := by
  intro i G H' lg gh
  have hp' : SqB K b H' p vs := SqB.le gh (SqB.le lg hp)
  have hq' : SqB K c H' q ws := SqB.le gh (SqB.le lg hq)
  have hl : (zipD ds es).length = min ds.length es.length := by unfold zipD; rw [List.length_map, List.length_zip]
  have l1 := r.length
  have l2 := r'.length
  refine ⟨fun hi => ⟨vs, ws, vs[i]'(by omega), ws[i]'(by omega), hp', hq', by simp [show i < vs.length by omega], by simp [show i < ws.length by omega]⟩, fun hi => ⟨vs, ws, hp', hq', by omega, by omega, by omega⟩, fun d x H2 hd y => ?_⟩
  obtain ⟨T, v, u, ev, hT, eH, y1, y2⟩ := y
  subst ev
  unfold zipD at hd
  rw [List.getElem?_map] at hd
  cases z : (ds.zip es)[i]? with
  | none => rw [z] at hd; cases hd
  | some d0 =>
    rw [z] at hd
    cases hd
    have hz := List.getElem?_zip_eq_some.mp z
    obtain ⟨v0, hv0, rv0⟩ := r.get hz.1
    obtain ⟨u0, hu0, ru0⟩ := r'.get hz.2
    have e2 := y1 vs hp'
    rw [hv0] at e2
    cases e2
    have e3 := y2 ws hq'
    rw [hu0] at e3
    cases e3
    subst eH
    have g := grow_f gh hT (.tup [v, u])
    exact ⟨_, g, T, _, rfl, SqT.of upd_same, _, _, rfl, Rep.le (lg.trans g.f) _ v rv0, _, _, rfl, Rep.le (lg.trans g.f) _ u ru0, rfl⟩
theorem seqB_at {K : PySem.W.Frag} {F : Hp} {d : D} {v : V} {xs : List D} (r : Rep K F d v) (e : d.seq? = some xs) : ∃ b a vs, v = .ref a ∧ SqB K b F a vs ∧ Reps K F xs vs := by
  obtain ⟨a, vs, ev, hs, rs⟩ := dseq_at r e
  rcases hs with h | h
  · exact ⟨false, a, vs, ev, h, rs⟩
  · exact ⟨true, a, vs, ev, h, rs⟩
/-- the sources are data from then on -/
def iEnum1 (fa : En → Out (List Arg)) (ε : En) : Out (List D) := (fa ε).bnd fun as ε1 => match resD ε1 as with
  | some ([d], ε2) => optO (d.seq?.map enumD) ε2
  | _ => .bad
def iZip2 (fa : En → Out (List Arg)) (ε : En) : Out (List D) := (fa ε).bnd fun as ε1 => match resD ε1 as with
  | some ([d, e], ε2) => (match d.seq?, e.seq? with
    | some xs, some ys => .ok (zipD xs ys) ε2
    | _, _ => .bad)
  | _ => .bad
section
variable {X : Cx} {W : WX} {e e2 : Expr} {p pos tpos : Pos} {elts : List Expr} {kk : Nat}
theorem fi_enum {fa : En → Out (List Arg)} (hm : X.mg "enumerate" = none) (ha : FA X W [e] fa) (hg : Gl X "enumerate" := by rfl) (hs : starEach [e] X.env = [(false, eval e X.env)] := by rfl) : FI X W (.Tuple elts kk tpos) (.Call (.Name "enumerate" p) [e] [] pos) (iEnum1 fa) := by
  obtain ⟨t, p1, q1⟩ := ha.ex
  refine ⟨_, pi_enB hg hm p1 hs, fun ε σ F H φ R ok h => q1 ε σ F H φ _ ok ?_⟩
  unfold iEnum1 at h
  cases q : fa ε with
  | bad => rw [q] at h; exact h
  | ex c fs ε' => rw [q] at h; exact h
  | ok as ε1 =>
    rw [q] at h
    simp only [bnd_ok] at h
    intro vs F1 H1 φ1 ok1 st1 r1
    split at h
    · rename_i d ε2 q2
      obtain ⟨G, φ2, ok2, st2, r2, l2⟩ := resD_ok ok1 st1 r1 q2
      cases q3 : d.seq? with
      | none => rw [q3] at h; exact h.elim
      | some xs =>
        rw [q3] at h
        obtain ⟨v, ws, ev, rv, rw0⟩ := r2
        have ew : ws = [] := rw0
        subst ew; subst ev
        obtain ⟨b, a, us, ea, hs, rs⟩ := seqB_at rv q3
        subst ea
        exact ⟨b, a, us, rfl, SqB.le ok2.sub hs, h _ G H1 φ2 ok2 st2 (it_enB hs rs)⟩
    · exact h.elim
theorem fi_zip {fa : En → Out (List Arg)} (hm : X.mg "zip" = none) (ha : FA X W [e, e2] fa) (hg : Gl X "zip" := by rfl) (hs : starEach [e, e2] X.env = (false, eval e X.env) :: starEach [e2] X.env := by rfl) (hpl : (backTo pos (starEach [e2] X.env)).any (·.1) = false := by rfl) : FI X W (.Tuple elts kk tpos) (.Call (.Name "zip" p) [e, e2] [] pos) (iZip2 fa) := by
  obtain ⟨t, p1, q1⟩ := ha.ex
  refine ⟨_, pi_ziB hg hm p1 hs hpl, fun ε σ F H φ R ok h => q1 ε σ F H φ _ ok ?_⟩
  unfold iZip2 at h
  cases q : fa ε with
  | bad => rw [q] at h; exact h
  | ex c fs ε' => rw [q] at h; exact h
  | ok as ε1 =>
    rw [q] at h
    simp only [bnd_ok] at h
    intro vs F1 H1 φ1 ok1 st1 r1
    split at h
    · rename_i d d2 ε2 q2
      obtain ⟨G, φ2, ok2, st2, r2, l2⟩ := resD_ok ok1 st1 r1 q2
      split at h
      · rename_i xs ys q3 q4
        obtain ⟨v, ws, ev, rv, v2, ws2, ev2, rv2, rw0⟩ := r2
        have ew : ws2 = [] := rw0
        subst ew; subst ev2; subst ev
        obtain ⟨b, a, us, ea, hs1, rs⟩ := seqB_at rv q3
        obtain ⟨c, a', us', ea', hs2, rs'⟩ := seqB_at rv2 q4
        subst ea; subst ea'
        exact ⟨b, c, a, a', us, us', rfl, SqB.le ok2.sub hs1, SqB.le ok2.sub hs2, h _ G H1 φ2 ok2 st2 (it_ziB hs1 hs2 rs rs')⟩
      · exact h.elim
    · exact h.elim
end
end FL
namespace FL
open PySem PySem.Spec PyProof.Rows L2
/-! ### for x in xs, xs owns its items: each is lent to x for its turn -/
section
variable {K : PySem.W.Frag} {F H : Hp}
theorem RMs.split : ∀ {ms1 : List M} {m : M} {ms2 : List M} {vs : List V} {fp : List Addr}, RMs K F H (ms1 ++ m :: ms2) vs fp → ∃ vs1 v vs2 f1 fm f2, vs = vs1 ++ v :: vs2 ∧ fp = f1 ++ (fm ++ f2) ∧ RMs K F H ms1 vs1 f1 ∧ RM K F H m v fm ∧ RMs K F H ms2 vs2 f2
  | [], m, ms2, vs, fp, ⟨v, ws, f1, f2, e1, e2, r, rs⟩ => ⟨[], v, ws, [], f1, f2, e1, e2, ⟨rfl, rfl⟩, r, rs⟩
  | m0 :: ms1, m, ms2, vs, fp, ⟨v, ws, f1, f2, e1, e2, r, rs⟩ => by
    obtain ⟨vs1, v', vs2, g1, gm, g2, e3, e4, r1, rm, r2⟩ := RMs.split rs
    subst e3; subst e4; subst e1; subst e2
    exact ⟨v :: vs1, v', vs2, f1 ++ g1, gm, g2, rfl, by rw [List.append_assoc], ⟨v, vs1, f1, g1, rfl, rfl, r, r1⟩, rm, r2⟩
theorem RMs.join : ∀ {ms1 : List M} {m : M} {ms2 : List M} {vs1 : List V} {v : V} {vs2 : List V} {f1 fm f2 : List Addr}, RMs K F H ms1 vs1 f1 → RM K F H m v fm → RMs K F H ms2 vs2 f2 → RMs K F H (ms1 ++ m :: ms2) (vs1 ++ v :: vs2) (f1 ++ (fm ++ f2))
  | [], m, ms2, vs1, v, vs2, f1, fm, f2, h, r, rs => by
    obtain ⟨e1, e2⟩ := h
    subst e1; subst e2
    exact ⟨v, vs2, fm, f2, rfl, rfl, r, rs⟩
  | m0 :: ms1, m, ms2, vs1, v, vs2, f1, fm, f2, ⟨u, ws, g1, g2, e1, e2, r0, r1⟩, r, rs => by
    subst e1; subst e2
    exact ⟨u, _, g1, _, rfl, by rw [List.append_assoc], r0, RMs.join r1 r rs⟩
end
def loopOn (x : Nat) (body : En → SOut) : List M → En → Option (List M × En)
  | [], ε => some ([], ε)
  | m :: ms, ε => match body (ε.set x (some m)) with
    | .nx ε1 => (match ε1[x]? with
      | some (some m') => (match loopOn x body ms (ε1.set x none) with
        | some (r, ε2) => some (m' :: r, ε2)
        | none => none)
      | _ => none)
    | _ => none
def sForOn (i x : Nat) (body : En → SOut) (ε : En) : SOut := match ε[i]? with
  | some (some (.on ms)) => (match loopOn x body ms (ε.set i none) with
    | some (ms', ε') => .nx (ε'.set i (some (.on ms')))
    | none => .bad)
  | _ => .bad
section
variable {X : Cx} {W : WX} {fx : Nat → Prop} {y z : Str} {p p2 pos : Pos} {body : List Stmt}
theorem st_forOn (i x : Nat) {f : En → SOut} (hix : x ≠ i) (hfx : ¬ fx x) (hp : PassesOwn (model X.prog X.w) X.A X.env X.xe) (hc : X.calm = true) (hN : X.N.Nodup) (hb : FSs X W (fun j => fx j ∨ j = i ∨ j = x) body f) (hi : X.N[i]? = some y := by rfl) (hv : Vis X.env.scope y := by first | exact Or.inl rfl | exact Or.inr (Or.inl rfl) | exact Or.inr (Or.inr rfl)) (hd : (y == ("__debug__" : Str)) = false := by decide)
    (hcd : (y == ("__classdict__" : Str)) = false := by decide) (hx : X.N[x]? = some z := by rfl) (hxl : Loc X.env.scope z := by first | exact Or.inl rfl | exact Or.inr rfl) (hf : X.fn z = true ∨ X.env.scope.names.lookup z = some .local := by first | exact .inl rfl | exact .inr rfl) (hs : ∀ q, foldedSetIterable (.Name y p) X.env q = pure q := by intro _; rfl) :
    FS X W fx (.For (.Name z p2) (.Name y p) body [] pos) (sForOn i x f) := by
  obtain ⟨tb, p3, q3⟩ := hb.ex
  refine ⟨_, ps_for hp hc (pi_seq (pe_var hi hv hd hcd)) (pg_name hN hx hxl hf) p3 hs, fun ε σ F H φ D ok h => ?_⟩
  unfold sForOn at h
  split at h
  case h_2 => exact h.elim
  rename_i ms hms
  cases ql : loopOn x f ms (ε.set i none) with
  | none => rw [ql] at h; exact h.elim
  | some r0 =>
    obtain ⟨msF, εF⟩ := r0
    rw [ql] at h
    obtain ⟨v0, hv0, a, vs, fp0, ev0, ef0, ha, rm0⟩ := ok.slot i _ hms
    subst ev0
    refine ⟨_, hv0, a, rfl, .inl ⟨⟨vs, SqL.of ha⟩, ?_⟩⟩
    have ndi := ok.nd i
    rw [ef0] at ndi
    have lvs := rm0.length
    refine ⟨fun j m σi Hi => m = ms.length - j ∧ j ≤ ms.length ∧ ∃ dM fp εi Fi φi r, (∀ k, fx k ∨ k = i → σi[k]? = σ[k]?) ∧ EnvOk X.K Fi Hi εi σi φi ∧ RMs X.K Fi Hi (dM ++ ms.drop j) vs fp ∧ Hi a = some (.lst vs) ∧ Aside Fi Hi φi (a :: fp) ∧ (a :: fp).Nodup ∧
      Step F H (Own φ) Fi Hi (fun b => Own φi b ∨ b ∈ a :: fp) ∧ dM.length = j ∧ loopOn x f (ms.drop j) εi = some (r, εF) ∧ dM ++ r = msF, ⟨ms.length, rfl, Nat.zero_le _, [], fp0, ε.set i none, F, _, msF, fun _ _ => rfl, ok.drop i, rm0, ha, ⟨fun b hb => ok.off i b (by rw [ef0]; exact hb), fun b hb => ?_, fun b hb => ok.tr (i := i) (by rw [ef0]; exact hb)⟩, ndi, Step.refl fun b z => ?_, rfl, ql, rfl⟩, ?_⟩
    · rintro ⟨j, hj⟩
      simp only at hj
      split at hj
      · cases hj
      · rename_i hne; exact hne (ok.dj j i b hj (by rw [ef0]; exact hb))
    · exact z.elim drop_own fun z => ⟨i, by rw [ef0]; exact z⟩
    rintro j m σi Hi ⟨rfl, hjle, dM, fp, εi, Fi, φi, r, kσ, oki, rmi, hai, asd, nd, sti, hdl, hr, emF⟩
    by_cases hlt : j < ms.length
    · have hvj : j < vs.length := by omega
      refine .inr ⟨⟨vs, vs[j], SqL.of hai, by simp [hvj]⟩, fun σ' H' => ∃ dM fp ε' F' φ' r, (∀ k, fx k ∨ k = i → σ'[k]? = σ[k]?) ∧ EnvOk X.K F' H' ε' σ' φ' ∧ RMs X.K F' H' (dM ++ ms.drop (j + 1)) vs fp ∧ H' a = some (.lst vs) ∧ Aside F' H' φ' (a :: fp) ∧ (a :: fp).Nodup ∧
        Step F H (Own φ) F' H' (fun b => Own φ' b ∨ b ∈ a :: fp) ∧ dM.length = j + 1 ∧ loopOn x f (ms.drop (j + 1)) ε' = some (r, εF) ∧ dM ++ r = msF, fun σ' H' q => ⟨ms.length - (j + 1), by omega, rfl, hlt, q⟩, fun w H2 yl => ?_⟩
      obtain ⟨e2, yl⟩ := yl
      subst e2
      rw [List.drop_eq_getElem_cons hlt] at rmi hr
      obtain ⟨vs1, v, vs2, f1, fm, f2, evs, efp, r1, rmm, r2⟩ := RMs.split rmi
      have ew : w = v := by
        have z := yl vs (SqL.of hai)
        rw [evs, List.getElem?_append_right (by rw [r1.length, hdl]; exact Nat.le_refl _), r1.length, hdl, Nat.sub_self] at z
        simpa using z.symm
      subst ew
      subst efp
      obtain ⟨na, ndf⟩ := List.nodup_cons.mp nd
      rw [List.nodup_append] at ndf
      obtain ⟨nd1, nd23, dj1⟩ := ndf
      rw [List.nodup_append] at nd23
      obtain ⟨ndm, nd2, dj2⟩ := nd23
      have inM : ∀ b ∈ fm, b ∈ a :: (f1 ++ (fm ++ f2)) := fun b hb => List.mem_cons_of_mem _ (List.mem_append_right _ (List.mem_append_left _ hb))
      have offm : ∀ b ∈ fm, Fi b = none ∧ ∀ k, b ∉ φi k := fun b hb => ⟨asd.f b (inM b hb), fun k hk => asd.o b (inM b hb) ⟨k, hk⟩⟩
      unfold loopOn at hr
      have ok2 := oki.store x rmm ndm offm
      -- what stands aside in the turn
      have inS : ∀ b ∈ a :: (f1 ++ f2), b ∈ a :: (f1 ++ (fm ++ f2)) ∧ b ∉ fm := fun b hb => by
        rcases List.mem_cons.mp hb with z | z
        · subst z
          exact ⟨List.mem_cons_self, fun q => na (List.mem_append_right _ (List.mem_append_left _ q))⟩
        · rcases List.mem_append.mp z with z | z
          · exact ⟨List.mem_cons_of_mem _ (List.mem_append_left _ z), fun q => dj1 b z b (List.mem_append_left _ q) rfl⟩
          · exact ⟨List.mem_cons_of_mem _ (List.mem_append_right _ (List.mem_append_right _ z)), fun q => dj2 b q b z rfl⟩
      have asd2 : Aside Fi H2 (fun k => if k = x then (if x < εi.length then fm else []) else φi k) (a :: (f1 ++ f2)) := ⟨fun b hb => asd.f b (inS b hb).1, fun b hb z => (store_own z).elim (asd.o b (inS b hb).1) (inS b hb).2, fun b hb => asd.h b (inS b hb).1⟩
      refine q3 _ _ Fi H2 _ _ ok2 ?_
      cases qf : f (εi.set x (some ms[j])) with
      | bk _ => rw [qf] at hr; cases hr
      | ct _ => rw [qf] at hr; cases hr
      | rt _ _ => rw [qf] at hr; cases hr
      | ex _ _ _ => rw [qf] at hr; cases hr
      | bad => rw [qf] at hr; cases hr
      | nx ε3 =>
        rw [qf] at hr
        simp only at hr
        split at hr
        case h_2 => cases hr
        rename_i m' hm'
        cases qr : loopOn x f (ms.drop (j + 1)) (ε3.set x none) with
        | none => rw [qr] at hr; cases hr
        | some r5 =>
          obtain ⟨rr, ε5⟩ := r5
          rw [qr] at hr
          simp only [Option.some.injEq, Prod.mk.injEq] at hr
          obtain ⟨er, ee⟩ := hr
          subst er; subst ee
          intro σ' F' H' φ' ok' st fxx
          obtain ⟨as3, kp3, _⟩ := asd2.step (T := fun _ => False) st.own
          obtain ⟨v', hv', rm'⟩ := ok'.slot x m' hm'
          have hlx : x < εi.length := by
            by_cases hl : x < εi.length
            · exact hl
            · have : x < σi.length := by
                have z := (List.getElem?_eq_some_iff.mp hv').1
                have z2 := ok'.len
                have z3 : x < σ'.length := z
                have z4 := fxx x (.inr (.inr rfl))
                rw [List.getElem?_eq_getElem z3, List.getElem?_eq_none (by rw [List.length_set]; have := oki.len; omega)] at z4
                cases z4
              have := oki.len
              omega
          have evv : v' = w := by
            have z4 := fxx x (.inr (.inr rfl))
            rw [hv', List.getElem?_set_self (by rw [← oki.len]; exact hlx)] at z4
            cases z4; rfl
          subst evv
          have mv1 : RMs X.K F' H' dM vs1 f1 := RMs.mv st.f _ _ _ (fun b hb o e => kp3 b (List.mem_cons_of_mem _ (List.mem_append_left _ hb)) o e) r1
          have mv2 : RMs X.K F' H' (ms.drop (j + 1)) vs2 f2 := RMs.mv st.f _ _ _ (fun b hb o e => kp3 b (List.mem_cons_of_mem _ (List.mem_append_right _ hb)) o e) r2
          have sepx : ∀ b ∈ a :: (f1 ++ f2), ∀ c ∈ φ' x, b ≠ c := fun b hb c hc e => as3.o b hb ⟨x, e ▸ hc⟩
          refine ⟨dM ++ [m'], f1 ++ (φ' x ++ f2), ε3.set x none, F', _, rr, fun k hk => ?_, ok'.drop x, ?_, kp3 a List.mem_cons_self _ hai, ⟨fun b hb => ?_, fun b hb z => ?_, fun b hb => ?_⟩, ?_, ?_, by rw [List.length_append, List.length_singleton, hdl], qr, by rw [← emF, List.append_assoc]; rfl⟩
          · have z := fxx k (hk.elim .inl fun z => .inr (.inl z))
            rw [z, List.getElem?_set_ne (fun e : x = k => hk.elim (fun q => hfx (e ▸ q)) (fun q => hix (e.trans q)))]
            exact kσ k hk
          · rw [List.append_assoc, evs]
            exact RMs.join mv1 rm' mv2
          · rcases List.mem_cons.mp hb with z | z
            · exact as3.f b (z ▸ List.mem_cons_self)
            · rcases List.mem_append.mp z with z | z
              · exact as3.f b (List.mem_cons_of_mem _ (List.mem_append_left _ z))
              · rcases List.mem_append.mp z with z | z
                · exact ok'.off x b z
                · exact as3.f b (List.mem_cons_of_mem _ (List.mem_append_right _ z))
          · have z' := drop_own z
            have zx : b ∉ φ' x := fun q => by
              obtain ⟨k, hk⟩ := z
              simp only at hk
              split at hk
              · cases hk
              · rename_i hne; exact hne (ok'.dj k x b hk q)
            rcases List.mem_cons.mp hb with q | q
            · exact as3.o b (q ▸ List.mem_cons_self) z'
            · rcases List.mem_append.mp q with q | q
              · exact as3.o b (List.mem_cons_of_mem _ (List.mem_append_left _ q)) z'
              · rcases List.mem_append.mp q with q | q
                · exact zx q
                · exact as3.o b (List.mem_cons_of_mem _ (List.mem_append_right _ q)) z'
          · rcases List.mem_cons.mp hb with z | z
            · exact as3.h b (z ▸ List.mem_cons_self)
            · rcases List.mem_append.mp z with z | z
              · exact as3.h b (List.mem_cons_of_mem _ (List.mem_append_left _ z))
              · rcases List.mem_append.mp z with z | z
                · exact ok'.tr z
                · exact as3.h b (List.mem_cons_of_mem _ (List.mem_append_right _ z))
          · rw [List.nodup_cons, List.nodup_append, List.nodup_append]
            refine ⟨fun z => ?_, nd1, ⟨ok'.nd x, nd2, fun b hb c hc e => sepx c (List.mem_cons_of_mem _ (List.mem_append_right _ hc)) b hb e.symm⟩, fun b hb c hc e => ?_⟩
            · rcases List.mem_append.mp z with z | z
              · exact na (List.mem_append_left _ z)
              · rcases List.mem_append.mp z with z | z
                · exact sepx a List.mem_cons_self a z rfl
                · exact na (List.mem_append_right _ (List.mem_append_right _ z))
            · rcases List.mem_append.mp hc with z | z
              · exact sepx b (List.mem_cons_of_mem _ (List.mem_append_left _ hb)) c z e
              · exact dj1 b hb c (List.mem_append_right _ z) e
          · have s1 : Step F H (Own φ) Fi H2 (fun b => Own (fun k => if k = x then (if x < εi.length then fm else []) else φi k) b ∨ b ∈ a :: (f1 ++ f2)) := sti.imp fun b z => z.elim (fun z => (store_own z).elim .inl fun z => .inr (inM b z)) fun z => .inr (inS b z).1
            refine (s1.trans (st.aside (T := fun b => b ∈ a :: (f1 ++ f2)))).imp fun b z => ?_
            rcases z with z | z
            · exact .inl (drop_own z)
            · rcases List.mem_cons.mp z with z | z
              · exact .inr (z ▸ List.mem_cons_self)
              · rcases List.mem_append.mp z with z | z
                · exact .inr (List.mem_cons_of_mem _ (List.mem_append_left _ z))
                · rcases List.mem_append.mp z with z | z
                  · exact .inl ⟨x, z⟩
                  · exact .inr (List.mem_cons_of_mem _ (List.mem_append_right _ z))
    · have hje : j = ms.length := by omega
      subst hje
      refine .inl ⟨⟨vs, SqL.of hai, by omega⟩, ?_⟩
      rw [List.drop_length] at hr rmi
      unfold loopOn at hr
      cases hr
      rw [List.append_nil] at emF rmi
      subst emF
      have hσi : σi[i]? = some (some (.ref a)) := (kσ i (.inr rfl)).trans hv0
      have okS := oki.store i (m := .on dM) (v := .ref a) (s := a :: fp) ⟨a, vs, fp, rfl, rfl, hai, rmi⟩ nd fun b hb => ⟨asd.f b hb, fun k hk => asd.o b hb ⟨k, hk⟩⟩
      have eσ : σi.set i (some (.ref a)) = σi := by
        apply List.ext_getElem?
        intro k
        by_cases e : k = i
        · subst e
          rw [List.getElem?_set_self (List.getElem?_eq_some_iff.mp hσi).1, hσi]
        · rw [List.getElem?_set_ne (Ne.symm e)]
      rw [eσ] at okS
      exact h σi Fi Hi _ okS (sti.imp fun b z => (store_own z)) fun k hk => kσ k (.inl hk)
end
/-! ### xs.append(e), xs owns its items -/
def eAppN (i : Nat) (fa : En → Out (List Arg)) (ε : En) : Out M := match ε[i]? with
  | some (some (.on _)) => (fa ε).bnd fun as ε1 => match resD ε1 as with
    | some ([d], ε2) => (match ε2[i]? with
      | some (some (.on ms)) => if ms.length < lim then .ok (.d .non) (ε2.set i (some (.on (ms ++ [.d d])))) else .bad
      | _ => .bad)
    | _ => .bad
  | _ => .bad
section
variable {X : Cx} {W : WX} {e : Expr} {x : Str} {p apos pos : Pos}
theorem fe_appendN (i : Nat) {fa : En → Out (List Arg)} (ha : FA X W [e] fa)
    (hN : X.N[i]? = some x := by rfl) (hv : Vis X.env.scope x := by first | exact Or.inl rfl | exact Or.inr (Or.inl rfl) | exact Or.inr (Or.inr rfl)) (hd : (x == ("__debug__" : Str)) = false := by decide) (hcd : (x == ("__classdict__" : Str)) = false := by decide)
    (hbase : attributeBase (.Name x p) "append" X.env (eval (.Name x p) X.env) = eval (.Name x p) X.env := by rfl)
    (hfew : ((backTo pos (starEach [e] X.env)).all (fun x => !x.1) && (backToKw pos (keywordEach [] X.env)).all (fun x => x.1.isSome)
      && decide ([e].length + ([] : List Keyword).length + (if ([] : List Keyword).isEmpty then 0 else 1) < 30)) = true := by rfl)
    (hline : (apos.endLine == pos.line) = true := by rfl) (hs : starEach [e] X.env = (false, eval e X.env) :: starEach [] X.env := by rfl) (hplain : (backTo pos (starEach [] X.env)).any (·.1) = false := by rfl) : FE X W (.Call (.Attribute (.Name x p) "append" apos) [e] [] pos) (eAppN i fa) := by
  obtain ⟨t, h1, h2⟩ := ha.ex
  refine ⟨_, pe_bm PySem.F.plainAttrs_list PySem.F.slot_list_append PySem.F.type_list_append mt_append (pe_var hN hv hd hcd) h1 hbase hfew hline hs hplain, fun ε σ F H φ Q ok h => ?_⟩
  unfold eAppN at h
  split at h
  case h_2 => exact h.elim
  rename_i ms0 hx0
  obtain ⟨v, hv, a0, vs0, fp0, ev, hf0, ha0, r0⟩ := ok.slot i _ hx0
  subst ev
  refine ⟨_, hv, .inl ⟨rfl, vs0, SqL.of ha0⟩, h2 ε σ F H φ _ ok ?_⟩
  cases q : fa ε with
  | bad => rw [q] at h; exact h
  | ex c fs ε' => rw [q] at h; exact h
  | ok as ε1 =>
    rw [q] at h
    simp only [bnd_ok] at h
    intro vs F1 H1 φ1 ok1 st1 r1
    split at h
    case h_2 => exact h.elim
    rename_i d ε2 q2
    obtain ⟨G, φ2, ok2, st2, r2, l2⟩ := resD_ok ok1 st1 r1 q2
    split at h
    case h_2 => exact h.elim
    rename_i ms hx
    split at h
    case isFalse => exact h.elim
    rename_i hl
    obtain ⟨v', hv', a, us, fp, ev, hf, ha, rr⟩ := ok2.slot i _ hx
    subst ev
    rw [hv] at hv'
    cases hv'
    obtain ⟨w, ws, ew, rw', rn⟩ := r2
    have en : ws = [] := rn
    subst en; subst ew
    refine ⟨a0, us, w, rfl, rfl, ha, by rw [rr.length, ← lim_eq]; exact hl, ?_⟩
    have ndi := ok2.nd i
    rw [hf] at ndi
    obtain ⟨na, _⟩ := List.nodup_cons.mp ndi
    have lt : i < ε2.length := (List.getElem?_eq_some_iff.mp hx).1
    have aOwn : Own φ2 a0 := ⟨i, by rw [hf]; exact List.mem_cons_self⟩
    have ne : ∀ {j : Nat} {b : Addr}, b ∈ φ2 j → (j = i → b ≠ a0) → b ≠ a0 := fun {j b} hb k z => by
      by_cases e : j = i
      · exact k e z
      · exact e (ok2.dj j i a0 (z ▸ hb) (by rw [hf]; exact List.mem_cons_self))
    refine h .non G _ φ2 [] ⟨fun b u z => ?_, by rw [List.length_set]; exact ok2.len, fun j m' hj => ?_, fun j hj => ?_, ok2.nd, ok2.dj, ok2.off⟩ ((st2.trans (upd_step aOwn ha)).imp fun b z => z.elim id fun z => by cases z) ⟨rfl, rfl⟩ List.nodup_nil (fun _ z => by cases z)
    · rw [upd_ne (ne_of_none z (ok2.off i a0 (by rw [hf]; exact List.mem_cons_self)))]
      exact ok2.sub b u z
    · by_cases hj2 : j = i
      · subst hj2
        rw [List.getElem?_set_self lt] at hj
        cases hj
        refine ⟨_, hv, a0, us ++ [w], fp, rfl, hf, upd_same, ?_⟩
        have r3 := RMs.append (RMs.mv (H' := upd H1 a0 (.lst (us ++ [w]))) (Le.refl _) ms us fp (fun b hb u z => by rw [upd_ne (fun e : b = a0 => na (e ▸ hb))]; exact z) rr) (m := .d d) (v := w) (s := []) ⟨rfl, rw'⟩
        rw [List.append_nil] at r3
        exact r3
      · rw [List.getElem?_set_ne (Ne.symm hj2)] at hj
        obtain ⟨u, hu, ru⟩ := ok2.slot j m' hj
        exact ⟨u, hu, RM.mv (Le.refl _) m' u _ (fun b hb o z => by rw [upd_ne (ne hb fun e => absurd e hj2)]; exact z) ru⟩
    · by_cases hj2 : j = i
      · subst hj2
        exact absurd (List.getElem?_set_self lt) (hj _)
      · refine ok2.emp j fun m' z => hj m' ?_
        rw [List.getElem?_set_ne (Ne.symm hj2)]
        exact z
end
end FL
namespace FL
open PySem PySem.Spec PyProof.Rows L2 FLE
/-! ### the operators in short -/
section
variable {X : Cx} {W : WX} {a b c e : Expr} {es : List Expr} {p pos : Pos} {oa ob oc : En → Out Arg} {k : Nat} {fa : En → Out (List Arg)}
theorem o_add : OpR X (binaryOp .Add) (fun x y H Q => rI0 (fun i j => V.int (i + j)) x y H Q ∨ (rStrAdd x y H Q ∨ (rCatA X.K x y H Q ∨ rCat x y H Q))) := op_add.or (op_add_str.or (op_catA.or op_cat))
theorem o_mul : OpR X (binaryOp .Mult) (fun x y H Q => rI CMulW (fun i j => V.int (i * j)) x y H Q ∨ rRep x y H Q) := op_mulW.or op_rep
theorem o_eq (hr : Room k X.A) : OpR X (compareOp .Eq) (rEqS X.K) := op_eq.or (op_eqD (by have := hr.un; omega))
theorem o_ne (hr : Room k X.A) : OpR X (compareOp .NotEq) (rNeS X.K) := op_ne.or (op_neD (by have := hr.un; omega))
theorem o_in (hr : Room k X.A) : OpR X (compareOp .In) (rInS2 X.K) := (op_inD (by have := hr.un; omega)).or op_in_seq
theorem o_notin (hr : Room k X.A) : OpR X (compareOp .NotIn) (rNotInS2 X.K) := (op_notInD (by have := hr.un; omega)).or op_notIn_seq
theorem fe_add (ha : FO X W a oa) (hb : FO X W b ob) : FE X W (.BinOp a .Add b pos) (eOp2 gAdd oa ob) := fe_bin o_add s_add ha hb
theorem fe_sub (ha : FO X W a oa) (hb : FO X W b ob) : FE X W (.BinOp a .Sub b pos) (eOp2 gSub oa ob) := fe_bin op_sub s_sub ha hb
theorem fe_mul (ha : FO X W a oa) (hb : FO X W b ob) : FE X W (.BinOp a .Mult b pos) (eOp2 gMul oa ob) := fe_bin o_mul s_mul ha hb
theorem fe_fdiv (ha : FO X W a oa) (hb : FO X W b ob) : FE X W (.BinOp a .FloorDiv b pos) (eOp2 gDiv oa ob) := fe_bin op_fdivW s_div ha hb
theorem fe_mod (ha : FO X W a oa) (hb : FO X W b ob) : FE X W (.BinOp a .Mod b pos) (eOp2 gMod oa ob) := fe_bin op_mod s_mod ha hb
theorem fe_pow (ha : FO X W a oa) (hb : FO X W b ob) : FE X W (.BinOp a .Pow b pos) (eOp2 gPow oa ob) := fe_bin op_pow s_pow ha hb
theorem fe_neg (ha : FO X W a oa) : FE X W (.UnaryOp .USub a pos) (eOp1 gNeg oa) := fe_un un_neg s_neg ha
/-- a comparison's rule and soundness, one argument to hand about -/
structure CmpK (X : Cx) (op : CmpOp) (g : M → M → Option M) : Prop where
  ex : ∃ r : R2, OpR X (compareOp op) r ∧ OpS2 X.K r g
theorem k_lt : CmpK X .Lt gLt := ⟨_, op_lt, s_lt⟩
theorem k_le : CmpK X .LtE gLe := ⟨_, op_le, s_le⟩
theorem k_gt : CmpK X .Gt gGt := ⟨_, op_gt, s_gt⟩
theorem k_ge : CmpK X .GtE gGe := ⟨_, op_ge, s_ge⟩
theorem k_eq (hr : Room k X.A) : CmpK X .Eq gEq := ⟨_, o_eq hr, s_eq⟩
theorem k_ne (hr : Room k X.A) : CmpK X .NotEq gNe := ⟨_, o_ne hr, s_ne⟩
theorem k_is : CmpK X .Is gIs := ⟨_, op_isNB, s_is⟩
theorem k_isnot : CmpK X .IsNot gIsNot := ⟨_, op_isNotNB, s_isnot⟩
theorem k_in (hr : Room k X.A) : CmpK X .In gIn := ⟨_, o_in hr, s_in⟩
theorem k_notin (hr : Room k X.A) : CmpK X .NotIn gNotIn := ⟨_, o_notin hr, s_notin⟩
theorem fe_ck {op : CmpOp} {g : M → M → Option M} (hk : CmpK X op g) (ha : FO X W a oa) (hb : FO X W b ob) (hm : behindInMarks op b = false := by rfl) : FE X W (.Compare a [op] [b] pos) (eOp2 g oa ob) := by
  obtain ⟨r, h1, h2⟩ := hk.ex
  exact fe_cmp h1 h2 ha hb hm
theorem ft_ck {op : CmpOp} {g : M → M → Option M} (hk : CmpK X op g) (ha : FO X W a oa) (hb : FO X W b ob) (hm : behindInMarks op b = false := by rfl) : FT X W (.Compare a [op] [b] pos) (tVal (eOp2 g oa ob)) := by
  obtain ⟨r, h1, h2⟩ := hk.ex
  exact ft_cmp h1 h2 ha hb hm
/-- a op1 b op2 c -/
def eChain (g g' : M → M → Option M) (oa ob oc : En → Out Arg) (ε : En) : Out M := (oa ε).bnd fun x ε1 => (ob ε1).bnd fun y ε2 => match rd ε2 x, rd ε2 y with
  | some m, some n => (match g m n with
    | some (.d (.bl true)) => (oc ε2).bnd fun z ε3 => (match rd ε3 y, rd ε3 z with
      | some n, some o => optO (g' n o) ε3
      | _, _ => .bad)
    | some (.d (.bl false)) => .ok (.d (.bl false)) ε2
    | _ => .bad)
  | _, _ => .bad
theorem chain_run {r r' : R2} {g g' : M → M → Option M} {ta tb tc : TE} (hS : OpS2 X.K r g) (hS' : OpS2 X.K r' g') (h1 : ∀ ε σ F H φ Q, EnvOk X.K F H ε σ φ → PostO X.K W σ F H (Own φ) Q (oa ε) → ta σ H Q) (h2 : ∀ ε σ F H φ Q, EnvOk X.K F H ε σ φ → PostO X.K W σ F H (Own φ) Q (ob ε) → tb σ H Q)
    (h3 : ∀ ε σ F H φ Q, EnvOk X.K F H ε σ φ → PostO X.K W σ F H (Own φ) Q (oc ε) → tc σ H Q) {ε : En} {σ : L2.St} {F H : Hp} {φ : Nat → List Addr} {Q : VK} (ok : EnvOk X.K F H ε σ φ) (h : PostE X.K W σ F H (Own φ) Q (eChain g g' oa ob oc ε)) : tChain r r' ta tb tc σ H Q := by
  refine h1 ε σ F H φ _ ok ?_
  unfold eChain at h
  cases q1 : oa ε with
  | bad => rw [q1] at h; exact h
  | ex c fs ε' => rw [q1] at h; exact h
  | ok x ε1 =>
    rw [q1] at h
    simp only [bnd_ok] at h
    intro v1 F1 H1 φ1 ok1 st1 r1
    refine h2 ε1 σ F1 H1 φ1 _ ok1 ?_
    cases q2 : ob ε1 with
    | bad => rw [q2] at h; exact h
    | ex c fs ε' => rw [q2] at h; exact PostX.step st1 h
    | ok y ε2 =>
      rw [q2] at h
      simp only [bnd_ok] at h
      intro v2 F2 H2 φ2 ok2 st2 r2
      have r1' := ArgOk.le st2.f r1
      cases q3 : rd ε2 x with
      | none => rw [q3] at h; exact h.elim
      | some m =>
        cases q4 : rd ε2 y with
        | none => rw [q3, q4] at h; exact h.elim
        | some n =>
          rw [q3, q4] at h
          simp only at h
          cases q5 : g m n with
          | none => rw [q5] at h; exact h.elim
          | some m' =>
            rw [q5] at h
            refine hS m n v1 v2 F2 H2 _ m' ok2.sub (rd_ok ok2 r1' q3) (rd_ok ok2 r2 q4) q5 fun v F' H' s gr rm nd => ?_
            have st' : Step F H (Own φ) F' H' (fun a => Own φ2 a ∨ a ∈ s) := (st1.trans st2).trans gr.step
            have okE := ok2.grow gr
            split at h
            · rename_i e
              cases e
              have es : s = [] := rm.1
              subst es
              have st3 : Step F H (Own φ) F' H' (Own φ2) := st'.imp fun a z => .inl z
              refine ⟨true, rm.2, ?_⟩
              rw [if_pos rfl]
              refine h3 ε2 σ F' H' φ2 _ okE ?_
              cases q6 : oc ε2 with
              | bad => rw [q6] at h; exact h
              | ex c fs ε' => rw [q6] at h; exact PostX.step st3 h
              | ok z ε3 =>
                rw [q6] at h
                simp only [bnd_ok] at h
                intro v3 F3 H3 φ3 ok3 st4 r3
                have r2' := ArgOk.le st4.f (ArgOk.le gr.f r2)
                cases q7 : rd ε3 y with
                | none => rw [q7] at h; exact h.elim
                | some n' =>
                  cases q8 : rd ε3 z with
                  | none => rw [q7, q8] at h; exact h.elim
                  | some o' =>
                    rw [q7, q8] at h
                    simp only at h
                    cases q9 : g' n' o' with
                    | none => rw [q9] at h; exact h.elim
                    | some w =>
                      rw [q9] at h
                      exact hS' n' o' v2 v3 F3 H3 Q w ok3.sub (rd_ok ok3 r2' q7) (rd_ok ok3 r3 q8) q9 (PostE.of_op ok3 (st3.trans st4) h)
            · rename_i e
              cases e
              have es : s = [] := rm.1
              subst es
              refine ⟨false, rm.2, ?_⟩
              rw [if_neg Bool.false_ne_true]
              exact h _ F' H' φ2 [] okE st' ⟨rfl, rfl⟩ List.nodup_nil (fun _ z => by cases z)
            · exact h.elim
theorem fe_chain {op op' : CmpOp} {g g' : M → M → Option M} (hk : CmpK X op g) (hk' : CmpK X op' g') (ha : FO X W a oa) (hb : FO X W b ob) (hc : FO X W c oc) (hm : lastMarks [op, op'] [b, c] = false := by with_unfolding_all rfl) : FE X W (.Compare a [op, op'] [b, c] pos) (eChain g g' oa ob oc) := by
  obtain ⟨r, k1, k2⟩ := hk.ex
  obtain ⟨r', k3, k4⟩ := hk'.ex
  obtain ⟨ta, p1, q1⟩ := ha.ex
  obtain ⟨tb, p2, q2⟩ := hb.ex
  obtain ⟨tc, p3, q3⟩ := hc.ex
  exact ⟨_, pe_chain k1 k3 p1 p2 p3 hm, fun ε σ F H φ Q ok h => chain_run k2 k4 q1 q2 q3 ok h⟩
theorem ft_chain {op op' : CmpOp} {g g' : M → M → Option M} (hk : CmpK X op g) (hk' : CmpK X op' g') (ha : FO X W a oa) (hb : FO X W b ob) (hc : FO X W c oc) (hm : lastMarks [op, op'] [b, c] = false := by with_unfolding_all rfl) : FT X W (.Compare a [op, op'] [b, c] pos) (tVal (eChain g g' oa ob oc)) := by
  obtain ⟨r, k1, k2⟩ := hk.ex
  obtain ⟨r', k3, k4⟩ := hk'.ex
  obtain ⟨ta, p1, q1⟩ := ha.ex
  obtain ⟨tb, p2, q2⟩ := hb.ex
  obtain ⟨tc, p3, q3⟩ := hc.ex
  exact ⟨_, pt_chain k1 k3 p1 p2 p3 hm, fun ε σ F H φ Q ok h => FE.boolT (W := W) (f := eChain g g' oa ob oc) (t := tChain r r' ta tb tc) (fun ε σ F H φ Q ok h => chain_run k2 k4 q1 q2 q3 ok h) ok h⟩
/-! ### builtins in short -/
abbrev One1 (X : Cx) (pos : Pos) (e : Expr) (es : List Expr) : Prop := starEach (e :: es) X.env = (false, eval e X.env) :: starEach es X.env ∧ (backTo pos (starEach es X.env)).any (·.1) = false
theorem fe_len (hm : X.mg "len" = none) (ha : FA X W (e :: es) fa) (hg : Gl X "len" := by rfl) (h1 : One1 X pos e es := by exact ⟨rfl, rfl⟩) : FE X W (.Call (.Name "len" p) (e :: es) [] pos) (eOp gLen fa) := fe_cb c_len s_len hm boot_len ha hg (by decide) (by decide) h1.1 h1.2
theorem fe_abs (hm : X.mg "abs" = none) (ha : FA X W (e :: es) fa) (hg : Gl X "abs" := by rfl) (h1 : One1 X pos e es := by exact ⟨rfl, rfl⟩) : FE X W (.Call (.Name "abs" p) (e :: es) [] pos) (eOp gAbs fa) := fe_cb call_abs s_abs hm (by kernel_rfl) ha hg (by decide) (by decide) h1.1 h1.2
theorem fe_int1 (hm : X.mg "int" = none) (ha : FA X W (e :: es) fa) (hg : Gl X "int" := by rfl) (h1 : One1 X pos e es := by exact ⟨rfl, rfl⟩) : FE X W (.Call (.Name "int" p) (e :: es) [] pos) (eOp gInt fa) := fe_ty call_int1 s_int hm (by kernel_rfl) ha hg (by decide) (by decide) h1.1 h1.2
theorem fe_max2 (hc : X.calm = true) (hm : X.mg "max" = none) (ha : FA X W (e :: es) fa) (hg : Gl X "max" := by rfl) (h1 : One1 X pos e es := by exact ⟨rfl, rfl⟩) : FE X W (.Call (.Name "max" p) (e :: es) [] pos) (eOp gMax2 fa) := fe_cb (call_max2 hc) s_max2 hm boot_max ha hg (by decide) (by decide) h1.1 h1.2
theorem fe_min2 (hc : X.calm = true) (hm : X.mg "min" = none) (ha : FA X W (e :: es) fa) (hg : Gl X "min" := by rfl) (h1 : One1 X pos e es := by exact ⟨rfl, rfl⟩) : FE X W (.Call (.Name "min" p) (e :: es) [] pos) (eOp gMin2 fa) := fe_cb (call_min2 hc) s_min2 hm (by kernel_rfl) ha hg (by decide) (by decide) h1.1 h1.2
theorem fe_max1 (hc : X.calm = true) (hm : X.mg "max" = none) (ha : FA X W (e :: es) fa) (hg : Gl X "max" := by rfl) (h1 : One1 X pos e es := by exact ⟨rfl, rfl⟩) : FE X W (.Call (.Name "max" p) (e :: es) [] pos) (eOp gMax1 fa) := fe_cb (cr_max hc) s_max1 hm boot_max ha hg (by decide) (by decide) h1.1 h1.2
theorem fe_min1 (hc : X.calm = true) (hm : X.mg "min" = none) (ha : FA X W (e :: es) fa) (hg : Gl X "min" := by rfl) (h1 : One1 X pos e es := by exact ⟨rfl, rfl⟩) : FE X W (.Call (.Name "min" p) (e :: es) [] pos) (eOp gMin1 fa) := fe_cb (cr_min hc) s_min1 hm (by kernel_rfl) ha hg (by decide) (by decide) h1.1 h1.2
theorem fe_sum (hc : X.calm = true) (hm : X.mg "sum" = none) (ha : FA X W (e :: es) fa) (hg : Gl X "sum" := by rfl) (h1 : One1 X pos e es := by exact ⟨rfl, rfl⟩) : FE X W (.Call (.Name "sum" p) (e :: es) [] pos) (eOp gSum fa) := fe_cb (CallR.or (cr_sum hc) (cr_sumT hc)) s_sum hm (by kernel_rfl) ha hg (by decide) (by decide) h1.1 h1.2
theorem fe_list (hm : X.mg "list" = none) (ha : FA X W (e :: es) fa) (hg : Gl X "list" := by rfl) (h1 : One1 X pos e es := by exact ⟨rfl, rfl⟩) : FE X W (.Call (.Name "list" p) (e :: es) [] pos) (eOp gList fa) := fe_ty call_list_of s_list hm boot_list ha hg (by decide) (by decide) h1.1 h1.2
theorem fe_tuple (hm : X.mg "tuple" = none) (ha : FA X W (e :: es) fa) (hg : Gl X "tuple" := by rfl) (h1 : One1 X pos e es := by exact ⟨rfl, rfl⟩) : FE X W (.Call (.Name "tuple" p) (e :: es) [] pos) (eOp gTuple fa) := fe_ty call_tuple_of s_tuple hm (by kernel_rfl) ha hg (by decide) (by decide) h1.1 h1.2
theorem fe_sorted (hm : X.mg "sorted" = none) (ha : FA X W (e :: es) fa) (hg : Gl X "sorted" := by rfl) (h1 : One1 X pos e es := by exact ⟨rfl, rfl⟩) : FE X W (.Call (.Name "sorted" p) (e :: es) [] pos) (eOp gSorted fa) := fe_cb cr_sortedI s_sorted hm (by kernel_rfl) ha hg (by decide) (by decide) h1.1 h1.2
end
end FL
/-! the facts of a program behind its top, looked up in one run -/
namespace FLH
open PySem PySem.Spec PySem.Calls PyProof.Rows L2 PySem.W He FLE FL
abbrev FnC : Type := Option (Str × Str × Arguments × FuncBody × Scope × Addr × List Str × Addr)
def fnC (K : Frag) (a : Addr) : FnC := match K.lookup a with
  | some ⟨_, _, .func fd, _⟩ => some (fd.name, fd.qualname, fd.params, fd.body, fd.scope, fd.globals, fd.closure.map (·.1), fd.builtins)
  | _ => none
structure DefF where
  at_ : Frag → Addr
  name : Str
  qual : Str
  params : Arguments
  body : List Stmt
  scope : Scope
  cl : List Str := []
  dfl : List He.Dv := []
def DefF.val (d : DefF) : FnC := some (d.name, d.qual, d.params, .stmts d.body, d.scope, mainGlobals, d.cl, builtinsNs)
def DefF.dvs (K : Frag) (d : DefF) : List L2.V := d.dfl.map (He.Dv.v K)
def DefF.ok (K : Frag) (d : DefF) : Bool := keepIn K (.ref (d.at_ K)) && (match K.lookup (d.at_ K) with
  | some ⟨_, _, .func fd, _⟩ => codeIn K fd.code d.qual && (He.dflB K fd.defaults (d.dvs K) && He.kwdB K fd.kwdefaults [])
  | _ => false)
theorem DefF.fn {K : Frag} {d : DefF} (e : fnC K (d.at_ K) = d.val) (c : d.ok K = true) : ∃ (oc : Value) (od : Option Addr) (fd : FuncData) (osl : Array (Option Value)), K.lookup (d.at_ K) = some ⟨oc, od, .func fd, osl⟩ ∧ fd.name = d.name ∧ fd.qualname = d.qual ∧ fd.params = d.params ∧ fd.body = .stmts d.body ∧ fd.scope = d.scope ∧ fd.globals = mainGlobals ∧ fd.closure.map (·.1) = d.cl ∧ fd.builtins = builtinsNs ∧
    keepIn K (.ref (d.at_ K)) = true ∧ codeIn K fd.code d.qual = true ∧ He.dflB K fd.defaults (d.dvs K) = true ∧ He.kwdB K fd.kwdefaults [] = true := by
  obtain ⟨kp, c2⟩ := ba c
  unfold fnC at e
  cases q : K.lookup (d.at_ K) with
  | none => rw [q] at c2; cases c2
  | some o =>
    obtain ⟨oc, od, dt, osl⟩ := o
    rw [q] at c2 e
    cases dt with
    | func fd =>
      have e2 : (some (fd.name, fd.qualname, fd.params, fd.body, fd.scope, fd.globals, fd.closure.map (·.1), fd.builtins) : FnC) = some (d.name, d.qual, d.params, .stmts d.body, d.scope, mainGlobals, d.cl, builtinsNs) := e
      simp only [Option.some.injEq, Prod.mk.injEq] at e2
      obtain ⟨h1, h2, h3, h4, h5, h6, h7, h8⟩ := e2
      have c3 : (codeIn K fd.code d.qual && (He.dflB K fd.defaults (d.dvs K) && He.kwdB K fd.kwdefaults [])) = true := c2
      obtain ⟨k1, k2⟩ := ba c3
      obtain ⟨k3, k4⟩ := ba k2
      exact ⟨oc, od, fd, osl, rfl, h1, h2, h3, h4, h5, h6, h7, h8, kp, k1, k3, k4⟩
    | _ => cases c2
theorem DefF.funD {K : Frag} {d : DefF} (e : fnC K (d.at_ K) = d.val) (c : d.ok K = true) (hcl : d.cl = []) : ∃ fd, L2.FunD K d.name d.qual d.params d.body d.scope (d.dvs K) [] (d.at_ K) fd := by
  obtain ⟨oc, od, fd, osl, h0, h1, h2, h3, h4, h5, h6, h7, h8, kp, k1, k3, k4⟩ := DefF.fn e c
  obtain ⟨n1, n2, n3, n4, n5, n6, n7, n8, n9, n10, n11, n12, n13, n14, n15⟩ := fd
  dsimp only at h1 h2 h3 h4 h5 h6 h7 h8 k1 k3 k4
  rw [hcl] at h7
  have h7' := List.map_eq_nil_iff.mp h7
  subst h1 h2 h3 h4 h5 h6 h7' h8
  exact ⟨_, ⟨oc, od, n8, n9, n10, n11, n12, n13, n14, osl, rfl, h0, k1, He.dflB_ok k3, He.kwdB_ok k4⟩, kp⟩
/-! ### the run's hook -/
abbrev AlF : Type := Bool × List FnC
def obsF (bs : List (Frag → Bool)) (fn : List DefF) (K : Frag) : AlF := ((bs.all fun f => f K) && fn.all fun d => d.ok K, fn.map fun d => fnC K (d.at_ K))
def valF (fn : List DefF) : AlF := (true, fn.map DefF.val)
def SaysF (bs : List (Frag → Bool)) (fn : List DefF) (K : Frag) : Prop := obsF bs fn K = valF fn
def obsFG (n : Nat) (bs : List (Frag → Bool)) (fn : List DefF) (g : Addr → Option Obj) : AlF := obsF bs fn (frG g (He5.asA g n))
def hookF (n : Nat) (bs : List (Frag → Bool)) (fn : List DefF) : Hook where
  α := AlF
  obs := fun s => obsFG n bs fn s.heap.get?
  val := fun _ => valF fn
  says := fun _ h => ∃ K : Frag, K.In h ∧ SaysF bs fn K
  of := fun _ _ e => ⟨_, frG_in, e⟩
  keeps := fun _ _ _ ⟨K, hK, c⟩ k => ⟨K, Frag.In.keeps hK k, c⟩
theorem obsFG_eq {n : Nat} {bs : List (Frag → Bool)} {fn : List DefF} {g : Addr → Option Obj} {s : Shared} (h : ∀ a, g a = s.heap.get? a) : obsFG n bs fn g = (hookF n bs fn).obs s := by
  have e : g = s.heap.get? := funext h
  rw [e] <;> rfl
section
variable {bs : List (Frag → Bool)} {fn : List DefF} {K : Frag}
theorem SaysF.fact (c : SaysF bs fn K) (i : Nat) {f : Frag → Bool} (h : bs[i]? = some f := by rfl) : f K = true := by
  have c1 := (ba (show ((bs.all fun f => f K) && fn.all fun d => d.ok K) = true from congrArg (fun z : AlF => z.1) c)).1
  exact List.all_eq_true.mp c1 f (List.mem_of_getElem? h)
theorem SaysF.at' (c : SaysF bs fn K) (i : Nat) {d : DefF} (h : fn[i]? = some d) : fnC K (d.at_ K) = d.val ∧ d.ok K = true := by
  have c2 := (ba (show ((bs.all fun f => f K) && fn.all fun d => d.ok K) = true from congrArg (fun z : AlF => z.1) c)).2
  have e : fn.map (fun d => fnC K (d.at_ K)) = fn.map DefF.val := congrArg (fun z : AlF => z.2) c
  have e2 : (fn.map fun d => fnC K (d.at_ K))[i]? = (fn.map DefF.val)[i]? := by rw [e]
  rw [List.getElem?_map, List.getElem?_map, h] at e2
  exact ⟨Option.some.inj e2, List.all_eq_true.mp c2 d (List.mem_of_getElem? h)⟩
theorem SaysF.def_ (c : SaysF bs fn K) (i : Nat) {d : DefF} (h : fn[i]? = some d := by rfl) (hcl : d.cl = [] := by rfl) : ∃ fd, L2.FunD K d.name d.qual d.params d.body d.scope (d.dvs K) [] (d.at_ K) fd := DefF.funD (c.at' i h).1 (c.at' i h).2 hcl
end
/-! ### facts by looks -/
def oexB (K : Frag) (C : Addr) : Bool := (match K.lookup C with
  | some ⟨.type "type", _, .cls cd, sl⟩ => (match cd.mro, sl.toList with
    | .ref C' :: bm, [_, _, _, _, some (.builtin n), _] => C' == C && (n == "ValueError.__new__" && (!cd.hasDel && (cd.hasDict && HandSPX.refsVE bm)))
    | _, _ => false)
  | _ => false) && (decide (findIn K (.ref C) "__setattr__" = some (some (.builtin "object.__setattr__"))) && (decide (subIn K (.ref C) (.type "BaseException") = some true) && (decide (typeIn K (.ref C) = some (.type "type")) && keepIn K (.ref C))))
theorem oexB_ok {K : Frag} {C : Addr} (h : oexB K C = true) : OexC K C := by
  obtain ⟨h0, h⟩ := ba h
  obtain ⟨h1, h⟩ := ba h
  obtain ⟨h2, h⟩ := ba h
  obtain ⟨h3, h4⟩ := ba h
  refine ⟨?_, of_decide_eq_true h1, of_decide_eq_true h2, of_decide_eq_true h3, h4⟩
  split at h0
  · rename_i dd cd sl ho
    split at h0
    · rename_i C' bm k0 k1 k2 k3 n k5 hm hs
      obtain ⟨g1, h0⟩ := ba h0
      obtain ⟨g2, h0⟩ := ba h0
      obtain ⟨g3, h0⟩ := ba h0
      obtain ⟨g4, g5⟩ := ba h0
      obtain ⟨nm, bs, mro, ns, qn, hd, sn, sub, ab, col, del⟩ := cd
      dsimp only at hm g3 g4
      have e1 := beq_iff_eq.mp g1
      have e2 := beq_iff_eq.mp g2
      have e3 : del = false := by simpa using g3
      subst hm e1 e2 e3 g4
      have hsl : sl = #[k0, k1, k2, k3, some (.builtin "ValueError.__new__"), k5] := by
        obtain ⟨l⟩ := sl
        simp only at hs
        rw [hs]
      subst hsl
      exact ⟨nm, qn, ns, bs, bm, sn, sub, ab, col, dd, k0, k1, k2, k3, k5, ho, g5⟩
    · cases h0
  · cases h0
/-- what isinstance asks of the class of a caught error -/
def excB (K : Frag) (D : Addr) : Bool := decide (findIn K (.ref D) "__getattribute__" = some (some (.builtin "BaseException.__getattribute__"))) && (decide (findIn K (.ref D) "__getattr__" = some none) && (decide (subIn K (.ref D) (.type "BaseException") = some true) && (hasDictIn K D && (decide (findIn K (.ref D) "__class__" = some (some (.builtin "object.__class__"))) &&
  (decide (specialIn K (.builtin "object.__class__") "__get__" = some (some (.builtin "getset_descriptor.__get__"))) && (decide (takesIn K (.builtin "object.__class__") = some true) && decide (mroIn K D (.type "object") = some true)))))))
theorem excB_ok {K : Frag} {D : Addr} (h : excB K D = true) : L2.ExcC K D := by
  obtain ⟨h1, h⟩ := ba h
  obtain ⟨h2, h⟩ := ba h
  obtain ⟨h3, h⟩ := ba h
  obtain ⟨h4, h⟩ := ba h
  obtain ⟨h5, h⟩ := ba h
  obtain ⟨h6, h⟩ := ba h
  obtain ⟨h7, h8⟩ := ba h
  exact ⟨of_decide_eq_true h1, of_decide_eq_true h2, of_decide_eq_true h3, h4, of_decide_eq_true h5, of_decide_eq_true h6, of_decide_eq_true h7, of_decide_eq_true h8⟩
def ownB (c : Str) (K : Frag) : Bool := (Fa.cls c).ok K && (decide (findIn K (.ref (ga K c)) "__class__" = some (some (.builtin "object.__class__"))) && (decide (specialIn K (.builtin "object.__class__") "__get__" = some (some (.builtin "getset_descriptor.__get__"))) && (decide (takesIn K (.builtin "object.__class__") = some true) && decide (mroIn K (ga K c) (.type "object") = some true))))
theorem ownB_ok {K : Frag} {c : Str} (h : ownB c K = true) : OwnC K c := by
  obtain ⟨h1, h⟩ := ba h
  obtain ⟨h2, h⟩ := ba h
  obtain ⟨h3, h⟩ := ba h
  obtain ⟨h4, h5⟩ := ba h
  exact ⟨cls_ok h1, of_decide_eq_true h2, of_decide_eq_true h3, of_decide_eq_true h4, of_decide_eq_true h5⟩
/-- a list of classes asked for their instances -/
def ownsB (cs : List Str) (K : Frag) : Bool := cs.all fun c => ownB c K
theorem ownsB_ok {K : Frag} {cs : List Str} (h : ownsB cs K = true) : ∀ c ∈ cs, OwnC K c := fun c hc => ownB_ok (List.all_eq_true.mp h c hc)
def itabB (tab : ITab) (K : Frag) : Bool := tab.all fun q => decide (kitOne K (tgV K q.1) (tgV K q.2.1) = some q.2.2)
theorem itabB_ok {K : Frag} {tab : ITab} (h : itabB tab K = true) : ItabOk K tab := fun q hq => of_decide_eq_true (List.all_eq_true.mp h q hq)
def xtabB (et : XTab) (K : Frag) : Bool := et.all fun q => decide (exmOne K (.ref (ga K q.1)) (.ref (ga K q.2.1)) = some q.2.2)
theorem xtabB_ok {K : Frag} {et : XTab} (h : xtabB et K = true) : XtabOk K et := fun q hq => of_decide_eq_true (List.all_eq_true.mp h q hq)
def ftabB (ft : FTab) (K : Frag) : Bool := ft.all fun q => (Fa.cls q.1).ok K && q.2.all fun f => (Fa.noat q.1 f).ok K
theorem ftabB_ok {K : Frag} {ft : FTab} (h : ftabB ft K = true) : FtabOk K ft := fun q hq => by
  obtain ⟨h1, h2⟩ := ba (List.all_eq_true.mp h q hq)
  exact ⟨cls_ok h1, fun f hf => noat_ok (List.all_eq_true.mp h2 f hf)⟩
def xokB (xs fns : List Str) (K : Frag) : Bool := xs.all fun c => xfB K (ga K c) && (excB K (ga K c) && fns.all fun n => decide (findIn K (.ref (ga K c)) n = some none))
theorem xokB_ok {K : Frag} {xs fns : List Str} (h : xokB xs fns K = true) : XOk K xs fns := by
  have h' : ∀ c ∈ xs, xfB K (ga K c) = true ∧ (excB K (ga K c) = true ∧ (fns.all fun n => decide (findIn K (.ref (ga K c)) n = some none)) = true) := fun c hc => by
    obtain ⟨h1, h2⟩ := ba (List.all_eq_true.mp h c hc)
    exact ⟨h1, ba h2⟩
  exact ⟨fun c hc => xfB_ok (h' c hc).1, fun c hc n hn => of_decide_eq_true (List.all_eq_true.mp (h' c hc).2.2 n hn), fun c hc => excB_ok (h' c hc).2.1⟩
def freesB (xs : List Str) (K : Frag) : Bool := xs.all fun x => (Fa.free x).ok K
theorem freesB_ok {K : Frag} {h : Heap} {mg : Str → Option Value} (X : K.In h) (G : h.Ns mainGlobals mg) {xs : List Str} (c : freesB xs K = true) {x : Str} (hx : x ∈ xs) : mg x = none := free_ok X G (List.all_eq_true.mp c x hx)
def glosB (xs : List Str) (K : Frag) : Bool := xs.all fun x => (Fa.glo x).ok K
theorem glosB_ok {K : Frag} {h : Heap} {mg : Str → Option Value} (X : K.In h) (G : h.Ns mainGlobals mg) {xs : List Str} (c : glosB xs K = true) {x : Str} (hx : x ∈ xs) : mg x = some (.ref (ga K x)) := glo_ok X G (List.all_eq_true.mp c x hx)
/-- an exception's __init__ -/
def exfB (P : Program) (c qual : Str) (K : Frag) : Bool := (match K.lookup (ma K (ga K c) "__init__") with
  | some ⟨_, _, .func fd, _⟩ => (match fd.closure, fd.code with
    | [(n, cc)], .ref cda => n == ("__class__" : Str) && ((match K.lookup cda with
      | some ⟨_, _, .fields vs, _⟩ => (match (vs[2]? : Option Value) with
        | some (Value.str file _) => (P.main.file : Str) == file
        | _ => false)
      | _ => false) && ((match K.lookup cc with
      | some ⟨_, _, .cell (some (.ref D)), _⟩ => decide (D = ga K c)
      | _ => false) && codeIn K (.ref cda) qual))
    | _, _ => false)
  | _ => false) && (decide (mroIn K (ga K c) (.ref (ga K c)) = some true) && (decide (nsIn K mainGlobals "super" = some none) && (!(P.main.scope.names.lookup ("super" : Str)).isSome && (decide (nsIn K cStatics "thirdparty.any" = some none) && (decide (ks_superIn K (ga K c) (ga K c) "__init__" = some (some (.builtin "ValueError.__init__"))) &&
    (decide (subIn K (.ref (ga K c)) (.type "ValueError") = some true) && (oexB K (ga K c) && (decide (findIn K (.ref (ga K c)) "__init__" = some (some (.ref (ma K (ga K c) "__init__")))) && decide (typeIn K (.ref (ma K (ga K c) "__init__")) = some (.type "function"))))))))))
theorem exfB_ok {P : Program} {K : Frag} {c qual : Str} {st : Stmt} (h : exfB P c qual K = true) (e : fnC K (ma K (ga K c) "__init__") = (some ("__init__", qual, defArgs st, .stmts (defBody st), defScope st, mainGlobals, ["__class__"], builtinsNs) : FnC)) :
    (∃ cc cda fd, ExF P K (ga K c) (ma K (ga K c) "__init__") cc cda qual st fd) ∧ findIn K (.ref (ga K c)) "__init__" = some (some (.ref (ma K (ga K c) "__init__"))) ∧ typeIn K (.ref (ma K (ga K c) "__init__")) = some (.type "function") := by
  obtain ⟨h0, h⟩ := ba h
  obtain ⟨h1, h⟩ := ba h
  obtain ⟨h2, h⟩ := ba h
  obtain ⟨h3, h⟩ := ba h
  obtain ⟨h4, h⟩ := ba h
  obtain ⟨h5, h⟩ := ba h
  obtain ⟨h6, h⟩ := ba h
  obtain ⟨h7, h⟩ := ba h
  obtain ⟨h8, h9⟩ := ba h
  refine ⟨?_, of_decide_eq_true h8, of_decide_eq_true h9⟩
  unfold fnC at e
  split at h0
  · rename_i oc od fd osl ho
    rw [ho] at e
    split at h0
    · rename_i n cc cda hcl hcd
      obtain ⟨g1, h0⟩ := ba h0
      obtain ⟨g2, h0⟩ := ba h0
      obtain ⟨g3, g4⟩ := ba h0
      have en := eq_of_beq g1
      subst en
      simp only [Option.some.injEq, Prod.mk.injEq] at e
      obtain ⟨q1, q2, q3, q4, q5, q6, q7, q8⟩ := e
      split at g2
      · rename_i ccl cdd vs ccs hoc
        split at g2
        · rename_i file tf hvs
          split at g3
          · rename_i cl cld D csl hce
            have eD := of_decide_eq_true g3
            subst eD
            obtain ⟨n1, n2, n3, n4, n5, n6, n7, n8, n9, n10, n11, n12, n13, n14, n15⟩ := fd
            dsimp only at hcl hcd q1 q2 q3 q4 q5 q6 q8
            subst hcl hcd q1 q2 q3 q4 q5 q6 q8
            exact ⟨cc, cda, _, ⟨n8, n9, n10, n11, n14, n12, rfl⟩, ⟨oc, od, osl, ho⟩, g4, ⟨ccl, cdd, vs, ccs, file, tf, hoc, hvs, g2⟩, ⟨cl, cld, csl, hce⟩, of_decide_eq_true h1, of_decide_eq_true h2, by simpa using h3, of_decide_eq_true h4, of_decide_eq_true h5, of_decide_eq_true h6, oexB_ok h7⟩
          · cases g3
        · cases g2
      · cases g2
    · cases h0
  · cases h0
end FLH
namespace FLH
open PySem PySem.Spec PySem.Calls PyProof.Rows L2 PySem.W He FLE FL NdefX
def cBody : Stmt → List Stmt
  | .ClassDef (body := b) .. => b
  | _ => []
/-- where a property's getter stands -/
def prAt (c f : Str) (K : Frag) : Addr := match recIn K (ma K (ga K c) f) "property" with
  | some (.ref g :: _) => g
  | _ => 0
def propB (c f : Str) (K : Frag) : Bool := (Fa.cls c).ok K && (decide (findIn K (.ref (ga K c)) f = some (some (.ref (ma K (ga K c) f)))) && (decide (specialIn K (.ref (ma K (ga K c) f)) "__get__" = some (some (.builtin "property.__get__"))) && (decide (takesIn K (.ref (ma K (ga K c) f)) = some true) && (match recIn K (ma K (ga K c) f) "property" with
  | some (.ref _ :: _) => true
  | _ => false))))
theorem propB_ok {c f : Str} {K : Frag} (h : propB c f K = true) : Cls K (ga K c) ∧ PropOf K (ga K c) f (ma K (ga K c) f) (prAt c f K) := by
  obtain ⟨h1, h⟩ := ba h
  obtain ⟨h2, h⟩ := ba h
  obtain ⟨h3, h⟩ := ba h
  obtain ⟨h4, h5⟩ := ba h
  refine ⟨cls_ok h1, of_decide_eq_true h2, of_decide_eq_true h3, of_decide_eq_true h4, ?_⟩
  unfold prAt
  split at h5
  · rename_i g rest e
    rw [e]
    exact ⟨rest, rfl⟩
  · cases h5
def cmAt (c m : Str) (K : Frag) : Addr := He5.wf K (ga K c) "classmethod" m
/-- a classmethod: read of the class -/
def cmB (c m : Str) (K : Frag) : Bool := readsIn K (ga K c) (.type "type") && (decide (specialIn K (.ref (ga K c)) "__getattribute__" = some (some (.builtin "type.__getattribute__"))) && (He5.wrapB K (ga K c) "classmethod" "classmethod.__get__" m && fnIn K (cmAt c m K)))
theorem cmB_ok {c m : Str} {K : Frag} (h : cmB c m K = true) : ClX.CRead K (ga K c) (.type "type") ∧ ClX.CMet K (ga K c) (.type "type") m (ma K (ga K c) m) (cmAt c m K) := by
  obtain ⟨h1, h⟩ := ba h
  obtain ⟨h2, h⟩ := ba h
  obtain ⟨h3, h4⟩ := ba h
  exact ⟨⟨h1, of_decide_eq_true h2⟩, He5.cmet_of h3 h4⟩
def lenB (c : Str) (K : Frag) : Bool := decide (findIn K (.ref (ga K c)) "__len__" = some (some (.ref (ma K (ga K c) "__len__")))) && isFn K (.ref (ma K (ga K c) "__len__"))
theorem lenB_ok {c : Str} {K : Frag} (h : lenB c K = true) : findIn K (.ref (ga K c)) "__len__" = some (some (.ref (ma K (ga K c) "__len__"))) ∧ isFn K (.ref (ma K (ga K c) "__len__")) = true := by
  obtain ⟨h1, h2⟩ := ba h
  exact ⟨of_decide_eq_true h1, h2⟩
theorem exR_of {P : Program} {w : World} {K : Frag} {mg : Str → Option Value} {base : Heap} {bs : List (Frag → Bool)} {fn : List DefF} {i : Nat} {c qual : Str} {st : Stmt} {N ps' fs : List Str} {p0 p1 p2 p3 p4 p5 : Pos} {z : Str} {j : Nat} {sts : List Stmt} {ar : PySem.Arg} (sy : SaysF bs fn K) (hfn : fn[i]? = some ⟨fun K => ma K (ga K c) "__init__", "__init__", qual, defArgs st, defBody st, defScope st, ["__class__"], []⟩) (hx : exfB P c qual K = true) (gl : mg c = some (.ref (ga K c)))
    (hno : ∀ g ∈ fs, findIn K (.ref (ga K c)) g = some none) (S : NScope N (("self" : Str) :: ps') [("__class__" : Str)] (defScope st)) (hpar : ((defArgs st).posonlyargs ++ (defArgs st).args).head? = some ar) (har : ar.arg = "self") (hks : (defScope st).names.lookup ("super" : Str) = some .globalImplicit)
    (hb : defBody st = .Expr (.Call (.Attribute (.Call (.Name "super" p0) [] [] p1) "__init__" p2) [.Constant (.str z) j p3] [] p4) p5 :: sts)
    (hst : ∀ (cc cda f : Addr) (A : Around) (outer : List Env) (s : Shared) (H : Hp) (E : XK), PSs (ncx (L2N.CX P w) P w K mg base N ⟨"__init__", qual, defArgs st, defBody st, defScope st, [(("__class__" : Str), cc)], cda⟩ f A outer s H E) sts (tStores K (fs.zip (List.range' 1 fs.length))))
    (hlen : fs.length = ps'.length) (hne : fs ≠ []) (hl8 : fs.length ≤ 800)
    (hsw : ∀ env, swapsWith (.Call (.Attribute (.Call (.Name "super" p0) [] [] p1) "__init__" p2) [.Constant (.str z) j p3] [] p4) none p5.line env = pure false) (hin : ∀ (L f cda cc : Addr), interactive (ksEnv qual (defScope st) L f (.ref cda) cc) = false) (hev : ∀ (L f cda cc : Addr), ∃ pl : Sem Bool, eval (.Call (.Attribute (.Call (.Name "super" p0) [] [] p1) "__init__" p2) [.Constant (.str z) j p3] [] p4) (ksEnv qual (defScope st) L f (.ref cda) cc) = (do
      let ov ← attributeBase (.Call (.Name "super" p0) [] [] p1) "__init__" (ksEnv qual (defScope st) L f (.ref cda) cc) (eval (.Call (.Name "super" p0) [] [] p1) (ksEnv qual (defScope st) L f (.ref cda) cc))
      standAt p2.atName
      let (f', first) ← holding [ov] (getMethod ov "__init__" pl)
      callWith p4 f' first (backTo p4 (starEach [.Constant (.str z) j p3] (ksEnv qual (defScope st) L f (.ref cda) cc))) []))
    (hbind : ∀ (kV doc pm cdv ct : Value) (an : Option Addr) (cc : Addr) (us : List Value), us.length = (("self" : Str) :: ps').length → bindArgs (ksFn "__init__" qual (defArgs st) (defBody st) (defScope st) .none kV doc pm an cdv ct cc) ⟨us, []⟩ = pure ((("self" : Str) :: ps').zip us)) :
    ExR P w K mg base 1 c fs := by
  obtain ⟨e, ok⟩ := sy.at' i hfn
  obtain ⟨oc, od, fd0, osl, h0, _, _, _, _, _, _, _, _, _, _, kd, _⟩ := DefF.fn e ok
  obtain ⟨⟨cc, cda, fd, XF⟩, i1, i2⟩ := exfB_ok (st := st) hx e
  obtain ⟨oc', od', osl', h0'⟩ := XF.at_
  have ef : fd0 = fd := by
    have h0'' : K.lookup (ma K (ga K c) "__init__") = some ⟨oc, od, .func fd0, osl⟩ := h0
    rw [h0'] at h0''
    cases h0''; rfl
  subst ef
  refine ⟨⟨_, fd0, ("self" : Str) :: ps', XF.T, i1, i2, exInit_ok (k := 0) XF S hpar har hks hb (fun A outer s H E => hst cc cda _ A outer s H E) hno hlen hne hl8 hsw (fun L => hin L _ _ _) (fun L => hev L _ _ _), ?_⟩, gl⟩
  obtain ⟨dV, kV, doc, pm, ct, an, e2⟩ := XF.fn
  have hd := He.dflB_ok kd
  rw [e2] at hd ⊢
  have hdV : dV = .none := by
    rcases hd with ⟨_, h⟩ | ⟨h, _⟩
    · exact h
    · exact absurd rfl h
  subst hdV
  exact .all fun us hl => hbind kV doc pm _ ct an cc us hl
theorem kinOk_of {P : Program} {w : World} {K : Frag} {mg : Str → Option Value} {base : Heap} {k1 : Str} {st : Stmt} {qual e : Str} {f : Addr} {fd : FuncData} {xs fns N : List Str} {q1 q2 q3 q4 q5 q6 q7 q8 q9 q10 : Pos} (kin : Str) (F : FunD K kin qual (defArgs st) (defBody st) (defScope st) [] [] f fd) (gl : mg kin = some (.ref f)) (hb : defBody st = [.Return (some (.BoolOp .And [.Call (.Name "isinstance" q1) [.Name e q2, .Name k1 q3] [] q4, .Call (.Name "isinstance" q5) [.Name e q6, .Name "ValueError" q7] [] q8] q9)) q10])
    (S : FnScope N [e] (defScope st)) (hN : N[0]? = some e) (he : (defScope st).names.lookup e = some .local) (hgi : (defScope st).names.lookup ("isinstance" : Str) = some .globalImplicit) (hg1 : (defScope st).names.lookup k1 = some .globalImplicit) (hg2 : (defScope st).names.lookup ("ValueError" : Str) = some .globalImplicit)
    (m1 : mg k1 = some (.ref (ga K k1))) (mi : mg "isinstance" = none) (mv : mg "ValueError" = none) (hd1 : (k1 == ("__debug__" : Str)) = false) (hde : (e == ("__debug__" : Str)) = false) (hce : (e == ("__classdict__" : Str)) = false) (O : XOk K xs fns)
    (hs1 : ∀ env, starEach [.Name e q2, .Name k1 q3] env = (false, eval (.Name e q2) env) :: starEach [.Name k1 q3] env) (hs2 : ∀ env, starEach [.Name k1 q3] env = (false, eval (.Name k1 q3) env) :: starEach [] env) (hp1 : ∀ env, (backTo q4 (starEach [.Name k1 q3] env)).any (·.1) = false)
    (hs3 : ∀ env, starEach [.Name e q6, .Name "ValueError" q7] env = (false, eval (.Name e q6) env) :: starEach [.Name "ValueError" q7] env)
    (hbind : ∀ (kV doc pm : Value) (an : Option Addr) (cdv ct : Value) (us : List Value), us.length = [e].length → bindArgs (fnOf kin qual (defArgs st) (defBody st) (defScope st) .none kV doc pm an cdv ct) ⟨us, []⟩ = pure ([e].zip us)) : KinOk P w K mg base 1 kin k1 xs := by
  refine ⟨⟨f, fd, e, gl, F.kp, F.bindsN hbind, fun c hc a dd oe hz hf => ?_⟩⟩
  rw [hb] at F
  exact kin_ok (c2 := k1) F S hN he hgi hg1 hg2 m1 mi mv hd1 hde hce (O.xc c hc) hz hf hs1 hs2 hp1 hs3
theorem fnM_bad {P : Program} {w : World} {K : Frag} {mg : Str → Option Value} {base : Heap} {k : Nat} {f : Addr} {n : Nat} : FnM P w K mg base k f n (fun _ => .bad) := fun A outer s H us vs Q E hr e0 r h => by
  obtain ⟨_, ms, F, ψ, _, h⟩ := h
  exact h.elim
end FLH
/-! symbolic runs: how each form goes on, by its parts -/
namespace FL
open PySem PySem.Spec PyProof.Rows L2
def SOut.th (o : SOut) (g : En → SOut) : SOut := match o with
  | .nx ε => g ε
  | o => o
section
variable (ε : En) (m : M) (c : Str) (fs : List (Str × D)) (g : En → SOut)
@[simp] theorem th_nx : (SOut.nx ε).th g = g ε := rfl
@[simp] theorem th_rt : (SOut.rt m ε).th g = .rt m ε := rfl
@[simp] theorem th_ex : (SOut.ex c fs ε).th g = .ex c fs ε := rfl
@[simp] theorem th_bk : (SOut.bk ε).th g = .bk ε := rfl
@[simp] theorem th_ct : (SOut.ct ε).th g = .ct ε := rfl
@[simp] theorem th_bad : SOut.bad.th g = .bad := rfl
end
def Out.toS {α : Type} (o : Out α) (k : α → En → SOut) : SOut := match o with
  | .ok a ε => k a ε
  | .ex c fs ε => .ex c fs ε
  | .bad => .bad
section
variable {α : Type} (ε : En) (a : α) (c : Str) (fs : List (Str × D)) (k : α → En → SOut)
@[simp] theorem toS_ok : (Out.ok a ε).toS k = k a ε := rfl
@[simp] theorem toS_ex : (Out.ex c fs ε : Out α).toS k = .ex c fs ε := rfl
@[simp] theorem toS_bad : (Out.bad : Out α).toS k = .bad := rfl
end
section
variable (ε : En) (f g : En → SOut) (e e2 : En → Out M) (t : En → Out Bool) (i : Nat)
@[simp] theorem sSeq_ev : sSeq f g ε = (f ε).th g := by
  unfold sSeq SOut.th
  cases f ε <;> rfl
@[simp] theorem sNil_ev : sNil ε = .nx ε := rfl
@[simp] theorem sDrop_ev : sDrop e ε = (e ε).toS fun _ ε' => .nx ε' := by
  unfold sDrop Out.toS
  cases e ε <;> rfl
@[simp] theorem sSet_ev : sSet i e ε = (e ε).toS fun m ε' => .nx (ε'.set i (some m)) := by
  unfold sSet Out.toS
  cases e ε <;> rfl
@[simp] theorem sRet_ev : sRet e ε = (e ε).toS fun m ε' => .rt m ε' := by
  unfold sRet Out.toS
  cases e ε <;> rfl
@[simp] theorem sRetN_ev : sRetN ε = .rt (.d .non) ε := rfl
def retV (ε : En) (i : Nat) : Option (Option M) → SOut
  | some (some m) => .rt m (ε.set i none)
  | _ => .bad
@[simp] theorem retV_some (m : M) : retV ε i (some (some m)) = .rt m (ε.set i none) := rfl
@[simp] theorem sRetV_ev : sRetV i ε = retV ε i (ε[i]?) := by
  unfold sRetV retV
  rfl
@[simp] theorem sIf_ev : sIf t f g ε = (t ε).toS fun b ε1 => if b = true then f ε1 else g ε1 := by
  unfold sIf Out.toS
  cases t ε <;> rfl
@[simp] theorem tVal_ev : tVal e ε = (e ε).bnd fun m ε1 => match m with
  | .d (.bl b) => .ok b ε1
  | _ => .bad := rfl
@[simp] theorem tAnd_ev (t2 : En → Out Bool) : tAnd' t t2 ε = (t ε).bnd fun b ε1 => if b = true then t2 ε1 else .ok false ε1 := rfl
@[simp] theorem tOr_ev (t2 : En → Out Bool) : tOr' t t2 ε = (t ε).bnd fun b ε1 => if b = true then .ok true ε1 else t2 ε1 := rfl
@[simp] theorem tNot_ev : tNot' t ε = (t ε).bnd fun b ε1 => .ok (!b) ε1 := rfl
@[simp] theorem tOne_ev : tOne ε = .ok true ε := rfl
@[simp] theorem eIf_ev : eIf t e e2 ε = (t ε).bnd fun b ε1 => if b = true then e ε1 else e2 ε1 := rfl
@[simp] theorem eAnd_ev : eAnd e e2 ε = (e ε).bnd fun m ε1 => match m with
  | .d (.bl true) => e2 ε1
  | .d (.bl false) => .ok (.d (.bl false)) ε1
  | _ => .bad := rfl
@[simp] theorem eOr_ev : eOr e e2 ε = (e ε).bnd fun m ε1 => match m with
  | .d (.bl true) => .ok (.d (.bl true)) ε1
  | .d (.bl false) => e2 ε1
  | _ => .bad := rfl
@[simp] theorem eNot_ev : eNot e ε = (e ε).bnd fun m ε1 => match m with
  | .d (.bl b) => .ok (.d (.bl (!b))) ε1
  | _ => .bad := rfl
@[simp] theorem eC_ev (d : D) : eC d ε = .ok (.d d) ε := rfl
end
/-! operands -/
section
variable (ε : En) (i : Nat) (m : M) (x : D) (oa ob oc : En → Out FL.Arg) (fa : En → Out (List FL.Arg))
def vget : Option (Option M) → Option M
  | some (some m) => some m
  | _ => none
@[simp] theorem vget_some : vget (some (some m)) = some m := rfl
@[simp] theorem vget_none : vget (some none) = none := rfl
@[simp] theorem rd_val : rd ε (.val x) = some (.d x) := rfl
@[simp] theorem rd_var : rd ε (.var i) = vget (ε[i]?) := rfl
@[simp] theorem rds_nil : rds ε [] = some [] := rfl
def rcons : Option M → Option (List M) → Option (List M)
  | some m, some ms => some (m :: ms)
  | _, _ => none
@[simp] theorem rcons_some (ms : List M) : rcons (some m) (some ms) = some (m :: ms) := rfl
@[simp] theorem rds_cons (a : FL.Arg) (as : List FL.Arg) : rds ε (a :: as) = rcons (rd ε a) (rds ε as) := by
  unfold rcons
  rw [rds]
  all_goals (cases rd ε a <;> cases rds ε as <;> rfl)
def ovr (ε : En) (i : Nat) : Option (Option M) → Out FL.Arg
  | some (some _) => .ok (.var i) ε
  | _ => .bad
@[simp] theorem ovr_some : ovr ε i (some (some m)) = .ok (.var i) ε := rfl
@[simp] theorem oVar_ev : oVar i ε = ovr ε i (ε[i]?) := rfl
@[simp] theorem oV_ev (f : En → Out M) : oV f ε = (f ε).bnd fun m ε' => .ok (.val m.toD) ε' := rfl
@[simp] theorem aNil_ev : aNil ε = .ok [] ε := rfl
@[simp] theorem aCons_ev : aCons oa fa ε = (oa ε).bnd fun a ε1 => (fa ε1).bnd fun as ε2 => .ok (a :: as) ε2 := rfl
@[simp] theorem toD_d : (M.d x).toD = x := rfl
@[simp] theorem toD_ol (xs : List D) : (M.ol xs).toD = .lst xs := rfl
@[simp] theorem toD_on (ms : List M) : (M.on ms).toD = .lst (M.toDs ms) := rfl
@[simp] theorem toD_oo (c : Str) (fs : List (Str × M)) : (M.oo c fs).toD = .obj c (M.toDf fs) := rfl
@[simp] theorem toDf_nil : M.toDf [] = [] := rfl
@[simp] theorem toDf_cons (k : Str) (fs : List (Str × M)) : M.toDf ((k, m) :: fs) = (k, m.toD) :: M.toDf fs := rfl
@[simp] theorem toDs_nil : M.toDs [] = [] := rfl
@[simp] theorem toDs_cons (ms : List M) : M.toDs (m :: ms) = m.toD :: M.toDs ms := rfl
def op2 (g : M → M → Option M) (ε : En) : Option M → Option M → Out M
  | some m, some n => optO (g m n) ε
  | _, _ => .bad
@[simp] theorem op2_some (g : M → M → Option M) (n : M) : op2 g ε (some m) (some n) = optO (g m n) ε := rfl
@[simp] theorem eOp2_ev (g : M → M → Option M) : eOp2 g oa ob ε = (oa ε).bnd fun a ε1 => (ob ε1).bnd fun b ε2 => op2 g ε2 (rd ε2 a) (rd ε2 b) := by
  unfold eOp2 op2
  rfl
def op1 (g : M → Option M) (ε : En) : Option M → Out M
  | some m => optO (g m) ε
  | _ => .bad
@[simp] theorem op1_some (g : M → Option M) : op1 g ε (some m) = optO (g m) ε := rfl
@[simp] theorem eOp1_ev (g : M → Option M) : eOp1 g oa ε = (oa ε).bnd fun a ε1 => op1 g ε1 (rd ε1 a) := rfl
def opN (g : List M → Option M) (ε : En) : Option (List M) → Out M
  | some ms => optO (g ms) ε
  | none => .bad
@[simp] theorem opN_some (g : List M → Option M) (ms : List M) : opN g ε (some ms) = optO (g ms) ε := rfl
@[simp] theorem eOp_ev (g : List M → Option M) : eOp g fa ε = (fa ε).bnd fun as ε1 => opN g ε1 (rds ε1 as) := rfl
def ch2 (g' : M → M → Option M) (oc : En → Out FL.Arg) (y : FL.Arg) (ε2 : En) (r : Option M) : Out M := match r with
  | some (.d (.bl true)) => (oc ε2).bnd fun z ε3 => op2 g' ε3 (rd ε3 y) (rd ε3 z)
  | some (.d (.bl false)) => .ok (.d (.bl false)) ε2
  | _ => .bad
def ch1 (g g' : M → M → Option M) (oc : En → Out FL.Arg) (y : FL.Arg) (ε2 : En) : Option M → Option M → Out M
  | some m, some n => ch2 g' oc y ε2 (g m n)
  | _, _ => .bad
@[simp] theorem eChain_ev (g g' : M → M → Option M) : eChain g g' oa ob oc ε = (oa ε).bnd fun x ε1 => (ob ε1).bnd fun y ε2 => ch1 g g' oc y ε2 (rd ε2 x) (rd ε2 y) := by
  unfold eChain ch1 ch2 op2
  rfl
@[simp] theorem ch2_bl (g' : M → M → Option M) (y : FL.Arg) (b : Bool) : ch2 g' oc y ε (some (.d (.bl b))) = if b = true then (oc ε).bnd fun z ε3 => op2 g' ε3 (rd ε3 y) (rd ε3 z) else .ok (.d (.bl false)) ε := by
  cases b <;> rfl
@[simp] theorem ch1_some (g g' : M → M → Option M) (y : FL.Arg) (n : M) : ch1 g g' oc y ε (some m) (some n) = ch2 g' oc y ε (g m n) := rfl
end
/-! names as data, displays -/
section
variable (ε : En) (i : Nat) (m : M) (x : D)
def frz (ε : En) (i : Nat) : Option (Option M) → Option (D × En)
  | some (some (.d x)) => some (x, ε)
  | some (some m) => some (m.toD, ε.set i (some (.d m.toD)))
  | _ => none
@[simp] theorem frzV_ev : frzV ε i = frz ε i (ε[i]?) := rfl
@[simp] theorem frz_d : frz ε i (some (some (.d x))) = some (x, ε) := rfl
@[simp] theorem frz_ol (xs : List D) : frz ε i (some (some (.ol xs))) = some (.lst xs, ε.set i (some (.d (.lst xs)))) := rfl
@[simp] theorem frz_on (xs : List M) : frz ε i (some (some (.on xs))) = some (.lst (M.toDs xs), ε.set i (some (.d (.lst (M.toDs xs))))) := rfl
@[simp] theorem frz_oo (c : Str) (fs : List (Str × M)) : frz ε i (some (some (.oo c fs))) = some (.obj c (M.toDf fs), ε.set i (some (.d (.obj c (M.toDf fs))))) := rfl
def rdc (d : D) : Option (List D × En) → Option (List D × En)
  | some (ds, ε') => some (d :: ds, ε')
  | none => none
@[simp] theorem rdc_some (d : D) (ds : List D) : rdc d (some (ds, ε)) = some (d :: ds, ε) := rfl
def rdf (k : En → Option (List D × En)) : Option (D × En) → Option (List D × En)
  | some (x, ε1) => rdc x (k ε1)
  | none => none
@[simp] theorem rdf_some (k : En → Option (List D × En)) : rdf k (some (x, ε)) = rdc x (k ε) := rfl
@[simp] theorem resD_nil : resD ε [] = some ([], ε) := rfl
@[simp] theorem resD_val (as : List FL.Arg) : resD ε (.val x :: as) = rdc x (resD ε as) := by
  rw [resD]
  unfold rdc
  cases resD ε as <;> rfl
@[simp] theorem resD_var (as : List FL.Arg) : resD ε (.var i :: as) = rdf (fun ε1 => resD ε1 as) (frzV ε i) := by
  rw [resD]
  unfold rdf rdc
  cases frzV ε i with
  | none => rfl
  | some y =>
    obtain ⟨y, z⟩ := y
    simp only
    all_goals (cases resD z as <;> rfl)
def onD {α : Type} (k : List D → En → Out α) : Option (List D × En) → Out α
  | some (ds, ε2) => k ds ε2
  | none => .bad
@[simp] theorem onD_some {α : Type} (k : List D → En → Out α) (ds : List D) : onD k (some (ds, ε)) = k ds ε := rfl
@[simp] theorem eDisp_ev (mk : List D → M) (fa : En → Out (List FL.Arg)) : eDisp mk fa ε = (fa ε).bnd fun as ε1 => onD (fun ds ε2 => if ds.length ≤ lim then .ok (mk ds) ε2 else .bad) (resD ε1 as) := by
  unfold eDisp onD
  rfl
def onF (ε : En) : Option (D × En) → Out M
  | some (x, ε') => .ok (.d x) ε'
  | none => .bad
@[simp] theorem onF_some (ε' : En) : onF ε (some (x, ε')) = .ok (.d x) ε' := rfl
@[simp] theorem eName_ev : eName i ε = onF ε (frzV ε i) := by
  unfold eName onF
  rfl
end
/-! calls -/
section
variable (ε : En) (i : Nat) (m : M) (x : D) (mir : List M → FOut)
def rcc (c : CA) : Option (List CA × En) → Option (List CA × En)
  | some (cs, ε') => some (c :: cs, ε')
  | none => none
@[simp] theorem rcc_some (c : CA) (cs : List CA) : rcc c (some (cs, ε)) = some (c :: cs, ε) := rfl
def rcf (k : En → Option (List CA × En)) : Option (D × En) → Option (List CA × En)
  | some (x, ε1) => rcc (.da x) (k ε1)
  | none => none
@[simp] theorem rcf_some (k : En → Option (List CA × En)) : rcf k (some (x, ε)) = rcc (.da x) (k ε) := rfl
def rcb (ε : En) (i : Nat) (k : Option (List CA × En)) : Option (Option M) → Option (List CA × En)
  | some (some (.d x)) => rcc (.da x) k
  | some (some _) => rcc (.bo i) k
  | _ => none
@[simp] theorem rcb_d (k : Option (List CA × En)) : rcb ε i k (some (some (.d x))) = rcc (.da x) k := rfl
@[simp] theorem rcb_ol (k : Option (List CA × En)) (xs : List D) : rcb ε i k (some (some (.ol xs))) = rcc (.bo i) k := rfl
@[simp] theorem rcb_on (k : Option (List CA × En)) (xs : List M) : rcb ε i k (some (some (.on xs))) = rcc (.bo i) k := rfl
@[simp] theorem rcb_oo (k : Option (List CA × En)) (c : Str) (xs : List (Str × M)) : rcb ε i k (some (some (.oo c xs))) = rcc (.bo i) k := rfl
@[simp] theorem resC_nil : resC ε [] [] = some ([], ε) := rfl
@[simp] theorem resC_val (b : Nat) (bs : List Nat) (as : List FL.Arg) : resC ε (b :: bs) (.val x :: as) = rcc (.da x) (resC ε bs as) := by
  rw [resC]
  unfold rcc
  cases resC ε bs as <;> rfl
@[simp] theorem resC_1 (bs : List Nat) (as : List FL.Arg) : resC ε (1 :: bs) (.var i :: as) = rcc (.io i) (resC ε bs as) := by
  rw [resC]
  unfold rcc
  cases resC ε bs as <;> rfl
@[simp] theorem resC_0 (bs : List Nat) (as : List FL.Arg) : resC ε (0 :: bs) (.var i :: as) = rcf (fun ε1 => resC ε1 bs as) (frzV ε i) := by
  rw [resC]
  unfold rcf rcc
  cases frzV ε i with
  | none => rfl
  | some y =>
    obtain ⟨y, z⟩ := y
    simp only
    cases resC z bs as <;> rfl
@[simp] theorem resC_2 (bs : List Nat) (as : List FL.Arg) : resC ε (2 :: bs) (.var i :: as) = rcb ε i (resC ε bs as) (ε[i]?) := by
  rw [resC]
  unfold rcb rcc
  cases ε[i]? with
  | none => rfl
  | some y =>
    cases y with
    | none => rfl
    | some y => cases y <;> (simp only; cases resC ε bs as <;> rfl)
def cmc : Option M → Option (List M) → Option (List M) := rcons
@[simp] theorem caMs_nil : caMs ε [] = some [] := rfl
@[simp] theorem caMs_da (r : List CA) : caMs ε (.da x :: r) = rcons (some (.d x)) (caMs ε r) := by
  rw [caMs]
  unfold rcons
  cases caMs ε r <;> rfl
@[simp] theorem caMs_io (r : List CA) : caMs ε (.io i :: r) = rcons (vget (ε[i]?)) (caMs ε r) := by
  rw [caMs]
  unfold rcons vget
  cases ε[i]? with
  | none => cases caMs ε r <;> rfl
  | some y => cases y <;> cases caMs ε r <;> rfl
end
end FL
namespace FL
open PySem PySem.Spec PyProof.Rows L2
section
variable (ε : En) (i : Nat) (m : M) (x : D) (mir : List M → FOut) (outs ms : List M) (cs : List CA)
def lsd : Option (Option M) → Option M
  | some (some m) => if listM m = true then some (.d m.toD) else none
  | _ => none
@[simp] theorem lsd_ol (xs : List D) : lsd (some (some (.ol xs))) = some (.d (.lst xs)) := rfl
@[simp] theorem lsd_on (xs : List M) (h : listMs xs = true) : lsd (some (some (.on xs))) = some (.d (.lst (M.toDs xs))) := if_pos h
@[simp] theorem caMs_bos (r : List CA) : caMs ε (.bo i :: r) = rcons (lsd (ε[i]?)) (caMs ε r) := by
  rw [caMs]
  unfold rcons lsd
  cases ε[i]? with
  | none => cases caMs ε r <;> rfl
  | some y =>
    cases y with
    | none => cases caMs ε r <;> rfl
    | some m =>
      cases caMs ε r with
      | none => by_cases h : listM m = true <;> simp [h]
      | some l => by_cases h : listM m = true <;> simp [h]
@[simp] theorem caSl_nil : caSl [] = [] := rfl
@[simp] theorem caSl_io (r : List CA) : caSl (.io i :: r) = i :: caSl r := rfl
@[simp] theorem caSl_da (r : List CA) : caSl (.da x :: r) = caSl r := rfl
@[simp] theorem caSl_bo (r : List CA) : caSl (.bo i :: r) = caSl r := rfl
@[simp] theorem caBo_nil : caBo [] = [] := rfl
@[simp] theorem caBo_io (r : List CA) : caBo (.io i :: r) = caBo r := rfl
@[simp] theorem caBo_da (r : List CA) : caBo (.da x :: r) = caBo r := rfl
@[simp] theorem caBo_bo (r : List CA) : caBo (.bo i :: r) = i :: caBo r := rfl
@[simp] theorem caPut_nil : caPut ε [] ms = ε := rfl
@[simp] theorem caPut_io (r : List CA) : caPut ε (.io i :: r) (m :: ms) = (caPut ε r ms).set i (some m) := rfl
@[simp] theorem caPut_da (r : List CA) : caPut ε (.da x :: r) (m :: ms) = caPut ε r ms := rfl
@[simp] theorem caPut_bo (r : List CA) : caPut ε (.bo i :: r) (m :: ms) = caPut ε r ms := rfl
@[simp] theorem caFlat_nil : caFlat [] ms = true := by unfold caFlat; rfl
@[simp] theorem caFlat_io (r : List CA) : caFlat (.io i :: r) (m :: ms) = (flatM m && caFlat r ms) := rfl
@[simp] theorem caFlat_da (r : List CA) : caFlat (.da x :: r) (m :: ms) = caFlat r ms := rfl
@[simp] theorem caFlat_bo (r : List CA) : caFlat (.bo i :: r) (m :: ms) = caFlat r ms := rfl
def cgd (b f : Bool) : List Nat → Bool
  | [] => true
  | _ => b && f
@[simp] theorem cgd_nil (b f : Bool) : cgd b f [] = true := rfl
@[simp] theorem cgd_cons (b f : Bool) (j : Nat) (l : List Nat) : cgd b f (j :: l) = (b && f) := rfl
@[simp] theorem caGood_ev (b : Bool) : caGood cs outs b = cgd b (caFlat cs outs) (caBo cs) := by
  unfold caGood cgd
  rfl
/-- behind a def's run -/
def callK (cs : List CA) (ε : En) (ms : List M) : FOut → Out M
  | .rt m outs => if outs.length = ms.length ∧ caGood cs outs (flatM m) = true then .ok m (caPut ε cs outs) else .bad
  | .ex c fs outs => if outs.length = ms.length ∧ caGood cs outs (flatDf fs) = true then .ex c fs (caPut ε cs outs) else .bad
  | .bad => .bad
@[simp] theorem callK_rt : callK cs ε ms (.rt m outs) = if outs.length = ms.length ∧ caGood cs outs (flatM m) = true then .ok m (caPut ε cs outs) else .bad := rfl
@[simp] theorem callK_ex (c : Str) (fs : List (Str × D)) : callK cs ε ms (.ex c fs outs) = if outs.length = ms.length ∧ caGood cs outs (flatDf fs) = true then .ex c fs (caPut ε cs outs) else .bad := rfl
def callB (mir : List M → FOut) (cs : List CA) (ε : En) : Option (List M) → Out M
  | some ms => if (caSl cs).Nodup ∧ ∀ i ∈ caSl cs, i ∉ caBo cs then callK cs ε ms (mir ms) else .bad
  | none => .bad
@[simp] theorem callB_some : callB mir cs ε (some ms) = if (caSl cs).Nodup ∧ ∀ i ∈ caSl cs, i ∉ caBo cs then callK cs ε ms (mir ms) else .bad := rfl
def callA (mir : List M → FOut) : Option (List CA × En) → Out M
  | some (cs, ε2) => callB mir cs ε2 (caMs ε2 cs)
  | none => .bad
@[simp] theorem callA_some : callA mir (some (cs, ε)) = callB mir cs ε (caMs ε cs) := rfl
@[simp] theorem tailC_ev (bs : List Nat) (as : List FL.Arg) : tailC bs mir as ε = callA mir (resC ε bs as) := by
  unfold tailC callA callB callK
  rfl
@[simp] theorem eCall_ev (bs : List Nat) (fa : En → Out (List FL.Arg)) : eCall bs mir fa ε = (fa ε).bnd fun as ε1 => tailC bs mir as ε1 := rfl
@[simp] theorem eCM_ev (c : Str) (bs : List Nat) (fa : En → Out (List FL.Arg)) : eCM c bs mir fa ε = (fa ε).bnd fun as ε1 => tailC (0 :: bs) mir (.val (.cl c) :: as) ε1 := rfl
def methK (c f : Str) (bs : List Nat) (mir : List M → FOut) (fa : En → Out (List FL.Arg)) (a : FL.Arg) (ε1 : En) : Option M → Out M
  | some mm => if insC c f mm = true then (fa ε1).bnd fun as ε2 => tailC bs mir (a :: as) ε2 else .bad
  | none => .bad
@[simp] theorem methK_some (c f : Str) (bs : List Nat) (fa : En → Out (List FL.Arg)) (a : FL.Arg) : methK c f bs mir fa a ε (some m) = if insC c f m = true then (fa ε).bnd fun as ε2 => tailC bs mir (a :: as) ε2 else .bad := rfl
@[simp] theorem eMeth_ev (c f : Str) (bs : List Nat) (oa : En → Out FL.Arg) (fa : En → Out (List FL.Arg)) : eMeth c f bs mir oa fa ε = (oa ε).bnd fun a ε1 => methK c f bs mir fa a ε1 (rd ε1 a) := rfl
@[simp] theorem insC_d (c f c' : Str) (fs : List (Str × D)) : insC c f (.d (.obj c' fs)) = (c' == c && (fs.lookup f).isNone) := rfl
@[simp] theorem insC_oo (c f c' : Str) (fs : List (Str × M)) : insC c f (.oo c' fs) = (c' == c && (fs.lookup f).isNone) := rfl
def kK (ε2 : En) : FOut → Out M
  | .rt (.d .non) (s :: _) => .ok s ε2
  | .ex c' fs _ => .ex c' fs ε2
  | _ => .bad
@[simp] theorem kK_rt : kK ε (.rt (.d .non) (m :: outs)) = .ok m ε := rfl
@[simp] theorem kK_ex (c : Str) (fs : List (Str × D)) : kK ε (.ex c fs outs) = .ex c fs ε := rfl
@[simp] theorem tailK_ev (c : Str) (as : List FL.Arg) : tailK c mir as ε = onD (fun ds ε2 => kK ε2 (mir (.oo c [] :: ds.map .d))) (resD ε as) := by
  unfold tailK onD kK
  rfl
@[simp] theorem eMake_ev (c : Str) (fa : En → Out (List FL.Arg)) : eMake c mir fa ε = (fa ε).bnd fun as ε1 => tailK c mir as ε1 := rfl
def kV (c : Str) (o : Out M) : Option (Option M) → Out M
  | some (some (.d (.cl c'))) => if c' = c then o else .bad
  | _ => .bad
@[simp] theorem kV_some (c c' : Str) (o : Out M) : kV c o (some (some (.d (.cl c')))) = if c' = c then o else .bad := rfl
@[simp] theorem eMakeV_ev (c : Str) (fa : En → Out (List FL.Arg)) : eMakeV i c mir fa ε = kV c (eMake c mir fa ε) (ε[i]?) := by
  unfold eMakeV kV
  rfl
def eaK (g : En → Out M) (ε : En) : Out M → Out M
  | .bad => g ε
  | o => o
/-! a def's frame -/
def fin (io : List Nat) (ms : List M) : SOut → FOut
  | .nx ε' => outF io ms ε' (.rt (.d .non))
  | .rt m ε' => outF io ms ε' (.rt m)
  | .ex c fs ε' => outF io ms ε' (.ex c fs)
  | _ => .bad
@[simp] theorem fin_nx (io : List Nat) : fin io ms (.nx ε) = outF io ms ε (.rt (.d .non)) := rfl
@[simp] theorem fin_rt (io : List Nat) : fin io ms (.rt m ε) = outF io ms ε (.rt m) := rfl
@[simp] theorem fin_ex (io : List Nat) (c : Str) (fs : List (Str × D)) : fin io ms (.ex c fs ε) = outF io ms ε (.ex c fs) := rfl
theorem runB_ev (nl : Nat) (io : List Nat) (body : En → SOut) : runB nl io body ms = fin io ms (body (ms.map some ++ List.replicate (nl - ms.length) none)) := rfl
def outN (f : List M → FOut) : Option (List M) → FOut
  | some outs => f outs
  | none => .bad
@[simp] theorem outN_some (f : List M → FOut) : outN f (some outs) = f outs := rfl
@[simp] theorem outF_ev (io : List Nat) (f : List M → FOut) : outF io ms ε f = outN f (outL io ε 0 ms) := rfl
def ou1 : M → Option M
  | .d x => some (.d x)
  | _ => none
@[simp] theorem ou1_d : ou1 (.d x) = some (.d x) := rfl
@[simp] theorem outL_nil (io : List Nat) (k : Nat) : outL io ε k [] = some [] := rfl
@[simp] theorem outL_cons (io : List Nat) (k : Nat) : outL io ε k (m :: ms) = rcons (if k ∈ io then vget (ε[k]?) else ou1 m) (outL io ε (k + 1) ms) := by
  unfold rcons vget ou1
  cases m <;> rfl
end
/-! loops -/
section
variable (ε : En) (i : Nat) (m : M) (x : D)
@[simp] theorem sFor_ev (it : En → Out (List D)) (set : D → En → Option En) (body : En → SOut) : sFor it set body ε = (it ε).toS fun ds ε1 => loopF set body ds ε1 := by
  unfold sFor Out.toS
  cases it ε <;> rfl
def nxtK (k : En → SOut) : SOut → SOut
  | .nx ε2 => k ε2
  | .ct ε2 => k ε2
  | .bk ε2 => .nx ε2
  | .rt m ε2 => .rt m ε2
  | .ex c fs ε2 => .ex c fs ε2
  | .bad => .bad
@[simp] theorem nxtK_nx (k : En → SOut) : nxtK k (.nx ε) = k ε := rfl
@[simp] theorem nxtK_ct (k : En → SOut) : nxtK k (.ct ε) = k ε := rfl
@[simp] theorem nxtK_bk (k : En → SOut) : nxtK k (.bk ε) = .nx ε := rfl
@[simp] theorem nxtK_rt (k : En → SOut) : nxtK k (.rt m ε) = .rt m ε := rfl
@[simp] theorem nxtK_ex (k : En → SOut) (c : Str) (fs : List (Str × D)) : nxtK k (.ex c fs ε) = .ex c fs ε := rfl
@[simp] theorem nxtK_bad (k : En → SOut) : nxtK k .bad = .bad := rfl
def onE (k : En → SOut) : Option En → SOut
  | some ε => k ε
  | none => .bad
@[simp] theorem onE_some (k : En → SOut) : onE k (some ε) = k ε := rfl
theorem loopF_nil (set : D → En → Option En) (body : En → SOut) : loopF set body [] ε = .nx ε := rfl
theorem loopF_cons (set : D → En → Option En) (body : En → SOut) (d : D) (ds : List D) : loopF set body (d :: ds) ε = onE (fun ε1 => nxtK (fun ε2 => loopF set body ds ε2) (body ε1)) (set d ε) := by
  rw [loopF]
  unfold onE nxtK
  cases set d ε with
  | none => rfl
  | some ε1 =>
    simp only
    all_goals (cases body ε1 <;> rfl)
@[simp] theorem gSet_ev (d : D) : gSet i d ε = some (ε.set i (some (.d d))) := rfl
@[simp] theorem gTupS_ev (n : Nat) (g : List D → En → Option En) (ds : List D) : gTupS n g (.tup ds) ε = if ds.length = n then g ds ε else none := rfl
@[simp] theorem gsNil_ev : gsNil [] ε = some ε := rfl
def onG (g : En → Option En) : Option En → Option En
  | some ε1 => g ε1
  | none => none
@[simp] theorem onG_some (g : En → Option En) : onG g (some ε) = g ε := rfl
@[simp] theorem gsCons_ev (f : D → En → Option En) (g : List D → En → Option En) (d : D) (r : List D) : gsCons f g (d :: r) ε = onG (g r) (f d ε) := rfl
@[simp] theorem iItems_ev (f : En → Out M) : iItems f ε = (f ε).bnd fun m ε' => optO m.toD.seq? ε' := rfl
@[simp] theorem seqD_lst (xs : List D) : (D.lst xs).seq? = some xs := rfl
@[simp] theorem seqD_tup (xs : List D) : (D.tup xs).seq? = some xs := rfl
@[simp] theorem seqD_rl (ns : List Int) : (D.rl ns).seq? = some (ns.map .int) := rfl
@[simp] theorem seq_lst (xs : List D) : (M.d (.lst xs)).seq? = some xs := rfl
@[simp] theorem seq_tup (xs : List D) : (M.d (.tup xs)).seq? = some xs := rfl
@[simp] theorem seq_rl (ns : List Int) : (M.d (.rl ns)).seq? = some (ns.map .int) := rfl
@[simp] theorem seq_ol (xs : List D) : (M.ol xs).seq? = some xs := rfl
def rg1 (ε : En) : Option (List M) → Out (List D)
  | some [.d (.int j)] => if rOk j then .ok (rangeD 0 j.toNat) ε else .bad
  | _ => .bad
@[simp] theorem rg1_some (j : Int) (h : rOk j) : rg1 ε (some [.d (.int j)]) = .ok (rangeD 0 j.toNat) ε := if_pos h
@[simp] theorem iRange1_ev (fa : En → Out (List FL.Arg)) : iRange1 fa ε = (fa ε).bnd fun as ε' => rg1 ε' (rds ε' as) := rfl
def rg2 (ε : En) : Option (List M) → Out (List D)
  | some [.d (.int i), .d (.int j)] => if rOk i ∧ rOk j then .ok (rangeD i (j - i).toNat) ε else .bad
  | _ => .bad
@[simp] theorem rg2_some (i j : Int) (h1 : rOk i) (h2 : rOk j) : rg2 ε (some [.d (.int i), .d (.int j)]) = .ok (rangeD i (j - i).toNat) ε := if_pos ⟨h1, h2⟩
@[simp] theorem rOk_lit {i : Int} (h1 : -1000000000000000000 ≤ i) (h2 : i ≤ 1000000000000000000) : rOk i := by
  unfold rOk
  omega
@[simp] theorem iRange2_ev (fa : En → Out (List FL.Arg)) : iRange2 fa ε = (fa ε).bnd fun as ε' => rg2 ε' (rds ε' as) := rfl
def en1 : Option (List D × En) → Out (List D)
  | some ([d], ε2) => optO (d.seq?.map enumD) ε2
  | _ => .bad
@[simp] theorem en1_some : en1 (some ([x], ε)) = optO (x.seq?.map enumD) ε := rfl
@[simp] theorem iEnum1_ev (fa : En → Out (List FL.Arg)) : iEnum1 fa ε = (fa ε).bnd fun as ε' => en1 (resD ε' as) := rfl
def zpK (ε : En) : Option (List D) → Option (List D) → Out (List D)
  | some xs, some ys => .ok (zipD xs ys) ε
  | _, _ => .bad
@[simp] theorem zpK_some (xs ys : List D) : zpK ε (some xs) (some ys) = .ok (zipD xs ys) ε := rfl
def zp2 : Option (List D × En) → Out (List D)
  | some ([d, e], ε2) => zpK ε2 d.seq? e.seq?
  | _ => .bad
@[simp] theorem zp2_some (y : D) : zp2 (some ([x, y], ε)) = zpK ε x.seq? y.seq? := rfl
@[simp] theorem iZip2_ev (fa : En → Out (List FL.Arg)) : iZip2 fa ε = (fa ε).bnd fun as ε' => zp2 (resD ε' as) := rfl
end
end FL
namespace FL
open PySem PySem.Spec PyProof.Rows L2
section
variable (ε : En) (i : Nat) (m : M) (x : D) (xs : List D)
/-! comprehensions -/
def lcK (ε1 : En) (vs : List Nat) : Option (List M × En) → Out (List M)
  | some (ms, ε2) => .ok ms (resE ε1 ε2 vs)
  | none => .bad
@[simp] theorem lcK_some (ms : List M) (ε2 : En) (vs : List Nat) : lcK ε vs (some (ms, ε2)) = .ok ms (resE ε ε2 vs) := rfl
theorem eLcM_ev (fi : En → Out (List D)) (set : D → En → Option En) (tt : En → Out Bool) (f : En → Out M) (fz : M → M) (vs : List Nat) : eLcM fi set tt f fz vs ε = (fi ε).bnd fun ds ε1 => if ds.length ≤ lim then lcK ε1 vs (lcL set tt f fz vs ds (wipeE ε1 vs)) else .bad := by
  unfold eLcM lcK
  rfl
@[simp] theorem eLc_ev (fi : En → Out (List D)) (set : D → En → Option En) (tt : En → Out Bool) (f : En → Out M) (vs : List Nat) : eLc fi set tt f vs ε = (fi ε).bnd fun ds ε1 => (if ds.length ≤ lim then lcK ε1 vs (lcL set tt f fzD vs ds (wipeE ε1 vs)) else .bad).bnd fun ms ε' => .ok (.ol (ms.map M.toD)) ε' := by
  unfold eLc
  rw [eLcM_ev]
  unfold Out.bnd
  cases fi ε <;> rfl
@[simp] theorem eLcO_ev (fi : En → Out (List D)) (set : D → En → Option En) (tt : En → Out Bool) (f : En → Out M) (vs : List Nat) : eLcO fi set tt f vs ε = (fi ε).bnd fun ds ε1 => (if ds.length ≤ lim then lcK ε1 vs (lcL set tt f id vs ds (wipeE ε1 vs)) else .bad).bnd fun ms ε' => .ok (.on ms) ε' := by
  unfold eLcO
  rw [eLcM_ev]
  unfold Out.bnd
  cases fi ε <;> rfl
def lcR (fz : M → M) (k : En → Option (List M × En)) : Out M → Option (List M × En)
  | .ok m ε3 => (match k ε3 with
    | some (r, ε4) => some (fz m :: r, ε4)
    | none => none)
  | _ => none
def lcC (y : M) : Option (List M × En) → Option (List M × En)
  | some (r, ε4) => some (y :: r, ε4)
  | none => none
@[simp] theorem lcC_some (y : M) (r : List M) : lcC y (some (r, ε)) = some (y :: r, ε) := rfl
@[simp] theorem lcR_ok (fz : M → M) (k : En → Option (List M × En)) : lcR fz k (.ok m ε) = lcC (fz m) (k ε) := rfl
def lcT (f : En → Out M) (fz : M → M) (k : En → Option (List M × En)) : Out Bool → Option (List M × En)
  | .ok true ε2 => lcR fz k (f ε2)
  | .ok false ε2 => k ε2
  | _ => none
@[simp] theorem lcT_ok (f : En → Out M) (fz : M → M) (k : En → Option (List M × En)) (b : Bool) : lcT f fz k (.ok b ε) = if b = true then lcR fz k (f ε) else k ε := by
  cases b <;> rfl
def lcE (k : En → Option (List M × En)) : Option En → Option (List M × En)
  | some ε1 => k ε1
  | none => none
@[simp] theorem lcE_some (k : En → Option (List M × En)) : lcE k (some ε) = k ε := rfl
section
variable (set : D → En → Option En) (tt : En → Out Bool) (f : En → Out M) (fz : M → M) (vs : List Nat)
theorem lcL_nil : lcL set tt f fz vs [] ε = some ([], ε) := rfl
theorem lcL_cons (ds : List D) : lcL set tt f fz vs (x :: ds) ε = lcE (fun ε1 => lcT f fz (fun ε3 => lcL set tt f fz vs ds (wipeE ε3 vs)) (tt ε1)) (set x ε) := by
  rw [lcL]
  unfold lcE lcT lcR
  cases set x ε with
  | none => rfl
  | some ε1 =>
    simp only
    all_goals (cases tt ε1 with
    | ok b ε2 =>
      cases b with
      | true =>
        simp only
        all_goals (cases f ε2 <;> rfl)
      | false => rfl
    | _ => rfl)
end
@[simp] theorem setA_nil {α : Type} (g : Nat → α) (l : List α) : setA g l [] = l := rfl
@[simp] theorem setA_cons {α : Type} (g : Nat → α) (l : List α) (v : Nat) (vs : List Nat) : setA g l (v :: vs) = (setA g l vs).set v (g v) := rfl
@[simp] theorem wipeE_ev (vs : List Nat) : wipeE ε vs = setA (fun _ => none) ε vs := rfl
@[simp] theorem resE_ev (ε2 : En) (vs : List Nat) : resE ε ε2 vs = setA (keepD ε) ε2 vs := rfl
def kpd : Option (Option M) → Option M
  | some (some (.d x)) => some (.d x)
  | _ => none
@[simp] theorem kpd_d : kpd (some (some (.d x))) = some (.d x) := rfl
@[simp] theorem kpd_n : kpd (some none) = none := rfl
@[simp] theorem kpd_ol : kpd (some (some (.ol xs))) = none := rfl
@[simp] theorem keepD_ev (j : Nat) : keepD ε j = kpd (ε[j]?) := rfl
@[simp] theorem fzD_ev : fzD m = .d m.toD := rfl
/-! list writes -/
def mthB (g : List D → List D → Option (D × List D)) (i : Nat) (ds : List D) (ε2 : En) : Option (Option M) → Out M
  | some (some (.ol xs)) => (match g xs ds with
    | some (d, xs') => .ok (.d d) (ε2.set i (some (.ol xs')))
    | none => .bad)
  | _ => .bad
def mthC (i : Nat) (ε2 : En) : Option (D × List D) → Out M
  | some (d, xs') => .ok (.d d) (ε2.set i (some (.ol xs')))
  | none => .bad
@[simp] theorem mthC_some : mthC i ε (some (x, xs)) = .ok (.d x) (ε.set i (some (.ol xs))) := rfl
@[simp] theorem mthB_ol (g : List D → List D → Option (D × List D)) (ds : List D) : mthB g i ds ε (some (some (.ol xs))) = mthC i ε (g xs ds) := rfl
def mthA (o : Out M) : Option (Option M) → Out M
  | some (some (.ol _)) => o
  | _ => .bad
@[simp] theorem mthA_ol (o : Out M) : mthA o (some (some (.ol xs))) = o := rfl
@[simp] theorem eMth_ev (g : List D → List D → Option (D × List D)) (fa : En → Out (List FL.Arg)) : eMth i g fa ε = mthA ((fa ε).bnd fun as ε1 => onD (fun ds ε2 => mthB g i ds ε2 (ε2[i]?)) (resD ε1 as)) (ε[i]?) := by
  unfold eMth mthA mthB onD
  rfl
@[simp] theorem gApp_ev : gApp xs [x] = if xs.length < lim then some (.non, xs ++ [x]) else none := rfl
def stC (i : Nat) (ε2 : En) : Option (List D) → SOut
  | some xs' => .nx (ε2.set i (some (.ol xs')))
  | none => .bad
@[simp] theorem stC_some : stC i ε (some xs) = .nx (ε.set i (some (.ol xs))) := rfl
def stB (i : Nat) (y : D) (ε2 : En) : Option (Option M) → Option M → SOut
  | some (some (.ol xs)), some (.d (.int k)) => (match setI xs k y with
    | some xs' => .nx (ε2.set i (some (.ol xs')))
    | none => .bad)
  | _, _ => .bad
@[simp] theorem stB_ol (y : D) (k : Int) : stB i y ε (some (some (.ol xs))) (some (.d (.int k))) = stC i ε (setI xs k y) := rfl
def stA (o : SOut) : Option (Option M) → SOut
  | some (some (.ol _)) => o
  | _ => .bad
@[simp] theorem stA_ol (o : SOut) : stA o (some (some (.ol xs))) = o := rfl
@[simp] theorem sStore_ev (f : En → Out M) (oi : En → Out FL.Arg) : sStore i f oi ε = (f ε).toS fun m ε1 => stA ((oi ε1).toS fun a ε2 => stB i m.toD ε2 (ε2[i]?) (rd ε2 a)) (ε1[i]?) := by
  unfold sStore Out.toS
  cases f ε with
  | ok m ε1 =>
    simp only
    cases ε1[i]? with
    | none => rfl
    | some y =>
      cases y with
      | none => rfl
      | some y =>
        cases y with
        | ol ys => cases oi ε1 <;> rfl
        | _ => rfl
  | _ => rfl
def auB (i : Nat) (ε1 : En) : Option M → SOut
  | some (.d (.int z)) => .nx (ε1.set i (some (.d (.int z))))
  | _ => .bad
@[simp] theorem auB_int (z : Int) : auB i ε (some (.d (.int z))) = .nx (ε.set i (some (.d (.int z)))) := rfl
def auA (g : M → M → Option M) (i : Nat) (k : Int) (ε1 : En) : Option M → SOut
  | some m => auB i ε1 (g (.d (.int k)) m)
  | none => .bad
@[simp] theorem auA_some (g : M → M → Option M) (k : Int) : auA g i k ε (some m) = auB i ε (g (.d (.int k)) m) := rfl
def au0 (g : M → M → Option M) (i : Nat) (oa : En → Out FL.Arg) (ε : En) : Option (Option M) → SOut
  | some (some (.d (.int k))) => (oa ε).toS fun a ε1 => auA g i k ε1 (rd ε1 a)
  | _ => .bad
@[simp] theorem au0_int (g : M → M → Option M) (oa : En → Out FL.Arg) (k : Int) : au0 g i oa ε (some (some (.d (.int k)))) = (oa ε).toS fun a ε1 => auA g i k ε1 (rd ε1 a) := rfl
@[simp] theorem sAug_ev (g : M → M → Option M) (oa : En → Out FL.Arg) : sAug i g oa ε = au0 g i oa ε (ε[i]?) := by
  unfold sAug au0 Out.toS auA auB
  cases ε[i]? with
  | none => rfl
  | some y =>
    cases y with
    | none => rfl
    | some y =>
      cases y with
      | d x =>
        cases x with
        | int k =>
          simp only
          cases oa ε with
          | ok a ε1 =>
            simp only
            all_goals (cases rd ε1 a <;> rfl)
          | _ => rfl
        | _ => rfl
      | _ => rfl
/-! fields, raise, try -/
def fdA (ft : FTab) (i : Nat) (f : Str) (m : M) (ε1 : En) : Option (Option M) → SOut
  | some (some (.oo c fs)) => if ftHas ft c f = true ∧ fs.length < 1000 then .nx (ε1.set i (some (.oo c (putM f m fs)))) else .bad
  | _ => .bad
@[simp] theorem fdA_oo (ft : FTab) (f c : Str) (fs : List (Str × M)) : fdA ft i f m ε (some (some (.oo c fs))) = if ftHas ft c f = true ∧ fs.length < 1000 then .nx (ε.set i (some (.oo c (putM f m fs)))) else .bad := rfl
@[simp] theorem sFldM_ev (ft : FTab) (f : Str) (fe : En → Out M) : sFldM ft i f fe ε = (fe ε).toS fun m ε1 => fdA ft i f m ε1 (ε1[i]?) := by
  unfold sFldM Out.toS fdA
  cases fe ε <;> rfl
@[simp] theorem gFld_obj (ft : FTab) (f c : Str) (fs : List (Str × D)) : gFld ft f (.d (.obj c fs)) = if ftHas ft c f = true then (fs.lookup f).map .d else none := rfl
def exK (c : Str) (fs : List Str) : Option (List D × En) → SOut
  | some (ds, ε2) => if ds.length = fs.length then .ex c (fs.zip ds).reverse ε2 else .bad
  | none => .bad
@[simp] theorem exK_some (c : Str) (fs : List Str) (ds : List D) : exK c fs (some (ds, ε)) = if ds.length = fs.length then .ex c (fs.zip ds).reverse ε else .bad := rfl
@[simp] theorem sRaise_ev (c : Str) (fs : List Str) (fa : En → Out (List FL.Arg)) : sRaise c fs fa ε = (fa ε).toS fun as ε1 => exK c fs (resD ε1 as) := by
  unfold sRaise Out.toS exK
  cases fa ε <;> rfl
def tryK (et : XTab) (xs : List Str) (hs : List Clause) : SOut → SOut
  | .ex c fs ε' => hTry et xs hs c fs ε'
  | o => o
section
variable (et : XTab) (zs : List Str) (hs : List Clause)
@[simp] theorem sTry_ev (f : En → SOut) : sTry et zs f hs ε = tryK et zs hs (f ε) := rfl
@[simp] theorem tryK_nx : tryK et zs hs (.nx ε) = .nx ε := rfl
@[simp] theorem tryK_rt : tryK et zs hs (.rt m ε) = .rt m ε := rfl
@[simp] theorem tryK_ex (c : Str) (fs : List (Str × D)) : tryK et zs hs (.ex c fs ε) = hTry et zs hs c fs ε := rfl
@[simp] theorem hTry_nil (c : Str) (fs : List (Str × D)) : hTry et zs [] c fs ε = .ex c fs ε := rfl
def htA (zs : List Str) (i : Nat) (g : Str → List (Str × D) → En → SOut) (c : Str) (fs : List (Str × D)) (ε : En) : Option (Option M) → SOut
  | some none => sEnd i (g c fs ε)
  | _ => .bad
@[simp] theorem htA_none (g : Str → List (Str × D) → En → SOut) (c : Str) (fs : List (Str × D)) : htA zs i g c fs ε (some none) = sEnd i (g c fs ε) := rfl
def htB (zs : List Str) (i : Nat) (g : Str → List (Str × D) → En → SOut) (c : Str) (fs : List (Str × D)) (ε : En) (r : SOut) : Option Bool → SOut
  | some true => if c ∈ zs then htA zs i g c fs ε (ε[i]?) else .bad
  | some false => r
  | none => .bad
@[simp] theorem htB_true (g : Str → List (Str × D) → En → SOut) (c : Str) (fs : List (Str × D)) (r : SOut) : htB zs i g c fs ε r (some true) = if c ∈ zs then htA zs i g c fs ε (ε[i]?) else .bad := rfl
@[simp] theorem htB_false (g : Str → List (Str × D) → En → SOut) (c : Str) (fs : List (Str × D)) (r : SOut) : htB zs i g c fs ε r (some false) = r := rfl
@[simp] theorem hTry_cons (C : Str) (g : Str → List (Str × D) → En → SOut) (c : Str) (fs : List (Str × D)) : hTry et zs ((C, i, g) :: hs) c fs ε = htB zs i g c fs ε (hTry et zs hs c fs ε) (xtGet et c C) := by
  rw [hTry]
  unfold htB htA
  rfl
@[simp] theorem sEnd_rt : sEnd i (.rt m ε) = .rt m ε := rfl
@[simp] theorem sEnd_nx : sEnd i (.nx ε) = .nx (ε.set i none) := rfl
end
def xrK (ε : En) : Option (List D) → SOut
  | some ds => if ds.length ≤ lim then .rt (.d (.tup ds)) ε else .bad
  | none => .bad
@[simp] theorem xrK_some (ds : List D) : xrK ε (some ds) = if ds.length ≤ lim then .rt (.d (.tup ds)) ε else .bad := rfl
@[simp] theorem xRet_ev (tab : ITab) (k1 : Str) (ses : List SE) (c : Str) (fs : List (Str × D)) : xRet tab k1 ses c fs ε = xrK ε (seVals tab k1 c fs ses) := rfl
def svC : Option D → Option (List D) → Option (List D)
  | some d, some ds => some (d :: ds)
  | _, _ => none
@[simp] theorem svC_some (ds : List D) : svC (some x) (some ds) = some (x :: ds) := rfl
@[simp] theorem seVals_nil (tab : ITab) (k1 : Str) (c : Str) (fs : List (Str × D)) : seVals tab k1 c fs [] = some [] := rfl
@[simp] theorem seVals_cons (tab : ITab) (k1 : Str) (c : Str) (fs : List (Str × D)) (s : SE) (r : List SE) : seVals tab k1 c fs (s :: r) = svC (seVal tab k1 c fs s) (seVals tab k1 c fs r) := by
  rw [seVals]
  unfold svC
  cases seVal tab k1 c fs s <;> cases seVals tab k1 c fs r <;> rfl
@[simp] theorem seVal_c (tab : ITab) (k1 : Str) (c : Str) (fs : List (Str × D)) : seVal tab k1 c fs (.c x) = some x := rfl
@[simp] theorem seVal_f (tab : ITab) (k1 : Str) (c : Str) (fs : List (Str × D)) (n : Str) : seVal tab k1 c fs (.f n) = fs.lookup n := rfl
/-! len of own things -/
def loA (o : Out M) : Out M := match o with
  | .ok (.d (.int n)) ε2 => if 0 ≤ n ∧ rOk n then .ok (.d (.int n)) ε2 else .bad
  | _ => .bad
@[simp] theorem loA_int (n : Int) (h1 : 0 ≤ n) (h2 : rOk n) : loA (.ok (.d (.int n)) ε) = .ok (.d (.int n)) ε := if_pos ⟨h1, h2⟩
def loB (c : Str) (o : Out M) : Option M → Out M
  | some mm => if insC c "" mm = true then loA o else .bad
  | none => .bad
@[simp] theorem loB_some (c : Str) (o : Out M) : loB c o (some m) = if insC c "" m = true then loA o else .bad := rfl
def lo1 (c : Str) (mir : List M → FOut) (ε1 : En) : List FL.Arg → Out M
  | [a] => loB c (tailC [0] mir [a] ε1) (rd ε1 a)
  | _ => .bad
@[simp] theorem lo1_one (c : Str) (mir : List M → FOut) (a : FL.Arg) : lo1 c mir ε [a] = loB c (tailC [0] mir [a] ε) (rd ε a) := rfl
@[simp] theorem eLenO_ev (c : Str) (mir : List M → FOut) (fa : En → Out (List FL.Arg)) : eLenO c mir fa ε = (fa ε).bnd fun as ε1 => lo1 c mir ε1 as := rfl
def prA (o : Out M) : Out M := match o with
  | .ok m ε2 => .ok m ε2
  | _ => .bad
@[simp] theorem prA_ok : prA (.ok m ε) = .ok m ε := rfl
def prB (c : Str) (o : Out M) : Option M → Out M
  | some mm => if insC c "" mm = true then prA o else .bad
  | none => .bad
@[simp] theorem prB_some (c : Str) (o : Out M) : prB c o (some m) = if insC c "" m = true then prA o else .bad := rfl
@[simp] theorem eProp_ev (c : Str) (mir : List M → FOut) (oa : En → Out FL.Arg) : eProp c mir oa ε = (oa ε).bnd fun a ε1 => prB c (tailC [0] mir [a] ε1) (rd ε1 a) := rfl
/-! slices -/
def psA (ε : En) : Option M → Out (Option Int)
  | some (.d (.int k)) => .ok (some k) ε
  | _ => .bad
@[simp] theorem psA_int (k : Int) : psA ε (some (.d (.int k))) = .ok (some k) ε := rfl
@[simp] theorem pSome_ev (oa : En → Out FL.Arg) : pSome oa ε = (oa ε).bnd fun a ε1 => psA ε1 (rd ε1 a) := rfl
def slK (lo hi : Option Int) (ε : En) : Option M → Out M
  | some m => optO (gSl m lo hi) ε
  | none => .bad
@[simp] theorem slK_some (lo hi : Option Int) : slK lo hi ε (some m) = optO (gSl m lo hi) ε := rfl
@[simp] theorem eSl_ev (oa : En → Out FL.Arg) (pl ph : En → Out (Option Int)) : eSl oa pl ph ε = (oa ε).bnd fun a ε1 => (pl ε1).bnd fun lo ε2 => (ph ε2).bnd fun hi ε3 => slK lo hi ε3 (rd ε3 a) := rfl
@[simp] theorem pNo_ev : pNo ε = .ok none ε := rfl
@[simp] theorem lim_lit {n : Nat} (h : n ≤ 1000000) : n ≤ lim := by
  unfold lim
  omega
@[simp] theorem lim_lit2 {n : Nat} (h : n ≤ 1000000) : n < lim := by
  unfold lim
  omega
/-! steps of a loop -/
theorem loopF_step {set : D → En → Option En} {body : En → SOut} {d : D} {ds : List D} {ε ε1 ε2 : En} (h1 : set d ε = some ε1) (h2 : body ε1 = .nx ε2) : loopF set body (d :: ds) ε = loopF set body ds ε2 := by
  rw [loopF_cons, h1]
  show nxtK _ (body ε1) = _
  rw [h2]
  rfl
theorem loopF_rt {set : D → En → Option En} {body : En → SOut} {d : D} {ds : List D} {ε ε1 ε2 : En} {m : M} (h1 : set d ε = some ε1) (h2 : body ε1 = .rt m ε2) : loopF set body (d :: ds) ε = .rt m ε2 := by
  rw [loopF_cons, h1]
  show nxtK _ (body ε1) = _
  rw [h2]
  rfl
theorem loopF_ex {set : D → En → Option En} {body : En → SOut} {d : D} {ds : List D} {ε ε1 ε2 : En} {c : Str} {fs : List (Str × D)} (h1 : set d ε = some ε1) (h2 : body ε1 = .ex c fs ε2) : loopF set body (d :: ds) ε = .ex c fs ε2 := by
  rw [loopF_cons, h1]
  show nxtK _ (body ε1) = _
  rw [h2]
  rfl
theorem lcL_step {set : D → En → Option En} {tt : En → Out Bool} {f : En → Out M} {fz : M → M} {vs : List Nat} {x : D} {ds : List D} {m : M} {r : List M} {ε ε1 ε2 ε3 ε4 : En} (h1 : set x ε = some ε1) (h2 : tt ε1 = .ok true ε2) (h3 : f ε2 = .ok m ε3) (h4 : lcL set tt f fz vs ds (wipeE ε3 vs) = some (r, ε4)) : lcL set tt f fz vs (x :: ds) ε = some (fz m :: r, ε4) := by
  rw [lcL_cons, h1]
  show lcT f fz _ (tt ε1) = _
  rw [h2]
  show lcR fz _ (f ε2) = _
  rw [h3]
  show lcC _ (lcL set tt f fz vs ds (wipeE ε3 vs)) = _
  rw [h4]
  rfl
/-! items -/
theorem atI_nat {α : Type} {xs : List α} {k : Int} (h : 0 ≤ k) (h2 : k < xs.length) : atI xs k = xs[k.toNat]? := by
  unfold atI ixN
  rw [if_pos h, if_pos h2]
  rfl
theorem atI_neg {α : Type} {xs : List α} {k : Int} (h : k < 0) (h2 : -(xs.length : Int) ≤ k) : atI xs k = xs[(k + xs.length).toNat]? := by
  unfold atI ixN
  rw [if_neg (by omega), if_pos h2]
  rfl
@[simp] theorem atI_0 {α : Type} (a : α) (xs : List α) : atI (a :: xs) 0 = some a := by
  rw [atI_nat (by omega) (by simp only [List.length_cons]; omega)]
  rfl
@[simp] theorem atI_1 {α : Type} (a b : α) (xs : List α) : atI (a :: b :: xs) 1 = some b := by
  rw [atI_nat (by omega) (by simp only [List.length_cons]; omega)]
  rfl
@[simp] theorem atI_2 {α : Type} (a b c : α) (xs : List α) : atI (a :: b :: c :: xs) 2 = some c := by
  rw [atI_nat (by omega) (by simp only [List.length_cons]; omega)]
  rfl
theorem setI_nat {xs : List D} {k : Int} {d : D} (h : 0 ≤ k) (h2 : k < xs.length) : setI xs k d = some (xs.set k.toNat d) := by
  unfold setI ixN
  rw [if_pos h, if_pos h2]
  rfl
theorem setI_neg {xs : List D} {k : Int} {d : D} (h : k < 0) (h2 : -(xs.length : Int) ≤ k) : setI xs k d = some (xs.set (k + xs.length).toNat d) := by
  unfold setI ixN
  rw [if_neg (by omega), if_pos h2]
  rfl
@[simp] theorem setI_0 (a d : D) (xs : List D) : setI (a :: xs) 0 d = some (d :: xs) := by
  rw [setI_nat (by omega) (by simp only [List.length_cons]; omega)]
  rfl
@[simp] theorem setI_1 (a b d : D) (xs : List D) : setI (a :: b :: xs) 1 d = some (a :: d :: xs) := by
  rw [setI_nat (by omega) (by simp only [List.length_cons]; omega)]
  rfl
@[simp] theorem setI_2 (a b c d : D) (xs : List D) : setI (a :: b :: c :: xs) 2 d = some (a :: b :: d :: xs) := by
  rw [setI_nat (by omega) (by simp only [List.length_cons]; omega)]
  rfl
theorem sm_of {k : Int} (h : k.natAbs < 2 ^ 200000) : sm k := by
  unfold sm
  exact Nat.lt_of_lt_of_le h (Nat.pow_le_pow_right (by decide) (by decide))
theorem sm64 {k : Int} (h : k.natAbs < 18446744073709551616) : sm k := by
  refine sm_of (Nat.lt_of_lt_of_le h ?_)
  rw [show 18446744073709551616 = 2 ^ 64 from by decide]
  exact Nat.pow_le_pow_right (by decide) (by decide)
/-! forms of the kit's own operators -/
@[simp] theorem len_lst : (M.d (.lst xs)).len? = some xs.length := rfl
@[simp] theorem len_tup : (M.d (.tup xs)).len? = some xs.length := rfl
@[simp] theorem len_rl (ns : List Int) : (M.d (.rl ns)).len? = some ns.length := rfl
@[simp] theorem len_ol : (M.ol xs).len? = some xs.length := rfl
@[simp] theorem len_on (ms : List M) : (M.on ms).len? = some ms.length := rfl
@[simp] theorem gLen_ev : gLen [m] = m.len?.map fun n => .d (.int (n : Int)) := by
  simp only [gLen]
  cases m.len? <;> rfl
@[simp] theorem gInt_int (k : Int) : gInt [.d (.int k)] = some (.d (.int k)) := rfl
@[simp] theorem gAbs_int (k : Int) : gAbs [.d (.int k)] = some (.d (.int (if k < 0 then -k else k))) := rfl
@[simp] theorem gMax2_int (k j : Int) : gMax2 [.d (.int k), .d (.int j)] = some (.d (.int (if j > k then j else k))) := rfl
@[simp] theorem gMin2_int (k j : Int) : gMin2 [.d (.int k), .d (.int j)] = some (.d (.int (if j < k then j else k))) := rfl
@[simp] theorem gList_ev : gList [m] = m.seq?.map .ol := rfl
@[simp] theorem gTuple_tup : gTuple [.d (.tup xs)] = some (.d (.tup xs)) := rfl
@[simp] theorem gTuple_lst : gTuple [.d (.lst xs)] = some (.d (.tup xs)) := rfl
@[simp] theorem gTuple_rl (ns : List Int) : gTuple [.d (.rl ns)] = some (.d (.tup (ns.map .int))) := rfl
@[simp] theorem gTuple_ol : gTuple [.ol xs] = some (.d (.tup xs)) := rfl
@[simp] theorem gNeg_int (k : Int) : gNeg (.d (.int k)) = some (.d (.int (-k))) := rfl
@[simp] theorem gMul_int (k j : Int) (h1 : sm k) (h2 : sm j) : gMul (.d (.int k)) (.d (.int j)) = some (.d (.int (k * j))) := (show gMul (.d (.int k)) (.d (.int j)) = if sm k ∧ sm j then some (.d (.int (k * j))) else none from rfl).trans (if_pos ⟨h1, h2⟩)
def dvOk (j : Int) : Prop := 0 < j ∧ j.natAbs < 2 ^ 8000
instance (j : Int) : Decidable (dvOk j) := inferInstanceAs (Decidable (_ ∧ _))
theorem dvOk_of {j : Int} (h1 : 0 < j) (h2 : j < 10000000000000000000000000000000000000000) : dvOk j := by
  refine ⟨h1, Nat.lt_of_lt_of_le (show j.natAbs < 2 ^ 200 from ?_) (Nat.pow_le_pow_right (by decide) (by decide))⟩
  have : (2 : Nat) ^ 200 = 1606938044258990275541962092341162602522202993782792835301376 := by decide
  omega
@[simp] theorem dvOk_lit {j : Int} (h1 : 0 < j) (h2 : j < 10000000000000000000000000000000000000000) : dvOk j := dvOk_of h1 h2
@[simp] theorem sm_lit {j : Int} (h1 : -10000000000000000000000000000000000000000 < j) (h2 : j < 10000000000000000000000000000000000000000) : sm j := by
  refine sm_of (Nat.lt_of_lt_of_le (show j.natAbs < 2 ^ 200 from ?_) (Nat.pow_le_pow_right (by decide) (by decide)))
  have : (2 : Nat) ^ 200 = 1606938044258990275541962092341162602522202993782792835301376 := by decide
  omega
@[simp] theorem gDiv_int (k j : Int) (h : dvOk j) : gDiv (.d (.int k)) (.d (.int j)) = some (.d (.int (k / j))) := if_pos h
@[simp] theorem gMod_int (k j : Int) : gMod (.d (.int k)) (.d (.int j)) = if 0 < j then some (.d (.int (k % j))) else none := rfl
@[simp] theorem gPow_int (k j : Int) : gPow (.d (.int k)) (.d (.int j)) = if 0 ≤ j ∧ j ≤ 1000000 ∧ k.natAbs < 2 ^ 64 then some (.d (.int (k ^ j.toNat))) else none := rfl
@[simp] theorem gIs_non : gIs m (.d .non) = some (.d (.bl m.isN)) := rfl
@[simp] theorem gIs_bl (b : Bool) : gIs m (.d (.bl b)) = some (.d (.bl (m.isB b))) := rfl
@[simp] theorem gIsNot_non : gIsNot m (.d .non) = some (.d (.bl (!m.isN))) := rfl
@[simp] theorem isN_non : (M.d .non).isN = true := rfl
@[simp] theorem isB_bl (a b : Bool) : (M.d (.bl a)).isB b = decide (a = b) := rfl
@[simp] theorem gIx_lst (k : Int) : gIx (.d (.lst xs)) (.d (.int k)) = (atI xs k).map .d := rfl
@[simp] theorem gIx_tup (k : Int) : gIx (.d (.tup xs)) (.d (.int k)) = (atI xs k).map .d := rfl
@[simp] theorem gIx_rl (ns : List Int) (k : Int) : gIx (.d (.rl ns)) (.d (.int k)) = (atI (ns.map .int) k).map .d := rfl
@[simp] theorem gIx_ol (k : Int) : gIx (.ol xs) (.d (.int k)) = (atI xs k).map .d := rfl
end
end FL
/-! loops and comprehensions by an invariant -/
namespace FL
open PySem PySem.Spec PyProof.Rows L2
theorem loopF_inv {σ : Type} (E : σ → En) {set : D → En → Option En} {body : En → SOut} : ∀ (ds : List D) (P : Nat → σ → Prop) (s : σ), P 0 s →
    (∀ (k : Nat) (d : D) (s : σ), ds[k]? = some d → P k s → ∃ ε1 s', set d (E s) = some ε1 ∧ (body ε1 = .nx (E s') ∨ body ε1 = .ct (E s')) ∧ P (k + 1) s') →
    ∃ s', loopF set body ds (E s) = .nx (E s') ∧ P ds.length s'
  | [], P, s, h0, _ => ⟨s, rfl, h0⟩
  | d :: ds, P, s, h0, hs => by
    obtain ⟨ε1, s1, e1, e2, h1⟩ := hs 0 d s rfl h0
    obtain ⟨s2, e3, h2⟩ := loopF_inv E ds (fun k => P (k + 1)) s1 h1 fun k x s hk hp => hs (k + 1) x s (by simpa using hk) hp
    refine ⟨s2, ?_, h2⟩
    rw [loopF_cons, e1]
    show nxtK _ (body ε1) = _
    rcases e2 with e2 | e2
    · rw [e2]
      exact e3
    · rw [e2]
      exact e3
/-- a loop that may end early, with a return or an error -/
theorem loopF_inv2 {σ : Type} (E : σ → En) {set : D → En → Option En} {body : En → SOut} : ∀ (ds : List D) (P : Nat → σ → Prop) (Z : SOut → Prop) (s : σ), P 0 s →
    (∀ (k : Nat) (d : D) (s : σ), ds[k]? = some d → P k s → ∃ ε1, set d (E s) = some ε1 ∧ ((∃ s', (body ε1 = .nx (E s') ∨ body ε1 = .ct (E s')) ∧ P (k + 1) s') ∨ (∃ ε2, body ε1 = .bk ε2 ∧ Z (.nx ε2)) ∨ (∃ m ε2, body ε1 = .rt m ε2 ∧ Z (.rt m ε2)) ∨ (∃ c fs ε2, body ε1 = .ex c fs ε2 ∧ Z (.ex c fs ε2)))) →
    (∀ s, P ds.length s → Z (.nx (E s))) →
    Z (loopF set body ds (E s))
  | [], P, Z, s, h0, _, hz => hz s h0
  | d :: ds, P, Z, s, h0, hs, hz => by
    obtain ⟨ε1, e1, e2⟩ := hs 0 d s rfl h0
    rw [loopF_cons, e1]
    show Z (nxtK _ (body ε1))
    rcases e2 with ⟨s1, e2, h1⟩ | ⟨ε2, e2, h1⟩ | ⟨m, ε2, e2, h1⟩ | ⟨c, fs, ε2, e2, h1⟩
    · have := loopF_inv2 E ds (fun k => P (k + 1)) Z s1 h1 (fun k x s hk hp => hs (k + 1) x s (by simpa using hk) hp) hz
      rcases e2 with e2 | e2
      · rw [e2]
        exact this
      · rw [e2]
        exact this
    · rw [e2]
      exact h1
    · rw [e2]
      exact h1
    · rw [e2]
      exact h1
theorem lcL_inv {σ : Type} (E : σ → En) {set : D → En → Option En} {tt : En → Out Bool} {f : En → Out M} {fz : M → M} {vs : List Nat} : ∀ (ds : List D) (P : Nat → List M → σ → Prop) (s : σ), P 0 [] s →
    (∀ (k : Nat) (d : D) (acc : List M) (s : σ), ds[k]? = some d → P k acc s → ∃ ε1 ε2, set d (E s) = some ε1 ∧ ((tt ε1 = .ok true ε2 ∧ ∃ m ε3 s', f ε2 = .ok m ε3 ∧ wipeE ε3 vs = E s' ∧ P (k + 1) (acc ++ [fz m]) s') ∨ (tt ε1 = .ok false ε2 ∧ ∃ s', wipeE ε2 vs = E s' ∧ P (k + 1) acc s'))) →
    ∃ ms s', lcL set tt f fz vs ds (E s) = some (ms, E s') ∧ P ds.length ms s'
  | [], P, s, h0, _ => ⟨[], s, rfl, h0⟩
  | d :: ds, P, s, h0, hs => by
    obtain ⟨ε1, ε2, e1, e2⟩ := hs 0 d [] s rfl h0
    rcases e2 with ⟨e2, m, ε3, s1, e3, e4, h1⟩ | ⟨e2, s1, e4, h1⟩
    · obtain ⟨ms, s2, e5, h2⟩ := lcL_inv E ds (fun k acc => P (k + 1) (fz m :: acc)) s1 h1 fun k x acc s hk hp => hs (k + 1) x (fz m :: acc) s (by simpa using hk) hp
      refine ⟨fz m :: ms, s2, ?_, h2⟩
      rw [lcL_cons, e1]
      show lcT f fz _ (tt ε1) = _
      rw [e2]
      show lcR fz _ (f ε2) = _
      rw [e3]
      show lcC _ (lcL set tt f fz vs ds (wipeE ε3 vs)) = _
      rw [e4, e5]
      rfl
    · obtain ⟨ms, s2, e5, h2⟩ := lcL_inv E ds (fun k acc => P (k + 1) acc) s1 h1 fun k x acc s hk hp => hs (k + 1) x acc s (by simpa using hk) hp
      refine ⟨ms, s2, ?_, h2⟩
      rw [lcL_cons, e1]
      show lcT f fz _ (tt ε1) = _
      rw [e2]
      show lcL set tt f fz vs ds (wipeE ε2 vs) = _
      rw [e4, e5]
/-- a comprehension that changes nothing -/
theorem lcL_map {set : D → En → Option En} {f : En → Out M} {fz : M → M} {vs : List Nat} {ε : En} (g : D → M) : ∀ (ds : List D), (∀ d ∈ ds, ∃ ε1 ε3, set d ε = some ε1 ∧ f ε1 = .ok (g d) ε3 ∧ wipeE ε3 vs = ε) → lcL set tOne f fz vs ds ε = some (ds.map fun d => fz (g d), ε)
  | [], _ => rfl
  | d :: ds, h => by
    obtain ⟨ε1, ε3, e1, e2, e3⟩ := h d List.mem_cons_self
    refine lcL_step e1 rfl e2 ?_
    rw [e3]
    exact lcL_map g ds fun x hx => h x (List.mem_cons_of_mem _ hx)
/-- a filtered comprehension that changes nothing -/
theorem lcL_filter {set : D → En → Option En} {tt : En → Out Bool} {f : En → Out M} {fz : M → M} {vs : List Nat} {ε : En} (t : D → Bool) (g : D → M) : ∀ (ds : List D), (∀ d ∈ ds, ∃ ε1 ε2, set d ε = some ε1 ∧ tt ε1 = .ok (t d) ε2 ∧ wipeE ε2 vs = ε ∧ (t d = true → ∃ ε3, f ε2 = .ok (g d) ε3 ∧ wipeE ε3 vs = ε)) → lcL set tt f fz vs ds ε = some ((ds.filter t).map fun d => fz (g d), ε)
  | [], _ => rfl
  | d :: ds, h => by
    obtain ⟨ε1, ε2, e1, e2, e3, e4⟩ := h d List.mem_cons_self
    have ih := lcL_filter (fz := fz) t g ds fun x hx => h x (List.mem_cons_of_mem _ hx)
    rw [lcL_cons, e1]
    show lcT f fz _ (tt ε1) = _
    rw [e2, lcT_ok]
    by_cases ht : t d = true
    · obtain ⟨ε3, e5, e6⟩ := e4 ht
      rw [if_pos ht, e5, List.filter_cons_of_pos ht]
      show lcC _ (lcL set tt f fz vs ds (wipeE ε3 vs)) = _
      rw [e6, ih]
      rfl
    · rw [if_neg ht, List.filter_cons_of_neg ht, e3, ih]
end FL
namespace K79
open PySem PySem.Spec PySem.Calls PyProof.Rows L2 FLE FL FLH NdefX
abbrev PR : Program := (PySem.Challenge.rw_restnights_k79_price_lists_hold).prog
def top (i : Nat) : Stmt := PySem.Challenge.pw_restnights_k79_price_lists_hold.main.body.getD i (.Pass ⟨0, 0, 0, 0⟩)
def sub (i j : Nat) : Stmt := (cBody (top i)).getD j (.Pass ⟨0, 0, 0, 0⟩)
abbrev frees : List Str := ["ValueError", "abs", "bool", "enumerate", "int", "isinstance", "len", "list", "max", "min", "range", "str", "sum", "tuple", "zip"]
abbrev glos : List Str := ["BadNumber", "BadPrice", "NightsError", "NoPerson", "NoPrices", "PriceError", "PriceList", "TooLong", "WrongLength", "_law_bent", "_law_changed_right", "_law_cost", "_law_costs_right", "_law_draw", "_law_due", "_law_int", "_law_is", "_law_kin", "_law_made", "_law_made_right", "_law_other_row", "_law_paid", "_law_pool", "_law_price", "_law_row", "_law_row_due", "_law_rows", "_law_same", "check_prices", "cost_of", "law"]
abbrev owns : List Str := ["PriceList"]
abbrev itab : ITab := [(.bi "NoneType", .own "PriceError", false), (.bi "NoneType", .own "PriceList", false), (.bi "NoneType", .bi "bool", false), (.bi "NoneType", .bi "int", false), (.bi "NoneType", .bi "list", false), (.bi "NoneType", .bi "str", false), (.bi "NoneType", .bi "tuple", false), (.bi "bool", .own "PriceError", false), (.bi "bool", .own "PriceList", false), (.bi "bool", .bi "bool", true), (.bi "bool", .bi "int", true), (.bi "bool", .bi "list", false), (.bi "bool", .bi "str", false), (.bi "bool", .bi "tuple", false), (.bi "int", .own "PriceError", false), (.bi "int", .own "PriceList", false), (.bi "int", .bi "bool", false), (.bi "int", .bi "int", true), (.bi "int", .bi "list", false), (.bi "int", .bi "str", false), (.bi "int", .bi "tuple", false), (.bi "str", .own "PriceError", false), (.bi "str", .own "PriceList", false), (.bi "str", .bi "bool", false), (.bi "str", .bi "int", false), (.bi "str", .bi "list", false), (.bi "str", .bi "str", true), (.bi "str", .bi "tuple", false), (.bi "list", .own "PriceError", false), (.bi "list", .own "PriceList", false), (.bi "list", .bi "bool", false), (.bi "list", .bi "int", false), (.bi "list", .bi "list", true), (.bi "list", .bi "str", false), (.bi "list", .bi "tuple", false), (.bi "tuple", .own "PriceError", false), (.bi "tuple", .own "PriceList", false), (.bi "tuple", .bi "bool", false), (.bi "tuple", .bi "int", false), (.bi "tuple", .bi "list", false), (.bi "tuple", .bi "str", false), (.bi "tuple", .bi "tuple", true), (.bi "dict", .own "PriceError", false), (.bi "dict", .own "PriceList", false), (.bi "dict", .bi "bool", false), (.bi "dict", .bi "int", false), (.bi "dict", .bi "list", false), (.bi "dict", .bi "str", false), (.bi "dict", .bi "tuple", false), (.own "PriceList", .own "PriceError", false), (.own "PriceList", .own "PriceList", true), (.own "PriceList", .bi "bool", false), (.own "PriceList", .bi "int", false), (.own "PriceList", .bi "list", false), (.own "PriceList", .bi "str", false), (.own "PriceList", .bi "tuple", false), (.own "BadNumber", .own "NightsError", true), (.own "BadNumber", .own "PriceError", false), (.own "BadNumber", .own "PriceList", false), (.own "BadNumber", .bi "ValueError", true), (.own "BadPrice", .own "NightsError", true), (.own "BadPrice", .own "PriceError", true), (.own "BadPrice", .own "PriceList", false), (.own "BadPrice", .bi "ValueError", true), (.own "NoPerson", .own "NightsError", true), (.own "NoPerson", .own "PriceError", false), (.own "NoPerson", .own "PriceList", false), (.own "NoPerson", .bi "ValueError", true), (.own "NoPrices", .own "NightsError", true), (.own "NoPrices", .own "PriceError", true), (.own "NoPrices", .own "PriceList", false), (.own "NoPrices", .bi "ValueError", true), (.own "TooLong", .own "NightsError", true), (.own "TooLong", .own "PriceError", false), (.own "TooLong", .own "PriceList", false), (.own "TooLong", .bi "ValueError", true), (.own "WrongLength", .own "NightsError", true), (.own "WrongLength", .own "PriceError", false), (.own "WrongLength", .own "PriceList", false), (.own "WrongLength", .bi "ValueError", true)]
abbrev xtab : XTab := [(("BadNumber" : Str), ("BadNumber" : Str), true), (("BadNumber" : Str), ("BadPrice" : Str), false), (("BadNumber" : Str), ("NoPerson" : Str), false), (("BadNumber" : Str), ("NoPrices" : Str), false), (("BadNumber" : Str), ("TooLong" : Str), false), (("BadNumber" : Str), ("WrongLength" : Str), false), (("BadPrice" : Str), ("BadNumber" : Str), false), (("BadPrice" : Str), ("BadPrice" : Str), true), (("BadPrice" : Str), ("NoPerson" : Str), false), (("BadPrice" : Str), ("NoPrices" : Str), false), (("BadPrice" : Str), ("TooLong" : Str), false), (("BadPrice" : Str), ("WrongLength" : Str), false), (("NoPerson" : Str), ("BadNumber" : Str), false), (("NoPerson" : Str), ("BadPrice" : Str), false), (("NoPerson" : Str), ("NoPerson" : Str), true), (("NoPerson" : Str), ("NoPrices" : Str), false), (("NoPerson" : Str), ("TooLong" : Str), false), (("NoPerson" : Str), ("WrongLength" : Str), false), (("NoPrices" : Str), ("BadNumber" : Str), false), (("NoPrices" : Str), ("BadPrice" : Str), false), (("NoPrices" : Str), ("NoPerson" : Str), false), (("NoPrices" : Str), ("NoPrices" : Str), true), (("NoPrices" : Str), ("TooLong" : Str), false), (("NoPrices" : Str), ("WrongLength" : Str), false), (("TooLong" : Str), ("BadNumber" : Str), false), (("TooLong" : Str), ("BadPrice" : Str), false), (("TooLong" : Str), ("NoPerson" : Str), false), (("TooLong" : Str), ("NoPrices" : Str), false), (("TooLong" : Str), ("TooLong" : Str), true), (("TooLong" : Str), ("WrongLength" : Str), false), (("WrongLength" : Str), ("BadNumber" : Str), false), (("WrongLength" : Str), ("BadPrice" : Str), false), (("WrongLength" : Str), ("NoPerson" : Str), false), (("WrongLength" : Str), ("NoPrices" : Str), false), (("WrongLength" : Str), ("TooLong" : Str), false), (("WrongLength" : Str), ("WrongLength" : Str), true)]
abbrev ftab : FTab := [("PriceList", ["rows"])]
abbrev xcs : List Str := ["BadNumber", "BadPrice", "NoPerson", "NoPrices", "TooLong", "WrongLength"]
abbrev xfns : List Str := ["count", "found", "night", "number", "person", "place", "price", "wanted"]
abbrev df_law_draw : DefF := ⟨(fun K => He.ga K "_law_draw"), "_law_draw", "_law_draw", defArgs (top 18), defBody (top 18), defScope (top 18), [], []⟩
abbrev df_law_bent : DefF := ⟨(fun K => He.ga K "_law_bent"), "_law_bent", "_law_bent", defArgs (top 23), defBody (top 23), defScope (top 23), [], []⟩
abbrev df_PriceList___len__ : DefF := ⟨(fun K => He.ma K (He.ga K "PriceList") "__len__"), "__len__", "PriceList.__len__", defArgs (sub 13 3), defBody (sub 13 3), defScope (sub 13 3), [], []⟩
abbrev df_law_int : DefF := ⟨(fun K => He.ga K "_law_int"), "_law_int", "_law_int", defArgs (top 19), defBody (top 19), defScope (top 19), [], []⟩
abbrev df_law_same : DefF := ⟨(fun K => He.ga K "_law_same"), "_law_same", "_law_same", defArgs (top 20), defBody (top 20), defScope (top 20), [], []⟩
abbrev df_law_is : DefF := ⟨(fun K => He.ga K "_law_is"), "_law_is", "_law_is", defArgs (top 31), defBody (top 31), defScope (top 31), [], []⟩
abbrev df_check_prices : DefF := ⟨(fun K => He.ga K "check_prices"), "check_prices", "check_prices", defArgs (top 14), defBody (top 14), defScope (top 14), [], []⟩
abbrev df_PriceList___init__ : DefF := ⟨(fun K => He.ma K (He.ga K "PriceList") "__init__"), "__init__", "PriceList.__init__", defArgs (sub 13 0), defBody (sub 13 0), defScope (sub 13 0), [], []⟩
abbrev df_PriceList_with_row : DefF := ⟨(fun K => He.ma K (He.ga K "PriceList") "with_row"), "with_row", "PriceList.with_row", defArgs (sub 13 7), defBody (sub 13 7), defScope (sub 13 7), [], []⟩
abbrev df_law_other_row : DefF := ⟨(fun K => He.ga K "_law_other_row"), "_law_other_row", "_law_other_row", defArgs (top 33), defBody (top 33), defScope (top 33), [], []⟩
abbrev df_law_row : DefF := ⟨(fun K => He.ga K "_law_row"), "_law_row", "_law_row", defArgs (top 22), defBody (top 22), defScope (top 22), [], []⟩
abbrev df_law_row_due : DefF := ⟨(fun K => He.ga K "_law_row_due"), "_law_row_due", "_law_row_due", defArgs (top 25), defBody (top 25), defScope (top 25), [], []⟩
abbrev df_law_changed_right : DefF := ⟨(fun K => He.ga K "_law_changed_right"), "_law_changed_right", "_law_changed_right", defArgs (top 34), defBody (top 34), defScope (top 34), [], []⟩
abbrev df_law_cost : DefF := ⟨(fun K => He.ga K "_law_cost"), "_law_cost", "_law_cost", defArgs (top 28), defBody (top 28), defScope (top 28), [], []⟩
abbrev df_cost_of : DefF := ⟨(fun K => He.ga K "cost_of"), "cost_of", "cost_of", defArgs (top 15), defBody (top 15), defScope (top 15), [], []⟩
abbrev df_PriceList_pays : DefF := ⟨(fun K => He.ma K (He.ga K "PriceList") "pays"), "pays", "PriceList.pays", defArgs (sub 13 5), defBody (sub 13 5), defScope (sub 13 5), [], []⟩
abbrev df_PriceList_pay : DefF := ⟨(fun K => He.ma K (He.ga K "PriceList") "pay"), "pay", "PriceList.pay", defArgs (sub 13 6), defBody (sub 13 6), defScope (sub 13 6), [], []⟩
abbrev df_law_paid : DefF := ⟨(fun K => He.ga K "_law_paid"), "_law_paid", "_law_paid", defArgs (top 30), defBody (top 30), defScope (top 30), [], []⟩
abbrev df_PriceList_price : DefF := ⟨(fun K => He.ma K (He.ga K "PriceList") "price"), "price", "PriceList.price", defArgs (sub 13 4), defBody (sub 13 4), defScope (sub 13 4), [], []⟩
abbrev df_law_price : DefF := ⟨(fun K => He.ga K "_law_price"), "_law_price", "_law_price", defArgs (top 29), defBody (top 29), defScope (top 29), [], []⟩
abbrev df_law_costs_right : DefF := ⟨(fun K => He.ga K "_law_costs_right"), "_law_costs_right", "_law_costs_right", defArgs (top 32), defBody (top 32), defScope (top 32), [], []⟩
abbrev df_law_due : DefF := ⟨(fun K => He.ga K "_law_due"), "_law_due", "_law_due", defArgs (top 26), defBody (top 26), defScope (top 26), [], []⟩
abbrev df_PriceList_alike : DefF := ⟨(cmAt "PriceList" "alike"), "alike", "PriceList.alike", defArgs (sub 13 2), defBody (sub 13 2), defScope (sub 13 2), [], []⟩
abbrev df_PriceList_flat : DefF := ⟨(cmAt "PriceList" "flat"), "flat", "PriceList.flat", defArgs (sub 13 1), defBody (sub 13 1), defScope (sub 13 1), [], []⟩
abbrev df_law_made : DefF := ⟨(fun K => He.ga K "_law_made"), "_law_made", "_law_made", defArgs (top 27), defBody (top 27), defScope (top 27), [], []⟩
abbrev df_law_made_right : DefF := ⟨(fun K => He.ga K "_law_made_right"), "_law_made_right", "_law_made_right", defArgs (top 35), defBody (top 35), defScope (top 35), [], []⟩
abbrev df_law_pool : DefF := ⟨(fun K => He.ga K "_law_pool"), "_law_pool", "_law_pool", defArgs (top 17), defBody (top 17), defScope (top 17), [], []⟩
abbrev df_law_rows : DefF := ⟨(fun K => He.ga K "_law_rows"), "_law_rows", "_law_rows", defArgs (top 24), defBody (top 24), defScope (top 24), [], []⟩
abbrev df_law : DefF := ⟨(fun K => He.ga K "law"), "law", "law", defArgs (top 36), defBody (top 36), defScope (top 36), [], []⟩
abbrev df_law_kin : DefF := ⟨(fun K => He.ga K "_law_kin"), "_law_kin", "_law_kin", defArgs (top 21), defBody (top 21), defScope (top 21), [], []⟩
abbrev dfx_BadNumber : DefF := ⟨fun K => He.ma K (He.ga K "BadNumber") "__init__", "__init__", "BadNumber.__init__", defArgs (sub 3 0), defBody (sub 3 0), defScope (sub 3 0), ["__class__"], []⟩
abbrev dfx_BadPrice : DefF := ⟨fun K => He.ma K (He.ga K "BadPrice") "__init__", "__init__", "BadPrice.__init__", defArgs (sub 8 0), defBody (sub 8 0), defScope (sub 8 0), ["__class__"], []⟩
abbrev dfx_NoPerson : DefF := ⟨fun K => He.ma K (He.ga K "NoPerson") "__init__", "__init__", "NoPerson.__init__", defArgs (sub 2 0), defBody (sub 2 0), defScope (sub 2 0), ["__class__"], []⟩
abbrev dfx_NoPrices : DefF := ⟨fun K => He.ma K (He.ga K "NoPrices") "__init__", "__init__", "NoPrices.__init__", defArgs (sub 7 0), defBody (sub 7 0), defScope (sub 7 0), ["__class__"], []⟩
abbrev dfx_TooLong : DefF := ⟨fun K => He.ma K (He.ga K "TooLong") "__init__", "__init__", "TooLong.__init__", defArgs (sub 4 0), defBody (sub 4 0), defScope (sub 4 0), ["__class__"], []⟩
abbrev dfx_WrongLength : DefF := ⟨fun K => He.ma K (He.ga K "WrongLength") "__init__", "__init__", "WrongLength.__init__", defArgs (sub 5 0), defBody (sub 5 0), defScope (sub 5 0), ["__class__"], []⟩
def fn : List DefF := [df_law_draw, df_law_bent, df_PriceList___len__, df_law_int, df_law_same, df_law_is, df_check_prices, df_PriceList___init__, df_PriceList_with_row, df_law_other_row, df_law_row, df_law_row_due, df_law_changed_right, df_law_cost, df_cost_of, df_PriceList_pays, df_PriceList_pay, df_law_paid, df_PriceList_price, df_law_price, df_law_costs_right, df_law_due, df_PriceList_alike, df_PriceList_flat, df_law_made, df_law_made_right, df_law_pool, df_law_rows, df_law, df_law_kin, dfx_BadNumber, dfx_BadPrice, dfx_NoPerson, dfx_NoPrices, dfx_TooLong, dfx_WrongLength]
def bs : List (PySem.W.Frag → Bool) := [
  fun K => freesB frees K,
  fun K => glosB glos K,
  fun K => ownsB owns K,
  fun K => itabB itab K,
  fun K => xtabB xtab K,
  fun K => ftabB ftab K,
  fun K => xokB xcs xfns K,
  fun K => (He.Fa.int "LIMIT" (1000000000000000000000000000000)).ok K,
  fun K => (He.Fa.int "MOST_PRICES" (60)).ok K,
  fun K => (He.Fa.int "MOST_ROWS" (30)).ok K,
  fun K => (He.Fa.meth "PriceList" "with_row").ok K,
  fun K => (He.Fa.meth "PriceList" "pays").ok K,
  fun K => (He.Fa.meth "PriceList" "pay").ok K,
  fun K => (He.Fa.meth "PriceList" "price").ok K,
  fun K => cmB "PriceList" "alike" K,
  fun K => cmB "PriceList" "flat" K,
  fun K => (He.Fa.mkr "PriceList").ok K,
  fun K => lenB "PriceList" K,
  fun K => exfB PR "BadNumber" "BadNumber.__init__" K,
  fun K => exfB PR "BadPrice" "BadPrice.__init__" K,
  fun K => exfB PR "NoPerson" "NoPerson.__init__" K,
  fun K => exfB PR "NoPrices" "NoPrices.__init__" K,
  fun K => exfB PR "TooLong" "TooLong.__init__" K,
  fun K => exfB PR "WrongLength" "WrongLength.__init__" K]
/-- what the run tells -/
structure Y (K : PySem.W.Frag) (mg : Str → Option Value) : Prop where
  says : SaysF bs fn K
  kin : ∃ h : Heap, K.In h ∧ h.Ns mainGlobals mg
section
variable {K : PySem.W.Frag} {mg : Str → Option Value}
theorem Y.free (y : Y K mg) (x : Str) (hx : x ∈ frees) : mg x = none := let ⟨_, X, G⟩ := y.kin; freesB_ok X G (y.says.fact 0) hx
theorem Y.glo (y : Y K mg) (x : Str) (hx : x ∈ glos) : mg x = some (.ref (He.ga K x)) := let ⟨_, X, G⟩ := y.kin; glosB_ok X G (y.says.fact 1) hx
theorem Y.hOwns (y : Y K mg) : ∀ c ∈ owns, OwnC K c := ownsB_ok (y.says.fact 2)
theorem Y.cls (y : Y K mg) (c : Str) (h : c ∈ owns) : Cls K (He.ga K c) := (y.hOwns c h).cls
theorem Y.hItab (y : Y K mg) : ItabOk K itab := itabB_ok (y.says.fact 3)
theorem Y.hXtab (y : Y K mg) : XtabOk K xtab := xtabB_ok (y.says.fact 4)
theorem Y.hFtab (y : Y K mg) : FtabOk K ftab := ftabB_ok (y.says.fact 5)
theorem Y.xok (y : Y K mg) : XOk K xcs xfns := xokB_ok (y.says.fact 6)
theorem Y.int_LIMIT (y : Y K mg) : ∃ t, mg "LIMIT" = some (.int (1000000000000000000000000000000) t) := let ⟨_, X, G⟩ := y.kin; He.int_ok X G (y.says.fact 7)
theorem Y.int_MOST_PRICES (y : Y K mg) : ∃ t, mg "MOST_PRICES" = some (.int (60) t) := let ⟨_, X, G⟩ := y.kin; He.int_ok X G (y.says.fact 8)
theorem Y.int_MOST_ROWS (y : Y K mg) : ∃ t, mg "MOST_ROWS" = some (.int (30) t) := let ⟨_, X, G⟩ := y.kin; He.int_ok X G (y.says.fact 9)
theorem Y.kp_law_draw (y : Y K mg) : PySem.W.keepIn K (.ref ((fun K => He.ga K "_law_draw") K)) = true := let ⟨_, F⟩ := y.says.def_ (d := df_law_draw) 0; F.kp
theorem Y.kp_law_bent (y : Y K mg) : PySem.W.keepIn K (.ref ((fun K => He.ga K "_law_bent") K)) = true := let ⟨_, F⟩ := y.says.def_ (d := df_law_bent) 1; F.kp
theorem Y.kp_PriceList___len__ (y : Y K mg) : PySem.W.keepIn K (.ref ((fun K => He.ma K (He.ga K "PriceList") "__len__") K)) = true := let ⟨_, F⟩ := y.says.def_ (d := df_PriceList___len__) 2; F.kp
theorem Y.kp_law_int (y : Y K mg) : PySem.W.keepIn K (.ref ((fun K => He.ga K "_law_int") K)) = true := let ⟨_, F⟩ := y.says.def_ (d := df_law_int) 3; F.kp
theorem Y.kp_law_same (y : Y K mg) : PySem.W.keepIn K (.ref ((fun K => He.ga K "_law_same") K)) = true := let ⟨_, F⟩ := y.says.def_ (d := df_law_same) 4; F.kp
theorem Y.kp_law_is (y : Y K mg) : PySem.W.keepIn K (.ref ((fun K => He.ga K "_law_is") K)) = true := let ⟨_, F⟩ := y.says.def_ (d := df_law_is) 5; F.kp
theorem Y.kp_check_prices (y : Y K mg) : PySem.W.keepIn K (.ref ((fun K => He.ga K "check_prices") K)) = true := let ⟨_, F⟩ := y.says.def_ (d := df_check_prices) 6; F.kp
theorem Y.kp_PriceList___init__ (y : Y K mg) : PySem.W.keepIn K (.ref ((fun K => He.ma K (He.ga K "PriceList") "__init__") K)) = true := let ⟨_, F⟩ := y.says.def_ (d := df_PriceList___init__) 7; F.kp
theorem Y.kp_PriceList_with_row (y : Y K mg) : PySem.W.keepIn K (.ref ((fun K => He.ma K (He.ga K "PriceList") "with_row") K)) = true := let ⟨_, F⟩ := y.says.def_ (d := df_PriceList_with_row) 8; F.kp
theorem Y.meth_PriceList_with_row (y : Y K mg) : Meth K (He.ga K "PriceList") "with_row" ((fun K => He.ma K (He.ga K "PriceList") "with_row") K) := He.meth_ok (y.says.fact 10)
theorem Y.kp_law_other_row (y : Y K mg) : PySem.W.keepIn K (.ref ((fun K => He.ga K "_law_other_row") K)) = true := let ⟨_, F⟩ := y.says.def_ (d := df_law_other_row) 9; F.kp
theorem Y.kp_law_row (y : Y K mg) : PySem.W.keepIn K (.ref ((fun K => He.ga K "_law_row") K)) = true := let ⟨_, F⟩ := y.says.def_ (d := df_law_row) 10; F.kp
theorem Y.kp_law_row_due (y : Y K mg) : PySem.W.keepIn K (.ref ((fun K => He.ga K "_law_row_due") K)) = true := let ⟨_, F⟩ := y.says.def_ (d := df_law_row_due) 11; F.kp
theorem Y.kp_law_changed_right (y : Y K mg) : PySem.W.keepIn K (.ref ((fun K => He.ga K "_law_changed_right") K)) = true := let ⟨_, F⟩ := y.says.def_ (d := df_law_changed_right) 12; F.kp
theorem Y.kp_law_cost (y : Y K mg) : PySem.W.keepIn K (.ref ((fun K => He.ga K "_law_cost") K)) = true := let ⟨_, F⟩ := y.says.def_ (d := df_law_cost) 13; F.kp
theorem Y.kp_cost_of (y : Y K mg) : PySem.W.keepIn K (.ref ((fun K => He.ga K "cost_of") K)) = true := let ⟨_, F⟩ := y.says.def_ (d := df_cost_of) 14; F.kp
theorem Y.kp_PriceList_pays (y : Y K mg) : PySem.W.keepIn K (.ref ((fun K => He.ma K (He.ga K "PriceList") "pays") K)) = true := let ⟨_, F⟩ := y.says.def_ (d := df_PriceList_pays) 15; F.kp
theorem Y.meth_PriceList_pays (y : Y K mg) : Meth K (He.ga K "PriceList") "pays" ((fun K => He.ma K (He.ga K "PriceList") "pays") K) := He.meth_ok (y.says.fact 11)
theorem Y.kp_PriceList_pay (y : Y K mg) : PySem.W.keepIn K (.ref ((fun K => He.ma K (He.ga K "PriceList") "pay") K)) = true := let ⟨_, F⟩ := y.says.def_ (d := df_PriceList_pay) 16; F.kp
theorem Y.meth_PriceList_pay (y : Y K mg) : Meth K (He.ga K "PriceList") "pay" ((fun K => He.ma K (He.ga K "PriceList") "pay") K) := He.meth_ok (y.says.fact 12)
theorem Y.kp_law_paid (y : Y K mg) : PySem.W.keepIn K (.ref ((fun K => He.ga K "_law_paid") K)) = true := let ⟨_, F⟩ := y.says.def_ (d := df_law_paid) 17; F.kp
theorem Y.kp_PriceList_price (y : Y K mg) : PySem.W.keepIn K (.ref ((fun K => He.ma K (He.ga K "PriceList") "price") K)) = true := let ⟨_, F⟩ := y.says.def_ (d := df_PriceList_price) 18; F.kp
theorem Y.meth_PriceList_price (y : Y K mg) : Meth K (He.ga K "PriceList") "price" ((fun K => He.ma K (He.ga K "PriceList") "price") K) := He.meth_ok (y.says.fact 13)
theorem Y.kp_law_price (y : Y K mg) : PySem.W.keepIn K (.ref ((fun K => He.ga K "_law_price") K)) = true := let ⟨_, F⟩ := y.says.def_ (d := df_law_price) 19; F.kp
theorem Y.kp_law_costs_right (y : Y K mg) : PySem.W.keepIn K (.ref ((fun K => He.ga K "_law_costs_right") K)) = true := let ⟨_, F⟩ := y.says.def_ (d := df_law_costs_right) 20; F.kp
theorem Y.kp_law_due (y : Y K mg) : PySem.W.keepIn K (.ref ((fun K => He.ga K "_law_due") K)) = true := let ⟨_, F⟩ := y.says.def_ (d := df_law_due) 21; F.kp
theorem Y.kp_PriceList_alike (y : Y K mg) : PySem.W.keepIn K (.ref ((cmAt "PriceList" "alike") K)) = true := let ⟨_, F⟩ := y.says.def_ (d := df_PriceList_alike) 22; F.kp
theorem Y.cm_PriceList_alike (y : Y K mg) : ClX.CRead K (He.ga K "PriceList") (.type "type") ∧ ClX.CMet K (He.ga K "PriceList") (.type "type") "alike" (He.ma K (He.ga K "PriceList") "alike") ((cmAt "PriceList" "alike") K) := cmB_ok (y.says.fact 14)
theorem Y.kp_PriceList_flat (y : Y K mg) : PySem.W.keepIn K (.ref ((cmAt "PriceList" "flat") K)) = true := let ⟨_, F⟩ := y.says.def_ (d := df_PriceList_flat) 23; F.kp
theorem Y.cm_PriceList_flat (y : Y K mg) : ClX.CRead K (He.ga K "PriceList") (.type "type") ∧ ClX.CMet K (He.ga K "PriceList") (.type "type") "flat" (He.ma K (He.ga K "PriceList") "flat") ((cmAt "PriceList" "flat") K) := cmB_ok (y.says.fact 15)
theorem Y.kp_law_made (y : Y K mg) : PySem.W.keepIn K (.ref ((fun K => He.ga K "_law_made") K)) = true := let ⟨_, F⟩ := y.says.def_ (d := df_law_made) 24; F.kp
theorem Y.kp_law_made_right (y : Y K mg) : PySem.W.keepIn K (.ref ((fun K => He.ga K "_law_made_right") K)) = true := let ⟨_, F⟩ := y.says.def_ (d := df_law_made_right) 25; F.kp
theorem Y.kp_law_pool (y : Y K mg) : PySem.W.keepIn K (.ref ((fun K => He.ga K "_law_pool") K)) = true := let ⟨_, F⟩ := y.says.def_ (d := df_law_pool) 26; F.kp
theorem Y.kp_law_rows (y : Y K mg) : PySem.W.keepIn K (.ref ((fun K => He.ga K "_law_rows") K)) = true := let ⟨_, F⟩ := y.says.def_ (d := df_law_rows) 27; F.kp
theorem Y.kp_law (y : Y K mg) : PySem.W.keepIn K (.ref ((fun K => He.ga K "law") K)) = true := let ⟨_, F⟩ := y.says.def_ (d := df_law) 28; F.kp
theorem Y.kp_law_kin (y : Y K mg) : PySem.W.keepIn K (.ref ((fun K => He.ga K "_law_kin") K)) = true := let ⟨_, F⟩ := y.says.def_ (d := df_law_kin) 29; F.kp
theorem Y.mkr_PriceList (y : Y K mg) : Mk K (He.ga K "PriceList") (He.ma K (He.ga K "PriceList") "__init__") := He.mkr_ok (y.says.fact 16)
theorem Y.len_PriceList (y : Y K mg) : PySem.W.findIn K (.ref (He.ga K "PriceList")) "__len__" = some (some (.ref (He.ma K (He.ga K "PriceList") "__len__"))) ∧ PySem.W.isFn K (.ref (He.ma K (He.ga K "PriceList") "__len__")) = true := lenB_ok (y.says.fact 17)
theorem aug_add : ∀ (k : Int) (m : M) (z : Int), gAdd (.d (.int k)) m = some (.d (.int z)) → ∃ j, m = .d (.int j) ∧ z = k + j := by
  intro k m z h
  unfold gAdd at h
  split at h <;> simp_all [M.lst?]
theorem aug_sub : ∀ (k : Int) (m : M) (z : Int), FL.gSub (.d (.int k)) m = some (.d (.int z)) → ∃ j, m = .d (.int j) ∧ z = k - j := by
  intro k m z h
  unfold FL.gSub at h
  split at h <;> simp_all
theorem takesW {X : Cx} : L2N.Takes X WN := fun _ _ x => by
  obtain ⟨_, _, _, _, _, _, _, _, _, _, _, _, _, _, _, _, z⟩ := x
  exact z.elim
variable {w : World} {base : Heap}
theorem ex_BadNumber (y : Y K mg) : ExR PR w K mg base 1 "BadNumber" ["place", "number"] :=
  exR_of (fn := fn) (i := 30) (st := (sub 3 0)) (N := ["self", "place", "number", "__class__"]) (ps' := ["place", "number"]) y.says rfl (y.says.fact 18) (y.glo "BadNumber" (by decide)) (fun g hg => y.xok.no "BadNumber" (by decide) g (by revert g; decide)) (nscope_by (by kernel_rfl)) rfl rfl rfl rfl
    (fun cc cda f A outer s H E => (pss_cons (ps_ost (pv 0) (pv 1)) (pss_cons (ps_ost (pv 0) (pv 2)) pss_nil))) rfl (by decide) (by decide) (fun _ => rfl) (fun _ _ _ _ => rfl) (fun _ _ _ _ => ⟨_, rfl⟩) (fun _ _ _ _ _ _ _ us hl => match us, hl with | [_, _, _], _ => rfl)
theorem ex_BadPrice (y : Y K mg) : ExR PR w K mg base 1 "BadPrice" ["person", "night", "price"] :=
  exR_of (fn := fn) (i := 31) (st := (sub 8 0)) (N := ["self", "person", "night", "price", "__class__"]) (ps' := ["person", "night", "price"]) y.says rfl (y.says.fact 19) (y.glo "BadPrice" (by decide)) (fun g hg => y.xok.no "BadPrice" (by decide) g (by revert g; decide)) (nscope_by (by kernel_rfl)) rfl rfl rfl rfl
    (fun cc cda f A outer s H E => (pss_cons (ps_ost (pv 0) (pv 1)) (pss_cons (ps_ost (pv 0) (pv 2)) (pss_cons (ps_ost (pv 0) (pv 3)) pss_nil)))) rfl (by decide) (by decide) (fun _ => rfl) (fun _ _ _ _ => rfl) (fun _ _ _ _ => ⟨_, rfl⟩) (fun _ _ _ _ _ _ _ us hl => match us, hl with | [_, _, _, _], _ => rfl)
theorem ex_NoPerson (y : Y K mg) : ExR PR w K mg base 1 "NoPerson" ["person"] :=
  exR_of (fn := fn) (i := 32) (st := (sub 2 0)) (N := ["self", "person", "__class__"]) (ps' := ["person"]) y.says rfl (y.says.fact 20) (y.glo "NoPerson" (by decide)) (fun g hg => y.xok.no "NoPerson" (by decide) g (by revert g; decide)) (nscope_by (by kernel_rfl)) rfl rfl rfl rfl
    (fun cc cda f A outer s H E => (pss_cons (ps_ost (pv 0) (pv 1)) pss_nil)) rfl (by decide) (by decide) (fun _ => rfl) (fun _ _ _ _ => rfl) (fun _ _ _ _ => ⟨_, rfl⟩) (fun _ _ _ _ _ _ _ us hl => match us, hl with | [_, _], _ => rfl)
theorem ex_NoPrices (y : Y K mg) : ExR PR w K mg base 1 "NoPrices" ["person"] :=
  exR_of (fn := fn) (i := 33) (st := (sub 7 0)) (N := ["self", "person", "__class__"]) (ps' := ["person"]) y.says rfl (y.says.fact 21) (y.glo "NoPrices" (by decide)) (fun g hg => y.xok.no "NoPrices" (by decide) g (by revert g; decide)) (nscope_by (by kernel_rfl)) rfl rfl rfl rfl
    (fun cc cda f A outer s H E => (pss_cons (ps_ost (pv 0) (pv 1)) pss_nil)) rfl (by decide) (by decide) (fun _ => rfl) (fun _ _ _ _ => rfl) (fun _ _ _ _ => ⟨_, rfl⟩) (fun _ _ _ _ _ _ _ us hl => match us, hl with | [_, _], _ => rfl)
theorem ex_TooLong (y : Y K mg) : ExR PR w K mg base 1 "TooLong" ["count"] :=
  exR_of (fn := fn) (i := 34) (st := (sub 4 0)) (N := ["self", "count", "__class__"]) (ps' := ["count"]) y.says rfl (y.says.fact 22) (y.glo "TooLong" (by decide)) (fun g hg => y.xok.no "TooLong" (by decide) g (by revert g; decide)) (nscope_by (by kernel_rfl)) rfl rfl rfl rfl
    (fun cc cda f A outer s H E => (pss_cons (ps_ost (pv 0) (pv 1)) pss_nil)) rfl (by decide) (by decide) (fun _ => rfl) (fun _ _ _ _ => rfl) (fun _ _ _ _ => ⟨_, rfl⟩) (fun _ _ _ _ _ _ _ us hl => match us, hl with | [_, _], _ => rfl)
theorem ex_WrongLength (y : Y K mg) : ExR PR w K mg base 1 "WrongLength" ["found", "wanted"] :=
  exR_of (fn := fn) (i := 35) (st := (sub 5 0)) (N := ["self", "found", "wanted", "__class__"]) (ps' := ["found", "wanted"]) y.says rfl (y.says.fact 23) (y.glo "WrongLength" (by decide)) (fun g hg => y.xok.no "WrongLength" (by decide) g (by revert g; decide)) (nscope_by (by kernel_rfl)) rfl rfl rfl rfl
    (fun cc cda f A outer s H E => (pss_cons (ps_ost (pv 0) (pv 1)) (pss_cons (ps_ost (pv 0) (pv 2)) pss_nil))) rfl (by decide) (by decide) (fun _ => rfl) (fun _ _ _ _ => rfl) (fun _ _ _ _ => ⟨_, rfl⟩) (fun _ _ _ _ _ _ _ us hl => match us, hl with | [_, _, _], _ => rfl)
theorem kin (y : Y K mg) : KinOk PR w K mg base 1 "_law_kin" "NightsError" xcs := by
  obtain ⟨fd, F⟩ := y.says.def_ (d := df_law_kin) 29
  exact kinOk_of (st := (top 21)) (N := ["e"]) "_law_kin" F (y.glo "_law_kin" (by decide)) rfl (C8.fnScope_by (by kernel_rfl)) rfl rfl rfl rfl rfl (y.glo "NightsError" (by decide)) (y.free "isinstance" (by decide)) (y.free "ValueError" (by decide)) (by decide) (by decide) (by decide) y.xok (fun _ => rfl) (fun _ => rfl) (fun _ => rfl) (fun _ => rfl) (fun _ _ _ _ _ _ us hl => match us, hl with | [_], _ => rfl)
-- _law_draw: 0:pool 1:many 2:value 3:mixed
def sq_law_draw_0 : En → SOut := (sRet (eOp2 gMod (oV (eOp gInt (aCons (oV (eOp2 gDiv (oVar 3) (oV (eC (.int 7))))) aNil))) (oVar 1)))
def sq_law_draw_1 : En → SOut := (sSeq (sStore 0 (eName 3) (oV (eC (.int 1)))) sq_law_draw_0)
def sq_law_draw_2 : En → SOut := (sSeq (sSet 3 (eOp2 gMod (oV (eOp gInt (aCons (oV (eOp2 gAdd (oV (eOp2 gMul (oVar 3) (oVar 3))) (oV (eOp2 gDiv (oVar 3) (oV (eC (.int 97))))))) aNil))) (oV (eC (.int 2147483629))))) sq_law_draw_1)
def sq_law_draw_3 : En → SOut := (sSeq (sSet 3 (eOp2 gMod (oV (eOp gInt (aCons (oV (eOp2 gAdd (oV (eOp2 gAdd (oV (eOp2 gMul (oVar 3) (oVar 3))) (oV (eOp2 gMul (oV (eOp2 gIx (oVar 0) (oV (eC (.int 2))))) (oV (eC (.int 3571))))))) (oV (eC (.int 40692))))) aNil))) (oV (eC (.int 2147483399))))) sq_law_draw_2)
def sq_law_draw_4 : En → SOut := (sSeq (sSet 3 (eOp2 gIx (oVar 0) (oV (eC (.int 1))))) sq_law_draw_3)
def sq_law_draw_5 : En → SOut := (sSeq (sStore 0 (eOp2 gAdd (oV (eOp2 gIx (oVar 0) (oV (eC (.int 2))))) (oV (eC (.int 1)))) (oV (eC (.int 2)))) sq_law_draw_4)
def m_law_draw : En → SOut := (sSeq (sIf (tVal (eOp2 gGe (oV (eOp2 gIx (oVar 0) (oV (eC (.int 0))))) (oV (eC (.int 0))))) (sSeq (sSet 2 (eOp2 gMod (oV (eOp gInt (aCons (oV (eOp2 gIx (oVar 0) (oV (eC (.int 0))))) aNil))) (oVar 1))) (sSeq (sStore 0 (eOp2 gDiv (oV (eOp2 gIx (oVar 0) (oV (eC (.int 0))))) (oVar 1)) (oV (eC (.int 0)))) (sRetV 2))) sNil) sq_law_draw_5)
abbrev mir_law_draw : List M → FOut := runB 4 [0] m_law_draw
theorem fok_law_draw {fd : FuncData} (y : Y K mg) (F : FunD K "_law_draw" "_law_draw" (defArgs (top 18)) (defBody (top 18)) (defScope (top 18)) [] [] ((fun K => He.ga K "_law_draw") K) fd) : FnOk PR w K mg base (L2N.CX PR w) 2 ((fun K => He.ga K "_law_draw") K) fd ["pool", "many"] (spM K 2 mir_law_draw) := by
  refine fn_ok (N := ["pool", "many", "value", "mixed"]) (ps := ["pool", "many"]) (k := 1) [0] F (C8.fnScope_by (by kernel_rfl)) ?_
  intro cdv A outer s H E hr
  have nd : (cxOf (L2N.CX PR w) PR w K mg base ["pool", "many", "value", "mixed"] "_law_draw" (defScope (top 18)) ((fun K => He.ga K "_law_draw") K) cdv A outer s H E).N.Nodup := by show (["pool", "many", "value", "mixed"] : List Str).Nodup; decide
  have tk : L2N.Takes (cxOf (L2N.CX PR w) PR w K mg base ["pool", "many", "value", "mixed"] "_law_draw" (defScope (top 18)) ((fun K => He.ga K "_law_draw") K) cdv A outer s H E) (fun cls d _ H => E cls d H) := L2N.takes_of rfl rfl rfl rfl
  have ps : PassesOwn (model PR w) (cxOf (L2N.CX PR w) PR w K mg base ["pool", "many", "value", "mixed"] "_law_draw" (defScope (top 18)) ((fun K => He.ga K "_law_draw") K) cdv A outer s H E).A (cxOf (L2N.CX PR w) PR w K mg base ["pool", "many", "value", "mixed"] "_law_draw" (defScope (top 18)) ((fun K => He.ga K "_law_draw") K) cdv A outer s H E).env (cxOf (L2N.CX PR w) PR w K mg base ["pool", "many", "value", "mixed"] "_law_draw" (defScope (top 18)) ((fun K => He.ga K "_law_draw") K) cdv A outer s H E).xe := passes_of rfl
  exact (ss_cons (st_if (ft_ck k_ge (fo_val (fe_item (fo_var 0) (fo_val fe_int))) (fo_val fe_int)) (ss_cons (st_set 2 nd (by decide) (fe_mod (fo_val (fe_int1 (y.free "int" (by decide)) (fa_cons (fo_val (fe_item (fo_var 0) (fo_val fe_int))) fa_nil))) (fo_var 1))) (ss_cons (st_store 0 (fe_fdiv (fo_val (fe_item (fo_var 0) (fo_val fe_int))) (fo_var 1)) (fo_val fe_int)) (ss_one (st_retV 2)))) ss_nil) (ss_cons (st_store 0 (fe_add (fo_val (fe_item (fo_var 0) (fo_val fe_int))) (fo_val fe_int)) (fo_val fe_int)) (ss_cons (st_set 3 nd (by decide) (fe_item (fo_var 0) (fo_val fe_int))) (ss_cons (st_set 3 nd (by decide) (fe_mod (fo_val (fe_int1 (y.free "int" (by decide)) (fa_cons (fo_val (fe_add (fo_val (fe_add (fo_val (fe_mul (fo_var 3) (fo_var 3))) (fo_val (fe_mul (fo_val (fe_item (fo_var 0) (fo_val fe_int))) (fo_val fe_int))))) (fo_val fe_int))) fa_nil))) (fo_val fe_int))) (ss_cons (st_set 3 nd (by decide) (fe_mod (fo_val (fe_int1 (y.free "int" (by decide)) (fa_cons (fo_val (fe_add (fo_val (fe_mul (fo_var 3) (fo_var 3))) (fo_val (fe_fdiv (fo_var 3) (fo_val fe_int))))) fa_nil))) (fo_val fe_int))) (ss_cons (st_store 0 (fe_name 3) (fo_val fe_int)) (ss_one (st_ret (fe_mod (fo_val (fe_int1 (y.free "int" (by decide)) (fa_cons (fo_val (fe_fdiv (fo_var 3) (fo_val fe_int))) fa_nil))) (fo_var 1))))))))))
theorem bnd_law_draw {fd : FuncData} (F : FunD K "_law_draw" "_law_draw" (defArgs (top 18)) (defBody (top 18)) (defScope (top 18)) [] [] ((fun K => He.ga K "_law_draw") K) fd) : Binds K fd ["pool", "many"] [] := (F.bindsN fun _ _ _ _ _ _ us hl => match us, hl with | [_, _], _ => rfl)
theorem ok_law_draw (y : Y K mg) : FnM PR w K mg base 2 ((fun K => He.ga K "_law_draw") K) 2 mir_law_draw := by
  obtain ⟨fd, F⟩ := y.says.def_ (d := df_law_draw) 0
  exact fnR_of (fok_law_draw y F) (bnd_law_draw F)
-- _law_bent: 0:pool 1:row 2:bent 3:place
def sq_law_bent_0 : En → SOut := (sRetV 2)
def sq_law_bent_1 : En → SOut := (sSeq (sIf (tVal (eOp2 gGt (oV (eOp gLen (aCons (oVar 2) aNil))) (oV (eC (.int 0))))) (sSeq (sSet 3 (eCall [1, 0] (mir_law_draw) (aCons (oVar 0) (aCons (oV (eOp gLen (aCons (oVar 2) aNil))) aNil)))) (sStore 2 (eOp2 gIx (oV (eDisp .ol (aCons (oV (eOp1 gNeg (oV (eC (.int 1))))) (aCons (oV (eOp2 gAdd (oV (eOp2 gPow (oV (eC (.int 10))) (oV (eC (.int 30))))) (oV (eC (.int 1))))) (aCons (oV (eOp2 FL.gSub (oV (eOp2 gIx (oVar 2) (oV (eOp gMax2 (aCons (oV (eC (.int 0))) (aCons (oV (eOp2 FL.gSub (oVar 3) (oV (eC (.int 1))))) aNil)))))) (oV (eC (.int 1))))) aNil))))) (oV (eCall [1, 0] (mir_law_draw) (aCons (oVar 0) (aCons (oV (eC (.int 3))) aNil))))) (oVar 3))) sNil) sq_law_bent_0)
def m_law_bent : En → SOut := (sSeq (sSet 2 (eOp gList (aCons (oVar 1) aNil))) sq_law_bent_1)
abbrev mir_law_bent : List M → FOut := runB 4 [0] m_law_bent
theorem fok_law_bent {fd : FuncData} (y : Y K mg) (F : FunD K "_law_bent" "_law_bent" (defArgs (top 23)) (defBody (top 23)) (defScope (top 23)) [] [] ((fun K => He.ga K "_law_bent") K) fd) : FnOk PR w K mg base (L2N.CX PR w) 3 ((fun K => He.ga K "_law_bent") K) fd ["pool", "row"] (spM K 2 mir_law_bent) := by
  refine fn_ok (N := ["pool", "row", "bent", "place"]) (ps := ["pool", "row"]) (k := 2) [0] F (C8.fnScope_by (by kernel_rfl)) ?_
  intro cdv A outer s H E hr
  have nd : (cxOf (L2N.CX PR w) PR w K mg base ["pool", "row", "bent", "place"] "_law_bent" (defScope (top 23)) ((fun K => He.ga K "_law_bent") K) cdv A outer s H E).N.Nodup := by show (["pool", "row", "bent", "place"] : List Str).Nodup; decide
  have tk : L2N.Takes (cxOf (L2N.CX PR w) PR w K mg base ["pool", "row", "bent", "place"] "_law_bent" (defScope (top 23)) ((fun K => He.ga K "_law_bent") K) cdv A outer s H E) (fun cls d _ H => E cls d H) := L2N.takes_of rfl rfl rfl rfl
  have ps : PassesOwn (model PR w) (cxOf (L2N.CX PR w) PR w K mg base ["pool", "row", "bent", "place"] "_law_bent" (defScope (top 23)) ((fun K => He.ga K "_law_bent") K) cdv A outer s H E).A (cxOf (L2N.CX PR w) PR w K mg base ["pool", "row", "bent", "place"] "_law_bent" (defScope (top 23)) ((fun K => He.ga K "_law_bent") K) cdv A outer s H E).env (cxOf (L2N.CX PR w) PR w K mg base ["pool", "row", "bent", "place"] "_law_bent" (defScope (top 23)) ((fun K => He.ga K "_law_bent") K) cdv A outer s H E).xe := passes_of rfl
  exact (ss_cons (st_set 2 nd (by decide) (fe_list (y.free "list" (by decide)) (fa_cons (fo_var 1) fa_nil))) (ss_cons (st_if (ft_ck k_gt (fo_val (fe_len (y.free "len" (by decide)) (fa_cons (fo_var 2) fa_nil))) (fo_val fe_int)) (ss_cons (st_set 3 nd (by decide) (fe_cR [1, 0] tk (ok_law_draw y) (hr.mono (by omega)) (y.glo "_law_draw" (by decide)) (y.kp_law_draw) (fa_cons (fo_var 0) (fa_cons (fo_val (fe_len (y.free "len" (by decide)) (fa_cons (fo_var 2) fa_nil))) fa_nil)))) (ss_one (st_store 2 (fe_item (fo_val (fe_lst (fa_cons (fo_val (fe_neg (fo_val fe_int))) (fa_cons (fo_val (fe_add (fo_val (fe_pow (fo_val fe_int) (fo_val fe_int))) (fo_val fe_int))) (fa_cons (fo_val (fe_sub (fo_val (fe_item (fo_var 2) (fo_val (fe_max2 rfl (y.free "max" (by decide)) (fa_cons (fo_val fe_int) (fa_cons (fo_val (fe_sub (fo_var 3) (fo_val fe_int))) fa_nil)))))) (fo_val fe_int))) fa_nil))))) (fo_val (fe_cR [1, 0] tk (ok_law_draw y) (hr.mono (by omega)) (y.glo "_law_draw" (by decide)) (y.kp_law_draw) (fa_cons (fo_var 0) (fa_cons (fo_val fe_int) fa_nil))))) (fo_var 3)))) ss_nil) (ss_one (st_retV 2))))
theorem bnd_law_bent {fd : FuncData} (F : FunD K "_law_bent" "_law_bent" (defArgs (top 23)) (defBody (top 23)) (defScope (top 23)) [] [] ((fun K => He.ga K "_law_bent") K) fd) : Binds K fd ["pool", "row"] [] := (F.bindsN fun _ _ _ _ _ _ us hl => match us, hl with | [_, _], _ => rfl)
theorem ok_law_bent (y : Y K mg) : FnM PR w K mg base 3 ((fun K => He.ga K "_law_bent") K) 2 mir_law_bent := by
  obtain ⟨fd, F⟩ := y.says.def_ (d := df_law_bent) 1
  exact fnR_of (fok_law_bent y F) (bnd_law_bent F)
-- PriceList.__len__: 0:self
def m_PriceList___len__ : En → SOut := (sRet (eOp gLen (aCons (oV (eOp1 (gFld ftab "rows") (oVar 0))) aNil)))
abbrev mir_PriceList___len__ : List M → FOut := runB 1 [] m_PriceList___len__
theorem fok_PriceList___len__ {fd : FuncData} (y : Y K mg) (F : FunD K "__len__" "PriceList.__len__" (defArgs (sub 13 3)) (defBody (sub 13 3)) (defScope (sub 13 3)) [] [] ((fun K => He.ma K (He.ga K "PriceList") "__len__") K) fd) : FnOk PR w K mg base (L2N.CX PR w) 2 ((fun K => He.ma K (He.ga K "PriceList") "__len__") K) fd ["self"] (spM K 1 mir_PriceList___len__) := by
  refine fn_ok (N := ["self"]) (ps := ["self"]) (k := 1) [] F (C8.fnScope_by (by kernel_rfl)) ?_
  intro cdv A outer s H E hr
  have nd : (cxOf (L2N.CX PR w) PR w K mg base ["self"] "PriceList.__len__" (defScope (sub 13 3)) ((fun K => He.ma K (He.ga K "PriceList") "__len__") K) cdv A outer s H E).N.Nodup := by show (["self"] : List Str).Nodup; decide
  have tk : L2N.Takes (cxOf (L2N.CX PR w) PR w K mg base ["self"] "PriceList.__len__" (defScope (sub 13 3)) ((fun K => He.ma K (He.ga K "PriceList") "__len__") K) cdv A outer s H E) (fun cls d _ H => E cls d H) := L2N.takes_of rfl rfl rfl rfl
  have ps : PassesOwn (model PR w) (cxOf (L2N.CX PR w) PR w K mg base ["self"] "PriceList.__len__" (defScope (sub 13 3)) ((fun K => He.ma K (He.ga K "PriceList") "__len__") K) cdv A outer s H E).A (cxOf (L2N.CX PR w) PR w K mg base ["self"] "PriceList.__len__" (defScope (sub 13 3)) ((fun K => He.ma K (He.ga K "PriceList") "__len__") K) cdv A outer s H E).env (cxOf (L2N.CX PR w) PR w K mg base ["self"] "PriceList.__len__" (defScope (sub 13 3)) ((fun K => He.ma K (He.ga K "PriceList") "__len__") K) cdv A outer s H E).xe := passes_of rfl
  exact (ss_one (st_ret (fe_len (y.free "len" (by decide)) (fa_cons (fo_val (fe_fld y.hFtab (fo_var 0))) fa_nil))))
theorem bnd_PriceList___len__ {fd : FuncData} (F : FunD K "__len__" "PriceList.__len__" (defArgs (sub 13 3)) (defBody (sub 13 3)) (defScope (sub 13 3)) [] [] ((fun K => He.ma K (He.ga K "PriceList") "__len__") K) fd) : Binds K fd ["self"] [] := (F.bindsN fun _ _ _ _ _ _ us hl => match us, hl with | [_], _ => rfl)
theorem ok_PriceList___len__ (y : Y K mg) : FnM PR w K mg base 2 ((fun K => He.ma K (He.ga K "PriceList") "__len__") K) 1 mir_PriceList___len__ := by
  obtain ⟨fd, F⟩ := y.says.def_ (d := df_PriceList___len__) 2
  exact fnR_of (fok_PriceList___len__ y F) (bnd_PriceList___len__ F)
-- _law_int: 0:x
def m_law_int : En → SOut := (sRet (eAnd (eOp (gIsi owns itab) (aCons (oVar 0) (aCons (oV (eC (.ty "int"))) aNil))) (eNot (eOp (gIsi owns itab) (aCons (oVar 0) (aCons (oV (eC (.ty "bool"))) aNil))))))
abbrev mir_law_int : List M → FOut := runB 1 [] m_law_int
theorem fok_law_int {fd : FuncData} (y : Y K mg) (F : FunD K "_law_int" "_law_int" (defArgs (top 19)) (defBody (top 19)) (defScope (top 19)) [] [] ((fun K => He.ga K "_law_int") K) fd) : FnOk PR w K mg base (L2N.CX PR w) 2 ((fun K => He.ga K "_law_int") K) fd ["x"] (spM K 1 mir_law_int) := by
  refine fn_ok (N := ["x"]) (ps := ["x"]) (k := 1) [] F (C8.fnScope_by (by kernel_rfl)) ?_
  intro cdv A outer s H E hr
  have nd : (cxOf (L2N.CX PR w) PR w K mg base ["x"] "_law_int" (defScope (top 19)) ((fun K => He.ga K "_law_int") K) cdv A outer s H E).N.Nodup := by show (["x"] : List Str).Nodup; decide
  have tk : L2N.Takes (cxOf (L2N.CX PR w) PR w K mg base ["x"] "_law_int" (defScope (top 19)) ((fun K => He.ga K "_law_int") K) cdv A outer s H E) (fun cls d _ H => E cls d H) := L2N.takes_of rfl rfl rfl rfl
  have ps : PassesOwn (model PR w) (cxOf (L2N.CX PR w) PR w K mg base ["x"] "_law_int" (defScope (top 19)) ((fun K => He.ga K "_law_int") K) cdv A outer s H E).A (cxOf (L2N.CX PR w) PR w K mg base ["x"] "_law_int" (defScope (top 19)) ((fun K => He.ga K "_law_int") K) cdv A outer s H E).env (cxOf (L2N.CX PR w) PR w K mg base ["x"] "_law_int" (defScope (top 19)) ((fun K => He.ga K "_law_int") K) cdv A outer s H E).xe := passes_of rfl
  exact (ss_one (st_ret (fe_and (fe_isi y.hOwns y.hItab (y.free "isinstance" (by decide)) (fa_cons (fo_var 0) (fa_cons (fo_val (fe_bty (hm := (y.free "int" (by decide))) (hv := by kernel_rfl))) fa_nil))) (fe_one (fe_not (fe_isi y.hOwns y.hItab (y.free "isinstance" (by decide)) (fa_cons (fo_var 0) (fa_cons (fo_val (fe_bty (hm := (y.free "bool" (by decide))) (hv := by kernel_rfl))) fa_nil))))))))
theorem bnd_law_int {fd : FuncData} (F : FunD K "_law_int" "_law_int" (defArgs (top 19)) (defBody (top 19)) (defScope (top 19)) [] [] ((fun K => He.ga K "_law_int") K) fd) : Binds K fd ["x"] [] := (F.bindsN fun _ _ _ _ _ _ us hl => match us, hl with | [_], _ => rfl)
theorem ok_law_int (y : Y K mg) : FnM PR w K mg base 2 ((fun K => He.ga K "_law_int") K) 1 mir_law_int := by
  obtain ⟨fd, F⟩ := y.says.def_ (d := df_law_int) 3
  exact fnR_of (fok_law_int y F) (bnd_law_int F)
-- _law_same: 0:got 1:due 2:place
def lb_law_same_0 (rec : List M → FOut) : En → SOut := (sIf (tNot' (tVal (eCall [0, 0] (rec) (aCons (oV (eOp2 gIx (oVar 0) (oVar 2))) (aCons (oV (eOp2 gIx (oVar 1) (oVar 2))) aNil))))) (sRet (eC (.bl false))) sNil)
def sq_law_same_0 : En → SOut := (sRet (eC (.bl true)))
def sq_law_same_1 (rec : List M → FOut) : En → SOut := (sSeq (sFor (iRange1 (aCons (oV (eOp gLen (aCons (oVar 1) aNil))) aNil)) (gSet 2) (lb_law_same_0 rec)) sq_law_same_0)
def sq_law_same_2 (rec : List M → FOut) : En → SOut := (sSeq (sIf (tVal (eOp (gIsi owns itab) (aCons (oVar 1) (aCons (oV (eC (.ty "tuple"))) aNil)))) (sIf (tOr' (tNot' (tVal (eOp (gIsi owns itab) (aCons (oVar 0) (aCons (oV (eC (.ty "tuple"))) aNil))))) (tVal (eOp2 gNe (oV (eOp gLen (aCons (oVar 0) aNil))) (oV (eOp gLen (aCons (oVar 1) aNil)))))) (sRet (eC (.bl false))) sNil) (sIf (tOr' (tNot' (tVal (eOp (gIsi owns itab) (aCons (oVar 0) (aCons (oV (eC (.ty "list"))) aNil))))) (tVal (eOp2 gNe (oV (eOp gLen (aCons (oVar 0) aNil))) (oV (eOp gLen (aCons (oVar 1) aNil)))))) (sRet (eC (.bl false))) sNil)) (sq_law_same_1 rec))
def sq_law_same_3 (rec : List M → FOut) : En → SOut := (sSeq (sIf (tVal (eOp (gIsi owns itab) (aCons (oVar 1) (aCons (oV (eC (.ty "str"))) aNil)))) (sRet (eAnd (eOp (gIsi owns itab) (aCons (oVar 0) (aCons (oV (eC (.ty "str"))) aNil))) (eOp2 gEq (oVar 0) (oVar 1)))) sNil) (sq_law_same_2 rec))
def sq_law_same_4 (rec : List M → FOut) : En → SOut := (sSeq (sIf (tVal (eOp (gIsi owns itab) (aCons (oVar 1) (aCons (oV (eC (.ty "int"))) aNil)))) (sRet (eAnd (eCall [0] (mir_law_int) (aCons (oVar 0) aNil)) (eOp2 gEq (oVar 0) (oVar 1)))) sNil) (sq_law_same_3 rec))
def sq_law_same_5 (rec : List M → FOut) : En → SOut := (sSeq (sIf (tVal (eOp2 gIs (oVar 1) (oV (eC (.bl false))))) (sRet (eOp2 gIs (oVar 0) (oV (eC (.bl false))))) sNil) (sq_law_same_4 rec))
def sq_law_same_6 (rec : List M → FOut) : En → SOut := (sSeq (sIf (tVal (eOp2 gIs (oVar 1) (oV (eC (.bl true))))) (sRet (eOp2 gIs (oVar 0) (oV (eC (.bl true))))) sNil) (sq_law_same_5 rec))
def m_law_same (rec : List M → FOut) : En → SOut := (sSeq (sIf (tVal (eOp2 gIs (oVar 1) (oV (eC .non)))) (sRet (eOp2 gIs (oVar 0) (oV (eC .non)))) sNil) (sq_law_same_6 rec))
def mir_law_same' : Nat → List M → FOut
  | 0 => fun _ => .bad
  | n + 1 => runB 3 [] (m_law_same (mir_law_same' n))
theorem okn_law_same (y : Y K mg) : ∀ n : Nat, FnM PR w K mg base (n + 2) ((fun K => He.ga K "_law_same") K) 2 (mir_law_same' n)
  | 0 => fnM_bad
  | n + 1 => by
    have ih := okn_law_same y n
    obtain ⟨fd, F⟩ := y.says.def_ (d := df_law_same) 4
    rw [show n + 1 + 2 = n + 2 + 1 from by omega]
    refine fnR_of (fn_ok (N := ["got", "due", "place"]) (ps := ["got", "due"]) (k := n + 2) [] F (C8.fnScope_by (by kernel_rfl)) ?_) (F.bindsN fun _ _ _ _ _ _ us hl => match us, hl with | [_, _], _ => rfl)
    intro cdv A outer s H E hr
    have nd : (cxOf (L2N.CX PR w) PR w K mg base ["got", "due", "place"] "_law_same" (defScope (top 20)) ((fun K => He.ga K "_law_same") K) cdv A outer s H E).N.Nodup := by show (["got", "due", "place"] : List Str).Nodup; decide
    have tk : L2N.Takes (cxOf (L2N.CX PR w) PR w K mg base ["got", "due", "place"] "_law_same" (defScope (top 20)) ((fun K => He.ga K "_law_same") K) cdv A outer s H E) (fun cls d _ H => E cls d H) := L2N.takes_of rfl rfl rfl rfl
    have ps : PassesOwn (model PR w) (cxOf (L2N.CX PR w) PR w K mg base ["got", "due", "place"] "_law_same" (defScope (top 20)) ((fun K => He.ga K "_law_same") K) cdv A outer s H E).A (cxOf (L2N.CX PR w) PR w K mg base ["got", "due", "place"] "_law_same" (defScope (top 20)) ((fun K => He.ga K "_law_same") K) cdv A outer s H E).env (cxOf (L2N.CX PR w) PR w K mg base ["got", "due", "place"] "_law_same" (defScope (top 20)) ((fun K => He.ga K "_law_same") K) cdv A outer s H E).xe := passes_of rfl
    exact (ss_cons (st_if (ft_ck k_is (fo_var 1) (fo_val fe_non)) (ss_one (st_ret (fe_ck k_is (fo_var 0) (fo_val fe_non)))) ss_nil) (ss_cons (st_if (ft_ck k_is (fo_var 1) (fo_val fe_bl)) (ss_one (st_ret (fe_ck k_is (fo_var 0) (fo_val fe_bl)))) ss_nil) (ss_cons (st_if (ft_ck k_is (fo_var 1) (fo_val fe_bl)) (ss_one (st_ret (fe_ck k_is (fo_var 0) (fo_val fe_bl)))) ss_nil) (ss_cons (st_if (ft_val (fe_isi y.hOwns y.hItab (y.free "isinstance" (by decide)) (fa_cons (fo_var 1) (fa_cons (fo_val (fe_bty (hm := (y.free "int" (by decide))) (hv := by kernel_rfl))) fa_nil)))) (ss_one (st_ret (fe_and (fe_cR [0] tk (ok_law_int y) (hr.mono (by omega)) (y.glo "_law_int" (by decide)) (y.kp_law_int) (fa_cons (fo_var 0) fa_nil)) (fe_one (fe_ck (k_eq hr) (fo_var 0) (fo_var 1)))))) ss_nil) (ss_cons (st_if (ft_val (fe_isi y.hOwns y.hItab (y.free "isinstance" (by decide)) (fa_cons (fo_var 1) (fa_cons (fo_val (fe_bty (hm := (y.free "str" (by decide))) (hv := by kernel_rfl))) fa_nil)))) (ss_one (st_ret (fe_and (fe_isi y.hOwns y.hItab (y.free "isinstance" (by decide)) (fa_cons (fo_var 0) (fa_cons (fo_val (fe_bty (hm := (y.free "str" (by decide))) (hv := by kernel_rfl))) fa_nil))) (fe_one (fe_ck (k_eq hr) (fo_var 0) (fo_var 1)))))) ss_nil) (ss_cons (st_if (ft_val (fe_isi y.hOwns y.hItab (y.free "isinstance" (by decide)) (fa_cons (fo_var 1) (fa_cons (fo_val (fe_bty (hm := (y.free "tuple" (by decide))) (hv := by kernel_rfl))) fa_nil)))) (ss_one (st_if (FW.ft (fw_or (ft_not (ft_val (fe_isi y.hOwns y.hItab (y.free "isinstance" (by decide)) (fa_cons (fo_var 0) (fa_cons (fo_val (fe_bty (hm := (y.free "tuple" (by decide))) (hv := by kernel_rfl))) fa_nil))))) (fw_or1 (ft_ck (k_ne hr) (fo_val (fe_len (y.free "len" (by decide)) (fa_cons (fo_var 0) fa_nil))) (fo_val (fe_len (y.free "len" (by decide)) (fa_cons (fo_var 1) fa_nil))))))) (ss_one (st_ret fe_bl)) ss_nil)) (ss_one (st_if (FW.ft (fw_or (ft_not (ft_val (fe_isi y.hOwns y.hItab (y.free "isinstance" (by decide)) (fa_cons (fo_var 0) (fa_cons (fo_val (fe_bty (hm := (y.free "list" (by decide))) (hv := by kernel_rfl))) fa_nil))))) (fw_or1 (ft_ck (k_ne hr) (fo_val (fe_len (y.free "len" (by decide)) (fa_cons (fo_var 0) fa_nil))) (fo_val (fe_len (y.free "len" (by decide)) (fa_cons (fo_var 1) fa_nil))))))) (ss_one (st_ret fe_bl)) ss_nil))) (ss_cons (st_for ps rfl (by decide) (fi_range1 (y.free "range" (by decide)) (fa_cons (fo_val (fe_len (y.free "len" (by decide)) (fa_cons (fo_var 1) fa_nil))) fa_nil)) (fg_name 2 nd) (ss_one (st_if (ft_not (ft_val (fe_cR [0, 0] tk ih (hr.mono (by omega)) (y.glo "_law_same" (by decide)) (y.kp_law_same) (fa_cons (fo_val (fe_item (fo_var 0) (fo_var 2))) (fa_cons (fo_val (fe_item (fo_var 1) (fo_var 2))) fa_nil))))) (ss_one (st_ret fe_bl)) ss_nil))) (ss_one (st_ret fe_bl)))))))))
abbrev mir_law_same : List M → FOut := mir_law_same' 12
theorem ok_law_same (y : Y K mg) : FnM PR w K mg base 14 ((fun K => He.ga K "_law_same") K) 2 mir_law_same := okn_law_same y 12
-- _law_is: 0:prices 1:rows 2:row
def le_law_is_0 : En → Out M := (eOp gTuple (aCons (oVar 2) aNil))
def sq_law_is_0 : En → SOut := (sRet (eCall [0, 0] (mir_law_same) (aCons (oV (eDisp .ol (aCons (oV (eOp1 (gFld ftab "rows") (oVar 0))) (aCons (oV (eLenO "PriceList" (mir_PriceList___len__) (aCons (oVar 0) aNil))) aNil)))) (aCons (oV (eDisp .ol (aCons (oV (eOp gTuple (aCons (oV (eLc (iItems (eName 1)) (gSet 2) tOne le_law_is_0 [2])) aNil))) (aCons (oV (eOp gLen (aCons (oVar 1) aNil))) aNil)))) aNil))))
def m_law_is : En → SOut := (sSeq (sIf (tNot' (tVal (eOp (gIsi owns itab) (aCons (oVar 0) (aCons (oV (eC (.cl "PriceList"))) aNil))))) (sRet (eC (.bl false))) sNil) sq_law_is_0)
abbrev mir_law_is : List M → FOut := runB 3 [] m_law_is
theorem fok_law_is {fd : FuncData} (y : Y K mg) (F : FunD K "_law_is" "_law_is" (defArgs (top 31)) (defBody (top 31)) (defScope (top 31)) [] [] ((fun K => He.ga K "_law_is") K) fd) : FnOk PR w K mg base (L2N.CX PR w) 15 ((fun K => He.ga K "_law_is") K) fd ["prices", "rows"] (spM K 2 mir_law_is) := by
  refine fn_ok (N := ["prices", "rows", "row"]) (ps := ["prices", "rows"]) (k := 14) [] F (C8.fnScope_by (by kernel_rfl)) ?_
  intro cdv A outer s H E hr
  have nd : (cxOf (L2N.CX PR w) PR w K mg base ["prices", "rows", "row"] "_law_is" (defScope (top 31)) ((fun K => He.ga K "_law_is") K) cdv A outer s H E).N.Nodup := by show (["prices", "rows", "row"] : List Str).Nodup; decide
  have tk : L2N.Takes (cxOf (L2N.CX PR w) PR w K mg base ["prices", "rows", "row"] "_law_is" (defScope (top 31)) ((fun K => He.ga K "_law_is") K) cdv A outer s H E) (fun cls d _ H => E cls d H) := L2N.takes_of rfl rfl rfl rfl
  have ps : PassesOwn (model PR w) (cxOf (L2N.CX PR w) PR w K mg base ["prices", "rows", "row"] "_law_is" (defScope (top 31)) ((fun K => He.ga K "_law_is") K) cdv A outer s H E).A (cxOf (L2N.CX PR w) PR w K mg base ["prices", "rows", "row"] "_law_is" (defScope (top 31)) ((fun K => He.ga K "_law_is") K) cdv A outer s H E).env (cxOf (L2N.CX PR w) PR w K mg base ["prices", "rows", "row"] "_law_is" (defScope (top 31)) ((fun K => He.ga K "_law_is") K) cdv A outer s H E).xe := passes_of rfl
  exact (ss_cons (st_if (ft_not (ft_val (fe_isi y.hOwns y.hItab (y.free "isinstance" (by decide)) (fa_cons (fo_var 0) (fa_cons (fo_val (fe_cls (hm := (y.glo "PriceList" (by decide))))) fa_nil))))) (ss_one (st_ret fe_bl)) ss_nil) (ss_one (st_ret (fe_cR [0, 0] tk (ok_law_same y) (hr.mono (by omega)) (y.glo "_law_same" (by decide)) (y.kp_law_same) (fa_cons (fo_val (fe_lst (fa_cons (fo_val (fe_fld y.hFtab (fo_var 0))) (fa_cons (fo_val (fe_lenO "PriceList" (y.len_PriceList).1 (y.len_PriceList).2 (ok_PriceList___len__ y) (hr.mono (by omega)) (y.free "len" (by decide)) (fa_cons (fo_var 0) fa_nil))) fa_nil)))) (fa_cons (fo_val (fe_lst (fa_cons (fo_val (fe_tuple (y.free "tuple" (by decide)) (fa_cons (fo_val (fe_lc [("row", 2)] rfl nd (fi_seq (fe_name 1)) (blkOk_by (by kernel_rfl)) (fun _ _ _ _ _ => (fg_name 2 nd)) (by decide) (fun _ _ _ _ _ => fts_nil) (fun _ _ _ _ _ => (fe_tuple (y.free "tuple" (by decide)) (fa_cons (fo_var 2) fa_nil))))) fa_nil))) (fa_cons (fo_val (fe_len (y.free "len" (by decide)) (fa_cons (fo_var 1) fa_nil))) fa_nil)))) fa_nil))))))
theorem bnd_law_is {fd : FuncData} (F : FunD K "_law_is" "_law_is" (defArgs (top 31)) (defBody (top 31)) (defScope (top 31)) [] [] ((fun K => He.ga K "_law_is") K) fd) : Binds K fd ["prices", "rows"] [] := (F.bindsN fun _ _ _ _ _ _ us hl => match us, hl with | [_, _], _ => rfl)
theorem ok_law_is (y : Y K mg) : FnM PR w K mg base 15 ((fun K => He.ga K "_law_is") K) 2 mir_law_is := by
  obtain ⟨fd, F⟩ := y.says.def_ (d := df_law_is) 5
  exact fnR_of (fok_law_is y F) (bnd_law_is F)
-- check_prices: 0:person 1:row 2:least 3:place 4:price
def sq_check_prices_0 : En → SOut := (sSet 2 (eName 4))
def lb_check_prices_0 : En → SOut := (sSeq (sIf (tNot' (tVal (eChain gLe gLe (oVar 2) (oVar 4) (oV (eC (.int (1000000000000000000000000000000))))))) (sRaise "BadPrice" ["person", "night", "price"] (aCons (oVar 0) (aCons (oV (eOp2 gAdd (oVar 3) (oV (eC (.int 1))))) (aCons (oVar 4) aNil)))) sNil) sq_check_prices_0)
def sq_check_prices_1 : En → SOut := (sFor (iEnum1 (aCons (oVar 1) aNil)) (gTupS 2 (gsCons (gSet 3) (gsCons (gSet 4) gsNil))) lb_check_prices_0)
def sq_check_prices_2 : En → SOut := (sSeq (sSet 2 (eC (.int 0))) sq_check_prices_1)
def sq_check_prices_3 : En → SOut := (sSeq (sIf (tVal (eOp2 gGt (oV (eOp gLen (aCons (oVar 1) aNil))) (oV (eC (.int (60)))))) (sRaise "TooLong" ["count"] (aCons (oV (eOp gLen (aCons (oVar 1) aNil))) aNil)) sNil) sq_check_prices_2)
def m_check_prices : En → SOut := (sSeq (sIf (tVal (eOp2 gEq (oV (eOp gLen (aCons (oVar 1) aNil))) (oV (eC (.int 0))))) (sRaise "NoPrices" ["person"] (aCons (oVar 0) aNil)) sNil) sq_check_prices_3)
abbrev mir_check_prices : List M → FOut := runB 5 [] m_check_prices
theorem fok_check_prices {fd : FuncData} (y : Y K mg) (F : FunD K "check_prices" "check_prices" (defArgs (top 14)) (defBody (top 14)) (defScope (top 14)) [] [] ((fun K => He.ga K "check_prices") K) fd) : FnOk PR w K mg base (L2N.CX PR w) 3 ((fun K => He.ga K "check_prices") K) fd ["person", "row"] (spM K 2 mir_check_prices) := by
  refine fn_ok (N := ["person", "row", "least", "place", "price"]) (ps := ["person", "row"]) (k := 2) [] F (C8.fnScope_by (by kernel_rfl)) ?_
  intro cdv A outer s H E hr
  have nd : (cxOf (L2N.CX PR w) PR w K mg base ["person", "row", "least", "place", "price"] "check_prices" (defScope (top 14)) ((fun K => He.ga K "check_prices") K) cdv A outer s H E).N.Nodup := by show (["person", "row", "least", "place", "price"] : List Str).Nodup; decide
  have tk : L2N.Takes (cxOf (L2N.CX PR w) PR w K mg base ["person", "row", "least", "place", "price"] "check_prices" (defScope (top 14)) ((fun K => He.ga K "check_prices") K) cdv A outer s H E) (fun cls d _ H => E cls d H) := L2N.takes_of rfl rfl rfl rfl
  have ps : PassesOwn (model PR w) (cxOf (L2N.CX PR w) PR w K mg base ["person", "row", "least", "place", "price"] "check_prices" (defScope (top 14)) ((fun K => He.ga K "check_prices") K) cdv A outer s H E).A (cxOf (L2N.CX PR w) PR w K mg base ["person", "row", "least", "place", "price"] "check_prices" (defScope (top 14)) ((fun K => He.ga K "check_prices") K) cdv A outer s H E).env (cxOf (L2N.CX PR w) PR w K mg base ["person", "row", "least", "place", "price"] "check_prices" (defScope (top 14)) ((fun K => He.ga K "check_prices") K) cdv A outer s H E).xe := passes_of rfl
  exact (ss_cons (st_if (ft_ck (k_eq hr) (fo_val (fe_len (y.free "len" (by decide)) (fa_cons (fo_var 1) fa_nil))) (fo_val fe_int)) (ss_one (st_raise rfl tk (ex_NoPrices y) (hr.mono (by omega)) (fa_cons (fo_var 0) fa_nil))) ss_nil) (ss_cons (st_if (ft_ck k_gt (fo_val (fe_len (y.free "len" (by decide)) (fa_cons (fo_var 1) fa_nil))) (fo_val (fe_gint (hm := y.int_MOST_PRICES)))) (ss_one (st_raise rfl tk (ex_TooLong y) (hr.mono (by omega)) (fa_cons (fo_val (fe_len (y.free "len" (by decide)) (fa_cons (fo_var 1) fa_nil))) fa_nil))) ss_nil) (ss_cons (st_set 2 nd (by decide) fe_int) (ss_one (st_for ps rfl (by decide) (fi_enum (y.free "enumerate" (by decide)) (fa_cons (fo_var 1) fa_nil)) (fg_tup rfl (fgs_cons (fg_name 3 nd) (fgs_cons (fg_name 4 nd) fgs_nil))) (ss_cons (st_if (ft_not (ft_chain k_le k_le (fo_var 2) (fo_var 4) (fo_val (fe_gint (hm := y.int_LIMIT))))) (ss_one (st_raise rfl tk (ex_BadPrice y) (hr.mono (by omega)) (fa_cons (fo_var 0) (fa_cons (fo_val (fe_add (fo_var 3) (fo_val fe_int))) (fa_cons (fo_var 4) fa_nil))))) ss_nil) (ss_one (st_set 2 nd (by decide) (fe_name 4)))))))))
theorem bnd_check_prices {fd : FuncData} (F : FunD K "check_prices" "check_prices" (defArgs (top 14)) (defBody (top 14)) (defScope (top 14)) [] [] ((fun K => He.ga K "check_prices") K) fd) : Binds K fd ["person", "row"] [] := (F.bindsN fun _ _ _ _ _ _ us hl => match us, hl with | [_, _], _ => rfl)
theorem ok_check_prices (y : Y K mg) : FnM PR w K mg base 3 ((fun K => He.ga K "check_prices") K) 2 mir_check_prices := by
  obtain ⟨fd, F⟩ := y.says.def_ (d := df_check_prices) 6
  exact fnR_of (fok_check_prices y F) (bnd_check_prices F)
-- PriceList.__init__: 0:self 1:rows 2:person 3:row
def lb_PriceList___init___0 : En → SOut := (sDrop (eCall [0, 0] (mir_check_prices) (aCons (oVar 2) (aCons (oVar 3) aNil))))
def le_PriceList___init___0 : En → Out M := (eOp gTuple (aCons (oVar 3) aNil))
def sq_PriceList___init___0 : En → SOut := (sFldM ftab 0 "rows" (eOp gTuple (aCons (oV (eLc (iItems (eName 1)) (gSet 3) tOne le_PriceList___init___0 [3])) aNil)))
def sq_PriceList___init___1 : En → SOut := (sSeq (sFor (iEnum1 (aCons (oVar 1) aNil)) (gTupS 2 (gsCons (gSet 2) (gsCons (gSet 3) gsNil))) lb_PriceList___init___0) sq_PriceList___init___0)
def m_PriceList___init__ : En → SOut := (sSeq (sIf (tVal (eOp2 gGt (oV (eOp gLen (aCons (oVar 1) aNil))) (oV (eC (.int (30)))))) (sRaise "TooLong" ["count"] (aCons (oV (eOp gLen (aCons (oVar 1) aNil))) aNil)) sNil) sq_PriceList___init___1)
abbrev mir_PriceList___init__ : List M → FOut := runB 4 [0] m_PriceList___init__
theorem fok_PriceList___init__ {fd : FuncData} (y : Y K mg) (F : FunD K "__init__" "PriceList.__init__" (defArgs (sub 13 0)) (defBody (sub 13 0)) (defScope (sub 13 0)) [] [] ((fun K => He.ma K (He.ga K "PriceList") "__init__") K) fd) : FnOk PR w K mg base (L2N.CX PR w) 4 ((fun K => He.ma K (He.ga K "PriceList") "__init__") K) fd ["self", "rows"] (spM K 2 mir_PriceList___init__) := by
  refine fn_ok (N := ["self", "rows", "person", "row"]) (ps := ["self", "rows"]) (k := 3) [0] F (C8.fnScope_by (by kernel_rfl)) ?_
  intro cdv A outer s H E hr
  have nd : (cxOf (L2N.CX PR w) PR w K mg base ["self", "rows", "person", "row"] "PriceList.__init__" (defScope (sub 13 0)) ((fun K => He.ma K (He.ga K "PriceList") "__init__") K) cdv A outer s H E).N.Nodup := by show (["self", "rows", "person", "row"] : List Str).Nodup; decide
  have tk : L2N.Takes (cxOf (L2N.CX PR w) PR w K mg base ["self", "rows", "person", "row"] "PriceList.__init__" (defScope (sub 13 0)) ((fun K => He.ma K (He.ga K "PriceList") "__init__") K) cdv A outer s H E) (fun cls d _ H => E cls d H) := L2N.takes_of rfl rfl rfl rfl
  have ps : PassesOwn (model PR w) (cxOf (L2N.CX PR w) PR w K mg base ["self", "rows", "person", "row"] "PriceList.__init__" (defScope (sub 13 0)) ((fun K => He.ma K (He.ga K "PriceList") "__init__") K) cdv A outer s H E).A (cxOf (L2N.CX PR w) PR w K mg base ["self", "rows", "person", "row"] "PriceList.__init__" (defScope (sub 13 0)) ((fun K => He.ma K (He.ga K "PriceList") "__init__") K) cdv A outer s H E).env (cxOf (L2N.CX PR w) PR w K mg base ["self", "rows", "person", "row"] "PriceList.__init__" (defScope (sub 13 0)) ((fun K => He.ma K (He.ga K "PriceList") "__init__") K) cdv A outer s H E).xe := passes_of rfl
  exact (ss_cons (st_if (ft_ck k_gt (fo_val (fe_len (y.free "len" (by decide)) (fa_cons (fo_var 1) fa_nil))) (fo_val (fe_gint (hm := y.int_MOST_ROWS)))) (ss_one (st_raise rfl tk (ex_TooLong y) (hr.mono (by omega)) (fa_cons (fo_val (fe_len (y.free "len" (by decide)) (fa_cons (fo_var 1) fa_nil))) fa_nil))) ss_nil) (ss_cons (st_for ps rfl (by decide) (fi_enum (y.free "enumerate" (by decide)) (fa_cons (fo_var 1) fa_nil)) (fg_tup rfl (fgs_cons (fg_name 2 nd) (fgs_cons (fg_name 3 nd) fgs_nil))) (ss_one (st_expr (fe_cR [0, 0] tk (ok_check_prices y) (hr.mono (by omega)) (y.glo "check_prices" (by decide)) (y.kp_check_prices) (fa_cons (fo_var 2) (fa_cons (fo_var 3) fa_nil)))))) (ss_one (st_fld 0 y.hFtab (fe_tuple (y.free "tuple" (by decide)) (fa_cons (fo_val (fe_lc [("row", 3)] rfl nd (fi_seq (fe_name 1)) (blkOk_by (by kernel_rfl)) (fun _ _ _ _ _ => (fg_name 3 nd)) (by decide) (fun _ _ _ _ _ => fts_nil) (fun _ _ _ _ _ => (fe_tuple (y.free "tuple" (by decide)) (fa_cons (fo_var 3) fa_nil))))) fa_nil))))))
theorem bnd_PriceList___init__ {fd : FuncData} (F : FunD K "__init__" "PriceList.__init__" (defArgs (sub 13 0)) (defBody (sub 13 0)) (defScope (sub 13 0)) [] [] ((fun K => He.ma K (He.ga K "PriceList") "__init__") K) fd) : Binds K fd ["self", "rows"] [] := (F.bindsN fun _ _ _ _ _ _ us hl => match us, hl with | [_, _], _ => rfl)
theorem ok_PriceList___init__ (y : Y K mg) : FnM PR w K mg base 4 ((fun K => He.ma K (He.ga K "PriceList") "__init__") K) 2 mir_PriceList___init__ := by
  obtain ⟨fd, F⟩ := y.says.def_ (d := df_PriceList___init__) 7
  exact fnR_of (fok_PriceList___init__ y F) (bnd_PriceList___init__ F)
-- PriceList.with_row: 0:self 1:person 2:row 3:rows
def sq_PriceList_with_row_0 : En → SOut := (sRet (eMake "PriceList" (mir_PriceList___init__) (aCons (oVar 3) aNil)))
def sq_PriceList_with_row_1 : En → SOut := (sSeq (sStore 3 (eName 2) (oVar 1)) sq_PriceList_with_row_0)
def sq_PriceList_with_row_2 : En → SOut := (sSeq (sSet 3 (eOp gList (aCons (oV (eOp1 (gFld ftab "rows") (oVar 0))) aNil))) sq_PriceList_with_row_1)
def m_PriceList_with_row : En → SOut := (sSeq (sIf (tNot' (tVal (eChain gLe gLt (oV (eC (.int 0))) (oVar 1) (oV (eOp gLen (aCons (oV (eOp1 (gFld ftab "rows") (oVar 0))) aNil)))))) (sRaise "NoPerson" ["person"] (aCons (oVar 1) aNil)) sNil) sq_PriceList_with_row_2)
abbrev mir_PriceList_with_row : List M → FOut := runB 4 [] m_PriceList_with_row
theorem fok_PriceList_with_row {fd : FuncData} (y : Y K mg) (F : FunD K "with_row" "PriceList.with_row" (defArgs (sub 13 7)) (defBody (sub 13 7)) (defScope (sub 13 7)) [] [] ((fun K => He.ma K (He.ga K "PriceList") "with_row") K) fd) : FnOk PR w K mg base (L2N.CX PR w) 6 ((fun K => He.ma K (He.ga K "PriceList") "with_row") K) fd ["self", "person", "row"] (spM K 3 mir_PriceList_with_row) := by
  refine fn_ok (N := ["self", "person", "row", "rows"]) (ps := ["self", "person", "row"]) (k := 5) [] F (C8.fnScope_by (by kernel_rfl)) ?_
  intro cdv A outer s H E hr
  have nd : (cxOf (L2N.CX PR w) PR w K mg base ["self", "person", "row", "rows"] "PriceList.with_row" (defScope (sub 13 7)) ((fun K => He.ma K (He.ga K "PriceList") "with_row") K) cdv A outer s H E).N.Nodup := by show (["self", "person", "row", "rows"] : List Str).Nodup; decide
  have tk : L2N.Takes (cxOf (L2N.CX PR w) PR w K mg base ["self", "person", "row", "rows"] "PriceList.with_row" (defScope (sub 13 7)) ((fun K => He.ma K (He.ga K "PriceList") "with_row") K) cdv A outer s H E) (fun cls d _ H => E cls d H) := L2N.takes_of rfl rfl rfl rfl
  have ps : PassesOwn (model PR w) (cxOf (L2N.CX PR w) PR w K mg base ["self", "person", "row", "rows"] "PriceList.with_row" (defScope (sub 13 7)) ((fun K => He.ma K (He.ga K "PriceList") "with_row") K) cdv A outer s H E).A (cxOf (L2N.CX PR w) PR w K mg base ["self", "person", "row", "rows"] "PriceList.with_row" (defScope (sub 13 7)) ((fun K => He.ma K (He.ga K "PriceList") "with_row") K) cdv A outer s H E).env (cxOf (L2N.CX PR w) PR w K mg base ["self", "person", "row", "rows"] "PriceList.with_row" (defScope (sub 13 7)) ((fun K => He.ma K (He.ga K "PriceList") "with_row") K) cdv A outer s H E).xe := passes_of rfl
  exact (ss_cons (st_if (ft_not (ft_chain k_le k_lt (fo_val fe_int) (fo_var 1) (fo_val (fe_len (y.free "len" (by decide)) (fa_cons (fo_val (fe_fld y.hFtab (fo_var 0))) fa_nil))))) (ss_one (st_raise rfl tk (ex_NoPerson y) (hr.mono (by omega)) (fa_cons (fo_var 1) fa_nil))) ss_nil) (ss_cons (st_set 3 nd (by decide) (fe_list (y.free "list" (by decide)) (fa_cons (fo_val (fe_fld y.hFtab (fo_var 0))) fa_nil))) (ss_cons (st_store 3 (fe_name 2) (fo_var 1)) (ss_one (st_ret (fe_kR "PriceList" tk (y.mkr_PriceList) (ok_PriceList___init__ y) (hr.mono (by omega)) (y.glo "PriceList" (by decide)) (fa_cons (fo_var 3) fa_nil) (fun ε as ε1 h => by rw [(aCons_len aNil_len) ε as ε1 h])))))))
theorem bnd_PriceList_with_row {fd : FuncData} (F : FunD K "with_row" "PriceList.with_row" (defArgs (sub 13 7)) (defBody (sub 13 7)) (defScope (sub 13 7)) [] [] ((fun K => He.ma K (He.ga K "PriceList") "with_row") K) fd) : Binds K fd ["self", "person", "row"] [] := (F.bindsN fun _ _ _ _ _ _ us hl => match us, hl with | [_, _, _], _ => rfl)
theorem ok_PriceList_with_row (y : Y K mg) : FnM PR w K mg base 6 ((fun K => He.ma K (He.ga K "PriceList") "with_row") K) 3 mir_PriceList_with_row := by
  obtain ⟨fd, F⟩ := y.says.def_ (d := df_PriceList_with_row) 8
  exact fnR_of (fok_PriceList_with_row y F) (bnd_PriceList_with_row F)
-- _law_other_row: 0:prices 1:person 2:row 3:e
def tb_law_other_row_0 : En → SOut := (sRet (eMeth "PriceList" "with_row" [0, 0, 0] (mir_PriceList_with_row) (oVar 0) (aCons (oVar 1) (aCons (oVar 2) aNil))))
def hs_law_other_row_0 : List Clause := [("NoPerson", 3, xRet itab "NightsError" [.c (.str "NoPerson"), .f "person", .kin]), ("NoPrices", 3, xRet itab "NightsError" [.c (.str "NoPrices"), .f "person", .kin, .isi (.own "PriceError")]), ("TooLong", 3, xRet itab "NightsError" [.c (.str "TooLong"), .f "count", .kin, .isi (.own "PriceError")]), ("BadPrice", 3, xRet itab "NightsError" [.c (.str "BadPrice"), .f "person", .f "night", .f "price", .kin, .isi (.own "PriceError")])]
def m_law_other_row : En → SOut := (sTry xtab xcs tb_law_other_row_0 hs_law_other_row_0)
abbrev mir_law_other_row : List M → FOut := runB 4 [] m_law_other_row
theorem fok_law_other_row {fd : FuncData} (y : Y K mg) (F : FunD K "_law_other_row" "_law_other_row" (defArgs (top 33)) (defBody (top 33)) (defScope (top 33)) [] [] ((fun K => He.ga K "_law_other_row") K) fd) : FnOk PR w K mg base (L2N.CX PR w) 7 ((fun K => He.ga K "_law_other_row") K) fd ["prices", "person", "row"] (spM K 3 mir_law_other_row) := by
  refine fn_ok (N := ["prices", "person", "row", "e"]) (ps := ["prices", "person", "row"]) (k := 6) [] F (C8.fnScope_by (by kernel_rfl)) ?_
  intro cdv A outer s H E hr
  have nd : (cxOf (L2N.CX PR w) PR w K mg base ["prices", "person", "row", "e"] "_law_other_row" (defScope (top 33)) ((fun K => He.ga K "_law_other_row") K) cdv A outer s H E).N.Nodup := by show (["prices", "person", "row", "e"] : List Str).Nodup; decide
  have tk : L2N.Takes (cxOf (L2N.CX PR w) PR w K mg base ["prices", "person", "row", "e"] "_law_other_row" (defScope (top 33)) ((fun K => He.ga K "_law_other_row") K) cdv A outer s H E) (fun cls d _ H => E cls d H) := L2N.takes_of rfl rfl rfl rfl
  have ps : PassesOwn (model PR w) (cxOf (L2N.CX PR w) PR w K mg base ["prices", "person", "row", "e"] "_law_other_row" (defScope (top 33)) ((fun K => He.ga K "_law_other_row") K) cdv A outer s H E).A (cxOf (L2N.CX PR w) PR w K mg base ["prices", "person", "row", "e"] "_law_other_row" (defScope (top 33)) ((fun K => He.ga K "_law_other_row") K) cdv A outer s H E).env (cxOf (L2N.CX PR w) PR w K mg base ["prices", "person", "row", "e"] "_law_other_row" (defScope (top 33)) ((fun K => He.ga K "_law_other_row") K) cdv A outer s H E).xe := passes_of rfl
  exact (ss_one (st_try y.hXtab rfl rfl nd tk (fun W pn xe tk ps => (ss_one (st_ret (fe_mR "PriceList" [0, 0, 0] tk (y.cls "PriceList" (by decide)) (y.meth_PriceList_with_row) (ok_PriceList_with_row y) (hr.mono (by omega)) (fo_var 0) (fa_cons (fo_var 1) (fa_cons (fo_var 2) fa_nil)))))) (.cons (by decide) (y.glo "NoPerson" (by decide)) rfl (by decide) rfl rfl (fx_ret (fxa_cons fx_str (fxa_cons (fx_fld y.xok (by decide)) (fxa_cons (fx_kin y.hItab (kin y) (hr.mono (by omega))) fxa_nil)))) (.cons (by decide) (y.glo "NoPrices" (by decide)) rfl (by decide) rfl rfl (fx_ret (fxa_cons fx_str (fxa_cons (fx_fld y.xok (by decide)) (fxa_cons (fx_kin y.hItab (kin y) (hr.mono (by omega))) (fxa_cons (fx_isiO y.xok y.hItab (y.glo "PriceError" (by decide)) (y.free "isinstance" (by decide))) fxa_nil))))) (.cons (by decide) (y.glo "TooLong" (by decide)) rfl (by decide) rfl rfl (fx_ret (fxa_cons fx_str (fxa_cons (fx_fld y.xok (by decide)) (fxa_cons (fx_kin y.hItab (kin y) (hr.mono (by omega))) (fxa_cons (fx_isiO y.xok y.hItab (y.glo "PriceError" (by decide)) (y.free "isinstance" (by decide))) fxa_nil))))) (.cons (by decide) (y.glo "BadPrice" (by decide)) rfl (by decide) rfl rfl (fx_ret (fxa_cons fx_str (fxa_cons (fx_fld y.xok (by decide)) (fxa_cons (fx_fld y.xok (by decide)) (fxa_cons (fx_fld y.xok (by decide)) (fxa_cons (fx_kin y.hItab (kin y) (hr.mono (by omega))) (fxa_cons (fx_isiO y.xok y.hItab (y.glo "PriceError" (by decide)) (y.free "isinstance" (by decide))) fxa_nil))))))) .nil))))))
theorem bnd_law_other_row {fd : FuncData} (F : FunD K "_law_other_row" "_law_other_row" (defArgs (top 33)) (defBody (top 33)) (defScope (top 33)) [] [] ((fun K => He.ga K "_law_other_row") K) fd) : Binds K fd ["prices", "person", "row"] [] := (F.bindsN fun _ _ _ _ _ _ us hl => match us, hl with | [_, _, _], _ => rfl)
theorem ok_law_other_row (y : Y K mg) : FnM PR w K mg base 7 ((fun K => He.ga K "_law_other_row") K) 3 mir_law_other_row := by
  obtain ⟨fd, F⟩ := y.says.def_ (d := df_law_other_row) 9
  exact fnR_of (fok_law_other_row y F) (bnd_law_other_row F)
-- _law_row: 0:pool 1:many 2:top 3:row 4:price 5:place
def sq_law_row_0 : En → SOut := (sDrop (eMth 3 gApp (aCons (oVar 4) aNil)))
def lb_law_row_0 : En → SOut := (sSeq (sSet 4 (eOp gMin2 (aCons (oV (eOp2 gPow (oV (eC (.int 10))) (oV (eC (.int 30))))) (aCons (oV (eOp2 gAdd (oVar 4) (oV (eCall [1, 0] (mir_law_draw) (aCons (oVar 0) (aCons (oVar 2) aNil)))))) aNil)))) sq_law_row_0)
def sq_law_row_1 : En → SOut := (sRetV 3)
def sq_law_row_2 : En → SOut := (sSeq (sIf (tAnd' (tVal (eOp2 gGt (oVar 1) (oV (eC (.int 0))))) (tVal (eOp2 gEq (oV (eCall [1, 0] (mir_law_draw) (aCons (oVar 0) (aCons (oV (eC (.int 8))) aNil)))) (oV (eC (.int 7)))))) (sStore 3 (eOp2 gPow (oV (eC (.int 10))) (oV (eC (.int 30)))) (oV (eOp1 gNeg (oV (eC (.int 1)))))) sNil) sq_law_row_1)
def sq_law_row_3 : En → SOut := (sSeq (sFor (iRange1 (aCons (oVar 1) aNil)) (gSet 5) lb_law_row_0) sq_law_row_2)
def sq_law_row_4 : En → SOut := (sSeq (sSet 4 (eC (.int 0))) sq_law_row_3)
def sq_law_row_5 : En → SOut := (sSeq (sSet 3 (eDisp .ol aNil)) sq_law_row_4)
def sq_law_row_6 : En → SOut := (sSeq (sSet 2 (eOp2 gIx (oV (eDisp .ol (aCons (oV (eC (.int 4))) (aCons (oV (eC (.int 4))) (aCons (oV (eOp2 gPow (oV (eC (.int 10))) (oV (eC (.int 28))))) aNil))))) (oV (eCall [1, 0] (mir_law_draw) (aCons (oVar 0) (aCons (oV (eC (.int 3))) aNil)))))) sq_law_row_5)
def sq_law_row_7 : En → SOut := (sSeq (sIf (tVal (eOp2 gEq (oV (eCall [1, 0] (mir_law_draw) (aCons (oVar 0) (aCons (oV (eC (.int 16))) aNil)))) (oV (eC (.int 15))))) (sSet 1 (eC (.int 0))) sNil) sq_law_row_6)
def sq_law_row_8 : En → SOut := (sSeq (sIf (tVal (eOp2 gEq (oV (eCall [1, 0] (mir_law_draw) (aCons (oVar 0) (aCons (oV (eC (.int 8))) aNil)))) (oV (eC (.int 7))))) (sSet 1 (eOp2 gAdd (oV (eC (.int 55))) (oV (eCall [1, 0] (mir_law_draw) (aCons (oVar 0) (aCons (oV (eC (.int 9))) aNil)))))) sNil) sq_law_row_7)
def m_law_row : En → SOut := (sSeq (sSet 1 (eOp2 gAdd (oV (eC (.int 1))) (oV (eCall [1, 0] (mir_law_draw) (aCons (oVar 0) (aCons (oV (eC (.int 5))) aNil)))))) sq_law_row_8)
abbrev mir_law_row : List M → FOut := runB 6 [0] m_law_row
theorem fok_law_row {fd : FuncData} (y : Y K mg) (F : FunD K "_law_row" "_law_row" (defArgs (top 22)) (defBody (top 22)) (defScope (top 22)) [] [] ((fun K => He.ga K "_law_row") K) fd) : FnOk PR w K mg base (L2N.CX PR w) 3 ((fun K => He.ga K "_law_row") K) fd ["pool"] (spM K 1 mir_law_row) := by
  refine fn_ok (N := ["pool", "many", "top", "row", "price", "place"]) (ps := ["pool"]) (k := 2) [0] F (C8.fnScope_by (by kernel_rfl)) ?_
  intro cdv A outer s H E hr
  have nd : (cxOf (L2N.CX PR w) PR w K mg base ["pool", "many", "top", "row", "price", "place"] "_law_row" (defScope (top 22)) ((fun K => He.ga K "_law_row") K) cdv A outer s H E).N.Nodup := by show (["pool", "many", "top", "row", "price", "place"] : List Str).Nodup; decide
  have tk : L2N.Takes (cxOf (L2N.CX PR w) PR w K mg base ["pool", "many", "top", "row", "price", "place"] "_law_row" (defScope (top 22)) ((fun K => He.ga K "_law_row") K) cdv A outer s H E) (fun cls d _ H => E cls d H) := L2N.takes_of rfl rfl rfl rfl
  have ps : PassesOwn (model PR w) (cxOf (L2N.CX PR w) PR w K mg base ["pool", "many", "top", "row", "price", "place"] "_law_row" (defScope (top 22)) ((fun K => He.ga K "_law_row") K) cdv A outer s H E).A (cxOf (L2N.CX PR w) PR w K mg base ["pool", "many", "top", "row", "price", "place"] "_law_row" (defScope (top 22)) ((fun K => He.ga K "_law_row") K) cdv A outer s H E).env (cxOf (L2N.CX PR w) PR w K mg base ["pool", "many", "top", "row", "price", "place"] "_law_row" (defScope (top 22)) ((fun K => He.ga K "_law_row") K) cdv A outer s H E).xe := passes_of rfl
  exact (ss_cons (st_set 1 nd (by decide) (fe_add (fo_val fe_int) (fo_val (fe_cR [1, 0] tk (ok_law_draw y) (hr.mono (by omega)) (y.glo "_law_draw" (by decide)) (y.kp_law_draw) (fa_cons (fo_var 0) (fa_cons (fo_val fe_int) fa_nil)))))) (ss_cons (st_if (ft_ck (k_eq hr) (fo_val (fe_cR [1, 0] tk (ok_law_draw y) (hr.mono (by omega)) (y.glo "_law_draw" (by decide)) (y.kp_law_draw) (fa_cons (fo_var 0) (fa_cons (fo_val fe_int) fa_nil)))) (fo_val fe_int)) (ss_one (st_set 1 nd (by decide) (fe_add (fo_val fe_int) (fo_val (fe_cR [1, 0] tk (ok_law_draw y) (hr.mono (by omega)) (y.glo "_law_draw" (by decide)) (y.kp_law_draw) (fa_cons (fo_var 0) (fa_cons (fo_val fe_int) fa_nil))))))) ss_nil) (ss_cons (st_if (ft_ck (k_eq hr) (fo_val (fe_cR [1, 0] tk (ok_law_draw y) (hr.mono (by omega)) (y.glo "_law_draw" (by decide)) (y.kp_law_draw) (fa_cons (fo_var 0) (fa_cons (fo_val fe_int) fa_nil)))) (fo_val fe_int)) (ss_one (st_set 1 nd (by decide) fe_int)) ss_nil) (ss_cons (st_set 2 nd (by decide) (fe_item (fo_val (fe_lst (fa_cons (fo_val fe_int) (fa_cons (fo_val fe_int) (fa_cons (fo_val (fe_pow (fo_val fe_int) (fo_val fe_int))) fa_nil))))) (fo_val (fe_cR [1, 0] tk (ok_law_draw y) (hr.mono (by omega)) (y.glo "_law_draw" (by decide)) (y.kp_law_draw) (fa_cons (fo_var 0) (fa_cons (fo_val fe_int) fa_nil)))))) (ss_cons (st_set 3 nd (by decide) (fe_lst fa_nil)) (ss_cons (st_set 4 nd (by decide) fe_int) (ss_cons (st_for ps rfl (by decide) (fi_range1 (y.free "range" (by decide)) (fa_cons (fo_var 1) fa_nil)) (fg_name 5 nd) (ss_cons (st_set 4 nd (by decide) (fe_min2 rfl (y.free "min" (by decide)) (fa_cons (fo_val (fe_pow (fo_val fe_int) (fo_val fe_int))) (fa_cons (fo_val (fe_add (fo_var 4) (fo_val (fe_cR [1, 0] tk (ok_law_draw y) (hr.mono (by omega)) (y.glo "_law_draw" (by decide)) (y.kp_law_draw) (fa_cons (fo_var 0) (fa_cons (fo_var 2) fa_nil)))))) fa_nil)))) (ss_one (st_expr (fe_append 3 (fa_cons (fo_var 4) fa_nil)))))) (ss_cons (st_if (FW.ft (fw_and (ft_ck k_gt (fo_var 1) (fo_val fe_int)) (fw_and1 (ft_ck (k_eq hr) (fo_val (fe_cR [1, 0] tk (ok_law_draw y) (hr.mono (by omega)) (y.glo "_law_draw" (by decide)) (y.kp_law_draw) (fa_cons (fo_var 0) (fa_cons (fo_val fe_int) fa_nil)))) (fo_val fe_int))))) (ss_one (st_store 3 (fe_pow (fo_val fe_int) (fo_val fe_int)) (fo_val (fe_neg (fo_val fe_int))))) ss_nil) (ss_one (st_retV 3))))))))))
theorem bnd_law_row {fd : FuncData} (F : FunD K "_law_row" "_law_row" (defArgs (top 22)) (defBody (top 22)) (defScope (top 22)) [] [] ((fun K => He.ga K "_law_row") K) fd) : Binds K fd ["pool"] [] := (F.bindsN fun _ _ _ _ _ _ us hl => match us, hl with | [_], _ => rfl)
theorem ok_law_row (y : Y K mg) : FnM PR w K mg base 3 ((fun K => He.ga K "_law_row") K) 1 mir_law_row := by
  obtain ⟨fd, F⟩ := y.says.def_ (d := df_law_row) 10
  exact fnR_of (fok_law_row y F) (bnd_law_row F)
-- _law_row_due: 0:person 1:row 2:place
def lb_law_row_due_0 : En → SOut := (sIf (tOr' (tNot' (tVal (eChain gLe gLe (oV (eC (.int 0))) (oV (eOp2 gIx (oVar 1) (oVar 2))) (oV (eOp2 gPow (oV (eC (.int 10))) (oV (eC (.int 30)))))))) (tAnd' (tVal (eOp2 gGt (oVar 2) (oV (eC (.int 0))))) (tVal (eOp2 gLt (oV (eOp2 gIx (oVar 1) (oVar 2))) (oV (eOp2 gIx (oVar 1) (oV (eOp2 FL.gSub (oVar 2) (oV (eC (.int 1))))))))))) (sRet (eDisp (fun ds => .d (.tup ds)) (aCons (oV (eC (.str "BadPrice"))) (aCons (oVar 0) (aCons (oV (eOp2 gAdd (oVar 2) (oV (eC (.int 1))))) (aCons (oV (eOp2 gIx (oVar 1) (oVar 2))) (aCons (oV (eC (.bl true))) (aCons (oV (eC (.bl true))) aNil)))))))) sNil)
def sq_law_row_due_0 : En → SOut := (sRet (eC .non))
def sq_law_row_due_1 : En → SOut := (sSeq (sFor (iRange1 (aCons (oV (eOp gLen (aCons (oVar 1) aNil))) aNil)) (gSet 2) lb_law_row_due_0) sq_law_row_due_0)
def sq_law_row_due_2 : En → SOut := (sSeq (sIf (tVal (eOp2 gGt (oV (eOp gLen (aCons (oVar 1) aNil))) (oV (eC (.int 60))))) (sRet (eDisp (fun ds => .d (.tup ds)) (aCons (oV (eC (.str "TooLong"))) (aCons (oV (eOp gLen (aCons (oVar 1) aNil))) (aCons (oV (eC (.bl true))) (aCons (oV (eC (.bl false))) aNil)))))) sNil) sq_law_row_due_1)
def m_law_row_due : En → SOut := (sSeq (sIf (tVal (eOp2 gEq (oV (eOp gLen (aCons (oVar 1) aNil))) (oV (eC (.int 0))))) (sRet (eDisp (fun ds => .d (.tup ds)) (aCons (oV (eC (.str "NoPrices"))) (aCons (oVar 0) (aCons (oV (eC (.bl true))) (aCons (oV (eC (.bl true))) aNil)))))) sNil) sq_law_row_due_2)
abbrev mir_law_row_due : List M → FOut := runB 3 [] m_law_row_due
theorem fok_law_row_due {fd : FuncData} (y : Y K mg) (F : FunD K "_law_row_due" "_law_row_due" (defArgs (top 25)) (defBody (top 25)) (defScope (top 25)) [] [] ((fun K => He.ga K "_law_row_due") K) fd) : FnOk PR w K mg base (L2N.CX PR w) 2 ((fun K => He.ga K "_law_row_due") K) fd ["person", "row"] (spM K 2 mir_law_row_due) := by
  refine fn_ok (N := ["person", "row", "place"]) (ps := ["person", "row"]) (k := 1) [] F (C8.fnScope_by (by kernel_rfl)) ?_
  intro cdv A outer s H E hr
  have nd : (cxOf (L2N.CX PR w) PR w K mg base ["person", "row", "place"] "_law_row_due" (defScope (top 25)) ((fun K => He.ga K "_law_row_due") K) cdv A outer s H E).N.Nodup := by show (["person", "row", "place"] : List Str).Nodup; decide
  have tk : L2N.Takes (cxOf (L2N.CX PR w) PR w K mg base ["person", "row", "place"] "_law_row_due" (defScope (top 25)) ((fun K => He.ga K "_law_row_due") K) cdv A outer s H E) (fun cls d _ H => E cls d H) := L2N.takes_of rfl rfl rfl rfl
  have ps : PassesOwn (model PR w) (cxOf (L2N.CX PR w) PR w K mg base ["person", "row", "place"] "_law_row_due" (defScope (top 25)) ((fun K => He.ga K "_law_row_due") K) cdv A outer s H E).A (cxOf (L2N.CX PR w) PR w K mg base ["person", "row", "place"] "_law_row_due" (defScope (top 25)) ((fun K => He.ga K "_law_row_due") K) cdv A outer s H E).env (cxOf (L2N.CX PR w) PR w K mg base ["person", "row", "place"] "_law_row_due" (defScope (top 25)) ((fun K => He.ga K "_law_row_due") K) cdv A outer s H E).xe := passes_of rfl
  exact (ss_cons (st_if (ft_ck (k_eq hr) (fo_val (fe_len (y.free "len" (by decide)) (fa_cons (fo_var 1) fa_nil))) (fo_val fe_int)) (ss_one (st_ret (fe_tup (fa_cons (fo_val fe_str) (fa_cons (fo_var 0) (fa_cons (fo_val fe_bl) (fa_cons (fo_val fe_bl) fa_nil))))))) ss_nil) (ss_cons (st_if (ft_ck k_gt (fo_val (fe_len (y.free "len" (by decide)) (fa_cons (fo_var 1) fa_nil))) (fo_val fe_int)) (ss_one (st_ret (fe_tup (fa_cons (fo_val fe_str) (fa_cons (fo_val (fe_len (y.free "len" (by decide)) (fa_cons (fo_var 1) fa_nil))) (fa_cons (fo_val fe_bl) (fa_cons (fo_val fe_bl) fa_nil))))))) ss_nil) (ss_cons (st_for ps rfl (by decide) (fi_range1 (y.free "range" (by decide)) (fa_cons (fo_val (fe_len (y.free "len" (by decide)) (fa_cons (fo_var 1) fa_nil))) fa_nil)) (fg_name 2 nd) (ss_one (st_if (FW.ft (fw_or (ft_not (ft_chain k_le k_le (fo_val fe_int) (fo_val (fe_item (fo_var 1) (fo_var 2))) (fo_val (fe_pow (fo_val fe_int) (fo_val fe_int))))) (fw_or1 (FW.ft (fw_and (ft_ck k_gt (fo_var 2) (fo_val fe_int)) (fw_and1 (ft_ck k_lt (fo_val (fe_item (fo_var 1) (fo_var 2))) (fo_val (fe_item (fo_var 1) (fo_val (fe_sub (fo_var 2) (fo_val fe_int)))))))))))) (ss_one (st_ret (fe_tup (fa_cons (fo_val fe_str) (fa_cons (fo_var 0) (fa_cons (fo_val (fe_add (fo_var 2) (fo_val fe_int))) (fa_cons (fo_val (fe_item (fo_var 1) (fo_var 2))) (fa_cons (fo_val fe_bl) (fa_cons (fo_val fe_bl) fa_nil))))))))) ss_nil))) (ss_one (st_ret fe_non)))))
theorem bnd_law_row_due {fd : FuncData} (F : FunD K "_law_row_due" "_law_row_due" (defArgs (top 25)) (defBody (top 25)) (defScope (top 25)) [] [] ((fun K => He.ga K "_law_row_due") K) fd) : Binds K fd ["person", "row"] [] := (F.bindsN fun _ _ _ _ _ _ us hl => match us, hl with | [_, _], _ => rfl)
theorem ok_law_row_due (y : Y K mg) : FnM PR w K mg base 2 ((fun K => He.ga K "_law_row_due") K) 2 mir_law_row_due := by
  obtain ⟨fd, F⟩ := y.says.def_ (d := df_law_row_due) 11
  exact fnR_of (fok_law_row_due y F) (bnd_law_row_due F)
-- _law_changed_right: 0:pool 1:prices 2:rows 3:row 4:odd 5:person 6:handed 7:changed 8:due
def lb_law_changed_right_0 : En → SOut := (sIf (tNot' (tVal (eCall [0, 0] (mir_law_same) (aCons (oV (eCall [0, 0, 0] (mir_law_other_row) (aCons (oVar 1) (aCons (oVar 4) (aCons (oV (eDisp .ol aNil)) aNil))))) (aCons (oV (eDisp (fun ds => .d (.tup ds)) (aCons (oV (eC (.str "NoPerson"))) (aCons (oVar 4) (aCons (oV (eC (.bl true))) aNil))))) aNil))))) (sRet (eC (.bl false))) sNil)
def sq_law_changed_right_0 : En → SOut := (sRet (eAnd (eCall [0, 0] (mir_law_is) (aCons (oVar 7) (aCons (oV (eOp2 gAdd (oV (eOp2 gAdd (oV (eSl (oVar 2) pNo (pSome (oVar 5)))) (oV (eDisp .ol (aCons (oVar 3) aNil))))) (oV (eSl (oVar 2) (pSome (oV (eOp2 gAdd (oVar 5) (oV (eC (.int 1)))))) pNo)))) aNil))) (eCall [0, 0] (mir_law_is) (aCons (oVar 1) (aCons (oVar 2) aNil)))))
def sq_law_changed_right_1 : En → SOut := (sSeq (sIf (tVal (eOp2 gIsNot (oVar 8) (oV (eC .non)))) (sRet (eCall [0, 0] (mir_law_same) (aCons (oVar 7) (aCons (oVar 8) aNil)))) sNil) sq_law_changed_right_0)
def sq_law_changed_right_2 : En → SOut := (sSeq (sSet 8 (eCall [0, 0] (mir_law_row_due) (aCons (oVar 5) (aCons (oVar 3) aNil)))) sq_law_changed_right_1)
def sq_law_changed_right_3 : En → SOut := (sSeq (sDrop (eMth 6 gApp (aCons (oV (eC (.int 0))) aNil))) sq_law_changed_right_2)
def sq_law_changed_right_4 : En → SOut := (sSeq (sSet 7 (eCall [0, 0, 2] (mir_law_other_row) (aCons (oVar 1) (aCons (oVar 5) (aCons (oVar 6) aNil))))) sq_law_changed_right_3)
def sq_law_changed_right_5 : En → SOut := (sSeq (sSet 6 (eOp gList (aCons (oVar 3) aNil))) sq_law_changed_right_4)
def sq_law_changed_right_6 : En → SOut := (sSeq (sSet 5 (eCall [1, 0] (mir_law_draw) (aCons (oVar 0) (aCons (oV (eOp gLen (aCons (oVar 2) aNil))) aNil)))) sq_law_changed_right_5)
def sq_law_changed_right_7 : En → SOut := (sSeq (sIf (tVal (eOp2 gEq (oV (eOp gLen (aCons (oVar 2) aNil))) (oV (eC (.int 0))))) (sRet (eC (.bl true))) sNil) sq_law_changed_right_6)
def sq_law_changed_right_8 : En → SOut := (sSeq (sFor (iItems (eDisp .ol (aCons (oV (eOp1 gNeg (oV (eC (.int 1))))) (aCons (oV (eOp gLen (aCons (oVar 2) aNil))) aNil)))) (gSet 4) lb_law_changed_right_0) sq_law_changed_right_7)
def sq_law_changed_right_9 : En → SOut := (sSeq (sIf (tVal (eOp2 gEq (oV (eCall [1, 0] (mir_law_draw) (aCons (oVar 0) (aCons (oV (eC (.int 3))) aNil)))) (oV (eC (.int 2))))) (sSet 3 (eCall [1, 0] (mir_law_bent) (aCons (oVar 0) (aCons (oVar 3) aNil)))) sNil) sq_law_changed_right_8)
def m_law_changed_right : En → SOut := (sSeq (sSet 3 (eCall [1] (mir_law_row) (aCons (oVar 0) aNil))) sq_law_changed_right_9)
abbrev mir_law_changed_right : List M → FOut := runB 9 [0] m_law_changed_right
theorem fok_law_changed_right {fd : FuncData} (y : Y K mg) (F : FunD K "_law_changed_right" "_law_changed_right" (defArgs (top 34)) (defBody (top 34)) (defScope (top 34)) [] [] ((fun K => He.ga K "_law_changed_right") K) fd) : FnOk PR w K mg base (L2N.CX PR w) 16 ((fun K => He.ga K "_law_changed_right") K) fd ["pool", "prices", "rows"] (spM K 3 mir_law_changed_right) := by
  refine fn_ok (N := ["pool", "prices", "rows", "row", "odd", "person", "handed", "changed", "due"]) (ps := ["pool", "prices", "rows"]) (k := 15) [0] F (C8.fnScope_by (by kernel_rfl)) ?_
  intro cdv A outer s H E hr
  have nd : (cxOf (L2N.CX PR w) PR w K mg base ["pool", "prices", "rows", "row", "odd", "person", "handed", "changed", "due"] "_law_changed_right" (defScope (top 34)) ((fun K => He.ga K "_law_changed_right") K) cdv A outer s H E).N.Nodup := by show (["pool", "prices", "rows", "row", "odd", "person", "handed", "changed", "due"] : List Str).Nodup; decide
  have tk : L2N.Takes (cxOf (L2N.CX PR w) PR w K mg base ["pool", "prices", "rows", "row", "odd", "person", "handed", "changed", "due"] "_law_changed_right" (defScope (top 34)) ((fun K => He.ga K "_law_changed_right") K) cdv A outer s H E) (fun cls d _ H => E cls d H) := L2N.takes_of rfl rfl rfl rfl
  have ps : PassesOwn (model PR w) (cxOf (L2N.CX PR w) PR w K mg base ["pool", "prices", "rows", "row", "odd", "person", "handed", "changed", "due"] "_law_changed_right" (defScope (top 34)) ((fun K => He.ga K "_law_changed_right") K) cdv A outer s H E).A (cxOf (L2N.CX PR w) PR w K mg base ["pool", "prices", "rows", "row", "odd", "person", "handed", "changed", "due"] "_law_changed_right" (defScope (top 34)) ((fun K => He.ga K "_law_changed_right") K) cdv A outer s H E).env (cxOf (L2N.CX PR w) PR w K mg base ["pool", "prices", "rows", "row", "odd", "person", "handed", "changed", "due"] "_law_changed_right" (defScope (top 34)) ((fun K => He.ga K "_law_changed_right") K) cdv A outer s H E).xe := passes_of rfl
  exact (ss_cons (st_set 3 nd (by decide) (fe_cR [1] tk (ok_law_row y) (hr.mono (by omega)) (y.glo "_law_row" (by decide)) (y.kp_law_row) (fa_cons (fo_var 0) fa_nil))) (ss_cons (st_if (ft_ck (k_eq hr) (fo_val (fe_cR [1, 0] tk (ok_law_draw y) (hr.mono (by omega)) (y.glo "_law_draw" (by decide)) (y.kp_law_draw) (fa_cons (fo_var 0) (fa_cons (fo_val fe_int) fa_nil)))) (fo_val fe_int)) (ss_one (st_set 3 nd (by decide) (fe_cR [1, 0] tk (ok_law_bent y) (hr.mono (by omega)) (y.glo "_law_bent" (by decide)) (y.kp_law_bent) (fa_cons (fo_var 0) (fa_cons (fo_var 3) fa_nil))))) ss_nil) (ss_cons (st_for ps rfl (by decide) (fi_seq (fe_lst (fa_cons (fo_val (fe_neg (fo_val fe_int))) (fa_cons (fo_val (fe_len (y.free "len" (by decide)) (fa_cons (fo_var 2) fa_nil))) fa_nil)))) (fg_name 4 nd) (ss_one (st_if (ft_not (ft_val (fe_cR [0, 0] tk (ok_law_same y) (hr.mono (by omega)) (y.glo "_law_same" (by decide)) (y.kp_law_same) (fa_cons (fo_val (fe_cR [0, 0, 0] tk (ok_law_other_row y) (hr.mono (by omega)) (y.glo "_law_other_row" (by decide)) (y.kp_law_other_row) (fa_cons (fo_var 1) (fa_cons (fo_var 4) (fa_cons (fo_val (fe_lst fa_nil)) fa_nil))))) (fa_cons (fo_val (fe_tup (fa_cons (fo_val fe_str) (fa_cons (fo_var 4) (fa_cons (fo_val fe_bl) fa_nil))))) fa_nil))))) (ss_one (st_ret fe_bl)) ss_nil))) (ss_cons (st_if (ft_ck (k_eq hr) (fo_val (fe_len (y.free "len" (by decide)) (fa_cons (fo_var 2) fa_nil))) (fo_val fe_int)) (ss_one (st_ret fe_bl)) ss_nil) (ss_cons (st_set 5 nd (by decide) (fe_cR [1, 0] tk (ok_law_draw y) (hr.mono (by omega)) (y.glo "_law_draw" (by decide)) (y.kp_law_draw) (fa_cons (fo_var 0) (fa_cons (fo_val (fe_len (y.free "len" (by decide)) (fa_cons (fo_var 2) fa_nil))) fa_nil)))) (ss_cons (st_set 6 nd (by decide) (fe_list (y.free "list" (by decide)) (fa_cons (fo_var 3) fa_nil))) (ss_cons (st_set 7 nd (by decide) (fe_cR [0, 0, 2] tk (ok_law_other_row y) (hr.mono (by omega)) (y.glo "_law_other_row" (by decide)) (y.kp_law_other_row) (fa_cons (fo_var 1) (fa_cons (fo_var 5) (fa_cons (fo_var 6) fa_nil))))) (ss_cons (st_expr (fe_append 6 (fa_cons (fo_val fe_int) fa_nil))) (ss_cons (st_set 8 nd (by decide) (fe_cR [0, 0] tk (ok_law_row_due y) (hr.mono (by omega)) (y.glo "_law_row_due" (by decide)) (y.kp_law_row_due) (fa_cons (fo_var 5) (fa_cons (fo_var 3) fa_nil)))) (ss_cons (st_if (ft_ck k_isnot (fo_var 8) (fo_val fe_non)) (ss_one (st_ret (fe_cR [0, 0] tk (ok_law_same y) (hr.mono (by omega)) (y.glo "_law_same" (by decide)) (y.kp_law_same) (fa_cons (fo_var 7) (fa_cons (fo_var 8) fa_nil))))) ss_nil) (ss_one (st_ret (fe_and (fe_cR [0, 0] tk (ok_law_is y) (hr.mono (by omega)) (y.glo "_law_is" (by decide)) (y.kp_law_is) (fa_cons (fo_var 7) (fa_cons (fo_val (fe_add (fo_val (fe_add (fo_val (fe_sl (fo_var 2) fp_no (fp_some (fo_var 5)))) (fo_val (fe_lst (fa_cons (fo_var 3) fa_nil))))) (fo_val (fe_sl (fo_var 2) (fp_some (fo_val (fe_add (fo_var 5) (fo_val fe_int)))) fp_no)))) fa_nil))) (fe_one (fe_cR [0, 0] tk (ok_law_is y) (hr.mono (by omega)) (y.glo "_law_is" (by decide)) (y.kp_law_is) (fa_cons (fo_var 1) (fa_cons (fo_var 2) fa_nil)))))))))))))))))
theorem bnd_law_changed_right {fd : FuncData} (F : FunD K "_law_changed_right" "_law_changed_right" (defArgs (top 34)) (defBody (top 34)) (defScope (top 34)) [] [] ((fun K => He.ga K "_law_changed_right") K) fd) : Binds K fd ["pool", "prices", "rows"] [] := (F.bindsN fun _ _ _ _ _ _ us hl => match us, hl with | [_, _, _], _ => rfl)
theorem ok_law_changed_right (y : Y K mg) : FnM PR w K mg base 16 ((fun K => He.ga K "_law_changed_right") K) 3 mir_law_changed_right := by
  obtain ⟨fd, F⟩ := y.says.def_ (d := df_law_changed_right) 12
  exact fnR_of (fok_law_changed_right y F) (bnd_law_changed_right F)
-- _law_cost: 0:row 1:number 2:cost 3:place
def lb_law_cost_0 : En → SOut := (sIf (tVal (eOp2 gLt (oVar 3) (oVar 1))) (sSet 2 (eOp2 gAdd (oVar 2) (oV (eOp2 gIx (oVar 0) (oVar 3))))) sNil)
def sq_law_cost_0 : En → SOut := (sRet (eOp2 gAdd (oVar 2) (oV (eOp2 gMul (oV (eOp gMax2 (aCons (oV (eC (.int 0))) (aCons (oV (eOp2 FL.gSub (oVar 1) (oV (eOp gLen (aCons (oVar 0) aNil))))) aNil)))) (oV (eOp2 gIx (oVar 0) (oV (eOp1 gNeg (oV (eC (.int 1)))))))))))
def sq_law_cost_1 : En → SOut := (sSeq (sFor (iRange1 (aCons (oV (eOp gLen (aCons (oVar 0) aNil))) aNil)) (gSet 3) lb_law_cost_0) sq_law_cost_0)
def m_law_cost : En → SOut := (sSeq (sSet 2 (eC (.int 0))) sq_law_cost_1)
abbrev mir_law_cost : List M → FOut := runB 4 [] m_law_cost
theorem fok_law_cost {fd : FuncData} (y : Y K mg) (F : FunD K "_law_cost" "_law_cost" (defArgs (top 28)) (defBody (top 28)) (defScope (top 28)) [] [] ((fun K => He.ga K "_law_cost") K) fd) : FnOk PR w K mg base (L2N.CX PR w) 2 ((fun K => He.ga K "_law_cost") K) fd ["row", "number"] (spM K 2 mir_law_cost) := by
  refine fn_ok (N := ["row", "number", "cost", "place"]) (ps := ["row", "number"]) (k := 1) [] F (C8.fnScope_by (by kernel_rfl)) ?_
  intro cdv A outer s H E hr
  have nd : (cxOf (L2N.CX PR w) PR w K mg base ["row", "number", "cost", "place"] "_law_cost" (defScope (top 28)) ((fun K => He.ga K "_law_cost") K) cdv A outer s H E).N.Nodup := by show (["row", "number", "cost", "place"] : List Str).Nodup; decide
  have tk : L2N.Takes (cxOf (L2N.CX PR w) PR w K mg base ["row", "number", "cost", "place"] "_law_cost" (defScope (top 28)) ((fun K => He.ga K "_law_cost") K) cdv A outer s H E) (fun cls d _ H => E cls d H) := L2N.takes_of rfl rfl rfl rfl
  have ps : PassesOwn (model PR w) (cxOf (L2N.CX PR w) PR w K mg base ["row", "number", "cost", "place"] "_law_cost" (defScope (top 28)) ((fun K => He.ga K "_law_cost") K) cdv A outer s H E).A (cxOf (L2N.CX PR w) PR w K mg base ["row", "number", "cost", "place"] "_law_cost" (defScope (top 28)) ((fun K => He.ga K "_law_cost") K) cdv A outer s H E).env (cxOf (L2N.CX PR w) PR w K mg base ["row", "number", "cost", "place"] "_law_cost" (defScope (top 28)) ((fun K => He.ga K "_law_cost") K) cdv A outer s H E).xe := passes_of rfl
  exact (ss_cons (st_set 2 nd (by decide) fe_int) (ss_cons (st_for ps rfl (by decide) (fi_range1 (y.free "range" (by decide)) (fa_cons (fo_val (fe_len (y.free "len" (by decide)) (fa_cons (fo_var 0) fa_nil))) fa_nil)) (fg_name 3 nd) (ss_one (st_if (ft_ck k_lt (fo_var 3) (fo_var 1)) (ss_one (st_set 2 nd (by decide) (fe_add (fo_var 2) (fo_val (fe_item (fo_var 0) (fo_var 3)))))) ss_nil))) (ss_one (st_ret (fe_add (fo_var 2) (fo_val (fe_mul (fo_val (fe_max2 rfl (y.free "max" (by decide)) (fa_cons (fo_val fe_int) (fa_cons (fo_val (fe_sub (fo_var 1) (fo_val (fe_len (y.free "len" (by decide)) (fa_cons (fo_var 0) fa_nil))))) fa_nil)))) (fo_val (fe_item (fo_var 0) (fo_val (fe_neg (fo_val fe_int))))))))))))
theorem bnd_law_cost {fd : FuncData} (F : FunD K "_law_cost" "_law_cost" (defArgs (top 28)) (defBody (top 28)) (defScope (top 28)) [] [] ((fun K => He.ga K "_law_cost") K) fd) : Binds K fd ["row", "number"] [] := (F.bindsN fun _ _ _ _ _ _ us hl => match us, hl with | [_, _], _ => rfl)
theorem ok_law_cost (y : Y K mg) : FnM PR w K mg base 2 ((fun K => He.ga K "_law_cost") K) 2 mir_law_cost := by
  obtain ⟨fd, F⟩ := y.says.def_ (d := df_law_cost) 13
  exact fnR_of (fok_law_cost y F) (bnd_law_cost F)
-- cost_of: 0:row 1:number
def m_cost_of : En → SOut := (sRet (eOp2 gAdd (oV (eOp gSum (aCons (oV (eSl (oVar 0) pNo (pSome (oV (eOp gMin2 (aCons (oVar 1) (aCons (oV (eOp gLen (aCons (oVar 0) aNil))) aNil))))))) aNil))) (oV (eOp2 gMul (oV (eOp gMax2 (aCons (oV (eC (.int 0))) (aCons (oV (eOp2 FL.gSub (oVar 1) (oV (eOp gLen (aCons (oVar 0) aNil))))) aNil)))) (oV (eOp2 gIx (oVar 0) (oV (eOp1 gNeg (oV (eC (.int 1)))))))))))
abbrev mir_cost_of : List M → FOut := runB 2 [] m_cost_of
theorem fok_cost_of {fd : FuncData} (y : Y K mg) (F : FunD K "cost_of" "cost_of" (defArgs (top 15)) (defBody (top 15)) (defScope (top 15)) [] [] ((fun K => He.ga K "cost_of") K) fd) : FnOk PR w K mg base (L2N.CX PR w) 2 ((fun K => He.ga K "cost_of") K) fd ["row", "number"] (spM K 2 mir_cost_of) := by
  refine fn_ok (N := ["row", "number"]) (ps := ["row", "number"]) (k := 1) [] F (C8.fnScope_by (by kernel_rfl)) ?_
  intro cdv A outer s H E hr
  have nd : (cxOf (L2N.CX PR w) PR w K mg base ["row", "number"] "cost_of" (defScope (top 15)) ((fun K => He.ga K "cost_of") K) cdv A outer s H E).N.Nodup := by show (["row", "number"] : List Str).Nodup; decide
  have tk : L2N.Takes (cxOf (L2N.CX PR w) PR w K mg base ["row", "number"] "cost_of" (defScope (top 15)) ((fun K => He.ga K "cost_of") K) cdv A outer s H E) (fun cls d _ H => E cls d H) := L2N.takes_of rfl rfl rfl rfl
  have ps : PassesOwn (model PR w) (cxOf (L2N.CX PR w) PR w K mg base ["row", "number"] "cost_of" (defScope (top 15)) ((fun K => He.ga K "cost_of") K) cdv A outer s H E).A (cxOf (L2N.CX PR w) PR w K mg base ["row", "number"] "cost_of" (defScope (top 15)) ((fun K => He.ga K "cost_of") K) cdv A outer s H E).env (cxOf (L2N.CX PR w) PR w K mg base ["row", "number"] "cost_of" (defScope (top 15)) ((fun K => He.ga K "cost_of") K) cdv A outer s H E).xe := passes_of rfl
  exact (ss_one (st_ret (fe_add (fo_val (fe_sum rfl (y.free "sum" (by decide)) (fa_cons (fo_val (fe_sl (fo_var 0) fp_no (fp_some (fo_val (fe_min2 rfl (y.free "min" (by decide)) (fa_cons (fo_var 1) (fa_cons (fo_val (fe_len (y.free "len" (by decide)) (fa_cons (fo_var 0) fa_nil))) fa_nil))))))) fa_nil))) (fo_val (fe_mul (fo_val (fe_max2 rfl (y.free "max" (by decide)) (fa_cons (fo_val fe_int) (fa_cons (fo_val (fe_sub (fo_var 1) (fo_val (fe_len (y.free "len" (by decide)) (fa_cons (fo_var 0) fa_nil))))) fa_nil)))) (fo_val (fe_item (fo_var 0) (fo_val (fe_neg (fo_val fe_int))))))))))
theorem bnd_cost_of {fd : FuncData} (F : FunD K "cost_of" "cost_of" (defArgs (top 15)) (defBody (top 15)) (defScope (top 15)) [] [] ((fun K => He.ga K "cost_of") K) fd) : Binds K fd ["row", "number"] [] := (F.bindsN fun _ _ _ _ _ _ us hl => match us, hl with | [_, _], _ => rfl)
theorem ok_cost_of (y : Y K mg) : FnM PR w K mg base 2 ((fun K => He.ga K "cost_of") K) 2 mir_cost_of := by
  obtain ⟨fd, F⟩ := y.says.def_ (d := df_cost_of) 14
  exact fnR_of (fok_cost_of y F) (bnd_cost_of F)
-- PriceList.pays: 0:self 1:numbers 2:row 3:number
def le_PriceList_pays_0 : En → Out M := (eCall [0, 0] (mir_cost_of) (aCons (oVar 2) (aCons (oVar 3) aNil)))
def sq_PriceList_pays_0 : En → SOut := (sRet (eLc (iZip2 (aCons (oV (eOp1 (gFld ftab "rows") (oVar 0))) (aCons (oVar 1) aNil))) (gTupS 2 (gsCons (gSet 2) (gsCons (gSet 3) gsNil))) tOne le_PriceList_pays_0 [2, 3]))
def m_PriceList_pays : En → SOut := (sSeq (sIf (tVal (eOp2 gNe (oV (eOp gLen (aCons (oVar 1) aNil))) (oV (eOp gLen (aCons (oV (eOp1 (gFld ftab "rows") (oVar 0))) aNil))))) (sRaise "WrongLength" ["found", "wanted"] (aCons (oV (eOp gLen (aCons (oVar 1) aNil))) (aCons (oV (eOp gLen (aCons (oV (eOp1 (gFld ftab "rows") (oVar 0))) aNil))) aNil))) sNil) sq_PriceList_pays_0)
abbrev mir_PriceList_pays : List M → FOut := runB 4 [] m_PriceList_pays
theorem fok_PriceList_pays {fd : FuncData} (y : Y K mg) (F : FunD K "pays" "PriceList.pays" (defArgs (sub 13 5)) (defBody (sub 13 5)) (defScope (sub 13 5)) [] [] ((fun K => He.ma K (He.ga K "PriceList") "pays") K) fd) : FnOk PR w K mg base (L2N.CX PR w) 3 ((fun K => He.ma K (He.ga K "PriceList") "pays") K) fd ["self", "numbers"] (spM K 2 mir_PriceList_pays) := by
  refine fn_ok (N := ["self", "numbers", "row", "number"]) (ps := ["self", "numbers"]) (k := 2) [] F (C8.fnScope_by (by kernel_rfl)) ?_
  intro cdv A outer s H E hr
  have nd : (cxOf (L2N.CX PR w) PR w K mg base ["self", "numbers", "row", "number"] "PriceList.pays" (defScope (sub 13 5)) ((fun K => He.ma K (He.ga K "PriceList") "pays") K) cdv A outer s H E).N.Nodup := by show (["self", "numbers", "row", "number"] : List Str).Nodup; decide
  have tk : L2N.Takes (cxOf (L2N.CX PR w) PR w K mg base ["self", "numbers", "row", "number"] "PriceList.pays" (defScope (sub 13 5)) ((fun K => He.ma K (He.ga K "PriceList") "pays") K) cdv A outer s H E) (fun cls d _ H => E cls d H) := L2N.takes_of rfl rfl rfl rfl
  have ps : PassesOwn (model PR w) (cxOf (L2N.CX PR w) PR w K mg base ["self", "numbers", "row", "number"] "PriceList.pays" (defScope (sub 13 5)) ((fun K => He.ma K (He.ga K "PriceList") "pays") K) cdv A outer s H E).A (cxOf (L2N.CX PR w) PR w K mg base ["self", "numbers", "row", "number"] "PriceList.pays" (defScope (sub 13 5)) ((fun K => He.ma K (He.ga K "PriceList") "pays") K) cdv A outer s H E).env (cxOf (L2N.CX PR w) PR w K mg base ["self", "numbers", "row", "number"] "PriceList.pays" (defScope (sub 13 5)) ((fun K => He.ma K (He.ga K "PriceList") "pays") K) cdv A outer s H E).xe := passes_of rfl
  exact (ss_cons (st_if (ft_ck (k_ne hr) (fo_val (fe_len (y.free "len" (by decide)) (fa_cons (fo_var 1) fa_nil))) (fo_val (fe_len (y.free "len" (by decide)) (fa_cons (fo_val (fe_fld y.hFtab (fo_var 0))) fa_nil)))) (ss_one (st_raise rfl tk (ex_WrongLength y) (hr.mono (by omega)) (fa_cons (fo_val (fe_len (y.free "len" (by decide)) (fa_cons (fo_var 1) fa_nil))) (fa_cons (fo_val (fe_len (y.free "len" (by decide)) (fa_cons (fo_val (fe_fld y.hFtab (fo_var 0))) fa_nil))) fa_nil)))) ss_nil) (ss_one (st_ret (fe_lc [("row", 2), ("number", 3)] rfl nd (fi_zip (y.free "zip" (by decide)) (fa_cons (fo_val (fe_fld y.hFtab (fo_var 0))) (fa_cons (fo_var 1) fa_nil))) (blkOk_by (by kernel_rfl)) (fun _ _ _ _ _ => (fg_tup rfl (fgs_cons (fg_name 2 nd) (fgs_cons (fg_name 3 nd) fgs_nil)))) (by decide) (fun _ _ _ _ _ => fts_nil) (fun _ _ _ _ _ => (fe_cR [0, 0] takesW (ok_cost_of y) (hr.mono (by omega)) (y.glo "cost_of" (by decide)) (y.kp_cost_of) (fa_cons (fo_var 2) (fa_cons (fo_var 3) fa_nil))))))))
theorem bnd_PriceList_pays {fd : FuncData} (F : FunD K "pays" "PriceList.pays" (defArgs (sub 13 5)) (defBody (sub 13 5)) (defScope (sub 13 5)) [] [] ((fun K => He.ma K (He.ga K "PriceList") "pays") K) fd) : Binds K fd ["self", "numbers"] [] := (F.bindsN fun _ _ _ _ _ _ us hl => match us, hl with | [_, _], _ => rfl)
theorem ok_PriceList_pays (y : Y K mg) : FnM PR w K mg base 3 ((fun K => He.ma K (He.ga K "PriceList") "pays") K) 2 mir_PriceList_pays := by
  obtain ⟨fd, F⟩ := y.says.def_ (d := df_PriceList_pays) 15
  exact fnR_of (fok_PriceList_pays y F) (bnd_PriceList_pays F)
-- PriceList.pay: 0:self 1:numbers
def m_PriceList_pay : En → SOut := (sRet (eOp gSum (aCons (oV (eMeth "PriceList" "pays" [0, 0] (mir_PriceList_pays) (oVar 0) (aCons (oVar 1) aNil))) aNil)))
abbrev mir_PriceList_pay : List M → FOut := runB 2 [] m_PriceList_pay
theorem fok_PriceList_pay {fd : FuncData} (y : Y K mg) (F : FunD K "pay" "PriceList.pay" (defArgs (sub 13 6)) (defBody (sub 13 6)) (defScope (sub 13 6)) [] [] ((fun K => He.ma K (He.ga K "PriceList") "pay") K) fd) : FnOk PR w K mg base (L2N.CX PR w) 4 ((fun K => He.ma K (He.ga K "PriceList") "pay") K) fd ["self", "numbers"] (spM K 2 mir_PriceList_pay) := by
  refine fn_ok (N := ["self", "numbers"]) (ps := ["self", "numbers"]) (k := 3) [] F (C8.fnScope_by (by kernel_rfl)) ?_
  intro cdv A outer s H E hr
  have nd : (cxOf (L2N.CX PR w) PR w K mg base ["self", "numbers"] "PriceList.pay" (defScope (sub 13 6)) ((fun K => He.ma K (He.ga K "PriceList") "pay") K) cdv A outer s H E).N.Nodup := by show (["self", "numbers"] : List Str).Nodup; decide
  have tk : L2N.Takes (cxOf (L2N.CX PR w) PR w K mg base ["self", "numbers"] "PriceList.pay" (defScope (sub 13 6)) ((fun K => He.ma K (He.ga K "PriceList") "pay") K) cdv A outer s H E) (fun cls d _ H => E cls d H) := L2N.takes_of rfl rfl rfl rfl
  have ps : PassesOwn (model PR w) (cxOf (L2N.CX PR w) PR w K mg base ["self", "numbers"] "PriceList.pay" (defScope (sub 13 6)) ((fun K => He.ma K (He.ga K "PriceList") "pay") K) cdv A outer s H E).A (cxOf (L2N.CX PR w) PR w K mg base ["self", "numbers"] "PriceList.pay" (defScope (sub 13 6)) ((fun K => He.ma K (He.ga K "PriceList") "pay") K) cdv A outer s H E).env (cxOf (L2N.CX PR w) PR w K mg base ["self", "numbers"] "PriceList.pay" (defScope (sub 13 6)) ((fun K => He.ma K (He.ga K "PriceList") "pay") K) cdv A outer s H E).xe := passes_of rfl
  exact (ss_one (st_ret (fe_sum rfl (y.free "sum" (by decide)) (fa_cons (fo_val (fe_mR "PriceList" [0, 0] tk (y.cls "PriceList" (by decide)) (y.meth_PriceList_pays) (ok_PriceList_pays y) (hr.mono (by omega)) (fo_var 0) (fa_cons (fo_var 1) fa_nil))) fa_nil))))
theorem bnd_PriceList_pay {fd : FuncData} (F : FunD K "pay" "PriceList.pay" (defArgs (sub 13 6)) (defBody (sub 13 6)) (defScope (sub 13 6)) [] [] ((fun K => He.ma K (He.ga K "PriceList") "pay") K) fd) : Binds K fd ["self", "numbers"] [] := (F.bindsN fun _ _ _ _ _ _ us hl => match us, hl with | [_, _], _ => rfl)
theorem ok_PriceList_pay (y : Y K mg) : FnM PR w K mg base 4 ((fun K => He.ma K (He.ga K "PriceList") "pay") K) 2 mir_PriceList_pay := by
  obtain ⟨fd, F⟩ := y.says.def_ (d := df_PriceList_pay) 16
  exact fnR_of (fok_PriceList_pay y F) (bnd_PriceList_pay F)
-- _law_paid: 0:prices 1:numbers 2:alone 3:e
def tb_law_paid_0 : En → SOut := (sSeq (sIf (tVal (eName 2)) (sRet (eMeth "PriceList" "pays" [0, 0] (mir_PriceList_pays) (oVar 0) (aCons (oVar 1) aNil))) sNil) (sRet (eMeth "PriceList" "pay" [0, 0] (mir_PriceList_pay) (oVar 0) (aCons (oVar 1) aNil))))
def hs_law_paid_0 : List Clause := [("WrongLength", 3, xRet itab "NightsError" [.c (.str "WrongLength"), .f "found", .f "wanted", .kin])]
def m_law_paid : En → SOut := (sTry xtab xcs tb_law_paid_0 hs_law_paid_0)
abbrev mir_law_paid : List M → FOut := runB 4 [] m_law_paid
theorem fok_law_paid {fd : FuncData} (y : Y K mg) (F : FunD K "_law_paid" "_law_paid" (defArgs (top 30)) (defBody (top 30)) (defScope (top 30)) [] [] ((fun K => He.ga K "_law_paid") K) fd) : FnOk PR w K mg base (L2N.CX PR w) 5 ((fun K => He.ga K "_law_paid") K) fd ["prices", "numbers", "alone"] (spM K 3 mir_law_paid) := by
  refine fn_ok (N := ["prices", "numbers", "alone", "e"]) (ps := ["prices", "numbers", "alone"]) (k := 4) [] F (C8.fnScope_by (by kernel_rfl)) ?_
  intro cdv A outer s H E hr
  have nd : (cxOf (L2N.CX PR w) PR w K mg base ["prices", "numbers", "alone", "e"] "_law_paid" (defScope (top 30)) ((fun K => He.ga K "_law_paid") K) cdv A outer s H E).N.Nodup := by show (["prices", "numbers", "alone", "e"] : List Str).Nodup; decide
  have tk : L2N.Takes (cxOf (L2N.CX PR w) PR w K mg base ["prices", "numbers", "alone", "e"] "_law_paid" (defScope (top 30)) ((fun K => He.ga K "_law_paid") K) cdv A outer s H E) (fun cls d _ H => E cls d H) := L2N.takes_of rfl rfl rfl rfl
  have ps : PassesOwn (model PR w) (cxOf (L2N.CX PR w) PR w K mg base ["prices", "numbers", "alone", "e"] "_law_paid" (defScope (top 30)) ((fun K => He.ga K "_law_paid") K) cdv A outer s H E).A (cxOf (L2N.CX PR w) PR w K mg base ["prices", "numbers", "alone", "e"] "_law_paid" (defScope (top 30)) ((fun K => He.ga K "_law_paid") K) cdv A outer s H E).env (cxOf (L2N.CX PR w) PR w K mg base ["prices", "numbers", "alone", "e"] "_law_paid" (defScope (top 30)) ((fun K => He.ga K "_law_paid") K) cdv A outer s H E).xe := passes_of rfl
  exact (ss_one (st_try y.hXtab rfl rfl nd tk (fun W pn xe tk ps => (ss_cons (st_if (ft_val (fe_name 2)) (ss_one (st_ret (fe_mR "PriceList" [0, 0] tk (y.cls "PriceList" (by decide)) (y.meth_PriceList_pays) (ok_PriceList_pays y) (hr.mono (by omega)) (fo_var 0) (fa_cons (fo_var 1) fa_nil)))) ss_nil) (ss_one (st_ret (fe_mR "PriceList" [0, 0] tk (y.cls "PriceList" (by decide)) (y.meth_PriceList_pay) (ok_PriceList_pay y) (hr.mono (by omega)) (fo_var 0) (fa_cons (fo_var 1) fa_nil)))))) (.cons (by decide) (y.glo "WrongLength" (by decide)) rfl (by decide) rfl rfl (fx_ret (fxa_cons fx_str (fxa_cons (fx_fld y.xok (by decide)) (fxa_cons (fx_fld y.xok (by decide)) (fxa_cons (fx_kin y.hItab (kin y) (hr.mono (by omega))) fxa_nil))))) .nil)))
theorem bnd_law_paid {fd : FuncData} (F : FunD K "_law_paid" "_law_paid" (defArgs (top 30)) (defBody (top 30)) (defScope (top 30)) [] [] ((fun K => He.ga K "_law_paid") K) fd) : Binds K fd ["prices", "numbers", "alone"] [] := (F.bindsN fun _ _ _ _ _ _ us hl => match us, hl with | [_, _, _], _ => rfl)
theorem ok_law_paid (y : Y K mg) : FnM PR w K mg base 5 ((fun K => He.ga K "_law_paid") K) 3 mir_law_paid := by
  obtain ⟨fd, F⟩ := y.says.def_ (d := df_law_paid) 17
  exact fnR_of (fok_law_paid y F) (bnd_law_paid F)
-- PriceList.price: 0:self 1:person 2:night 3:row
def sq_PriceList_price_0 : En → SOut := (sRet (eOp2 gIx (oVar 3) (oV (eOp2 FL.gSub (oV (eOp gMin2 (aCons (oVar 2) (aCons (oV (eOp gLen (aCons (oVar 3) aNil))) aNil)))) (oV (eC (.int 1)))))))
def sq_PriceList_price_1 : En → SOut := (sSeq (sSet 3 (eOp2 gIx (oV (eOp1 (gFld ftab "rows") (oVar 0))) (oVar 1))) sq_PriceList_price_0)
def sq_PriceList_price_2 : En → SOut := (sSeq (sIf (tVal (eOp2 gLt (oVar 2) (oV (eC (.int 1))))) (sRaise "BadNumber" ["place", "number"] (aCons (oV (eC (.int 0))) (aCons (oVar 2) aNil))) sNil) sq_PriceList_price_1)
def m_PriceList_price : En → SOut := (sSeq (sIf (tNot' (tVal (eChain gLe gLt (oV (eC (.int 0))) (oVar 1) (oV (eOp gLen (aCons (oV (eOp1 (gFld ftab "rows") (oVar 0))) aNil)))))) (sRaise "NoPerson" ["person"] (aCons (oVar 1) aNil)) sNil) sq_PriceList_price_2)
abbrev mir_PriceList_price : List M → FOut := runB 4 [] m_PriceList_price
theorem fok_PriceList_price {fd : FuncData} (y : Y K mg) (F : FunD K "price" "PriceList.price" (defArgs (sub 13 4)) (defBody (sub 13 4)) (defScope (sub 13 4)) [] [] ((fun K => He.ma K (He.ga K "PriceList") "price") K) fd) : FnOk PR w K mg base (L2N.CX PR w) 3 ((fun K => He.ma K (He.ga K "PriceList") "price") K) fd ["self", "person", "night"] (spM K 3 mir_PriceList_price) := by
  refine fn_ok (N := ["self", "person", "night", "row"]) (ps := ["self", "person", "night"]) (k := 2) [] F (C8.fnScope_by (by kernel_rfl)) ?_
  intro cdv A outer s H E hr
  have nd : (cxOf (L2N.CX PR w) PR w K mg base ["self", "person", "night", "row"] "PriceList.price" (defScope (sub 13 4)) ((fun K => He.ma K (He.ga K "PriceList") "price") K) cdv A outer s H E).N.Nodup := by show (["self", "person", "night", "row"] : List Str).Nodup; decide
  have tk : L2N.Takes (cxOf (L2N.CX PR w) PR w K mg base ["self", "person", "night", "row"] "PriceList.price" (defScope (sub 13 4)) ((fun K => He.ma K (He.ga K "PriceList") "price") K) cdv A outer s H E) (fun cls d _ H => E cls d H) := L2N.takes_of rfl rfl rfl rfl
  have ps : PassesOwn (model PR w) (cxOf (L2N.CX PR w) PR w K mg base ["self", "person", "night", "row"] "PriceList.price" (defScope (sub 13 4)) ((fun K => He.ma K (He.ga K "PriceList") "price") K) cdv A outer s H E).A (cxOf (L2N.CX PR w) PR w K mg base ["self", "person", "night", "row"] "PriceList.price" (defScope (sub 13 4)) ((fun K => He.ma K (He.ga K "PriceList") "price") K) cdv A outer s H E).env (cxOf (L2N.CX PR w) PR w K mg base ["self", "person", "night", "row"] "PriceList.price" (defScope (sub 13 4)) ((fun K => He.ma K (He.ga K "PriceList") "price") K) cdv A outer s H E).xe := passes_of rfl
  exact (ss_cons (st_if (ft_not (ft_chain k_le k_lt (fo_val fe_int) (fo_var 1) (fo_val (fe_len (y.free "len" (by decide)) (fa_cons (fo_val (fe_fld y.hFtab (fo_var 0))) fa_nil))))) (ss_one (st_raise rfl tk (ex_NoPerson y) (hr.mono (by omega)) (fa_cons (fo_var 1) fa_nil))) ss_nil) (ss_cons (st_if (ft_ck k_lt (fo_var 2) (fo_val fe_int)) (ss_one (st_raise rfl tk (ex_BadNumber y) (hr.mono (by omega)) (fa_cons (fo_val fe_int) (fa_cons (fo_var 2) fa_nil)))) ss_nil) (ss_cons (st_set 3 nd (by decide) (fe_item (fo_val (fe_fld y.hFtab (fo_var 0))) (fo_var 1))) (ss_one (st_ret (fe_item (fo_var 3) (fo_val (fe_sub (fo_val (fe_min2 rfl (y.free "min" (by decide)) (fa_cons (fo_var 2) (fa_cons (fo_val (fe_len (y.free "len" (by decide)) (fa_cons (fo_var 3) fa_nil))) fa_nil)))) (fo_val fe_int)))))))))
theorem bnd_PriceList_price {fd : FuncData} (F : FunD K "price" "PriceList.price" (defArgs (sub 13 4)) (defBody (sub 13 4)) (defScope (sub 13 4)) [] [] ((fun K => He.ma K (He.ga K "PriceList") "price") K) fd) : Binds K fd ["self", "person", "night"] [] := (F.bindsN fun _ _ _ _ _ _ us hl => match us, hl with | [_, _, _], _ => rfl)
theorem ok_PriceList_price (y : Y K mg) : FnM PR w K mg base 3 ((fun K => He.ma K (He.ga K "PriceList") "price") K) 3 mir_PriceList_price := by
  obtain ⟨fd, F⟩ := y.says.def_ (d := df_PriceList_price) 18
  exact fnR_of (fok_PriceList_price y F) (bnd_PriceList_price F)
-- _law_price: 0:prices 1:person 2:night 3:e
def tb_law_price_0 : En → SOut := (sRet (eMeth "PriceList" "price" [0, 0, 0] (mir_PriceList_price) (oVar 0) (aCons (oVar 1) (aCons (oVar 2) aNil))))
def hs_law_price_0 : List Clause := [("NoPerson", 3, xRet itab "NightsError" [.c (.str "NoPerson"), .f "person", .kin]), ("BadNumber", 3, xRet itab "NightsError" [.c (.str "BadNumber"), .f "place", .f "number", .kin])]
def m_law_price : En → SOut := (sTry xtab xcs tb_law_price_0 hs_law_price_0)
abbrev mir_law_price : List M → FOut := runB 4 [] m_law_price
theorem fok_law_price {fd : FuncData} (y : Y K mg) (F : FunD K "_law_price" "_law_price" (defArgs (top 29)) (defBody (top 29)) (defScope (top 29)) [] [] ((fun K => He.ga K "_law_price") K) fd) : FnOk PR w K mg base (L2N.CX PR w) 4 ((fun K => He.ga K "_law_price") K) fd ["prices", "person", "night"] (spM K 3 mir_law_price) := by
  refine fn_ok (N := ["prices", "person", "night", "e"]) (ps := ["prices", "person", "night"]) (k := 3) [] F (C8.fnScope_by (by kernel_rfl)) ?_
  intro cdv A outer s H E hr
  have nd : (cxOf (L2N.CX PR w) PR w K mg base ["prices", "person", "night", "e"] "_law_price" (defScope (top 29)) ((fun K => He.ga K "_law_price") K) cdv A outer s H E).N.Nodup := by show (["prices", "person", "night", "e"] : List Str).Nodup; decide
  have tk : L2N.Takes (cxOf (L2N.CX PR w) PR w K mg base ["prices", "person", "night", "e"] "_law_price" (defScope (top 29)) ((fun K => He.ga K "_law_price") K) cdv A outer s H E) (fun cls d _ H => E cls d H) := L2N.takes_of rfl rfl rfl rfl
  have ps : PassesOwn (model PR w) (cxOf (L2N.CX PR w) PR w K mg base ["prices", "person", "night", "e"] "_law_price" (defScope (top 29)) ((fun K => He.ga K "_law_price") K) cdv A outer s H E).A (cxOf (L2N.CX PR w) PR w K mg base ["prices", "person", "night", "e"] "_law_price" (defScope (top 29)) ((fun K => He.ga K "_law_price") K) cdv A outer s H E).env (cxOf (L2N.CX PR w) PR w K mg base ["prices", "person", "night", "e"] "_law_price" (defScope (top 29)) ((fun K => He.ga K "_law_price") K) cdv A outer s H E).xe := passes_of rfl
  exact (ss_one (st_try y.hXtab rfl rfl nd tk (fun W pn xe tk ps => (ss_one (st_ret (fe_mR "PriceList" [0, 0, 0] tk (y.cls "PriceList" (by decide)) (y.meth_PriceList_price) (ok_PriceList_price y) (hr.mono (by omega)) (fo_var 0) (fa_cons (fo_var 1) (fa_cons (fo_var 2) fa_nil)))))) (.cons (by decide) (y.glo "NoPerson" (by decide)) rfl (by decide) rfl rfl (fx_ret (fxa_cons fx_str (fxa_cons (fx_fld y.xok (by decide)) (fxa_cons (fx_kin y.hItab (kin y) (hr.mono (by omega))) fxa_nil)))) (.cons (by decide) (y.glo "BadNumber" (by decide)) rfl (by decide) rfl rfl (fx_ret (fxa_cons fx_str (fxa_cons (fx_fld y.xok (by decide)) (fxa_cons (fx_fld y.xok (by decide)) (fxa_cons (fx_kin y.hItab (kin y) (hr.mono (by omega))) fxa_nil))))) .nil))))
theorem bnd_law_price {fd : FuncData} (F : FunD K "_law_price" "_law_price" (defArgs (top 29)) (defBody (top 29)) (defScope (top 29)) [] [] ((fun K => He.ga K "_law_price") K) fd) : Binds K fd ["prices", "person", "night"] [] := (F.bindsN fun _ _ _ _ _ _ us hl => match us, hl with | [_, _, _], _ => rfl)
theorem ok_law_price (y : Y K mg) : FnM PR w K mg base 4 ((fun K => He.ga K "_law_price") K) 3 mir_law_price := by
  obtain ⟨fd, F⟩ := y.says.def_ (d := df_law_price) 19
  exact fnR_of (fok_law_price y F) (bnd_law_price F)
-- _law_costs_right: 0:pool 1:prices 2:rows 3:numbers 4:row 5:number 6:costs 7:handed 8:wrong 9:odd 10:person 11:night
def sq_law_costs_right_0 : En → SOut := (sDrop (eMth 3 gApp (aCons (oVar 5) aNil)))
def sq_law_costs_right_1 : En → SOut := (sSeq (sIf (tVal (eOp2 gEq (oV (eCall [1, 0] (mir_law_draw) (aCons (oVar 0) (aCons (oV (eC (.int 4))) aNil)))) (oV (eC (.int 3))))) (sSet 5 (eOp2 FL.gSub (oV (eOp2 gPow (oV (eC (.int 10))) (oV (eC (.int 30))))) (oV (eCall [1, 0] (mir_law_draw) (aCons (oVar 0) (aCons (oV (eC (.int 1000))) aNil)))))) sNil) sq_law_costs_right_0)
def lb_law_costs_right_0 : En → SOut := (sSeq (sSet 5 (eCall [1, 0] (mir_law_draw) (aCons (oVar 0) (aCons (oV (eOp2 gAdd (oV (eOp gLen (aCons (oVar 4) aNil))) (oV (eC (.int 3))))) aNil)))) sq_law_costs_right_1)
def le_law_costs_right_0 : En → Out M := (eCall [0, 0] (mir_law_cost) (aCons (oV (eOp2 gIx (oVar 2) (oVar 10))) (aCons (oV (eOp2 gIx (oVar 3) (oVar 10))) aNil)))
def lb_law_costs_right_1 : En → SOut := (sIf (tNot' (tVal (eCall [0, 0] (mir_law_same) (aCons (oV (eCall [0, 0, 0] (mir_law_price) (aCons (oVar 1) (aCons (oVar 9) (aCons (oV (eC (.int 0))) aNil))))) (aCons (oV (eDisp (fun ds => .d (.tup ds)) (aCons (oV (eC (.str "NoPerson"))) (aCons (oVar 9) (aCons (oV (eC (.bl true))) aNil))))) aNil))))) (sRet (eC (.bl false))) sNil)
def lb_law_costs_right_2 : En → SOut := (sIf (tNot' (tVal (eCall [0, 0] (mir_law_same) (aCons (oV (eCall [0, 0, 0] (mir_law_price) (aCons (oVar 1) (aCons (oVar 10) (aCons (oVar 11) aNil))))) (aCons (oV (eOp2 gIx (oVar 4) (oV (eOp2 FL.gSub (oV (eOp gMin2 (aCons (oVar 11) (aCons (oV (eOp gLen (aCons (oVar 4) aNil))) aNil)))) (oV (eC (.int 1))))))) aNil))))) (sRet (eC (.bl false))) sNil)
def sq_law_costs_right_2 : En → SOut := (sIf (tNot' (tVal (eCall [0, 0] (mir_law_same) (aCons (oV (eCall [0, 0, 0] (mir_law_price) (aCons (oVar 1) (aCons (oVar 10) (aCons (oV (eOp2 FL.gSub (oV (eC (.int 0))) (oVar 10))) aNil))))) (aCons (oV (eDisp (fun ds => .d (.tup ds)) (aCons (oV (eC (.str "BadNumber"))) (aCons (oV (eC (.int 0))) (aCons (oV (eOp2 FL.gSub (oV (eC (.int 0))) (oVar 10))) (aCons (oV (eC (.bl true))) aNil)))))) aNil))))) (sRet (eC (.bl false))) sNil)
def sq_law_costs_right_3 : En → SOut := (sSeq (sFor (iItems (eDisp .ol (aCons (oV (eC (.int 1))) (aCons (oV (eOp gLen (aCons (oVar 4) aNil))) (aCons (oV (eOp2 gAdd (oV (eOp gLen (aCons (oVar 4) aNil))) (oV (eC (.int 1))))) (aCons (oV (eOp2 gPow (oV (eC (.int 10))) (oV (eC (.int 18))))) (aCons (oV (eOp2 gAdd (oV (eC (.int 1))) (oV (eCall [1, 0] (mir_law_draw) (aCons (oVar 0) (aCons (oV (eOp gLen (aCons (oVar 4) aNil))) aNil)))))) aNil))))))) (gSet 11) lb_law_costs_right_2) sq_law_costs_right_2)
def lb_law_costs_right_3 : En → SOut := (sSeq (sSet 4 (eOp2 gIx (oVar 2) (oVar 10))) sq_law_costs_right_3)
def sq_law_costs_right_4 : En → SOut := (sRet (eC (.bl true)))
def sq_law_costs_right_5 : En → SOut := (sSeq (sFor (iRange1 (aCons (oV (eOp gMin2 (aCons (oV (eC (.int 6))) (aCons (oV (eOp gLen (aCons (oVar 2) aNil))) aNil)))) aNil)) (gSet 10) lb_law_costs_right_3) sq_law_costs_right_4)
def sq_law_costs_right_6 : En → SOut := (sSeq (sFor (iItems (eDisp .ol (aCons (oV (eOp1 gNeg (oV (eC (.int 1))))) (aCons (oV (eOp gLen (aCons (oVar 2) aNil))) aNil)))) (gSet 9) lb_law_costs_right_1) sq_law_costs_right_5)
def sq_law_costs_right_7 : En → SOut := (sSeq (sIf (tNot' (tVal (eCall [0, 0] (mir_law_same) (aCons (oV (eDisp .ol (aCons (oV (eCall [0, 0, 0] (mir_law_paid) (aCons (oVar 1) (aCons (oV (eOp2 gAdd (oVar 3) (oV (eDisp .ol (aCons (oV (eC (.int 0))) aNil))))) (aCons (oV (eC (.bl true))) aNil))))) (aCons (oV (eCall [0, 0, 0] (mir_law_paid) (aCons (oVar 1) (aCons (oV (eOp2 gAdd (oVar 3) (oV (eDisp .ol (aCons (oV (eC (.int 0))) aNil))))) (aCons (oV (eC (.bl false))) aNil))))) aNil)))) (aCons (oV (eDisp .ol (aCons (oVar 8) (aCons (oVar 8) aNil)))) aNil))))) (sRet (eC (.bl false))) sNil) sq_law_costs_right_6)
def sq_law_costs_right_8 : En → SOut := (sSeq (sSet 8 (eDisp (fun ds => .d (.tup ds)) (aCons (oV (eC (.str "WrongLength"))) (aCons (oV (eOp2 gAdd (oV (eOp gLen (aCons (oVar 2) aNil))) (oV (eC (.int 1))))) (aCons (oV (eOp gLen (aCons (oVar 2) aNil))) (aCons (oV (eC (.bl true))) aNil)))))) sq_law_costs_right_7)
def sq_law_costs_right_9 : En → SOut := (sSeq (sIf (tNot' (tVal (eCall [0, 0] (mir_law_same) (aCons (oV (eCall [0, 0, 0] (mir_law_paid) (aCons (oVar 1) (aCons (oV (eOp gTuple (aCons (oVar 3) aNil))) (aCons (oV (eC (.bl false))) aNil))))) (aCons (oV (eOp gSum (aCons (oVar 6) aNil))) aNil))))) (sRet (eC (.bl false))) sNil) sq_law_costs_right_8)
def sq_law_costs_right_10 : En → SOut := (sSeq (sIf (tOr' (tNot' (tVal (eCall [0, 0] (mir_law_same) (aCons (oV (eCall [0, 0, 0] (mir_law_paid) (aCons (oVar 1) (aCons (oVar 7) (aCons (oV (eC (.bl true))) aNil))))) (aCons (oVar 6) aNil))))) (tVal (eOp2 gNe (oVar 7) (oVar 3)))) (sRet (eC (.bl false))) sNil) sq_law_costs_right_9)
def sq_law_costs_right_11 : En → SOut := (sSeq (sSet 7 (eOp gList (aCons (oVar 3) aNil))) sq_law_costs_right_10)
def sq_law_costs_right_12 : En → SOut := (sSeq (sSet 6 (eLc (iRange1 (aCons (oV (eOp gLen (aCons (oVar 2) aNil))) aNil)) (gSet 10) tOne le_law_costs_right_0 [10])) sq_law_costs_right_11)
def sq_law_costs_right_13 : En → SOut := (sSeq (sFor (iItems (eName 2)) (gSet 4) lb_law_costs_right_0) sq_law_costs_right_12)
def m_law_costs_right : En → SOut := (sSeq (sSet 3 (eDisp .ol aNil)) sq_law_costs_right_13)
abbrev mir_law_costs_right : List M → FOut := runB 12 [0] m_law_costs_right
theorem fok_law_costs_right {fd : FuncData} (y : Y K mg) (F : FunD K "_law_costs_right" "_law_costs_right" (defArgs (top 32)) (defBody (top 32)) (defScope (top 32)) [] [] ((fun K => He.ga K "_law_costs_right") K) fd) : FnOk PR w K mg base (L2N.CX PR w) 15 ((fun K => He.ga K "_law_costs_right") K) fd ["pool", "prices", "rows"] (spM K 3 mir_law_costs_right) := by
  refine fn_ok (N := ["pool", "prices", "rows", "numbers", "row", "number", "costs", "handed", "wrong", "odd", "person", "night"]) (ps := ["pool", "prices", "rows"]) (k := 14) [0] F (C8.fnScope_by (by kernel_rfl)) ?_
  intro cdv A outer s H E hr
  have nd : (cxOf (L2N.CX PR w) PR w K mg base ["pool", "prices", "rows", "numbers", "row", "number", "costs", "handed", "wrong", "odd", "person", "night"] "_law_costs_right" (defScope (top 32)) ((fun K => He.ga K "_law_costs_right") K) cdv A outer s H E).N.Nodup := by show (["pool", "prices", "rows", "numbers", "row", "number", "costs", "handed", "wrong", "odd", "person", "night"] : List Str).Nodup; decide
  have tk : L2N.Takes (cxOf (L2N.CX PR w) PR w K mg base ["pool", "prices", "rows", "numbers", "row", "number", "costs", "handed", "wrong", "odd", "person", "night"] "_law_costs_right" (defScope (top 32)) ((fun K => He.ga K "_law_costs_right") K) cdv A outer s H E) (fun cls d _ H => E cls d H) := L2N.takes_of rfl rfl rfl rfl
  have ps : PassesOwn (model PR w) (cxOf (L2N.CX PR w) PR w K mg base ["pool", "prices", "rows", "numbers", "row", "number", "costs", "handed", "wrong", "odd", "person", "night"] "_law_costs_right" (defScope (top 32)) ((fun K => He.ga K "_law_costs_right") K) cdv A outer s H E).A (cxOf (L2N.CX PR w) PR w K mg base ["pool", "prices", "rows", "numbers", "row", "number", "costs", "handed", "wrong", "odd", "person", "night"] "_law_costs_right" (defScope (top 32)) ((fun K => He.ga K "_law_costs_right") K) cdv A outer s H E).env (cxOf (L2N.CX PR w) PR w K mg base ["pool", "prices", "rows", "numbers", "row", "number", "costs", "handed", "wrong", "odd", "person", "night"] "_law_costs_right" (defScope (top 32)) ((fun K => He.ga K "_law_costs_right") K) cdv A outer s H E).xe := passes_of rfl
  exact (ss_cons (st_set 3 nd (by decide) (fe_lst fa_nil)) (ss_cons (st_for ps rfl (by decide) (fi_seq (fe_name 2)) (fg_name 4 nd) (ss_cons (st_set 5 nd (by decide) (fe_cR [1, 0] tk (ok_law_draw y) (hr.mono (by omega)) (y.glo "_law_draw" (by decide)) (y.kp_law_draw) (fa_cons (fo_var 0) (fa_cons (fo_val (fe_add (fo_val (fe_len (y.free "len" (by decide)) (fa_cons (fo_var 4) fa_nil))) (fo_val fe_int))) fa_nil)))) (ss_cons (st_if (ft_ck (k_eq hr) (fo_val (fe_cR [1, 0] tk (ok_law_draw y) (hr.mono (by omega)) (y.glo "_law_draw" (by decide)) (y.kp_law_draw) (fa_cons (fo_var 0) (fa_cons (fo_val fe_int) fa_nil)))) (fo_val fe_int)) (ss_one (st_set 5 nd (by decide) (fe_sub (fo_val (fe_pow (fo_val fe_int) (fo_val fe_int))) (fo_val (fe_cR [1, 0] tk (ok_law_draw y) (hr.mono (by omega)) (y.glo "_law_draw" (by decide)) (y.kp_law_draw) (fa_cons (fo_var 0) (fa_cons (fo_val fe_int) fa_nil))))))) ss_nil) (ss_one (st_expr (fe_append 3 (fa_cons (fo_var 5) fa_nil))))))) (ss_cons (st_setLc 6 [("person", 10)] (by decide) rfl nd (fi_range1 (y.free "range" (by decide)) (fa_cons (fo_val (fe_len (y.free "len" (by decide)) (fa_cons (fo_var 2) fa_nil))) fa_nil)) (blkOk_by (by kernel_rfl)) (fun _ _ _ _ _ => (fg_name 10 nd)) (by decide) (fun _ _ _ _ _ => fts_nil) (fun _ _ _ _ _ => (fe_cR [0, 0] takesW (ok_law_cost y) (hr.mono (by omega)) (y.glo "_law_cost" (by decide)) (y.kp_law_cost) (fa_cons (fo_val (fe_item (fo_var 2) (fo_var 10))) (fa_cons (fo_val (fe_item (fo_var 3) (fo_var 10))) fa_nil))))) (ss_cons (st_set 7 nd (by decide) (fe_list (y.free "list" (by decide)) (fa_cons (fo_var 3) fa_nil))) (ss_cons (st_if (FW.ft (fw_or (ft_not (ft_val (fe_cR [0, 0] tk (ok_law_same y) (hr.mono (by omega)) (y.glo "_law_same" (by decide)) (y.kp_law_same) (fa_cons (fo_val (fe_cR [0, 0, 0] tk (ok_law_paid y) (hr.mono (by omega)) (y.glo "_law_paid" (by decide)) (y.kp_law_paid) (fa_cons (fo_var 1) (fa_cons (fo_var 7) (fa_cons (fo_val fe_bl) fa_nil))))) (fa_cons (fo_var 6) fa_nil))))) (fw_or1 (ft_ck (k_ne hr) (fo_var 7) (fo_var 3))))) (ss_one (st_ret fe_bl)) ss_nil) (ss_cons (st_if (ft_not (ft_val (fe_cR [0, 0] tk (ok_law_same y) (hr.mono (by omega)) (y.glo "_law_same" (by decide)) (y.kp_law_same) (fa_cons (fo_val (fe_cR [0, 0, 0] tk (ok_law_paid y) (hr.mono (by omega)) (y.glo "_law_paid" (by decide)) (y.kp_law_paid) (fa_cons (fo_var 1) (fa_cons (fo_val (fe_tuple (y.free "tuple" (by decide)) (fa_cons (fo_var 3) fa_nil))) (fa_cons (fo_val fe_bl) fa_nil))))) (fa_cons (fo_val (fe_sum rfl (y.free "sum" (by decide)) (fa_cons (fo_var 6) fa_nil))) fa_nil))))) (ss_one (st_ret fe_bl)) ss_nil) (ss_cons (st_set 8 nd (by decide) (fe_tup (fa_cons (fo_val fe_str) (fa_cons (fo_val (fe_add (fo_val (fe_len (y.free "len" (by decide)) (fa_cons (fo_var 2) fa_nil))) (fo_val fe_int))) (fa_cons (fo_val (fe_len (y.free "len" (by decide)) (fa_cons (fo_var 2) fa_nil))) (fa_cons (fo_val fe_bl) fa_nil)))))) (ss_cons (st_if (ft_not (ft_val (fe_cR [0, 0] tk (ok_law_same y) (hr.mono (by omega)) (y.glo "_law_same" (by decide)) (y.kp_law_same) (fa_cons (fo_val (fe_lst (fa_cons (fo_val (fe_cR [0, 0, 0] tk (ok_law_paid y) (hr.mono (by omega)) (y.glo "_law_paid" (by decide)) (y.kp_law_paid) (fa_cons (fo_var 1) (fa_cons (fo_val (fe_add (fo_var 3) (fo_val (fe_lst (fa_cons (fo_val fe_int) fa_nil))))) (fa_cons (fo_val fe_bl) fa_nil))))) (fa_cons (fo_val (fe_cR [0, 0, 0] tk (ok_law_paid y) (hr.mono (by omega)) (y.glo "_law_paid" (by decide)) (y.kp_law_paid) (fa_cons (fo_var 1) (fa_cons (fo_val (fe_add (fo_var 3) (fo_val (fe_lst (fa_cons (fo_val fe_int) fa_nil))))) (fa_cons (fo_val fe_bl) fa_nil))))) fa_nil)))) (fa_cons (fo_val (fe_lst (fa_cons (fo_var 8) (fa_cons (fo_var 8) fa_nil)))) fa_nil))))) (ss_one (st_ret fe_bl)) ss_nil) (ss_cons (st_for ps rfl (by decide) (fi_seq (fe_lst (fa_cons (fo_val (fe_neg (fo_val fe_int))) (fa_cons (fo_val (fe_len (y.free "len" (by decide)) (fa_cons (fo_var 2) fa_nil))) fa_nil)))) (fg_name 9 nd) (ss_one (st_if (ft_not (ft_val (fe_cR [0, 0] tk (ok_law_same y) (hr.mono (by omega)) (y.glo "_law_same" (by decide)) (y.kp_law_same) (fa_cons (fo_val (fe_cR [0, 0, 0] tk (ok_law_price y) (hr.mono (by omega)) (y.glo "_law_price" (by decide)) (y.kp_law_price) (fa_cons (fo_var 1) (fa_cons (fo_var 9) (fa_cons (fo_val fe_int) fa_nil))))) (fa_cons (fo_val (fe_tup (fa_cons (fo_val fe_str) (fa_cons (fo_var 9) (fa_cons (fo_val fe_bl) fa_nil))))) fa_nil))))) (ss_one (st_ret fe_bl)) ss_nil))) (ss_cons (st_for ps rfl (by decide) (fi_range1 (y.free "range" (by decide)) (fa_cons (fo_val (fe_min2 rfl (y.free "min" (by decide)) (fa_cons (fo_val fe_int) (fa_cons (fo_val (fe_len (y.free "len" (by decide)) (fa_cons (fo_var 2) fa_nil))) fa_nil)))) fa_nil)) (fg_name 10 nd) (ss_cons (st_set 4 nd (by decide) (fe_item (fo_var 2) (fo_var 10))) (ss_cons (st_for ps rfl (by decide) (fi_seq (fe_lst (fa_cons (fo_val fe_int) (fa_cons (fo_val (fe_len (y.free "len" (by decide)) (fa_cons (fo_var 4) fa_nil))) (fa_cons (fo_val (fe_add (fo_val (fe_len (y.free "len" (by decide)) (fa_cons (fo_var 4) fa_nil))) (fo_val fe_int))) (fa_cons (fo_val (fe_pow (fo_val fe_int) (fo_val fe_int))) (fa_cons (fo_val (fe_add (fo_val fe_int) (fo_val (fe_cR [1, 0] tk (ok_law_draw y) (hr.mono (by omega)) (y.glo "_law_draw" (by decide)) (y.kp_law_draw) (fa_cons (fo_var 0) (fa_cons (fo_val (fe_len (y.free "len" (by decide)) (fa_cons (fo_var 4) fa_nil))) fa_nil)))))) fa_nil))))))) (fg_name 11 nd) (ss_one (st_if (ft_not (ft_val (fe_cR [0, 0] tk (ok_law_same y) (hr.mono (by omega)) (y.glo "_law_same" (by decide)) (y.kp_law_same) (fa_cons (fo_val (fe_cR [0, 0, 0] tk (ok_law_price y) (hr.mono (by omega)) (y.glo "_law_price" (by decide)) (y.kp_law_price) (fa_cons (fo_var 1) (fa_cons (fo_var 10) (fa_cons (fo_var 11) fa_nil))))) (fa_cons (fo_val (fe_item (fo_var 4) (fo_val (fe_sub (fo_val (fe_min2 rfl (y.free "min" (by decide)) (fa_cons (fo_var 11) (fa_cons (fo_val (fe_len (y.free "len" (by decide)) (fa_cons (fo_var 4) fa_nil))) fa_nil)))) (fo_val fe_int))))) fa_nil))))) (ss_one (st_ret fe_bl)) ss_nil))) (ss_one (st_if (ft_not (ft_val (fe_cR [0, 0] tk (ok_law_same y) (hr.mono (by omega)) (y.glo "_law_same" (by decide)) (y.kp_law_same) (fa_cons (fo_val (fe_cR [0, 0, 0] tk (ok_law_price y) (hr.mono (by omega)) (y.glo "_law_price" (by decide)) (y.kp_law_price) (fa_cons (fo_var 1) (fa_cons (fo_var 10) (fa_cons (fo_val (fe_sub (fo_val fe_int) (fo_var 10))) fa_nil))))) (fa_cons (fo_val (fe_tup (fa_cons (fo_val fe_str) (fa_cons (fo_val fe_int) (fa_cons (fo_val (fe_sub (fo_val fe_int) (fo_var 10))) (fa_cons (fo_val fe_bl) fa_nil)))))) fa_nil))))) (ss_one (st_ret fe_bl)) ss_nil))))) (ss_one (st_ret fe_bl))))))))))))
theorem bnd_law_costs_right {fd : FuncData} (F : FunD K "_law_costs_right" "_law_costs_right" (defArgs (top 32)) (defBody (top 32)) (defScope (top 32)) [] [] ((fun K => He.ga K "_law_costs_right") K) fd) : Binds K fd ["pool", "prices", "rows"] [] := (F.bindsN fun _ _ _ _ _ _ us hl => match us, hl with | [_, _, _], _ => rfl)
theorem ok_law_costs_right (y : Y K mg) : FnM PR w K mg base 15 ((fun K => He.ga K "_law_costs_right") K) 3 mir_law_costs_right := by
  obtain ⟨fd, F⟩ := y.says.def_ (d := df_law_costs_right) 20
  exact fnR_of (fok_law_costs_right y F) (bnd_law_costs_right F)
-- _law_due: 0:rows 1:person 2:due
def sq_law_due_0 : En → SOut := (sIf (tVal (eOp2 gIsNot (oVar 2) (oV (eC .non)))) (sRetV 2) sNil)
def lb_law_due_0 : En → SOut := (sSeq (sSet 2 (eCall [0, 0] (mir_law_row_due) (aCons (oVar 1) (aCons (oV (eOp2 gIx (oVar 0) (oVar 1))) aNil)))) sq_law_due_0)
def sq_law_due_1 : En → SOut := (sRet (eC .non))
def sq_law_due_2 : En → SOut := (sSeq (sFor (iRange1 (aCons (oV (eOp gLen (aCons (oVar 0) aNil))) aNil)) (gSet 1) lb_law_due_0) sq_law_due_1)
def m_law_due : En → SOut := (sSeq (sIf (tVal (eOp2 gGt (oV (eOp gLen (aCons (oVar 0) aNil))) (oV (eC (.int 30))))) (sRet (eDisp (fun ds => .d (.tup ds)) (aCons (oV (eC (.str "TooLong"))) (aCons (oV (eOp gLen (aCons (oVar 0) aNil))) (aCons (oV (eC (.bl true))) (aCons (oV (eC (.bl false))) aNil)))))) sNil) sq_law_due_2)
abbrev mir_law_due : List M → FOut := runB 3 [] m_law_due
theorem fok_law_due {fd : FuncData} (y : Y K mg) (F : FunD K "_law_due" "_law_due" (defArgs (top 26)) (defBody (top 26)) (defScope (top 26)) [] [] ((fun K => He.ga K "_law_due") K) fd) : FnOk PR w K mg base (L2N.CX PR w) 3 ((fun K => He.ga K "_law_due") K) fd ["rows"] (spM K 1 mir_law_due) := by
  refine fn_ok (N := ["rows", "person", "due"]) (ps := ["rows"]) (k := 2) [] F (C8.fnScope_by (by kernel_rfl)) ?_
  intro cdv A outer s H E hr
  have nd : (cxOf (L2N.CX PR w) PR w K mg base ["rows", "person", "due"] "_law_due" (defScope (top 26)) ((fun K => He.ga K "_law_due") K) cdv A outer s H E).N.Nodup := by show (["rows", "person", "due"] : List Str).Nodup; decide
  have tk : L2N.Takes (cxOf (L2N.CX PR w) PR w K mg base ["rows", "person", "due"] "_law_due" (defScope (top 26)) ((fun K => He.ga K "_law_due") K) cdv A outer s H E) (fun cls d _ H => E cls d H) := L2N.takes_of rfl rfl rfl rfl
  have ps : PassesOwn (model PR w) (cxOf (L2N.CX PR w) PR w K mg base ["rows", "person", "due"] "_law_due" (defScope (top 26)) ((fun K => He.ga K "_law_due") K) cdv A outer s H E).A (cxOf (L2N.CX PR w) PR w K mg base ["rows", "person", "due"] "_law_due" (defScope (top 26)) ((fun K => He.ga K "_law_due") K) cdv A outer s H E).env (cxOf (L2N.CX PR w) PR w K mg base ["rows", "person", "due"] "_law_due" (defScope (top 26)) ((fun K => He.ga K "_law_due") K) cdv A outer s H E).xe := passes_of rfl
  exact (ss_cons (st_if (ft_ck k_gt (fo_val (fe_len (y.free "len" (by decide)) (fa_cons (fo_var 0) fa_nil))) (fo_val fe_int)) (ss_one (st_ret (fe_tup (fa_cons (fo_val fe_str) (fa_cons (fo_val (fe_len (y.free "len" (by decide)) (fa_cons (fo_var 0) fa_nil))) (fa_cons (fo_val fe_bl) (fa_cons (fo_val fe_bl) fa_nil))))))) ss_nil) (ss_cons (st_for ps rfl (by decide) (fi_range1 (y.free "range" (by decide)) (fa_cons (fo_val (fe_len (y.free "len" (by decide)) (fa_cons (fo_var 0) fa_nil))) fa_nil)) (fg_name 1 nd) (ss_cons (st_set 2 nd (by decide) (fe_cR [0, 0] tk (ok_law_row_due y) (hr.mono (by omega)) (y.glo "_law_row_due" (by decide)) (y.kp_law_row_due) (fa_cons (fo_var 1) (fa_cons (fo_val (fe_item (fo_var 0) (fo_var 1))) fa_nil)))) (ss_one (st_if (ft_ck k_isnot (fo_var 2) (fo_val fe_non)) (ss_one (st_retV 2)) ss_nil)))) (ss_one (st_ret fe_non))))
theorem bnd_law_due {fd : FuncData} (F : FunD K "_law_due" "_law_due" (defArgs (top 26)) (defBody (top 26)) (defScope (top 26)) [] [] ((fun K => He.ga K "_law_due") K) fd) : Binds K fd ["rows"] [] := (F.bindsN fun _ _ _ _ _ _ us hl => match us, hl with | [_], _ => rfl)
theorem ok_law_due (y : Y K mg) : FnM PR w K mg base 3 ((fun K => He.ga K "_law_due") K) 1 mir_law_due := by
  obtain ⟨fd, F⟩ := y.says.def_ (d := df_law_due) 21
  exact fnR_of (fok_law_due y F) (bnd_law_due F)
-- PriceList.alike: 0:cls 1:people 2:row 3:_
def le_PriceList_alike_0 : En → Out M := (eName 2)
def sq_PriceList_alike_0 : En → SOut := (sRet (eMakeV 0 "PriceList" (mir_PriceList___init__) (aCons (oV (eLc (iRange1 (aCons (oVar 1) aNil)) (gSet 3) tOne le_PriceList_alike_0 [3])) aNil)))
def m_PriceList_alike : En → SOut := (sSeq (sIf (tVal (eOp2 gGt (oVar 1) (oV (eC (.int (30)))))) (sRaise "TooLong" ["count"] (aCons (oVar 1) aNil)) sNil) sq_PriceList_alike_0)
abbrev mir_PriceList_alike : List M → FOut := runB 4 [] m_PriceList_alike
theorem fok_PriceList_alike {fd : FuncData} (y : Y K mg) (F : FunD K "alike" "PriceList.alike" (defArgs (sub 13 2)) (defBody (sub 13 2)) (defScope (sub 13 2)) [] [] ((cmAt "PriceList" "alike") K) fd) : FnOk PR w K mg base (L2N.CX PR w) 6 ((cmAt "PriceList" "alike") K) fd ["cls", "people", "row"] (spM K 3 mir_PriceList_alike) := by
  refine fn_ok (N := ["cls", "people", "row", "_"]) (ps := ["cls", "people", "row"]) (k := 5) [] F (C8.fnScope_by (by kernel_rfl)) ?_
  intro cdv A outer s H E hr
  have nd : (cxOf (L2N.CX PR w) PR w K mg base ["cls", "people", "row", "_"] "PriceList.alike" (defScope (sub 13 2)) ((cmAt "PriceList" "alike") K) cdv A outer s H E).N.Nodup := by show (["cls", "people", "row", "_"] : List Str).Nodup; decide
  have tk : L2N.Takes (cxOf (L2N.CX PR w) PR w K mg base ["cls", "people", "row", "_"] "PriceList.alike" (defScope (sub 13 2)) ((cmAt "PriceList" "alike") K) cdv A outer s H E) (fun cls d _ H => E cls d H) := L2N.takes_of rfl rfl rfl rfl
  have ps : PassesOwn (model PR w) (cxOf (L2N.CX PR w) PR w K mg base ["cls", "people", "row", "_"] "PriceList.alike" (defScope (sub 13 2)) ((cmAt "PriceList" "alike") K) cdv A outer s H E).A (cxOf (L2N.CX PR w) PR w K mg base ["cls", "people", "row", "_"] "PriceList.alike" (defScope (sub 13 2)) ((cmAt "PriceList" "alike") K) cdv A outer s H E).env (cxOf (L2N.CX PR w) PR w K mg base ["cls", "people", "row", "_"] "PriceList.alike" (defScope (sub 13 2)) ((cmAt "PriceList" "alike") K) cdv A outer s H E).xe := passes_of rfl
  exact (ss_cons (st_if (ft_ck k_gt (fo_var 1) (fo_val (fe_gint (hm := y.int_MOST_ROWS)))) (ss_one (st_raise rfl tk (ex_TooLong y) (hr.mono (by omega)) (fa_cons (fo_var 1) fa_nil))) ss_nil) (ss_one (st_ret (fe_kV 0 "PriceList" tk (y.mkr_PriceList) (ok_PriceList___init__ y) (hr.mono (by omega)) (fa_cons (fo_val (fe_lc [("_", 3)] rfl nd (fi_range1 (y.free "range" (by decide)) (fa_cons (fo_var 1) fa_nil)) (blkOk_by (by kernel_rfl)) (fun _ _ _ _ _ => (fg_name 3 nd)) (by decide) (fun _ _ _ _ _ => fts_nil) (fun _ _ _ _ _ => (fe_name 2)))) fa_nil) (fun ε as ε1 h => by rw [(aCons_len aNil_len) ε as ε1 h])))))
theorem bnd_PriceList_alike {fd : FuncData} (F : FunD K "alike" "PriceList.alike" (defArgs (sub 13 2)) (defBody (sub 13 2)) (defScope (sub 13 2)) [] [] ((cmAt "PriceList" "alike") K) fd) : Binds K fd ["cls", "people", "row"] [] := (F.bindsN fun _ _ _ _ _ _ us hl => match us, hl with | [_, _, _], _ => rfl)
theorem ok_PriceList_alike (y : Y K mg) : FnM PR w K mg base 6 ((cmAt "PriceList" "alike") K) 3 mir_PriceList_alike := by
  obtain ⟨fd, F⟩ := y.says.def_ (d := df_PriceList_alike) 22
  exact fnR_of (fok_PriceList_alike y F) (bnd_PriceList_alike F)
-- PriceList.flat: 0:cls 1:costs 2:cost
def le_PriceList_flat_0 : En → Out M := (eDisp .ol (aCons (oVar 2) aNil))
def m_PriceList_flat : En → SOut := (sRet (eMakeV 0 "PriceList" (mir_PriceList___init__) (aCons (oV (eLc (iItems (eName 1)) (gSet 2) tOne le_PriceList_flat_0 [2])) aNil)))
abbrev mir_PriceList_flat : List M → FOut := runB 3 [] m_PriceList_flat
theorem fok_PriceList_flat {fd : FuncData} (y : Y K mg) (F : FunD K "flat" "PriceList.flat" (defArgs (sub 13 1)) (defBody (sub 13 1)) (defScope (sub 13 1)) [] [] ((cmAt "PriceList" "flat") K) fd) : FnOk PR w K mg base (L2N.CX PR w) 6 ((cmAt "PriceList" "flat") K) fd ["cls", "costs"] (spM K 2 mir_PriceList_flat) := by
  refine fn_ok (N := ["cls", "costs", "cost"]) (ps := ["cls", "costs"]) (k := 5) [] F (C8.fnScope_by (by kernel_rfl)) ?_
  intro cdv A outer s H E hr
  have nd : (cxOf (L2N.CX PR w) PR w K mg base ["cls", "costs", "cost"] "PriceList.flat" (defScope (sub 13 1)) ((cmAt "PriceList" "flat") K) cdv A outer s H E).N.Nodup := by show (["cls", "costs", "cost"] : List Str).Nodup; decide
  have tk : L2N.Takes (cxOf (L2N.CX PR w) PR w K mg base ["cls", "costs", "cost"] "PriceList.flat" (defScope (sub 13 1)) ((cmAt "PriceList" "flat") K) cdv A outer s H E) (fun cls d _ H => E cls d H) := L2N.takes_of rfl rfl rfl rfl
  have ps : PassesOwn (model PR w) (cxOf (L2N.CX PR w) PR w K mg base ["cls", "costs", "cost"] "PriceList.flat" (defScope (sub 13 1)) ((cmAt "PriceList" "flat") K) cdv A outer s H E).A (cxOf (L2N.CX PR w) PR w K mg base ["cls", "costs", "cost"] "PriceList.flat" (defScope (sub 13 1)) ((cmAt "PriceList" "flat") K) cdv A outer s H E).env (cxOf (L2N.CX PR w) PR w K mg base ["cls", "costs", "cost"] "PriceList.flat" (defScope (sub 13 1)) ((cmAt "PriceList" "flat") K) cdv A outer s H E).xe := passes_of rfl
  exact (ss_one (st_ret (fe_kV 0 "PriceList" tk (y.mkr_PriceList) (ok_PriceList___init__ y) (hr.mono (by omega)) (fa_cons (fo_val (fe_lc [("cost", 2)] rfl nd (fi_seq (fe_name 1)) (blkOk_by (by kernel_rfl)) (fun _ _ _ _ _ => (fg_name 2 nd)) (by decide) (fun _ _ _ _ _ => fts_nil) (fun _ _ _ _ _ => (fe_lst (fa_cons (fo_var 2) fa_nil))))) fa_nil) (fun ε as ε1 h => by rw [(aCons_len aNil_len) ε as ε1 h]))))
theorem bnd_PriceList_flat {fd : FuncData} (F : FunD K "flat" "PriceList.flat" (defArgs (sub 13 1)) (defBody (sub 13 1)) (defScope (sub 13 1)) [] [] ((cmAt "PriceList" "flat") K) fd) : Binds K fd ["cls", "costs"] [] := (F.bindsN fun _ _ _ _ _ _ us hl => match us, hl with | [_, _], _ => rfl)
theorem ok_PriceList_flat (y : Y K mg) : FnM PR w K mg base 6 ((cmAt "PriceList" "flat") K) 2 mir_PriceList_flat := by
  obtain ⟨fd, F⟩ := y.says.def_ (d := df_PriceList_flat) 23
  exact fnR_of (fok_PriceList_flat y F) (bnd_PriceList_flat F)
-- _law_made: 0:way 1:rows 2:many 3:e
def tb_law_made_0 : En → SOut := (sSeq (sIf (tVal (eOp2 gEq (oVar 0) (oV (eC (.int 0))))) (sRet (eMake "PriceList" (mir_PriceList___init__) (aCons (oVar 1) aNil))) sNil) (sSeq (sIf (tVal (eOp2 gEq (oVar 0) (oV (eC (.int 1))))) (sRet (eCM "PriceList" [0] (mir_PriceList_flat) (aCons (oVar 1) aNil))) sNil) (sRet (eCM "PriceList" [0, 0] (mir_PriceList_alike) (aCons (oVar 2) (aCons (oVar 1) aNil))))))
def hs_law_made_0 : List Clause := [("NoPrices", 3, xRet itab "NightsError" [.c (.str "NoPrices"), .f "person", .kin, .isi (.own "PriceError")]), ("TooLong", 3, xRet itab "NightsError" [.c (.str "TooLong"), .f "count", .kin, .isi (.own "PriceError")]), ("BadPrice", 3, xRet itab "NightsError" [.c (.str "BadPrice"), .f "person", .f "night", .f "price", .kin, .isi (.own "PriceError")])]
def m_law_made : En → SOut := (sTry xtab xcs tb_law_made_0 hs_law_made_0)
abbrev mir_law_made : List M → FOut := runB 4 [] m_law_made
theorem fok_law_made {fd : FuncData} (y : Y K mg) (F : FunD K "_law_made" "_law_made" (defArgs (top 27)) (defBody (top 27)) (defScope (top 27)) [] [] ((fun K => He.ga K "_law_made") K) fd) : FnOk PR w K mg base (L2N.CX PR w) 7 ((fun K => He.ga K "_law_made") K) fd ["way", "rows", "many"] (spM K 3 mir_law_made) := by
  refine fn_ok (N := ["way", "rows", "many", "e"]) (ps := ["way", "rows", "many"]) (k := 6) [] F (C8.fnScope_by (by kernel_rfl)) ?_
  intro cdv A outer s H E hr
  have nd : (cxOf (L2N.CX PR w) PR w K mg base ["way", "rows", "many", "e"] "_law_made" (defScope (top 27)) ((fun K => He.ga K "_law_made") K) cdv A outer s H E).N.Nodup := by show (["way", "rows", "many", "e"] : List Str).Nodup; decide
  have tk : L2N.Takes (cxOf (L2N.CX PR w) PR w K mg base ["way", "rows", "many", "e"] "_law_made" (defScope (top 27)) ((fun K => He.ga K "_law_made") K) cdv A outer s H E) (fun cls d _ H => E cls d H) := L2N.takes_of rfl rfl rfl rfl
  have ps : PassesOwn (model PR w) (cxOf (L2N.CX PR w) PR w K mg base ["way", "rows", "many", "e"] "_law_made" (defScope (top 27)) ((fun K => He.ga K "_law_made") K) cdv A outer s H E).A (cxOf (L2N.CX PR w) PR w K mg base ["way", "rows", "many", "e"] "_law_made" (defScope (top 27)) ((fun K => He.ga K "_law_made") K) cdv A outer s H E).env (cxOf (L2N.CX PR w) PR w K mg base ["way", "rows", "many", "e"] "_law_made" (defScope (top 27)) ((fun K => He.ga K "_law_made") K) cdv A outer s H E).xe := passes_of rfl
  exact (ss_one (st_try y.hXtab rfl rfl nd tk (fun W pn xe tk ps => (ss_cons (st_if (ft_ck (k_eq hr) (fo_var 0) (fo_val fe_int)) (ss_one (st_ret (fe_kR "PriceList" tk (y.mkr_PriceList) (ok_PriceList___init__ y) (hr.mono (by omega)) (y.glo "PriceList" (by decide)) (fa_cons (fo_var 1) fa_nil) (fun ε as ε1 h => by rw [(aCons_len aNil_len) ε as ε1 h])))) ss_nil) (ss_cons (st_if (ft_ck (k_eq hr) (fo_var 0) (fo_val fe_int)) (ss_one (st_ret (fe_cm "PriceList" [0] tk (y.cm_PriceList_flat).1 (y.cm_PriceList_flat).2 (ok_PriceList_flat y) (hr.mono (by omega)) (y.glo "PriceList" (by decide)) (fa_cons (fo_var 1) fa_nil)))) ss_nil) (ss_one (st_ret (fe_cm "PriceList" [0, 0] tk (y.cm_PriceList_alike).1 (y.cm_PriceList_alike).2 (ok_PriceList_alike y) (hr.mono (by omega)) (y.glo "PriceList" (by decide)) (fa_cons (fo_var 2) (fa_cons (fo_var 1) fa_nil)))))))) (.cons (by decide) (y.glo "NoPrices" (by decide)) rfl (by decide) rfl rfl (fx_ret (fxa_cons fx_str (fxa_cons (fx_fld y.xok (by decide)) (fxa_cons (fx_kin y.hItab (kin y) (hr.mono (by omega))) (fxa_cons (fx_isiO y.xok y.hItab (y.glo "PriceError" (by decide)) (y.free "isinstance" (by decide))) fxa_nil))))) (.cons (by decide) (y.glo "TooLong" (by decide)) rfl (by decide) rfl rfl (fx_ret (fxa_cons fx_str (fxa_cons (fx_fld y.xok (by decide)) (fxa_cons (fx_kin y.hItab (kin y) (hr.mono (by omega))) (fxa_cons (fx_isiO y.xok y.hItab (y.glo "PriceError" (by decide)) (y.free "isinstance" (by decide))) fxa_nil))))) (.cons (by decide) (y.glo "BadPrice" (by decide)) rfl (by decide) rfl rfl (fx_ret (fxa_cons fx_str (fxa_cons (fx_fld y.xok (by decide)) (fxa_cons (fx_fld y.xok (by decide)) (fxa_cons (fx_fld y.xok (by decide)) (fxa_cons (fx_kin y.hItab (kin y) (hr.mono (by omega))) (fxa_cons (fx_isiO y.xok y.hItab (y.glo "PriceError" (by decide)) (y.free "isinstance" (by decide))) fxa_nil))))))) .nil)))))
theorem bnd_law_made {fd : FuncData} (F : FunD K "_law_made" "_law_made" (defArgs (top 27)) (defBody (top 27)) (defScope (top 27)) [] [] ((fun K => He.ga K "_law_made") K) fd) : Binds K fd ["way", "rows", "many"] [] := (F.bindsN fun _ _ _ _ _ _ us hl => match us, hl with | [_, _, _], _ => rfl)
theorem ok_law_made (y : Y K mg) : FnM PR w K mg base 7 ((fun K => He.ga K "_law_made") K) 3 mir_law_made := by
  obtain ⟨fd, F⟩ := y.says.def_ (d := df_law_made) 24
  exact fnR_of (fok_law_made y F) (bnd_law_made F)
-- _law_made_right: 0:way 1:rows 2:many 3:due_rows 4:handed 5:made 6:due
def sq_law_made_right_0 : En → SOut := (sRet (eCall [0, 0] (mir_law_is) (aCons (oVar 5) (aCons (oVar 3) aNil))))
def sq_law_made_right_1 : En → SOut := (sSeq (sIf (tVal (eOp2 gIsNot (oVar 6) (oV (eC .non)))) (sRet (eCall [0, 0] (mir_law_same) (aCons (oVar 5) (aCons (oVar 6) aNil)))) sNil) sq_law_made_right_0)
def sq_law_made_right_2 : En → SOut := (sSeq (sSet 6 (eCall [0] (mir_law_due) (aCons (oVar 3) aNil))) sq_law_made_right_1)
def sq_law_made_right_3 : En → SOut := (sSeq (sDrop (eMth 4 gApp (aCons (oV (eC (.int 1))) aNil))) sq_law_made_right_2)
def sq_law_made_right_4 : En → SOut := (sSeq (sSet 5 (eCall [0, 2, 0] (mir_law_made) (aCons (oVar 0) (aCons (oVar 4) (aCons (oVar 2) aNil))))) sq_law_made_right_3)
def m_law_made_right : En → SOut := (sSeq (sSet 4 (eOp gList (aCons (oVar 1) aNil))) sq_law_made_right_4)
abbrev mir_law_made_right : List M → FOut := runB 7 [] m_law_made_right
theorem fok_law_made_right {fd : FuncData} (y : Y K mg) (F : FunD K "_law_made_right" "_law_made_right" (defArgs (top 35)) (defBody (top 35)) (defScope (top 35)) [] [] ((fun K => He.ga K "_law_made_right") K) fd) : FnOk PR w K mg base (L2N.CX PR w) 16 ((fun K => He.ga K "_law_made_right") K) fd ["way", "rows", "many", "due_rows"] (spM K 4 mir_law_made_right) := by
  refine fn_ok (N := ["way", "rows", "many", "due_rows", "handed", "made", "due"]) (ps := ["way", "rows", "many", "due_rows"]) (k := 15) [] F (C8.fnScope_by (by kernel_rfl)) ?_
  intro cdv A outer s H E hr
  have nd : (cxOf (L2N.CX PR w) PR w K mg base ["way", "rows", "many", "due_rows", "handed", "made", "due"] "_law_made_right" (defScope (top 35)) ((fun K => He.ga K "_law_made_right") K) cdv A outer s H E).N.Nodup := by show (["way", "rows", "many", "due_rows", "handed", "made", "due"] : List Str).Nodup; decide
  have tk : L2N.Takes (cxOf (L2N.CX PR w) PR w K mg base ["way", "rows", "many", "due_rows", "handed", "made", "due"] "_law_made_right" (defScope (top 35)) ((fun K => He.ga K "_law_made_right") K) cdv A outer s H E) (fun cls d _ H => E cls d H) := L2N.takes_of rfl rfl rfl rfl
  have ps : PassesOwn (model PR w) (cxOf (L2N.CX PR w) PR w K mg base ["way", "rows", "many", "due_rows", "handed", "made", "due"] "_law_made_right" (defScope (top 35)) ((fun K => He.ga K "_law_made_right") K) cdv A outer s H E).A (cxOf (L2N.CX PR w) PR w K mg base ["way", "rows", "many", "due_rows", "handed", "made", "due"] "_law_made_right" (defScope (top 35)) ((fun K => He.ga K "_law_made_right") K) cdv A outer s H E).env (cxOf (L2N.CX PR w) PR w K mg base ["way", "rows", "many", "due_rows", "handed", "made", "due"] "_law_made_right" (defScope (top 35)) ((fun K => He.ga K "_law_made_right") K) cdv A outer s H E).xe := passes_of rfl
  exact (ss_cons (st_set 4 nd (by decide) (fe_list (y.free "list" (by decide)) (fa_cons (fo_var 1) fa_nil))) (ss_cons (st_set 5 nd (by decide) (fe_cR [0, 2, 0] tk (ok_law_made y) (hr.mono (by omega)) (y.glo "_law_made" (by decide)) (y.kp_law_made) (fa_cons (fo_var 0) (fa_cons (fo_var 4) (fa_cons (fo_var 2) fa_nil))))) (ss_cons (st_expr (fe_append 4 (fa_cons (fo_val fe_int) fa_nil))) (ss_cons (st_set 6 nd (by decide) (fe_cR [0] tk (ok_law_due y) (hr.mono (by omega)) (y.glo "_law_due" (by decide)) (y.kp_law_due) (fa_cons (fo_var 3) fa_nil))) (ss_cons (st_if (ft_ck k_isnot (fo_var 6) (fo_val fe_non)) (ss_one (st_ret (fe_cR [0, 0] tk (ok_law_same y) (hr.mono (by omega)) (y.glo "_law_same" (by decide)) (y.kp_law_same) (fa_cons (fo_var 5) (fa_cons (fo_var 6) fa_nil))))) ss_nil) (ss_one (st_ret (fe_cR [0, 0] tk (ok_law_is y) (hr.mono (by omega)) (y.glo "_law_is" (by decide)) (y.kp_law_is) (fa_cons (fo_var 5) (fa_cons (fo_var 3) fa_nil))))))))))
theorem bnd_law_made_right {fd : FuncData} (F : FunD K "_law_made_right" "_law_made_right" (defArgs (top 35)) (defBody (top 35)) (defScope (top 35)) [] [] ((fun K => He.ga K "_law_made_right") K) fd) : Binds K fd ["way", "rows", "many", "due_rows"] [] := (F.bindsN fun _ _ _ _ _ _ us hl => match us, hl with | [_, _, _, _], _ => rfl)
theorem ok_law_made_right (y : Y K mg) : FnM PR w K mg base 16 ((fun K => He.ga K "_law_made_right") K) 4 mir_law_made_right := by
  obtain ⟨fd, F⟩ := y.says.def_ (d := df_law_made_right) 25
  exact fnR_of (fok_law_made_right y F) (bnd_law_made_right F)
-- _law_pool: 0:script 1:at 2:cell
def sq_law_pool_0 : En → SOut := (sRet (eDisp .ol (aCons (oV (eOp1 gNeg (oV (eC (.int 1))))) (aCons (oV (eOp2 gMod (oV (eOp gInt (aCons (oVar 2) aNil))) (oV (eC (.int 2147483399))))) (aCons (oV (eOp2 gAdd (oVar 1) (oV (eC (.int 1))))) aNil)))))
def sq_law_pool_1 : En → SOut := (sSeq (sIf (tVal (eOp2 gGe (oVar 2) (oV (eOp2 gPow (oV (eC (.int 10))) (oV (eC (.int 18))))))) (sRet (eDisp .ol (aCons (oV (eOp2 FL.gSub (oVar 2) (oV (eOp2 gPow (oV (eC (.int 10))) (oV (eC (.int 18))))))) (aCons (oV (eC (.int 1))) (aCons (oV (eC (.int 0))) aNil))))) sNil) sq_law_pool_0)
def sq_law_pool_2 : En → SOut := (sSeq (sIf (tVal (eOp2 gLt (oVar 1) (oV (eOp gLen (aCons (oVar 0) aNil))))) (sSet 2 (eOp gAbs (aCons (oV (eOp2 gIx (oVar 0) (oVar 1))) aNil))) sNil) sq_law_pool_1)
def m_law_pool : En → SOut := (sSeq (sSet 2 (eC (.int 0))) sq_law_pool_2)
abbrev mir_law_pool : List M → FOut := runB 3 [] m_law_pool
theorem fok_law_pool {fd : FuncData} (y : Y K mg) (F : FunD K "_law_pool" "_law_pool" (defArgs (top 17)) (defBody (top 17)) (defScope (top 17)) [] [] ((fun K => He.ga K "_law_pool") K) fd) : FnOk PR w K mg base (L2N.CX PR w) 2 ((fun K => He.ga K "_law_pool") K) fd ["script", "at"] (spM K 2 mir_law_pool) := by
  refine fn_ok (N := ["script", "at", "cell"]) (ps := ["script", "at"]) (k := 1) [] F (C8.fnScope_by (by kernel_rfl)) ?_
  intro cdv A outer s H E hr
  have nd : (cxOf (L2N.CX PR w) PR w K mg base ["script", "at", "cell"] "_law_pool" (defScope (top 17)) ((fun K => He.ga K "_law_pool") K) cdv A outer s H E).N.Nodup := by show (["script", "at", "cell"] : List Str).Nodup; decide
  have tk : L2N.Takes (cxOf (L2N.CX PR w) PR w K mg base ["script", "at", "cell"] "_law_pool" (defScope (top 17)) ((fun K => He.ga K "_law_pool") K) cdv A outer s H E) (fun cls d _ H => E cls d H) := L2N.takes_of rfl rfl rfl rfl
  have ps : PassesOwn (model PR w) (cxOf (L2N.CX PR w) PR w K mg base ["script", "at", "cell"] "_law_pool" (defScope (top 17)) ((fun K => He.ga K "_law_pool") K) cdv A outer s H E).A (cxOf (L2N.CX PR w) PR w K mg base ["script", "at", "cell"] "_law_pool" (defScope (top 17)) ((fun K => He.ga K "_law_pool") K) cdv A outer s H E).env (cxOf (L2N.CX PR w) PR w K mg base ["script", "at", "cell"] "_law_pool" (defScope (top 17)) ((fun K => He.ga K "_law_pool") K) cdv A outer s H E).xe := passes_of rfl
  exact (ss_cons (st_set 2 nd (by decide) fe_int) (ss_cons (st_if (ft_ck k_lt (fo_var 1) (fo_val (fe_len (y.free "len" (by decide)) (fa_cons (fo_var 0) fa_nil)))) (ss_one (st_set 2 nd (by decide) (fe_abs (y.free "abs" (by decide)) (fa_cons (fo_val (fe_item (fo_var 0) (fo_var 1))) fa_nil)))) ss_nil) (ss_cons (st_if (ft_ck k_ge (fo_var 2) (fo_val (fe_pow (fo_val fe_int) (fo_val fe_int)))) (ss_one (st_ret (fe_lst (fa_cons (fo_val (fe_sub (fo_var 2) (fo_val (fe_pow (fo_val fe_int) (fo_val fe_int))))) (fa_cons (fo_val fe_int) (fa_cons (fo_val fe_int) fa_nil)))))) ss_nil) (ss_one (st_ret (fe_lst (fa_cons (fo_val (fe_neg (fo_val fe_int))) (fa_cons (fo_val (fe_mod (fo_val (fe_int1 (y.free "int" (by decide)) (fa_cons (fo_var 2) fa_nil))) (fo_val fe_int))) (fa_cons (fo_val (fe_add (fo_var 1) (fo_val fe_int))) fa_nil)))))))))
theorem bnd_law_pool {fd : FuncData} (F : FunD K "_law_pool" "_law_pool" (defArgs (top 17)) (defBody (top 17)) (defScope (top 17)) [] [] ((fun K => He.ga K "_law_pool") K) fd) : Binds K fd ["script", "at"] [] := (F.bindsN fun _ _ _ _ _ _ us hl => match us, hl with | [_, _], _ => rfl)
theorem ok_law_pool (y : Y K mg) : FnM PR w K mg base 2 ((fun K => He.ga K "_law_pool") K) 2 mir_law_pool := by
  obtain ⟨fd, F⟩ := y.says.def_ (d := df_law_pool) 26
  exact fnR_of (fok_law_pool y F) (bnd_law_pool F)
-- _law_rows: 0:pool 1:many 2:rows 3:place
def le_law_rows_0 : En → Out M := (eCall [1] (mir_law_row) (aCons (oVar 0) aNil))
def sq_law_rows_0 : En → SOut := (sRetV 2)
def sq_law_rows_1 : En → SOut := (sSeq (sIf (tAnd' (tVal (eOp2 gGt (oVar 1) (oV (eC (.int 0))))) (tVal (eOp2 gEq (oV (eCall [1, 0] (mir_law_draw) (aCons (oVar 0) (aCons (oV (eC (.int 3))) aNil)))) (oV (eC (.int 2)))))) (sSeq (sSet 3 (eCall [1, 0] (mir_law_draw) (aCons (oVar 0) (aCons (oVar 1) aNil)))) (sStore 2 (eCall [1, 0] (mir_law_bent) (aCons (oVar 0) (aCons (oV (eOp2 gIx (oVar 2) (oVar 3))) aNil))) (oVar 3))) sNil) sq_law_rows_0)
def sq_law_rows_2 : En → SOut := (sSeq (sSet 2 (eLc (iRange1 (aCons (oVar 1) aNil)) (gSet 3) tOne le_law_rows_0 [3])) sq_law_rows_1)
def sq_law_rows_3 : En → SOut := (sSeq (sIf (tVal (eOp2 gEq (oV (eCall [1, 0] (mir_law_draw) (aCons (oVar 0) (aCons (oV (eC (.int 8))) aNil)))) (oV (eC (.int 7))))) (sSet 1 (eOp2 gAdd (oV (eC (.int 28))) (oV (eCall [1, 0] (mir_law_draw) (aCons (oVar 0) (aCons (oV (eC (.int 6))) aNil)))))) sNil) sq_law_rows_2)
def m_law_rows : En → SOut := (sSeq (sSet 1 (eCall [1, 0] (mir_law_draw) (aCons (oVar 0) (aCons (oV (eC (.int 6))) aNil)))) sq_law_rows_3)
abbrev mir_law_rows : List M → FOut := runB 4 [0] m_law_rows
theorem fok_law_rows {fd : FuncData} (y : Y K mg) (F : FunD K "_law_rows" "_law_rows" (defArgs (top 24)) (defBody (top 24)) (defScope (top 24)) [] [] ((fun K => He.ga K "_law_rows") K) fd) : FnOk PR w K mg base (L2N.CX PR w) 4 ((fun K => He.ga K "_law_rows") K) fd ["pool"] (spM K 1 mir_law_rows) := by
  refine fn_ok (N := ["pool", "many", "rows", "place"]) (ps := ["pool"]) (k := 3) [0] F (C8.fnScope_by (by kernel_rfl)) ?_
  intro cdv A outer s H E hr
  have nd : (cxOf (L2N.CX PR w) PR w K mg base ["pool", "many", "rows", "place"] "_law_rows" (defScope (top 24)) ((fun K => He.ga K "_law_rows") K) cdv A outer s H E).N.Nodup := by show (["pool", "many", "rows", "place"] : List Str).Nodup; decide
  have tk : L2N.Takes (cxOf (L2N.CX PR w) PR w K mg base ["pool", "many", "rows", "place"] "_law_rows" (defScope (top 24)) ((fun K => He.ga K "_law_rows") K) cdv A outer s H E) (fun cls d _ H => E cls d H) := L2N.takes_of rfl rfl rfl rfl
  have ps : PassesOwn (model PR w) (cxOf (L2N.CX PR w) PR w K mg base ["pool", "many", "rows", "place"] "_law_rows" (defScope (top 24)) ((fun K => He.ga K "_law_rows") K) cdv A outer s H E).A (cxOf (L2N.CX PR w) PR w K mg base ["pool", "many", "rows", "place"] "_law_rows" (defScope (top 24)) ((fun K => He.ga K "_law_rows") K) cdv A outer s H E).env (cxOf (L2N.CX PR w) PR w K mg base ["pool", "many", "rows", "place"] "_law_rows" (defScope (top 24)) ((fun K => He.ga K "_law_rows") K) cdv A outer s H E).xe := passes_of rfl
  exact (ss_cons (st_set 1 nd (by decide) (fe_cR [1, 0] tk (ok_law_draw y) (hr.mono (by omega)) (y.glo "_law_draw" (by decide)) (y.kp_law_draw) (fa_cons (fo_var 0) (fa_cons (fo_val fe_int) fa_nil)))) (ss_cons (st_if (ft_ck (k_eq hr) (fo_val (fe_cR [1, 0] tk (ok_law_draw y) (hr.mono (by omega)) (y.glo "_law_draw" (by decide)) (y.kp_law_draw) (fa_cons (fo_var 0) (fa_cons (fo_val fe_int) fa_nil)))) (fo_val fe_int)) (ss_one (st_set 1 nd (by decide) (fe_add (fo_val fe_int) (fo_val (fe_cR [1, 0] tk (ok_law_draw y) (hr.mono (by omega)) (y.glo "_law_draw" (by decide)) (y.kp_law_draw) (fa_cons (fo_var 0) (fa_cons (fo_val fe_int) fa_nil))))))) ss_nil) (ss_cons (st_setLc 2 [("place", 3)] (by decide) rfl nd (fi_range1 (y.free "range" (by decide)) (fa_cons (fo_var 1) fa_nil)) (blkOk_by (by kernel_rfl)) (fun _ _ _ _ _ => (fg_name 3 nd)) (by decide) (fun _ _ _ _ _ => fts_nil) (fun _ _ _ _ _ => (fe_cR [1] takesW (ok_law_row y) (hr.mono (by omega)) (y.glo "_law_row" (by decide)) (y.kp_law_row) (fa_cons (fo_var 0) fa_nil)))) (ss_cons (st_if (FW.ft (fw_and (ft_ck k_gt (fo_var 1) (fo_val fe_int)) (fw_and1 (ft_ck (k_eq hr) (fo_val (fe_cR [1, 0] tk (ok_law_draw y) (hr.mono (by omega)) (y.glo "_law_draw" (by decide)) (y.kp_law_draw) (fa_cons (fo_var 0) (fa_cons (fo_val fe_int) fa_nil)))) (fo_val fe_int))))) (ss_cons (st_set 3 nd (by decide) (fe_cR [1, 0] tk (ok_law_draw y) (hr.mono (by omega)) (y.glo "_law_draw" (by decide)) (y.kp_law_draw) (fa_cons (fo_var 0) (fa_cons (fo_var 1) fa_nil)))) (ss_one (st_store 2 (fe_cR [1, 0] tk (ok_law_bent y) (hr.mono (by omega)) (y.glo "_law_bent" (by decide)) (y.kp_law_bent) (fa_cons (fo_var 0) (fa_cons (fo_val (fe_item (fo_var 2) (fo_var 3))) fa_nil))) (fo_var 3)))) ss_nil) (ss_one (st_retV 2))))))
theorem bnd_law_rows {fd : FuncData} (F : FunD K "_law_rows" "_law_rows" (defArgs (top 24)) (defBody (top 24)) (defScope (top 24)) [] [] ((fun K => He.ga K "_law_rows") K) fd) : Binds K fd ["pool"] [] := (F.bindsN fun _ _ _ _ _ _ us hl => match us, hl with | [_], _ => rfl)
theorem ok_law_rows (y : Y K mg) : FnM PR w K mg base 4 ((fun K => He.ga K "_law_rows") K) 1 mir_law_rows := by
  obtain ⟨fd, F⟩ := y.says.def_ (d := df_law_rows) 27
  exact fnR_of (fok_law_rows y F) (bnd_law_rows F)
-- law: 0:script 1:pool 2:rows 3:handed 4:prices 5:row 6:costs 7:many 8:due 9:place 10:cost
def le_law_0 : En → Out M := (eOp gList (aCons (oVar 5) aNil))
def le_law_1 : En → Out M := (eOp gTuple (aCons (oVar 5) aNil))
def lb_law_0 : En → SOut := (sDrop (eMth 5 gApp (aCons (oV (eC (.int 7))) aNil)))
def le_law_2 : En → Out M := (eCall [1, 0] (mir_law_draw) (aCons (oVar 1) (aCons (oV (eC (.int 9))) aNil)))
def le_law_3 : En → Out M := (eDisp .ol (aCons (oVar 10) aNil))
def sq_law_0 : En → SOut := (sRet (eCall [1, 0, 0] (mir_law_changed_right) (aCons (oVar 1) (aCons (oVar 4) (aCons (oVar 2) aNil)))))
def sq_law_1 : En → SOut := (sSeq (sIf (tOr' (tNot' (tVal (eCall [0, 0] (mir_law_is) (aCons (oVar 4) (aCons (oVar 2) aNil))))) (tNot' (tVal (eCall [1, 0, 0] (mir_law_costs_right) (aCons (oVar 1) (aCons (oVar 4) (aCons (oVar 2) aNil))))))) (sRet (eC (.bl false))) sNil) sq_law_0)
def sq_law_2 : En → SOut := (sSeq (sIf (tVal (eOp2 gIsNot (oVar 8) (oV (eC .non)))) (sRet (eCall [0, 0] (mir_law_same) (aCons (oVar 4) (aCons (oVar 8) aNil)))) sNil) sq_law_1)
def sq_law_3 : En → SOut := (sSeq (sSet 8 (eCall [0] (mir_law_due) (aCons (oVar 2) aNil))) sq_law_2)
def sq_law_4 : En → SOut := (sSeq (sIf (tNot' (tVal (eCall [0, 0] (mir_law_same) (aCons (oV (eCall [0, 0, 0] (mir_law_made) (aCons (oV (eC (.int 2))) (aCons (oV (eDisp .ol (aCons (oV (eC (.int 1))) (aCons (oV (eC (.int 2))) aNil)))) (aCons (oV (eOp2 gPow (oV (eC (.int 10))) (oV (eC (.int 9))))) aNil))))) (aCons (oV (eDisp (fun ds => .d (.tup ds)) (aCons (oV (eC (.str "TooLong"))) (aCons (oV (eOp2 gPow (oV (eC (.int 10))) (oV (eC (.int 9))))) (aCons (oV (eC (.bl true))) (aCons (oV (eC (.bl false))) aNil)))))) aNil))))) (sRet (eC (.bl false))) sNil) sq_law_3)
def sq_law_5 : En → SOut := (sSeq (sIf (tNot' (tVal (eCall [0, 0, 0, 0] (mir_law_made_right) (aCons (oV (eC (.int 2))) (aCons (oVar 5) (aCons (oVar 7) (aCons (oV (eOp2 gMul (oV (eDisp .ol (aCons (oVar 5) aNil))) (oVar 7))) aNil))))))) (sRet (eC (.bl false))) sNil) sq_law_4)
def sq_law_6 : En → SOut := (sSeq (sSet 7 (eCall [1, 0] (mir_law_draw) (aCons (oVar 1) (aCons (oV (eC (.int 41))) aNil)))) sq_law_5)
def sq_law_7 : En → SOut := (sSeq (sSet 5 (eCall [1, 0] (mir_law_bent) (aCons (oVar 1) (aCons (oV (eCall [1] (mir_law_row) (aCons (oVar 1) aNil))) aNil)))) sq_law_6)
def sq_law_8 : En → SOut := (sSeq (sIf (tNot' (tVal (eCall [0, 0, 0, 0] (mir_law_made_right) (aCons (oV (eC (.int 1))) (aCons (oVar 6) (aCons (oV (eC (.int 0))) (aCons (oV (eLc (iItems (eName 6)) (gSet 10) tOne le_law_3 [10])) aNil))))))) (sRet (eC (.bl false))) sNil) sq_law_7)
def sq_law_9 : En → SOut := (sSeq (sSet 6 (eLc (iRange1 (aCons (oV (eCall [1, 0] (mir_law_draw) (aCons (oVar 1) (aCons (oV (eC (.int 34))) aNil)))) aNil)) (gSet 9) tOne le_law_2 [9])) sq_law_8)
def sq_law_10 : En → SOut := (sSeq (sSet 1 (eCall [0, 0] (mir_law_pool) (aCons (oVar 0) (aCons (oV (eC (.int 1))) aNil)))) sq_law_9)
def sq_law_11 : En → SOut := (sSeq (sDrop (eAppN 3 (aCons (oV (eDisp .ol (aCons (oV (eC (.int 1))) aNil))) aNil))) sq_law_10)
def sq_law_12 : En → SOut := (sSeq (sForOn 3 5 lb_law_0) sq_law_11)
def sq_law_13 : En → SOut := (sSeq (sIf (tVal (eOp2 gEq (oV (eCall [1, 0] (mir_law_draw) (aCons (oVar 1) (aCons (oV (eC (.int 2))) aNil)))) (oV (eC (.int 1))))) (sSet 4 (eCall [0, 0, 0] (mir_law_made) (aCons (oV (eC (.int 0))) (aCons (oV (eOp gTuple (aCons (oV (eLc (iItems (eName 2)) (gSet 5) tOne le_law_1 [5])) aNil))) (aCons (oV (eC (.int 0))) aNil))))) (sSet 4 (eCall [0, 2, 0] (mir_law_made) (aCons (oV (eC (.int 0))) (aCons (oVar 3) (aCons (oV (eC (.int 0))) aNil)))))) sq_law_12)
def sq_law_14 : En → SOut := (sSeq (sSet 3 (eLcO (iItems (eName 2)) (gSet 5) tOne le_law_0 [5])) sq_law_13)
def sq_law_15 : En → SOut := (sSeq (sSet 2 (eCall [1] (mir_law_rows) (aCons (oVar 1) aNil))) sq_law_14)
def m_law : En → SOut := (sSeq (sSet 1 (eCall [0, 0] (mir_law_pool) (aCons (oVar 0) (aCons (oV (eC (.int 0))) aNil)))) sq_law_15)
abbrev mir_law : List M → FOut := runB 11 [] m_law
theorem fok_law {fd : FuncData} (y : Y K mg) (F : FunD K "law" "law" (defArgs (top 36)) (defBody (top 36)) (defScope (top 36)) [] [] ((fun K => He.ga K "law") K) fd) : FnOk PR w K mg base (L2N.CX PR w) 17 ((fun K => He.ga K "law") K) fd ["script"] (spM K 1 mir_law) := by
  refine fn_ok (N := ["script", "pool", "rows", "handed", "prices", "row", "costs", "many", "due", "place", "cost"]) (ps := ["script"]) (k := 16) [] F (C8.fnScope_by (by kernel_rfl)) ?_
  intro cdv A outer s H E hr
  have nd : (cxOf (L2N.CX PR w) PR w K mg base ["script", "pool", "rows", "handed", "prices", "row", "costs", "many", "due", "place", "cost"] "law" (defScope (top 36)) ((fun K => He.ga K "law") K) cdv A outer s H E).N.Nodup := by show (["script", "pool", "rows", "handed", "prices", "row", "costs", "many", "due", "place", "cost"] : List Str).Nodup; decide
  have tk : L2N.Takes (cxOf (L2N.CX PR w) PR w K mg base ["script", "pool", "rows", "handed", "prices", "row", "costs", "many", "due", "place", "cost"] "law" (defScope (top 36)) ((fun K => He.ga K "law") K) cdv A outer s H E) (fun cls d _ H => E cls d H) := L2N.takes_of rfl rfl rfl rfl
  have ps : PassesOwn (model PR w) (cxOf (L2N.CX PR w) PR w K mg base ["script", "pool", "rows", "handed", "prices", "row", "costs", "many", "due", "place", "cost"] "law" (defScope (top 36)) ((fun K => He.ga K "law") K) cdv A outer s H E).A (cxOf (L2N.CX PR w) PR w K mg base ["script", "pool", "rows", "handed", "prices", "row", "costs", "many", "due", "place", "cost"] "law" (defScope (top 36)) ((fun K => He.ga K "law") K) cdv A outer s H E).env (cxOf (L2N.CX PR w) PR w K mg base ["script", "pool", "rows", "handed", "prices", "row", "costs", "many", "due", "place", "cost"] "law" (defScope (top 36)) ((fun K => He.ga K "law") K) cdv A outer s H E).xe := passes_of rfl
  exact (ss_cons (st_set 1 nd (by decide) (fe_cR [0, 0] tk (ok_law_pool y) (hr.mono (by omega)) (y.glo "_law_pool" (by decide)) (y.kp_law_pool) (fa_cons (fo_var 0) (fa_cons (fo_val fe_int) fa_nil)))) (ss_cons (st_set 2 nd (by decide) (fe_cR [1] tk (ok_law_rows y) (hr.mono (by omega)) (y.glo "_law_rows" (by decide)) (y.kp_law_rows) (fa_cons (fo_var 1) fa_nil))) (ss_cons (st_setLcO 3 [("row", 5)] (by decide) rfl nd (fi_seq (fe_name 2)) (blkOk_by (by kernel_rfl)) (fun _ _ _ _ _ => (fg_name 5 nd)) (by decide) (fun _ _ _ _ _ => fts_nil) (fun _ _ _ _ _ => (fe_list (y.free "list" (by decide)) (fa_cons (fo_var 5) fa_nil)))) (ss_cons (st_if (ft_ck (k_eq hr) (fo_val (fe_cR [1, 0] tk (ok_law_draw y) (hr.mono (by omega)) (y.glo "_law_draw" (by decide)) (y.kp_law_draw) (fa_cons (fo_var 1) (fa_cons (fo_val fe_int) fa_nil)))) (fo_val fe_int)) (ss_one (st_set 4 nd (by decide) (fe_cR [0, 0, 0] tk (ok_law_made y) (hr.mono (by omega)) (y.glo "_law_made" (by decide)) (y.kp_law_made) (fa_cons (fo_val fe_int) (fa_cons (fo_val (fe_tuple (y.free "tuple" (by decide)) (fa_cons (fo_val (fe_lc [("row", 5)] rfl nd (fi_seq (fe_name 2)) (blkOk_by (by kernel_rfl)) (fun _ _ _ _ _ => (fg_name 5 nd)) (by decide) (fun _ _ _ _ _ => fts_nil) (fun _ _ _ _ _ => (fe_tuple (y.free "tuple" (by decide)) (fa_cons (fo_var 5) fa_nil))))) fa_nil))) (fa_cons (fo_val fe_int) fa_nil)))))) (ss_one (st_set 4 nd (by decide) (fe_cR [0, 2, 0] tk (ok_law_made y) (hr.mono (by omega)) (y.glo "_law_made" (by decide)) (y.kp_law_made) (fa_cons (fo_val fe_int) (fa_cons (fo_var 3) (fa_cons (fo_val fe_int) fa_nil))))))) (ss_cons (st_forOn 3 5 (by decide) (by decide) ps rfl nd (ss_one (st_expr (fe_append 5 (fa_cons (fo_val fe_int) fa_nil))))) (ss_cons (st_expr (fe_appendN 3 (fa_cons (fo_val (fe_lst (fa_cons (fo_val fe_int) fa_nil))) fa_nil))) (ss_cons (st_set 1 nd (by decide) (fe_cR [0, 0] tk (ok_law_pool y) (hr.mono (by omega)) (y.glo "_law_pool" (by decide)) (y.kp_law_pool) (fa_cons (fo_var 0) (fa_cons (fo_val fe_int) fa_nil)))) (ss_cons (st_setLc 6 [("place", 9)] (by decide) rfl nd (fi_range1 (y.free "range" (by decide)) (fa_cons (fo_val (fe_cR [1, 0] tk (ok_law_draw y) (hr.mono (by omega)) (y.glo "_law_draw" (by decide)) (y.kp_law_draw) (fa_cons (fo_var 1) (fa_cons (fo_val fe_int) fa_nil)))) fa_nil)) (blkOk_by (by kernel_rfl)) (fun _ _ _ _ _ => (fg_name 9 nd)) (by decide) (fun _ _ _ _ _ => fts_nil) (fun _ _ _ _ _ => (fe_cR [1, 0] takesW (ok_law_draw y) (hr.mono (by omega)) (y.glo "_law_draw" (by decide)) (y.kp_law_draw) (fa_cons (fo_var 1) (fa_cons (fo_val fe_int) fa_nil))))) (ss_cons (st_if (ft_not (ft_val (fe_cR [0, 0, 0, 0] tk (ok_law_made_right y) (hr.mono (by omega)) (y.glo "_law_made_right" (by decide)) (y.kp_law_made_right) (fa_cons (fo_val fe_int) (fa_cons (fo_var 6) (fa_cons (fo_val fe_int) (fa_cons (fo_val (fe_lc [("cost", 10)] rfl nd (fi_seq (fe_name 6)) (blkOk_by (by kernel_rfl)) (fun _ _ _ _ _ => (fg_name 10 nd)) (by decide) (fun _ _ _ _ _ => fts_nil) (fun _ _ _ _ _ => (fe_lst (fa_cons (fo_var 10) fa_nil))))) fa_nil))))))) (ss_one (st_ret fe_bl)) ss_nil) (ss_cons (st_set 5 nd (by decide) (fe_cR [1, 0] tk (ok_law_bent y) (hr.mono (by omega)) (y.glo "_law_bent" (by decide)) (y.kp_law_bent) (fa_cons (fo_var 1) (fa_cons (fo_val (fe_cR [1] tk (ok_law_row y) (hr.mono (by omega)) (y.glo "_law_row" (by decide)) (y.kp_law_row) (fa_cons (fo_var 1) fa_nil))) fa_nil)))) (ss_cons (st_set 7 nd (by decide) (fe_cR [1, 0] tk (ok_law_draw y) (hr.mono (by omega)) (y.glo "_law_draw" (by decide)) (y.kp_law_draw) (fa_cons (fo_var 1) (fa_cons (fo_val fe_int) fa_nil)))) (ss_cons (st_if (ft_not (ft_val (fe_cR [0, 0, 0, 0] tk (ok_law_made_right y) (hr.mono (by omega)) (y.glo "_law_made_right" (by decide)) (y.kp_law_made_right) (fa_cons (fo_val fe_int) (fa_cons (fo_var 5) (fa_cons (fo_var 7) (fa_cons (fo_val (fe_mul (fo_val (fe_lst (fa_cons (fo_var 5) fa_nil))) (fo_var 7))) fa_nil))))))) (ss_one (st_ret fe_bl)) ss_nil) (ss_cons (st_if (ft_not (ft_val (fe_cR [0, 0] tk (ok_law_same y) (hr.mono (by omega)) (y.glo "_law_same" (by decide)) (y.kp_law_same) (fa_cons (fo_val (fe_cR [0, 0, 0] tk (ok_law_made y) (hr.mono (by omega)) (y.glo "_law_made" (by decide)) (y.kp_law_made) (fa_cons (fo_val fe_int) (fa_cons (fo_val (fe_lst (fa_cons (fo_val fe_int) (fa_cons (fo_val fe_int) fa_nil)))) (fa_cons (fo_val (fe_pow (fo_val fe_int) (fo_val fe_int))) fa_nil))))) (fa_cons (fo_val (fe_tup (fa_cons (fo_val fe_str) (fa_cons (fo_val (fe_pow (fo_val fe_int) (fo_val fe_int))) (fa_cons (fo_val fe_bl) (fa_cons (fo_val fe_bl) fa_nil)))))) fa_nil))))) (ss_one (st_ret fe_bl)) ss_nil) (ss_cons (st_set 8 nd (by decide) (fe_cR [0] tk (ok_law_due y) (hr.mono (by omega)) (y.glo "_law_due" (by decide)) (y.kp_law_due) (fa_cons (fo_var 2) fa_nil))) (ss_cons (st_if (ft_ck k_isnot (fo_var 8) (fo_val fe_non)) (ss_one (st_ret (fe_cR [0, 0] tk (ok_law_same y) (hr.mono (by omega)) (y.glo "_law_same" (by decide)) (y.kp_law_same) (fa_cons (fo_var 4) (fa_cons (fo_var 8) fa_nil))))) ss_nil) (ss_cons (st_if (FW.ft (fw_or (ft_not (ft_val (fe_cR [0, 0] tk (ok_law_is y) (hr.mono (by omega)) (y.glo "_law_is" (by decide)) (y.kp_law_is) (fa_cons (fo_var 4) (fa_cons (fo_var 2) fa_nil))))) (fw_or1 (ft_not (ft_val (fe_cR [1, 0, 0] tk (ok_law_costs_right y) (hr.mono (by omega)) (y.glo "_law_costs_right" (by decide)) (y.kp_law_costs_right) (fa_cons (fo_var 1) (fa_cons (fo_var 4) (fa_cons (fo_var 2) fa_nil))))))))) (ss_one (st_ret fe_bl)) ss_nil) (ss_one (st_ret (fe_cR [1, 0, 0] tk (ok_law_changed_right y) (hr.mono (by omega)) (y.glo "_law_changed_right" (by decide)) (y.kp_law_changed_right) (fa_cons (fo_var 1) (fa_cons (fo_var 4) (fa_cons (fo_var 2) fa_nil))))))))))))))))))))))
theorem bnd_law {fd : FuncData} (F : FunD K "law" "law" (defArgs (top 36)) (defBody (top 36)) (defScope (top 36)) [] [] ((fun K => He.ga K "law") K) fd) : Binds K fd ["script"] [] := (F.bindsN fun _ _ _ _ _ _ us hl => match us, hl with | [_], _ => rfl)
theorem ok_law (y : Y K mg) : FnM PR w K mg base 17 ((fun K => He.ga K "law") K) 1 mir_law := by
  obtain ⟨fd, F⟩ := y.says.def_ (d := df_law) 28
  exact fnR_of (fok_law y F) (bnd_law F)
end
abbrev lawTop : Nat := 36
abbrev lawIdx : Nat := 28
abbrev lawLevel : Nat := 17
abbrev loose0 : List Str := ["__name__", "NightsError", "NoPerson", "BadNumber", "TooLong", "WrongLength", "PriceError", "NoPrices", "BadPrice", "LIMIT", "MOST_ROWS", "MOST_PRICES", "PriceList", "check_prices", "cost_of", "_law_pool", "_law_draw", "_law_int", "_law_same", "_law_kin", "_law_row", "_law_bent", "_law_rows", "_law_row_due", "_law_due"]
abbrev loose1 : List Str := ["_law_made", "_law_cost", "_law_price", "_law_paid", "_law_is", "_law_costs_right", "_law_other_row", "_law_changed_right", "_law_made_right"]
abbrev loose : List Str := loose0 ++ loose1
end K79
set_option maxHeartbeats 0
namespace K79
open PySem PySem.Spec PyProof.Rows L2 FLE FL FLH
abbrev R : PySem.W.OpenRow := PySem.W.OpenLaw.row PySem.Challenge.rw_restnights_k79_price_lists_hold
abbrev hk : PySem.W.Hook := hookF 7 bs fn
def ob (s : PySem.W.SharedT) : AlF := obsFG 7 bs fn (HandSHeadRun.getT s)
theorem ob_eq (s : PySem.W.SharedT) : ob s = hk.obs s.abs := obsFG_eq (HandSHeadRun.getT_eq s)
theorem run (w : World) : HandSHeadRun.RunEq R (PySem.W.view R.prog [lawTop]) hk ob 12000 loose w := by
  intro os
  kernel_rfl
end K79
namespace K79
open PySem PySem.Spec PyProof.Rows L2 FLE FL FLH
theorem spec {K : PySem.W.Frag} (hlaw : ∀ ns : List Int, ns.length ≤ 63 → (∀ z ∈ ns, Builtin.Int.intBits z ≤ 1048576) → ∃ outs, mir_law [.d (.rl ns)] = .rt (.d (.bl true)) outs) (H : Hp) (a : Addr) (ns : List Int) (hl : ns.length ≤ 63) (hb : ∀ z ∈ ns, Builtin.Int.intBits z ≤ 1048576) (hS : SqL K H a (ns.map V.int)) :
    spM K 1 mir_law [.ref a] H (fun v _ => v = .bl true) (fun _ _ _ => False) := by
  obtain ⟨outs, e⟩ := hlaw ns hl hb
  refine ⟨rfl, [.d (.rl ns)], H, fun _ => [], ⟨Le.refl _, rfl, fun i m hi => ?_, fun _ _ => rfl, fun _ => List.nodup_nil, fun _ _ _ h => (by cases h), fun _ _ h => (by cases h)⟩, ?_⟩
  · match i with
    | 0 =>
      cases hi
      exact ⟨_, rfl, rfl, a, rfl, hS⟩
    | i + 1 => cases hi
  · rw [e]
    intro v F' H' ψ' s _ _ r _ _
    exact r.2
theorem facts {w : World} {K : PySem.W.Frag} {h : Heap} {mg : Str → Option Value} {f : Addr} (X : K.In h) (G : h.Ns mainGlobals mg) (hfa : mg ("law" : Str) = some (.ref f)) (c : SaysF bs fn K) :
    ∃ fd : FuncData, (∀ (s : Shared) (v : Value), BindsTo s fd ⟨[v], []⟩ [("script", v)]) ∧ ∀ base : Heap, K.In base → base.Ns mainGlobals mg → FnOk PR w K mg base (L2N.CX PR w) lawLevel f fd ["script"] (spM K 1 mir_law) := by
  have y : Y K mg := ⟨c, h, X, G⟩
  obtain ⟨fd, F⟩ := y.says.def_ (d := df_law) lawIdx
  have e := hfa.symm.trans (y.glo "law" (by decide))
  cases e
  have b := FunD.bindsA (ps := ["script"]) F fun _ _ _ _ _ _ us hl => match us, hl with | [_], _ => rfl
  exact ⟨fd, fun s v => b s [v] rfl, fun base _ _ => fok_law y F⟩
theorem holds_of (hlaw : ∀ ns : List Int, ns.length ≤ 63 → (∀ z ∈ ns, Builtin.Int.intBits z ≤ 1048576) → ∃ outs, mir_law [.d (.rl ns)] = .rt (.d (.bl true)) outs) : PySem.Challenge.rw_restnights_k79_price_lists_hold.Holds := by
  w_on; o_law
  refine HandSHeadRun.head_any (r := R) (q := PySem.W.view R.prog [lawTop]) (H := hk) (ob := ob) (M := 12000) (loose := loose) (d := HandSHeadRun.topDef R.prog lawTop) (kwd := []) ob_eq
    (by kernel_rfl) (fun s => by kernel_rfl) run (by kernel_rfl) (by kernel_rfl) (by kernel_rfl) (by rfl) (by first | assumption | decide +kernel) (by decide +kernel) ⟨rfl, rfl, rfl, rfl, rfl, by decide +kernel⟩ ?hw ?hc
  case hw => w_witness2
  case hc =>
    refine LamX.walk_ofTsE (l := PySem.Challenge.rw_restnights_k79_price_lists_hold) (n := 63) (k := lawLevel) (x := "script") (CX := fun w => L2N.CX PR w) rfl (by decide) (by kernel_rfl) ⟨rfl, by decide, by decide⟩ ?F ?C
    case F =>
      intro w mg fa h Y G hmg0
      obtain ⟨K, KX, c⟩ := Y
      have hmg : mg ("law" : PySem.Str) = some (.ref fa) := by
        have e : (HandSHeadRun.topDef R.prog lawTop).name = ("law" : PySem.Str) := by kernel_rfl
        rw [← e]
        exact hmg0
      obtain ⟨fd, hb, hF⟩ := facts (w := w) KX G hmg c
      exact ⟨K, KX, fd, [], spM K 1 mir_law, fun _ z => (by cases z), fun _ z => (by cases z), fun _ z => (by cases z), hb, fun H a ns hl hbits _ hS => spec hlaw H a ns hl hbits hS, fun base h1 h2 _ => hF base h1 h2⟩
    case C =>
      intro w H s e s' z
      obtain ⟨_, _, _, _, _, _, _, _, _, _, _, _, z⟩ := z
      exact z
end K79
set_option maxHeartbeats 4000000
namespace K79
open PySem FL
/-- a pool of draws: the number that is left, or the mixing state and the count -/
def poolM (a b c : Int) : M := .ol [.int a, .int b, .int c]
structure Pool (n : Nat) (p : M) : Prop where
  ex : ∃ a b c : Int, p = poolM a b c ∧ 0 ≤ b ∧ b < 2147483648 ∧ 0 ≤ c ∧ c ≤ n
theorem draw_ok {n : Nat} {p : M} (hp : Pool n p) (hn : n < 1000000) {k : Int} (hk : 0 < k) (hk2 : dvOk k) : ∃ (v : Int) (p' : M), Pool (n + 1) p' ∧ 0 ≤ v ∧ v < k ∧ mir_law_draw [p, .d (.int k)] = .rt (.d (.int v)) [p', .d (.int k)] := by
  obtain ⟨a, b, c, rfl, hb, hb2, hc, hc2⟩ := hp
  by_cases h : 0 ≤ a
  · refine ⟨a % k, poolM (a / k) b c, ⟨_, _, _, rfl, hb, hb2, hc, by omega⟩, Int.emod_nonneg _ (by omega), Int.emod_lt_of_pos _ hk, ?_⟩
    unfold mir_law_draw
    rw [runB_ev]
    unfold poolM
    simp [sq_law_draw_0, sq_law_draw_1, sq_law_draw_2, sq_law_draw_3, sq_law_draw_4, sq_law_draw_5, m_law_draw, h, hk, hk2]
  · unfold mir_law_draw
    rw [runB_ev]
    unfold m_law_draw poolM
    have e1 : sm b := sm64 (by omega)
    have e2 : sm (c + 1) := sm64 (by omega)
    have e3 : sm 3571 := sm64 (by omega)
    have e4 : sm ((b * b + (c + 1) * 3571 + 40692) % 2147483399) := sm64 (by omega)
    simp [sq_law_draw_0, sq_law_draw_1, sq_law_draw_2, sq_law_draw_3, sq_law_draw_4, sq_law_draw_5, m_law_draw, h, hk, hk2, e1, e2, e3, e4]
    refine ⟨_, poolM a _ (c + 1), ⟨_, _, _, rfl, ?_, ?_, ?_, ?_⟩, ?_, ?_, rfl, rfl⟩
    · omega
    · omega
    · omega
    · omega
    · exact Int.emod_nonneg _ (by omega)
    · exact Int.emod_lt_of_pos _ hk
theorem pool_ok (ns : List Int) {i : Nat} (hi : i < 2) (hl : ns.length ≤ 63) : ∃ p, Pool 10 p ∧ mir_law_pool [.d (.rl ns), .d (.int i)] = .rt p [.d (.rl ns), .d (.int i)] := by
  unfold mir_law_pool
  rw [runB_ev]
  by_cases h : i < ns.length
  · have h1 : (i : Int) < (ns.length : Int) := by omega
    have h2 : L2.atI (ns.map D.int) (i : Int) = some (D.int (ns[i])) := by
      rw [atI_nat (by omega) (by simpa using h1)]
      simp [h]
    simp [h1, h2]
    by_cases h3 : ns[i] < 0
    · by_cases h4 : 1000000000000000000 ≤ -ns[i]
      · simp [sq_law_pool_0, sq_law_pool_1, sq_law_pool_2, m_law_pool, h1, h2, h3, h4]
        exact Pool.mk ⟨_, _, _, rfl, by omega, by omega, by omega, by omega⟩
      · simp [sq_law_pool_0, sq_law_pool_1, sq_law_pool_2, m_law_pool, h1, h2, h3, h4]
        exact Pool.mk ⟨_, _, _, rfl, by omega, by omega, by omega, by omega⟩
    · by_cases h4 : 1000000000000000000 ≤ ns[i]
      · simp [sq_law_pool_0, sq_law_pool_1, sq_law_pool_2, m_law_pool, h1, h2, h3, h4]
        exact Pool.mk ⟨_, _, _, rfl, by omega, by omega, by omega, by omega⟩
      · simp [sq_law_pool_0, sq_law_pool_1, sq_law_pool_2, m_law_pool, h1, h2, h3, h4]
        exact Pool.mk ⟨_, _, _, rfl, by omega, by omega, by omega, by omega⟩
  · have h1 : ¬ (i : Int) < (ns.length : Int) := by omega
    simp [sq_law_pool_0, sq_law_pool_1, sq_law_pool_2, m_law_pool, h1]
    exact Pool.mk ⟨_, _, _, rfl, by omega, by omega, by omega, by omega⟩
theorem Pool.le {n k : Nat} {p : M} (h : Pool n p) (l : n ≤ k) : Pool k p := by
  obtain ⟨a, b, c, e, h1, h2, h3, h4⟩ := h
  exact ⟨a, b, c, e, h1, h2, h3, by omega⟩
def I (xs : List Int) : List D := xs.map D.int
@[simp] theorem I_len (xs : List Int) : (I xs).length = xs.length := List.length_map _
@[simp] theorem I_nil : I [] = [] := rfl
@[simp] theorem I_cons (x : Int) (xs : List Int) : I (x :: xs) = .int x :: I xs := rfl
@[simp] theorem I_append (xs ys : List Int) : I (xs ++ ys) = I xs ++ I ys := List.map_append
@[simp] theorem I_get (xs : List Int) (k : Nat) : (I xs)[k]? = xs[k]?.map D.int := List.getElem?_map
@[simp] theorem I_getE (xs : List Int) (k : Nat) (h : k < (I xs).length) : (I xs)[k] = D.int (xs[k]'(by rw [I_len] at h; exact h)) := List.getElem_map _
theorem I_set (xs : List Int) (k : Nat) (v : Int) : (I xs).set k (.int v) = I (xs.set k v) := List.map_set.symm
@[simp] theorem I_rl (xs : List Int) : xs.map D.int = I xs := rfl
theorem rangeD_eq (lo : Int) (n : Nat) : rangeD lo n = I ((List.range n).map fun (i : Nat) => lo + (i : Int)) := by
  unfold rangeD I
  rw [List.map_map]
  rfl
theorem row_loop {many top : Int} (ht : 0 < top) (ht2 : dvOk top) : ∀ (l xs : List Int) (n : Nat) (p : M) (price : Int) (o : Option M), Pool n p → n + l.length < 1000000 → xs.length + l.length < 1000 →
    ∃ xs' p' price' o', Pool (n + l.length) p' ∧ xs'.length = xs.length + l.length ∧
      loopF (gSet 5) lb_law_row_0 (I l) [some p, some (.d (.int many)), some (.d (.int top)), some (.ol (I xs)), some (.d (.int price)), o] = .nx [some p', some (.d (.int many)), some (.d (.int top)), some (.ol (I xs')), some (.d (.int price')), o']
  | [], xs, n, p, price, o, hp, hn, hx => ⟨xs, p, price, o, hp, rfl, rfl⟩
  | i :: l, xs, n, p, price, o, hp, hn, hx => by
    simp only [List.length_cons] at hn hx
    obtain ⟨v, p1, hp1, _, _, e⟩ := draw_ok hp (by omega) ht ht2
    have hx2 : (I xs).length < lim := by
      rw [I_len]
      unfold lim
      omega
    obtain ⟨xs', p', price', o', h1, h2, h3⟩ := row_loop ht ht2 l (xs ++ [if price + v < 1000000000000000000000000000000 then price + v else 1000000000000000000000000000000]) (n + 1) p1 (if price + v < 1000000000000000000000000000000 then price + v else 1000000000000000000000000000000) (some (.d (.int i))) hp1 (by omega) (by simp; omega)
    refine ⟨xs', p', price', o', h1.le (by simp only [List.length_cons]; omega), by rw [h2]; simp; omega, ?_⟩
    have eb : lb_law_row_0 [some p, some (.d (.int many)), some (.d (.int top)), some (.ol (I xs)), some (.d (.int price)), some (.d (.int i))] = .nx [some p1, some (.d (.int many)), some (.d (.int top)), some (.ol (I (xs ++ [if price + v < 1000000000000000000000000000000 then price + v else 1000000000000000000000000000000]))), some (.d (.int (if price + v < 1000000000000000000000000000000 then price + v else 1000000000000000000000000000000))), some (.d (.int i))] := by
      unfold lb_law_row_0 sq_law_row_0
      simp [e] at hx2 ⊢
      simp [hx2]
    exact (loopF_step rfl eb).trans h3
theorem row_tail {n : Nat} {p : M} (hp : Pool n p) (hn : n < 900000) {many : Int} (h0 : 0 ≤ many) (h1 : many ≤ 64) (q : M) :
    ∃ xs p', Pool (n + 80) p' ∧ xs.length ≤ 64 ∧ fin [0] [q] (sq_law_row_6 [some p, some (.d (.int many)), none, none, none, none]) = .rt (.ol (I xs)) [p'] := by
  obtain ⟨v, p1, hp1, v0, v1, e⟩ := draw_ok hp (by omega) (k := 3) (by omega) (by simp)
  have top : ∃ top : Int, 0 < top ∧ dvOk top ∧ L2.atI [D.int 4, D.int 4, D.int 10000000000000000000000000000] v = some (D.int top) := by
    have : v = 0 ∨ v = 1 ∨ v = 2 := by omega
    rcases this with rfl | rfl | rfl
    · exact ⟨4, by omega, by simp, by simp⟩
    · exact ⟨4, by omega, by simp, by simp⟩
    · exact ⟨10000000000000000000000000000, by omega, by simp, by simp⟩
  obtain ⟨top, t0, t1, et⟩ := top
  obtain ⟨xs, p2, price, o, hp2, hl, el⟩ := row_loop (many := many) t0 t1 ((List.range many.toNat).map fun (i : Nat) => 0 + (i : Int)) [] (n + 1) p1 0 none hp1 (by simp; omega) (by simp; omega)
  rw [← rangeD_eq] at el
  simp at hl el
  have hr : rOk many := by
    unfold rOk
    omega
  obtain ⟨v2, p3, hp3, _, _, e3⟩ := draw_ok hp2 (by simp; omega) (k := 8) (by omega) (by simp)
  simp [sq_law_row_6, sq_law_row_5, sq_law_row_4, sq_law_row_3, e, et, hr, el]
  unfold sq_law_row_2 sq_law_row_1
  have hq : (List.map (fun (i : Nat) => 0 + (i : Int)) (List.range many.toNat)).length = many.toNat := by simp
  rw [hq] at hp2 hp3
  by_cases h2 : 0 < many
  · by_cases h3 : v2 = 7
    · have hs : setI (I xs) (-1) (.int 1000000000000000000000000000000) = some (I (xs.set (xs.length - 1) 1000000000000000000000000000000)) := by
        rw [setI_neg (by omega) (by rw [I_len]; omega)]
        rw [I_len, show ((-1 : Int) + (xs.length : Int)).toNat = xs.length - 1 from by omega]
        show some ((xs.map D.int).set _ _) = some ((xs.set _ _).map D.int)
        rw [List.map_set]
      simp [e3, h2, h3, hs]
      exact ⟨xs.set (xs.length - 1) 1000000000000000000000000000000, ⟨p3, hp3.le (by omega), by rw [List.length_set]; omega, by simp [I_set], rfl⟩⟩
    · simp [e3, h2, h3]
      exact ⟨xs, p3, hp3.le (by omega), by omega, rfl, rfl⟩
  · simp [h2]
    exact ⟨xs, p2, hp2.le (by omega), by omega, rfl, rfl⟩
theorem row_ok {n : Nat} {p : M} (hp : Pool n p) (hn : n < 800000) : ∃ xs p', Pool (n + 100) p' ∧ xs.length ≤ 64 ∧ mir_law_row [p] = .rt (.ol (I xs)) [p'] := by
  unfold mir_law_row
  rw [runB_ev]
  obtain ⟨v1, p1, hp1, a1, b1, e1⟩ := draw_ok hp (by omega) (k := 5) (by omega) (by simp)
  obtain ⟨v2, p2, hp2, a2, b2, e2⟩ := draw_ok hp1 (by omega) (k := 8) (by omega) (by simp)
  have key : ∀ (m : Nat) (q : M) (many : Int), Pool m q → m ≤ n + 3 → 0 ≤ many → many ≤ 64 → ∃ xs p', Pool (n + 100) p' ∧ xs.length ≤ 64 ∧ fin [0] [p] (sq_law_row_7 [some q, some (.d (.int many)), none, none, none, none]) = .rt (.ol (I xs)) [p'] := by
    intro m q many hq hm h0 h1
    obtain ⟨v3, p3, hp3, a3, b3, e3⟩ := draw_ok hq (by omega) (k := 16) (by omega) (by simp)
    by_cases h : v3 = 15
    · obtain ⟨xs, p', h2, h3, h4⟩ := row_tail hp3 (by omega) (many := 0) (by omega) (by omega) p
      refine ⟨xs, p', h2.le (by omega), h3, ?_⟩
      rw [← h4]
      unfold sq_law_row_7
      simp [e3, h]
    · obtain ⟨xs, p', h2, h3, h4⟩ := row_tail hp3 (by omega) h0 h1 p
      refine ⟨xs, p', h2.le (by omega), h3, ?_⟩
      rw [← h4]
      unfold sq_law_row_7
      simp [e3, h]
  by_cases h : v2 = 7
  · obtain ⟨v3, p3, hp3, a3, b3, e3⟩ := draw_ok hp2 (by omega) (k := 9) (by omega) (by simp)
    obtain ⟨xs, p', h2, h3, h4⟩ := key (n + 3) p3 (55 + v3) hp3 (by omega) (by omega) (by omega)
    refine ⟨xs, p', h2, h3, ?_⟩
    rw [← h4]
    unfold m_law_row sq_law_row_8
    simp [e1, e2, h, e3]
  · obtain ⟨xs, p', h2, h3, h4⟩ := key (n + 2) p2 (1 + v1) hp2 (by omega) (by omega) (by omega)
    refine ⟨xs, p', h2, h3, ?_⟩
    rw [← h4]
    unfold m_law_row sq_law_row_8
    simp [e1, e2, h]
/-! ### what is wrong with a row -/
inductive PErr where
  | noPrices (p : Int) | tooLong (c : Int) | badPrice (p n x : Int)
def PErr.cls : PErr → Str
  | .noPrices _ => "NoPrices"
  | .tooLong _ => "TooLong"
  | .badPrice _ _ _ => "BadPrice"
def PErr.fs : PErr → List (Str × D)
  | .noPrices p => [("person", .int p)]
  | .tooLong c => [("count", .int c)]
  | .badPrice p n x => [("price", .int x), ("night", .int n), ("person", .int p)]
def PErr.tup : PErr → D
  | .noPrices p => .tup [.str "NoPrices", .int p, .bl true, .bl true]
  | .tooLong c => .tup [.str "TooLong", .int c, .bl true, .bl false]
  | .badPrice p n x => .tup [.str "BadPrice", .int p, .int n, .int x, .bl true, .bl true]
abbrev LIM : Int := 1000000000000000000000000000000
def badAt (least : Int) (k : Nat) : List Int → Option (Nat × Int)
  | [] => none
  | x :: xs => if least ≤ x ∧ x ≤ LIM then badAt x (k + 1) xs else some (k, x)
def rowErr (p : Int) (xs : List Int) : Option PErr :=
  if xs.length = 0 then some (.noPrices p) else if 60 < xs.length then some (.tooLong xs.length) else (badAt 0 0 xs).map fun q => .badPrice p ((q.1 : Int) + 1) q.2
/-- a row, a list or a tuple -/
def RD (b : Bool) (xs : List Int) : D := if b then .tup (I xs) else .lst (I xs)
@[simp] theorem RD_seq (b : Bool) (xs : List Int) : (RD b xs).seq? = some (I xs) := by cases b <;> rfl
@[simp] theorem RD_seqM (b : Bool) (xs : List Int) : (M.d (RD b xs)).seq? = some (I xs) := by cases b <;> rfl
@[simp] theorem RD_len (b : Bool) (xs : List Int) : (M.d (RD b xs)).len? = some xs.length := by
  cases b <;> simp [RD]
@[simp] theorem RD_tup (b : Bool) (xs : List Int) : gTuple [.d (RD b xs)] = some (.d (.tup (I xs))) := by cases b <;> rfl
@[simp] theorem RD_ix (b : Bool) (xs : List Int) (k : Int) : gIx (.d (RD b xs)) (.d (.int k)) = (L2.atI (I xs) k).map M.d := by cases b <;> rfl
theorem cp_loop {p : Int} {R : M} (hR : ∃ d, R = .d d) : ∀ (xs : List Int) (k : Nat) (least : Int) (o1 o2 : Option M),
    (∀ q, badAt least k xs = some q → ∃ ε', loopF (gTupS 2 (gsCons (gSet 3) (gsCons (gSet 4) gsNil))) lb_check_prices_0 (((I xs).zipIdx k).map fun q => D.tup [.int (q.2 : Int), q.1]) [some (.d (.int p)), some R, some (.d (.int least)), o1, o2] = .ex "BadPrice" (PErr.badPrice p ((q.1 : Int) + 1) q.2).fs (some (.d (.int p)) :: some R :: ε')) ∧
    (badAt least k xs = none → ∃ ε', loopF (gTupS 2 (gsCons (gSet 3) (gsCons (gSet 4) gsNil))) lb_check_prices_0 (((I xs).zipIdx k).map fun q => D.tup [.int (q.2 : Int), q.1]) [some (.d (.int p)), some R, some (.d (.int least)), o1, o2] = .nx (some (.d (.int p)) :: some R :: ε'))
  | [], k, least, o1, o2 => ⟨fun q h => (by cases h), fun _ => ⟨_, rfl⟩⟩
  | x :: xs, k, least, o1, o2 => by
    by_cases h : least ≤ x ∧ x ≤ LIM
    · have eb : lb_check_prices_0 [some (.d (.int p)), some R, some (.d (.int least)), some (.d (.int (k : Int))), some (.d (.int x))] = .nx [some (.d (.int p)), some R, some (.d (.int x)), some (.d (.int (k : Int))), some (.d (.int x))] := by
        unfold lb_check_prices_0 sq_check_prices_0
        simp [h.1, h.2]
      have e0 : badAt least k (x :: xs) = badAt x (k + 1) xs := by
        rw [badAt, if_pos h]
      obtain ⟨r1, r2⟩ := cp_loop hR xs (k + 1) x (some (.d (.int (k : Int)))) (some (.d (.int x)))
      rw [e0]
      refine ⟨fun q hq => ?_, fun hq => ?_⟩
      · obtain ⟨ε', e⟩ := r1 q hq
        exact ⟨ε', (loopF_step rfl eb).trans e⟩
      · obtain ⟨ε', e⟩ := r2 hq
        exact ⟨ε', (loopF_step rfl eb).trans e⟩
    · have e0 : badAt least k (x :: xs) = some (k, x) := by
        rw [badAt, if_neg h]
      rw [e0]
      refine ⟨fun q hq => ?_, fun hq => by cases hq⟩
      cases hq
      have eb : lb_check_prices_0 [some (.d (.int p)), some R, some (.d (.int least)), some (.d (.int (k : Int))), some (.d (.int x))] = .ex "BadPrice" (PErr.badPrice p ((k : Int) + 1) x).fs [some (.d (.int p)), some R, some (.d (.int least)), some (.d (.int (k : Int))), some (.d (.int x))] := by
        unfold lb_check_prices_0 sq_check_prices_0
        by_cases h1 : least ≤ x
        · have h2 : ¬ x ≤ LIM := fun z => h ⟨h1, z⟩
          simp [h1, h2, PErr.fs]
        · simp [h1, PErr.fs]
      exact ⟨_, loopF_ex rfl eb⟩
theorem cp_ok (p : Int) (b : Bool) (xs : List Int) : mir_check_prices [.d (.int p), .d (RD b xs)] = match rowErr p xs with
    | none => .rt (.d .non) [.d (.int p), .d (RD b xs)]
    | some e => .ex e.cls e.fs [.d (.int p), .d (RD b xs)] := by
  unfold mir_check_prices
  rw [runB_ev]
  unfold rowErr
  by_cases h : xs.length = 0
  · simp [sq_check_prices_0, sq_check_prices_1, sq_check_prices_2, sq_check_prices_3, m_check_prices, h, PErr.cls, PErr.fs]
  · have h' : ¬ (xs.length : Int) = 0 := by omega
    by_cases h2 : 60 < xs.length
    · have h2' : (60 : Int) < (xs.length : Int) := by omega
      simp [sq_check_prices_0, sq_check_prices_1, sq_check_prices_2, sq_check_prices_3, m_check_prices, h, h2, h', h2', PErr.cls, PErr.fs]
    · have h2' : ¬ (60 : Int) < (xs.length : Int) := by omega
      obtain ⟨r1, r2⟩ := cp_loop (p := p) (R := .d (RD b xs)) ⟨_, rfl⟩ xs 0 0 none none
      cases q : badAt 0 0 xs with
      | none =>
        obtain ⟨ε', e⟩ := r2 q
        simp [sq_check_prices_0, sq_check_prices_1, sq_check_prices_2, sq_check_prices_3, m_check_prices, h, h2, h', h2', enumD, e]
      | some q1 =>
        obtain ⟨ε', e⟩ := r1 q1 q
        simp [sq_check_prices_0, sq_check_prices_1, sq_check_prices_2, sq_check_prices_3, m_check_prices, h, h2, h', h2', PErr.cls, PErr.fs, enumD, e]
theorem rangeD_0 (lo : Int) : rangeD lo 0 = [] := rfl
theorem rangeD_succ (lo : Int) (n : Nat) : rangeD lo (n + 1) = .int lo :: rangeD (lo + 1) n := by
  unfold rangeD
  rw [List.range_succ_eq_map, List.map_cons, List.map_map]
  congr 1
  · simp
  · apply List.map_congr_left
    intro i _
    show D.int (lo + ((i + 1 : Nat) : Int)) = _
    rw [show lo + ((i + 1 : Nat) : Int) = lo + 1 + (i : Int) from by omega]
theorem rd_loop {p : Int} {b : Bool} {all : List Int} : ∀ (xs : List Int) (k : Nat) (least : Int) (o : Option M), (∀ i : Nat, i < xs.length → all[k + i]? = xs[i]?) → (k = 0 → least = 0) → (0 < k → all[k - 1]? = some least) → 0 ≤ least → k + xs.length = all.length →
    (∀ q, badAt least k xs = some q → ∃ ε', loopF (gSet 2) lb_law_row_due_0 (rangeD (k : Int) xs.length) [some (.d (.int p)), some (.d (RD b all)), o] = .rt (.d (PErr.badPrice p ((q.1 : Int) + 1) q.2).tup) (some (.d (.int p)) :: some (.d (RD b all)) :: ε')) ∧
    (badAt least k xs = none → ∃ ε', loopF (gSet 2) lb_law_row_due_0 (rangeD (k : Int) xs.length) [some (.d (.int p)), some (.d (RD b all)), o] = .nx (some (.d (.int p)) :: some (.d (RD b all)) :: ε'))
  | [], k, least, o, _, _, _, _, _ => ⟨fun q h => (by cases h), fun _ => ⟨_, rfl⟩⟩
  | x :: xs, k, least, o, hx, h0, h1, hl, hk => by
    simp only [List.length_cons] at hk
    have ek : all[k]? = some x := by
      have := hx 0 (by simp)
      simpa using this
    have ax : L2.atI (I all) (k : Int) = some (D.int x) := by
      rw [atI_nat (by omega) (by rw [I_len]; omega)]
      simp [ek]
    rw [List.length_cons, rangeD_succ]
    have eb : lb_law_row_due_0 [some (.d (.int p)), some (.d (RD b all)), some (.d (.int (k : Int)))] = if least ≤ x ∧ x ≤ LIM then .nx [some (.d (.int p)), some (.d (RD b all)), some (.d (.int (k : Int)))] else .rt (.d (PErr.badPrice p ((k : Int) + 1) x).tup) [some (.d (.int p)), some (.d (RD b all)), some (.d (.int (k : Int)))] := by
      unfold lb_law_row_due_0
      by_cases hk0 : k = 0
      · have := h0 hk0
        subst this
        have hkz : ¬ 0 < k := by omega
        by_cases g1 : 0 ≤ x
        · by_cases g2 : x ≤ LIM
          · simp [ax, g1, g2, hkz]
          · simp [ax, g1, g2, hkz, PErr.tup]
        · simp [ax, g1, hkz, PErr.tup]
      · have hk1 : 0 < k := by omega
        have a1 : L2.atI (I all) ((k : Int) - 1) = some (D.int least) := by
          rw [atI_nat (by omega) (by rw [I_len]; omega)]
          rw [show ((k : Int) - 1).toNat = k - 1 from by omega]
          simp [h1 hk1]
        by_cases g0 : least ≤ x
        · have g1 : 0 ≤ x := by omega
          have g3 : ¬ x < least := by omega
          by_cases g2 : x ≤ LIM
          · simp [ax, a1, g0, g1, g2, g3, hk1]
          · simp [ax, a1, g0, g1, g2, g3, hk1, PErr.tup]
        · have g3 : x < least := by omega
          by_cases g1 : 0 ≤ x
          · by_cases g2 : x ≤ LIM
            · simp [ax, a1, g0, g1, g2, g3, hk1, PErr.tup]
            · simp [ax, a1, g0, g1, g2, g3, hk1, PErr.tup]
          · simp [ax, a1, g0, g1, g3, hk1, PErr.tup]
    by_cases h : least ≤ x ∧ x ≤ LIM
    · rw [if_pos h] at eb
      have e0 : badAt least k (x :: xs) = badAt x (k + 1) xs := by
        rw [badAt, if_pos h]
      obtain ⟨r1, r2⟩ := rd_loop (b := b) (all := all) (p := p) xs (k + 1) x (some (.d (.int (k : Int)))) (fun i hi => by
        have := hx (i + 1) (by simp; omega)
        rw [show k + 1 + i = k + (i + 1) from by omega, this]
        rfl) (by omega) (fun _ => by simpa using ek) (by omega) (by omega)
      rw [e0]
      refine ⟨fun q hq => ?_, fun hq => ?_⟩
      · obtain ⟨ε', e⟩ := r1 q hq
        exact ⟨ε', (loopF_step rfl eb).trans e⟩
      · obtain ⟨ε', e⟩ := r2 hq
        exact ⟨ε', (loopF_step rfl eb).trans e⟩
    · rw [if_neg h] at eb
      have e0 : badAt least k (x :: xs) = some (k, x) := by
        rw [badAt, if_neg h]
      rw [e0]
      refine ⟨fun q hq => ?_, fun hq => by cases hq⟩
      cases hq
      exact ⟨_, loopF_rt rfl eb⟩
def errD : Option PErr → D
  | none => .non
  | some e => e.tup
theorem rd_ok (p : Int) (b : Bool) (xs : List Int) (hl : xs.length ≤ 1000) : mir_law_row_due [.d (.int p), .d (RD b xs)] = .rt (.d (errD (rowErr p xs))) [.d (.int p), .d (RD b xs)] := by
  unfold mir_law_row_due
  rw [runB_ev]
  unfold rowErr
  by_cases h : xs.length = 0
  · simp [sq_law_row_due_0, sq_law_row_due_1, sq_law_row_due_2, m_law_row_due, h, errD, PErr.tup]
  · have h' : ¬ (xs.length : Int) = 0 := by omega
    by_cases h2 : 60 < xs.length
    · have h2' : (60 : Int) < (xs.length : Int) := by omega
      simp [sq_law_row_due_0, sq_law_row_due_1, sq_law_row_due_2, m_law_row_due, h, h2, h', h2', errD, PErr.tup]
    · have h2' : ¬ (60 : Int) < (xs.length : Int) := by omega
      have hr : rOk (xs.length : Int) := rOk_lit (by omega) (by omega)
      obtain ⟨r1, r2⟩ := rd_loop (p := p) (b := b) (all := xs) xs 0 0 none (fun i _ => by rw [Nat.zero_add]) (fun _ => rfl) (fun h => by omega) (by omega) (by omega)
      cases q : badAt 0 0 xs with
      | none =>
        obtain ⟨ε', e⟩ := r2 q
        rw [show ((0 : Nat) : Int) = 0 from rfl] at e
        simp [sq_law_row_due_0, sq_law_row_due_1, sq_law_row_due_2, m_law_row_due, h, h2, h', h2', hr, e, errD]
      | some q1 =>
        obtain ⟨ε', e⟩ := r1 q1 q
        rw [show ((0 : Nat) : Int) = 0 from rfl] at e
        simp [sq_law_row_due_0, sq_law_row_due_1, sq_law_row_due_2, m_law_row_due, h, h2, h', h2', hr, e, errD]
/-! ### price lists -/
abbrev Rw := List (Bool × List Int)
def RL (qs : Rw) : List D := qs.map fun q => RD q.1 q.2
@[simp] theorem RL_len (qs : Rw) : (RL qs).length = qs.length := by simp [RL]
def RS (c : Bool) (qs : Rw) : D := if c then .tup (RL qs) else .lst (RL qs)
@[simp] theorem RS_seq (b : Bool) (xs : Rw) : (RS b xs).seq? = some (RL xs) := by cases b <;> rfl
@[simp] theorem RS_len (b : Bool) (xs : Rw) : (M.d (RS b xs)).len? = some xs.length := by
  cases b <;> simp [RS, RL]
def rowsErr (k : Int) : Rw → Option PErr
  | [] => none
  | q :: qs => match rowErr k q.2 with
    | some e => some e
    | none => rowsErr (k + 1) qs
def initErr (qs : Rw) : Option PErr := if 30 < qs.length then some (.tooLong qs.length) else rowsErr 0 qs
abbrev rowsT (qs : Rw) : D := .tup (qs.map fun q => .tup (I q.2))
theorem in_loop {c : Bool} {all : Rw} {s : M} : ∀ (qs : Rw) (k : Nat) (o1 o2 : Option M),
    (∀ e, rowsErr (k : Int) qs = some e → ∃ ε', loopF (gTupS 2 (gsCons (gSet 2) (gsCons (gSet 3) gsNil))) lb_PriceList___init___0 (((RL qs).zipIdx k).map fun q => D.tup [.int (q.2 : Int), q.1]) [some s, some (.d (RS c all)), o1, o2] = .ex e.cls e.fs (some s :: some (.d (RS c all)) :: ε')) ∧
    (rowsErr (k : Int) qs = none → ∃ o1' o2', loopF (gTupS 2 (gsCons (gSet 2) (gsCons (gSet 3) gsNil))) lb_PriceList___init___0 (((RL qs).zipIdx k).map fun q => D.tup [.int (q.2 : Int), q.1]) [some s, some (.d (RS c all)), o1, o2] = .nx [some s, some (.d (RS c all)), o1', o2'])
  | [], k, o1, o2 => ⟨fun q h => (by cases h), fun _ => ⟨_, _, rfl⟩⟩
  | (b, xs) :: qs, k, o1, o2 => by
    have ec := cp_ok (k : Int) b xs
    cases q : rowErr (k : Int) xs with
    | none =>
      rw [q] at ec
      have e0 : rowsErr (k : Int) ((b, xs) :: qs) = rowsErr ((k + 1 : Nat) : Int) qs := by
        rw [rowsErr, q]
        rfl
      have eb : lb_PriceList___init___0 [some s, some (.d (RS c all)), some (.d (.int (k : Int))), some (.d (RD b xs))] = .nx [some s, some (.d (RS c all)), some (.d (.int (k : Int))), some (.d (RD b xs))] := by
        unfold lb_PriceList___init___0
        simp [ec]
      obtain ⟨r1, r2⟩ := in_loop (c := c) (all := all) (s := s) qs (k + 1) (some (.d (.int (k : Int)))) (some (.d (RD b xs)))
      rw [e0]
      refine ⟨fun e he => ?_, fun he => ?_⟩
      · obtain ⟨ε', e2⟩ := r1 e he
        exact ⟨ε', (loopF_step rfl eb).trans e2⟩
      · obtain ⟨o1', o2', e2⟩ := r2 he
        exact ⟨o1', o2', (loopF_step rfl eb).trans e2⟩
    | some e =>
      rw [q] at ec
      have e0 : rowsErr (k : Int) ((b, xs) :: qs) = some e := by
        rw [rowsErr, q]
      have eb : lb_PriceList___init___0 [some s, some (.d (RS c all)), some (.d (.int (k : Int))), some (.d (RD b xs))] = .ex e.cls e.fs [some s, some (.d (RS c all)), some (.d (.int (k : Int))), some (.d (RD b xs))] := by
        unfold lb_PriceList___init___0
        simp [ec]
      rw [e0]
      refine ⟨fun e he => ?_, fun he => by cases he⟩
      cases he
      exact ⟨_, loopF_ex rfl eb⟩
theorem in_lc {s : M} {R : M} {o : Option M} : ∀ (qs : Rw), lcL (gSet 3) tOne le_PriceList___init___0 fzD [3] (RL qs) [some s, some R, o, none] = some (qs.map fun q => .d (.tup (I q.2)), [some s, some R, o, none])
  | [] => rfl
  | (b, xs) :: qs => by
    have e : le_PriceList___init___0 [some s, some R, o, some (.d (RD b xs))] = .ok (.d (.tup (I xs))) [some s, some R, o, some (.d (RD b xs))] := by
      unfold le_PriceList___init___0
      simp
    exact lcL_step rfl rfl e (in_lc qs)
theorem ftab_rows : ftHas ftab "PriceList" "rows" = true := by decide +kernel
theorem init_ok (c : Bool) (qs : Rw) : mir_PriceList___init__ [.oo "PriceList" [], .d (RS c qs)] = match initErr qs with
    | none => .rt (.d .non) [.oo "PriceList" [("rows", .d (rowsT qs))], .d (RS c qs)]
    | some e => .ex e.cls e.fs [.oo "PriceList" [], .d (RS c qs)] := by
  unfold mir_PriceList___init__
  rw [runB_ev]
  unfold initErr
  by_cases h : 30 < qs.length
  · have h' : (30 : Int) < (qs.length : Int) := by omega
    simp [sq_PriceList___init___0, sq_PriceList___init___1, m_PriceList___init__, h, h', PErr.cls, PErr.fs]
  · have h' : ¬ (30 : Int) < (qs.length : Int) := by omega
    obtain ⟨r1, r2⟩ := in_loop (c := c) (all := qs) (s := .oo "PriceList" []) qs 0 none none
    cases q : rowsErr 0 qs with
    | none =>
      obtain ⟨o1, o2, e⟩ := r2 q
      have el := in_lc (s := .oo "PriceList" []) (R := .d (RS c qs)) (o := o1) qs
      have hl : qs.length ≤ lim := lim_lit (by omega)
      simp [sq_PriceList___init___0, sq_PriceList___init___1, m_PriceList___init__, h, h', enumD, e, el, hl, ftab_rows, putM]
    | some e1 =>
      obtain ⟨ε', e⟩ := r1 e1 q
      simp [sq_PriceList___init___0, sq_PriceList___init___1, m_PriceList___init__, h, h', enumD, e]
abbrev PLm (qs : Rw) : M := .oo "PriceList" [("rows", .d (rowsT qs))]
def madeR (qs : Rw) : M := match initErr qs with
  | none => PLm qs
  | some e => .d e.tup
def makeR (qs : Rw) (ε : En) : Out M := match initErr qs with
  | none => .ok (PLm qs) ε
  | some e => .ex e.cls e.fs ε
theorem make_ok (ε : En) (c : Bool) (qs : Rw) : kK ε (mir_PriceList___init__ [.oo "PriceList" [], .d (RS c qs)]) = makeR qs ε := by
  rw [init_ok]
  unfold makeR
  cases initErr qs <;> rfl
theorem RS_lst (qs : Rw) : D.lst (RL qs) = RS false qs := rfl
theorem made_hs (e : PErr) (a b c : M) : hTry xtab xcs hs_law_made_0 e.cls e.fs [some a, some b, some c, none] = .rt (.d e.tup) [some a, some b, some c, none] := by
  cases e <;> kernel_rfl
theorem made0 (c : Bool) (qs : Rw) (m : Int) : mir_law_made [.d (.int 0), .d (RS c qs), .d (.int m)] = .rt (madeR qs) [.d (.int 0), .d (RS c qs), .d (.int m)] := by
  unfold mir_law_made
  rw [runB_ev]
  simp [tb_law_made_0, m_law_made, make_ok]
  unfold makeR madeR
  cases initErr qs with
  | none => simp
  | some e => simp [made_hs]
theorem fl_lc {s : M} {R : M} : ∀ (cs : List Int), ∃ ms, lcL (gSet 2) tOne le_PriceList_flat_0 fzD [2] (I cs) [some s, some R, none] = some (ms, [some s, some R, none]) ∧ ms.map M.toD = RL (cs.map fun c => (false, [c]))
  | [] => ⟨[], rfl, rfl⟩
  | x :: cs => by
    have e : le_PriceList_flat_0 [some s, some R, some (.d (.int x))] = .ok (.ol [.int x]) [some s, some R, some (.d (.int x))] := by
      unfold le_PriceList_flat_0
      simp
    obtain ⟨ms, h1, h2⟩ := fl_lc (s := s) (R := R) cs
    refine ⟨_, lcL_step rfl rfl e h1, ?_⟩
    rw [List.map_cons, h2]
    rfl
theorem flat_ok (b : Bool) (cs : List Int) (hl : cs.length ≤ 1000) : mir_PriceList_flat [.d (.cl "PriceList"), .d (RD b cs)] = fin [] [.d (.cl "PriceList"), .d (RD b cs)] ((makeR (cs.map fun c => (false, [c])) [some (.d (.cl "PriceList")), some (.d (RD b cs)), none]).toS fun m ε' => .rt m ε') := by
  unfold mir_PriceList_flat
  rw [runB_ev]
  obtain ⟨ms, el, hm⟩ := fl_lc (s := .d (.cl "PriceList")) (R := .d (RD b cs)) cs
  have h : cs.length ≤ lim := lim_lit (by omega)
  unfold m_PriceList_flat
  simp [el, h, hm, RS_lst, make_ok]
theorem made1 (b : Bool) (cs : List Int) (hl : cs.length ≤ 1000) (m : Int) : mir_law_made [.d (.int 1), .d (RD b cs), .d (.int m)] = .rt (madeR (cs.map fun c => (false, [c]))) [.d (.int 1), .d (RD b cs), .d (.int m)] := by
  unfold mir_law_made
  rw [runB_ev]
  have e := flat_ok b cs hl
  unfold makeR at e
  unfold madeR
  cases q : initErr (cs.map fun c => (false, [c])) with
  | none =>
    rw [q] at e
    simp at e
    simp [tb_law_made_0, m_law_made, e]
  | some er =>
    rw [q] at e
    simp at e
    simp [tb_law_made_0, m_law_made, e, made_hs]
theorem al_lc {s : M} {R : M} {b : Bool} {xs : List Int} : ∀ (l : List D), ∃ ms, lcL (gSet 3) tOne le_PriceList_alike_0 fzD [3] l [some s, some R, some (.d (RD b xs)), none] = some (ms, [some s, some R, some (.d (RD b xs)), none]) ∧ ms.map M.toD = RL (List.replicate l.length (b, xs))
  | [] => ⟨[], rfl, rfl⟩
  | x :: l => by
    have e : le_PriceList_alike_0 [some s, some R, some (.d (RD b xs)), some (.d x)] = .ok (.d (RD b xs)) [some s, some R, some (.d (RD b xs)), some (.d x)] := by
      unfold le_PriceList_alike_0
      simp
    obtain ⟨ms, h1, h2⟩ := al_lc (s := s) (R := R) (b := b) (xs := xs) l
    refine ⟨_, lcL_step rfl rfl e h1, ?_⟩
    rw [List.map_cons, h2]
    rfl
theorem alike_ok (n : Int) (h0 : 0 ≤ n) (h1 : n ≤ 30) (b : Bool) (xs : List Int) : mir_PriceList_alike [.d (.cl "PriceList"), .d (.int n), .d (RD b xs)] = fin [] [.d (.cl "PriceList"), .d (.int n), .d (RD b xs)] ((makeR (List.replicate n.toNat (b, xs)) [some (.d (.cl "PriceList")), some (.d (.int n)), some (.d (RD b xs)), none]).toS fun m ε' => .rt m ε') := by
  unfold mir_PriceList_alike
  rw [runB_ev]
  obtain ⟨ms, el, hm⟩ := al_lc (s := .d (.cl "PriceList")) (R := .d (.int n)) (b := b) (xs := xs) (rangeD 0 n.toNat)
  have hln : (rangeD 0 n.toNat).length = n.toNat := by
    unfold rangeD
    simp
  rw [hln] at hm
  have h : (rangeD 0 n.toNat).length ≤ lim := lim_lit (by omega)
  have hr : rOk n := rOk_lit (by omega) (by omega)
  have h3 : ¬ 30 < n := by omega
  simp [sq_PriceList_alike_0, m_PriceList_alike, el, h, hm, hr, h3, RS_lst, make_ok]
theorem made2 (n : Int) (h0 : 0 ≤ n) (b : Bool) (xs : List Int) : mir_law_made [.d (.int 2), .d (RD b xs), .d (.int n)] = .rt (if 30 < n then .d (PErr.tooLong n).tup else madeR (List.replicate n.toNat (b, xs))) [.d (.int 2), .d (RD b xs), .d (.int n)] := by
  unfold mir_law_made
  rw [runB_ev]
  by_cases h : 30 < n
  · have e : mir_PriceList_alike [.d (.cl "PriceList"), .d (.int n), .d (RD b xs)] = .ex (PErr.tooLong n).cls (PErr.tooLong n).fs [.d (.cl "PriceList"), .d (.int n), .d (RD b xs)] := by
      unfold mir_PriceList_alike
      rw [runB_ev]
      simp [sq_PriceList_alike_0, m_PriceList_alike, h, PErr.cls, PErr.fs]
    simp [tb_law_made_0, m_law_made, e, made_hs, h]
  · have e := alike_ok n h0 (by omega) b xs
    rw [if_neg h]
    unfold makeR at e
    unfold madeR
    cases q : initErr (List.replicate n.toNat (b, xs)) with
    | none =>
      rw [q] at e
      simp at e
      simp [tb_law_made_0, m_law_made, e]
    | some er =>
      rw [q] at e
      simp at e
      simp [tb_law_made_0, m_law_made, e, made_hs]
/-! ### the same -/
@[simp] theorem isi_non_int  : gIsi owns itab [.d (.non), .d (.ty "int")] = some (.d (.bl false)) := by kernel_rfl
@[simp] theorem isi_non_str  : gIsi owns itab [.d (.non), .d (.ty "str")] = some (.d (.bl false)) := by kernel_rfl
@[simp] theorem isi_non_tuple  : gIsi owns itab [.d (.non), .d (.ty "tuple")] = some (.d (.bl false)) := by kernel_rfl
@[simp] theorem isi_non_list  : gIsi owns itab [.d (.non), .d (.ty "list")] = some (.d (.bl false)) := by kernel_rfl
@[simp] theorem isi_non_bool  : gIsi owns itab [.d (.non), .d (.ty "bool")] = some (.d (.bl false)) := by kernel_rfl
@[simp] theorem isi_non_PL  : gIsi owns itab [.d (.non), .d (.cl "PriceList")] = some (.d (.bl false)) := by kernel_rfl
@[simp] theorem isi_bl_int (b : Bool) : gIsi owns itab [.d (.bl b), .d (.ty "int")] = some (.d (.bl true)) := by kernel_rfl
@[simp] theorem isi_bl_str (b : Bool) : gIsi owns itab [.d (.bl b), .d (.ty "str")] = some (.d (.bl false)) := by kernel_rfl
@[simp] theorem isi_bl_tuple (b : Bool) : gIsi owns itab [.d (.bl b), .d (.ty "tuple")] = some (.d (.bl false)) := by kernel_rfl
@[simp] theorem isi_bl_list (b : Bool) : gIsi owns itab [.d (.bl b), .d (.ty "list")] = some (.d (.bl false)) := by kernel_rfl
@[simp] theorem isi_bl_bool (b : Bool) : gIsi owns itab [.d (.bl b), .d (.ty "bool")] = some (.d (.bl true)) := by kernel_rfl
@[simp] theorem isi_bl_PL (b : Bool) : gIsi owns itab [.d (.bl b), .d (.cl "PriceList")] = some (.d (.bl false)) := by kernel_rfl
@[simp] theorem isi_int_int (i : Int) : gIsi owns itab [.d (.int i), .d (.ty "int")] = some (.d (.bl true)) := by kernel_rfl
@[simp] theorem isi_int_str (i : Int) : gIsi owns itab [.d (.int i), .d (.ty "str")] = some (.d (.bl false)) := by kernel_rfl
@[simp] theorem isi_int_tuple (i : Int) : gIsi owns itab [.d (.int i), .d (.ty "tuple")] = some (.d (.bl false)) := by kernel_rfl
@[simp] theorem isi_int_list (i : Int) : gIsi owns itab [.d (.int i), .d (.ty "list")] = some (.d (.bl false)) := by kernel_rfl
@[simp] theorem isi_int_bool (i : Int) : gIsi owns itab [.d (.int i), .d (.ty "bool")] = some (.d (.bl false)) := by kernel_rfl
@[simp] theorem isi_int_PL (i : Int) : gIsi owns itab [.d (.int i), .d (.cl "PriceList")] = some (.d (.bl false)) := by kernel_rfl
@[simp] theorem isi_str_int (s : Str) : gIsi owns itab [.d (.str s), .d (.ty "int")] = some (.d (.bl false)) := by kernel_rfl
@[simp] theorem isi_str_str (s : Str) : gIsi owns itab [.d (.str s), .d (.ty "str")] = some (.d (.bl true)) := by kernel_rfl
@[simp] theorem isi_str_tuple (s : Str) : gIsi owns itab [.d (.str s), .d (.ty "tuple")] = some (.d (.bl false)) := by kernel_rfl
@[simp] theorem isi_str_list (s : Str) : gIsi owns itab [.d (.str s), .d (.ty "list")] = some (.d (.bl false)) := by kernel_rfl
@[simp] theorem isi_str_bool (s : Str) : gIsi owns itab [.d (.str s), .d (.ty "bool")] = some (.d (.bl false)) := by kernel_rfl
@[simp] theorem isi_str_PL (s : Str) : gIsi owns itab [.d (.str s), .d (.cl "PriceList")] = some (.d (.bl false)) := by kernel_rfl
@[simp] theorem isi_lst_int (xs : List D) : gIsi owns itab [.d (.lst xs), .d (.ty "int")] = some (.d (.bl false)) := by kernel_rfl
@[simp] theorem isi_lst_str (xs : List D) : gIsi owns itab [.d (.lst xs), .d (.ty "str")] = some (.d (.bl false)) := by kernel_rfl
@[simp] theorem isi_lst_tuple (xs : List D) : gIsi owns itab [.d (.lst xs), .d (.ty "tuple")] = some (.d (.bl false)) := by kernel_rfl
@[simp] theorem isi_lst_list (xs : List D) : gIsi owns itab [.d (.lst xs), .d (.ty "list")] = some (.d (.bl true)) := by kernel_rfl
@[simp] theorem isi_lst_bool (xs : List D) : gIsi owns itab [.d (.lst xs), .d (.ty "bool")] = some (.d (.bl false)) := by kernel_rfl
@[simp] theorem isi_lst_PL (xs : List D) : gIsi owns itab [.d (.lst xs), .d (.cl "PriceList")] = some (.d (.bl false)) := by kernel_rfl
@[simp] theorem isi_tup_int (xs : List D) : gIsi owns itab [.d (.tup xs), .d (.ty "int")] = some (.d (.bl false)) := by kernel_rfl
@[simp] theorem isi_tup_str (xs : List D) : gIsi owns itab [.d (.tup xs), .d (.ty "str")] = some (.d (.bl false)) := by kernel_rfl
@[simp] theorem isi_tup_tuple (xs : List D) : gIsi owns itab [.d (.tup xs), .d (.ty "tuple")] = some (.d (.bl true)) := by kernel_rfl
@[simp] theorem isi_tup_list (xs : List D) : gIsi owns itab [.d (.tup xs), .d (.ty "list")] = some (.d (.bl false)) := by kernel_rfl
@[simp] theorem isi_tup_bool (xs : List D) : gIsi owns itab [.d (.tup xs), .d (.ty "bool")] = some (.d (.bl false)) := by kernel_rfl
@[simp] theorem isi_tup_PL (xs : List D) : gIsi owns itab [.d (.tup xs), .d (.cl "PriceList")] = some (.d (.bl false)) := by kernel_rfl
@[simp] theorem isi_own_int (fs : List (Str × D)) : gIsi owns itab [.d (.obj "PriceList" fs), .d (.ty "int")] = some (.d (.bl false)) := by kernel_rfl
@[simp] theorem isi_own_str (fs : List (Str × D)) : gIsi owns itab [.d (.obj "PriceList" fs), .d (.ty "str")] = some (.d (.bl false)) := by kernel_rfl
@[simp] theorem isi_own_tuple (fs : List (Str × D)) : gIsi owns itab [.d (.obj "PriceList" fs), .d (.ty "tuple")] = some (.d (.bl false)) := by kernel_rfl
@[simp] theorem isi_own_list (fs : List (Str × D)) : gIsi owns itab [.d (.obj "PriceList" fs), .d (.ty "list")] = some (.d (.bl false)) := by kernel_rfl
@[simp] theorem isi_own_bool (fs : List (Str × D)) : gIsi owns itab [.d (.obj "PriceList" fs), .d (.ty "bool")] = some (.d (.bl false)) := by kernel_rfl
@[simp] theorem isi_own_PL (fs : List (Str × D)) : gIsi owns itab [.d (.obj "PriceList" fs), .d (.cl "PriceList")] = some (.d (.bl true)) := by kernel_rfl
@[simp] theorem int_ok (i : Int) : mir_law_int [.d (.int i)] = .rt (.d (.bl true)) [.d (.int i)] := by
  unfold mir_law_int
  rw [runB_ev]
  simp [m_law_int]
def okS : Nat → D → Prop
  | 0, _ => False
  | n + 1, d => match d with
    | .non => True
    | .bl _ => True
    | .int _ => True
    | .str _ => True
    | .lst xs => xs.length ≤ 1000000 ∧ ∀ x ∈ xs, okS n x
    | .tup xs => xs.length ≤ 1000000 ∧ ∀ x ∈ xs, okS n x
    | _ => False
theorem same_loop {n : Nat} {R : D} {xs : List D} (hR : R = .lst xs ∨ R = .tup xs) (hx : ∀ x ∈ xs, mir_law_same' n [.d x, .d x] = .rt (.d (.bl true)) [.d x, .d x]) : ∀ (m k : Nat) (o : Option M), k + m = xs.length → ∃ o', loopF (gSet 2) (lb_law_same_0 (mir_law_same' n)) (rangeD (k : Int) m) [some (.d R), some (.d R), o] = .nx [some (.d R), some (.d R), o']
  | 0, k, o, _ => ⟨o, rfl⟩
  | m + 1, k, o, h => by
    have hk : k < xs.length := by omega
    have e := hx xs[k] (List.getElem_mem hk)
    have a : gIx (.d R) (.d (.int (k : Int))) = some (.d xs[k]) := by
      have : L2.atI xs (k : Int) = some xs[k] := by
        rw [atI_nat (by omega) (by omega)]
        simp [hk]
      rcases hR with rfl | rfl <;> simp [this]
    have eb : lb_law_same_0 (mir_law_same' n) [some (.d R), some (.d R), some (.d (.int (k : Int)))] = .nx [some (.d R), some (.d R), some (.d (.int (k : Int)))] := by
      unfold lb_law_same_0
      simp [a, e]
    obtain ⟨o', e2⟩ := same_loop hR hx m (k + 1) (some (.d (.int (k : Int)))) (by omega)
    refine ⟨o', ?_⟩
    rw [rangeD_succ]
    exact (loopF_step rfl eb).trans e2
theorem same_refl : ∀ (n : Nat) (d : D), okS n d → mir_law_same' n [.d d, .d d] = .rt (.d (.bl true)) [.d d, .d d]
  | 0, _, h => h.elim
  | n + 1, d, h => by
    show runB _ _ _ _ = _
    rw [runB_ev]
    cases d with
    | non => simp [sq_law_same_0, sq_law_same_1, sq_law_same_2, sq_law_same_3, sq_law_same_4, sq_law_same_5, sq_law_same_6, m_law_same]
    | bl b => cases b <;> simp [sq_law_same_0, sq_law_same_1, sq_law_same_2, sq_law_same_3, sq_law_same_4, sq_law_same_5, sq_law_same_6, m_law_same, M.isN]
    | int i => simp [sq_law_same_0, sq_law_same_1, sq_law_same_2, sq_law_same_3, sq_law_same_4, sq_law_same_5, sq_law_same_6, m_law_same, M.isN, M.isB]
    | str s => simp [sq_law_same_0, sq_law_same_1, sq_law_same_2, sq_law_same_3, sq_law_same_4, sq_law_same_5, sq_law_same_6, m_law_same, M.isN, M.isB]
    | lst xs =>
      obtain ⟨h1, h2⟩ := h
      obtain ⟨o', e⟩ := same_loop (R := .lst xs) (.inl rfl) (fun x hx => same_refl n x (h2 x hx)) xs.length 0 none (by omega)
      have hr : rOk (xs.length : Int) := rOk_lit (by omega) (by omega)
      rw [show ((0 : Nat) : Int) = 0 from rfl] at e
      simp [sq_law_same_0, sq_law_same_1, sq_law_same_2, sq_law_same_3, sq_law_same_4, sq_law_same_5, sq_law_same_6, m_law_same, M.isN, M.isB, hr, e]
    | tup xs =>
      obtain ⟨h1, h2⟩ := h
      obtain ⟨o', e⟩ := same_loop (R := .tup xs) (.inr rfl) (fun x hx => same_refl n x (h2 x hx)) xs.length 0 none (by omega)
      have hr : rOk (xs.length : Int) := rOk_lit (by omega) (by omega)
      rw [show ((0 : Nat) : Int) = 0 from rfl] at e
      simp [sq_law_same_0, sq_law_same_1, sq_law_same_2, sq_law_same_3, sq_law_same_4, sq_law_same_5, sq_law_same_6, m_law_same, M.isN, M.isB, hr, e]
    | _ => exact h.elim
theorem due_loop {c : Bool} {all : Rw} (hs : ∀ q ∈ all, q.2.length ≤ 1000) : ∀ (qs : Rw) (k : Nat) (o1 o2 : Option M), (∀ i : Nat, i < qs.length → all[k + i]? = qs[i]?) → k + qs.length = all.length →
    (∀ e, rowsErr (k : Int) qs = some e → ∃ ε', loopF (gSet 1) lb_law_due_0 (rangeD (k : Int) qs.length) [some (.d (RS c all)), o1, o2] = .rt (.d e.tup) (some (.d (RS c all)) :: ε')) ∧
    (rowsErr (k : Int) qs = none → ∃ ε', loopF (gSet 1) lb_law_due_0 (rangeD (k : Int) qs.length) [some (.d (RS c all)), o1, o2] = .nx (some (.d (RS c all)) :: ε'))
  | [], k, o1, o2, _, _ => ⟨fun q h => (by cases h), fun _ => ⟨_, rfl⟩⟩
  | (b, xs) :: qs, k, o1, o2, hx, hk => by
    simp only [List.length_cons] at hk
    have ek : all[k]? = some (b, xs) := by
      have := hx 0 (by simp)
      simpa using this
    have hm : (b, xs) ∈ all := List.mem_of_getElem? ek
    have ax : L2.atI (RL all) (k : Int) = some (RD b xs) := by
      rw [atI_nat (by omega) (by rw [RL_len]; omega)]
      simp [RL, ek]
    have ag : gIx (.d (RS c all)) (.d (.int (k : Int))) = some (.d (RD b xs)) := by
      cases c <;> simp [RS, ax]
    have er := rd_ok (k : Int) b xs (hs _ hm)
    rw [List.length_cons, rangeD_succ]
    cases q : rowErr (k : Int) xs with
    | none =>
      rw [q] at er
      have e0 : rowsErr (k : Int) ((b, xs) :: qs) = rowsErr ((k + 1 : Nat) : Int) qs := by
        rw [rowsErr, q]
        rfl
      have eb : lb_law_due_0 [some (.d (RS c all)), some (.d (.int (k : Int))), o2] = .nx [some (.d (RS c all)), some (.d (.int (k : Int))), some (.d .non)] := by
        unfold lb_law_due_0
        simp [sq_law_due_0, sq_law_due_1, sq_law_due_2, m_law_due, ag, er, errD]
      obtain ⟨r1, r2⟩ := due_loop (c := c) hs qs (k + 1) (some (.d (.int (k : Int)))) (some (.d .non)) (fun i hi => by
        have := hx (i + 1) (by simp; omega)
        rw [show k + 1 + i = k + (i + 1) from by omega, this]
        rfl) (by omega)
      rw [e0]
      refine ⟨fun e he => ?_, fun he => ?_⟩
      · obtain ⟨ε', e2⟩ := r1 e he
        exact ⟨ε', (loopF_step rfl eb).trans e2⟩
      · obtain ⟨ε', e2⟩ := r2 he
        exact ⟨ε', (loopF_step rfl eb).trans e2⟩
    | some e =>
      rw [q] at er
      have e0 : rowsErr (k : Int) ((b, xs) :: qs) = some e := by
        rw [rowsErr, q]
      have hn : (M.d e.tup).isN = false := by cases e <;> rfl
      have eb : lb_law_due_0 [some (.d (RS c all)), some (.d (.int (k : Int))), o2] = .rt (.d e.tup) [some (.d (RS c all)), some (.d (.int (k : Int))), none] := by
        unfold lb_law_due_0
        simp [sq_law_due_0, sq_law_due_1, sq_law_due_2, m_law_due, ag, er, errD, hn]
      rw [e0]
      refine ⟨fun e he => ?_, fun he => by cases he⟩
      cases he
      exact ⟨_, loopF_rt rfl eb⟩
theorem due_ok (c : Bool) (qs : Rw) (hl : qs.length ≤ 1000) (hs : ∀ q ∈ qs, q.2.length ≤ 1000) : mir_law_due [.d (RS c qs)] = .rt (.d (errD (initErr qs))) [.d (RS c qs)] := by
  unfold mir_law_due
  rw [runB_ev]
  unfold initErr
  by_cases h2 : 30 < qs.length
  · have h2' : (30 : Int) < (qs.length : Int) := by omega
    simp [sq_law_due_0, sq_law_due_1, sq_law_due_2, m_law_due, h2, h2', errD, PErr.tup]
  · have h2' : ¬ (30 : Int) < (qs.length : Int) := by omega
    have hr : rOk (qs.length : Int) := rOk_lit (by omega) (by omega)
    obtain ⟨r1, r2⟩ := due_loop (c := c) hs qs 0 none none (fun i _ => by rw [Nat.zero_add]) (by omega)
    rw [show ((0 : Nat) : Int) = 0 from rfl] at r1 r2
    cases q : rowsErr 0 qs with
    | none =>
      obtain ⟨ε', e⟩ := r2 q
      simp [sq_law_due_0, sq_law_due_1, sq_law_due_2, m_law_due, h2, h2', hr, e, errD]
    | some q1 =>
      obtain ⟨ε', e⟩ := r1 q1 q
      simp [sq_law_due_0, sq_law_due_1, sq_law_due_2, m_law_due, h2, h2', hr, e, errD]
abbrev PLd (qs : Rw) : D := .obj "PriceList" [("rows", rowsT qs)]
theorem plen_ok (qs : Rw) : mir_PriceList___len__ [.d (PLd qs)] = .rt (.d (.int qs.length)) [.d (PLd qs)] := by
  unfold mir_PriceList___len__
  rw [runB_ev]
  simp [m_PriceList___len__, ftab_rows]
theorem is_lc {s R : M} : ∀ (qs : Rw), ∃ ms, lcL (gSet 2) tOne le_law_is_0 fzD [2] (RL qs) [some s, some R, none] = some (ms, [some s, some R, none]) ∧ ms.map M.toD = qs.map fun q => .tup (I q.2)
  | [] => ⟨[], rfl, rfl⟩
  | (b, xs) :: qs => by
    have e : le_law_is_0 [some s, some R, some (.d (RD b xs))] = .ok (.d (.tup (I xs))) [some s, some R, some (.d (RD b xs))] := by
      unfold le_law_is_0
      simp
    obtain ⟨ms, h1, h2⟩ := is_lc (s := s) (R := R) qs
    refine ⟨_, lcL_step rfl rfl e h1, ?_⟩
    rw [List.map_cons, h2]
    rfl
theorem rowsT_ok {n : Nat} (qs : Rw) (hl : qs.length ≤ 1000) (hs : ∀ q ∈ qs, q.2.length ≤ 1000) : okS (n + 3) (rowsT qs) := by
  refine ⟨by simp; omega, fun x hx => ?_⟩
  obtain ⟨q, hq, rfl⟩ := List.mem_map.mp hx
  refine ⟨by have := hs q hq; simp; omega, fun y hy => ?_⟩
  obtain ⟨z, _, rfl⟩ := List.mem_map.mp hy
  trivial
theorem is_ok (c : Bool) (qs rs : Rw) (hq : qs.map (·.2) = rs.map (·.2)) (hl : qs.length ≤ 1000) (hs : ∀ q ∈ qs, q.2.length ≤ 1000) : mir_law_is [.d (PLd qs), .d (RS c rs)] = .rt (.d (.bl true)) [.d (PLd qs), .d (RS c rs)] := by
  have el : qs.length = rs.length := by
    have := congrArg List.length hq
    simpa using this
  have et : (rs.map fun q => D.tup (I q.2)) = qs.map fun q => D.tup (I q.2) := by
    have := congrArg (List.map fun xs => D.tup (I xs)) hq
    rw [List.map_map, List.map_map] at this
    exact this.symm
  unfold mir_law_is
  rw [runB_ev]
  obtain ⟨ms, e1, e2⟩ := is_lc (s := .d (PLd qs)) (R := .d (RS c rs)) rs
  rw [et] at e2
  have hr : rOk (qs.length : Int) := rOk_lit (by omega) (by omega)
  have h3 : qs.length ≤ lim := lim_lit (by omega)
  have e3 : mir_law_same' 12 [.d (.lst [rowsT qs, .int qs.length]), .d (.lst [rowsT qs, .int qs.length])] = .rt (.d (.bl true)) [.d (.lst [rowsT qs, .int qs.length]), .d (.lst [rowsT qs, .int qs.length])] := by
    refine same_refl 12 _ ⟨by simp, fun x hx => ?_⟩
    rcases List.mem_cons.mp hx with rfl | hx
    · exact rowsT_ok qs hl hs
    · rcases List.mem_cons.mp hx with rfl | hx
      · trivial
      · cases hx
  have e4 := plen_ok qs
  have n1 : ¬ (Str.ofString "" = Str.ofString "rows") := by decide +kernel
  simp [sq_law_is_0, m_law_is, ftab_rows, e1, e2, e3, e4, hr, h3, n1, ← el]
/-! ### costs -/
def lastI (xs : List Int) : Int := xs[xs.length - 1]?.getD 0
def over (xs : List Int) (n : Int) : Int := if (xs.length : Int) < n then n - (xs.length : Int) else 0
def costV (xs : List Int) (n : Int) : Int := (xs.take (if (xs.length : Int) < n then (xs.length : Int) else n).toNat).sum + over xs n * lastI xs
theorem last_at {xs : List Int} (h : 0 < xs.length) : L2.atI (I xs) (-1) = some (D.int (lastI xs)) := by
  rw [atI_neg (by omega) (by rw [I_len]; omega), I_len, show ((-1 : Int) + (xs.length : Int)).toNat = xs.length - 1 from by omega]
  unfold lastI
  rw [I_get, List.getElem?_eq_getElem (by omega)]
  rfl
theorem cut_tup (xs : List Int) {k : Int} (h0 : 0 ≤ k) (h1 : k ≤ xs.length) : gSl (.d (.tup (I xs))) none (some k) = some (.d (.tup (I (xs.take k.toNat)))) := by
  show some (M.d (.tup (cutD (I xs) none (some k)))) = _
  unfold cutD
  rw [HT.sIx_none, show HT.sIx (I xs).length (I xs).length (some k) = k.toNat from ?_]
  · show some (M.d (.tup (((I xs).drop 0).take (k.toNat - 0)))) = _
    rw [List.drop_zero, Nat.sub_zero]
    unfold I
    rw [List.map_take]
  · obtain ⟨j, rfl⟩ := Int.eq_ofNat_of_zero_le h0
    rw [HT.sIx_nat, I_len]
    omega
theorem sum_tup (xs : List Int) : gSum [.d (.tup (I xs))] = some (.d (.int xs.sum)) := by
  show ((M.d (.tup (I xs))).intsL?).map (fun ns => M.d (.int ns.sum)) = _
  unfold M.intsL?
  simp only [seq_tup]
  rw [show ints? (I xs) = some xs from ints_map xs]
  rfl
theorem cost_of_ok (xs : List Int) (n : Int) (h : 0 < xs.length) (h0 : 0 ≤ n) (s1 : sm (over xs n)) (s2 : sm (lastI xs)) : mir_cost_of [.d (.tup (I xs)), .d (.int n)] = .rt (.d (.int (costV xs n))) [.d (.tup (I xs)), .d (.int n)] := by
  unfold mir_cost_of
  rw [runB_ev]
  have e1 := cut_tup xs (k := if (xs.length : Int) < n then (xs.length : Int) else n) (by split <;> omega) (by split <;> omega)
  have e2 := sum_tup (xs.take (if (xs.length : Int) < n then (xs.length : Int) else n).toNat)
  have e3 := last_at h
  unfold over at s1
  simp [m_cost_of, e1, e2, e3, s1, s2, costV, over]
theorem cost_loop {all : List Int} {n : Int} (h0 : 0 ≤ n) : ∀ (m k : Nat) (cost : Int) (o : Option M), k + m = all.length → cost = (all.take (min k n.toNat)).sum →
    ∃ o', loopF (gSet 3) lb_law_cost_0 (rangeD (k : Int) m) [some (.d (.lst (I all))), some (.d (.int n)), some (.d (.int cost)), o] = .nx [some (.d (.lst (I all))), some (.d (.int n)), some (.d (.int (all.take (min all.length n.toNat)).sum)), o']
  | 0, k, cost, o, h, hc => by
    refine ⟨o, ?_⟩
    rw [hc, show k = all.length from by omega]
    rfl
  | m + 1, k, cost, o, h, hc => by
    have hk : k < all.length := by omega
    have a : L2.atI (I all) (k : Int) = some (D.int all[k]) := by
      rw [atI_nat (by omega) (by rw [I_len]; omega)]
      simp [hk]
    by_cases hkn : (k : Int) < n
    · have eb : lb_law_cost_0 [some (.d (.lst (I all))), some (.d (.int n)), some (.d (.int cost)), some (.d (.int (k : Int)))] = .nx [some (.d (.lst (I all))), some (.d (.int n)), some (.d (.int (cost + all[k]))), some (.d (.int (k : Int)))] := by
        unfold lb_law_cost_0
        simp [hkn, a]
      obtain ⟨o', e⟩ := cost_loop (all := all) h0 m (k + 1) (cost + all[k]) (some (.d (.int (k : Int)))) (by omega) (by
        rw [hc, show min (k + 1) n.toNat = k + 1 from by omega, show min k n.toNat = k from by omega, List.take_succ, List.sum_append, List.getElem?_eq_getElem hk]
        simp)
      refine ⟨o', ?_⟩
      rw [rangeD_succ]
      exact (loopF_step rfl eb).trans e
    · have eb : lb_law_cost_0 [some (.d (.lst (I all))), some (.d (.int n)), some (.d (.int cost)), some (.d (.int (k : Int)))] = .nx [some (.d (.lst (I all))), some (.d (.int n)), some (.d (.int cost)), some (.d (.int (k : Int)))] := by
        unfold lb_law_cost_0
        simp [hkn]
      obtain ⟨o', e⟩ := cost_loop (all := all) h0 m (k + 1) cost (some (.d (.int (k : Int)))) (by omega) (by
        rw [hc, show min (k + 1) n.toNat = min k n.toNat from by omega])
      refine ⟨o', ?_⟩
      rw [rangeD_succ]
      exact (loopF_step rfl eb).trans e
theorem cost_ok (xs : List Int) (n : Int) (h : 0 < xs.length) (hl : xs.length ≤ 1000) (h0 : 0 ≤ n) (s1 : sm (over xs n)) (s2 : sm (lastI xs)) : mir_law_cost [.d (.lst (I xs)), .d (.int n)] = .rt (.d (.int (costV xs n))) [.d (.lst (I xs)), .d (.int n)] := by
  unfold mir_law_cost
  rw [runB_ev]
  obtain ⟨o', e⟩ := cost_loop (all := xs) h0 xs.length 0 0 none (by omega) (by simp)
  rw [show ((0 : Nat) : Int) = 0 from rfl] at e
  have hr : rOk (xs.length : Int) := rOk_lit (by omega) (by omega)
  have e3 := last_at h
  unfold over at s1
  have e4 : min xs.length n.toNat = (if (xs.length : Int) < n then (xs.length : Int) else n).toNat := by
    split <;> omega
  rw [e4] at e
  simp [sq_law_cost_0, sq_law_cost_1, m_law_cost, hr, e, e3, s1, s2, costV, over]
theorem price_ok (qs : Rw) (p n : Int) (h0 : 0 ≤ p) (h1 : p < qs.length) (h2 : 1 ≤ n) (b : Bool) (xs : List Int) (hx : qs[p.toNat]? = some (b, xs)) (v : Int) (hv : L2.atI (I xs) ((if (xs.length : Int) < n then (xs.length : Int) else n) - 1) = some (.int v)) :
    mir_PriceList_price [.d (PLd qs), .d (.int p), .d (.int n)] = .rt (.d (.int v)) [.d (PLd qs), .d (.int p), .d (.int n)] := by
  unfold mir_PriceList_price
  rw [runB_ev]
  have a : L2.atI (qs.map fun q => D.tup (I q.2)) p = some (.tup (I xs)) := by
    rw [atI_nat h0 (by rw [List.length_map]; exact h1), List.getElem?_map, hx]
    rfl
  have h3 : ¬ n < 1 := by omega
  simp [sq_PriceList_price_0, sq_PriceList_price_1, sq_PriceList_price_2, m_PriceList_price, ftab_rows, h0, h1, h3, a, hv]
theorem price_no (qs : Rw) (p n : Int) (h : ¬ (0 ≤ p ∧ p < qs.length)) : mir_PriceList_price [.d (PLd qs), .d (.int p), .d (.int n)] = .ex "NoPerson" [("person", .int p)] [.d (PLd qs), .d (.int p), .d (.int n)] := by
  unfold mir_PriceList_price
  rw [runB_ev]
  by_cases h0 : 0 ≤ p
  · have h1 : ¬ p < qs.length := fun z => h ⟨h0, z⟩
    simp [sq_PriceList_price_0, sq_PriceList_price_1, sq_PriceList_price_2, m_PriceList_price, ftab_rows, h0, h1]
  · simp [sq_PriceList_price_0, sq_PriceList_price_1, sq_PriceList_price_2, m_PriceList_price, ftab_rows, h0]
theorem price_bad (qs : Rw) (p n : Int) (h0 : 0 ≤ p) (h1 : p < qs.length) (h2 : n < 1) : mir_PriceList_price [.d (PLd qs), .d (.int p), .d (.int n)] = .ex "BadNumber" [("number", .int n), ("place", .int 0)] [.d (PLd qs), .d (.int p), .d (.int n)] := by
  unfold mir_PriceList_price
  rw [runB_ev]
  simp [sq_PriceList_price_0, sq_PriceList_price_1, sq_PriceList_price_2, m_PriceList_price, ftab_rows, h0, h1, h2]
@[simp] theorem ne_e : (Str.ofString "" = Str.ofString "rows") = False := by decide +kernel
@[simp] theorem ne_price : (Str.ofString "price" = Str.ofString "rows") = False := by decide +kernel
@[simp] theorem ne_pays : (Str.ofString "pays" = Str.ofString "rows") = False := by decide +kernel
@[simp] theorem ne_pay : (Str.ofString "pay" = Str.ofString "rows") = False := by decide +kernel
@[simp] theorem ne_with_row : (Str.ofString "with_row" = Str.ofString "rows") = False := by decide +kernel
theorem price_hs1 (p : Int) (a b c : M) : hTry xtab xcs hs_law_price_0 "NoPerson" [("person", .int p)] [some a, some b, some c, none] = .rt (.d (.tup [.str "NoPerson", .int p, .bl true])) [some a, some b, some c, none] := by kernel_rfl
theorem price_hs2 (p n : Int) (a b c : M) : hTry xtab xcs hs_law_price_0 "BadNumber" [("number", .int n), ("place", .int p)] [some a, some b, some c, none] = .rt (.d (.tup [.str "BadNumber", .int p, .int n, .bl true])) [some a, some b, some c, none] := by kernel_rfl
theorem lprice_ok (qs : Rw) (p n : Int) (h0 : 0 ≤ p) (h1 : p < qs.length) (h2 : 1 ≤ n) (b : Bool) (xs : List Int) (hx : qs[p.toNat]? = some (b, xs)) (v : Int) (hv : L2.atI (I xs) ((if (xs.length : Int) < n then (xs.length : Int) else n) - 1) = some (.int v)) :
    mir_law_price [.d (PLd qs), .d (.int p), .d (.int n)] = .rt (.d (.int v)) [.d (PLd qs), .d (.int p), .d (.int n)] := by
  unfold mir_law_price
  rw [runB_ev]
  have e := price_ok qs p n h0 h1 h2 b xs hx v hv
  simp [tb_law_price_0, m_law_price, e]
theorem lprice_no (qs : Rw) (p n : Int) (h : ¬ (0 ≤ p ∧ p < qs.length)) : mir_law_price [.d (PLd qs), .d (.int p), .d (.int n)] = .rt (.d (.tup [.str "NoPerson", .int p, .bl true])) [.d (PLd qs), .d (.int p), .d (.int n)] := by
  unfold mir_law_price
  rw [runB_ev]
  have e := price_no qs p n h
  simp [tb_law_price_0, m_law_price, e, price_hs1]
theorem lprice_bad (qs : Rw) (p n : Int) (h0 : 0 ≤ p) (h1 : p < qs.length) (h2 : n < 1) : mir_law_price [.d (PLd qs), .d (.int p), .d (.int n)] = .rt (.d (.tup [.str "BadNumber", .int 0, .int n, .bl true])) [.d (PLd qs), .d (.int p), .d (.int n)] := by
  unfold mir_law_price
  rw [runB_ev]
  have e := price_bad qs p n h0 h1 h2
  simp [tb_law_price_0, m_law_price, e, price_hs2]
/-- a row and a number whose cost is computed -/
structure OkC (xs : List Int) (n : Int) : Prop where
  l0 : 0 < xs.length
  l1 : xs.length ≤ 1000
  n0 : 0 ≤ n
  s1 : sm (over xs n)
  s2 : sm (lastI xs)
def costsV : Rw → List Int → List Int
  | q :: qs, n :: ns => costV q.2 n :: costsV qs ns
  | _, _ => []
inductive OkCs : Rw → List Int → Prop
  | nil : OkCs [] []
  | cons {q : Bool × List Int} {qs : Rw} {n : Int} {ns : List Int} (h : OkC q.2 n) (r : OkCs qs ns) : OkCs (q :: qs) (n :: ns)
theorem OkCs.len {qs : Rw} {ns : List Int} (h : OkCs qs ns) : ns.length = qs.length := by
  induction h with
  | nil => rfl
  | cons _ _ ih => simp [ih]
theorem pays_lc {s R : M} {qs : Rw} {ns : List Int} (h : OkCs qs ns) : ∃ ms, lcL (gTupS 2 (gsCons (gSet 2) (gsCons (gSet 3) gsNil))) tOne le_PriceList_pays_0 fzD [2, 3] (zipD (qs.map fun q => D.tup (I q.2)) (I ns)) [some s, some R, none, none] = some (ms, [some s, some R, none, none]) ∧ ms.map M.toD = I (costsV qs ns) := by
  induction h with
  | nil => exact ⟨[], rfl, rfl⟩
  | @cons q qs n ns h r ih =>
    obtain ⟨ms, h1, h2⟩ := ih
    have e : le_PriceList_pays_0 [some s, some R, some (.d (.tup (I q.2))), some (.d (.int n))] = .ok (.d (.int (costV q.2 n))) [some s, some R, some (.d (.tup (I q.2))), some (.d (.int n))] := by
      unfold le_PriceList_pays_0
      simp [cost_of_ok q.2 n h.l0 h.n0 h.s1 h.s2]
    refine ⟨_, lcL_step rfl rfl e h1, ?_⟩
    rw [List.map_cons, h2]
    rfl
theorem pays_ok (b : Bool) (qs : Rw) (ns : List Int) (h : OkCs qs ns) (hl : qs.length ≤ 1000) : mir_PriceList_pays [.d (PLd qs), .d (RD b ns)] = .rt (.ol (I (costsV qs ns))) [.d (PLd qs), .d (RD b ns)] := by
  unfold mir_PriceList_pays
  rw [runB_ev]
  obtain ⟨ms, e1, e2⟩ := pays_lc (s := .d (PLd qs)) (R := .d (RD b ns)) h
  have e3 := h.len
  have e4 : (zipD (qs.map fun q => D.tup (I q.2)) (I ns)).length ≤ lim := by
    refine lim_lit ?_
    unfold zipD
    simp
    omega
  simp [sq_PriceList_pays_0, m_PriceList_pays, ftab_rows, e1, e2, e3, e4]
theorem pays_bad (b : Bool) (qs : Rw) (ns : List Int) (h : ns.length ≠ qs.length) : mir_PriceList_pays [.d (PLd qs), .d (RD b ns)] = .ex "WrongLength" [("wanted", .int qs.length), ("found", .int ns.length)] [.d (PLd qs), .d (RD b ns)] := by
  unfold mir_PriceList_pays
  rw [runB_ev]
  have h' : ¬ ((ns.length : Int) = (qs.length : Int)) := by omega
  simp [sq_PriceList_pays_0, m_PriceList_pays, ftab_rows, h']
theorem pay_ok (b : Bool) (qs : Rw) (ns : List Int) (h : OkCs qs ns) (hl : qs.length ≤ 1000) : mir_PriceList_pay [.d (PLd qs), .d (RD b ns)] = .rt (.d (.int (costsV qs ns).sum)) [.d (PLd qs), .d (RD b ns)] := by
  unfold mir_PriceList_pay
  rw [runB_ev]
  have e := pays_ok b qs ns h hl
  have e2 : gSum [.d (.lst (I (costsV qs ns)))] = some (.d (.int (costsV qs ns).sum)) := by
    show ((M.d (.lst (I (costsV qs ns)))).intsL?).map (fun ns => M.d (.int ns.sum)) = _
    unfold M.intsL?
    simp only [seq_lst]
    rw [show ints? (I (costsV qs ns)) = some (costsV qs ns) from ints_map _]
    rfl
  simp [m_PriceList_pay, e, e2]
theorem pay_bad (b : Bool) (qs : Rw) (ns : List Int) (h : ns.length ≠ qs.length) : mir_PriceList_pay [.d (PLd qs), .d (RD b ns)] = .ex "WrongLength" [("wanted", .int qs.length), ("found", .int ns.length)] [.d (PLd qs), .d (RD b ns)] := by
  unfold mir_PriceList_pay
  rw [runB_ev]
  have e := pays_bad b qs ns h
  simp [m_PriceList_pay, e]
theorem paid_hs (f w : Int) (a b c : M) : hTry xtab xcs hs_law_paid_0 "WrongLength" [("wanted", .int w), ("found", .int f)] [some a, some b, some c, none] = .rt (.d (.tup [.str "WrongLength", .int f, .int w, .bl true])) [some a, some b, some c, none] := by kernel_rfl
theorem paid1 (b : Bool) (qs : Rw) (ns : List Int) (h : OkCs qs ns) (hl : qs.length ≤ 1000) : mir_law_paid [.d (PLd qs), .d (RD b ns), .d (.bl true)] = .rt (.ol (I (costsV qs ns))) [.d (PLd qs), .d (RD b ns), .d (.bl true)] := by
  unfold mir_law_paid
  rw [runB_ev]
  simp [tb_law_paid_0, m_law_paid, pays_ok b qs ns h hl]
theorem paid2 (b : Bool) (qs : Rw) (ns : List Int) (h : OkCs qs ns) (hl : qs.length ≤ 1000) : mir_law_paid [.d (PLd qs), .d (RD b ns), .d (.bl false)] = .rt (.d (.int (costsV qs ns).sum)) [.d (PLd qs), .d (RD b ns), .d (.bl false)] := by
  unfold mir_law_paid
  rw [runB_ev]
  simp [tb_law_paid_0, m_law_paid, pay_ok b qs ns h hl]
theorem paid3 (b t : Bool) (qs : Rw) (ns : List Int) (h : ns.length ≠ qs.length) : mir_law_paid [.d (PLd qs), .d (RD b ns), .d (.bl t)] = .rt (.d (.tup [.str "WrongLength", .int ns.length, .int qs.length, .bl true])) [.d (PLd qs), .d (RD b ns), .d (.bl t)] := by
  unfold mir_law_paid
  rw [runB_ev]
  cases t <;> simp [tb_law_paid_0, m_law_paid, pays_bad b qs ns h, pay_bad b qs ns h, paid_hs]
/-! ### another row -/
def tupR (qs : Rw) : Rw := qs.map fun q => (true, q.2)
theorem tupR_RL (qs : Rw) : (qs.map fun q => D.tup (I q.2)) = RL (tupR qs) := by
  unfold RL tupR
  rw [List.map_map]
  rfl
theorem with_no (qs : Rw) (p : Int) (h : ¬ (0 ≤ p ∧ p < qs.length)) (b : Bool) (xs : List Int) : mir_PriceList_with_row [.d (PLd qs), .d (.int p), .d (RD b xs)] = .ex "NoPerson" [("person", .int p)] [.d (PLd qs), .d (.int p), .d (RD b xs)] := by
  unfold mir_PriceList_with_row
  rw [runB_ev]
  by_cases h0 : 0 ≤ p
  · have h1 : ¬ p < qs.length := fun z => h ⟨h0, z⟩
    simp [sq_PriceList_with_row_0, sq_PriceList_with_row_1, sq_PriceList_with_row_2, m_PriceList_with_row, ftab_rows, h0, h1]
  · simp [sq_PriceList_with_row_0, sq_PriceList_with_row_1, sq_PriceList_with_row_2, m_PriceList_with_row, ftab_rows, h0]
theorem with_ok (qs : Rw) (p : Int) (h0 : 0 ≤ p) (h1 : p < qs.length) (b : Bool) (xs : List Int) : mir_PriceList_with_row [.d (PLd qs), .d (.int p), .d (RD b xs)] = match initErr ((tupR qs).set p.toNat (b, xs)) with
    | none => .rt (PLm ((tupR qs).set p.toNat (b, xs))) [.d (PLd qs), .d (.int p), .d (RD b xs)]
    | some e => .ex e.cls e.fs [.d (PLd qs), .d (.int p), .d (RD b xs)] := by
  unfold mir_PriceList_with_row
  rw [runB_ev]
  have e1 : setI (RL (tupR qs)) p (RD b xs) = some (RL ((tupR qs).set p.toNat (b, xs))) := by
    rw [setI_nat h0 (by rw [RL_len]; unfold tupR; simpa using h1)]
    unfold RL
    rw [List.map_set]
  have e4 : (tupR qs).length = qs.length := by simp [tupR]
  have h5 : p < ((tupR qs).length : Int) := by omega
  have e2 := make_ok [some (.d (PLd qs)), some (.d (.int p)), some (.d (RD b xs)), some (.d (RS false ((tupR qs).set p.toNat (b, xs))))] false ((tupR qs).set p.toNat (b, xs))
  unfold makeR at e2
  cases q : initErr ((tupR qs).set p.toNat (b, xs)) with
  | none =>
    rw [q] at e2
    simp only at e2
    simp [sq_PriceList_with_row_0, sq_PriceList_with_row_1, sq_PriceList_with_row_2, m_PriceList_with_row, ftab_rows, h0, h1, h5, tupR_RL, e1, RS_lst, e2]
  | some e =>
    rw [q] at e2
    simp only at e2
    simp [sq_PriceList_with_row_0, sq_PriceList_with_row_1, sq_PriceList_with_row_2, m_PriceList_with_row, ftab_rows, h0, h1, h5, tupR_RL, e1, RS_lst, e2]
theorem other_hs (e : PErr) (a b c : M) : hTry xtab xcs hs_law_other_row_0 e.cls e.fs [some a, some b, some c, none] = .rt (.d e.tup) [some a, some b, some c, none] := by
  cases e <;> kernel_rfl
theorem other_hs1 (p : Int) (a b c : M) : hTry xtab xcs hs_law_other_row_0 "NoPerson" [("person", .int p)] [some a, some b, some c, none] = .rt (.d (.tup [.str "NoPerson", .int p, .bl true])) [some a, some b, some c, none] := by kernel_rfl
theorem other_no (qs : Rw) (p : Int) (h : ¬ (0 ≤ p ∧ p < qs.length)) (b : Bool) (xs : List Int) : mir_law_other_row [.d (PLd qs), .d (.int p), .d (RD b xs)] = .rt (.d (.tup [.str "NoPerson", .int p, .bl true])) [.d (PLd qs), .d (.int p), .d (RD b xs)] := by
  unfold mir_law_other_row
  rw [runB_ev]
  simp [tb_law_other_row_0, m_law_other_row, with_no qs p h, other_hs1]
theorem other_ok (qs : Rw) (p : Int) (h0 : 0 ≤ p) (h1 : p < qs.length) (b : Bool) (xs : List Int) : mir_law_other_row [.d (PLd qs), .d (.int p), .d (RD b xs)] = .rt (madeR ((tupR qs).set p.toNat (b, xs))) [.d (PLd qs), .d (.int p), .d (RD b xs)] := by
  unfold mir_law_other_row
  rw [runB_ev]
  have e := with_ok qs p h0 h1 b xs
  unfold madeR
  cases q : initErr ((tupR qs).set p.toNat (b, xs)) with
  | none =>
    rw [q] at e
    simp only at e
    simp [tb_law_other_row_0, m_law_other_row, e]
  | some er =>
    rw [q] at e
    simp only at e
    simp [tb_law_other_row_0, m_law_other_row, e, other_hs]
theorem bent_ok {n : Nat} {p : M} (hp : Pool n p) (hn : n < 900000) (xs : List Int) (hl : xs.length ≤ 1000) : ∃ ys p', Pool (n + 2) p' ∧ ys.length = xs.length ∧ mir_law_bent [p, .d (.lst (I xs))] = .rt (.ol (I ys)) [p', .d (.lst (I xs))] := by
  unfold mir_law_bent
  rw [runB_ev]
  by_cases h : 0 < xs.length
  · obtain ⟨v, p1, hp1, v0, v1, e1⟩ := draw_ok hp (by omega) (k := (xs.length : Int)) (by omega) (dvOk_lit (by omega) (by omega))
    obtain ⟨u, p2, hp2, u0, u1, e2⟩ := draw_ok hp1 (by omega) (k := 3) (by omega) (by simp)
    obtain ⟨j, hj⟩ : ∃ j : Int, L2.atI (I xs) (if 1 < v then v - 1 else 0) = some (D.int j) := by
      rw [atI_nat (by split <;> omega) (by rw [I_len]; split <;> omega), I_get, List.getElem?_eq_getElem (by split <;> omega)]
      exact ⟨_, rfl⟩
    obtain ⟨z, hz⟩ : ∃ z : Int, L2.atI [D.int (-1), D.int 1000000000000000000000000000001, D.int (j - 1)] u = some (D.int z) := by
      have : u = 0 ∨ u = 1 ∨ u = 2 := by omega
      rcases this with rfl | rfl | rfl
      · exact ⟨_, atI_0 _ _⟩
      · exact ⟨_, atI_1 _ _ _⟩
      · exact ⟨_, atI_2 _ _ _ _⟩
    have hs : setI (I xs) v (.int z) = some (I (xs.set v.toNat z)) := by
      rw [setI_nat v0 (by rw [I_len]; exact v1), I_set]
    refine ⟨xs.set v.toNat z, p2, hp2.le (by omega), by simp, ?_⟩
    have h' : (0 : Int) < (xs.length : Int) := by omega
    simp [sq_law_bent_0, sq_law_bent_1, m_law_bent, h, h', e1, e2, hj, hz, hs]
  · refine ⟨xs, p, hp.le (by omega), rfl, ?_⟩
    have h' : ¬ (0 : Int) < (xs.length : Int) := by omega
    simp [sq_law_bent_0, sq_law_bent_1, m_law_bent, h, h']
/-! ### the drawn rows -/
def FR (rs : List (List Int)) : Rw := rs.map fun xs => (false, xs)
@[simp] theorem FR_len (rs : List (List Int)) : (FR rs).length = rs.length := by simp [FR]
theorem rows_lc {o : Option M} : ∀ (l : List D) (n : Nat) (p : M), Pool n p → n + 100 * l.length < 800000 → ∃ rs p' ms, Pool (n + 100 * l.length) p' ∧ rs.length = l.length ∧ (∀ xs ∈ rs, xs.length ≤ 64) ∧
    lcL (gSet 3) tOne le_law_rows_0 fzD [3] l [some p, o, none, none] = some (ms, [some p', o, none, none]) ∧ ms.map M.toD = RL (FR rs)
  | [], n, p, hp, hn => ⟨[], p, [], hp, rfl, fun _ h => (by cases h), rfl, rfl⟩
  | x :: l, n, p, hp, hn => by
    simp only [List.length_cons] at hn
    obtain ⟨xs, p1, hp1, hl, e⟩ := row_ok hp (by omega)
    obtain ⟨rs, p', ms, h1, h2, h3, h4, h5⟩ := rows_lc (o := o) l (n + 100) p1 hp1 (by omega)
    have eb : le_law_rows_0 [some p, o, none, some (.d x)] = .ok (.ol (I xs)) [some p1, o, none, some (.d x)] := by
      unfold le_law_rows_0
      simp [e]
    refine ⟨xs :: rs, p', _, h1.le (by simp only [List.length_cons]; omega), by simp [h2], fun ys hy => ?_, lcL_step rfl rfl eb h4, ?_⟩
    · rcases List.mem_cons.mp hy with rfl | hy
      · exact hl
      · exact h3 ys hy
    · rw [List.map_cons, h5]
      rfl
theorem rows_ok {n : Nat} {p : M} (hp : Pool n p) (hn : n < 500000) : ∃ rs p', Pool (n + 4000) p' ∧ rs.length ≤ 40 ∧ (∀ xs ∈ rs, xs.length ≤ 64) ∧ mir_law_rows [p] = .rt (.ol (RL (FR rs))) [p'] := by
  unfold mir_law_rows
  rw [runB_ev]
  obtain ⟨v1, p1, hp1, a1, b1, e1⟩ := draw_ok hp (by omega) (k := 6) (by omega) (by simp)
  obtain ⟨v2, p2, hp2, a2, b2, e2⟩ := draw_ok hp1 (by omega) (k := 8) (by omega) (by simp)
  have key : ∀ (m : Nat) (q : M) (many : Int), Pool m q → m ≤ n + 3 → 0 ≤ many → many ≤ 33 → ∃ rs p', Pool (n + 4000) p' ∧ rs.length ≤ 40 ∧ (∀ xs ∈ rs, xs.length ≤ 64) ∧ fin [0] [p] (sq_law_rows_2 [some q, some (.d (.int many)), none, none]) = .rt (.ol (RL (FR rs))) [p'] := by
    intro m q many hq hm h0 h1
    have hln : (rangeD 0 many.toNat).length = many.toNat := by
      unfold rangeD
      simp
    obtain ⟨rs, p3, ms, hp3, hr1, hr2, e3, e4⟩ := rows_lc (o := some (.d (.int many))) (rangeD 0 many.toNat) m q hq (by omega)
    rw [hln] at hp3 hr1
    have hll : (rangeD 0 many.toNat).length ≤ lim := lim_lit (by omega)
    have hro : rOk many := rOk_lit (by omega) (by omega)
    by_cases h2 : 0 < many
    · obtain ⟨v4, p4, hp4, a4, b4, e5⟩ := draw_ok hp3 (by omega) (k := 3) (by omega) (by simp)
      by_cases h3 : v4 = 2
      · obtain ⟨v5, p5, hp5, a5, b5, e6⟩ := draw_ok hp4 (by omega) (k := many) h2 (dvOk_lit h2 (by omega))
        have hv : v5.toNat < rs.length := by omega
        obtain ⟨ys, p6, hp6, hy, e7⟩ := bent_ok hp5 (by omega) rs[v5.toNat] (by have := hr2 _ (List.getElem_mem hv); omega)
        have ha : L2.atI (RL (FR rs)) v5 = some (.lst (I rs[v5.toNat])) := by
          rw [atI_nat a5 (by rw [RL_len, FR_len]; omega)]
          simp [RL, FR, hv, RD]
        have hs : setI (RL (FR rs)) v5 (.lst (I ys)) = some (RL (FR (rs.set v5.toNat ys))) := by
          rw [setI_nat a5 (by rw [RL_len, FR_len]; omega)]
          unfold RL FR
          rw [List.map_set, List.map_set]
          rfl
        refine ⟨rs.set v5.toNat ys, p6, hp6.le (by omega), by rw [List.length_set]; omega, fun xs hx => ?_, ?_⟩
        · rcases List.mem_or_eq_of_mem_set hx with hx | rfl
          · exact hr2 xs hx
          · rw [hy]
            exact hr2 _ (List.getElem_mem hv)
        · simp [sq_law_rows_0, sq_law_rows_1, sq_law_rows_2, sq_law_rows_3, m_law_rows, hro, hll, e3, e4, h2, e5, h3, e6, ha, e7, hs]
      · refine ⟨rs, p4, hp4.le (by omega), by omega, hr2, ?_⟩
        simp [sq_law_rows_0, sq_law_rows_1, sq_law_rows_2, sq_law_rows_3, m_law_rows, hro, hll, e3, e4, h2, e5, h3]
    · refine ⟨rs, p3, hp3.le (by omega), by omega, hr2, ?_⟩
      simp [sq_law_rows_0, sq_law_rows_1, sq_law_rows_2, sq_law_rows_3, m_law_rows, hro, hll, e3, e4, h2]
  by_cases h : v2 = 7
  · obtain ⟨v3, p3, hp3, a3, b3, e3⟩ := draw_ok hp2 (by omega) (k := 6) (by omega) (by simp)
    obtain ⟨xs, p', h2, h3, h4, h5⟩ := key (n + 3) p3 (28 + v3) hp3 (by omega) (by omega) (by omega)
    refine ⟨xs, p', h2, h3, h4, ?_⟩
    rw [← h5]
    unfold m_law_rows sq_law_rows_3
    simp [e1, e2, h, e3]
  · obtain ⟨xs, p', h2, h3, h4, h5⟩ := key (n + 2) p2 v1 hp2 (by omega) (by omega) (by omega)
    refine ⟨xs, p', h2, h3, h4, ?_⟩
    rw [← h5]
    unfold m_law_rows sq_law_rows_3
    simp [e1, e2, h]
/-! ### made and told -/
theorem rowsErr_congr : ∀ (qs rs : Rw) (k : Int), qs.map (·.2) = rs.map (·.2) → rowsErr k qs = rowsErr k rs
  | [], [], _, _ => rfl
  | [], _ :: _, _, h => by cases h
  | _ :: _, [], _, h => by cases h
  | q :: qs, r :: rs, k, h => by
    simp only [List.map_cons, List.cons.injEq] at h
    rw [rowsErr, rowsErr, h.1, rowsErr_congr qs rs (k + 1) h.2]
theorem initErr_congr {qs rs : Rw} (h : qs.map (·.2) = rs.map (·.2)) : initErr qs = initErr rs := by
  have hl : qs.length = rs.length := by
    have := congrArg List.length h
    simpa using this
  unfold initErr
  rw [hl, rowsErr_congr qs rs 0 h]
theorem made2' (n : Int) (h0 : 0 ≤ n) (b : Bool) (xs : List Int) : mir_law_made [.d (.int 2), .d (RD b xs), .d (.int n)] = .rt (madeR (List.replicate n.toNat (b, xs))) [.d (.int 2), .d (RD b xs), .d (.int n)] := by
  rw [made2 n h0]
  by_cases h : 30 < n
  · rw [if_pos h]
    have e : initErr (List.replicate n.toNat (b, xs)) = some (.tooLong n) := by
      unfold initErr
      rw [List.length_replicate, if_pos (by omega), show ((n.toNat : Nat) : Int) = n from by omega]
    unfold madeR
    rw [e]
  · rw [if_neg h]
theorem flat_I : ∀ xs : List Int, flatDs (I xs) = true
  | [] => rfl
  | _ :: xs => flat_I xs
theorem flat_rows : ∀ qs : Rw, flatDs (qs.map fun q => D.tup (I q.2)) = true
  | [] => rfl
  | q :: qs => by
    show (flatD (.tup (I q.2)) && flatDs (qs.map fun q => D.tup (I q.2))) = true
    rw [flat_rows qs, show flatD (.tup (I q.2)) = flatDs (I q.2) from rfl, flat_I]
    rfl
theorem flat_madeR (qs : Rw) : flatM (madeR qs) = true := by
  unfold madeR
  cases initErr qs with
  | none =>
    show (flatD (rowsT qs) && true) = true
    rw [Bool.and_true]
    exact flat_rows qs
  | some e => cases e <;> rfl
theorem tup_ok (e : PErr) (n : Nat) : okS (n + 2) e.tup := by
  cases e <;> exact ⟨by simp, by simp [okS]⟩
theorem same_ok (d : D) (h : okS 12 d) : mir_law_same' 12 [.d d, .d d] = .rt (.d (.bl true)) [.d d, .d d] := same_refl 12 d h
theorem mr_ok (way m : Int) (cs : List Int) (qs ds : Rw) (c : Bool) (e : mir_law_made [.d (.int way), .d (RD false cs), .d (.int m)] = .rt (madeR qs) [.d (.int way), .d (RD false cs), .d (.int m)]) (hq : qs.map (·.2) = ds.map (·.2)) (hc : cs.length ≤ 1000) (hl : qs.length ≤ 1000) (hs : ∀ q ∈ qs, q.2.length ≤ 1000) :
    mir_law_made_right [.d (.int way), .d (RD false cs), .d (.int m), .d (RS c ds)] = .rt (.d (.bl true)) [.d (.int way), .d (RD false cs), .d (.int m), .d (RS c ds)] := by
  have el : qs.length = ds.length := by
    have := congrArg List.length hq
    simpa using this
  have hs2 : ∀ q ∈ ds, q.2.length ≤ 1000 := fun q h => by
    have : q.2 ∈ qs.map (·.2) := hq ▸ List.mem_map_of_mem (f := (·.2)) h
    obtain ⟨r, hr, e⟩ := List.mem_map.mp this
    exact e ▸ hs r hr
  have ed := due_ok c ds (by omega) hs2
  rw [← initErr_congr hq] at ed
  have hfl := flat_madeR qs
  unfold mir_law_made_right
  rw [runB_ev]
  have e' : mir_law_made [.d (.int way), .d (.lst (I cs)), .d (.int m)] = .rt (madeR qs) [.d (.int way), .d (.lst (I cs)), .d (.int m)] := e
  have hcl : cs.length < lim := lim_lit2 (by omega)
  cases q : initErr qs with
  | none =>
    have hm : madeR qs = PLm qs := by
      unfold madeR
      rw [q]
    rw [q] at ed
    rw [hm] at e' hfl
    have ei := is_ok c qs ds hq hl hs
    simp [sq_law_made_right_0, sq_law_made_right_1, sq_law_made_right_2, sq_law_made_right_3, sq_law_made_right_4, m_law_made_right, e', hfl, hcl, ed, errD, ei]
  | some er =>
    have hm : madeR qs = .d er.tup := by
      unfold madeR
      rw [q]
    rw [q] at ed
    rw [hm] at e' hfl
    have hn : (M.d er.tup).isN = false := by cases er <;> rfl
    have ei := same_ok er.tup (tup_ok er 10)
    simp [sq_law_made_right_0, sq_law_made_right_1, sq_law_made_right_2, sq_law_made_right_3, sq_law_made_right_4, m_law_made_right, e', hfl, hcl, ed, errD, ei, hn]
/-! ### a changed row -/
theorem rowsErr_set : ∀ (qs : Rw) (k : Int) (i : Nat) (b : Bool) (xs : List Int), rowsErr k qs = none → i < qs.length → rowsErr k ((tupR qs).set i (b, xs)) = rowErr (k + i) xs
  | [], _, _, _, _, _, h => by cases h
  | q :: qs, k, 0, b, xs, h, _ => by
    show rowsErr k ((b, xs) :: tupR qs) = _
    have h2 : rowsErr (k + 1) qs = none := by
      rw [rowsErr] at h
      cases e : rowErr k q.2 with
      | none => rw [e] at h; exact h
      | some _ => rw [e] at h; cases h
    rw [rowsErr, rowsErr_congr (tupR qs) qs (k + 1) (by simp [tupR]), h2]
    rw [show k + ((0 : Nat) : Int) = k from by omega]
    cases rowErr k xs <;> rfl
  | q :: qs, k, i + 1, b, xs, h, hi => by
    show rowsErr k ((true, q.2) :: (tupR qs).set i (b, xs)) = _
    rw [rowsErr] at h
    cases e : rowErr k q.2 with
    | none =>
      rw [e] at h
      rw [rowsErr, e]
      show rowsErr (k + 1) _ = _
      rw [rowsErr_set qs (k + 1) i b xs h (by simpa using hi), show k + 1 + (i : Int) = k + ((i + 1 : Nat) : Int) from by omega]
    | some _ => rw [e] at h; cases h
theorem initErr_none {qs : Rw} (h : initErr qs = none) : qs.length ≤ 30 ∧ rowsErr 0 qs = none := by
  unfold initErr at h
  split at h
  · cases h
  · exact ⟨by omega, h⟩
theorem initErr_set (qs : Rw) (i : Nat) (b : Bool) (xs : List Int) (h : initErr qs = none) (hi : i < qs.length) : initErr ((tupR qs).set i (b, xs)) = rowErr (i : Int) xs := by
  obtain ⟨h1, h2⟩ := initErr_none h
  unfold initErr
  rw [if_neg (by rw [List.length_set]; unfold tupR; rw [List.length_map]; omega), rowsErr_set qs 0 i b xs h2 hi, show (0 : Int) + (i : Int) = i from by omega]
@[simp] theorem gAdd_lst (xs ys : List D) (h : xs.length + ys.length ≤ lim) : gAdd (.d (.lst xs)) (.d (.lst ys)) = some (.ol (xs ++ ys)) := if_pos h
theorem cut_lo (xs : List D) {k : Int} (h0 : 0 ≤ k) (h1 : k ≤ xs.length) : gSl (.d (.lst xs)) none (some k) = some (.ol (xs.take k.toNat)) := by
  show some (M.ol (cutD xs none (some k))) = _
  unfold cutD
  rw [HT.sIx_none, show HT.sIx xs.length xs.length (some k) = k.toNat from ?_]
  · rw [List.drop_zero, Nat.sub_zero]
  · obtain ⟨j, rfl⟩ := Int.eq_ofNat_of_zero_le h0
    rw [HT.sIx_nat]
    omega
theorem cut_hi (xs : List D) {k : Int} (h0 : 0 ≤ k) (h1 : k ≤ xs.length) : gSl (.d (.lst xs)) (some k) none = some (.ol (xs.drop k.toNat)) := by
  show some (M.ol (cutD xs (some k) none)) = _
  unfold cutD
  rw [HT.sIx_none, show HT.sIx xs.length 0 (some k) = k.toNat from ?_]
  · rw [List.take_of_length_le (by rw [List.length_drop]; omega)]
  · obtain ⟨j, rfl⟩ := Int.eq_ofNat_of_zero_le h0
    rw [HT.sIx_nat]
    omega
theorem set_split {α : Type} (xs : List α) (i : Nat) (x : α) (h : i < xs.length) : xs.take i ++ [x] ++ xs.drop (i + 1) = xs.set i x := by
  rw [List.set_eq_take_append_cons_drop, if_pos h, List.append_assoc]
  rfl
/-! ### costs right -/
theorem lay_I : ∀ xs : List Int, PyData.canLayAll0 (D.pys (I xs)) = true
  | [] => rfl
  | _ :: xs => by
    show (true && PyData.canLayAll0 (D.pys (I xs))) = true
    rw [lay_I xs]
    rfl
theorem depth_I : ∀ xs : List Int, PyData.depthAll (D.pys (I xs)) ≤ 1
  | [] => by
    show PyData.depthAll [] ≤ 1
    simp [PyData.depthAll]
  | x :: xs => by
    have := depth_I xs
    show PyData.depthAll (PyData.int x :: D.pys (I xs)) ≤ 1
    simp only [PyData.depthAll, PyData.depth]
    omega
theorem eqv_I : ∀ xs : List Int, PyData.eqvAll (D.pys (I xs)) (D.pys (I xs)) = true
  | [] => by
    show PyData.eqvAll [] [] = true
    rw [PyData.eqvAll]
  | x :: xs => by
    show PyData.eqvAll (PyData.int x :: D.pys (I xs)) (PyData.int x :: D.pys (I xs)) = true
    rw [PyData.eqvAll, eqv_I xs]
    simp [PyData.eqv]
theorem shaped_I (xs : List Int) : SeqAt.shaped (PyData.list (D.pys (I xs))) = true := by
  unfold SeqAt.shaped
  rw [Bool.and_eq_true]
  refine ⟨?_, ?_⟩
  · rw [PyData.canLay0]
    exact lay_I xs
  · have := depth_I xs
    rw [decide_eq_true_eq]
    simp only [PyData.depth]
    omega
@[simp] theorem gNe_I (xs : List Int) : gNe (.d (.lst (I xs))) (.ol (I xs)) = some (.d (.bl false)) := by
  show (if SeqAt.shaped (PyData.list (D.pys (I xs))) = true ∧ SeqAt.shaped (PyData.list (D.pys (I xs))) = true then some (PyData.eqv (PyData.list (D.pys (I xs))) (PyData.list (D.pys (I xs)))) else none).map _ = _
  rw [if_pos ⟨shaped_I xs, shaped_I xs⟩, PyData.eqv, eqv_I]
  rfl
theorem bad_all : ∀ (xs : List Int) (least : Int) (k : Nat), badAt least k xs = none → 0 ≤ least → ∀ x ∈ xs, 0 ≤ x ∧ x ≤ LIM
  | [], _, _, _, _, _, h => by cases h
  | y :: xs, least, k, h, h0, x, hx => by
    rw [badAt] at h
    split at h
    · rename_i hy
      rcases List.mem_cons.mp hx with rfl | hx
      · exact ⟨by omega, hy.2⟩
      · exact bad_all xs y (k + 1) h (by omega) x hx
    · cases h
theorem rowErr_none {p : Int} {xs : List Int} (h : rowErr p xs = none) : 0 < xs.length ∧ xs.length ≤ 60 ∧ ∀ x ∈ xs, 0 ≤ x ∧ x ≤ LIM := by
  unfold rowErr at h
  split at h
  · cases h
  · split at h
    · cases h
    · refine ⟨by omega, by omega, bad_all xs 0 0 ?_ (by omega)⟩
      cases q : badAt 0 0 xs with
      | none => rfl
      | some z => rw [q] at h; cases h
theorem rowsErr_none : ∀ (qs : Rw) (k : Int), rowsErr k qs = none → ∀ q ∈ qs, 0 < q.2.length ∧ q.2.length ≤ 60 ∧ ∀ x ∈ q.2, 0 ≤ x ∧ x ≤ LIM
  | [], _, _, _, h => by cases h
  | r :: qs, k, h, q, hq => by
    rw [rowsErr] at h
    cases e : rowErr k r.2 with
    | none =>
      rw [e] at h
      rcases List.mem_cons.mp hq with rfl | hq
      · exact rowErr_none e
      · exact rowsErr_none qs (k + 1) h q hq
    | some _ => rw [e] at h; cases h
theorem lastI_mem {xs : List Int} (h : 0 < xs.length) : lastI xs ∈ xs := by
  unfold lastI
  rw [List.getElem?_eq_getElem (by omega)]
  exact List.getElem_mem _
/-- rows that make a price list -/
abbrev OkRow (xs : List Int) : Prop := 0 < xs.length ∧ xs.length ≤ 60 ∧ ∀ x ∈ xs, 0 ≤ x ∧ x ≤ LIM
theorem OkRow.c {xs : List Int} (h : OkRow xs) {n : Int} (h0 : 0 ≤ n) (h1 : n ≤ LIM) : OkC xs n := by
  have hl := h.2.2 _ (lastI_mem h.1)
  have hL : LIM = 1000000000000000000000000000000 := rfl
  refine ⟨h.1, by omega, h0, sm_lit ?_ ?_, sm_lit ?_ ?_⟩
  · unfold over
    split <;> omega
  · unfold over
    split <;> omega
  · omega
  · omega
theorem cr_loop {P R : M} : ∀ (rs : List (List Int)) (ns : List Int) (n : Nat) (p : M) (o4 o5 : Option M), Pool n p → n + 3 * rs.length < 900000 → ns.length + rs.length < 1000 → (∀ xs ∈ rs, OkRow xs) →
    ∃ ms p' o4' o5', Pool (n + 3 * rs.length) p' ∧ OkCs (FR rs) ms ∧
      loopF (gSet 4) lb_law_costs_right_0 (RL (FR rs)) [some p, some P, some R, some (.ol (I ns)), o4, o5, none, none, none, none, none, none] = .nx [some p', some P, some R, some (.ol (I (ns ++ ms))), o4', o5', none, none, none, none, none, none]
  | [], ns, n, p, o4, o5, hp, hn, hx, hr => ⟨[], p, o4, o5, hp, .nil, by rw [List.append_nil]; rfl⟩
  | xs :: rs, ns, n, p, o4, o5, hp, hn, hx, hr => by
    simp only [List.length_cons] at hn hx
    have hxs := hr xs List.mem_cons_self
    obtain ⟨v1, p1, hp1, a1, b1, e1⟩ := draw_ok hp (by omega) (k := (xs.length : Int) + 3) (by omega) (dvOk_lit (by omega) (by have := hxs.2.1; omega))
    obtain ⟨v2, p2, hp2, a2, b2, e2⟩ := draw_ok hp1 (by omega) (k := 4) (by omega) (by simp)
    have hlim : ns.length < lim := lim_lit2 (by omega)
    have hxl := hxs.2.1
    have hL : LIM = 1000000000000000000000000000000 := rfl
    have fin : ∀ (m : Nat) (q : M) (z : Int), Pool m q → m ≤ n + 3 → 0 ≤ z → z ≤ LIM → lb_law_costs_right_0 [some p, some P, some R, some (.ol (I ns)), some (.d (.lst (I xs))), o5, none, none, none, none, none, none] = .nx [some q, some P, some R, some (.ol (I (ns ++ [z]))), some (.d (.lst (I xs))), some (.d (.int z)), none, none, none, none, none, none] →
        ∃ ms p' o4' o5', Pool (n + 3 * (rs.length + 1)) p' ∧ OkCs (FR (xs :: rs)) ms ∧ loopF (gSet 4) lb_law_costs_right_0 (RL (FR (xs :: rs))) [some p, some P, some R, some (.ol (I ns)), o4, o5, none, none, none, none, none, none] = .nx [some p', some P, some R, some (.ol (I (ns ++ ms))), o4', o5', none, none, none, none, none, none] := by
      intro m q z hq hm z0 z1 eb
      obtain ⟨ms, p', o4', o5', h1, h2, h3⟩ := cr_loop (P := P) (R := R) rs (ns ++ [z]) m q (some (.d (.lst (I xs)))) (some (.d (.int z))) hq (by omega) (by simp; omega) (fun ys h => hr ys (List.mem_cons_of_mem _ h))
      refine ⟨z :: ms, p', o4', o5', h1.le (by omega), .cons (hxs.c z0 z1) h2, ?_⟩
      rw [List.append_assoc] at h3
      exact (loopF_step rfl eb).trans h3
    by_cases h : v2 = 3
    · obtain ⟨v3, p3, hp3, a3, b3, e3⟩ := draw_ok hp2 (by omega) (k := 1000) (by omega) (by simp)
      refine fin _ p3 (LIM - v3) hp3 (by omega) (by omega) (by omega) ?_
      unfold lb_law_costs_right_0
      simp [sq_law_costs_right_0, sq_law_costs_right_1, sq_law_costs_right_2, sq_law_costs_right_3, sq_law_costs_right_4, sq_law_costs_right_5, sq_law_costs_right_6, sq_law_costs_right_7, sq_law_costs_right_8, sq_law_costs_right_9, sq_law_costs_right_10, sq_law_costs_right_11, sq_law_costs_right_12, sq_law_costs_right_13, m_law_costs_right, e1, e2, e3, h, hlim]
    · refine fin _ p2 v1 hp2 (by omega) (by omega) (by omega) ?_
      unfold lb_law_costs_right_0
      simp [sq_law_costs_right_0, sq_law_costs_right_1, sq_law_costs_right_2, sq_law_costs_right_3, sq_law_costs_right_4, sq_law_costs_right_5, sq_law_costs_right_6, sq_law_costs_right_7, sq_law_costs_right_8, sq_law_costs_right_9, sq_law_costs_right_10, sq_law_costs_right_11, sq_law_costs_right_12, sq_law_costs_right_13, m_law_costs_right, e1, e2, h, hlim]
theorem cr_lc {p P : M} {o4 o5 : Option M} {A : Rw} {N : List Int} {qs : Rw} {ms : List Int} (h : OkCs qs ms) : ∀ (k : Nat), (∀ q ∈ qs, q.1 = false) → (∀ i : Nat, i < qs.length → A[k + i]? = qs[i]?) → (∀ i : Nat, i < ms.length → N[k + i]? = ms[i]?) → k + qs.length = A.length → k + ms.length = N.length →
    ∃ r, lcL (gSet 10) tOne le_law_costs_right_0 fzD [10] (rangeD (k : Int) qs.length) [some p, some P, some (.d (.lst (RL A))), some (.ol (I N)), o4, o5, none, none, none, none, none, none] = some (r, [some p, some P, some (.d (.lst (RL A))), some (.ol (I N)), o4, o5, none, none, none, none, none, none]) ∧ r.map M.toD = I (costsV qs ms) := by
  induction h with
  | nil => exact fun k _ _ _ _ _ => ⟨[], rfl, rfl⟩
  | @cons q qs n ns h r ih =>
    intro k hq ha hn hl hm
    simp only [List.length_cons] at hl hm
    have ea : A[k]? = some q := by
      have := ha 0 (by simp)
      simpa using this
    have en : N[k]? = some n := by
      have := hn 0 (by simp)
      simpa using this
    have a1 : L2.atI (RL A) (k : Int) = some (D.lst (I q.2)) := by
      rw [atI_nat (by omega) (by rw [RL_len]; omega)]
      have := hq q List.mem_cons_self
      simp [RL, ea, RD, this]
    have a2 : L2.atI (I N) (k : Int) = some (D.int n) := by
      rw [atI_nat (by omega) (by rw [I_len]; omega)]
      simp [en]
    obtain ⟨ms, h1, h2⟩ := ih (k + 1) (fun q h => hq q (List.mem_cons_of_mem _ h)) (fun i hi => by
      have := ha (i + 1) (by simp; omega)
      rw [show k + 1 + i = k + (i + 1) from by omega, this]
      rfl) (fun i hi => by
      have := hn (i + 1) (by simp; omega)
      rw [show k + 1 + i = k + (i + 1) from by omega, this]
      rfl) (by omega) (by omega)
    have e0 := cost_ok q.2 n h.l0 h.l1 h.n0 h.s1 h.s2
    have e : le_law_costs_right_0 [some p, some P, some (.d (.lst (RL A))), some (.ol (I N)), o4, o5, none, none, none, none, some (.d (.int (k : Int))), none] = .ok (.d (.int (costV q.2 n))) [some p, some P, some (.d (.lst (RL A))), some (.ol (I N)), o4, o5, none, none, none, none, some (.d (.int (k : Int))), none] := by
      unfold le_law_costs_right_0
      simp [a1, a2, e0]
    rw [List.length_cons, rangeD_succ]
    refine ⟨_, lcL_step rfl rfl e h1, ?_⟩
    rw [List.map_cons, h2]
    rfl
theorem I_at {xs : List Int} {k : Nat} {d : D} (h : (I xs)[k]? = some d) : ∃ z ∈ xs, d = .int z := by
  rw [I_get] at h
  cases q : xs[k]? with
  | none => rw [q] at h; cases h
  | some z =>
    rw [q] at h
    cases h
    exact ⟨z, List.mem_of_getElem? q, rfl⟩
theorem okt3 (s : Str) (z : Int) : okS 12 (.tup [.str s, .int z, .bl true]) := ⟨by simp, by simp [okS]⟩
theorem okt4 (s : Str) (y z : Int) : okS 12 (.tup [.str s, .int y, .int z, .bl true]) := ⟨by simp, by simp [okS]⟩
theorem cr_odd {p R N o4 o5 c h w : Option M} {qs : Rw} (l : List Int) (hl : ∀ z ∈ l, ¬ (0 ≤ z ∧ z < (qs.length : Int))) (o : Option M) :
    ∃ o', loopF (gSet 9) lb_law_costs_right_1 (I l) [p, some (.d (PLd qs)), R, N, o4, o5, c, h, w, o, none, none] = .nx [p, some (.d (PLd qs)), R, N, o4, o5, c, h, w, o', none, none] := by
  have key := loopF_inv (fun o => [p, some (.d (PLd qs)), R, N, o4, o5, c, h, w, o, none, none]) (set := gSet 9) (body := lb_law_costs_right_1) (I l) (fun _ _ => True) o trivial (by
    intro k d s hd _
    obtain ⟨z, hz, rfl⟩ := I_at hd
    have e1 := lprice_no qs z 0 (hl z hz)
    have e2 := same_ok _ (okt3 "NoPerson" z)
    refine ⟨_, some (.d (.int z)), rfl, .inl ?_, trivial⟩
    unfold lb_law_costs_right_1
    simp [e1, e2])
  obtain ⟨o', e, _⟩ := key
  exact ⟨o', e⟩
theorem cr_night {p R N o5 c h w o9 : Option M} {qs : Rw} {j : Int} {b : Bool} {xs : List Int} (j0 : 0 ≤ j) (j1 : j < qs.length) (hx : qs[j.toNat]? = some (b, xs)) (x0 : 0 < xs.length) (l : List Int) (hl : ∀ z ∈ l, 1 ≤ z) (o : Option M) :
    ∃ o', loopF (gSet 11) lb_law_costs_right_2 (I l) [p, some (.d (PLd qs)), R, N, some (.d (.lst (I xs))), o5, c, h, w, o9, some (.d (.int j)), o] = .nx [p, some (.d (PLd qs)), R, N, some (.d (.lst (I xs))), o5, c, h, w, o9, some (.d (.int j)), o'] := by
  have key := loopF_inv (fun o => [p, some (.d (PLd qs)), R, N, some (.d (.lst (I xs))), o5, c, h, w, o9, some (.d (.int j)), o]) (set := gSet 11) (body := lb_law_costs_right_2) (I l) (fun _ _ => True) o trivial (by
    intro k d s hd _
    obtain ⟨z, hz, rfl⟩ := I_at hd
    have z1 := hl z hz
    obtain ⟨v, hv⟩ : ∃ v : Int, L2.atI (I xs) ((if (xs.length : Int) < z then (xs.length : Int) else z) - 1) = some (.int v) := by
      rw [atI_nat (by split <;> omega) (by rw [I_len]; split <;> omega), I_get, List.getElem?_eq_getElem (by split <;> omega)]
      exact ⟨_, rfl⟩
    have e1 := lprice_ok qs j z j0 j1 z1 b xs hx v hv
    have e2 := same_ok (.int v) trivial
    refine ⟨_, some (.d (.int z)), rfl, .inl ?_, trivial⟩
    unfold lb_law_costs_right_2
    simp [e1, e2, hv])
  obtain ⟨o', e, _⟩ := key
  exact ⟨o', e⟩
theorem rangeD_at {lo : Int} {n k : Nat} {d : D} (h : (rangeD lo n)[k]? = some d) : k < n ∧ d = .int (lo + (k : Int)) := by
  unfold rangeD at h
  rw [List.getElem?_map] at h
  by_cases hk : k < n
  · rw [List.getElem?_range hk] at h
    cases h
    exact ⟨hk, rfl⟩
  · rw [List.getElem?_eq_none (by rw [List.length_range]; omega)] at h
    cases h
theorem cr_person {N o5 c h w o9 : Option M} {rs : List (List Int)} (hr : ∀ xs ∈ rs, OkRow xs) (m : Nat) (hm : m ≤ rs.length) (n : Nat) (hn : n + m < 900000) (s : M × Option M × Option M × Option M) (hs : Pool n s.1) :
    ∃ s' : M × Option M × Option M × Option M, Pool (n + m) s'.1 ∧ loopF (gSet 10) lb_law_costs_right_3 (rangeD 0 m) [some s.1, some (.d (PLd (FR rs))), some (.d (.lst (RL (FR rs)))), N, s.2.1, o5, c, h, w, o9, s.2.2.1, s.2.2.2] = .nx [some s'.1, some (.d (PLd (FR rs))), some (.d (.lst (RL (FR rs)))), N, s'.2.1, o5, c, h, w, o9, s'.2.2.1, s'.2.2.2] := by
  have key := loopF_inv (fun s : M × Option M × Option M × Option M => [some s.1, some (.d (PLd (FR rs))), some (.d (.lst (RL (FR rs)))), N, s.2.1, o5, c, h, w, o9, s.2.2.1, s.2.2.2]) (set := gSet 10) (body := lb_law_costs_right_3) (rangeD 0 m) (fun k s => Pool (n + k) s.1) s hs (by
    intro k d s hd hp
    obtain ⟨hk, rfl⟩ := rangeD_at hd
    rw [Int.zero_add]
    have hkl : k < rs.length := by omega
    have hrow := hr rs[k] (List.getElem_mem hkl)
    obtain ⟨v, p1, hp1, v0, v1, e1⟩ := draw_ok hp (by omega) (k := (rs[k].length : Int)) (by have := hrow.1; omega) (dvOk_lit (by have := hrow.1; omega) (by have := hrow.2.1; omega))
    have ha : L2.atI (RL (FR rs)) (k : Int) = some (.lst (I rs[k])) := by
      rw [atI_nat (by omega) (by rw [RL_len, FR_len]; omega)]
      simp [RL, FR, hkl, RD]
    have hq : (FR rs)[(k : Int).toNat]? = some (false, rs[k]) := by
      simp [FR, hkl]
    have h1 := hrow.1
    obtain ⟨o', e2⟩ := cr_night (p := some p1) (R := some (.d (.lst (RL (FR rs))))) (N := N) (o5 := o5) (c := c) (h := h) (w := w) (o9 := o9) (qs := FR rs) (j := (k : Int)) (by omega) (by rw [FR_len]; omega) hq h1 [1, (rs[k].length : Int), (rs[k].length : Int) + 1, 1000000000000000000, 1 + v] (by
      intro z hz
      simp only [List.mem_cons, List.not_mem_nil, or_false] at hz
      omega) s.2.2.2
    have e3 := lprice_bad (FR rs) (k : Int) (0 - (k : Int)) (by omega) (by rw [FR_len]; omega) (by omega)
    have e4 := same_ok _ (okt4 "BadNumber" 0 (0 - (k : Int)))
    rw [Int.zero_sub] at e3 e4
    simp only [I_cons, I_nil] at e2
    refine ⟨_, (p1, some (.d (.lst (I rs[k]))), some (.d (.int (k : Int))), o'), rfl, .inl ?_, hp1⟩
    unfold lb_law_costs_right_3
    simp [sq_law_costs_right_0, sq_law_costs_right_1, sq_law_costs_right_2, sq_law_costs_right_3, sq_law_costs_right_4, sq_law_costs_right_5, sq_law_costs_right_6, sq_law_costs_right_7, sq_law_costs_right_8, sq_law_costs_right_9, sq_law_costs_right_10, sq_law_costs_right_11, sq_law_costs_right_12, sq_law_costs_right_13, m_law_costs_right, ha, e1, e2, e3, e4])
  obtain ⟨s', e, hp⟩ := key
  refine ⟨s', ?_, e⟩
  rw [show (rangeD 0 m).length = m from by unfold rangeD; simp] at hp
  exact hp
theorem costsV_len : ∀ {qs : Rw} {ns : List Int}, OkCs qs ns → (costsV qs ns).length = qs.length := by
  intro qs ns h
  induction h with
  | nil => rfl
  | cons _ _ ih => simp [costsV, ih]
theorem okI (n : Nat) (xs : List Int) (h : xs.length ≤ 1000) : okS (n + 2) (.lst (I xs)) := ⟨by simp; omega, fun x hx => by
  obtain ⟨z, _, rfl⟩ := List.mem_map.mp hx
  trivial⟩
theorem gSum_I (xs : List Int) : gSum [.d (.lst (I xs))] = some (.d (.int xs.sum)) := by
  show ((M.d (.lst (I xs))).intsL?).map (fun ns => M.d (.int ns.sum)) = _
  unfold M.intsL?
  simp only [seq_lst]
  rw [show ints? (I xs) = some xs from ints_map _]
  rfl
theorem gAdd_ol1 (xs ys : List D) (h : xs.length + ys.length ≤ lim) : gAdd (.ol xs) (.d (.lst ys)) = some (.ol (xs ++ ys)) := if_pos h
theorem cr_ok {n : Nat} {p : M} (hp : Pool n p) (hn : n < 100000) (rs : List (List Int)) (hi : initErr (FR rs) = none) : ∃ p', Pool (n + 1000) p' ∧ mir_law_costs_right [p, .d (PLd (FR rs)), .d (.lst (RL (FR rs)))] = .rt (.d (.bl true)) [p', .d (PLd (FR rs)), .d (.lst (RL (FR rs)))] := by
  obtain ⟨hl, he⟩ := initErr_none hi
  rw [FR_len] at hl
  have hr : ∀ xs ∈ rs, OkRow xs := fun xs hx => rowsErr_none (FR rs) 0 he (false, xs) (List.mem_map.mpr ⟨xs, hx, rfl⟩)
  obtain ⟨ns, p1, o4, o5, hp1, hc, e1⟩ := cr_loop (P := .d (PLd (FR rs))) (R := .d (.lst (RL (FR rs)))) rs [] n p none none hp (by omega) (by simp; omega) hr
  have hnl : ns.length = rs.length := by
    have := hc.len
    simpa using this
  obtain ⟨ms, e2, e3⟩ := cr_lc (p := p1) (P := .d (PLd (FR rs))) (o4 := o4) (o5 := o5) (A := FR rs) (N := ns) hc 0 (fun q hq => by
    obtain ⟨x, _, rfl⟩ := List.mem_map.mp hq
    rfl) (fun i _ => by rw [Nat.zero_add]) (fun i _ => by rw [Nat.zero_add]) (by omega) (by omega)
  rw [FR_len] at e2
  rw [show ((0 : Nat) : Int) = 0 from rfl] at e2
  have hcl : (costsV (FR rs) ns).length = rs.length := by
    have := costsV_len hc
    simpa using this
  have q1 := paid1 false (FR rs) ns hc (by rw [FR_len]; omega)
  have q2 := paid2 true (FR rs) ns hc (by rw [FR_len]; omega)
  have q3 := paid3 false true (FR rs) (ns ++ [0]) (by simp; omega)
  have q4 := paid3 false false (FR rs) (ns ++ [0]) (by simp; omega)
  simp only [RD, Bool.false_eq_true, if_false, if_true] at q1 q2 q3 q4
  have s1 := same_ok (.lst (I (costsV (FR rs) ns))) (okI 10 _ (by omega))
  have s2 := same_ok (.int (costsV (FR rs) ns).sum) trivial
  have s3 := same_ok (.lst [.tup [.str "WrongLength", .int ((rs.length : Int) + 1), .int (rs.length : Int), .bl true], .tup [.str "WrongLength", .int ((rs.length : Int) + 1), .int (rs.length : Int), .bl true]]) ⟨by simp, by simp [okS]⟩
  obtain ⟨o9, e5⟩ := cr_odd (p := some p1) (R := some (.d (.lst (RL (FR rs))))) (N := some (.ol (I ns))) (o4 := o4) (o5 := o5) (c := some (.d (.lst (I (costsV (FR rs) ns))))) (h := some (.d (.lst (I ns)))) (w := some (.d (.tup [.str "WrongLength", .int ((rs.length : Int) + 1), .int (rs.length : Int), .bl true]))) (qs := FR rs) [-1, (rs.length : Int)] (by
    intro z hz
    simp only [List.mem_cons, List.not_mem_nil, or_false] at hz
    rw [FR_len]
    omega) none
  obtain ⟨s', hp', e6⟩ := cr_person (N := some (.ol (I ns))) (o5 := o5) (c := some (.d (.lst (I (costsV (FR rs) ns))))) (h := some (.d (.lst (I ns)))) (w := some (.d (.tup [.str "WrongLength", .int ((rs.length : Int) + 1), .int (rs.length : Int), .bl true]))) (o9 := o9) hr (if (rs.length : Int) < 6 then (rs.length : Int) else 6).toNat (by split <;> omega) (n + 3 * rs.length) (by split <;> omega) (p1, o4, none, none) hp1
  have hrg : rOk (rs.length : Int) := rOk_lit (by omega) (by omega)
  have hrg2 : rOk (if (rs.length : Int) < 6 then (rs.length : Int) else 6) := rOk_lit (by split <;> omega) (by split <;> omega)
  have hlm : (rangeD 0 rs.length).length ≤ lim := by
    unfold rangeD
    simp only [List.length_map, List.length_range]
    exact lim_lit (by omega)
  have hlm2 : (I ns).length + [D.int 0].length ≤ lim := lim_lit (by simp; omega)
  have g1 := gAdd_ol1 (I ns) [.int 0] hlm2
  have g2 := gSum_I (costsV (FR rs) ns)
  have t1 : I (ns ++ [0]) = I ns ++ [.int 0] := by simp
  rw [t1] at q3 q4
  have hln : (ns ++ [0]).length = rs.length + 1 := by simp; omega
  rw [hln, FR_len] at q3 q4
  have c1 : ((rs.length + 1 : Nat) : Int) = (rs.length : Int) + 1 := by omega
  rw [c1] at q3 q4
  simp only [List.nil_append, I_nil, I_cons] at e1 e5
  refine ⟨s'.1, hp'.le (by split <;> omega), ?_⟩
  unfold mir_law_costs_right
  rw [runB_ev]
  simp [sq_law_costs_right_0, sq_law_costs_right_1, sq_law_costs_right_2, sq_law_costs_right_3, sq_law_costs_right_4, sq_law_costs_right_5, sq_law_costs_right_6, sq_law_costs_right_7, sq_law_costs_right_8, sq_law_costs_right_9, sq_law_costs_right_10, sq_law_costs_right_11, sq_law_costs_right_12, sq_law_costs_right_13, m_law_costs_right, e1, e2, e3, hrg, hlm, q1, q2, q3, q4, s1, s2, s3, g1, g2, e5, e6, hrg2]
/-! ### changed right -/
theorem RL_take (qs : Rw) (k : Nat) : (RL qs).take k = RL (qs.take k) := by simp [RL, List.map_take]
theorem RL_split (rs : List (List Int)) (j : Nat) (zs : List Int) (h : j < rs.length) : (RL (FR rs)).take j ++ [D.lst (I zs)] ++ (RL (FR rs)).drop (j + 1) = RL (FR (rs.set j zs)) := by
  rw [set_split _ _ _ (by rw [RL_len, FR_len]; exact h)]
  unfold RL FR
  rw [List.map_set, List.map_set]
  rfl
theorem ch_ok {n : Nat} {p : M} (hp : Pool n p) (hn : n < 100000) (rs : List (List Int)) (hi : initErr (FR rs) = none) : ∃ p', mir_law_changed_right [p, .d (PLd (FR rs)), .d (.lst (RL (FR rs)))] = .rt (.d (.bl true)) [p', .d (PLd (FR rs)), .d (.lst (RL (FR rs)))] := by
  obtain ⟨hl, he⟩ := initErr_none hi
  rw [FR_len] at hl
  have hr : ∀ xs ∈ rs, OkRow xs := fun xs hx => rowsErr_none (FR rs) 0 he (false, xs) (List.mem_map.mpr ⟨xs, hx, rfl⟩)
  obtain ⟨xs, p1, hp1, xl, e1⟩ := row_ok hp (by omega)
  obtain ⟨v2, p2, hp2, a2, b2, e2⟩ := draw_ok hp1 (by omega) (k := 3) (by omega) (by simp)
  have key : ∀ (m : Nat) (q : M) (zs : List Int), Pool m q → m ≤ n + 200 → zs.length ≤ 64 → ∃ p', fin [0] [p, .d (PLd (FR rs)), .d (.lst (RL (FR rs)))] (sq_law_changed_right_8 [some q, some (.d (PLd (FR rs))), some (.d (.lst (RL (FR rs)))), some (.ol (I zs)), none, none, none, none, none]) = .rt (.d (.bl true)) [p', .d (PLd (FR rs)), .d (.lst (RL (FR rs)))] := by
    intro m q zs hq hm zl
    have odd : ∀ (l : List Int), (∀ z ∈ l, ¬ (0 ≤ z ∧ z < (rs.length : Int))) → ∃ o', loopF (gSet 4) lb_law_changed_right_0 (I l) [some q, some (.d (PLd (FR rs))), some (.d (.lst (RL (FR rs)))), some (.ol (I zs)), none, none, none, none, none] = .nx [some q, some (.d (PLd (FR rs))), some (.d (.lst (RL (FR rs)))), some (.ol (I zs)), o', none, none, none, none] := by
      intro l h
      have key := loopF_inv (fun o => [some q, some (.d (PLd (FR rs))), some (.d (.lst (RL (FR rs)))), some (.ol (I zs)), o, none, none, none, none]) (set := gSet 4) (body := lb_law_changed_right_0) (I l) (fun _ _ => True) none trivial (by
        intro k d s hd _
        obtain ⟨z, hz, rfl⟩ := I_at hd
        have e1 := other_no (FR rs) z (by rw [FR_len]; exact h z hz) false []
        simp only [RD, Bool.false_eq_true, if_false, I_nil] at e1
        have e2 := same_ok _ (okt3 "NoPerson" z)
        refine ⟨_, some (.d (.int z)), rfl, .inl ?_, trivial⟩
        unfold lb_law_changed_right_0
        simp [e1, e2])
      obtain ⟨o', e, _⟩ := key
      exact ⟨o', e⟩
    obtain ⟨o', e3⟩ := odd [-1, (rs.length : Int)] (by
      intro z hz
      simp only [List.mem_cons, List.not_mem_nil, or_false] at hz
      omega)
    simp only [I_nil, I_cons] at e3
    by_cases h0 : rs.length = 0
    · refine ⟨q, ?_⟩
      rw [h0] at e3
      simp only [Int.ofNat_zero, Int.natCast_zero] at e3
      simp [sq_law_changed_right_0, sq_law_changed_right_1, sq_law_changed_right_2, sq_law_changed_right_3, sq_law_changed_right_4, sq_law_changed_right_5, sq_law_changed_right_6, sq_law_changed_right_7, sq_law_changed_right_8, sq_law_changed_right_9, m_law_changed_right, e3, h0]
    · have h0' : ¬ ((rs.length : Int) = 0) := by omega
      obtain ⟨v, p4, hp4, v0, v1, e4⟩ := draw_ok hq (by omega) (k := (rs.length : Int)) (by omega) (dvOk_lit (by omega) (by omega))
      have hv : v.toNat < rs.length := by omega
      have e5 := other_ok (FR rs) v v0 (by rw [FR_len]; exact v1) false zs
      have e6 := initErr_set (FR rs) v.toNat false zs hi (by rw [FR_len]; exact hv)
      have e7 := rd_ok v false zs (by omega)
      have hfl := flat_madeR ((tupR (FR rs)).set v.toNat (false, zs))
      simp only [RD, Bool.false_eq_true, if_false] at e5 e7
      have hzl : zs.length < lim := lim_lit2 (by omega)
      have e8 : ((v.toNat : Nat) : Int) = v := by omega
      rw [e8] at e6
      refine ⟨p4, ?_⟩
      cases q1 : rowErr v zs with
      | some er =>
        rw [q1] at e6 e7
        have em : madeR ((tupR (FR rs)).set v.toNat (false, zs)) = .d er.tup := by
          unfold madeR
          rw [e6]
        rw [em] at e5 hfl
        have hn : (M.d er.tup).isN = false := by cases er <;> rfl
        have es := same_ok er.tup (tup_ok er 10)
        simp [sq_law_changed_right_0, sq_law_changed_right_1, sq_law_changed_right_2, sq_law_changed_right_3, sq_law_changed_right_4, sq_law_changed_right_5, sq_law_changed_right_6, sq_law_changed_right_7, sq_law_changed_right_8, sq_law_changed_right_9, m_law_changed_right, e3, h0, h0', e4, e5, hfl, hzl, e7, errD, hn, es]
      | none =>
        rw [q1] at e6 e7
        have em : madeR ((tupR (FR rs)).set v.toNat (false, zs)) = PLm ((tupR (FR rs)).set v.toNat (false, zs)) := by
          unfold madeR
          rw [e6]
        rw [em] at e5 hfl
        have c1 := cut_lo (RL (FR rs)) v0 (by rw [RL_len, FR_len]; omega)
        have c2 := cut_hi (RL (FR rs)) (k := v + 1) (by omega) (by rw [RL_len, FR_len]; omega)
        have c3 := RL_split rs v.toNat zs hv
        have c4 : (v + 1).toNat = v.toNat + 1 := by omega
        rw [c4] at c2
        have g1 := gAdd_lst ((RL (FR rs)).take v.toNat) [.lst (I zs)] (lim_lit (by simp; omega))
        have g2 := gAdd_lst ((RL (FR rs)).take v.toNat ++ [.lst (I zs)]) ((RL (FR rs)).drop (v.toNat + 1)) (lim_lit (by simp; omega))
        rw [c3] at g2
        have hs2 : ∀ q ∈ FR rs, q.2.length ≤ 1000 := fun q hq => by
          obtain ⟨x, hx, rfl⟩ := List.mem_map.mp hq
          have := (hr x hx).2.1
          show x.length ≤ 1000
          omega
        have i1 := is_ok false ((tupR (FR rs)).set v.toNat (false, zs)) (FR (rs.set v.toNat zs)) (by
          unfold tupR FR
          rw [List.map_set, List.map_set, List.map_set, List.map_map, List.map_map, List.map_map]
          rfl) (by simp [tupR]; omega) (fun q hq => by
          rcases List.mem_or_eq_of_mem_set hq with hq | rfl
          · obtain ⟨x, hx, rfl⟩ := List.mem_map.mp hq
            exact hs2 x hx
          · show zs.length ≤ 1000
            omega)
        have i2 := is_ok false (FR rs) (FR rs) rfl (by rw [FR_len]; omega) hs2
        simp only [RS, Bool.false_eq_true, if_false] at i1 i2
        simp [sq_law_changed_right_0, sq_law_changed_right_1, sq_law_changed_right_2, sq_law_changed_right_3, sq_law_changed_right_4, sq_law_changed_right_5, sq_law_changed_right_6, sq_law_changed_right_7, sq_law_changed_right_8, sq_law_changed_right_9, m_law_changed_right, e3, h0, h0', e4, e5, hfl, hzl, e7, errD, c1, c2, g1, g2, i1, i2]
  unfold mir_law_changed_right
  rw [runB_ev]
  by_cases h : v2 = 2
  · obtain ⟨ys, p3, hp3, yl, e3⟩ := bent_ok hp2 (by omega) xs (by omega)
    obtain ⟨p', e⟩ := key (n + 200) p3 ys (hp3.le (by omega)) (by omega) (by omega)
    refine ⟨p', ?_⟩
    rw [← e]
    unfold m_law_changed_right sq_law_changed_right_9
    simp [e1, e2, e3, h]
  · obtain ⟨p', e⟩ := key (n + 200) p2 xs (hp2.le (by omega)) (by omega) (by omega)
    refine ⟨p', ?_⟩
    rw [← e]
    unfold m_law_changed_right sq_law_changed_right_9
    simp [e1, e2, h]
/-! ### the law -/
theorem madeR_congr {qs rs : Rw} (h : qs.map (·.2) = rs.map (·.2)) : madeR qs = madeR rs := by
  unfold madeR
  rw [initErr_congr h]
  have : rowsT qs = rowsT rs := by
    have := congrArg (List.map fun xs => D.tup (I xs)) h
    rw [List.map_map, List.map_map] at this
    show D.tup _ = D.tup _
    exact congrArg D.tup this
  show (match initErr rs with
    | none => M.oo "PriceList" [("rows", .d (rowsT qs))]
    | some e => M.d e.tup) = match initErr rs with
    | none => M.oo "PriceList" [("rows", .d (rowsT rs))]
    | some e => M.d e.tup
  rw [this]
theorem hd_lc {s p pr c7 : Option M} {R : M} {o4 o6 o8 : Option M} : ∀ (rs : List (List Int)), lcL (gSet 5) tOne le_law_0 id [5] (RL (FR rs)) [s, p, some R, none, o4, none, o6, c7, o8, none, none] = some (rs.map fun xs => M.ol (I xs), [s, p, some R, none, o4, none, o6, c7, o8, none, none])
  | [] => rfl
  | xs :: rs => by
    have e : le_law_0 [s, p, some R, none, o4, some (.d (.lst (I xs))), o6, c7, o8, none, none] = .ok (.ol (I xs)) [s, p, some R, none, o4, some (.d (.lst (I xs))), o6, c7, o8, none, none] := by
      unfold le_law_0
      simp
    exact lcL_step rfl rfl e (hd_lc (pr := pr) rs)
theorem tp_lc {s p : Option M} {R H : M} {o4 o6 c7 o8 : Option M} : ∀ (rs : List (List Int)), lcL (gSet 5) tOne le_law_1 fzD [5] (RL (FR rs)) [s, p, some R, some H, o4, none, o6, c7, o8, none, none] = some (rs.map fun xs => M.d (.tup (I xs)), [s, p, some R, some H, o4, none, o6, c7, o8, none, none])
  | [] => rfl
  | xs :: rs => by
    have e : le_law_1 [s, p, some R, some H, o4, some (.d (.lst (I xs))), o6, c7, o8, none, none] = .ok (.d (.tup (I xs))) [s, p, some R, some H, o4, some (.d (.lst (I xs))), o6, c7, o8, none, none] := by
      unfold le_law_1
      simp
    exact lcL_step rfl rfl e (tp_lc rs)
theorem on_loop {s p r o4 o6 c7 o8 : Option M} : ∀ (rs : List (List Int)), (∀ xs ∈ rs, xs.length ≤ 64) → loopOn 5 lb_law_0 (rs.map fun xs => M.ol (I xs)) [s, p, r, none, o4, none, o6, c7, o8, none, none] = some (rs.map fun xs => M.ol (I (xs ++ [7])), [s, p, r, none, o4, none, o6, c7, o8, none, none])
  | [], _ => rfl
  | xs :: rs, h => by
    have hx := h xs List.mem_cons_self
    have hl : xs.length < lim := lim_lit2 (by omega)
    have e : lb_law_0 [s, p, r, none, o4, some (.ol (I xs)), o6, c7, o8, none, none] = .nx [s, p, r, none, o4, some (.ol (I (xs ++ [7]))), o6, c7, o8, none, none] := by
      unfold lb_law_0
      simp [hl]
    rw [List.map_cons, loopOn]
    show (match lb_law_0 [s, p, r, none, o4, some (.ol (I xs)), o6, c7, o8, none, none] with
      | .nx ε1 => (match ε1[5]? with
        | some (some m') => (match loopOn 5 lb_law_0 (rs.map fun xs => M.ol (I xs)) (ε1.set 5 none) with
          | some (r, ε2) => some (m' :: r, ε2)
          | none => none)
        | _ => none)
      | _ => none) = _
    rw [e]
    show (match loopOn 5 lb_law_0 (rs.map fun xs => M.ol (I xs)) [s, p, r, none, o4, none, o6, c7, o8, none, none] with
          | some (r, ε2) => some (M.ol (I (xs ++ [7])) :: r, ε2)
          | none => none) = _
    rw [on_loop rs fun ys hy => h ys (List.mem_cons_of_mem _ hy)]
    rfl
theorem forOn_ok {s p r o4 o6 c7 o8 : Option M} (rs : List (List Int)) (h : ∀ xs ∈ rs, xs.length ≤ 64) : sForOn 3 5 lb_law_0 [s, p, r, some (.on (rs.map fun xs => M.ol (I xs))), o4, none, o6, c7, o8, none, none] = .nx [s, p, r, some (.on (rs.map fun xs => M.ol (I (xs ++ [7])))), o4, none, o6, c7, o8, none, none] := by
  show (match loopOn 5 lb_law_0 (rs.map fun xs => M.ol (I xs)) [s, p, r, none, o4, none, o6, c7, o8, none, none] with
    | some (ms', ε') => SOut.nx (ε'.set 3 (some (.on ms')))
    | none => .bad) = _
  rw [on_loop rs h]
  rfl
theorem appN_ok {s p r o4 o5 o6 c7 o8 o9 o10 : Option M} (ms : List M) (h : ms.length < lim) : eAppN 3 (aCons (oV (eDisp .ol (aCons (oV (eC (.int 1))) aNil))) aNil) [s, p, r, some (.on ms), o4, o5, o6, c7, o8, o9, o10] = .ok (.d .non) [s, p, r, some (.on (ms ++ [.d (.lst [.int 1])])), o4, o5, o6, c7, o8, o9, o10] := by
  have h1 : (1 : Nat) ≤ lim := lim_lit (by omega)
  have e : (aCons (oV (eDisp .ol (aCons (oV (eC (.int 1))) aNil))) aNil) [s, p, r, some (.on ms), o4, o5, o6, c7, o8, o9, o10] = .ok [.val (.lst [.int 1])] [s, p, r, some (.on ms), o4, o5, o6, c7, o8, o9, o10] := by
    simp [h1]
  unfold eAppN
  simp only [List.getElem?_cons_succ, List.getElem?_cons_zero]
  rw [e]
  show (if ms.length < lim then Out.ok (M.d .non) _ else .bad) = _
  rw [if_pos h]
  rfl
theorem costs_lc {s r h4 o3 o5 o6 c7 o8 : Option M} : ∀ (l : List D) (n : Nat) (p : M), Pool n p → n + l.length < 900000 → ∃ cs p' ms, Pool (n + l.length) p' ∧ cs.length = l.length ∧ ms.map M.toD = I cs ∧
    lcL (gSet 9) tOne le_law_2 fzD [9] l [s, some p, r, o3, h4, o5, o6, c7, o8, none, none] = some (ms, [s, some p', r, o3, h4, o5, o6, c7, o8, none, none])
  | [], n, p, hp, _ => ⟨[], p, [], hp, rfl, rfl, rfl⟩
  | x :: l, n, p, hp, hn => by
    simp only [List.length_cons] at hn
    obtain ⟨v, p1, hp1, _, _, e1⟩ := draw_ok hp (by omega) (k := 9) (by omega) (by simp)
    obtain ⟨cs, p', ms, h1, h2, h3, h4'⟩ := costs_lc (s := s) (r := r) (h4 := h4) (o3 := o3) (o5 := o5) (o6 := o6) (c7 := c7) (o8 := o8) l (n + 1) p1 hp1 (by omega)
    have e : le_law_2 [s, some p, r, o3, h4, o5, o6, c7, o8, some (.d x), none] = .ok (.d (.int v)) [s, some p1, r, o3, h4, o5, o6, c7, o8, some (.d x), none] := by
      unfold le_law_2
      simp [e1]
    refine ⟨v :: cs, p', _, h1.le (by simp only [List.length_cons]; omega), by simp [h2], ?_, lcL_step rfl rfl e h4'⟩
    rw [List.map_cons, h3]
    rfl
theorem each_lc {s p r o3 h4 o5 o6 c7 o8 : Option M} : ∀ (cs : List Int), ∃ ms, ms.map M.toD = RL (cs.map fun c => (false, [c])) ∧ lcL (gSet 10) tOne le_law_3 fzD [10] (I cs) [s, p, r, o3, h4, o5, o6, c7, o8, none, none] = some (ms, [s, p, r, o3, h4, o5, o6, c7, o8, none, none])
  | [] => ⟨[], rfl, rfl⟩
  | x :: l => by
    obtain ⟨ms, h3, h4'⟩ := each_lc (s := s) (p := p) (r := r) (o3 := o3) (h4 := h4) (o5 := o5) (o6 := o6) (c7 := c7) (o8 := o8) l
    have h1 : (1 : Nat) ≤ lim := lim_lit (by omega)
    have e : le_law_3 [s, p, r, o3, h4, o5, o6, c7, o8, none, some (.d (.int x))] = .ok (.ol [.int x]) [s, p, r, o3, h4, o5, o6, c7, o8, none, some (.d (.int x))] := by
      unfold le_law_3
      simp [h1]
    refine ⟨_, ?_, lcL_step rfl rfl e h4'⟩
    rw [List.map_cons, h3]
    rfl
theorem toDs_ol : ∀ rs : List (List Int), M.toDs (rs.map fun xs => M.ol (I xs)) = RL (FR rs)
  | [] => rfl
  | xs :: rs => by
    rw [List.map_cons]
    show D.lst (I xs) :: M.toDs (rs.map fun xs => M.ol (I xs)) = _
    rw [toDs_ol rs]
    rfl
theorem listMs_ol : ∀ rs : List (List Int), listMs (rs.map fun xs => M.ol (I xs)) = true
  | [] => rfl
  | xs :: rs => by
    rw [List.map_cons]
    show (listM (.ol (I xs)) && listMs (rs.map fun xs => M.ol (I xs))) = true
    rw [listMs_ol rs]
    rfl
theorem rep_flat (n : Nat) (d : D) : (List.replicate n [d]).flatten = List.replicate n d := by
  induction n with
  | zero => rfl
  | succ n ih => rw [List.replicate_succ, List.flatten_cons, ih]; rfl
theorem gMul_rep (d : D) (n : Int) (h0 : 0 ≤ n) (h1 : n ≤ 1000) : gMul (.d (.lst [d])) (.d (.int n)) = some (.ol (List.replicate n.toNat d)) := by
  have h : -(2 ^ 62) ≤ n ∧ n ≤ 2 ^ 62 ∧ [d].length * n.toNat ≤ lim := by
    refine ⟨by omega, by omega, lim_lit ?_⟩
    simp
    omega
  refine (if_pos h).trans ?_
  rw [rep_flat]
theorem law_tail2 (ns : List Int) (rs : List (List Int)) (hl : rs.length ≤ 40) (hs : ∀ xs ∈ rs, xs.length ≤ 64) (hnl : ns.length ≤ 63) (h3 : M) (o5 o9 o10 : Option M) (c6 c7 : Option M) {n : Nat} {p : M} (hp : Pool n p) (hn : n < 50000) :
    ∃ outs, fin [] [.d (.rl ns)] (sq_law_3 [some (.d (.rl ns)), some p, some (.d (.lst (RL (FR rs)))), some h3, some (madeR (FR rs)), o5, c6, c7, none, o9, o10]) = .rt (.d (.bl true)) outs := by
  have ed := due_ok false (FR rs) (by rw [FR_len]; omega) (fun q hq => by
    obtain ⟨x, hx, rfl⟩ := List.mem_map.mp hq
    have := hs x hx
    show x.length ≤ 1000
    omega)
  simp only [RS, Bool.false_eq_true, if_false] at ed
  cases q : initErr (FR rs) with
  | some er =>
    have em : madeR (FR rs) = .d er.tup := by
      unfold madeR
      rw [q]
    rw [em]
    rw [q] at ed
    have hn : (M.d er.tup).isN = false := by cases er <;> rfl
    have es := same_ok er.tup (tup_ok er 10)
    exact ⟨[.d (.rl ns)], by simp [sq_law_0, sq_law_1, sq_law_2, sq_law_3, sq_law_4, sq_law_5, sq_law_6, sq_law_7, sq_law_8, sq_law_9, sq_law_10, sq_law_11, sq_law_12, sq_law_13, sq_law_14, sq_law_15, m_law, ed, errD, hn, es]⟩
  | none =>
    have em : madeR (FR rs) = PLm (FR rs) := by
      unfold madeR
      rw [q]
    rw [em]
    rw [q] at ed
    have i2 := is_ok false (FR rs) (FR rs) rfl (by rw [FR_len]; omega) (fun q hq => by
      obtain ⟨x, hx, rfl⟩ := List.mem_map.mp hq
      have := hs x hx
      show x.length ≤ 1000
      omega)
    simp only [RS, Bool.false_eq_true, if_false] at i2
    obtain ⟨p1, hp1, e1⟩ := cr_ok hp (by omega) rs q
    obtain ⟨p2, e2⟩ := ch_ok hp1 (by omega) rs q
    exact ⟨[.d (.rl ns)], by simp [sq_law_0, sq_law_1, sq_law_2, sq_law_3, sq_law_4, sq_law_5, sq_law_6, sq_law_7, sq_law_8, sq_law_9, sq_law_10, sq_law_11, sq_law_12, sq_law_13, sq_law_14, sq_law_15, m_law, ed, errD, i2, e1, e2]⟩
theorem law_tail1 (ns : List Int) (rs : List (List Int)) (hl : rs.length ≤ 40) (hs : ∀ xs ∈ rs, xs.length ≤ 64) (hnl : ns.length ≤ 63) (h3 : M) (p0 : M) :
    ∃ outs, fin [] [.d (.rl ns)] (sq_law_10 [some (.d (.rl ns)), some p0, some (.d (.lst (RL (FR rs)))), some h3, some (madeR (FR rs)), none, none, none, none, none, none]) = .rt (.d (.bl true)) outs := by
  obtain ⟨p, hp, e0⟩ := pool_ok ns (i := 1) (by omega) hnl
  rw [show ((1 : Nat) : Int) = 1 from rfl] at e0
  obtain ⟨v1, p1, hp1, a1, b1, e1⟩ := draw_ok hp (by omega) (k := 34) (by omega) (by simp)
  have hrl : (rangeD 0 v1.toNat).length = v1.toNat := by
    unfold rangeD
    simp
  obtain ⟨cs, p2, ms, hp2, hc, e2, e3⟩ := costs_lc (s := some (.d (.rl ns))) (r := some (.d (.lst (RL (FR rs))))) (h4 := some (madeR (FR rs))) (o3 := some h3) (o5 := none) (o6 := none) (c7 := none) (o8 := none) (rangeD 0 v1.toNat) 11 p1 hp1 (by omega)
  rw [hrl] at hp2 hc
  obtain ⟨ms2, e4, e5⟩ := each_lc (s := some (.d (.rl ns))) (p := some p2) (r := some (.d (.lst (RL (FR rs))))) (o3 := some h3) (h4 := some (madeR (FR rs))) (o5 := none) (o6 := some (.d (.lst (I cs)))) (c7 := none) (o8 := none) cs
  have f1 := mr_ok 1 0 cs (cs.map fun c => (false, [c])) (cs.map fun c => (false, [c])) false (made1 false cs (by omega) 0) rfl (by omega) (by simp; omega) (fun q hq => by
    obtain ⟨x, hx, rfl⟩ := List.mem_map.mp hq
    show [x].length ≤ 1000
    simp)
  obtain ⟨xs, p3, hp3, xl, e6⟩ := row_ok hp2 (by omega)
  obtain ⟨ys, p4, hp4, yl, e7⟩ := bent_ok hp3 (by omega) xs (by omega)
  obtain ⟨v2, p5, hp5, a2, b2, e8⟩ := draw_ok hp4 (by omega) (k := 41) (by omega) (by simp)
  have f2 := mr_ok 2 v2 ys (List.replicate v2.toNat (false, ys)) (List.replicate v2.toNat (false, ys)) false (made2' v2 a2 false ys) rfl (by omega) (by simp; omega) (fun q hq => by
    rw [List.eq_of_mem_replicate hq]
    show ys.length ≤ 1000
    omega)
  have g1 := gMul_rep (.lst (I ys)) v2 a2 (by omega)
  have rl : RL (List.replicate v2.toNat (false, ys)) = List.replicate v2.toNat (.lst (I ys)) := by simp [RL, RD]
  have f3 := made2 1000000000 (by omega) false [1, 2]
  rw [if_pos (by omega)] at f3
  have f4 := same_ok (.tup [.str "TooLong", .int 1000000000, .bl true, .bl false]) ⟨by simp, by simp [okS]⟩
  simp only [RD, RS, Bool.false_eq_true, if_false, I_cons, I_nil, PErr.tup, rl] at f1 f2 f3
  obtain ⟨outs, ef⟩ := law_tail2 ns rs hl hs hnl h3 (some (.d (.lst (I ys)))) none none (some (.d (.lst (I cs)))) (some (.d (.int v2))) hp5 (by omega)
  refine ⟨outs, ?_⟩
  rw [← ef]
  have hro : rOk v1 := rOk_lit (by omega) (by omega)
  have hl1 : (rangeD 0 v1.toNat).length ≤ lim := lim_lit (by omega)
  have hl2 : cs.length ≤ lim := lim_lit (by omega)
  have hb1 : (1 : Nat) ≤ lim := lim_lit (by omega)
  have hb2 : (2 : Nat) ≤ lim := lim_lit (by omega)
  have hb4 : (4 : Nat) ≤ lim := lim_lit (by omega)
  simp [sq_law_10, sq_law_9, sq_law_8, sq_law_7, sq_law_6, sq_law_5, sq_law_4, e0, e1, hro, hl1, e2, e3, hl2, e4, e5, f1, e6, e7, e8, hb1, hb2, hb4, g1, f2, f3, f4]
theorem law_ok (ns : List Int) (hnl : ns.length ≤ 63) : ∃ outs, mir_law [.d (.rl ns)] = .rt (.d (.bl true)) outs := by
  obtain ⟨p, hp, e0⟩ := pool_ok ns (i := 0) (by omega) hnl
  rw [show ((0 : Nat) : Int) = 0 from rfl] at e0
  obtain ⟨rs, p1, hp1, hl, hs, e1⟩ := rows_ok hp (by omega)
  obtain ⟨v, p2, hp2, a2, b2, e2⟩ := draw_ok hp1 (by omega) (k := 2) (by omega) (by simp)
  have f1 := hd_lc (s := some (.d (.rl ns))) (p := some p1) (pr := none) (c7 := none) (R := .d (.lst (RL (FR rs)))) (o4 := none) (o6 := none) (o8 := none) rs
  have f2 := tp_lc (s := some (.d (.rl ns))) (p := some p2) (R := .d (.lst (RL (FR rs)))) (H := .on (rs.map fun xs => M.ol (I xs))) (o4 := none) (o6 := none) (c7 := none) (o8 := none) rs
  have m1 := made0 false (FR rs) 0
  have m2 := made0 true (rs.map fun xs => (true, xs)) 0
  have mc : madeR (rs.map fun xs => (true, xs)) = madeR (FR rs) := madeR_congr (by unfold FR; rw [List.map_map, List.map_map]; rfl)
  rw [mc] at m2
  have rt : RL (rs.map fun xs => (true, xs)) = rs.map fun xs => D.tup (I xs) := by
    unfold RL
    rw [List.map_map]
    rfl
  simp only [RS, Bool.false_eq_true, if_false, if_true, rt] at m1 m2
  have hl1 : rs.length ≤ lim := lim_lit (by omega)
  have hl2 : rs.length < lim := lim_lit2 (by omega)
  have f3 := forOn_ok (s := some (.d (.rl ns))) (p := some p2) (r := some (.d (.lst (RL (FR rs))))) (o4 := some (madeR (FR rs))) (o6 := none) (c7 := none) (o8 := none) rs hs
  have f4 := appN_ok (s := some (.d (.rl ns))) (p := some p2) (r := some (.d (.lst (RL (FR rs))))) (o4 := some (madeR (FR rs))) (o5 := none) (o6 := none) (c7 := none) (o8 := none) (o9 := none) (o10 := none) (rs.map fun xs => M.ol (I (xs ++ [7]))) (by simpa using hl2)
  have hfl := flat_madeR (FR rs)
  have hlm := listMs_ol rs
  have htd := toDs_ol rs
  have hmm : (rs.map fun xs => M.d (.tup (I xs))).map M.toD = rs.map fun xs => D.tup (I xs) := by
    rw [List.map_map]
    rfl
  obtain ⟨outs, ef⟩ := law_tail1 ns rs hl hs hnl (.on ((rs.map fun xs => M.ol (I (xs ++ [7]))) ++ [.d (.lst [.int 1])])) p2
  refine ⟨outs, ?_⟩
  simp only [I_append, I_cons, I_nil] at f3 f4 ef
  unfold mir_law
  rw [runB_ev]
  by_cases h : v = 1
  · simp [m_law, sq_law_15, sq_law_14, sq_law_13, sq_law_12, sq_law_11, e0, e1, e2, h, f1, f2, m2, hl1, hmm, f3, f4, ef]
  · simp [m_law, sq_law_15, sq_law_14, sq_law_13, sq_law_12, sq_law_11, e0, e1, e2, h, f1, m1, hl1, hlm, htd, hfl, f3, f4, ef]
theorem law_holds : ∀ ns : List Int, ns.length ≤ 63 → (∀ z ∈ ns, Builtin.Int.intBits z ≤ 1048576) → ∃ outs, mir_law [.d (.rl ns)] = .rt (.d (.bl true)) outs := fun ns h _ => law_ok ns h
end K79
set_option maxRecDepth 100000 in
set_option maxHeartbeats 0 in
theorem PySem.Challenge.cw_restnights_k79_price_lists_hold_holds : PySem.Challenge.rw_restnights_k79_price_lists_hold.Holds :=
  K79.holds_of K79.law_holds
