import PyProof.Rows.All
import Wide.All
import OpenK.AllK
import Wide.FinOn
import KE.KDictKeyed
import KE.SortData
import HandS.ForExc
import HandS.ForMost
import HandS.Conv
import HandS.Defaults
import HandS.TupAny
import HandS.TupMul
import HandS.IsInst
import HandS.Style
import HandS.Deep
import HandS.Flow
import KE.GoesEnum
import HandS.Iter
import HandS.Zip
import HandS.Rev
import HandS.Comp
import HandS.Codes
import HandS.TupLe
import HandS.SortInts
import KE.KDictPairs
import HandS.Head0
import HandS.Head1
import HandS.Head2
import HandS.HeadEnd
import HandS.HeadHook1
import HandS.HeadHook2
import PySem.Challenge.RW_leastmodels_k20_main_free_brackets_count
set_option Elab.async false
set_option linter.all false
set_option maxRecDepth 100000
set_option maxHeartbeats 0
/-! G1: pure data D, owned data O, how they stand in the abstract heap; environments; steps. -/
namespace G
open PySem L2

/-- data: never changed from here on -/
inductive D where
  | non | bl (b : Bool) | int (i : Int) | str (x : Str)
  | tup (xs : List D) | lst (xs : List D) | dct (ks vs : List D)
  /-- a list of another's: it may be read alone -/
  | kst (xs : List D)
/-- what one slot owns: it may be changed -/
inductive O where
  | d (x : D) | lst (xs : List O) | dct (ks : List D) (vs : List O)

mutual
def O.frz : O → D
  | .d x => x
  | .lst os => .lst (O.frzL os)
  | .dct ks os => .dct ks (O.frzL os)
def O.frzL : List O → List D
  | [] => []
  | o :: os => O.frz o :: O.frzL os
end

/-- a dict's object as it stands -/
def pinO (a : Addr) (o : Obj) : HO := .ext fun h => h.get? a = some o

/- a datum as a key of a dict -/
mutual
def D.key : D → Option NestedKey
  | .non => some .none
  | .bl b => some (.num (if b = true then 1 else 0))
  | .int i => some (.num i)
  | .str x => some (.text x)
  | .tup ds => (D.keyL ds).map .tup
  | .lst _ => none
  | .dct _ _ => none
  | .kst _ => none
def D.keyL : List D → Option (List NestedKey)
  | [] => some []
  | d :: ds => (D.key d).bind fun k => (D.keyL ds).map fun ks => k :: ks
end
inductive Ent3 (w : World) : List DictEntry → List NestedKey → List V → List V → Prop
  | nil : Ent3 w [] [] [] []
  | cons {e k x y es ks xs ys} : e.hash = k.hash w → RelV x e.key → RelV y e.val → Ent3 w es ks xs ys → Ent3 w (e :: es) (k :: ks) (x :: xs) (y :: ys)
structure EntOk (w : World) (o : Obj) (ks : List D) (xs ys : List V) : Prop where
  ex : o.ExactDict
  da : ∃ es ep nks, o.data = .dict es ep ∧ D.keyL ks = some nks ∧ nks.Nodup ∧ Ent3 w es.toList nks xs ys

section
variable (K : PySem.W.Frag) (w : World)
mutual
/-- the datum stands at the value -/
def Rep (F : Hp) : D → V → Prop
  | .non, v => v = .non
  | .bl b, v => v = .bl b
  | .int i, v => v = .int i
  | .str x, v => v = .str x
  | .tup ds, v => ∃ a xs, v = .ref a ∧ SqT K F a xs ∧ RepL F ds xs
  | .lst ds, v => ∃ a xs, v = .ref a ∧ F a = some (.lst xs) ∧ RepL F ds xs
  | .kst ds, v => ∃ a xs, v = .ref a ∧ SqL K F a xs ∧ RepL F ds xs
  | .dct ks ds, v => ∃ a o xs ys, v = .ref a ∧ F a = some (pinO a o) ∧ (a == sysModules) = false ∧ EntOk w o ks xs ys ∧ RepL F ks xs ∧ RepL F ds ys
def RepL (F : Hp) : List D → List V → Prop
  | [], xs => xs = []
  | d :: ds, xs => ∃ x r, xs = x :: r ∧ Rep F d x ∧ RepL F ds r
end
mutual
/-- what is owned stands at the value, its own addresses are fp -/
def OR (F H : Hp) : O → V → List Addr → Prop
  | .d x, v, fp => Rep K w F x v ∧ fp = []
  | .lst os, v, fp => ∃ p xs fs, v = .ref p ∧ H p = some (.lst xs) ∧ ORL F H os xs fs ∧ fp = p :: fs
  | .dct ks os, v, fp => ∃ p o xs ys fs, v = .ref p ∧ H p = some (pinO p o) ∧ (p == sysModules) = false ∧ EntOk w o ks xs ys ∧ RepL K w F ks xs ∧ ORL F H os ys fs ∧ fp = p :: fs
def ORL (F H : Hp) : List O → List V → List Addr → Prop
  | [], xs, fp => xs = [] ∧ fp = []
  | o :: os, xs, fp => ∃ x r f1 f2, xs = x :: r ∧ OR F H o x f1 ∧ ORL F H os r f2 ∧ fp = f1 ++ f2
end
end

section
variable {K : PySem.W.Frag} {w : World} {F F' H H' : Hp}
theorem Same.sqT {a : Addr} {xs : List V} (e : Same F F') (h : SqT K F a xs) : SqT K F' a xs := by
  rcases h with (h | ⟨o, h⟩) | h
  · exact .inl (.inl (e _ _ h))
  · exact .inl (.inr ⟨o, e _ _ h⟩)
  · exact .inr h
mutual
theorem Rep.mono (e : Same F F') : ∀ (d : D) (v : V), Rep K w F d v → Rep K w F' d v
  | .non, v, h => h
  | .bl b, v, h => h
  | .int i, v, h => h
  | .str x, v, h => h
  | .tup ds, v, h => by
    obtain ⟨a, xs, h1, h2, h3⟩ := h
    exact ⟨a, xs, h1, Same.sqT e h2, RepL.mono e ds xs h3⟩
  | .lst ds, v, h => by
    obtain ⟨a, xs, h1, h2, h3⟩ := h
    exact ⟨a, xs, h1, e _ _ h2, RepL.mono e ds xs h3⟩
  | .kst ds, v, h => by
    obtain ⟨a, xs, h1, h2, h3⟩ := h
    exact ⟨a, xs, h1, e.seq h2, RepL.mono e ds xs h3⟩
  | .dct ks ds, v, h => by
    obtain ⟨a, o, xs, ys, h1, h2, h3, h4, h5, h6⟩ := h
    exact ⟨a, o, xs, ys, h1, e _ _ h2, h3, h4, RepL.mono e ks xs h5, RepL.mono e ds ys h6⟩
theorem RepL.mono (e : Same F F') : ∀ (ds : List D) (xs : List V), RepL K w F ds xs → RepL K w F' ds xs
  | [], xs, h => h
  | d :: ds, xs, h => by
    obtain ⟨x, r, h1, h2, h3⟩ := h
    exact ⟨x, r, h1, Rep.mono e d x h2, RepL.mono e ds r h3⟩
end
mutual
theorem OR.mono (e : Same F F') : ∀ (o : O) (v : V) (fp : List Addr), (∀ b ∈ fp, H' b = H b) → OR K w F H o v fp → OR K w F' H' o v fp
  | .d x, v, fp, hh, h => ⟨Rep.mono e x v h.1, h.2⟩
  | .lst os, v, fp, hh, h => by
    obtain ⟨p, xs, fs, h1, h2, h3, h4⟩ := h
    subst h4
    exact ⟨p, xs, fs, h1, by rw [hh p (List.mem_cons_self ..)]; exact h2, ORL.mono e os xs fs (fun b hb => hh b (List.mem_cons_of_mem _ hb)) h3, rfl⟩
  | .dct ks os, v, fp, hh, h => by
    obtain ⟨p, o, xs, ys, fs, h1, h2, h3, h4, h5, h6, h7⟩ := h
    subst h7
    exact ⟨p, o, xs, ys, fs, h1, by rw [hh p (List.mem_cons_self ..)]; exact h2, h3, h4, RepL.mono e ks xs h5, ORL.mono e os ys fs (fun b hb => hh b (List.mem_cons_of_mem _ hb)) h6, rfl⟩
theorem ORL.mono (e : Same F F') : ∀ (os : List O) (xs : List V) (fp : List Addr), (∀ b ∈ fp, H' b = H b) → ORL K w F H os xs fp → ORL K w F' H' os xs fp
  | [], xs, fp, hh, h => h
  | o :: os, xs, fp, hh, h => by
    obtain ⟨x, r, f1, f2, h1, h2, h3, h4⟩ := h
    subst h4
    exact ⟨x, r, f1, f2, h1, OR.mono e o x f1 (fun b hb => hh b (List.mem_append_left _ hb)) h2, ORL.mono e os r f2 (fun b hb => hh b (List.mem_append_right _ hb)) h3, rfl⟩
end
mutual
/-- frozen: what was owned is data now -/
theorem OR.frz (e : Same F F') : ∀ (o : O) (v : V) (fp : List Addr), (∀ b ∈ fp, F' b = H b) → OR K w F H o v fp → Rep K w F' o.frz v
  | .d x, v, fp, hh, h => by
    rw [O.frz]
    exact Rep.mono e x v h.1
  | .lst os, v, fp, hh, h => by
    obtain ⟨p, xs, fs, h1, h2, h3, h4⟩ := h
    subst h4
    rw [O.frz]
    exact ⟨p, xs, h1, (by rw [hh p (List.mem_cons_self ..)]; exact h2), ORL.frz e os xs fs (fun b hb => hh b (List.mem_cons_of_mem _ hb)) h3⟩
  | .dct ks os, v, fp, hh, h => by
    obtain ⟨p, o, xs, ys, fs, h1, h2, h3, h4, h5, h6, h7⟩ := h
    subst h7
    rw [O.frz]
    exact ⟨p, o, xs, ys, h1, by rw [hh p (List.mem_cons_self ..)]; exact h2, h3, h4, RepL.mono e ks xs h5, ORL.frz e os ys fs (fun b hb => hh b (List.mem_cons_of_mem _ hb)) h6⟩
theorem ORL.frz (e : Same F F') : ∀ (os : List O) (xs : List V) (fp : List Addr), (∀ b ∈ fp, F' b = H b) → ORL K w F H os xs fp → RepL K w F' (O.frzL os) xs
  | [], xs, fp, hh, h => by
    rw [O.frzL]
    exact h.1
  | o :: os, xs, fp, hh, h => by
    obtain ⟨x, r, f1, f2, h1, h2, h3, h4⟩ := h
    subst h4
    rw [O.frzL]
    exact ⟨x, r, h1, OR.frz e o x f1 (fun b hb => hh b (List.mem_append_left _ hb)) h2, ORL.frz e os r f2 (fun b hb => hh b (List.mem_append_right _ hb)) h3⟩
end
mutual
/-- an owned address is tracked -/
theorem OR.there : ∀ (o : O) (v : V) (fp : List Addr), OR K w F H o v fp → ∀ b ∈ fp, H b ≠ none
  | .d x, v, fp, h => by
    intro b hb
    rw [h.2] at hb
    cases hb
  | .lst os, v, fp, h => by
    obtain ⟨p, xs, fs, h1, h2, h3, h4⟩ := h
    subst h4
    intro b hb
    rcases List.mem_cons.mp hb with e | hb
    · rw [e, h2]; exact fun z => by cases z
    · exact ORL.there os xs fs h3 b hb
  | .dct ks os, v, fp, h => by
    obtain ⟨p, o, xs, ys, fs, h1, h2, h3, h4, h5, h6, h7⟩ := h
    subst h7
    intro b hb
    rcases List.mem_cons.mp hb with e | hb
    · rw [e, h2]; exact fun z => by cases z
    · exact ORL.there os ys fs h6 b hb
theorem ORL.there : ∀ (os : List O) (xs : List V) (fp : List Addr), ORL K w F H os xs fp → ∀ b ∈ fp, H b ≠ none
  | [], xs, fp, h => by
    intro b hb
    rw [h.2] at hb
    cases hb
  | o :: os, xs, fp, h => by
    obtain ⟨x, r, f1, f2, h1, h2, h3, h4⟩ := h
    subst h4
    intro b hb
    rcases List.mem_append.mp hb with hb | hb
    · exact OR.there o x f1 h2 b hb
    · exact ORL.there os r f2 h3 b hb
end
theorem RepL.length : ∀ {ds : List D} {xs : List V}, RepL K w F ds xs → ds.length = xs.length
  | [], xs, h => by
    have e : xs = [] := h
    rw [e]; rfl
  | d :: ds, xs, h => by
    obtain ⟨x, r, h1, h2, h3⟩ := h
    rw [h1, List.length_cons, List.length_cons, RepL.length h3]
theorem ORL.length : ∀ {os : List O} {xs : List V} {fp : List Addr}, ORL K w F H os xs fp → os.length = xs.length
  | [], xs, fp, h => by
    rw [h.1]; rfl
  | o :: os, xs, fp, h => by
    obtain ⟨x, r, f1, f2, h1, h2, h3, h4⟩ := h
    rw [h1, List.length_cons, List.length_cons, ORL.length h3]
theorem RepL.get : ∀ {ds : List D} {xs : List V} {i : Nat} {d : D}, RepL K w F ds xs → ds[i]? = some d → ∃ x, xs[i]? = some x ∧ Rep K w F d x
  | [], xs, i, d, h, e => by simp at e
  | d0 :: ds, xs, 0, d, h, e => by
    obtain ⟨x, r, h1, h2, h3⟩ := h
    subst h1
    simp at e
    subst e
    exact ⟨x, rfl, h2⟩
  | d0 :: ds, xs, i + 1, d, h, e => by
    obtain ⟨x, r, h1, h2, h3⟩ := h
    subst h1
    obtain ⟨y, h4, h5⟩ := RepL.get (i := i) h3 (by simpa using e)
    exact ⟨y, by simpa using h4, h5⟩
theorem RepL.append : ∀ {ds es : List D} {xs ys : List V}, RepL K w F ds xs → RepL K w F es ys → RepL K w F (ds ++ es) (xs ++ ys)
  | [], es, xs, ys, h, g => by
    have e : xs = [] := h
    subst e
    exact g
  | d :: ds, es, xs, ys, h, g => by
    obtain ⟨x, r, h1, h2, h3⟩ := h
    subst h1
    exact ⟨x, r ++ ys, rfl, h2, RepL.append h3 g⟩
theorem RepL.take : ∀ {ds : List D} {xs : List V} (n : Nat), RepL K w F ds xs → RepL K w F (ds.take n) (xs.take n)
  | ds, xs, 0, h => by
    rw [List.take_zero, List.take_zero]; exact rfl
  | [], xs, n + 1, h => by
    have e : xs = [] := h
    subst e
    exact rfl
  | d :: ds, xs, n + 1, h => by
    obtain ⟨x, r, h1, h2, h3⟩ := h
    subst h1
    exact ⟨x, r.take n, rfl, h2, RepL.take n h3⟩
theorem RepL.drop : ∀ {ds : List D} {xs : List V} (n : Nat), RepL K w F ds xs → RepL K w F (ds.drop n) (xs.drop n)
  | ds, xs, 0, h => h
  | [], xs, n + 1, h => by
    have e : xs = [] := h
    subst e
    exact rfl
  | d :: ds, xs, n + 1, h => by
    obtain ⟨x, r, h1, h2, h3⟩ := h
    subst h1
    exact RepL.drop n h3
theorem ORL.append : ∀ {os ps : List O} {xs ys : List V} {f g : List Addr}, ORL K w F H os xs f → ORL K w F H ps ys g → ORL K w F H (os ++ ps) (xs ++ ys) (f ++ g)
  | [], ps, xs, ys, f, g, h, k => by
    obtain ⟨e1, e2⟩ := h
    subst e1; subst e2
    exact k
  | o :: os, ps, xs, ys, f, g, h, k => by
    obtain ⟨x, r, f1, f2, h1, h2, h3, h4⟩ := h
    subst h1; subst h4
    exact ⟨x, r ++ ys, f1, f2 ++ g, rfl, h2, ORL.append h3 k, by simp⟩
theorem ORL.data : ∀ {ds : List D} {xs : List V}, RepL K w F ds xs → ORL K w F H (ds.map .d) xs []
  | [], xs, h => ⟨h, rfl⟩
  | d :: ds, xs, h => by
    obtain ⟨x, r, h1, h2, h3⟩ := h
    exact ⟨x, r, [], [], h1, ⟨h2, rfl⟩, ORL.data h3, rfl⟩
end

/-! ### environments -/
abbrev DEnv := List (Option O)
section
variable (K : PySem.W.Frag) (w : World)
def ER (F H : Hp) : DEnv → St → List Addr → Prop
  | [], σ, fp => σ = [] ∧ fp = []
  | none :: δ, σ, fp => ∃ s r, σ = s :: r ∧ ER F H δ r fp
  | some o :: δ, σ, fp => ∃ v r f1 f2, σ = some v :: r ∧ OR K w F H o v f1 ∧ ER F H δ r f2 ∧ fp = f1 ++ f2
/-- an environment and the heap -/
structure Ok (F H : Hp) (δ : DEnv) (σ : St) (fp : List Addr) : Prop where
  er : ER K w F H δ σ fp
  nd : fp.Nodup
  fr : ∀ b ∈ fp, F b = none
  sm : Same F H
end
section
variable {K : PySem.W.Frag} {w : World} {F F' H H' : Hp} {δ : DEnv} {σ : St} {fp : List Addr}
theorem ER.mono (e : Same F F') : ∀ {δ : DEnv} {σ : St} {fp : List Addr}, (∀ b ∈ fp, H' b = H b) → ER K w F H δ σ fp → ER K w F' H' δ σ fp
  | [], σ, fp, hh, h => h
  | none :: δ, σ, fp, hh, h => by
    obtain ⟨s, r, h1, h2⟩ := h
    exact ⟨s, r, h1, ER.mono e hh h2⟩
  | some o :: δ, σ, fp, hh, h => by
    obtain ⟨v, r, f1, f2, h1, h2, h3, h4⟩ := h
    subst h4
    exact ⟨v, r, f1, f2, h1, OR.mono e o v f1 (fun b hb => hh b (List.mem_append_left _ hb)) h2, ER.mono e (fun b hb => hh b (List.mem_append_right _ hb)) h3, rfl⟩
theorem ER.there : ∀ {δ : DEnv} {σ : St} {fp : List Addr}, ER K w F H δ σ fp → ∀ b ∈ fp, H b ≠ none
  | [], σ, fp, h, b, hb => by
    rw [h.2] at hb
    cases hb
  | none :: δ, σ, fp, h, b, hb => by
    obtain ⟨s, r, h1, h2⟩ := h
    exact ER.there h2 b hb
  | some o :: δ, σ, fp, h, b, hb => by
    obtain ⟨v, r, f1, f2, h1, h2, h3, h4⟩ := h
    subst h4
    rcases List.mem_append.mp hb with hb | hb
    · exact OR.there o v f1 h2 b hb
    · exact ER.there h3 b hb
theorem ER.length : ∀ {δ : DEnv} {σ : St} {fp : List Addr}, ER K w F H δ σ fp → δ.length = σ.length
  | [], σ, fp, h => by
    rw [h.1]; rfl
  | none :: δ, σ, fp, h => by
    obtain ⟨s, r, h1, h2⟩ := h
    rw [h1, List.length_cons, List.length_cons, ER.length h2]
  | some o :: δ, σ, fp, h => by
    obtain ⟨v, r, f1, f2, h1, h2, h3, h4⟩ := h
    rw [h1, List.length_cons, List.length_cons, ER.length h3]
/-- a slot read, and what may be put in its place -/
theorem ER.get : ∀ {δ : DEnv} {σ : St} {fp : List Addr} {i : Nat} {o : O}, ER K w F H δ σ fp → δ[i]? = some (some o) →
    ∃ v f1 pre post, σ[i]? = some (some v) ∧ OR K w F H o v f1 ∧ fp = pre ++ (f1 ++ post) ∧
      (∀ (F' H' : Hp) (o' : O) (v' : V) (f' : List Addr), Same F F' → (∀ b ∈ pre ++ post, H' b = H b) → OR K w F' H' o' v' f' → ER K w F' H' (δ.set i (some o')) (σ.set i (some v')) (pre ++ (f' ++ post))) ∧
      (∀ (F' H' : Hp), Same F F' → (∀ b ∈ pre ++ post, H' b = H b) → ER K w F' H' (δ.set i none) σ (pre ++ post))
  | [], σ, fp, i, o, h, e => by simp at e
  | none :: δ, σ, fp, 0, o, h, e => by simp at e
  | none :: δ, σ, fp, i + 1, o, h, e => by
    obtain ⟨s, r, h1, h2⟩ := h
    subst h1
    obtain ⟨v, f1, pre, post, a1, a2, a3, a4, a5⟩ := ER.get (i := i) h2 (by simpa using e)
    exact ⟨v, f1, pre, post, by simpa using a1, a2, a3, fun F' H' o' v' f' q1 q2 q3 => ⟨s, r.set i (some v'), rfl, a4 F' H' o' v' f' q1 q2 q3⟩, fun F' H' q1 q2 => ⟨s, r, rfl, a5 F' H' q1 q2⟩⟩
  | some o1 :: δ, σ, fp, 0, o, h, e => by
    obtain ⟨v, r, f1, f2, h1, h2, h3, h4⟩ := h
    subst h1; subst h4
    simp at e
    subst e
    exact ⟨v, f1, [], f2, rfl, h2, rfl, fun F' H' o' v' f' q1 q2 q3 => ⟨v', r, f', f2, rfl, q3, ER.mono q1 (fun b hb => q2 b (by simpa using hb)) h3, rfl⟩,
      fun F' H' q1 q2 => ⟨some v, r, rfl, ER.mono q1 (fun b hb => q2 b (by simpa using hb)) h3⟩⟩
  | some o1 :: δ, σ, fp, i + 1, o, h, e => by
    obtain ⟨v, r, f1, f2, h1, h2, h3, h4⟩ := h
    subst h1; subst h4
    obtain ⟨v2, g1, pre, post, a1, a2, a3, a4, a5⟩ := ER.get (i := i) h3 (by simpa using e)
    subst a3
    refine ⟨v2, g1, f1 ++ pre, post, by simpa using a1, a2, by simp, fun F' H' o' v' f' q1 q2 q3 => ?_, fun F' H' q1 q2 => ?_⟩
    · exact ⟨v, r.set i (some v'), f1, pre ++ (f' ++ post), rfl, OR.mono q1 o1 v f1 (fun b hb => q2 b (by simp [hb])) h2, a4 F' H' o' v' f' q1 (fun b hb => q2 b (by
        rcases List.mem_append.mp hb with hb | hb <;> simp [hb])) q3, by simp⟩
    · exact ⟨v, r, f1, pre ++ post, rfl, OR.mono q1 o1 v f1 (fun b hb => q2 b (by simp [hb])) h2, a5 F' H' q1 (fun b hb => q2 b (by
        rcases List.mem_append.mp hb with hb | hb <;> simp [hb])), by simp⟩
/-- a slot stored -/
theorem ER.put : ∀ {δ : DEnv} {σ : St} {fp : List Addr} {i : Nat} {o : O} {v : V} {f : List Addr}, ER K w F H δ σ fp → i < δ.length → OR K w F H o v f →
    ∃ pre mid post, fp = pre ++ (mid ++ post) ∧ ER K w F H (δ.set i (some o)) (σ.set i (some v)) (pre ++ (f ++ post))
  | [], σ, fp, i, o, v, f, h, hi, g => absurd hi (Nat.not_lt_zero _)
  | none :: δ, σ, fp, 0, o, v, f, h, hi, g => by
    obtain ⟨s, r, h1, h2⟩ := h
    subst h1
    exact ⟨[], [], fp, by simp, v, r, f, fp, rfl, g, h2, by simp⟩
  | some o1 :: δ, σ, fp, 0, o, v, f, h, hi, g => by
    obtain ⟨v1, r, f1, f2, h1, h2, h3, h4⟩ := h
    subst h1; subst h4
    exact ⟨[], f1, f2, by simp, v, r, f, f2, rfl, g, h3, by simp⟩
  | none :: δ, σ, fp, i + 1, o, v, f, h, hi, g => by
    obtain ⟨s, r, h1, h2⟩ := h
    subst h1
    obtain ⟨pre, mid, post, e, q⟩ := ER.put (i := i) h2 (by simpa using hi) g
    exact ⟨pre, mid, post, e, s, r.set i (some v), rfl, q⟩
  | some o1 :: δ, σ, fp, i + 1, o, v, f, h, hi, g => by
    obtain ⟨v1, r, f1, f2, h1, h2, h3, h4⟩ := h
    subst h1; subst h4
    obtain ⟨pre, mid, post, e, q⟩ := ER.put (i := i) h3 (by simpa using hi) g
    subst e
    exact ⟨f1 ++ pre, mid, post, by simp, v1, r.set i (some v), f1, pre ++ (f ++ post), rfl, h2, q, by simp⟩
end

/-! ### steps -/
/-- from a state that owns fp to one that owns fp' -/
structure Step (F H : Hp) (fp : List Addr) (F' H' : Hp) (fp' : List Addr) : Prop where
  ext : Same F F'
  keep : ∀ b o, H b = some o → b ∉ fp → H' b = some o
  alive : ∀ b, H b ≠ none → H' b ≠ none
  own : ∀ b ∈ fp', b ∈ fp ∨ H b = none
  frz : ∀ b, F' b ≠ none → F b ≠ none ∨ b ∈ fp ∨ H b = none
section
variable {F F1 F2 H H1 H2 : Hp} {fp fp1 fp2 : List Addr}
theorem Step.refl : Step F H fp F H fp := ⟨Same.refl _, fun _ _ h _ => h, fun _ h => h, fun _ h => .inl h, fun _ h => .inl h⟩
theorem Step.trans (a : Step F H fp F1 H1 fp1) (b : Step F1 H1 fp1 F2 H2 fp2) : Step F H fp F2 H2 fp2 where
  ext := a.ext.trans b.ext
  keep := fun c o h hc => b.keep c o (a.keep c o h hc) fun hc1 => (a.own c hc1).elim hc fun z => by rw [h] at z; cases z
  alive := fun c h => b.alive c (a.alive c h)
  own := fun c hc => (b.own c hc).elim (a.own c) fun z => .inr (by
    cases q : H c with
    | none => rfl
    | some o => exact absurd z (a.alive c (by rw [q]; exact fun z => by cases z)))
  frz := fun c hc => (b.frz c hc).elim (a.frz c) fun z => z.elim (fun z => .inr (a.own c z)) fun z => .inr (.inr (by
    cases q : H c with
    | none => rfl
    | some o => exact absurd z (a.alive c (by rw [q]; exact fun z => by cases z))))
theorem Step.mono (a : Step F H fp F1 H1 fp1) (h : ∀ b ∈ fp2, b ∈ fp1) : Step F H fp F1 H1 fp2 := ⟨a.ext, a.keep, a.alive, fun b hb => a.own b (h b hb), a.frz⟩
/-- beside other owned addresses -/
theorem Step.beside (a : Step F H fp F1 H1 fp1) {g : List Addr} : Step F H (g ++ fp) F1 H1 (g ++ fp1) where
  ext := a.ext
  keep := fun b o h hb => a.keep b o h fun z => hb (List.mem_append_right _ z)
  alive := a.alive
  own := fun b hb => (List.mem_append.mp hb).elim (fun z => .inl (List.mem_append_left _ z)) fun z => (a.own b z).imp (List.mem_append_right _) id
  frz := fun b hb => (a.frz b hb).imp id fun z => z.imp (List.mem_append_right _) id
theorem Step.besideR (a : Step F H fp F1 H1 fp1) {g : List Addr} : Step F H (fp ++ g) F1 H1 (fp1 ++ g) where
  ext := a.ext
  keep := fun b o h hb => a.keep b o h fun z => hb (List.mem_append_left _ z)
  alive := a.alive
  own := fun b hb => (List.mem_append.mp hb).elim (fun z => (a.own b z).imp (List.mem_append_left _) id) fun z => .inl (List.mem_append_right _ z)
  frz := fun b hb => (a.frz b hb).imp id fun z => z.imp (List.mem_append_left _) id
/-- what the step does not own stands -/
theorem Step.same (a : Step F H fp F1 H1 fp1) {b : Addr} (h : H b ≠ none) (hb : b ∉ fp) : H1 b = H b := by
  cases q : H b with
  | none => exact absurd q h
  | some o => exact a.keep b o q hb
theorem Step.notOwn (a : Step F H fp F1 H1 fp1) {b : Addr} (h : H b ≠ none) (hb : b ∉ fp) : b ∉ fp1 := fun z => (a.own b z).elim hb h
theorem Step.notFrz (a : Step F H fp F1 H1 fp1) {b : Addr} (h : H b ≠ none) (hb : b ∉ fp) (hF : F b = none) : F1 b = none := by
  cases q : F1 b with
  | none => rfl
  | some o =>
    rcases a.frz b (by rw [q]; exact fun z => by cases z) with z | z | z
    · exact absurd hF z
    · exact absurd z hb
    · exact absurd z h
end
/-- owned addresses are frozen -/
def frzF (F H : Hp) (fp : List Addr) : Hp := fun b => if b ∈ fp then H b else F b
section
variable {F H : Hp} {fp : List Addr}
theorem frzF_in {b : Addr} (h : b ∈ fp) : frzF F H fp b = H b := if_pos h
theorem frzF_out {b : Addr} (h : b ∉ fp) : frzF F H fp b = F b := if_neg h
theorem frzF_ext (h : ∀ b ∈ fp, F b = none) : Same F (frzF F H fp) := fun b o e => by
  rw [frzF_out fun z => by rw [h b z] at e; cases e]; exact e
theorem frzF_same (h : Same F H) : Same (frzF F H fp) H := fun b o e => by
  by_cases z : b ∈ fp
  · rw [frzF_in z] at e; exact e
  · rw [frzF_out z] at e; exact h b o e
theorem frzF_step (h : ∀ b ∈ fp, F b = none) {g : List Addr} : Step F H (fp ++ g) (frzF F H fp) H g where
  ext := frzF_ext h
  keep := fun b o h _ => h
  alive := fun b h => h
  own := fun b hb => .inl (List.mem_append_right _ hb)
  frz := fun b hb => by
    by_cases z : b ∈ fp
    · exact .inr (.inl (List.mem_append_left _ z))
    · rw [frzF_out z] at hb; exact .inl hb
end
end G
/-! G2: contexts, judgements, names, constants, displays, operators, tests. -/
namespace G
open PySem L2

inductive R (α : Type) where
  | ok (a : α) | exc (n : Nat) | no
abbrev DM (α : Type) := DEnv → R (α × DEnv)
def DM.ret {α : Type} (a : α) : DM α := fun δ => .ok (a, δ)
def DM.bind {α β : Type} (m : DM α) (k : α → DM β) : DM β := fun δ => match m δ with
  | .ok (a, δ') => k a δ'
  | .exc n => .exc n
  | .no => .no
/-- a pure step -/
def DM.lift {α β : Type} (m : DM α) (f : α → R β) : DM β := fun δ => match m δ with
  | .ok (a, δ') => (match f a with
    | .ok b => .ok (b, δ')
    | .exc n => .exc n
    | .no => .no)
  | .exc n => .exc n
  | .no => .no

/-- what all contexts of a def's code share, and what parts them -/
structure Fix where
  prog : Program
  w : World
  K : PySem.W.Frag
  mg : Str → Option Value
  base : Heap
  A : Around
  N : List Str
  calm : Bool
structure Var where
  s_0 : Shared
  H_0 : Hp
  env : PySem.Env
  outer : List PySem.Env
  stack : List PySem.Env
  ex : List Addr
  fn : Str → Bool
  pn : List (Addr × Obj)
  xe : Value → Shared → Prop
def cx (f : Fix) (v : Var) : Cx := ⟨f.prog, f.w, f.K, f.mg, f.base, f.A, f.N, v.s_0, v.H_0, v.env, v.outer, v.stack, v.ex, v.fn, f.calm, v.pn, v.xe⟩
structure Ctx where
  f : Fix
  V : Var → Prop
  sc : Scope
  /-- the scope as it is written -/
  so : Scope
  E : XK
  cv : Nat → Value
  k : Nat
  /-- slots that are not to be stored -/
  fx : Nat → Bool
  hsc : ∀ v, V v → v.env.scope = sc
  hso : ∀ x, Loc so x → Loc sc x
  hc : f.calm = true
  nd : f.N.Nodup
  hr : Room k f.A
  hfn : ∀ v, V v → ∀ x, Loc so x → v.fn x = true ∨ sc.names.lookup x = some .local
  hown : ∀ v, V v → PassesOwn (model f.prog f.w) f.A v.env v.xe
  hpass : ∀ v, V v → Passes (CX f.prog f.w) (cx f v) E

abbrev OkC (c : Ctx) (F H : Hp) (δ : DEnv) (σ : St) (fp : List Addr) : Prop := Ok c.f.K c.f.w F H δ σ fp
abbrev RepC (c : Ctx) (F : Hp) (d : D) (v : V) : Prop := Rep c.f.K c.f.w F d v
abbrev RepLC (c : Ctx) (F : Hp) (d : List D) (v : List V) : Prop := RepL c.f.K c.f.w F d v
abbrev ORC (c : Ctx) (F H : Hp) (o : O) (v : V) (fp : List Addr) : Prop := OR c.f.K c.f.w F H o v fp

def WXc (c : Ctx) (F H : Hp) (fp : List Addr) (n : Nat) : Prop := ∀ F' H' fp', Step F H fp F' H' fp' → c.E (c.cv n) none H'
/-- what is wanted behind an expression that hands on data -/
def WD (c : Ctx) (F H : Hp) (σ : St) (fp : List Addr) (Q : VK) : R (D × DEnv) → Prop
  | .ok (x, δ') => ∀ F' H' fp' v, OkC c F' H' δ' σ fp' → RepC c F' x v → Step F H fp F' H' fp' → Q v H'
  | .exc n => WXc c F H fp n
  | .no => False
def WO (c : Ctx) (F H : Hp) (σ : St) (fp : List Addr) (Q : VK) : R (O × DEnv) → Prop
  | .ok (o, δ') => ∀ F' H' fp' g v, OkC c F' H' δ' σ fp' → ORC c F' H' o v g → (g ++ fp').Nodup → (∀ b ∈ g, F' b = none) → Step F H fp F' H' (g ++ fp') → Q v H'
  | .exc n => WXc c F H fp n
  | .no => False
def WT (c : Ctx) (F H : Hp) (σ : St) (fp : List Addr) (Q : Bool → Hp → Prop) : R (Bool × DEnv) → Prop
  | .ok (b, δ') => ∀ F' H' fp', OkC c F' H' δ' σ fp' → Step F H fp F' H' fp' → Q b H'
  | .exc n => WXc c F H fp n
  | .no => False
def WA (c : Ctx) (F H : Hp) (σ : St) (fp : List Addr) (Q : List V → Hp → Prop) : R (List D × DEnv) → Prop
  | .ok (xs, δ') => ∀ F' H' fp' vs, OkC c F' H' δ' σ fp' → RepLC c F' xs vs → Step F H fp F' H' fp' → Q vs H'
  | .exc n => WXc c F H fp n
  | .no => False

def GD (c : Ctx) (e : Expr) (m : DM D) : Prop := ∃ t : TE, (∀ v, c.V v → PE (cx c.f v) e t) ∧ ∀ F H δ σ fp, OkC c F H δ σ fp → ∀ Q, WD c F H σ fp Q (m δ) → t σ H Q
def GO (c : Ctx) (e : Expr) (m : DM O) : Prop := ∃ t : TE, (∀ v, c.V v → PE (cx c.f v) e t) ∧ ∀ F H δ σ fp, OkC c F H δ σ fp → ∀ Q, WO c F H σ fp Q (m δ) → t σ H Q
def GT (c : Ctx) (e : Expr) (m : DM Bool) : Prop := ∃ t : TT, (∀ v, c.V v → PT (cx c.f v) e t) ∧ ∀ F H δ σ fp, OkC c F H δ σ fp → ∀ Q, WT c F H σ fp Q (m δ) → t σ H Q
def GW (c : Ctx) (e : Expr) (m : DM Bool) : Prop := ∃ t : TT, (∀ v, c.V v → PW (cx c.f v) e t) ∧ ∀ F H δ σ fp, OkC c F H δ σ fp → ∀ Q, WT c F H σ fp Q (m δ) → t σ H Q
def GA (c : Ctx) (es : List Expr) (m : DM (List D)) : Prop := ∃ t : TA, (∀ v, c.V v → PA (cx c.f v) es t) ∧ ∀ F H δ σ fp, OkC c F H δ σ fp → ∀ Q, WA c F H σ fp Q (m δ) → t σ H Q

section
variable {K : PySem.W.Frag} {w : World} {F F' H H' F1 H1 F2 H2 : Hp} {δ : DEnv} {σ : St} {fp fp1 g : List Addr}
theorem Ok.there (k : Ok K w F H δ σ fp) : ∀ b ∈ fp, H b ≠ none := k.er.there
/-- new objects beside an environment -/
theorem Ok.new (k : Ok K w F H δ σ fp) (n : Step F H [] F' H' g) (sm : Same F' H') : Ok K w F' H' δ σ fp :=
  ⟨k.er.mono n.ext fun b hb => n.same (k.there b hb) (by simp), k.nd, fun b hb => n.notFrz (k.there b hb) (by simp) (k.fr b hb), sm⟩
theorem Ok.newNd (k : Ok K w F H δ σ fp) (n : Step F H [] F' H' g) (hg : g.Nodup) : (g ++ fp).Nodup := by
  refine List.nodup_append.mpr ⟨hg, k.nd, fun a ha b hb e => ?_⟩
  subst e
  rcases n.own a ha with z | z
  · cases z
  · exact k.there a hb z
theorem Step.newO (n : Step F H [] F' H' g) : Step F H fp F' H' (g ++ fp) := by
  have x := n.besideR (g := fp)
  simpa using x
theorem Step.new0 (n : Step F H [] F' H' []) : Step F H fp F' H' fp := by
  have x := n.besideR (g := fp)
  simpa using x
/-- a new object, not owned -/
theorem step_tup {p : Addr} {o : HO} (hp : H p = none) (sm : Same F H) : Step F H [] (upd F p o) (upd H p o) [] ∧ Same (upd F p o) (upd H p o) := by
  have fp : F p = none := sm.free hp
  refine ⟨⟨fun b u e => ?_, fun b u e _ => ?_, fun b e => ?_, fun b hb => (nomatch hb), fun b hb => ?_⟩, fun b u e => ?_⟩
  · rw [upd_ne (ne_of_none e fp)]; exact e
  · rw [upd_ne (ne_of_none e hp)]; exact e
  · by_cases z : b = p
    · subst z; exact absurd hp e
    · rw [upd_ne z]; exact e
  · by_cases z : b = p
    · subst z; exact .inr (.inr hp)
    · rw [upd_ne z] at hb; exact .inl hb
  · by_cases z : b = p
    · subst z; rw [upd_same] at e ⊢; exact e
    · rw [upd_ne z] at e ⊢; exact sm _ _ e
/-- a new object, owned -/
theorem step_own {p : Addr} {o : HO} (hp : H p = none) (sm : Same F H) : Step F H [] F (upd H p o) [p] ∧ Same F (upd H p o) ∧ F p = none := by
  have fp : F p = none := sm.free hp
  refine ⟨⟨Same.refl _, fun b u e _ => ?_, fun b e => ?_, fun b hb => ?_, fun b hb => .inl hb⟩, fun b u e => ?_, fp⟩
  · rw [upd_ne (ne_of_none e hp)]; exact e
  · by_cases z : b = p
    · subst z; exact absurd hp e
    · rw [upd_ne z]; exact e
  · have e : b = p := by simpa using hb
    subst e; exact .inr hp
  · rw [upd_ne (ne_of_none e fp)]; exact sm _ _ e
theorem step_id : Step F H [] F H [] := Step.refl
/-- what is handed on is frozen -/
theorem Ok.freeze (k : Ok K w F H δ σ fp) (nd : (g ++ fp).Nodup) (hg : ∀ b ∈ g, F b = none) : Ok K w (frzF F H g) H δ σ fp := by
  have dj : ∀ b ∈ fp, b ∉ g := fun b hb z => (List.nodup_append.mp nd).2.2 b z b hb rfl
  exact ⟨k.er.mono (frzF_ext hg) fun _ _ => rfl, k.nd, fun b hb => by rw [frzF_out (dj b hb)]; exact k.fr b hb, frzF_same k.sm⟩
end

section
variable {c : Ctx}
/-! ### from owned to data and back -/
def DM.frz (m : DM O) : DM D := fun δ => match m δ with
  | .ok (o, δ') => .ok (o.frz, δ')
  | .exc n => .exc n
  | .no => .no
def DM.dat (m : DM D) : DM O := fun δ => match m δ with
  | .ok (x, δ') => .ok (.d x, δ')
  | .exc n => .exc n
  | .no => .no
theorem GO.gd {e : Expr} {m : DM O} (h : GO c e m) : GD c e m.frz := by
  obtain ⟨t, h1, h2⟩ := h
  refine ⟨t, h1, fun F H δ σ fp k Q q => h2 F H δ σ fp k Q ?_⟩
  unfold DM.frz at q
  revert q
  cases m δ with
  | exc n => exact id
  | no => exact id
  | ok p =>
    obtain ⟨o, δ'⟩ := p
    intro q F' H' fp' g v k' r nd hg st
    refine q (frzF F' H' g) H' fp' v (k'.freeze nd hg) (r.frz (frzF_ext hg) o v g fun b hb => frzF_in hb) ?_
    exact st.trans (frzF_step hg)
theorem GD.go {e : Expr} {m : DM D} (h : GD c e m) : GO c e m.dat := by
  obtain ⟨t, h1, h2⟩ := h
  refine ⟨t, h1, fun F H δ σ fp k Q q => h2 F H δ σ fp k Q ?_⟩
  unfold DM.dat at q
  revert q
  cases m δ with
  | exc n => exact id
  | no => exact id
  | ok p =>
    obtain ⟨o, δ'⟩ := p
    intro q F' H' fp' v k' r st
    exact q F' H' fp' [] v k' ⟨r, rfl⟩ (by simpa using k'.nd) (fun b hb => nomatch hb) (by simpa using st)

/-! ### constants and names -/
def dC (x : D) : DM D := fun δ => .ok (x, δ)
theorem gd_const {e : Expr} {x : D} {v : V} (h : ∀ u, c.V u → PE (cx c.f u) e (tC v)) (r : ∀ F, RepC c F x v) : GD c e (dC x) :=
  ⟨tC v, h, fun F H δ σ fp k Q q => q F H fp v k (r F) Step.refl⟩
theorem gd_int {i : Int} {j : Nat} {pos : Pos} : GD c (.Constant (.int i) j pos) (dC (.int i)) := gd_const (fun _ _ => pe_int) fun _ => rfl
theorem gd_bl {b : Bool} {j : Nat} {pos : Pos} : GD c (.Constant (.bool b) j pos) (dC (.bl b)) := gd_const (fun _ _ => pe_bl) fun _ => rfl
theorem gd_non {j : Nat} {pos : Pos} : GD c (.Constant .none j pos) (dC .non) := gd_const (fun _ _ => pe_non) fun _ => rfl
theorem gd_str {x : Str} {j : Nat} {pos : Pos} : GD c (.Constant (.str x) j pos) (dC (.str x)) := gd_const (fun _ _ => pe_str) fun _ => rfl
/-- a name of the def is seen in the block -/
def VisC (c : Ctx) (x : Str) : Prop := Vis c.sc x
theorem vis_of {x : Str} (h : VisC c x) : ∀ v, c.V v → Vis (cx c.f v).env.scope x := fun v hv => by
  show Vis v.env.scope x
  rw [c.hsc v hv]
  exact h
def GlC (c : Ctx) (x : Str) : Prop := c.sc.names.lookup x = some .globalImplicit
theorem gl_of {x : Str} (h : GlC c x) : ∀ v, c.V v → Gl (cx c.f v) x := fun v hv => by
  show v.env.scope.names.lookup x = some .globalImplicit
  rw [c.hsc v hv]
  exact h
/-- a module's constant -/
theorem gd_glob {x : Str} {pos : Pos} {u : Value} {v : V} {d : D} (hg : GlC c x) (hm : c.f.mg x = some u) (r : RelV v u) (rp : ∀ F, RepC c F d v) (hd : (x == ("__debug__" : Str)) = false := by decide) : GD c (.Name x pos) (dC d) :=
  gd_const (fun y hy => pe_glob (gl_of hg y hy) hm r hd) rp
/-- a name's value; what it owned is data from here on -/
def dVar (i : Nat) : DM D := fun δ => match δ[i]? with
  | some (some (.d x)) => .ok (x, δ)
  | some (some o) => .ok (o.frz, δ.set i (some (.d o.frz)))
  | _ => .no
theorem set_self {σ : St} {i : Nat} {v : V} (h : σ[i]? = some (some v)) : σ.set i (some v) = σ := by
  apply List.ext_getElem?
  intro j
  by_cases e : i = j
  · subst e
    rw [List.getElem?_set_self (List.getElem?_eq_some_iff.mp h).1, h]
  · rw [List.getElem?_set_ne e]
theorem gd_var (i : Nat) {x : Str} {pos : Pos} (hN : c.f.N[i]? = some x := by rfl) (hv : VisC c x := by first | exact Or.inl rfl | exact Or.inr (Or.inl rfl) | exact Or.inr (Or.inr rfl)) (hd : (x == ("__debug__" : Str)) = false := by decide)
    (hcd : (x == ("__classdict__" : Str)) = false := by decide) : GD c (.Name x pos) (dVar i) := by
  refine ⟨tVar i, fun v h => pe_var hN (vis_of hv v h) hd hcd, fun F H δ σ fp k Q q => ?_⟩
  unfold dVar at q
  cases e : δ[i]? with
  | none => rw [e] at q; exact q.elim
  | some s =>
    cases s with
    | none => rw [e] at q; exact q.elim
    | some o =>
      rw [e] at q
      obtain ⟨v, f1, pre, post, a1, a2, a3, a4, _⟩ := k.er.get e
      subst a3
      cases o with
      | d x =>
        exact ⟨v, a1, q F H _ v k a2.1 Step.refl⟩
      | lst os =>
        have nd := k.nd
        have dj : ∀ b ∈ pre ++ post, b ∉ f1 := fun b hb z => by
          have h1 := List.nodup_append.mp nd
          have h2 := List.nodup_append.mp h1.2.1
          rcases List.mem_append.mp hb with hb | hb
          · exact h1.2.2 b hb b (List.mem_append_left _ z) rfl
          · exact h2.2.2 b z b hb rfl
        have hg : ∀ b ∈ f1, F b = none := fun b hb => k.fr b (by simp [hb])
        refine ⟨v, a1, q (frzF F H f1) H (pre ++ post) v ?_ (OR.frz (frzF_ext hg) _ v f1 (fun b hb => frzF_in hb) a2) ?_⟩
        · have er := a4 (frzF F H f1) H (.d (O.lst os).frz) v [] (frzF_ext hg) (fun _ _ => rfl) ⟨OR.frz (frzF_ext hg) _ v f1 (fun b hb => frzF_in hb) a2, rfl⟩
          rw [set_self a1] at er
          refine ⟨by simpa using er, ?_, fun b hb => ?_, frzF_same k.sm⟩
          · have h1 := List.nodup_append.mp nd
            have h2 := List.nodup_append.mp h1.2.1
            exact List.nodup_append.mpr ⟨h1.1, h2.2.1, fun a ha b hb => h1.2.2 a ha b (List.mem_append_right _ hb)⟩
          · rw [frzF_out (dj b hb)]
            exact k.fr b (by rcases List.mem_append.mp hb with hb | hb <;> simp [hb])
        · exact ⟨frzF_ext hg, fun b o h _ => h, fun b h => h, fun b hb => .inl (by rcases List.mem_append.mp hb with hb | hb <;> simp [hb]), fun b hb => by
            by_cases z : b ∈ f1
            · exact .inr (.inl (by simp [z]))
            · rw [frzF_out z] at hb; exact .inl hb⟩
      | dct ks os =>
        have nd := k.nd
        have dj : ∀ b ∈ pre ++ post, b ∉ f1 := fun b hb z => by
          have h1 := List.nodup_append.mp nd
          have h2 := List.nodup_append.mp h1.2.1
          rcases List.mem_append.mp hb with hb | hb
          · exact h1.2.2 b hb b (List.mem_append_left _ z) rfl
          · exact h2.2.2 b z b hb rfl
        have hg : ∀ b ∈ f1, F b = none := fun b hb => k.fr b (by simp [hb])
        refine ⟨v, a1, q (frzF F H f1) H (pre ++ post) v ?_ (OR.frz (frzF_ext hg) _ v f1 (fun b hb => frzF_in hb) a2) ?_⟩
        · have er := a4 (frzF F H f1) H (.d (O.dct ks os).frz) v [] (frzF_ext hg) (fun _ _ => rfl) ⟨OR.frz (frzF_ext hg) _ v f1 (fun b hb => frzF_in hb) a2, rfl⟩
          rw [set_self a1] at er
          refine ⟨by simpa using er, ?_, fun b hb => ?_, frzF_same k.sm⟩
          · have h1 := List.nodup_append.mp nd
            have h2 := List.nodup_append.mp h1.2.1
            exact List.nodup_append.mpr ⟨h1.1, h2.2.1, fun a ha b hb => h1.2.2 a ha b (List.mem_append_right _ hb)⟩
          · rw [frzF_out (dj b hb)]
            exact k.fr b (by rcases List.mem_append.mp hb with hb | hb <;> simp [hb])
        · exact ⟨frzF_ext hg, fun b o h _ => h, fun b h => h, fun b hb => .inl (by rcases List.mem_append.mp hb with hb | hb <;> simp [hb]), fun b hb => by
            by_cases z : b ∈ f1
            · exact .inr (.inl (by simp [z]))
            · rw [frzF_out z] at hb; exact .inl hb⟩
/-- a name's value handed on, the name is not read again -/
def oVar (i : Nat) : DM O := fun δ => match δ[i]? with
  | some (some o) => .ok (o, δ.set i none)
  | _ => .no
theorem go_var (i : Nat) {x : Str} {pos : Pos} (hN : c.f.N[i]? = some x := by rfl) (hv : VisC c x := by first | exact Or.inl rfl | exact Or.inr (Or.inl rfl) | exact Or.inr (Or.inr rfl)) (hd : (x == ("__debug__" : Str)) = false := by decide)
    (hcd : (x == ("__classdict__" : Str)) = false := by decide) : GO c (.Name x pos) (oVar i) := by
  refine ⟨tVar i, fun v h => pe_var hN (vis_of hv v h) hd hcd, fun F H δ σ fp k Q q => ?_⟩
  unfold oVar at q
  cases e : δ[i]? with
  | none => rw [e] at q; exact q.elim
  | some s =>
    cases s with
    | none => rw [e] at q; exact q.elim
    | some o =>
      rw [e] at q
      obtain ⟨v, f1, pre, post, a1, a2, a3, _, a5⟩ := k.er.get e
      subst a3
      have h1 := List.nodup_append.mp k.nd
      have h2 := List.nodup_append.mp h1.2.1
      have nd2 : (pre ++ post).Nodup := List.nodup_append.mpr ⟨h1.1, h2.2.1, fun a ha b hb => h1.2.2 a ha b (List.mem_append_right _ hb)⟩
      refine ⟨v, a1, q F H (pre ++ post) f1 v ⟨a5 F H (Same.refl _) (fun _ _ => rfl), nd2, fun b hb => k.fr b (by rcases List.mem_append.mp hb with hb | hb <;> simp [hb]), k.sm⟩ a2 ?_ (fun b hb => k.fr b (by simp [hb])) ?_⟩
      · refine List.nodup_append.mpr ⟨h2.1, nd2, fun a ha b hb => ?_⟩
        rcases List.mem_append.mp hb with hb | hb
        · exact fun z => h1.2.2 b hb a (List.mem_append_left _ ha) z.symm
        · exact h2.2.2 a ha b hb
      · exact Step.refl.mono fun b hb => by
          rcases List.mem_append.mp hb with hb | hb
          · simp [hb]
          · rcases List.mem_append.mp hb with hb | hb <;> simp [hb]

/-! ### arguments -/
def aNil : DM (List D) := fun δ => .ok ([], δ)
theorem ga_nil : GA c [] aNil := ⟨tNil, fun _ _ => pa_nil, fun F H δ σ fp k Q q => q F H fp [] k rfl Step.refl⟩
def dCons (m : DM D) (ms : DM (List D)) : DM (List D) := fun δ => match m δ with
  | .ok (x, δ1) => (match ms δ1 with
    | .ok (xs, δ2) => .ok (x :: xs, δ2)
    | .exc n => .exc n
    | .no => .no)
  | .exc n => .exc n
  | .no => .no
theorem WXc.step {F H F1 H1 : Hp} {fp fp1 : List Addr} {n : Nat} (h : WXc c F H fp n) (st : Step F H fp F1 H1 fp1) : WXc c F1 H1 fp1 n := fun F2 H2 fp2 s => h F2 H2 fp2 (st.trans s)
theorem ga_cons {e : Expr} {es : List Expr} {m : DM D} {ms : DM (List D)} (h : GD c e m) (hs : GA c es ms) (he : ∀ v, c.V v → starEach (e :: es) v.env = (false, eval e v.env) :: starEach es v.env := by intros; rfl) : GA c (e :: es) (dCons m ms) := by
  obtain ⟨t, h1, h2⟩ := h
  obtain ⟨ts, g1, g2⟩ := hs
  refine ⟨tCons t ts, fun v hv => pa_cons (h1 v hv) (g1 v hv) (he v hv), fun F H δ σ fp k Q q => ?_⟩
  refine h2 F H δ σ fp k _ ?_
  unfold dCons at q
  revert q
  cases m δ with
  | exc n => exact id
  | no => exact id
  | ok p =>
    obtain ⟨x, δ1⟩ := p
    intro q F1 H1 fp1 v k1 r1 s1
    refine g2 F1 H1 δ1 σ fp1 k1 _ ?_
    revert q
    dsimp only
    cases ms δ1 with
    | exc n => exact fun q => WXc.step q s1
    | no => exact id
    | ok p =>
      obtain ⟨xs, δ2⟩ := p
      intro q F2 H2 fp2 vs k2 r2 s2
      exact q F2 H2 fp2 (v :: vs) k2 ⟨v, vs, rfl, r1.mono s2.ext, r2⟩ (s1.trans s2)

/-! ### displays -/
def small (n : Nat) : Bool := Nat.ble n 16777216
theorem small_ok {n : Nat} (h : small n = true) : n ≤ sizeLine := by
  rw [sizeLine_eq]
  exact Nat.le_of_ble_eq_true h
def dTup (ms : DM (List D)) : DM D := fun δ => match ms δ with
  | .ok (xs, δ1) => if small xs.length = true then .ok (.tup xs, δ1) else .no
  | .exc n => .exc n
  | .no => .no
theorem gd_tup {es : List Expr} {ms : DM (List D)} {x1 : Nat} {pos : Pos} (h : GA c es ms) : GD c (.Tuple es x1 pos) (dTup ms) := by
  obtain ⟨t, h1, h2⟩ := h
  refine ⟨tTup t, fun v hv => pe_tup (h1 v hv), fun F H δ σ fp k Q q => ?_⟩
  refine h2 F H δ σ fp k _ ?_
  unfold dTup at q
  revert q
  cases ms δ with
  | exc n => exact id
  | no => exact id
  | ok p =>
    obtain ⟨xs, δ1⟩ := p
    dsimp only
    by_cases e : small xs.length = true
    · rw [if_pos e]
      intro q F1 H1 fp1 vs k1 r1 s1
      refine ⟨by rw [← r1.length]; exact small_ok e, fun a ha => ?_⟩
      obtain ⟨n, sm⟩ := step_tup (o := .tup vs) ha k1.sm
      exact q _ _ fp1 _ (k1.new n sm) ⟨a, vs, rfl, SqT.of upd_same, r1.mono n.ext⟩ (s1.trans n.new0)
    · rw [if_neg e]
      exact fun q => q.elim
def oLst (ms : DM (List D)) : DM O := fun δ => match ms δ with
  | .ok (xs, δ1) => if small xs.length = true then .ok (.lst (xs.map .d), δ1) else .no
  | .exc n => .exc n
  | .no => .no
/-- a new list of data: owned -/
theorem new_lst {c : Ctx} {F1 H1 : Hp} {δ1 : DEnv} {σ : St} {fp1 : List Addr} {xs : List D} {vs : List V} {a : Addr} (k1 : OkC c F1 H1 δ1 σ fp1) (r1 : RepLC c F1 xs vs) (ha : H1 a = none) :
    OkC c F1 (upd H1 a (.lst vs)) δ1 σ fp1 ∧ ORC c F1 (upd H1 a (.lst vs)) (.lst (xs.map .d)) (.ref a) [a] ∧ ([a] ++ fp1).Nodup ∧ (∀ b ∈ [a], F1 b = none) ∧ Step F1 H1 fp1 F1 (upd H1 a (.lst vs)) ([a] ++ fp1) := by
  obtain ⟨n, sm, fa⟩ := step_own (o := .lst vs) ha k1.sm
  refine ⟨k1.new n sm, ⟨a, vs, [], rfl, upd_same, ORL.data r1, rfl⟩, k1.newNd n (by simp), fun b hb => ?_, n.newO⟩
  have e : b = a := by simpa using hb
  rw [e]; exact fa
theorem go_lst {es : List Expr} {ms : DM (List D)} {pos : Pos} (h : GA c es ms) : GO c (.List es pos) (oLst ms) := by
  obtain ⟨t, h1, h2⟩ := h
  refine ⟨tLst t, fun v hv => pe_lst (h1 v hv), fun F H δ σ fp k Q q => ?_⟩
  refine h2 F H δ σ fp k _ ?_
  unfold oLst at q
  revert q
  cases ms δ with
  | exc n => exact id
  | no => exact id
  | ok p =>
    obtain ⟨xs, δ1⟩ := p
    dsimp only
    by_cases e : small xs.length = true
    · rw [if_pos e]
      intro q F1 H1 fp1 vs k1 r1 s1
      refine ⟨by rw [← r1.length]; exact small_ok e, fun a ha => ?_⟩
      obtain ⟨n1, n2, n3, n4, n5⟩ := new_lst k1 r1 ha
      exact q _ _ fp1 [a] _ n1 n2 n3 n4 (s1.trans n5)
    · rw [if_neg e]
      exact fun q => q.elim

/-! ### operators on data -/
/-- what a two-place operation makes of data -/
def OpD (c : Ctx) (r : R2) (f : D → D → R D) : Prop := ∀ F H x y vx vy, Same F H → RepC c F x vx → RepC c F y vy → ∀ Q : VK,
  (match f x y with
    | .ok z => ∀ F' H' v, Same F' H' → RepC c F' z v → Step F H [] F' H' [] → Q v H'
    | _ => False) → r vx vy H Q
def OpO (c : Ctx) (r : R2) (f : D → D → R O) : Prop := ∀ F H x y vx vy, Same F H → RepC c F x vx → RepC c F y vy → ∀ Q : VK,
  (match f x y with
    | .ok z => ∀ F' H' v g, Same F' H' → ORC c F' H' z v g → g.Nodup → (∀ b ∈ g, F' b = none) → Step F H [] F' H' g → Q v H'
    | _ => False) → r vx vy H Q
def d2 (f : D → D → R D) (ma mb : DM D) : DM D := fun δ => match ma δ with
  | .ok (x, δ1) => (match mb δ1 with
    | .ok (y, δ2) => (match f x y with
      | .ok z => .ok (z, δ2)
      | .exc n => .no
      | .no => .no)
    | .exc n => .exc n
    | .no => .no)
  | .exc n => .exc n
  | .no => .no
def o2 (f : D → D → R O) (ma mb : DM D) : DM O := fun δ => match ma δ with
  | .ok (x, δ1) => (match mb δ1 with
    | .ok (y, δ2) => (match f x y with
      | .ok z => .ok (z, δ2)
      | .exc n => .no
      | .no => .no)
    | .exc n => .exc n
    | .no => .no)
  | .exc n => .exc n
  | .no => .no
/-- two parts, one behind another, then an operation by its reading -/
theorem sem_two {ta tb : TE} {ma mb : DM D} {r : R2} {f : D → D → R D} (ha : ∀ F H δ σ fp, OkC c F H δ σ fp → ∀ Q, WD c F H σ fp Q (ma δ) → ta σ H Q) (hb : ∀ F H δ σ fp, OkC c F H δ σ fp → ∀ Q, WD c F H σ fp Q (mb δ) → tb σ H Q) (hf : OpD c r f) :
    ∀ F H δ σ fp, OkC c F H δ σ fp → ∀ Q, WD c F H σ fp Q (d2 f ma mb δ) → tOp r ta tb σ H Q := by
  intro F H δ σ fp k Q q
  refine ha F H δ σ fp k _ ?_
  unfold d2 at q
  revert q
  cases ma δ with
  | exc n => exact id
  | no => exact id
  | ok p =>
    obtain ⟨x, δ1⟩ := p
    intro q F1 H1 fp1 v k1 r1 s1
    refine hb F1 H1 δ1 σ fp1 k1 _ ?_
    revert q
    dsimp only
    cases mb δ1 with
    | exc n => exact fun q => WXc.step q s1
    | no => exact id
    | ok p =>
      obtain ⟨y, δ2⟩ := p
      intro q F2 H2 fp2 vy k2 r2 s2
      refine hf F2 H2 x y v vy k2.sm (r1.mono s2.ext) r2 Q ?_
      revert q
      dsimp only
      cases f x y with
      | exc n => exact fun q => q.elim
      | no => exact id
      | ok z =>
        intro q F3 H3 u sm r3 n
        exact q F3 H3 fp2 u (k2.new n sm) r3 ((s1.trans s2).trans n.new0)
theorem sem_twoO {ta tb : TE} {ma mb : DM D} {r : R2} {f : D → D → R O} (ha : ∀ F H δ σ fp, OkC c F H δ σ fp → ∀ Q, WD c F H σ fp Q (ma δ) → ta σ H Q) (hb : ∀ F H δ σ fp, OkC c F H δ σ fp → ∀ Q, WD c F H σ fp Q (mb δ) → tb σ H Q) (hf : OpO c r f) :
    ∀ F H δ σ fp, OkC c F H δ σ fp → ∀ Q, WO c F H σ fp Q (o2 f ma mb δ) → tOp r ta tb σ H Q := by
  intro F H δ σ fp k Q q
  refine ha F H δ σ fp k _ ?_
  unfold o2 at q
  revert q
  cases ma δ with
  | exc n => exact id
  | no => exact id
  | ok p =>
    obtain ⟨x, δ1⟩ := p
    intro q F1 H1 fp1 v k1 r1 s1
    refine hb F1 H1 δ1 σ fp1 k1 _ ?_
    revert q
    dsimp only
    cases mb δ1 with
    | exc n => exact fun q => WXc.step q s1
    | no => exact id
    | ok p =>
      obtain ⟨y, δ2⟩ := p
      intro q F2 H2 fp2 vy k2 r2 s2
      refine hf F2 H2 x y v vy k2.sm (r1.mono s2.ext) r2 Q ?_
      revert q
      dsimp only
      cases f x y with
      | exc n => exact fun q => q.elim
      | no => exact id
      | ok z =>
        intro q F3 H3 u g sm r3 nd hg n
        exact q F3 H3 fp2 g u (k2.new n sm) r3 (k2.newNd n nd) hg ((s1.trans s2).trans n.newO)
theorem gd_op {op : Operator} {r : R2} {f : D → D → R D} {a b : Expr} {ma mb : DM D} {pos : Pos} (ho : ∀ v, c.V v → OpR (cx c.f v) (binaryOp op) r) (hf : OpD c r f) (ha : GD c a ma) (hb : GD c b mb) : GD c (.BinOp a op b pos) (d2 f ma mb) := by
  obtain ⟨ta, a1, a2⟩ := ha
  obtain ⟨tb, b1, b2⟩ := hb
  exact ⟨tOp r ta tb, fun v hv => pe_op (ho v hv) (a1 v hv) (b1 v hv), sem_two a2 b2 hf⟩
theorem go_op {op : Operator} {r : R2} {f : D → D → R O} {a b : Expr} {ma mb : DM D} {pos : Pos} (ho : ∀ v, c.V v → OpR (cx c.f v) (binaryOp op) r) (hf : OpO c r f) (ha : GD c a ma) (hb : GD c b mb) : GO c (.BinOp a op b pos) (o2 f ma mb) := by
  obtain ⟨ta, a1, a2⟩ := ha
  obtain ⟨tb, b1, b2⟩ := hb
  exact ⟨tOp r ta tb, fun v hv => pe_op (ho v hv) (a1 v hv) (b1 v hv), sem_twoO a2 b2 hf⟩
theorem gd_cmp {op : CmpOp} {r : R2} {f : D → D → R D} {a b : Expr} {ma mb : DM D} {pos : Pos} (ho : ∀ v, c.V v → OpR (cx c.f v) (compareOp op) r) (hf : OpD c r f) (ha : GD c a ma) (hb : GD c b mb) (hm : behindInMarks op b = false) : GD c (.Compare a [op] [b] pos) (d2 f ma mb) := by
  obtain ⟨ta, a1, a2⟩ := ha
  obtain ⟨tb, b1, b2⟩ := hb
  exact ⟨tOp r ta tb, fun v hv => pe_cmpR (ho v hv) (a1 v hv) (b1 v hv) hm, sem_two a2 b2 hf⟩
/-- one part, then a one-place operation -/
def UnD (c : Ctx) (r : V → Hp → VK → Prop) (f : D → R D) : Prop := ∀ F H x vx, Same F H → RepC c F x vx → ∀ Q : VK,
  (match f x with
    | .ok z => ∀ F' H' v, Same F' H' → RepC c F' z v → Step F H [] F' H' [] → Q v H'
    | _ => False) → r vx H Q
def UnO (c : Ctx) (r : V → Hp → VK → Prop) (f : D → R O) : Prop := ∀ F H x vx, Same F H → RepC c F x vx → ∀ Q : VK,
  (match f x with
    | .ok z => ∀ F' H' v g, Same F' H' → ORC c F' H' z v g → g.Nodup → (∀ b ∈ g, F' b = none) → Step F H [] F' H' g → Q v H'
    | _ => False) → r vx H Q
def d1 (f : D → R D) (m : DM D) : DM D := fun δ => match m δ with
  | .ok (x, δ1) => (match f x with
    | .ok z => .ok (z, δ1)
    | .exc n => .no
    | .no => .no)
  | .exc n => .exc n
  | .no => .no
def o1 (f : D → R O) (m : DM D) : DM O := fun δ => match m δ with
  | .ok (x, δ1) => (match f x with
    | .ok z => .ok (z, δ1)
    | .exc n => .no
    | .no => .no)
  | .exc n => .exc n
  | .no => .no
theorem sem_one {ta : TE} {ma : DM D} {r : V → Hp → VK → Prop} {f : D → R D} (ha : ∀ F H δ σ fp, OkC c F H δ σ fp → ∀ Q, WD c F H σ fp Q (ma δ) → ta σ H Q) (hf : UnD c r f) :
    ∀ F H δ σ fp, OkC c F H δ σ fp → ∀ Q, WD c F H σ fp Q (d1 f ma δ) → tUn r ta σ H Q := by
  intro F H δ σ fp k Q q
  refine ha F H δ σ fp k _ ?_
  unfold d1 at q
  revert q
  cases ma δ with
  | exc n => exact id
  | no => exact id
  | ok p =>
    obtain ⟨x, δ1⟩ := p
    intro q F1 H1 fp1 v k1 r1 s1
    refine hf F1 H1 x v k1.sm r1 Q ?_
    revert q
    dsimp only
    cases f x with
    | exc n => exact fun q => q.elim
    | no => exact id
    | ok z =>
      intro q F3 H3 u sm r3 n
      exact q F3 H3 fp1 u (k1.new n sm) r3 (s1.trans n.new0)
theorem sem_oneO {ta : TE} {ma : DM D} {r : V → Hp → VK → Prop} {f : D → R O} (ha : ∀ F H δ σ fp, OkC c F H δ σ fp → ∀ Q, WD c F H σ fp Q (ma δ) → ta σ H Q) (hf : UnO c r f) :
    ∀ F H δ σ fp, OkC c F H δ σ fp → ∀ Q, WO c F H σ fp Q (o1 f ma δ) → tUn r ta σ H Q := by
  intro F H δ σ fp k Q q
  refine ha F H δ σ fp k _ ?_
  unfold o1 at q
  revert q
  cases ma δ with
  | exc n => exact id
  | no => exact id
  | ok p =>
    obtain ⟨x, δ1⟩ := p
    intro q F1 H1 fp1 v k1 r1 s1
    refine hf F1 H1 x v k1.sm r1 Q ?_
    revert q
    dsimp only
    cases f x with
    | exc n => exact fun q => q.elim
    | no => exact id
    | ok z =>
      intro q F3 H3 u g sm r3 nd hg n
      exact q F3 H3 fp1 g u (k1.new n sm) r3 (k1.newNd n nd) hg (s1.trans n.newO)
theorem gd_un {op : UnaryOp} {r : V → Hp → VK → Prop} {f : D → R D} {a : Expr} {ma : DM D} {pos : Pos} (ho : ∀ v, c.V v → UnR (cx c.f v) (unaryOp op) r) (hf : UnD c r f) (ha : GD c a ma) : GD c (.UnaryOp op a pos) (d1 f ma) := by
  obtain ⟨ta, a1, a2⟩ := ha
  exact ⟨tUn r ta, fun v hv => pe_un (ho v hv) (a1 v hv), sem_one a2 hf⟩
/-- an operation that hands on a value that stands already -/
theorem OpD.here {r : R2} {f : D → D → R D} (h : ∀ F H x y vx vy, Same F H → RepC c F x vx → RepC c F y vy → ∀ Q : VK, ∀ z, f x y = .ok z → (∀ v, RepC c F z v → Q v H) → r vx vy H Q) : OpD c r f := by
  intro F H x y vx vy sm rx ry Q q
  cases e : f x y with
  | exc n => rw [e] at q; exact q.elim
  | no => rw [e] at q; exact q.elim
  | ok z =>
    rw [e] at q
    exact h F H x y vx vy sm rx ry Q z e fun v rv => q F H v sm rv step_id
theorem UnD.here {r : V → Hp → VK → Prop} {f : D → R D} (h : ∀ F H x vx, Same F H → RepC c F x vx → ∀ Q : VK, ∀ z, f x = .ok z → (∀ v, RepC c F z v → Q v H) → r vx H Q) : UnD c r f := by
  intro F H x vx sm rx Q q
  cases e : f x with
  | exc n => rw [e] at q; exact q.elim
  | no => rw [e] at q; exact q.elim
  | ok z =>
    rw [e] at q
    exact h F H x vx sm rx Q z e fun v rv => q F H v sm rv step_id

/-! ### ints -/
def fI2 (P : Int → Int → Bool) (g : Int → Int → Int) : D → D → R D
  | .int i, .int j => if P i j = true then .ok (.int (g i j)) else .no
  | _, _ => .no
def fI2b (g : Int → Int → Bool) : D → D → R D
  | .int i, .int j => .ok (.bl (g i j))
  | _, _ => .no
def yes2 : Int → Int → Bool := fun _ _ => true
theorem opd_I {C : Int → Int → Prop} {P : Int → Int → Bool} {g : Int → Int → Int} (h : ∀ i j, P i j = true → C i j) : OpD c (rI C fun i j => .int (g i j)) (fI2 P g) := OpD.here fun F H x y vx vy sm rx ry Q z e q => by
  unfold fI2 at e
  cases x <;> cases y <;> first | cases e | skip
  rename_i i j
  dsimp only at e
  split at e
  · rename_i hp
    cases e
    exact ⟨i, j, rx, ry, h i j hp, q _ rfl⟩
  · cases e
theorem opd_I0 {g : Int → Int → Int} : OpD c (rI0 fun i j => .int (g i j)) (fI2 yes2 g) := OpD.here fun F H x y vx vy sm rx ry Q z e q => by
  unfold fI2 at e
  cases x <;> cases y <;> first | cases e | skip
  rename_i i j
  exact ⟨i, j, rx, ry, q _ rfl⟩
theorem opd_B0 {g : Int → Int → Bool} : OpD c (rI0 fun i j => .bl (g i j)) (fI2b g) := OpD.here fun F H x y vx vy sm rx ry Q z e q => by
  unfold fI2b at e
  cases x <;> cases y <;> first | cases e | skip
  rename_i i j
  exact ⟨i, j, rx, ry, q _ rfl⟩
abbrev dAdd : DM D → DM D → DM D := d2 (fI2 yes2 fun i j => i + j)
abbrev dSub : DM D → DM D → DM D := d2 (fI2 yes2 fun i j => i - j)
def okMul (i j : Int) : Bool := (Nat.blt i.natAbs 18446744073709551616) || (Nat.blt j.natAbs 18446744073709551616)
def okDiv (i j : Int) : Bool := match j with
  | .ofNat n => Nat.blt 0 n && Nat.blt n 1073741824
  | _ => false
def okMod (i j : Int) : Bool := match j with
  | .ofNat n => Nat.blt 0 n
  | _ => false
abbrev dMul : DM D → DM D → DM D := d2 (fI2 okMul fun i j => i * j)
abbrev dFdv : DM D → DM D → DM D := d2 (fI2 okDiv fun i j => i / j)
abbrev dMod : DM D → DM D → DM D := d2 (fI2 okMod fun i j => i % j)
theorem okMul_ok {i j : Int} (h : okMul i j = true) : CMul i j := by
  unfold okMul at h
  rcases Bool.or_eq_true_iff.mp h with h | h
  · have := Nat.le_of_ble_eq_true h
    left; constructor <;> omega
  · have := Nat.le_of_ble_eq_true h
    right; constructor <;> omega
theorem okDiv_ok {i j : Int} (h : okDiv i j = true) : CDiv i j := by
  unfold okDiv at h
  split at h
  · rename_i n
    have h' := Bool.and_eq_true_iff.mp h
    have h1 := Nat.le_of_ble_eq_true h'.1
    have h2 := Nat.le_of_ble_eq_true h'.2
    exact ⟨by show (0 : Int) < (n : Int); omega, by show (n : Int) < 1073741824; omega⟩
  · cases h
theorem okMod_ok {i j : Int} (h : okMod i j = true) : 0 < j := by
  unfold okMod at h
  split at h
  · rename_i n
    have h1 := Nat.le_of_ble_eq_true h
    show (0 : Int) < (n : Int); omega
  · cases h
section
variable {a b : Expr} {ma mb : DM D} {pos : Pos}
theorem gd_add (ha : GD c a ma) (hb : GD c b mb) : GD c (.BinOp a .Add b pos) (dAdd ma mb) := gd_op (fun _ _ => op_add) opd_I0 ha hb
theorem gd_sub (ha : GD c a ma) (hb : GD c b mb) : GD c (.BinOp a .Sub b pos) (dSub ma mb) := gd_op (fun _ _ => op_sub) opd_I0 ha hb
theorem gd_mul (ha : GD c a ma) (hb : GD c b mb) : GD c (.BinOp a .Mult b pos) (dMul ma mb) := gd_op (fun _ _ => op_mul) (opd_I fun _ _ => okMul_ok) ha hb
theorem gd_fdv (ha : GD c a ma) (hb : GD c b mb) : GD c (.BinOp a .FloorDiv b pos) (dFdv ma mb) := gd_op (fun _ _ => op_fdiv) (opd_I fun _ _ => okDiv_ok) ha hb
theorem gd_mod (ha : GD c a ma) (hb : GD c b mb) : GD c (.BinOp a .Mod b pos) (dMod ma mb) := gd_op (fun _ _ => op_mod) (opd_I fun _ _ => okMod_ok) ha hb
abbrev dLt : DM D → DM D → DM D := d2 (fI2b fun i j => decide (i < j))
abbrev dLe : DM D → DM D → DM D := d2 (fI2b fun i j => decide (i ≤ j))
abbrev dGt : DM D → DM D → DM D := d2 (fI2b fun i j => decide (j < i))
abbrev dGe : DM D → DM D → DM D := d2 (fI2b fun i j => decide (j ≤ i))
theorem gd_lt (ha : GD c a ma) (hb : GD c b mb) : GD c (.Compare a [.Lt] [b] pos) (dLt ma mb) := gd_cmp (fun _ _ => op_lt) opd_B0 ha hb (nomark _)
theorem gd_le (ha : GD c a ma) (hb : GD c b mb) : GD c (.Compare a [.LtE] [b] pos) (dLe ma mb) := gd_cmp (fun _ _ => op_le) opd_B0 ha hb (nomark _)
theorem gd_gt (ha : GD c a ma) (hb : GD c b mb) : GD c (.Compare a [.Gt] [b] pos) (dGt ma mb) := gd_cmp (fun _ _ => op_gt) opd_B0 ha hb (nomark _)
theorem gd_ge (ha : GD c a ma) (hb : GD c b mb) : GD c (.Compare a [.GtE] [b] pos) (dGe ma mb) := gd_cmp (fun _ _ => op_ge) opd_B0 ha hb (nomark _)
def fNeg : D → R D
  | .int i => .ok (.int (-i))
  | _ => .no
abbrev dNeg : DM D → DM D := d1 fNeg
theorem gd_neg (ha : GD c a ma) : GD c (.UnaryOp .USub a pos) (dNeg ma) := gd_un (fun _ _ => un_neg) (UnD.here fun F H x vx sm rx Q z e q => by
  cases x <;> first | cases e | skip
  rename_i i
  exact ⟨i, rx, q _ rfl⟩) ha
end

/-! ### tests -/
def dBool (m : DM D) : DM Bool := fun δ => match m δ with
  | .ok (.bl b, δ') => .ok (b, δ')
  | .ok _ => .no
  | .exc n => .exc n
  | .no => .no
/-- an expression of a bool as a test -/
theorem gt_bool {e : Expr} {m : DM D} (h : GD c e m) (he : ∀ v, c.V v → ∀ whole, isTrue e v.env whole = (do let v ← whole; standAt e.pos; holding [v] (truthy v)) := by intro _ _ _; rfl) : GT c e (dBool m) := by
  obtain ⟨t, h1, h2⟩ := h
  refine ⟨tB t, fun v hv => pt_val (h1 v hv) (he v hv), fun F H δ σ fp k Q q => ?_⟩
  refine h2 F H δ σ fp k _ ?_
  unfold dBool at q
  revert q
  cases m δ with
  | exc n => exact id
  | no => exact fun q => q.elim
  | ok p =>
    obtain ⟨x, δ'⟩ := p
    cases x <;> first | exact fun q => q.elim | skip
    rename_i b
    intro q F' H' fp' v k' r s
    exact ⟨b, r, q F' H' fp' k' s⟩
theorem gt_cmp {op : CmpOp} {r : R2} {f : D → D → R D} {a b : Expr} {ma mb : DM D} {pos : Pos} (ho : ∀ v, c.V v → OpR (cx c.f v) (compareOp op) r) (hf : OpD c r f) (ha : GD c a ma) (hb : GD c b mb) (hm : behindInMarks op b = false) : GT c (.Compare a [op] [b] pos) (dBool (d2 f ma mb)) := by
  obtain ⟨ta, a1, a2⟩ := ha
  obtain ⟨tb, b1, b2⟩ := hb
  refine ⟨tTest (tOp r ta tb), fun v hv => pt_cmpR (ho v hv) (a1 v hv) (b1 v hv) hm, fun F H δ σ fp k Q q => ?_⟩
  refine sem_two a2 b2 hf F H δ σ fp k _ ?_
  unfold dBool at q
  revert q
  cases d2 f ma mb δ with
  | exc n => exact id
  | no => exact fun q => q.elim
  | ok p =>
    obtain ⟨x, δ'⟩ := p
    cases x <;> first | exact fun q => q.elim | skip
    rename_i b
    intro q F' H' fp' v k' r s
    exact ⟨b, r, q F' H' fp' k' s⟩
theorem GW.gt {e : Expr} {m : DM Bool} (h : GW c e m) : GT c e m := let ⟨t, h1, h2⟩ := h; ⟨t, fun v hv => (h1 v hv).pt, h2⟩
def dAndT (m1 m2 : DM Bool) : DM Bool := fun δ => match m1 δ with
  | .ok (true, δ') => m2 δ'
  | .ok (false, δ') => .ok (false, δ')
  | .exc n => .exc n
  | .no => .no
def dOrT (m1 m2 : DM Bool) : DM Bool := fun δ => match m1 δ with
  | .ok (true, δ') => .ok (true, δ')
  | .ok (false, δ') => m2 δ'
  | .exc n => .exc n
  | .no => .no
def dNotT (m : DM Bool) : DM Bool := fun δ => match m δ with
  | .ok (b, δ') => .ok (!b, δ')
  | .exc n => .exc n
  | .no => .no
theorem gt_not {e : Expr} {m : DM Bool} {pos : Pos} (h : GT c e m) : GT c (.UnaryOp .Not e pos) (dNotT m) := by
  obtain ⟨t, h1, h2⟩ := h
  refine ⟨tNot t, fun v hv => pt_not (h1 v hv), fun F H δ σ fp k Q q => h2 F H δ σ fp k _ ?_⟩
  unfold dNotT at q
  revert q
  cases m δ with
  | exc n => exact id
  | no => exact id
  | ok p =>
    obtain ⟨b, δ'⟩ := p
    exact id
theorem gw_and1 {e : Expr} {m : DM Bool} {pos : Pos} (h : GT c e m) : GW c (.BoolOp .And [e] pos) m := let ⟨t, h1, h2⟩ := h; ⟨t, fun v hv => pw_and1 (h1 v hv), h2⟩
theorem gw_or1 {e : Expr} {m : DM Bool} {pos : Pos} (h : GT c e m) : GW c (.BoolOp .Or [e] pos) m := let ⟨t, h1, h2⟩ := h; ⟨t, fun v hv => pw_or1 (h1 v hv), h2⟩
theorem WT.step {F H F1 H1 : Hp} {σ : St} {fp fp1 : List Addr} {Q : Bool → Hp → Prop} (s1 : Step F H fp F1 H1 fp1) : ∀ {r : R (Bool × DEnv)}, WT c F H σ fp Q r → WT c F1 H1 σ fp1 Q r
  | .ok (b, δ'), q => fun F' H' fp' k s => q F' H' fp' k (s1.trans s)
  | .exc n, q => WXc.step q s1
  | .no, q => q
theorem gw_and {e e2 : Expr} {rest : List Expr} {m1 m2 : DM Bool} {pos : Pos} (h : GT c e m1) (h' : GW c (.BoolOp .And (e2 :: rest) pos) m2) : GW c (.BoolOp .And (e :: e2 :: rest) pos) (dAndT m1 m2) := by
  obtain ⟨t, h1, h2⟩ := h
  obtain ⟨u, g1, g2⟩ := h'
  refine ⟨tAnd t u, fun v hv => pw_and (h1 v hv) (g1 v hv), fun F H δ σ fp k Q q => h2 F H δ σ fp k _ ?_⟩
  unfold dAndT at q
  revert q
  cases m1 δ with
  | exc n => exact id
  | no => exact id
  | ok p =>
    obtain ⟨b, δ'⟩ := p
    cases b with
    | false => exact fun q F' H' fp' k' s' => (if_neg Bool.false_ne_true).mpr (q F' H' fp' k' s')
    | true => exact fun q F' H' fp' k' s' => (if_pos rfl).mpr (g2 F' H' δ' σ fp' k' Q (WT.step s' q))
theorem gw_or {e e2 : Expr} {rest : List Expr} {m1 m2 : DM Bool} {pos : Pos} (h : GT c e m1) (h' : GW c (.BoolOp .Or (e2 :: rest) pos) m2) : GW c (.BoolOp .Or (e :: e2 :: rest) pos) (dOrT m1 m2) := by
  obtain ⟨t, h1, h2⟩ := h
  obtain ⟨u, g1, g2⟩ := h'
  refine ⟨tOr t u, fun v hv => pw_or (h1 v hv) (g1 v hv), fun F H δ σ fp k Q q => h2 F H δ σ fp k _ ?_⟩
  unfold dOrT at q
  revert q
  cases m1 δ with
  | exc n => exact id
  | no => exact id
  | ok p =>
    obtain ⟨b, δ'⟩ := p
    cases b with
    | true => exact fun q F' H' fp' k' s' => (if_pos rfl).mpr (q F' H' fp' k' s')
    | false => exact fun q F' H' fp' k' s' => (if_neg Bool.false_ne_true).mpr (g2 F' H' δ' σ fp' k' Q (WT.step s' q))

/-! ### and, or, not, if as values -/
def dAndV (m1 m2 : DM D) : DM D := fun δ => match m1 δ with
  | .ok (.bl true, δ') => m2 δ'
  | .ok (.bl false, δ') => .ok (.bl false, δ')
  | .ok _ => .no
  | .exc n => .exc n
  | .no => .no
def dOrV (m1 m2 : DM D) : DM D := fun δ => match m1 δ with
  | .ok (.bl true, δ') => .ok (.bl true, δ')
  | .ok (.bl false, δ') => m2 δ'
  | .ok _ => .no
  | .exc n => .exc n
  | .no => .no
def fNot : D → R D
  | .bl b => .ok (.bl (!b))
  | _ => .no
theorem WD.step {F H F1 H1 : Hp} {σ : St} {fp fp1 : List Addr} {Q : VK} (s1 : Step F H fp F1 H1 fp1) : ∀ {r : R (D × DEnv)}, WD c F H σ fp Q r → WD c F1 H1 σ fp1 Q r
  | .ok (b, δ'), q => fun F' H' fp' v k r s => q F' H' fp' v k r (s1.trans s)
  | .exc n, q => WXc.step q s1
  | .no, q => q
theorem WO.step {F H F1 H1 : Hp} {σ : St} {fp fp1 : List Addr} {Q : VK} (s1 : Step F H fp F1 H1 fp1) : ∀ {r : R (O × DEnv)}, WO c F H σ fp Q r → WO c F1 H1 σ fp1 Q r
  | .ok (b, δ'), q => fun F' H' fp' g v k r nd hg s => q F' H' fp' g v k r nd hg (s1.trans s)
  | .exc n, q => WXc.step q s1
  | .no, q => q
theorem gd_one {op : BoolOp} {e : Expr} {m : DM D} {pos : Pos} (h : GD c e m) : GD c (.BoolOp op [e] pos) m := let ⟨t, h1, h2⟩ := h; ⟨t, fun v hv => pe_one (h1 v hv), h2⟩
theorem gd_and {e e2 : Expr} {rest : List Expr} {m1 m2 : DM D} {pos : Pos} (h : GD c e m1) (h' : GD c (.BoolOp .And (e2 :: rest) pos) m2) : GD c (.BoolOp .And (e :: e2 :: rest) pos) (dAndV m1 m2) := by
  obtain ⟨t, h1, h2⟩ := h
  obtain ⟨u, g1, g2⟩ := h'
  refine ⟨tAndV t u, fun v hv => pe_and (h1 v hv) (g1 v hv), fun F H δ σ fp k Q q => h2 F H δ σ fp k _ ?_⟩
  unfold dAndV at q
  revert q
  cases m1 δ with
  | exc n => exact id
  | no => exact fun q => q.elim
  | ok p =>
    obtain ⟨x, δ'⟩ := p
    cases x <;> first | exact fun q => q.elim | skip
    rename_i b
    cases b with
    | false => exact fun q F' H' fp' v k' r s' => ⟨false, r, (if_neg Bool.false_ne_true).mpr (q F' H' fp' (.bl false) k' rfl s')⟩
    | true => exact fun q F' H' fp' v k' r s' => ⟨true, r, (if_pos rfl).mpr (g2 F' H' δ' σ fp' k' Q (WD.step s' q))⟩
theorem gd_or {e e2 : Expr} {rest : List Expr} {m1 m2 : DM D} {pos : Pos} (h : GD c e m1) (h' : GD c (.BoolOp .Or (e2 :: rest) pos) m2) : GD c (.BoolOp .Or (e :: e2 :: rest) pos) (dOrV m1 m2) := by
  obtain ⟨t, h1, h2⟩ := h
  obtain ⟨u, g1, g2⟩ := h'
  refine ⟨tOrV t u, fun v hv => pe_or (h1 v hv) (g1 v hv), fun F H δ σ fp k Q q => h2 F H δ σ fp k _ ?_⟩
  unfold dOrV at q
  revert q
  cases m1 δ with
  | exc n => exact id
  | no => exact fun q => q.elim
  | ok p =>
    obtain ⟨x, δ'⟩ := p
    cases x <;> first | exact fun q => q.elim | skip
    rename_i b
    cases b with
    | true => exact fun q F' H' fp' v k' r s' => ⟨true, r, (if_pos rfl).mpr (q F' H' fp' (.bl true) k' rfl s')⟩
    | false => exact fun q F' H' fp' v k' r s' => ⟨false, r, (if_neg Bool.false_ne_true).mpr (g2 F' H' δ' σ fp' k' Q (WD.step s' q))⟩
theorem gd_not {e : Expr} {m : DM D} {pos : Pos} (h : GD c e m) : GD c (.UnaryOp .Not e pos) (d1 fNot m) := by
  obtain ⟨t, h1, h2⟩ := h
  refine ⟨tNotV t, fun v hv => pe_not (h1 v hv), fun F H δ σ fp k Q q => h2 F H δ σ fp k _ ?_⟩
  unfold d1 at q
  revert q
  cases m δ with
  | exc n => exact id
  | no => exact id
  | ok p =>
    obtain ⟨x, δ'⟩ := p
    cases x <;> first | exact fun q => q.elim | skip
    rename_i b
    exact fun q F' H' fp' v k' r s' => ⟨b, r, q F' H' fp' (.bl (!b)) k' rfl s'⟩
def dIf {α : Type} (t : DM Bool) (a b : DM α) : DM α := fun δ => match t δ with
  | .ok (true, δ') => a δ'
  | .ok (false, δ') => b δ'
  | .exc n => .exc n
  | .no => .no
theorem gd_if {ct a b : Expr} {t : DM Bool} {ma mb : DM D} {pos : Pos} (h : GT c ct t) (ha : GD c a ma) (hb : GD c b mb) : GD c (.IfExp ct a b pos) (dIf t ma mb) := by
  obtain ⟨tt, h1, h2⟩ := h
  obtain ⟨ta, a1, a2⟩ := ha
  obtain ⟨tb, b1, b2⟩ := hb
  refine ⟨tIf tt ta tb, fun v hv => pe_ifExp (h1 v hv) (a1 v hv) (b1 v hv), fun F H δ σ fp k Q q => h2 F H δ σ fp k _ ?_⟩
  unfold dIf at q
  revert q
  cases t δ with
  | exc n => exact id
  | no => exact fun q => q.elim
  | ok p =>
    obtain ⟨b, δ'⟩ := p
    cases b with
    | true => exact fun q F' H' fp' k' s' => (if_pos rfl).mpr (a2 F' H' δ' σ fp' k' Q (WD.step s' q))
    | false => exact fun q F' H' fp' k' s' => (if_neg Bool.false_ne_true).mpr (b2 F' H' δ' σ fp' k' Q (WD.step s' q))
theorem go_if {ct a b : Expr} {t : DM Bool} {ma mb : DM O} {pos : Pos} (h : GT c ct t) (ha : GO c a ma) (hb : GO c b mb) : GO c (.IfExp ct a b pos) (dIf t ma mb) := by
  obtain ⟨tt, h1, h2⟩ := h
  obtain ⟨ta, a1, a2⟩ := ha
  obtain ⟨tb, b1, b2⟩ := hb
  refine ⟨tIf tt ta tb, fun v hv => pe_ifExp (h1 v hv) (a1 v hv) (b1 v hv), fun F H δ σ fp k Q q => h2 F H δ σ fp k _ ?_⟩
  unfold dIf at q
  revert q
  cases t δ with
  | exc n => exact id
  | no => exact fun q => q.elim
  | ok p =>
    obtain ⟨b, δ'⟩ := p
    cases b with
    | true => exact fun q F' H' fp' k' s' => (if_pos rfl).mpr (a2 F' H' δ' σ fp' k' Q (WO.step s' q))
    | false => exact fun q F' H' fp' k' s' => (if_neg Bool.false_ne_true).mpr (b2 F' H' δ' σ fp' k' Q (WO.step s' q))
end
end G
/-! G3: statements, targets, what a for walks, loops. -/
namespace G
open PySem L2

inductive Fl where
  | nx | rt (o : O) | bk | ct
abbrev SM := DEnv → R (Fl × DEnv)
/-- the slots that are not to be stored stand -/
def SF (c : Ctx) (σ σ' : St) : Prop := σ'.length = σ.length ∧ ∀ i, c.fx i = true → σ'[i]? = σ[i]?
theorem SF.refl {c : Ctx} {σ : St} : SF c σ σ := ⟨rfl, fun _ _ => rfl⟩
theorem SF.trans {c : Ctx} {σ σ1 σ2 : St} (a : SF c σ σ1) (b : SF c σ1 σ2) : SF c σ σ2 := ⟨b.1.trans a.1, fun i hi => (b.2 i hi).trans (a.2 i hi)⟩
def WS (c : Ctx) (F H : Hp) (σ : St) (fp : List Addr) (D : Ends) : R (Fl × DEnv) → Prop
  | .ok (.nx, δ') => ∀ F' H' σ' fp', OkC c F' H' δ' σ' fp' → SF c σ σ' → Step F H fp F' H' fp' → D.nx σ' H'
  | .ok (.bk, δ') => ∀ F' H' σ' fp', OkC c F' H' δ' σ' fp' → SF c σ σ' → Step F H fp F' H' fp' → D.bk σ' H'
  | .ok (.ct, δ') => ∀ F' H' σ' fp', OkC c F' H' δ' σ' fp' → SF c σ σ' → Step F H fp F' H' fp' → D.ct σ' H'
  | .ok (.rt o, δ') => ∀ F' H' σ' fp' g v, OkC c F' H' δ' σ' fp' → SF c σ σ' → ORC c F' H' o v g → (g ++ fp').Nodup → (∀ b ∈ g, F' b = none) → Step F H fp F' H' (g ++ fp') → D.rt v H'
  | .exc n => WXc c F H fp n
  | .no => False
def GS (c : Ctx) (st : Stmt) (m : SM) : Prop := ∃ t : TS, (∀ v, c.V v → PS (cx c.f v) st t) ∧ ∀ F H δ σ fp, OkC c F H δ σ fp → ∀ D, WS c F H σ fp D (m δ) → t D σ H
def GSs (c : Ctx) (st : List Stmt) (m : SM) : Prop := ∃ t : TS, (∀ v, c.V v → PSs (cx c.f v) st t) ∧ ∀ F H δ σ fp, OkC c F H δ σ fp → ∀ D, WS c F H σ fp D (m δ) → t D σ H
/-- what is wanted behind a target -/
def WG (c : Ctx) (F H : Hp) (σ : St) (fp : List Addr) (Q : St → Hp → Prop) : R DEnv → Prop
  | .ok δ' => ∀ F' H' σ' fp', OkC c F' H' δ' σ' fp' → SF c σ σ' → Step F H fp F' H' fp' → Q σ' H'
  | _ => False
/-- a target that takes data; cs: the slots that it may store -/
def GG (c : Ctx) (tg : Expr) (g : D → DEnv → R DEnv) : Prop := ∃ t : TG, (∀ v, c.V v → PG (cx c.f v) tg t) ∧ ∀ F H δ σ fp x vx, OkC c F H δ σ fp → RepC c F x vx → ∀ Q, WG c F H σ fp Q (g x δ) → t vx σ H Q
def GGs (c : Ctx) (tgs : List Expr) (g : List D → DEnv → R DEnv) : Prop := ∃ t : TGs, (∀ v, c.V v → PGs (cx c.f v) tgs t) ∧ ∀ F H δ σ fp xs vs, OkC c F H δ σ fp → RepLC c F xs vs → ∀ Q, WG c F H σ fp Q (g xs δ) → t vs σ H Q

section
variable {c : Ctx}
theorem WS.step {F H F1 H1 : Hp} {σ σ1 : St} {fp fp1 : List Addr} {D : Ends} (s1 : Step F H fp F1 H1 fp1) (sf : SF c σ σ1) : ∀ {r : R (Fl × DEnv)}, WS c F H σ fp D r → WS c F1 H1 σ1 fp1 D r
  | .ok (.nx, δ'), q => fun F' H' σ' fp' k f s => q F' H' σ' fp' k (sf.trans f) (s1.trans s)
  | .ok (.bk, δ'), q => fun F' H' σ' fp' k f s => q F' H' σ' fp' k (sf.trans f) (s1.trans s)
  | .ok (.ct, δ'), q => fun F' H' σ' fp' k f s => q F' H' σ' fp' k (sf.trans f) (s1.trans s)
  | .ok (.rt o, δ'), q => fun F' H' σ' fp' g v k f r nd hg s => q F' H' σ' fp' g v k (sf.trans f) r nd hg (s1.trans s)
  | .exc n, q => WXc.step q s1
  | .no, q => q
theorem WG.step {F H F1 H1 : Hp} {σ σ1 : St} {fp fp1 : List Addr} {Q : St → Hp → Prop} (s1 : Step F H fp F1 H1 fp1) (sf : SF c σ σ1) : ∀ {r : R DEnv}, WG c F H σ fp Q r → WG c F1 H1 σ1 fp1 Q r
  | .ok δ', q => fun F' H' σ' fp' k f s => q F' H' σ' fp' k (sf.trans f) (s1.trans s)
  | .exc n, q => q
  | .no, q => q

/-! ### blocks -/
def sNil : SM := fun δ => .ok (.nx, δ)
def sSeq (a b : SM) : SM := fun δ => match a δ with
  | .ok (.nx, δ') => b δ'
  | .ok (.rt o, δ') => .ok (.rt o, δ')
  | .ok (.bk, δ') => .ok (.bk, δ')
  | .ok (.ct, δ') => .ok (.ct, δ')
  | .exc n => .exc n
  | .no => .no
theorem gss_nil : GSs c [] sNil := ⟨tNext, fun _ _ => pss_nil, fun F H δ σ fp k D q => q F H σ fp k SF.refl Step.refl⟩
theorem gss_cons {st : Stmt} {rest : List Stmt} {a b : SM} (h : GS c st a) (h' : GSs c rest b) : GSs c (st :: rest) (sSeq a b) := by
  obtain ⟨t, h1, h2⟩ := h
  obtain ⟨u, g1, g2⟩ := h'
  refine ⟨tSeq t u, fun v hv => pss_cons (h1 v hv) (g1 v hv), fun F H δ σ fp k D q => h2 F H δ σ fp k _ ?_⟩
  unfold sSeq at q
  revert q
  cases a δ with
  | exc n => exact id
  | no => exact id
  | ok p =>
    obtain ⟨f, δ'⟩ := p
    cases f with
    | nx => exact fun q F' H' σ' fp' k' f' s' => g2 F' H' δ' σ' fp' k' D (WS.step s' f' q)
    | rt o => exact id
    | bk => exact id
    | ct => exact id
theorem gss_one {st : Stmt} {a : SM} (h : GS c st a) : GSs c [st] a := by
  obtain ⟨t, h1, h2⟩ := h
  exact ⟨t, fun v hv => pss_one (h1 v hv), h2⟩
theorem gs_pass {pos : Pos} : GS c (.Pass pos) sNil := ⟨tNext, fun _ _ => ps_pass, fun F H δ σ fp k D q => q F H σ fp k SF.refl Step.refl⟩
def sBrk : SM := fun δ => .ok (.bk, δ)
def sCnt : SM := fun δ => .ok (.ct, δ)
theorem gs_break {pos : Pos} : GS c (.Break pos) sBrk := ⟨tBreak, fun _ _ => ps_break, fun F H δ σ fp k D q => q F H σ fp k SF.refl Step.refl⟩
theorem gs_cont {pos : Pos} : GS c (.Continue pos) sCnt := ⟨tCont, fun _ _ => ps_continue, fun F H δ σ fp k D q => q F H σ fp k SF.refl Step.refl⟩
theorem gs_doc {x : Str} {j : Nat} {pos pos' : Pos} : GS c (.Expr (.Constant (.str x) j pos) pos') sNil := ⟨tNext, fun _ _ => ps_doc, fun F H δ σ fp k D q => q F H σ fp k SF.refl Step.refl⟩
/-- a way that is never gone -/
def sNever : SM := fun _ => .no
theorem gs_never {st : Stmt} : GS c st sNever := ⟨tNever, fun _ _ => ps_never, fun F H δ σ fp k D q => q.elim⟩
theorem gss_never {st : List Stmt} : GSs c st sNever := ⟨tNever, fun _ _ => pss_never, fun F H δ σ fp k D q => q.elim⟩
def sRet (m : DM O) : SM := fun δ => match m δ with
  | .ok (o, δ') => .ok (.rt o, δ')
  | .exc n => .exc n
  | .no => .no
theorem gs_ret {e : Expr} {m : DM O} {pos : Pos} (h : GO c e m) : GS c (.Return (some e) pos) (sRet m) := by
  obtain ⟨t, h1, h2⟩ := h
  refine ⟨tRet t, fun v hv => ps_ret (h1 v hv), fun F H δ σ fp k D q => h2 F H δ σ fp k _ ?_⟩
  unfold sRet at q
  revert q
  cases m δ with
  | exc n => exact id
  | no => exact id
  | ok p =>
    obtain ⟨o, δ'⟩ := p
    exact fun q F' H' fp' g v k' r nd hg s => q F' H' σ fp' g v k' SF.refl r nd hg s
def sRetN : SM := fun δ => .ok (.rt (.d .non), δ)
theorem gs_retN {pos : Pos} : GS c (.Return none pos) sRetN := ⟨tRetN, fun _ _ => ps_retN, fun F H δ σ fp k D q => q F H σ fp [] .non k SF.refl ⟨rfl, rfl⟩ (by simpa using k.nd) (fun b hb => (nomatch hb)) (by simpa using Step.refl)⟩
theorem gs_if {e : Expr} {a b : List Stmt} {mt : DM Bool} {ma mb : SM} {pos : Pos} (h : GT c e mt) (ha : GSs c a ma) (hb : GSs c b mb) : GS c (.If e a b pos) (fun δ => match mt δ with
    | .ok (true, δ') => ma δ'
    | .ok (false, δ') => mb δ'
    | .exc n => .exc n
    | .no => .no) := by
  obtain ⟨t, h1, h2⟩ := h
  obtain ⟨ta, a1, a2⟩ := ha
  obtain ⟨tb, b1, b2⟩ := hb
  refine ⟨tIfS t ta tb, fun v hv => ps_if (h1 v hv) (a1 v hv) (b1 v hv), fun F H δ σ fp k D q => h2 F H δ σ fp k _ ?_⟩
  revert q
  dsimp only
  cases mt δ with
  | exc n => exact id
  | no => exact fun q => q.elim
  | ok p =>
    obtain ⟨b, δ'⟩ := p
    cases b with
    | true => exact fun q F' H' fp' k' s' => (if_pos rfl).mpr (a2 F' H' δ' σ fp' k' D (WS.step s' SF.refl q))
    | false => exact fun q F' H' fp' k' s' => (if_neg Bool.false_ne_true).mpr (b2 F' H' δ' σ fp' k' D (WS.step s' SF.refl q))
def sIf (mt : DM Bool) (ma mb : SM) : SM := fun δ => match mt δ with
  | .ok (true, δ') => ma δ'
  | .ok (false, δ') => mb δ'
  | .exc n => .exc n
  | .no => .no
theorem gs_if' {e : Expr} {a b : List Stmt} {mt : DM Bool} {ma mb : SM} {pos : Pos} (h : GT c e mt) (ha : GSs c a ma) (hb : GSs c b mb) : GS c (.If e a b pos) (sIf mt ma mb) := gs_if h ha hb
/-- a value that is dropped -/
def sDrop (m : DM D) : SM := fun δ => match m δ with
  | .ok (_, δ') => .ok (.nx, δ')
  | .exc n => .exc n
  | .no => .no
theorem gs_expr {e : Expr} {m : DM D} {pos : Pos} (h : GD c e m) (hs : ∀ v, c.V v → swapsWith e none pos.line v.env = pure false := by intros; rfl) : GS c (.Expr e pos) (sDrop m) := by
  obtain ⟨t, h1, h2⟩ := h
  refine ⟨tDrop t, fun v hv => ps_expr (h1 v hv) (hs v hv), fun F H δ σ fp k D q => h2 F H δ σ fp k _ ?_⟩
  unfold sDrop at q
  revert q
  cases m δ with
  | exc n => exact id
  | no => exact id
  | ok p =>
    obtain ⟨x, δ'⟩ := p
    exact fun q F' H' fp' v k' r s => q F' H' σ fp' k' SF.refl s

/-! ### names stored -/
theorem loc_of {x : Str} (h : Loc c.so x) : ∀ v, c.V v → Loc (cx c.f v).env.scope x := fun v hv => by
  show Loc v.env.scope x
  rw [c.hsc v hv]
  exact c.hso _ h
theorem fn_of' {x : Str} (h : Loc c.so x) : ∀ v, c.V v → (cx c.f v).fn x = true ∨ (cx c.f v).env.scope.names.lookup x = some .local := fun v hv => by
  have e : (cx c.f v).env.scope = c.sc := c.hsc v hv
  rw [e]
  exact c.hfn v hv x h
/-- the environment behind a store -/
theorem ok_store {F H : Hp} {δ : DEnv} {σ : St} {fp g : List Addr} {i : Nat} {o : O} {v : V} (k : OkC c F H δ σ fp) (hi : i < δ.length) (r : ORC c F H o v g) (nd : (g ++ fp).Nodup) (hg : ∀ b ∈ g, F b = none) :
    ∃ fp', OkC c F H (δ.set i (some o)) (σ.set i (some v)) fp' ∧ ∀ b ∈ fp', b ∈ g ++ fp := by
  obtain ⟨pre, mid, post, e, er⟩ := k.er.put hi r
  subst e
  have h1 := List.nodup_append.mp nd
  have h2 := List.nodup_append.mp h1.2.1
  have h3 := List.nodup_append.mp h2.2.1
  have sub : ∀ b ∈ pre ++ (g ++ post), b ∈ g ++ (pre ++ (mid ++ post)) := fun b hb => by
    rcases List.mem_append.mp hb with hb | hb
    · simp [hb]
    · rcases List.mem_append.mp hb with hb | hb <;> simp [hb]
  refine ⟨_, ⟨er, ?_, fun b hb => ?_, k.sm⟩, sub⟩
  · refine List.nodup_append.mpr ⟨h2.1, List.nodup_append.mpr ⟨h1.1, h3.2.1, fun a ha b hb => h1.2.2 a ha b (by simp [hb])⟩, fun a ha b hb => ?_⟩
    rcases List.mem_append.mp hb with hb | hb
    · exact fun z => h1.2.2 b hb a (by simp [ha]) z.symm
    · exact h2.2.2 a ha b (by simp [hb])
  · rcases List.mem_append.mp (sub b hb) with hb | hb
    · exact hg b hb
    · exact k.fr b hb
def sSet (i : Nat) (m : DM O) : SM := fun δ => match m δ with
  | .ok (o, δ') => if i < δ'.length then .ok (.nx, δ'.set i (some o)) else .no
  | .exc n => .exc n
  | .no => .no
theorem sf_set {σ : St} {i : Nat} {v : Option V} (h : c.fx i = false) : SF c σ (σ.set i v) := ⟨List.length_set .., fun j hj => by
  rw [List.getElem?_set_ne]
  intro e
  subst e
  rw [h] at hj
  cases hj⟩
theorem env_sc : ∀ v, c.V v → v.env = { v.env with scope := c.sc } := fun v hv => by
  rw [← c.hsc v hv]
theorem sem_set {i : Nat} {m : DM O} {t : TE} (h2 : ∀ F H δ σ fp, OkC c F H δ σ fp → ∀ Q, WO c F H σ fp Q (m δ) → t σ H Q) (hf : c.fx i = false) : ∀ F H δ σ fp, OkC c F H δ σ fp → ∀ D, WS c F H σ fp D (sSet i m δ) → tAsg t (gName i) D σ H := by
  intro F H δ σ fp k D q
  refine h2 F H δ σ fp k _ ?_
  unfold sSet at q
  revert q
  cases m δ with
  | exc n => exact id
  | no => exact id
  | ok p =>
    obtain ⟨o, δ'⟩ := p
    dsimp only
    by_cases hl : i < δ'.length
    · rw [if_pos hl]
      intro q F' H' fp' g v k' r nd hg s
      obtain ⟨fp2, k2, sub⟩ := ok_store k' hl r nd hg
      exact q F' H' _ fp2 k2 (sf_set hf) (s.mono sub)
    · rw [if_neg hl]
      exact fun q => q.elim
theorem gs_set (i : Nat) {x : Str} {e : Expr} {m : DM O} {pos pos' : Pos} (h : GO c e m) (hi : c.f.N[i]? = some x := by rfl) (hx : Loc c.so x := by first | exact Or.inl rfl | exact Or.inr rfl) (hf : c.fx i = false := by rfl)
    (hs : ∀ env : PySem.Env, swapsWith e (some (.Name x pos')) pos.line { env with scope := c.sc } = pure false := by intros; rfl) : GS c (.Assign [.Name x pos'] e pos) (sSet i m) := by
  obtain ⟨t, h1, h2⟩ := h
  exact ⟨tAsg t (gName i), fun v hv => ps_set c.nd hi (loc_of hx v hv) (h1 v hv) (by show swapsWith _ _ _ v.env = _; rw [env_sc v hv]; exact hs v.env) (fn_of' hx v hv), sem_set h2 hf⟩
/-- a plain target -/
def gN (i : Nat) : D → DEnv → R DEnv := fun x δ => if i < δ.length then .ok (δ.set i (some (.d x))) else .no
theorem gg_name (i : Nat) {x : Str} {pos : Pos} (hi : c.f.N[i]? = some x := by rfl) (hx : Loc c.so x := by first | exact Or.inl rfl | exact Or.inr rfl) (hf : c.fx i = false := by rfl) : GG c (.Name x pos) (gN i) := by
  refine ⟨gName i, fun v hv => pg_name c.nd hi (loc_of hx v hv) (fn_of' hx v hv), fun F H δ σ fp x vx k r Q q => ?_⟩
  unfold gN at q
  by_cases hl : i < δ.length
  · rw [if_pos hl] at q
    obtain ⟨fp2, k2, sub⟩ := ok_store (g := []) (o := .d x) (v := vx) k hl ⟨r, rfl⟩ (by simpa using k.nd) (fun b hb => (nomatch hb))
    exact q F H _ fp2 k2 (sf_set hf) (Step.refl.mono (by simpa using sub))
  · rw [if_neg hl] at q
    exact q.elim
def gsN : List D → DEnv → R DEnv := fun xs δ => match xs with
  | [] => .ok δ
  | _ => .no
def gsC (g : D → DEnv → R DEnv) (gs : List D → DEnv → R DEnv) : List D → DEnv → R DEnv := fun xs δ => match xs with
  | [] => .no
  | x :: r => (match g x δ with
    | .ok δ' => gs r δ'
    | _ => .no)
theorem ggs_nil : GGs c [] gsN := by
  refine ⟨gNil, fun _ _ => pgs_nil, fun F H δ σ fp xs vs k r Q q => ?_⟩
  cases xs with
  | nil =>
    have e : vs = [] := r
    exact ⟨e, q F H σ fp k SF.refl Step.refl⟩
  | cons x xs => exact q.elim
theorem ggs_cons {e : Expr} {es : List Expr} {g : D → DEnv → R DEnv} {gs : List D → DEnv → R DEnv} (h : GG c e g) (h' : GGs c es gs)
    (hs : ∀ v, c.V v → (assignEach (e :: es) v.env).map (·.2) = assign e v.env :: (assignEach es v.env).map (·.2) := by intros; rfl) : GGs c (e :: es) (gsC g gs) := by
  obtain ⟨t, h1, h2⟩ := h
  obtain ⟨u, g1, g2⟩ := h'
  refine ⟨gCons t u, fun v hv => pgs_cons (h1 v hv) (g1 v hv) (hs v hv), fun F H δ σ fp xs vs k r Q q => ?_⟩
  cases xs with
  | nil => exact q.elim
  | cons x xs =>
    obtain ⟨y, r', e1, r1, r2⟩ := r
    refine ⟨y, r', e1, h2 F H δ σ fp x y k r1 _ ?_⟩
    unfold gsC at q
    revert q
    dsimp only
    cases g x δ with
    | exc n => exact fun q => q.elim
    | no => exact id
    | ok δ' => exact fun q F' H' σ' fp' k' f' s' => g2 F' H' δ' σ' fp' xs r' k' (RepL.mono s'.ext _ _ r2) Q (WG.step s' f' q)
def gT (gs : List D → DEnv → R DEnv) : D → DEnv → R DEnv := fun x δ => match x with
  | .tup xs => gs xs δ
  | _ => .no
theorem gsLen {gs : List D → DEnv → R DEnv} : True := trivial
/-- a target of several: the tuple's length is the targets' -/
def gTn (n : Nat) (gs : List D → DEnv → R DEnv) : D → DEnv → R DEnv := fun x δ => match x with
  | .tup xs => if xs.length = n then gs xs δ else .no
  | _ => .no
theorem gg_tup {es : List Expr} {x1 : Nat} {pos : Pos} {gs : List D → DEnv → R DEnv} (n : Nat) (h : GGs c es gs) (hn : ∀ v, c.V v → (assignEach es v.env).length = n := by intros; rfl) (hst : ∀ v, c.V v → (assignEach es v.env).findIdx? (·.1) = none := by intros; rfl) : GG c (.Tuple es x1 pos) (gTn n gs) := by
  obtain ⟨t, h1, h2⟩ := h
  refine ⟨gTup c.f.K n t, fun v hv => pg_tup c.hc (h1 v hv) (hn v hv) (hst v hv), fun F H δ σ fp x vx k r Q q => ?_⟩
  cases x <;> first | exact q.elim | skip
  rename_i xs
  obtain ⟨a, vs, e1, e2, r1⟩ := r
  unfold gTn at q
  dsimp only at q
  by_cases hl : xs.length = n
  · rw [if_pos hl] at q
    exact ⟨a, vs, e1, Same.sqT k.sm e2, by rw [← r1.length]; exact hl, h2 F H δ σ fp xs vs k r1 Q q⟩
  · rw [if_neg hl] at q
    exact q.elim
/-- target = data -/
def sAsg (m : DM D) (g : D → DEnv → R DEnv) : SM := fun δ => match m δ with
  | .ok (x, δ') => (match g x δ' with
    | .ok δ2 => .ok (.nx, δ2)
    | _ => .no)
  | .exc n => .exc n
  | .no => .no
theorem gs_asg {tg e : Expr} {m : DM D} {g : D → DEnv → R DEnv} {pos : Pos} (h : GD c e m) (hg : GG c tg g) (hs : ∀ v, c.V v → swapsWithSole [tg] e pos.line v.env = pure false := by intros; rfl) (hw : ∀ env : PySem.Env, swappedStores [tg] e { env with scope := c.sc } = pure none := by intros; rfl)
    (h1' : ∀ v, c.V v → (assignEach [tg] v.env).map (·.2) = [assign tg v.env] := by intros; rfl) : GS c (.Assign [tg] e pos) (sAsg m g) := by
  obtain ⟨t, h1, h2⟩ := h
  obtain ⟨u, g1, g2⟩ := hg
  refine ⟨tAsg t u, fun v hv => ps_asg (h1 v hv) (g1 v hv) (hs v hv) (by show swappedStores _ _ v.env = _; rw [env_sc v hv]; exact hw v.env) (h1' v hv), fun F H δ σ fp k D q => h2 F H δ σ fp k _ ?_⟩
  unfold sAsg at q
  revert q
  cases m δ with
  | exc n => exact id
  | no => exact id
  | ok p =>
    obtain ⟨x, δ'⟩ := p
    dsimp only
    intro q F' H' fp' v k' r s
    refine g2 F' H' δ' σ fp' x v k' r D.nx ?_
    revert q
    cases g x δ' with
    | exc n => exact fun q => q.elim
    | no => exact id
    | ok δ2 => exact fun q F2 H2 σ2 fp2 k2 f2 s2 => q F2 H2 σ2 fp2 k2 f2 (s.trans s2)

/-! ### while -/
def sWhile (t : DM Bool) (b : SM) : Nat → SM
  | 0, _ => .no
  | n + 1, δ => match t δ with
    | .ok (false, δ1) => .ok (.nx, δ1)
    | .ok (true, δ1) => (match b δ1 with
      | .ok (.nx, δ2) => sWhile t b n δ2
      | .ok (.ct, δ2) => sWhile t b n δ2
      | .ok (.bk, δ2) => .ok (.nx, δ2)
      | .ok (.rt o, δ2) => .ok (.rt o, δ2)
      | .exc n => .exc n
      | .no => .no)
    | .exc n => .exc n
    | .no => .no
theorem gs_while (fuel : Nat) {e : Expr} {body : List Stmt} {mt : DM Bool} {mb : SM} {pos : Pos} (h : GT c e mt) (hb : GSs c body mb) : GS c (.While e body [] pos) (sWhile mt mb fuel) := by
  obtain ⟨t, h1, h2⟩ := h
  obtain ⟨tb, b1, b2⟩ := hb
  refine ⟨tWhile t tb, fun v hv => ps_while (c.hown v hv) (h1 v hv) (b1 v hv), fun F H δ σ fp k D q => ?_⟩
  refine ⟨fun m σ H => ∃ F δ fp, OkC c F H δ σ fp ∧ WS c F H σ fp D (sWhile mt mb m δ), ⟨fuel, F, δ, fp, k, q⟩, ?_⟩
  rintro m σ1 H1 ⟨F1, δ1, fp1, k1, q1⟩
  cases m with
  | zero => exact q1.elim
  | succ n =>
    refine h2 F1 H1 δ1 σ1 fp1 k1 _ ?_
    unfold sWhile at q1
    revert q1
    cases mt δ1 with
    | exc n => exact id
    | no => exact fun q => q.elim
    | ok p =>
      obtain ⟨b, δ2⟩ := p
      cases b with
      | false => exact fun q F2 H2 fp2 k2 s2 => (if_neg Bool.false_ne_true).mpr (q F2 H2 σ1 fp2 k2 SF.refl s2)
      | true =>
        intro q F2 H2 fp2 k2 s2
        refine (if_pos rfl).mpr ⟨fun σ H => ∃ F δ fp, OkC c F H δ σ fp ∧ WS c F H σ fp D (sWhile mt mb n δ), fun σ' H' w => ⟨n, Nat.lt_succ_self n, w⟩, b2 F2 H2 δ2 σ1 fp2 k2 _ ?_⟩
        revert q
        dsimp only
        cases mb δ2 with
        | exc n => exact fun q => WXc.step q s2
        | no => exact fun q => q.elim
        | ok p =>
          obtain ⟨f, δ3⟩ := p
          cases f with
          | nx => exact fun q F3 H3 σ3 fp3 k3 f3 s3 => ⟨F3, δ3, fp3, k3, WS.step (s2.trans s3) f3 q⟩
          | ct => exact fun q F3 H3 σ3 fp3 k3 f3 s3 => ⟨F3, δ3, fp3, k3, WS.step (s2.trans s3) f3 q⟩
          | bk => exact fun q F3 H3 σ3 fp3 k3 f3 s3 => q F3 H3 σ3 fp3 k3 f3 (s2.trans s3)
          | rt o => exact fun q F3 H3 σ3 fp3 g v k3 f3 r nd hg s3 => q F3 H3 σ3 fp3 g v k3 f3 r nd hg (s2.trans s3)

/-! ### what a for walks -/
/-- the walk yields the data -/
def Walks (c : Ctx) (J : It) (F : Hp) (ds : List D) : Prop := ∀ F2 H2, Same F F2 → Same F2 H2 → ∀ i, (ds.length ≤ i → J.stop i H2) ∧ ∀ d, ds[i]? = some d → J.go i H2 ∧ ∀ x H3, J.yld i H2 x H3 → ∃ F3, Same F3 H3 ∧ RepC c F3 d x ∧ Step F2 H2 [] F3 H3 []
def WI (c : Ctx) (F H : Hp) (σ : St) (fp : List Addr) (Rr : It → Hp → Prop) : R (List D × DEnv) → Prop
  | .ok (ds, δ') => ∀ F' H' fp' J, OkC c F' H' δ' σ fp' → Walks c J F' ds → Step F H fp F' H' fp' → Rr J H'
  | .exc n => WXc c F H fp n
  | .no => False
def GI (c : Ctx) (tg iter : Expr) (m : DM (List D)) : Prop := ∃ t : TI, (∀ v, c.V v → PI (cx c.f v) tg iter t) ∧ ∀ F H δ σ fp, OkC c F H δ σ fp → ∀ Rr, WI c F H σ fp Rr (m δ) → t σ H Rr
def sForL (g : D → DEnv → R DEnv) (b : SM) : List D → SM
  | [], δ => .ok (.nx, δ)
  | d :: ds, δ => match g d δ with
    | .ok δ1 => (match b δ1 with
      | .ok (.nx, δ2) => sForL g b ds δ2
      | .ok (.ct, δ2) => sForL g b ds δ2
      | .ok (.bk, δ2) => .ok (.nx, δ2)
      | .ok (.rt o, δ2) => .ok (.rt o, δ2)
      | .exc n => .exc n
      | .no => .no)
    | _ => .no
def sFor (m : DM (List D)) (g : D → DEnv → R DEnv) (b : SM) : SM := fun δ => match m δ with
  | .ok (ds, δ') => sForL g b ds δ'
  | .exc n => .exc n
  | .no => .no
theorem gs_for {tg iter : Expr} {body : List Stmt} {m : DM (List D)} {g : D → DEnv → R DEnv} {mb : SM} {pos : Pos} (hi : GI c tg iter m) (hg : GG c tg g) (hb : GSs c body mb)
    (hs : ∀ v, c.V v → ∀ x, foldedSetIterable iter v.env x = pure x := by intros; rfl) : GS c (.For tg iter body [] pos) (sFor m g mb) := by
  obtain ⟨ti, i1, i2⟩ := hi
  obtain ⟨tg', g1, g2⟩ := hg
  obtain ⟨tb, b1, b2⟩ := hb
  refine ⟨tFor ti tg' tb, fun v hv => ps_for (c.hown v hv) c.hc (i1 v hv) (g1 v hv) (b1 v hv) (hs v hv), fun F H δ σ fp k D q => i2 F H δ σ fp k _ ?_⟩
  unfold sFor at q
  revert q
  cases m δ with
  | exc n => exact id
  | no => exact fun q => q.elim
  | ok p =>
    obtain ⟨ds, δ1⟩ := p
    dsimp only
    intro q F1 H1 fp1 J k1 wk s1
    refine ⟨fun i m σ H => m = ds.length - i ∧ i ≤ ds.length ∧ ∃ F δ fp, OkC c F H δ σ fp ∧ Same F1 F ∧ WS c F H σ fp D (sForL g mb (ds.drop i) δ), ⟨_, rfl, Nat.zero_le _, F1, δ1, fp1, k1, Same.refl _, WS.step s1 SF.refl q⟩, ?_⟩
    rintro i m σ2 H2 ⟨rfl, hi, F2, δ2, fp2, k2, sm, q2⟩
    obtain ⟨w1, w2⟩ := wk F2 H2 sm k2.sm i
    by_cases hl : i < ds.length
    · refine .inr ?_
      have e : ds.drop i = ds[i] :: ds.drop (i + 1) := List.drop_eq_getElem_cons hl
      obtain ⟨go, yl⟩ := w2 ds[i] (List.getElem?_eq_getElem hl)
      refine ⟨go, fun σ H => ∃ F δ fp, OkC c F H δ σ fp ∧ Same F1 F ∧ WS c F H σ fp D (sForL g mb (ds.drop (i + 1)) δ), fun σ' H' w => ⟨_, by omega, rfl, hl, w⟩, fun x H3 y => ?_⟩
      obtain ⟨F3, sm3, r3, n3⟩ := yl x H3 y
      have k3 := k2.new n3 sm3
      have s3 : Step F2 H2 fp2 F3 H3 fp2 := n3.new0
      refine g2 F3 H3 δ2 σ2 fp2 ds[i] x k3 r3 _ ?_
      rw [e] at q2
      unfold sForL at q2
      revert q2
      cases g ds[i] δ2 with
      | exc n => exact fun q => q.elim
      | no => exact fun q => q.elim
      | ok δ4 =>
        dsimp only
        intro q F4 H4 σ4 fp4 k4 f4 s4
        refine b2 F4 H4 δ4 σ4 fp4 k4 _ ?_
        revert q
        cases mb δ4 with
        | exc n => exact fun q => WXc.step q (s3.trans s4)
        | no => exact fun q => q.elim
        | ok p =>
          obtain ⟨f, δ5⟩ := p
          cases f with
          | nx => exact fun q F5 H5 σ5 fp5 k5 f5 s5 => ⟨F5, δ5, fp5, k5, sm.trans (n3.ext.trans (s4.ext.trans s5.ext)), WS.step (s3.trans (s4.trans s5)) (f4.trans f5) q⟩
          | ct => exact fun q F5 H5 σ5 fp5 k5 f5 s5 => ⟨F5, δ5, fp5, k5, sm.trans (n3.ext.trans (s4.ext.trans s5.ext)), WS.step (s3.trans (s4.trans s5)) (f4.trans f5) q⟩
          | bk => exact fun q F5 H5 σ5 fp5 k5 f5 s5 => q F5 H5 σ5 fp5 k5 (f4.trans f5) (s3.trans (s4.trans s5))
          | rt o => exact fun q F5 H5 σ5 fp5 gg v k5 f5 r nd hgg s5 => q F5 H5 σ5 fp5 gg v k5 (f4.trans f5) r nd hgg (s3.trans (s4.trans s5))
    · have e : i = ds.length := by omega
      refine .inl ⟨w1 (by omega), ?_⟩
      rw [e, List.drop_length] at q2
      exact q2 F2 H2 σ2 fp2 k2 SF.refl Step.refl
end
end G
/-! G4: defs and their calls. -/
namespace G
open PySem L2

/-- what a def makes: its answer, and what becomes of the one argument that it may change -/
abbrev DF := List O → R (O × Option O)
def OutR (K : PySem.W.Frag) (w : World) (F H : Hp) (io : Option Nat) (vs : List V) (out : Option O) (fp : List Addr) : Prop := match io, out with
  | none, none => fp = []
  | some i, some o => ∃ v, vs[i]? = some v ∧ OR K w F H o v fp
  | _, _ => False
def SpOf (K : PySem.W.Frag) (w : World) (cv : Nat → Value) (io : Option Nat) (m : DF) : Sp := fun vs H Q E => ∃ F os fp, ORL K w F H os vs fp ∧ fp.Nodup ∧ (∀ b ∈ fp, F b = none) ∧ Same F H ∧ match m os with
  | .ok (o, out) => ∀ F' H' v fp' g, OutR K w F' H' io vs out fp' → OR K w F' H' o v g → (g ++ fp').Nodup → (∀ b ∈ g ++ fp', F' b = none) → Same F' H' → Step F H fp F' H' (g ++ fp') → Q v H'
  | .exc n => ∀ F' H' fp', Step F H fp F' H' fp' → E (cv n) none H'
  | .no => False
/-- the def of this name keeps its promise -/
structure DefOk (P : Program) (w : World) (K : PySem.W.Frag) (mg : Str → Option Value) (base : Heap) (cv : Nat → Value) (x : Str) (st : Stmt) (k : Nat) (io : Option Nat) (ps : List Str) (m : DF) : Prop where
  ex : ∃ f fd, FnOk P w K mg base (CX P w) k f fd ps (SpOf K w cv io m) ∧ mg x = some (.ref f) ∧ PySem.W.keepIn K (.ref f) = true ∧ Binds K fd ps [] ∧ FunD K x x (defArgs st) (defBody st) (defScope st) [] [] f fd
theorem DefOk.mono {P : Program} {w : World} {K : PySem.W.Frag} {mg : Str → Option Value} {base : Heap} {cv : Nat → Value} {x : Str} {st : Stmt} {j k : Nat} {io : Option Nat} {ps : List Str} {m : DF} (h : DefOk P w K mg base cv x st j io ps m) (hjk : j ≤ k) : DefOk P w K mg base cv x st k io ps m := by
  obtain ⟨f, fd, a, b⟩ := h.ex
  exact ⟨f, fd, a.mono hjk, b⟩

section
variable {c : Ctx}
def oCall (m : DF) (ma : DM (List D)) : DM O := fun δ => match ma δ with
  | .ok (xs, δ1) => (match m (xs.map .d) with
    | .ok (o, none) => .ok (o, δ1)
    | .ok (_, some _) => .no
    | .exc n => .exc n
    | .no => .no)
  | .exc n => .exc n
  | .no => .no
theorem append_nil_vs (vs : List V) : vs ++ ([] : List V) = vs := List.append_nil vs
theorem go_call {x : Str} {st : Stmt} {j : Nat} {ps : List Str} {m : DF} {e : Expr} {es : List Expr} {ma : DM (List D)} {p pos : Pos} (d : DefOk c.f.prog c.f.w c.f.K c.f.mg c.f.base c.cv x st j none ps m) (ha : GA c (e :: es) ma) (hj : j ≤ c.k := by first | exact Nat.le_of_ble_eq_true rfl | exact Nat.le_refl _) (hg : GlC c x := by rfl)
    (hdb : (x == ("__debug__" : Str)) = false := by decide) (he : ∀ v, c.V v → starEach (e :: es) v.env = (false, eval e v.env) :: starEach es v.env := by intros; rfl) (hpl : ∀ v, c.V v → (backTo pos (starEach es v.env)).any (·.1) = false := by intros; rfl) : GO c (.Call (.Name x p) (e :: es) [] pos) (oCall m ma) := by
  obtain ⟨f, fd, F, hm, hk, hb, _⟩ := d.ex
  obtain ⟨t, a1, a2⟩ := ha
  refine ⟨tCall (SpOf c.f.K c.f.w c.cv none m) [] c.E t, fun v hv => pe_call F (c.hr.mono hj) (gl_of hg v hv) hm hk hb .nil (c.hpass v hv) (a1 v hv) hdb (he v hv) (hpl v hv), fun F H δ σ fp k Q q => a2 F H δ σ fp k _ ?_⟩
  unfold oCall at q
  revert q
  cases ema : ma δ with
  | exc n => exact id
  | no => exact id
  | ok pr =>
    obtain ⟨xs, δ1⟩ := pr
    dsimp only
    intro q F1 H1 fp1 vs k1 r1 s1
    rw [append_nil_vs]
    refine ⟨F1, xs.map .d, [], ORL.data r1, List.nodup_nil, fun b hb => (nomatch hb), k1.sm, ?_⟩
    revert q
    cases m (xs.map .d) with
    | exc n => exact fun q F' H' fp' st => q F' H' (fp' ++ fp1) (s1.trans st.newO)
    | no => exact fun q => q.elim
    | ok pr =>
      obtain ⟨o, out⟩ := pr
      cases out with
      | some o' => exact fun q => q.elim
      | none =>
        intro q F' H' v fp' g ou r nd hg sm st
        have e0 : fp' = [] := ou
        subst e0
        rw [List.append_nil] at nd st
        refine q F' H' fp1 g v (k1.new st sm) r (k1.newNd st nd) (fun b hb => hg b (by simp [hb])) (s1.trans st.newO)
def oCallR (i : Nat) (m : DF) (ma : DM (List D)) : DM O := fun δ => match δ[i]? with
  | some (some _) => (match ma δ with
  | .ok (xs, δ1) => (match δ1[i]? with
    | some (some o) => (match m (o :: xs.map .d) with
      | .ok (r, some o') => .ok (r, δ1.set i (some o'))
      | .ok (_, none) => .no
      | .exc n => .exc n
      | .no => .no)
    | _ => .no)
  | .exc n => .exc n
  | .no => .no)
  | _ => .no
/-- f(x, ..): f may change what x owns -/
theorem go_callR (i : Nat) {x y : Str} {st : Stmt} {j : Nat} {ps : List Str} {m : DF} {es : List Expr} {ma : DM (List D)} {p pos pos' : Pos} (d : DefOk c.f.prog c.f.w c.f.K c.f.mg c.f.base c.cv x st j (some 0) ps m) (ha : GA c es ma) (hj : j ≤ c.k := by first | exact Nat.le_of_ble_eq_true rfl | exact Nat.le_refl _) (hg : GlC c x := by rfl)
    (hN : c.f.N[i]? = some y := by rfl) (hvi : VisC c y := by first | exact Or.inl rfl | exact Or.inr (Or.inl rfl) | exact Or.inr (Or.inr rfl)) (hd1 : (y == ("__debug__" : Str)) = false := by decide) (hd2 : (y == ("__classdict__" : Str)) = false := by decide)
    (hdb : (x == ("__debug__" : Str)) = false := by decide) (he : ∀ v, c.V v → starEach (.Name y pos' :: es) v.env = (false, eval (.Name y pos') v.env) :: starEach es v.env := by intros; rfl) (hpl : ∀ v, c.V v → (backTo pos (starEach es v.env)).any (·.1) = false := by intros; rfl) : GO c (.Call (.Name x p) (.Name y pos' :: es) [] pos) (oCallR i m ma) := by
  obtain ⟨f, fd, F, hm, hk, hb, _⟩ := d.ex
  obtain ⟨t, a1, a2⟩ := ha
  refine ⟨tCall (SpOf c.f.K c.f.w c.cv (some 0) m) [] c.E (tCons (tVar i) t), fun v hv => pe_call F (c.hr.mono hj) (gl_of hg v hv) hm hk hb .nil (c.hpass v hv) (pa_cons (pe_var hN (vis_of hvi v hv) hd1 hd2) (a1 v hv) (he v hv)) hdb (he v hv) (hpl v hv), fun F H δ σ fp k Q q => ?_⟩
  unfold oCallR at q
  cases e0 : δ[i]? with
  | none => rw [e0] at q; exact q.elim
  | some s0 =>
   cases s0 with
   | none => rw [e0] at q; exact q.elim
   | some o0 =>
    rw [e0] at q
    obtain ⟨v, _, _, _, hv, _⟩ := k.er.get e0
    refine ⟨v, hv, a2 F H δ σ fp k _ ?_⟩
    revert q
    dsimp only
    cases ema : ma δ with
    | exc n => exact id
    | no => exact id
    | ok pr =>
      obtain ⟨xs, δ1⟩ := pr
      dsimp only
      intro q F1 H1 fp1 vs k1 r1 s1
      rw [append_nil_vs]
      cases e1 : δ1[i]? with
      | none => rw [e1] at q; exact q.elim
      | some so =>
        cases so with
        | none => rw [e1] at q; exact q.elim
        | some o =>
          rw [e1] at q
          obtain ⟨v1, f1, pre, post, b1, b2, b3, b4, _⟩ := k1.er.get e1
          rw [hv] at b1
          cases b1
          subst b3
          have n1 := List.nodup_append.mp k1.nd
          have n2 := List.nodup_append.mp n1.2.1
          refine ⟨F1, o :: xs.map .d, f1, ⟨v, vs, f1, [], rfl, b2, ORL.data r1, by simp⟩, n2.1, fun b hb => k1.fr b (by simp [hb]), k1.sm, ?_⟩
          revert q
          dsimp only
          cases m (o :: xs.map .d) with
          | exc n =>
            intro q F' H' fp' st
            refine q F' H' (pre ++ (fp' ++ post)) (s1.trans ?_)
            have s2 := (st.besideR (g := post)).beside (g := pre)
            exact s2
          | no => exact fun q => q.elim
          | ok pr =>
            obtain ⟨r, out⟩ := pr
            cases out with
            | none => exact fun q => q.elim
            | some o' =>
              intro q F' H' u fp' g ou ru nd hgg sm st
              obtain ⟨v2, c1, c2⟩ := ou
              have c1' : v = v2 := by simpa using c1
              subst c1'
              have ht : ∀ b ∈ pre ++ post, H1 b ≠ none ∧ b ∉ f1 := fun b hb => by
                refine ⟨k1.there b (by rcases List.mem_append.mp hb with hb | hb <;> simp [hb]), fun z => ?_⟩
                rcases List.mem_append.mp hb with hb | hb
                · exact n1.2.2 b hb b (by simp [z]) rfl
                · exact n2.2.2 b z b hb rfl
              have er := b4 F' H' o' v fp' st.ext (fun b hb => st.same (ht b hb).1 (ht b hb).2) c2
              rw [set_self hv] at er
              have gn : ∀ b ∈ g ++ fp', b ∉ pre ++ post := fun b hb z => st.notOwn (ht b z).1 (ht b z).2 hb
              have nd' := List.nodup_append.mp nd
              have ndp : (pre ++ post).Nodup := List.nodup_append.mpr ⟨n1.1, n2.2.1, fun a ha b hb => n1.2.2 a ha b (by simp [hb])⟩
              have ndp' := List.nodup_append.mp ndp
              have nfull : (pre ++ (fp' ++ post)).Nodup := List.nodup_append.mpr ⟨n1.1, List.nodup_append.mpr ⟨nd'.2.1, n2.2.1, fun a ha b hb e => gn a (by simp [ha]) (by simp [e, hb])⟩, fun a ha b hb e => by
                rcases List.mem_append.mp hb with hb | hb
                · exact gn b (by simp [hb]) (by rw [← e]; simp [ha])
                · exact ndp'.2.2 a ha b hb e⟩
              have k3 : OkC c F' H' (δ1.set i (some o')) σ (pre ++ (fp' ++ post)) := ⟨er, nfull, fun b hb => by
                rcases List.mem_append.mp hb with hb | hb
                · exact st.notFrz (ht b (by simp [hb])).1 (ht b (by simp [hb])).2 (k1.fr b (by simp [hb]))
                · rcases List.mem_append.mp hb with hb | hb
                  · exact hgg b (by simp [hb])
                  · exact st.notFrz (ht b (by simp [hb])).1 (ht b (by simp [hb])).2 (k1.fr b (by simp [hb])), sm⟩
              refine q F' H' (pre ++ (fp' ++ post)) g u k3 ru ?_ (fun b hb => hgg b (by simp [hb])) (s1.trans ?_)
              · refine List.nodup_append.mpr ⟨nd'.1, nfull, fun a ha b hb e => ?_⟩
                subst e
                rcases List.mem_append.mp hb with hb | hb
                · exact gn a (by simp [ha]) (by simp [hb])
                · rcases List.mem_append.mp hb with hb | hb
                  · exact nd'.2.2 a ha a hb rfl
                  · exact gn a (by simp [ha]) (by simp [hb])
              · have s2 := (st.besideR (g := post)).beside (g := pre)
                exact s2.mono fun b hb => by
                  rcases List.mem_append.mp hb with hb | hb
                  · simp [hb]
                  · rcases List.mem_append.mp hb with hb | hb
                    · simp [hb]
                    · rcases List.mem_append.mp hb with hb | hb <;> simp [hb]
end

/-! ### a def by its body -/
def runDef (n np : Nat) (io : Option Nat) (m : SM) : DF := fun os => if os.length = np then
  (match m (os.map some ++ List.replicate (n - np) none) with
    | .ok (.nx, δ') => (match io with
      | none => .ok (.d .non, none)
      | some i => (match δ'[i]? with
        | some (some o) => .ok (.d .non, some o)
        | _ => .no))
    | .ok (.rt r, δ') => (match io with
      | none => .ok (r, none)
      | some i => (match δ'[i]? with
        | some (some o) => .ok (r, some o)
        | _ => .no))
    | .ok (.bk, _) => .no
    | .ok (.ct, _) => .no
    | .exc n => .exc n
    | .no => .no) else .no
theorem ER.start {K : PySem.W.Frag} {w : World} {F H : Hp} (j : Nat) : ∀ {os : List O} {vs : List V} {fp : List Addr}, ORL K w F H os vs fp → ER K w F H (os.map some ++ List.replicate j none) (vs.map some ++ List.replicate j none) fp
  | [], vs, fp, h => by
    obtain ⟨e1, e2⟩ := h
    subst e1; subst e2
    show ER K w F H (List.replicate j none) (List.replicate j none) []
    induction j with
    | zero => exact ⟨rfl, rfl⟩
    | succ j ih => exact ⟨none, List.replicate j none, rfl, ih⟩
  | o :: os, vs, fp, h => by
    obtain ⟨x, r, f1, f2, h1, h2, h3, h4⟩ := h
    subst h1; subst h4
    exact ⟨x, r.map some ++ List.replicate j none, f1, f2, rfl, h2, ER.start j h3, rfl⟩
abbrev dctx (P : Program) (w : World) (K : PySem.W.Frag) (mg : Str → Option Value) (base : Heap) (A : Around) (N : List Str) (sc : Scope) (E : XK) (cv : Nat → Value) (k : Nat) (fx : Nat → Bool) (V : Var → Prop)
    (hsc : ∀ v, V v → v.env.scope = sc) (nd : N.Nodup) (hr : Room k A) (hfn : ∀ v, V v → ∀ x, Loc sc x → v.fn x = true ∨ sc.names.lookup x = some .local) (hown : ∀ v, V v → PassesOwn (model P w) A v.env v.xe)
    (hpass : ∀ v, V v → Passes (CX P w) (cx ⟨P, w, K, mg, base, A, N, true⟩ v) E) : Ctx := ⟨⟨P, w, K, mg, base, A, N, true⟩, V, sc, sc, E, cv, k, fx, hsc, fun _ h => h, rfl, nd, hr, hfn, hown, hpass⟩
def fxOf (io : Option Nat) : Nat → Bool := fun i => match io with
  | none => false
  | some j => Nat.beq i j
/-- the body's judgement, whatever runs around it -/
def BodyOk (P : Program) (w : World) (K : PySem.W.Frag) (mg : Str → Option Value) (base : Heap) (cv : Nat → Value) (N : List Str) (sc : Scope) (k : Nat) (io : Option Nat) (body : List Stmt) (m : SM) : Prop :=
  ∀ (A : Around) (E : XK) (V : Var → Prop) hsc nd hr hfn hown hpass, GSs (dctx P w K mg base A N sc E cv k (fxOf io) V hsc nd hr hfn hown hpass) body m
theorem fn_def {P : Program} {w : World} {K : PySem.W.Frag} {mg : Str → Option Value} {base : Heap} {cv : Nat → Value} {x qual : Str} {params : Arguments} {body : List Stmt} {sc : Scope} {f : Addr} {fd : FuncData} {N ps : List Str} {k : Nat} {io : Option Nat} {m : SM}
    (D : FunD K x qual params body sc [] [] f fd) (S : FnScope N ps sc) (b : BodyOk P w K mg base cv N sc k io body m) (hio : ∀ i ∈ io, i < ps.length) : FnOk P w K mg base (CX P w) (k + 1) f fd ps (SpOf K w cv io (runDef N.length ps.length io m)) := by
  have len : ∀ vs H Q E, SpOf K w cv io (runDef N.length ps.length io m) vs H Q E → vs.length = ps.length := by
    rintro vs H Q E ⟨F, os, fp, h1, h2, h3, h4, h5⟩
    by_cases e : os.length = ps.length
    · rw [← h1.length]; exact e
    · unfold runDef at h5
      rw [if_neg e] at h5
      exact h5.elim
  refine D.ok S len fun cdv A outer s H vs Q E hr hsp => ?_
  have hlen := len vs H Q E hsp
  obtain ⟨F, os, fp, h1, h2, h3, h4, h5⟩ := hsp
  have hos : os.length = ps.length := by rw [h1.length]; exact hlen
  let X : Cx := cxOf (CX P w) P w K mg base N qual sc f cdv A outer s H E
  let v0 : Var := ⟨X.s_0, X.H_0, X.env, X.outer, X.stack, X.ex, X.fn, X.pn, X.xe⟩
  obtain ⟨t, t1, t2⟩ := b (A.deeper (PyProof.Rows.envOfC qual sc s.heap.objs.size f cdv)) E (fun v => v = v0) (fun v hv => by subst hv; rfl) S.nd hr (fun v hv x hx => by subst hv; exact .inl rfl)
    (fun v hv => by subst hv; exact passes_of (X := X) (K := fun e s'' => CX P w outer H s E e s'') (E₁ := fun e' s'' => CX P w outer H s E e' s'') rfl)
    (fun v hv => by subst hv; exact passes_call (X := X) (W := fun cls d _ H => E cls d H) (takes_of (X := X) (E := E) rfl rfl rfl (E₁ := fun e' s'' => CX P w outer H s E e' s'') rfl) (fun cls d σ H h => h))
  refine ⟨t, t1 v0 rfl, ?_⟩
  have k0 : Ok K w F H (os.map some ++ List.replicate (N.length - ps.length) none) (L2.start N vs) fp := by
    refine ⟨?_, h2, h3, h4⟩
    unfold L2.start
    rw [hlen]
    exact ER.start _ h1
  refine t2 F H _ _ fp k0 _ ?_
  unfold runDef at h5
  rw [if_pos hos] at h5
  have out : ∀ {δ' : DEnv} {σ' : St} {F' H' : Hp} {fp' : List Addr} {i : Nat} {o : O}, i ∈ io → Ok K w F' H' δ' σ' fp' → (∀ i, fxOf io i = true → σ'[i]? = (L2.start N vs)[i]?) → δ'[i]? = some (some o) → ∃ v f, vs[i]? = some v ∧ OR K w F' H' o v f ∧ f.Nodup ∧ ∀ b ∈ f, b ∈ fp' := fun {δ' σ' F' H' fp' i o} hi k' sf e => by
    obtain ⟨v, f1, pre, post, b1, b2, b3, _⟩ := k'.er.get e
    have hi' : i < vs.length := by rw [hlen]; exact hio i hi
    have hfx : fxOf io i = true := by
      have e : io = some i := hi
      rw [e]
      exact Nat.beq_refl i
    rw [sf i hfx] at b1
    unfold L2.start at b1
    rw [List.getElem?_append_left (by rw [List.length_map]; exact hi'), List.getElem?_map] at b1
    subst b3
    have n1 := List.nodup_append.mp k'.nd
    have n2 := List.nodup_append.mp n1.2.1
    refine ⟨v, f1, ?_, b2, n2.1, fun b hb => by simp [hb]⟩
    cases e2 : vs[i]? with
    | none => rw [e2] at b1; cases b1
    | some u =>
      rw [e2] at b1
      cases b1
      rfl
  revert h5
  cases m (os.map some ++ List.replicate (N.length - ps.length) none) with
  | exc n => exact fun q => q
  | no => exact fun q => q
  | ok p =>
    obtain ⟨fl, δ'⟩ := p
    cases fl with
    | bk => exact fun q => q.elim
    | ct => exact fun q => q.elim
    | nx =>
      cases io with
      | none => exact fun q F' H' σ' fp' k' sf st => q F' H' .non [] [] rfl ⟨rfl, rfl⟩ (by simp) (fun b hb => by simp at hb) k'.sm (st.mono fun b hb => by simp at hb)
      | some i =>
        dsimp only
        cases e : δ'[i]? with
        | none => exact fun q => q.elim
        | some so =>
          cases so with
          | none => exact fun q => q.elim
          | some o =>
            intro q F' H' σ' fp' k' sf st
            obtain ⟨u, fu, e1, e2, e3, e4⟩ := out rfl k' sf.2 e
            exact q F' H' .non fu [] ⟨u, e1, e2⟩ ⟨rfl, rfl⟩ (by simpa using e3) (fun b hb => k'.fr b (e4 b (by simpa using hb))) k'.sm (st.mono fun b hb => e4 b (by simpa using hb))
    | rt r =>
      cases io with
      | none => exact fun q F' H' σ' fp' g u k' sf r nd hg st => q F' H' u [] g rfl r (by simpa using (List.nodup_append.mp nd).1) (fun b hb => hg b (by simpa using hb)) k'.sm (st.mono fun b hb => by simp at hb; simp [hb])
      | some i =>
        dsimp only
        cases e : δ'[i]? with
        | none => exact fun q => q.elim
        | some so =>
          cases so with
          | none => exact fun q => q.elim
          | some o =>
            intro q F' H' σ' fp' g u k' sf r nd hg st
            obtain ⟨u', fu, e1, e2, e3, e4⟩ := out rfl k' sf.2 e
            have n1 := List.nodup_append.mp nd
            refine q F' H' u fu g ⟨u', e1, e2⟩ r (List.nodup_append.mpr ⟨n1.1, e3, fun a ha b hb => n1.2.2 a ha b (e4 b hb)⟩) (fun b hb => ?_) k'.sm (st.mono fun b hb => ?_)
            · rcases List.mem_append.mp hb with hb | hb
              · exact hg b hb
              · exact k'.fr b (e4 b hb)
            · rcases List.mem_append.mp hb with hb | hb
              · simp [hb]
              · simp [e4 b hb]
/-- a def that is never called so -/
theorem fn_none {P : Program} {w : World} {K : PySem.W.Frag} {mg : Str → Option Value} {base : Heap} {cv : Nat → Value} {f : Addr} {fd : FuncData} {ps : List Str} {k : Nat} {io : Option Nat} : FnOk P w K mg base (CX P w) k f fd ps (SpOf K w cv io (fun _ => .no)) :=
  ⟨fun vs H Q E ⟨F, os, fp, h1, h2, h3, h4, h5⟩ => h5.elim, fun A outer s H args us vs Q E hr he hb hv ⟨F, os, fp, h1, h2, h3, h4, h5⟩ => h5.elim⟩
end G
/-! G5: operators on tuples, lists, texts; ==, <, in; subscripts; built-in functions. -/
namespace G
open PySem L2

/-! ### tuple * int, all ways -/
theorem tuple_mul1 (l : Addr) (items : Array Value) (n : Nat) (dd : Option Addr) (sl : Array (Option Value)) (x : Int) (u : Tok) (c0 : (decide (x < -(2 ^ 63)) || decide (x ≥ 2 ^ 63)) = false) (c1 : (items.isEmpty || x == 1) = true) :
    Meets (Builtin.«tuple.__mul__» ⟨[.ref l, .int x u], []⟩) (fun _ R s => s.heap.get? l = some { cls := .type "tuple", dict := dd, data := .seq items n, slots := sl } ∧ R (.ok (.ret (Value.ref l))) s) :=
  .of_wp fun prog w A R s h => by
    obtain ⟨hp, g, d, tk, os⟩ := s
    obtain ⟨hl, h⟩ := h
    have f1 := AutoSeq1.idx_int
    wp_walk using wpAny_loadPart' hl
    repeat (first
      | (refine wpAny_ite_false (decide_eq_false (by rw [c0]; exact Bool.false_ne_true)) ?_; wp_walk using wpAny_loadPart' hl)
      | (refine wpAny_ite_true (decide_eq_true c1) ?_; wp_walk using wpAny_loadPart' hl))
    exact ⟨_, rfl, h⟩
theorem tuple_mul0 (l : Addr) (items : Array Value) (n : Nat) (dd : Option Addr) (sl : Array (Option Value)) (x : Int) (u : Tok) (c0 : (decide (x < -(2 ^ 63)) || decide (x ≥ 2 ^ 63)) = false) (c1 : (items.isEmpty || x == 1) = false) (c2 : (decide (x ≤ 0) || items.isEmpty) = true) :
    Meets (Builtin.«tuple.__mul__» ⟨[.ref l, .int x u], []⟩) (fun _ R s => s.heap.get? l = some { cls := .type "tuple", dict := dd, data := .seq items n, slots := sl } ∧
      R (.ok (.ret (Value.ref s.heap.objs.size))) { s with heap := s.heap.push { cls := Value.type "tuple", data := Data.seq #[] }, toks := s.toks }) :=
  .of_wp fun prog w A R s h => by
    obtain ⟨hp, g, d, tk, os⟩ := s
    obtain ⟨hl, h⟩ := h
    have f1 := AutoSeq1.idx_int
    wp_walk using wpAny_loadPart' hl
    repeat (first
      | (refine wpAny_ite_false (decide_eq_false (by rw [c0]; exact Bool.false_ne_true)) ?_; wp_walk using wpAny_loadPart' hl)
      | (refine wpAny_ite_false (decide_eq_false (by rw [c1]; exact Bool.false_ne_true)) ?_; wp_walk using wpAny_loadPart' hl)
      | (refine wpAny_ite_true (decide_eq_true c2) ?_; wp_walk using wpAny_loadPart' hl))
    exact ⟨_, rfl, h⟩

/-- tuple * int -/
def rRepA (K : PySem.W.Frag) : R2 := fun x y H Q => ∃ l k xs, x = .ref l ∧ y = .int k ∧ SqT K H l xs ∧ -1000000 ≤ k ∧ k ≤ 1000 ∧ xs.length ≤ 1000 ∧
  (xs = [] ∨ k = 1 → Q (.ref l) H) ∧ (¬ (xs = [] ∨ k = 1) → k ≤ 0 → ∀ p, H p = none → Q (.ref p) (upd H p (.tup []))) ∧ (¬ (xs = [] ∨ k = 1) → 2 ≤ k → ∀ p, H p = none → Q (.ref p) (upd H p (.tup (List.replicate k.toNat xs).flatten)))
theorem op_repA {X : Cx} : OpR X (binaryOp .Mult) (rRepA X.K) := by
  intro pins s σ H x y v u Q I rx ry h
  obtain ⟨l, k, xs, rfl, rfl, hT, h0, h1, hz, q1, q2, q3⟩ := h
  by_cases hk : 2 ≤ k ∧ xs ≠ []
  · exact op_repT pins s σ H _ _ v u Q I rx ry ⟨l, k, xs, rfl, rfl, hT, hk.2, hk.1, h1, hz, q3 (fun z => z.elim hk.2 (by omega)) hk.1⟩
  cases rx
  obtain ⟨t, rfl⟩ := ry
  obtain ⟨its, r, ⟨⟨cls, dd, data, sl⟩, ho, hc, n, hd⟩, hs⟩ := I.tuple hT
  simp only at hc hd
  subst hc hd
  have hle : its.length = xs.length := r.length.symm
  have c0 : (decide (k < -(2 ^ 63)) || decide (k ≥ 2 ^ 63)) = false := by
    rw [decide_eq_false (by omega), decide_eq_false (by omega)] <;> rfl
  have hemp : its.toArray.isEmpty = xs.isEmpty := by
    cases its with
    | nil => cases xs with
      | nil => rfl
      | cons a b => simp at hle
    | cons a b => cases xs with
      | nil => simp at hle
      | cons a b => rfl
  by_cases h2 : xs = [] ∨ k = 1
  · have c1 : (its.toArray.isEmpty || k == 1) = true := by
      rw [hemp]
      rcases h2 with e | e
      · rw [e]; rfl
      · rw [e]; simp
    exact wpAny_binaryOp_repeat_ref (T := "tuple") (U := "int") (by decide) ⟨_, ho, rfl⟩ (fun s' => typeIs_int s' k t) noFill_tuple_mul F.fills_int_mul F.slot_int_rmul repeat_tuple F.slot_int_index.lookup
      (call_meets F.slot_int_rmul (typeIs_int s k t) F.entry_int_rmul (F.args_int_rmul_2 _ _) (int_rmul_tuple k t l its.toArray n dd sl)
        ⟨ho, rfl, ⟨_, ho, rfl⟩, call_meets F.slot_tuple_mul ⟨_, ho, rfl⟩ F.entry_tuple_mul (F.args_tuple_mul_2 _ _) (tuple_mul1 l its.toArray n dd sl k t c0 c1) ⟨ho, ⟨.ref l, H, I.tok _, rfl, q1 h2⟩⟩⟩)
  · have hk0 : k ≤ 0 := by
      have hx : xs ≠ [] := fun e => h2 (.inl e)
      have : ¬ 2 ≤ k := fun z => hk ⟨z, hx⟩
      have : k ≠ 1 := fun e => h2 (.inr e)
      omega
    have c1 : (its.toArray.isEmpty || k == 1) = false := by
      rw [hemp]
      have hx : xs.isEmpty = false := by
        cases xs with
        | nil => exact absurd (.inl rfl) h2
        | cons a b => rfl
      rw [hx, Bool.false_or]
      exact beq_eq_false_iff_ne.mpr (fun e => h2 (.inr e))
    have c2 : (decide (k ≤ 0) || its.toArray.isEmpty) = true := by rw [decide_eq_true hk0]; rfl
    refine wpAny_binaryOp_repeat_ref (T := "tuple") (U := "int") (by decide) ⟨_, ho, rfl⟩ (fun s' => typeIs_int s' k t) noFill_tuple_mul F.fills_int_mul F.slot_int_rmul repeat_tuple F.slot_int_index.lookup
      (call_meets F.slot_int_rmul (typeIs_int s k t) F.entry_int_rmul (F.args_int_rmul_2 _ _) (int_rmul_tuple k t l its.toArray n dd sl)
        ⟨ho, rfl, ⟨_, ho, rfl⟩, call_meets F.slot_tuple_mul ⟨_, ho, rfl⟩ F.entry_tuple_mul (F.args_tuple_mul_2 _ _) (tuple_mul0 l its.toArray n dd sl k t c0 c1 c2) ⟨ho, ?_⟩⟩)
    refine ⟨.ref s.heap.objs.size, _, I.laid (t' := s.toks) (o := .tup []) (fun b ob q => Heap.get?_push_of_some _ q) (Nat.le_refl _) ?_, rfl, q2 h2 hk0 _ (I.hok.fresh (Nat.le_refl _))⟩
    exact ⟨Nat.zero_le _, [], .nil, PyProof.Rows.IsTup.new _ _⟩

section
variable {c : Ctx}
/-! ### + -/
def fAdd : D → D → R O
  | .int i, .int j => .ok (.d (.int (i + j)))
  | .tup xs, .tup ys => if small (xs.length + ys.length) = true then .ok (.d (.tup (xs ++ ys))) else .no
  | .lst xs, .lst ys => if small (xs.length + ys.length) = true then .ok (.lst ((xs ++ ys).map .d)) else .no
  | .str x, .str y => if small (x.length + y.length) = true then .ok (.d (.str (x ++ y))) else .no
  | _, _ => .no
def rAddS : R2 := fun x y H Q => ∃ i j, x = .str i ∧ y = .str j ∧ i.length + j.length ≤ sizeLine ∧ Q (.str (i ++ j)) H
def rAddA (K : PySem.W.Frag) : R2 := fun x y H Q => (rI0 (fun i j => .int (i + j)) x y H Q ∨ rAddS x y H Q) ∨ (rCatA K x y H Q ∨ rCat x y H Q)
theorem op_addA {X : Cx} : OpR X (binaryOp .Add) (rAddA X.K) := (op_add.or op_add_str).or (op_catA.or op_cat)
/-- a value that stands, handed on as owned data -/
theorem here_o {F H : Hp} {z : D} {v : V} {Q : VK} (sm : Same F H) (rv : RepC c F z v) (q : ∀ F' H' v g, Same F' H' → ORC c F' H' (.d z) v g → g.Nodup → (∀ b ∈ g, F' b = none) → Step F H [] F' H' g → Q v H') : Q v H :=
  q F H v [] sm ⟨rv, rfl⟩ List.nodup_nil (fun b hb => (nomatch hb)) step_id
theorem new_tupO {F H : Hp} {ds : List D} {xs : List V} {p : Addr} {Q : VK} (sm : Same F H) (r : RepLC c F ds xs) (hp : H p = none) (q : ∀ F' H' v g, Same F' H' → ORC c F' H' (.d (.tup ds)) v g → g.Nodup → (∀ b ∈ g, F' b = none) → Step F H [] F' H' g → Q v H') : Q (.ref p) (upd H p (.tup xs)) := by
  obtain ⟨n, sm'⟩ := step_tup (o := .tup xs) hp sm
  exact q _ _ _ [] sm' ⟨⟨p, xs, rfl, SqT.of upd_same, r.mono n.ext⟩, rfl⟩ List.nodup_nil (fun b hb => (nomatch hb)) n
theorem new_lstO {F H : Hp} {ds : List D} {xs : List V} {p : Addr} {Q : VK} (sm : Same F H) (r : RepLC c F ds xs) (hp : H p = none) (q : ∀ F' H' v g, Same F' H' → ORC c F' H' (.lst (ds.map .d)) v g → g.Nodup → (∀ b ∈ g, F' b = none) → Step F H [] F' H' g → Q v H') : Q (.ref p) (upd H p (.lst xs)) := by
  obtain ⟨n, sm', fp⟩ := step_own (o := .lst xs) hp sm
  exact q _ _ _ [p] sm' ⟨p, xs, [], rfl, upd_same, ORL.data r, rfl⟩ (by simp) (fun b hb => by
    have e : b = p := by simpa using hb
    rw [e]; exact fp) n
theorem opo_add : OpO c (rAddA c.f.K) fAdd := by
  intro F H x y vx vy sm rx ry Q q
  unfold fAdd at q
  cases x <;> cases y <;> first | exact q.elim | skip
  case int.int i j => exact .inl (.inl ⟨i, j, rx, ry, here_o (c := c) sm (show RepC c F (.int (i + j)) (.int (i + j)) from rfl) q⟩)
  case str.str x y =>
    dsimp only at q
    by_cases e : small (x.length + y.length) = true
    · rw [if_pos e] at q
      exact .inl (.inr ⟨x, y, rx, ry, small_ok e, here_o (c := c) sm (show RepC c F (.str (x ++ y)) (.str (x ++ y)) from rfl) q⟩)
    · rw [if_neg e] at q
      exact q.elim
  case tup.tup ds es =>
    dsimp only at q
    by_cases e : small (ds.length + es.length) = true
    · rw [if_pos e] at q
      obtain ⟨a, xs, ex, hx, r1⟩ := rx
      obtain ⟨b, ys, ey, hy, r2⟩ := ry
      refine .inr (.inl ⟨a, b, xs, ys, ex, ey, Same.sqT sm hx, Same.sqT sm hy, by rw [← r1.length, ← r2.length]; exact small_ok e, fun z => ?_, fun _ z => ?_, fun _ _ p hp => new_tupO sm (r1.append r2) hp q⟩)
      · have z' : ds = [] := List.eq_nil_of_length_eq_zero (by rw [r1.length, z]; rfl)
        subst z'
        have rr : RepC c F (.tup es) (.ref b) := ⟨b, ys, rfl, hy, r2⟩
        exact here_o sm rr q
      · have z' : es = [] := List.eq_nil_of_length_eq_zero (by rw [r2.length, z]; rfl)
        subst z'
        rw [List.append_nil] at q
        have rr : RepC c F (.tup ds) (.ref a) := ⟨a, xs, rfl, hx, r1⟩
        exact here_o sm rr q
    · rw [if_neg e] at q
      exact q.elim
  case lst.lst ds es =>
    dsimp only at q
    by_cases e : small (ds.length + es.length) = true
    · rw [if_pos e] at q
      obtain ⟨a, xs, ex, hx, r1⟩ := rx
      obtain ⟨b, ys, ey, hy, r2⟩ := ry
      exact .inr (.inr ⟨a, b, xs, ys, ex, ey, sm _ _ hx, sm _ _ hy, by rw [← r1.length, ← r2.length]; exact small_ok e, fun p hp => new_lstO sm (r1.append r2) hp q⟩)
    · rw [if_neg e] at q
      exact q.elim
theorem go_addA {a b : Expr} {ma mb : DM D} {pos : Pos} (ha : GD c a ma) (hb : GD c b mb) : GO c (.BinOp a .Add b pos) (o2 fAdd ma mb) := go_op (fun _ _ => op_addA) opo_add ha hb

/-! ### * -/
def fMul : D → D → R O
  | .int i, .int j => if okMul i j = true then .ok (.d (.int (i * j))) else .no
  | .tup xs, .int k => if (decide (-1000000 ≤ k) && decide (k ≤ 1000) && Nat.ble xs.length 1000) = true then .ok (.d (.tup (List.replicate k.toNat xs).flatten)) else .no
  | .lst xs, .int k => if (decide (-1000000 ≤ k) && decide (k ≤ 1000000) && small (xs.length * k.toNat)) = true then .ok (.lst ((List.replicate k.toNat xs).flatten.map .d)) else .no
  | _, _ => .no
def rMulA (K : PySem.W.Frag) : R2 := fun x y H Q => rI CMul (fun i j => .int (i * j)) x y H Q ∨ (rRepA K x y H Q ∨ rRep x y H Q)
theorem op_mulA {X : Cx} : OpR X (binaryOp .Mult) (rMulA X.K) := op_mul.or (op_repA.or op_rep)
theorem RepL.flat {K : PySem.W.Frag} {w : World} {F : Hp} {ds : List D} {xs : List V} (r : RepL K w F ds xs) : ∀ n : Nat, RepL K w F (List.replicate n ds).flatten (List.replicate n xs).flatten
  | 0 => rfl
  | n + 1 => by
    rw [List.replicate_succ, List.replicate_succ, List.flatten_cons, List.flatten_cons]
    exact r.append (RepL.flat r n)
theorem opo_mul : OpO c (rMulA c.f.K) fMul := by
  intro F H x y vx vy sm rx ry Q q
  unfold fMul at q
  cases x <;> cases y <;> first | exact q.elim | skip
  case int.int i j =>
    dsimp only at q
    by_cases e : okMul i j = true
    · rw [if_pos e] at q
      exact .inl ⟨i, j, rx, ry, okMul_ok e, here_o (c := c) sm (show RepC c F (.int (i * j)) (.int (i * j)) from rfl) q⟩
    · rw [if_neg e] at q
      exact q.elim
  case tup.int ds k =>
    dsimp only at q
    by_cases e : (decide (-1000000 ≤ k) && decide (k ≤ 1000) && Nat.ble ds.length 1000) = true
    · rw [if_pos e] at q
      have e' := Bool.and_eq_true_iff.mp e
      have e2 := Bool.and_eq_true_iff.mp e'.1
      have e3 := Nat.le_of_ble_eq_true e'.2
      obtain ⟨a, xs, ex, hx, r1⟩ := rx
      refine .inr (.inl ⟨a, k, xs, ex, ry, Same.sqT sm hx, of_decide_eq_true e2.1, of_decide_eq_true e2.2, by rw [← r1.length]; exact e3, fun z => ?_, fun z hk p hp => ?_, fun _ _ p hp => new_tupO sm (r1.flat k.toNat) hp q⟩)
      · have q' : (List.replicate k.toNat ds).flatten = ds := by
          rcases z with z | z
          · have z' : ds = [] := List.eq_nil_of_length_eq_zero (by rw [r1.length, z]; rfl)
            subst z'
            simp
          · subst z
            simp [List.replicate]
        rw [q'] at q
        have rr : RepC c F (.tup ds) (.ref a) := ⟨a, xs, rfl, hx, r1⟩
        exact here_o sm rr q
      · have k0 : k.toNat = 0 := by omega
        rw [k0] at q
        exact new_tupO (xs := []) sm (show RepLC c F [] [] from rfl) hp q
    · rw [if_neg e] at q
      exact q.elim
  case lst.int ds k =>
    dsimp only at q
    by_cases e : (decide (-1000000 ≤ k) && decide (k ≤ 1000000) && small (ds.length * k.toNat)) = true
    · rw [if_pos e] at q
      have e' := Bool.and_eq_true_iff.mp e
      have e2 := Bool.and_eq_true_iff.mp e'.1
      have l1 := of_decide_eq_true e2.1
      have l2 := of_decide_eq_true e2.2
      obtain ⟨a, xs, ex, hx, r1⟩ := rx
      exact .inr (.inr ⟨a, k, xs, ex, ry, sm _ _ hx, by omega, by omega, by rw [← r1.length]; exact small_ok e'.2, fun p hp => new_lstO sm (r1.flat k.toNat) hp q⟩)
    · rw [if_neg e] at q
      exact q.elim
theorem go_mulA {a b : Expr} {ma mb : DM D} {pos : Pos} (ha : GD c a ma) (hb : GD c b mb) : GO c (.BinOp a .Mult b pos) (o2 fMul ma mb) := go_op (fun _ _ => op_mulA) opo_mul ha hb

/-! ### data as PyData -/
mutual
def D.pd : D → PyData
  | .non => .none
  | .bl b => .bool b
  | .int i => .int i
  | .str x => .str x
  | .tup ds => .tuple (D.pdL ds)
  | .lst ds => .list (D.pdL ds)
  | .kst ds => .list (D.pdL ds)
  | .dct _ _ => .dict []
def D.pdL : List D → List PyData
  | [] => []
  | d :: ds => D.pd d :: D.pdL ds
end
mutual
theorem Rep.dp {K : PySem.W.Frag} {w : World} {F H : Hp} (sm : Same F H) : ∀ (d : D) (v : V), d.pd.canLay0 = true → Rep K w F d v → Dp K H v d.pd
  | .non, v, _, h => by
    have e : v = .non := h
    subst e; exact .non
  | .bl b, v, _, h => by
    have e : v = .bl b := h
    subst e; exact .bl b
  | .int i, v, _, h => by
    have e : v = .int i := h
    subst e; exact .int i
  | .str x, v, _, h => by
    have e : v = .str x := h
    subst e; exact .str x
  | .tup ds, v, l, h => by
    obtain ⟨a, xs, h1, h2, h3⟩ := h
    subst h1
    rw [D.pd] at l ⊢
    exact .tup (Same.sqT sm h2) (RepL.dp sm ds xs (by rw [PyData.canLay0] at l; exact l) h3)
  | .lst ds, v, l, h => by
    obtain ⟨a, xs, h1, h2, h3⟩ := h
    subst h1
    rw [D.pd] at l ⊢
    exact .lst (SqL.of (sm _ _ h2)) (RepL.dp sm ds xs (by rw [PyData.canLay0] at l; exact l) h3)
  | .kst ds, v, l, h => by
    obtain ⟨a, xs, h1, h2, h3⟩ := h
    subst h1
    rw [D.pd] at l ⊢
    exact .lst (sm.seq h2) (RepL.dp sm ds xs (by rw [PyData.canLay0] at l; exact l) h3)
  | .dct ks ds, v, l, h => by
    rw [D.pd, PyData.canLay0] at l
    cases l
theorem RepL.dp {K : PySem.W.Frag} {w : World} {F H : Hp} (sm : Same F H) : ∀ (ds : List D) (xs : List V), PyData.canLayAll0 (D.pdL ds) = true → RepL K w F ds xs → DpAll K H xs (D.pdL ds)
  | [], xs, _, h => by
    have e : xs = [] := h
    subst e
    rw [D.pdL]; exact .nil
  | d :: ds, xs, l, h => by
    obtain ⟨x, r, h1, h2, h3⟩ := h
    subst h1
    rw [D.pdL] at l ⊢
    rw [PyData.canLayAll0] at l
    have l' := Bool.and_eq_true_iff.mp l
    exact .cons (Rep.dp sm d x l'.1 h2) (RepL.dp sm ds r l'.2 h3)
end
/-! ### ==, != -/
def D.same (x y : D) : Bool := PyData.eqv x.pd y.pd
def D.sh (x : D) : Bool := SeqAt.shaped x.pd
def fEq : D → D → R D
  | .int i, .int j => .ok (.bl (decide (i = j)))
  | x, y => if (x.sh && y.sh) = true then .ok (.bl (x.same y)) else .no
def fNe : D → D → R D
  | .int i, .int j => .ok (.bl (!decide (i = j)))
  | x, y => if (x.sh && y.sh) = true then .ok (.bl (!x.same y)) else .no
theorem hu64 (c : Ctx) : ∀ v, c.V v → (cx c.f v).A.units + 64 < cLine := fun v _ => by
  have h := c.hr.un
  show c.f.A.units + 64 < cLine
  omega
theorem hu65 (c : Ctx) : ∀ v, c.V v → (cx c.f v).A.units + 65 < cLine := fun v _ => by
  have h := c.hr.un
  show c.f.A.units + 65 < cLine
  omega
theorem fEq_eq {x y z : D} (h : fEq x y = .ok z) : x.sh = true ∧ y.sh = true ∧ z = .bl (x.same y) := by
  unfold fEq at h
  split at h
  · rename_i i j
    refine ⟨rfl, rfl, ?_⟩
    have e : (D.int i).same (.int j) = decide (i = j) := by
      unfold D.same
      rw [D.pd, D.pd, PyData.eqv]
      by_cases z : i = j
      · subst z; simp
      · simp [z]
    rw [e]
    injection h with h
    exact h.symm
  · split at h
    · rename_i e
      have e' := Bool.and_eq_true_iff.mp e
      injection h with h
      exact ⟨e'.1, e'.2, h.symm⟩
    · cases h
theorem fNe_eq {x y z : D} (h : fNe x y = .ok z) : x.sh = true ∧ y.sh = true ∧ z = .bl (!x.same y) := by
  unfold fNe at h
  split at h
  · rename_i i j
    refine ⟨rfl, rfl, ?_⟩
    have e : (D.int i).same (.int j) = decide (i = j) := by
      unfold D.same
      rw [D.pd, D.pd, PyData.eqv]
      by_cases z : i = j
      · subst z; simp
      · simp [z]
    rw [e]
    injection h with h
    exact h.symm
  · split at h
    · rename_i e
      have e' := Bool.and_eq_true_iff.mp e
      injection h with h
      exact ⟨e'.1, e'.2, h.symm⟩
    · cases h
theorem opd_eq : OpD c (rEqD c.f.K) fEq := OpD.here fun F H x y vx vy sm rx ry Q z e q => by
  obtain ⟨s1, s2, e3⟩ := fEq_eq e
  subst e3
  exact ⟨x.pd, y.pd, Rep.dp sm x vx (SeqAt.canLay_of_shaped s1) rx, Rep.dp sm y vy (SeqAt.canLay_of_shaped s2) ry, s1, s2, q _ rfl⟩
theorem opd_ne : OpD c (rNeD c.f.K) fNe := OpD.here fun F H x y vx vy sm rx ry Q z e q => by
  obtain ⟨s1, s2, e3⟩ := fNe_eq e
  subst e3
  exact ⟨x.pd, y.pd, Rep.dp sm x vx (SeqAt.canLay_of_shaped s1) rx, Rep.dp sm y vy (SeqAt.canLay_of_shaped s2) ry, s1, s2, q _ rfl⟩
section
variable {a b : Expr} {ma mb : DM D} {pos : Pos}
theorem gd_eq (ha : GD c a ma) (hb : GD c b mb) : GD c (.Compare a [.Eq] [b] pos) (d2 fEq ma mb) := gd_cmp (fun v hv => op_eqD (hu64 c v hv)) opd_eq ha hb (nomark _)
theorem gd_ne (ha : GD c a ma) (hb : GD c b mb) : GD c (.Compare a [.NotEq] [b] pos) (d2 fNe ma mb) := gd_cmp (fun v hv => op_neD (hu64 c v hv)) opd_ne ha hb (nomark _)
theorem gt_eq (ha : GD c a ma) (hb : GD c b mb) : GT c (.Compare a [.Eq] [b] pos) (dBool (d2 fEq ma mb)) := gt_cmp (fun v hv => op_eqD (hu64 c v hv)) opd_eq ha hb (nomark _)
theorem gt_ne (ha : GD c a ma) (hb : GD c b mb) : GT c (.Compare a [.NotEq] [b] pos) (dBool (d2 fNe ma mb)) := gt_cmp (fun v hv => op_neD (hu64 c v hv)) opd_ne ha hb (nomark _)
end
/-! ### is None, is not None -/
def fIs : D → D → R D
  | .non, .non => .ok (.bl true)
  | _, .non => .ok (.bl false)
  | _, _ => .no
def fIsN : D → D → R D
  | .non, .non => .ok (.bl false)
  | _, .non => .ok (.bl true)
  | _, _ => .no
theorem rep_non {F : Hp} {x : D} {v : V} (r : RepC c F x v) : decide (v = .non) = match x with | .non => true | _ => false := by
  cases x with
  | non => exact decide_eq_true r
  | bl b => have e : v = .bl b := r; subst e; rfl
  | int i => have e : v = .int i := r; subst e; rfl
  | str y => have e : v = .str y := r; subst e; rfl
  | tup ds => obtain ⟨a, xs, e, _⟩ := r; subst e; rfl
  | lst ds => obtain ⟨a, xs, e, _⟩ := r; subst e; rfl
  | kst ds => obtain ⟨a, xs, e, _⟩ := r; subst e; rfl
  | dct ks ds => obtain ⟨a, o, xs, ys, e, _⟩ := r; subst e; rfl
theorem opd_is : OpD c (fun x y H Q => y = .non ∧ Q (.bl (decide (x = .non))) H) fIs := OpD.here fun F H x y vx vy sm rx ry Q z e q => by
  have h := rep_non rx
  unfold fIs at e
  cases y <;> first | (cases x <;> cases e; done) | skip
  refine ⟨ry, q _ ?_⟩
  rw [h]
  cases x <;> (cases e; rfl)
theorem opd_isN : OpD c (fun x y H Q => y = .non ∧ Q (.bl (!decide (x = .non))) H) fIsN := OpD.here fun F H x y vx vy sm rx ry Q z e q => by
  have h := rep_non rx
  unfold fIsN at e
  cases y <;> first | (cases x <;> cases e; done) | skip
  refine ⟨ry, q _ ?_⟩
  rw [h]
  cases x <;> (cases e; rfl)
section
variable {a b : Expr} {ma mb : DM D} {pos : Pos}
theorem gd_is (ha : GD c a ma) (hb : GD c b mb) : GD c (.Compare a [.Is] [b] pos) (d2 fIs ma mb) := gd_cmp (fun _ _ => op_isN) opd_is ha hb (nomark _)
theorem gd_isN (ha : GD c a ma) (hb : GD c b mb) : GD c (.Compare a [.IsNot] [b] pos) (d2 fIsN ma mb) := gd_cmp (fun _ _ => op_notN) opd_isN ha hb (nomark _)
theorem gt_is (ha : GD c a ma) (hb : GD c b mb) : GT c (.Compare a [.Is] [b] pos) (dBool (d2 fIs ma mb)) := gt_cmp (fun _ _ => op_isN) opd_is ha hb (nomark _)
theorem gt_isN (ha : GD c a ma) (hb : GD c b mb) : GT c (.Compare a [.IsNot] [b] pos) (dBool (d2 fIsN ma mb)) := gt_cmp (fun _ _ => op_notN) opd_isN ha hb (nomark _)
end
end
end G
/-! G6: subscripts, slices, built-in functions, isinstance, <, in, chains, truth. -/
namespace G
open PySem L2
section
variable {c : Ctx}
/-! ### items -/
def D.items : D → Option (List D)
  | .tup ds => some ds
  | .lst ds => some ds
  | .kst ds => some ds
  | _ => none
/-- a sequence's values -/
def SqAny (K : PySem.W.Frag) (H : Hp) (a : Addr) (xs : List V) : Prop := SqL K H a xs ∨ SqT K H a xs
theorem rep_items {F H : Hp} (sm : Same F H) {x : D} {v : V} {ds : List D} (h : x.items = some ds) (r : RepC c F x v) : ∃ a xs, v = .ref a ∧ SqAny c.f.K H a xs ∧ RepLC c F ds xs := by
  cases x <;> first | cases h | skip
  · obtain ⟨a, xs, h1, h2, h3⟩ := r
    exact ⟨a, xs, h1, .inr (Same.sqT sm h2), h3⟩
  · obtain ⟨a, xs, h1, h2, h3⟩ := r
    exact ⟨a, xs, h1, .inl (SqL.of (sm _ _ h2)), h3⟩
  · obtain ⟨a, xs, h1, h2, h3⟩ := r
    exact ⟨a, xs, h1, .inl (sm.seq h2), h3⟩
def O.items : O → Option (List O)
  | .d (.tup ds) => some (ds.map .d)
  | .d (.lst ds) => some (ds.map .d)
  | .d (.kst ds) => some (ds.map .d)
  | .lst os => some os
  | _ => none
/-! ### x[i] -/
def fIx : D → D → R D := fun x y => match y with
  | .int i => (match x.items with
    | some ds => (match atI ds i with
      | some d => .ok d
      | none => .no)
    | none => .no)
  | _ => .no
theorem atI_rep {F : Hp} {ds : List D} {xs : List V} {i : Int} {d : D} (r : RepLC c F ds xs) (e : atI ds i = some d) : ∃ x, atI xs i = some x ∧ RepC c F d x := by
  unfold atI at e ⊢
  rw [r.length] at e
  cases q : ixN xs.length i with
  | none => rw [q] at e; cases e
  | some j =>
    rw [q] at e
    exact r.get e
theorem opd_ix : OpD c (rIx c.f.K) fIx := OpD.here fun F H x y vx vy sm rx ry Q z e q => by
  unfold fIx at e
  cases y <;> first | cases e | skip
  rename_i i
  dsimp only at e
  cases ei : x.items with
  | none => rw [ei] at e; cases e
  | some ds =>
    rw [ei] at e
    dsimp only at e
    cases ea : atI ds i with
    | none => rw [ea] at e; cases e
    | some d =>
      rw [ea] at e
      cases e
      obtain ⟨a, xs, h1, h2, h3⟩ := rep_items sm ei rx
      obtain ⟨u, e1, e2⟩ := atI_rep h3 ea
      rcases h2 with h2 | h2
      · exact .inl ⟨a, xs, i, u, h1, ry, h2, e1, q _ e2⟩
      · exact .inr (.inl ⟨a, xs, i, u, h1, ry, h2, e1, q _ e2⟩)
theorem gd_ix {a b : Expr} {ma mb : DM D} {pos : Pos} (ha : GD c a ma) (hb : GD c b mb) (hs : PlainIx b := by intro _ _; rfl) : GD c (.Subscript a b pos) (d2 fIx ma mb) := by
  obtain ⟨ta, a1, a2⟩ := ha
  obtain ⟨tb, b1, b2⟩ := hb
  exact ⟨tOp (rIx c.f.K) ta tb, fun v hv => pe_ix ix_seq (a1 v hv) (b1 v hv) hs, sem_two a2 b2 opd_ix⟩
/-- of a name: what it owns is not frozen -/
def oAt (o : O) (i : Int) : R D := match o.items with
  | some os => (match atI os i with
    | some (.d x) => .ok x
    | _ => .no)
  | none => .no
def dIxN (k : Nat) (mb : DM D) : DM D := fun δ => match δ[k]? with
  | some (some _) => (match mb δ with
    | .ok (.int i, δ1) => (match δ1[k]? with
      | some (some o) => (match oAt o i with
        | .ok x => .ok (x, δ1)
        | _ => .no)
      | _ => .no)
    | .ok _ => .no
    | .exc n => .exc n
    | .no => .no)
  | _ => .no
theorem or_items {F H : Hp} (sm : Same F H) {o : O} {v : V} {fp : List Addr} {os : List O} (h : o.items = some os) (r : ORC c F H o v fp) : ∃ a xs fs, v = .ref a ∧ SqAny c.f.K H a xs ∧ ORL c.f.K c.f.w F H os xs fs := by
  cases o with
  | lst ps =>
    have e : ps = os := by injection h
    subst e
    obtain ⟨p, xs, fs, h1, h2, h3, h4⟩ := r
    exact ⟨p, xs, fs, h1, .inl (SqL.of h2), h3⟩
  | dct ks ps => cases h
  | d x =>
    have hx : ∃ ds, x.items = some ds ∧ os = ds.map .d := by
      cases x <;> first | cases h | skip
      · exact ⟨_, rfl, rfl⟩
      · exact ⟨_, rfl, rfl⟩
      · exact ⟨_, rfl, rfl⟩
    obtain ⟨ds, e1, e2⟩ := hx
    subst e2
    obtain ⟨a, xs, h1, h2, h3⟩ := rep_items sm e1 r.1
    exact ⟨a, xs, [], h1, h2, ORL.data h3⟩
theorem ORL.get {K : PySem.W.Frag} {w : World} {F H : Hp} : ∀ {os : List O} {xs : List V} {fp : List Addr} {i : Nat} {o : O}, ORL K w F H os xs fp → os[i]? = some o → ∃ x f, xs[i]? = some x ∧ OR K w F H o x f
  | [], xs, fp, i, o, h, e => by simp at e
  | o0 :: os, xs, fp, 0, o, h, e => by
    obtain ⟨x, r, f1, f2, h1, h2, h3, h4⟩ := h
    subst h1
    simp at e
    subst e
    exact ⟨x, f1, rfl, h2⟩
  | o0 :: os, xs, fp, i + 1, o, h, e => by
    obtain ⟨x, r, f1, f2, h1, h2, h3, h4⟩ := h
    subst h1
    obtain ⟨y, f, h4, h5⟩ := ORL.get (i := i) h3 (by simpa using e)
    exact ⟨y, f, by simpa using h4, h5⟩
theorem gd_ixN (k : Nat) {x : Str} {b : Expr} {mb : DM D} {p pos : Pos} (hb : GD c b mb) (hN : c.f.N[k]? = some x := by rfl) (hv : VisC c x := by first | exact Or.inl rfl | exact Or.inr (Or.inl rfl) | exact Or.inr (Or.inr rfl)) (hd : (x == ("__debug__" : Str)) = false := by decide)
    (hcd : (x == ("__classdict__" : Str)) = false := by decide) (hs : PlainIx b := by intro _ _; rfl) : GD c (.Subscript (.Name x p) b pos) (dIxN k mb) := by
  obtain ⟨tb, b1, b2⟩ := hb
  refine ⟨tOp (rIx c.f.K) (tVar k) tb, fun v h => pe_ix ix_seq (pe_var hN (vis_of hv v h) hd hcd) (b1 v h) hs, fun F H δ σ fp ok Q q => ?_⟩
  unfold dIxN at q
  cases e0 : δ[k]? with
  | none => rw [e0] at q; exact q.elim
  | some s0 =>
    cases s0 with
    | none => rw [e0] at q; exact q.elim
    | some o0 =>
      rw [e0] at q
      obtain ⟨v, _, _, _, hσ, _⟩ := ok.er.get e0
      refine ⟨v, hσ, b2 F H δ σ fp ok _ ?_⟩
      revert q
      dsimp only
      cases mb δ with
      | exc n => exact id
      | no => exact fun q => q.elim
      | ok pr =>
        obtain ⟨y, δ1⟩ := pr
        cases y <;> first | exact fun q => q.elim | skip
        rename_i i
        intro q F1 H1 fp1 vy ok1 ry s1
        dsimp only at q
        cases e1 : δ1[k]? with
        | none => rw [e1] at q; exact q.elim
        | some s1' =>
          cases s1' with
          | none => rw [e1] at q; exact q.elim
          | some o =>
            rw [e1] at q
            obtain ⟨v1, f1, _, _, hσ1, r1, _⟩ := ok1.er.get e1
            rw [hσ] at hσ1
            cases hσ1
            dsimp only at q
            unfold oAt at q
            cases ei : o.items with
            | none => rw [ei] at q; exact q.elim
            | some os =>
              rw [ei] at q
              dsimp only at q
              obtain ⟨a, xs, fs, h1, h2, h3⟩ := or_items ok1.sm ei r1
              cases ea : atI os i with
              | none => rw [ea] at q; exact q.elim
              | some oe =>
                rw [ea] at q
                cases oe <;> first | exact q.elim | skip
                rename_i d
                dsimp only at q
                have hg : ∃ u, atI xs i = some u ∧ RepC c F1 d u := by
                  unfold atI at ea ⊢
                  rw [h3.length] at ea
                  cases qj : ixN xs.length i with
                  | none => rw [qj] at ea; cases ea
                  | some j =>
                    rw [qj] at ea
                    obtain ⟨u, f, g1, g2⟩ := h3.get ea
                    exact ⟨u, g1, g2.1⟩
                obtain ⟨u, g1, g2⟩ := hg
                have fin := q F1 H1 fp1 u ok1 g2 s1
                rcases h2 with h2 | h2
                · exact .inl ⟨a, xs, i, u, h1, ry, h2, g1, fin⟩
                · exact .inr (.inl ⟨a, xs, i, u, h1, ry, h2, g1, fin⟩)

/-! ### x[lo:hi] -/
def GP (c : Ctx) (e : Option Expr) (m : DM (Option Int)) : Prop := ∃ t : TO, (∀ v, c.V v → PO (cx c.f v) e t) ∧ ∀ F H δ σ fp, OkC c F H δ σ fp → ∀ Q : Option Int → Hp → Prop,
  (match m δ with
    | .ok (o, δ') => ∀ F' H' fp', OkC c F' H' δ' σ fp' → Step F H fp F' H' fp' → Q o H'
    | .exc n => WXc c F H fp n
    | .no => False) → t σ H Q
def pNone : DM (Option Int) := fun δ => .ok (none, δ)
def pSome (m : DM D) : DM (Option Int) := fun δ => match m δ with
  | .ok (.int i, δ') => .ok (some i, δ')
  | .ok _ => .no
  | .exc n => .exc n
  | .no => .no
theorem gp_none : GP c none pNone := ⟨tNoPart, fun _ _ => po_none, fun F H δ σ fp ok Q q => q F H fp ok Step.refl⟩
theorem gp_some {e : Expr} {m : DM D} (h : GD c e m) : GP c (some e) (pSome m) := by
  obtain ⟨t, h1, h2⟩ := h
  refine ⟨tPart t, fun v hv => po_some (h1 v hv), fun F H δ σ fp ok Q q => h2 F H δ σ fp ok _ ?_⟩
  unfold pSome at q
  revert q
  cases m δ with
  | exc n => exact id
  | no => exact fun q => q.elim
  | ok p =>
    obtain ⟨x, δ'⟩ := p
    cases x <;> first | exact fun q => q.elim | skip
    rename_i i
    exact fun q F' H' fp' v ok' r s => ⟨i, r, q F' H' fp' ok' s⟩
def cutD (xs : List D) (lo hi : Option Int) : List D := (xs.drop (HT.sIx xs.length 0 lo)).take (HT.sIx xs.length xs.length hi - HT.sIx xs.length 0 lo)
def fSl : D → Option Int → Option Int → R O
  | .tup ds, lo, hi => .ok (.d (.tup (cutD ds lo hi)))
  | .lst ds, lo, hi => .ok (.lst ((cutD ds lo hi).map .d))
  | .kst ds, lo, hi => .ok (.lst ((cutD ds lo hi).map .d))
  | _, _, _ => .no
def oSl (ma : DM D) (ml mh : DM (Option Int)) : DM O := fun δ => match ma δ with
  | .ok (x, δ1) => (match ml δ1 with
    | .ok (lo, δ2) => (match mh δ2 with
      | .ok (hi, δ3) => (match fSl x lo hi with
        | .ok o => .ok (o, δ3)
        | _ => .no)
      | .exc n => .exc n
      | .no => .no)
    | .exc n => .exc n
    | .no => .no)
  | .exc n => .exc n
  | .no => .no
def rSlAny (K : PySem.W.Frag) : V → Option Int → Option Int → Hp → VK → Prop := fun x lo hi H Q => rSlA K x lo hi H Q ∨ rSlL K x lo hi H Q
theorem RepL.cut {F : Hp} {ds : List D} {xs : List V} (r : RepLC c F ds xs) (lo hi : Option Int) : RepLC c F (cutD ds lo hi) (cutV xs lo hi) := by
  unfold cutD cutV
  rw [r.length]
  exact (RepL.drop _ r).take _
theorem sl_any {F H : Hp} {x : D} {v : V} {lo hi : Option Int} {Q : VK} (sm : Same F H) (r : RepC c F x v) (q : match fSl x lo hi with
    | .ok z => ∀ F' H' v g, Same F' H' → ORC c F' H' z v g → g.Nodup → (∀ b ∈ g, F' b = none) → Step F H [] F' H' g → Q v H'
    | _ => False) : rSlAny c.f.K v lo hi H Q := by
  unfold fSl at q
  cases x <;> first | exact q.elim | skip
  · obtain ⟨a, xs, h1, h2, h3⟩ := r
    have hc := RepL.cut h3 lo hi
    refine .inl ⟨a, xs, h1, Same.sqT sm h2, fun z => ?_, fun _ p hp => new_tupO sm hc hp q⟩
    have e : cutV xs lo hi = xs := by
      unfold cutV
      rw [z.1, z.2]
      simp
    rename_i ds
    have e2 : cutD ds lo hi = ds := by
      unfold cutD
      rw [h3.length, z.1, z.2, List.drop_zero, Nat.sub_zero, ← h3.length, List.take_length]
    have rr : RepC c F (.tup (cutD ds lo hi)) (.ref a) := by rw [e2]; exact ⟨a, xs, rfl, h2, h3⟩
    exact here_o sm rr q
  · obtain ⟨a, xs, h1, h2, h3⟩ := r
    exact .inr ⟨a, xs, h1, SqL.of (sm _ _ h2), fun p hp => new_lstO sm (RepL.cut h3 lo hi) hp q⟩
  · obtain ⟨a, xs, h1, h2, h3⟩ := r
    exact .inr ⟨a, xs, h1, sm.seq h2, fun p hp => new_lstO sm (RepL.cut h3 lo hi) hp q⟩
theorem go_sl {e : Expr} {lo hi : Option Expr} {ma : DM D} {ml mh : DM (Option Int)} {p2 pos : Pos} (ha : GD c e ma) (hl : GP c lo ml) (hh : GP c hi mh) : GO c (.Subscript e (.Slice lo hi none p2) pos) (oSl ma ml mh) := by
  obtain ⟨ta, a1, a2⟩ := ha
  obtain ⟨tl, l1, l2⟩ := hl
  obtain ⟨th, h1, h2⟩ := hh
  refine ⟨tSl (rSlAny c.f.K) ta tl th, fun v hv => pe_slice (sl_tupA.or sl_list) (a1 v hv) (l1 v hv) (h1 v hv), fun F H δ σ fp ok Q q => a2 F H δ σ fp ok _ ?_⟩
  unfold oSl at q
  revert q
  cases ma δ with
  | exc n => exact id
  | no => exact fun q => q.elim
  | ok p =>
    obtain ⟨x, δ1⟩ := p
    dsimp only
    intro q F1 H1 fp1 v ok1 r1 s1
    refine l2 F1 H1 δ1 σ fp1 ok1 _ ?_
    revert q
    cases ml δ1 with
    | exc n => exact fun q => WXc.step q s1
    | no => exact fun q => q.elim
    | ok p =>
      obtain ⟨lo, δ2⟩ := p
      dsimp only
      intro q F2 H2 fp2 ok2 s2
      refine h2 F2 H2 δ2 σ fp2 ok2 _ ?_
      revert q
      cases mh δ2 with
      | exc n => exact fun q => WXc.step q (s1.trans s2)
      | no => exact fun q => q.elim
      | ok p =>
        obtain ⟨hi, δ3⟩ := p
        dsimp only
        intro q F3 H3 fp3 ok3 s3
        refine sl_any (c := c) ok3.sm (r1.mono (s2.ext.trans s3.ext)) ?_
        revert q
        cases fSl x lo hi with
        | exc n => exact fun q => q.elim
        | no => exact id
        | ok o => exact fun q F4 H4 u g sm ro nd hg st => q F4 H4 fp3 g u (ok3.new st sm) ro (ok3.newNd st nd) hg (s1.trans (s2.trans (s3.trans st.newO)))
/-- xs[::-1] -/
def fRev : D → R O
  | .lst ds => .ok (.lst (ds.reverse.map .d))
  | .kst ds => .ok (.lst (ds.reverse.map .d))
  | _ => .no
theorem RepL.rev {F : Hp} : ∀ {ds : List D} {xs : List V}, RepLC c F ds xs → RepLC c F ds.reverse xs.reverse
  | [], xs, h => by
    have e : xs = [] := h
    subst e; exact rfl
  | d :: ds, xs, h => by
    obtain ⟨x, r, h1, h2, h3⟩ := h
    subst h1
    rw [List.reverse_cons, List.reverse_cons]
    exact (RepL.rev h3).append ⟨x, [], rfl, h2, rfl⟩
theorem go_rev {e : Expr} {ma : DM D} {k : Nat} {p1 p2 p3 pos : Pos} (ha : GD c e ma) : GO c (.Subscript e (.Slice none none (some (.UnaryOp .USub (.Constant (.int 1) k p1) p2)) p3) pos) (o1 fRev ma) := by
  obtain ⟨ta, a1, a2⟩ := ha
  refine ⟨tRevL c.f.K ta, fun v hv => pe_revL (a1 v hv), sem_oneO (r := fun x H Q => ∃ a xs, x = .ref a ∧ SqL c.f.K H a xs ∧ ∀ p, H p = none → Q (.ref p) (upd H p (.lst xs.reverse))) a2 ?_⟩
  intro F H x vx sm rx Q q
  unfold fRev at q
  cases x <;> first | exact q.elim | skip
  · obtain ⟨a, xs, h1, h2, h3⟩ := rx
    exact ⟨a, xs, h1, SqL.of (sm _ _ h2), fun p hp => new_lstO sm (RepL.rev h3) hp q⟩
  · obtain ⟨a, xs, h1, h2, h3⟩ := rx
    exact ⟨a, xs, h1, sm.seq h2, fun p hp => new_lstO sm (RepL.rev h3) hp q⟩

/-! ### built-in functions of one argument -/
def r1 (r : List V → Hp → VK → Prop) : V → Hp → VK → Prop := fun x H Q => r [x] H Q
section
variable {x : Str} {e : Expr} {m : DM D} {p pos : Pos} {r : List V → Hp → VK → Prop}
theorem gd_b1 {id : String} {f : D → R D} (hc : ∀ v, c.V v → CallR (cx c.f v) (.builtin id) r) (hf : UnD c (r1 r) f) (hm : c.f.mg x = none) (hv : bootBuiltins x = some (.builtin id)) (h : GD c e m) (hg : GlC c x := by rfl) (hn : x ≠ "__name__" := by decide) (hdb : (x == ("__debug__" : Str)) = false := by decide)
    (he : ∀ v, c.V v → starEach [e] v.env = (false, eval e v.env) :: starEach [] v.env := by intros; rfl) (hpl : ∀ v, c.V v → (backTo pos (starEach ([] : List Expr) v.env)).any (·.1) = false := by intros; rfl) : GD c (.Call (.Name x p) [e] [] pos) (d1 f m) := by
  obtain ⟨t, h1, h2⟩ := h
  exact ⟨tCB r (tCons t tNil), fun v hv' => pe_callB (hc v hv') (gl_of hg v hv') hm hv (pa_cons (h1 v hv') pa_nil (he v hv')) hn hdb (he v hv') (hpl v hv'), sem_one (r := r1 r) h2 hf⟩
theorem go_b1 {id : String} {f : D → R O} (hc : ∀ v, c.V v → CallR (cx c.f v) (.builtin id) r) (hf : UnO c (r1 r) f) (hm : c.f.mg x = none) (hv : bootBuiltins x = some (.builtin id)) (h : GD c e m) (hg : GlC c x := by rfl) (hn : x ≠ "__name__" := by decide) (hdb : (x == ("__debug__" : Str)) = false := by decide)
    (he : ∀ v, c.V v → starEach [e] v.env = (false, eval e v.env) :: starEach [] v.env := by intros; rfl) (hpl : ∀ v, c.V v → (backTo pos (starEach ([] : List Expr) v.env)).any (·.1) = false := by intros; rfl) : GO c (.Call (.Name x p) [e] [] pos) (o1 f m) := by
  obtain ⟨t, h1, h2⟩ := h
  exact ⟨tCB r (tCons t tNil), fun v hv' => pe_callB (hc v hv') (gl_of hg v hv') hm hv (pa_cons (h1 v hv') pa_nil (he v hv')) hn hdb (he v hv') (hpl v hv'), sem_oneO (r := r1 r) h2 hf⟩
theorem gd_t1 {T : String} {f : D → R D} (hc : ∀ v, c.V v → CallR (cx c.f v) (.type T) r) (hf : UnD c (r1 r) f) (hm : c.f.mg x = none) (hv : bootBuiltins x = some (.type T)) (h : GD c e m) (hg : GlC c x := by rfl) (hn : x ≠ "__name__" := by decide) (hdb : (x == ("__debug__" : Str)) = false := by decide)
    (he : ∀ v, c.V v → starEach [e] v.env = (false, eval e v.env) :: starEach [] v.env := by intros; rfl) (hpl : ∀ v, c.V v → (backTo pos (starEach ([] : List Expr) v.env)).any (·.1) = false := by intros; rfl) : GD c (.Call (.Name x p) [e] [] pos) (d1 f m) := by
  obtain ⟨t, h1, h2⟩ := h
  exact ⟨tCB r (tCons t tNil), fun v hv' => pe_callTy (hc v hv') (gl_of hg v hv') hm hv (pa_cons (h1 v hv') pa_nil (he v hv')) hn hdb (he v hv') (hpl v hv'), sem_one (r := r1 r) h2 hf⟩
theorem go_t1 {T : String} {f : D → R O} (hc : ∀ v, c.V v → CallR (cx c.f v) (.type T) r) (hf : UnO c (r1 r) f) (hm : c.f.mg x = none) (hv : bootBuiltins x = some (.type T)) (h : GD c e m) (hg : GlC c x := by rfl) (hn : x ≠ "__name__" := by decide) (hdb : (x == ("__debug__" : Str)) = false := by decide)
    (he : ∀ v, c.V v → starEach [e] v.env = (false, eval e v.env) :: starEach [] v.env := by intros; rfl) (hpl : ∀ v, c.V v → (backTo pos (starEach ([] : List Expr) v.env)).any (·.1) = false := by intros; rfl) : GO c (.Call (.Name x p) [e] [] pos) (o1 f m) := by
  obtain ⟨t, h1, h2⟩ := h
  exact ⟨tCB r (tCons t tNil), fun v hv' => pe_callTy (hc v hv') (gl_of hg v hv') hm hv (pa_cons (h1 v hv') pa_nil (he v hv')) hn hdb (he v hv') (hpl v hv'), sem_oneO (r := r1 r) h2 hf⟩
end
section
variable {e : Expr} {m : DM D} {p pos : Pos}
def fLen : D → R D
  | .str x => if small x.length = true then .ok (.int x.length) else .no
  | x => match x.items with
    | some ds => .ok (.int ds.length)
    | none => .no
theorem und_len : UnD c (r1 (fun xs H Q => ∃ x n, xs = [x] ∧ LenV c.f.K x H n ∧ Q (.int n) H)) fLen := UnD.here fun F H x vx sm rx Q z e q => by
  unfold fLen at e
  split at e
  · rename_i y
    split at e
    · rename_i hs
      cases e
      have ev : vx = .str y := rx
      subst ev
      exact ⟨_, _, rfl, ⟨small_ok hs, rfl⟩, q _ rfl⟩
    · cases e
  · cases ei : x.items with
    | none => rw [ei] at e; cases e
    | some ds =>
      rw [ei] at e
      cases e
      obtain ⟨a, xs, h1, h2, h3⟩ := rep_items sm ei rx
      subst h1
      rcases h2 with h2 | h2
      · exact ⟨_, ds.length, rfl, .inl ⟨xs, h2, h3.length⟩, q _ rfl⟩
      · exact ⟨_, ds.length, rfl, .inr ⟨xs, h2, h3.length⟩, q _ rfl⟩
theorem gd_len (hm : c.f.mg "len" = none) (h : GD c e m) (hg : GlC c "len" := by rfl) (he : ∀ v, c.V v → starEach [e] v.env = (false, eval e v.env) :: starEach [] v.env := by intros; rfl) : GD c (.Call (.Name "len" p) [e] [] pos) (d1 fLen m) :=
  gd_b1 (fun _ _ => call_len) und_len hm boot_len h hg (he := he)
/-- len of a name: what it owns is not frozen -/
def oLen (o : O) : R D := match o with
  | .d x => fLen x
  | .lst os => .ok (.int os.length)
  | .dct _ _ => .no
def dLenN (k : Nat) : DM D := fun δ => match δ[k]? with
  | some (some o) => (match oLen o with
    | .ok z => .ok (z, δ)
    | _ => .no)
  | _ => .no
theorem gd_lenN (k : Nat) {x : Str} {p' : Pos} (hm : c.f.mg "len" = none) (hg : GlC c "len" := by rfl) (hN : c.f.N[k]? = some x := by rfl) (hv : VisC c x := by first | exact Or.inl rfl | exact Or.inr (Or.inl rfl) | exact Or.inr (Or.inr rfl)) (hd : (x == ("__debug__" : Str)) = false := by decide)
    (hcd : (x == ("__classdict__" : Str)) = false := by decide) : GD c (.Call (.Name "len" p) [.Name x p'] [] pos) (dLenN k) := by
  refine ⟨tCB (fun xs H Q => ∃ x n, xs = [x] ∧ LenV c.f.K x H n ∧ Q (.int n) H) (tCons (tVar k) tNil), fun v h => pe_callB call_len (gl_of hg v h) hm boot_len (pa_cons (pe_var hN (vis_of hv v h) hd hcd) pa_nil), fun F H δ σ fp ok Q q => ?_⟩
  unfold dLenN at q
  cases e0 : δ[k]? with
  | none => rw [e0] at q; exact q.elim
  | some s0 =>
    cases s0 with
    | none => rw [e0] at q; exact q.elim
    | some o =>
      rw [e0] at q
      obtain ⟨v, f1, _, _, hσ, r1', _⟩ := ok.er.get e0
      refine ⟨v, hσ, ?_⟩
      dsimp only at q
      cases o with
      | d y =>
        cases ez : fLen y with
        | exc n => rw [show oLen (.d y) = fLen y from rfl, ez] at q; exact q.elim
        | no => rw [show oLen (.d y) = fLen y from rfl, ez] at q; exact q.elim
        | ok z =>
          rw [show oLen (.d y) = fLen y from rfl, ez] at q
          refine und_len F H y v ok.sm r1'.1 Q ?_
          rw [ez]
          exact fun F' H' u sm ru st => q F' H' fp u (ok.new st sm) ru st.new0
      | dct ks os => exact q.elim
      | lst os =>
        obtain ⟨a, xs, fs, h1, h2, h3, h4⟩ := r1'
        subst h1
        exact ⟨_, os.length, rfl, .inl ⟨xs, SqL.of h2, h3.length⟩, q F H fp _ ok rfl Step.refl⟩
def fAbs : D → R D
  | .int i => .ok (.int (if i < 0 then -i else i))
  | _ => .no
theorem gd_abs (hm : c.f.mg "abs" = none) (h : GD c e m) (hg : GlC c "abs" := by rfl) (he : ∀ v, c.V v → starEach [e] v.env = (false, eval e v.env) :: starEach [] v.env := by intros; rfl) : GD c (.Call (.Name "abs" p) [e] [] pos) (d1 fAbs m) :=
  gd_b1 (r := fun xs H Q => ∃ i, xs = [.int i] ∧ Q (.int (if i < 0 then -i else i)) H) (fun _ _ => call_abs) (UnD.here fun F H x vx sm rx Q z e q => by
    unfold fAbs at e
    cases x <;> first | cases e | skip
    rename_i i
    have ev : vx = .int i := rx
    subst ev
    exact ⟨i, rfl, q _ rfl⟩) hm PyProof.Rows.boot_abs h hg (he := he)
def fInt : D → R D
  | .int i => .ok (.int i)
  | .bl b => .ok (.int (if b then 1 else 0))
  | _ => .no
theorem gd_int1 (hm : c.f.mg "int" = none) (h : GD c e m) (hg : GlC c "int" := by rfl) (he : ∀ v, c.V v → starEach [e] v.env = (false, eval e v.env) :: starEach [] v.env := by intros; rfl) : GD c (.Call (.Name "int" p) [e] [] pos) (d1 fInt m) :=
  gd_t1 (fun _ _ => call_int1) (UnD.here fun F H x vx sm rx Q z e q => by
    unfold fInt at e
    cases x <;> first | cases e | skip
    · rename_i b
      have ev : vx = .bl b := rx
      subst ev
      exact .inr ⟨b, rfl, q _ rfl⟩
    · rename_i i
      have ev : vx = .int i := rx
      subst ev
      exact .inl ⟨i, rfl, q _ rfl⟩) hm PyProof.Rows.boot_int h hg (he := he)
/-- ints of data -/
def D.ints : List D → Option (List Int)
  | [] => some []
  | .int i :: ds => (D.ints ds).map fun is => i :: is
  | _ :: _ => none
theorem rep_ints {F : Hp} : ∀ {ds : List D} {xs : List V} {is : List Int}, D.ints ds = some is → RepLC c F ds xs → xs = is.map V.int
  | [], xs, is, h, r => by
    have e : xs = [] := r
    rw [D.ints] at h
    cases h
    exact e
  | d :: ds, xs, is, h, r => by
    obtain ⟨x, r', h1, h2, h3⟩ := r
    subst h1
    cases d <;> first | (rw [D.ints] at h; cases h; done) | skip
    all_goals try (simp only [D.ints] at h; cases h; done)
    rename_i i
    rw [D.ints] at h
    cases q : D.ints ds with
    | none => rw [q] at h; cases h
    | some js =>
      rw [q] at h
      cases h
      rw [rep_ints q h3, show x = V.int i from h2]
      rfl
def D.bools : List D → Option (List Bool)
  | [] => some []
  | .bl i :: ds => (D.bools ds).map fun is => i :: is
  | _ :: _ => none
theorem rep_bools {F : Hp} : ∀ {ds : List D} {xs : List V} {is : List Bool}, D.bools ds = some is → RepLC c F ds xs → xs = is.map V.bl
  | [], xs, is, h, r => by
    have e : xs = [] := r
    rw [D.bools] at h
    cases h
    exact e
  | d :: ds, xs, is, h, r => by
    obtain ⟨x, r', h1, h2, h3⟩ := r
    subst h1
    cases d <;> first | (rw [D.bools] at h; cases h; done) | skip
    all_goals try (simp only [D.bools] at h; cases h; done)
    rename_i i
    rw [D.bools] at h
    cases q : D.bools ds with
    | none => rw [q] at h; cases h
    | some js =>
      rw [q] at h
      cases h
      rw [rep_bools q h3, show x = V.bl i from h2]
      rfl
/-- a list's items, not a tuple's -/
def D.litems : D → Option (List D)
  | .lst ds => some ds
  | .kst ds => some ds
  | _ => none
theorem rep_litems {F H : Hp} (sm : Same F H) {x : D} {v : V} {ds : List D} (h : x.litems = some ds) (r : RepC c F x v) : ∃ a xs, v = .ref a ∧ SqL c.f.K H a xs ∧ RepLC c F ds xs := by
  cases x <;> first | cases h | skip
  · obtain ⟨a, xs, h1, h2, h3⟩ := r
    exact ⟨a, xs, h1, SqL.of (sm _ _ h2), h3⟩
  · obtain ⟨a, xs, h1, h2, h3⟩ := r
    exact ⟨a, xs, h1, sm.seq h2, h3⟩
def sumI : List Int → Int → Int
  | [], a => a
  | i :: is, a => sumI is (a + i)
theorem sumI_eq : ∀ (is : List Int) (a : Int), sumI is a = a + is.sum
  | [], a => by simp [sumI]
  | i :: is, a => by
    rw [sumI, sumI_eq is, List.sum_cons]
    omega
def fSum (x : D) : R D := match x.litems with
  | some ds => (match D.ints ds with
    | some is => .ok (.int (sumI is 0))
    | none => .no)
  | none => .no
theorem gd_sum (hm : c.f.mg "sum" = none) (h : GD c e m) (hg : GlC c "sum" := by rfl) (he : ∀ v, c.V v → starEach [e] v.env = (false, eval e v.env) :: starEach [] v.env := by intros; rfl) : GD c (.Call (.Name "sum" p) [e] [] pos) (d1 fSum m) :=
  gd_b1 (r := rSum c.f.K) (fun v hv => cr_sum c.hc) (UnD.here fun F H x vx sm rx Q z e q => by
    unfold fSum at e
    cases ei : x.litems with
    | none => rw [ei] at e; cases e
    | some ds =>
      rw [ei] at e
      dsimp only at e
      cases ej : D.ints ds with
      | none => rw [ej] at e; cases e
      | some is =>
        rw [ej] at e
        cases e
        obtain ⟨a, xs, h1, h2, h3⟩ := rep_litems sm ei rx
        have h4 := rep_ints ej h3
        subst h4; subst h1
        exact ⟨a, is, rfl, h2, q _ (by rw [sumI_eq]; show V.int is.sum = V.int (0 + is.sum); rw [Int.zero_add])⟩) hm PyProof.Rows.boot_sum h hg (he := he)
def fAny (x : D) : R D := match x.litems with
  | some ds => (match D.bools ds with
    | some is => .ok (.bl (is.any id))
    | none => .no)
  | none => .no
def fAll (x : D) : R D := match x.litems with
  | some ds => (match D.bools ds with
    | some is => .ok (.bl (is.all id))
    | none => .no)
  | none => .no
theorem gd_any (hm : c.f.mg "any" = none) (h : GD c e m) (hg : GlC c "any" := by rfl) (he : ∀ v, c.V v → starEach [e] v.env = (false, eval e v.env) :: starEach [] v.env := by intros; rfl) : GD c (.Call (.Name "any" p) [e] [] pos) (d1 fAny m) :=
  gd_b1 (r := rAny c.f.K) (fun v hv => cr_any c.hc) (UnD.here fun F H x vx sm rx Q z e q => by
    unfold fAny at e
    cases ei : x.litems with
    | none => rw [ei] at e; cases e
    | some ds =>
      rw [ei] at e
      dsimp only at e
      cases ej : D.bools ds with
      | none => rw [ej] at e; cases e
      | some is =>
        rw [ej] at e
        cases e
        obtain ⟨a, xs, h1, h2, h3⟩ := rep_litems sm ei rx
        have h4 := rep_bools ej h3
        subst h4; subst h1
        exact ⟨a, is, rfl, h2, q _ rfl⟩) hm PyProof.Rows.boot_any h hg (he := he)
theorem gd_all (hm : c.f.mg "all" = none) (h : GD c e m) (hg : GlC c "all" := by rfl) (he : ∀ v, c.V v → starEach [e] v.env = (false, eval e v.env) :: starEach [] v.env := by intros; rfl) : GD c (.Call (.Name "all" p) [e] [] pos) (d1 fAll m) :=
  gd_b1 (r := rAll c.f.K) (fun v hv => cr_all c.hc) (UnD.here fun F H x vx sm rx Q z e q => by
    unfold fAll at e
    cases ei : x.litems with
    | none => rw [ei] at e; cases e
    | some ds =>
      rw [ei] at e
      dsimp only at e
      cases ej : D.bools ds with
      | none => rw [ej] at e; cases e
      | some is =>
        rw [ej] at e
        cases e
        obtain ⟨a, xs, h1, h2, h3⟩ := rep_litems sm ei rx
        have h4 := rep_bools ej h3
        subst h4; subst h1
        exact ⟨a, is, rfl, h2, q _ rfl⟩) hm PyProof.Rows.boot_all h hg (he := he)
/-- the least, the greatest -/
def leastI : List Int → Int → Int
  | [], a => a
  | i :: is, a => leastI is (if i < a then i else a)
def mostI : List Int → Int → Int
  | [], a => a
  | i :: is, a => mostI is (if a < i then i else a)
theorem leastI_ok : ∀ (is : List Int) (a : Int), (leastI is a = a ∨ leastI is a ∈ is) ∧ leastI is a ≤ a ∧ ∀ i ∈ is, leastI is a ≤ i
  | [], a => ⟨.inl rfl, Int.le_refl _, fun i h => nomatch h⟩
  | i :: is, a => by
    rw [leastI]
    obtain ⟨h1, h2, h3⟩ := leastI_ok is (if i < a then i else a)
    by_cases hc : i < a
    · rw [if_pos hc] at h1 h2 h3 ⊢
      refine ⟨.inr (h1.elim (fun z => by rw [z]; simp) fun z => by simp [z]), by omega, fun j hj => ?_⟩
      rcases List.mem_cons.mp hj with z | z
      · rw [z]; exact h2
      · exact h3 j z
    · rw [if_neg hc] at h1 h2 h3 ⊢
      refine ⟨h1.imp id fun z => by simp [z], h2, fun j hj => ?_⟩
      rcases List.mem_cons.mp hj with z | z
      · rw [z]; omega
      · exact h3 j z
theorem mostI_ok : ∀ (is : List Int) (a : Int), (mostI is a = a ∨ mostI is a ∈ is) ∧ a ≤ mostI is a ∧ ∀ i ∈ is, i ≤ mostI is a
  | [], a => ⟨.inl rfl, Int.le_refl _, fun i h => nomatch h⟩
  | i :: is, a => by
    rw [mostI]
    obtain ⟨h1, h2, h3⟩ := mostI_ok is (if a < i then i else a)
    by_cases hc : a < i
    · rw [if_pos hc] at h1 h2 h3 ⊢
      refine ⟨.inr (h1.elim (fun z => by rw [z]; simp) fun z => by simp [z]), by omega, fun j hj => ?_⟩
      rcases List.mem_cons.mp hj with z | z
      · rw [z]; exact h2
      · exact h3 j z
    · rw [if_neg hc] at h1 h2 h3 ⊢
      refine ⟨h1.imp id fun z => by simp [z], h2, fun j hj => ?_⟩
      rcases List.mem_cons.mp hj with z | z
      · rw [z]; omega
      · exact h3 j z
def fMin (x : D) : R D := match x.litems with
  | some ds => (match D.ints ds with
    | some (i :: is) => .ok (.int (leastI is i))
    | _ => .no)
  | none => .no
def fMax (x : D) : R D := match x.litems with
  | some ds => (match D.ints ds with
    | some (i :: is) => .ok (.int (mostI is i))
    | _ => .no)
  | none => .no
theorem gd_min (hm : c.f.mg "min" = none) (h : GD c e m) (hg : GlC c "min" := by rfl) (he : ∀ v, c.V v → starEach [e] v.env = (false, eval e v.env) :: starEach [] v.env := by intros; rfl) : GD c (.Call (.Name "min" p) [e] [] pos) (d1 fMin m) :=
  gd_b1 (r := rMin c.f.K) (fun v hv => cr_min c.hc) (UnD.here fun F H x vx sm rx Q z e q => by
    unfold fMin at e
    cases ei : x.litems with
    | none => rw [ei] at e; cases e
    | some ds =>
      rw [ei] at e
      dsimp only at e
      cases ej : D.ints ds with
      | none => rw [ej] at e; cases e
      | some is =>
        rw [ej] at e
        cases is with
        | nil => cases e
        | cons i is =>
          cases e
          obtain ⟨a, xs, h1, h2, h3⟩ := rep_litems sm ei rx
          have h4 := rep_ints ej h3
          subst h4; subst h1
          obtain ⟨l1, l2, l3⟩ := leastI_ok is i
          refine ⟨a, i :: is, rfl, h2, by simp, fun mm hmm hle => ?_⟩
          have e1 : mm = leastI is i := by
            have a1 : mm ≤ leastI is i := hle _ (l1.elim (fun z => by rw [z]; simp) fun z => by simp [z])
            have a2 : leastI is i ≤ mm := by
              rcases List.mem_cons.mp hmm with z | z
              · rw [z]; exact l2
              · exact l3 _ z
            omega
          rw [e1]
          exact q _ rfl) hm PyProof.Rows.boot_min h hg (he := he)
theorem gd_max (hm : c.f.mg "max" = none) (h : GD c e m) (hg : GlC c "max" := by rfl) (he : ∀ v, c.V v → starEach [e] v.env = (false, eval e v.env) :: starEach [] v.env := by intros; rfl) : GD c (.Call (.Name "max" p) [e] [] pos) (d1 fMax m) :=
  gd_b1 (r := rMax c.f.K) (fun v hv => cr_max c.hc) (UnD.here fun F H x vx sm rx Q z e q => by
    unfold fMax at e
    cases ei : x.litems with
    | none => rw [ei] at e; cases e
    | some ds =>
      rw [ei] at e
      dsimp only at e
      cases ej : D.ints ds with
      | none => rw [ej] at e; cases e
      | some is =>
        rw [ej] at e
        cases is with
        | nil => cases e
        | cons i is =>
          cases e
          obtain ⟨a, xs, h1, h2, h3⟩ := rep_litems sm ei rx
          have h4 := rep_ints ej h3
          subst h4; subst h1
          obtain ⟨l1, l2, l3⟩ := mostI_ok is i
          refine ⟨a, i :: is, rfl, h2, by simp, fun mm hmm hle => ?_⟩
          have e1 : mm = mostI is i := by
            have a1 : mostI is i ≤ mm := hle _ (l1.elim (fun z => by rw [z]; simp) fun z => by simp [z])
            have a2 : mm ≤ mostI is i := by
              rcases List.mem_cons.mp hmm with z | z
              · rw [z]; exact l2
              · exact l3 _ z
            omega
          rw [e1]
          exact q _ rfl) hm PyProof.Rows.boot_max h hg (he := he)
/-! ### tuple(..), list(..) -/
def fTuple : D → R D
  | .tup ds => .ok (.tup ds)
  | .lst ds => .ok (.tup ds)
  | .kst ds => .ok (.tup ds)
  | _ => .no
theorem gd_tuple (hm : c.f.mg "tuple" = none) (h : GD c e m) (hg : GlC c "tuple" := by rfl) (he : ∀ v, c.V v → starEach [e] v.env = (false, eval e v.env) :: starEach [] v.env := by intros; rfl) : GD c (.Call (.Name "tuple" p) [e] [] pos) (d1 fTuple m) :=
  gd_t1 (r := fun xs H Q => ∃ p ys, xs = [.ref p] ∧ ((SqL c.f.K H p ys ∧ ∀ l, H l = none → Q (.ref l) (upd H l (.tup ys))) ∨ (SqT c.f.K H p ys ∧ Q (.ref p) H))) (fun v hv => call_tuple_of) (by
    intro F H x vx sm rx Q q
    unfold fTuple at q
    cases x <;> first | exact q.elim | skip
    · obtain ⟨a, xs, h1, h2, h3⟩ := rx
      subst h1
      exact ⟨a, xs, rfl, .inr ⟨Same.sqT sm h2, q F H _ sm ⟨a, xs, rfl, h2, h3⟩ step_id⟩⟩
    · obtain ⟨a, xs, h1, h2, h3⟩ := rx
      subst h1
      refine ⟨a, xs, rfl, .inl ⟨SqL.of (sm _ _ h2), fun l hl => ?_⟩⟩
      obtain ⟨n, sm'⟩ := step_tup (o := .tup xs) hl sm
      exact q _ _ _ sm' ⟨l, xs, rfl, SqT.of upd_same, RepL.mono n.ext _ _ h3⟩ n
    · obtain ⟨a, xs, h1, h2, h3⟩ := rx
      subst h1
      refine ⟨a, xs, rfl, .inl ⟨sm.seq h2, fun l hl => ?_⟩⟩
      obtain ⟨n, sm'⟩ := step_tup (o := .tup xs) hl sm
      exact q _ _ _ sm' ⟨l, xs, rfl, SqT.of upd_same, RepL.mono n.ext _ _ h3⟩ n) hm PyProof.Rows.boot_tuple h hg (he := he)
def fList (x : D) : R O := match x.items with
  | some ds => .ok (.lst (ds.map .d))
  | none => .no
theorem go_list (hm : c.f.mg "list" = none) (h : GD c e m) (hg : GlC c "list" := by rfl) (he : ∀ v, c.V v → starEach [e] v.env = (false, eval e v.env) :: starEach [] v.env := by intros; rfl) : GO c (.Call (.Name "list" p) [e] [] pos) (o1 fList m) :=
  go_t1 (r := fun xs H Q => ∃ p ys, xs = [.ref p] ∧ (SqL c.f.K H p ys ∨ SqT c.f.K H p ys) ∧ ∀ l, H l = none → Q (.ref l) (upd H l (.lst ys))) (fun v hv => call_list_of) (by
    intro F H x vx sm rx Q q
    unfold fList at q
    cases ei : x.items with
    | none => rw [ei] at q; exact q.elim
    | some ds =>
      rw [ei] at q
      obtain ⟨a, xs, h1, h2, h3⟩ := rep_items sm ei rx
      subst h1
      exact ⟨a, xs, rfl, h2, fun l hl => new_lstO sm h3 hl q⟩) hm PyProof.Rows.boot_list h hg (he := he)
end
end
end G
/-! G7: isinstance, order, chains, in; lists changed in place; parallel stores. -/
namespace G
open PySem L2
section
variable {c : Ctx}
/-! ### isinstance -/
inductive Ty where
  | non | bl | int | str | tup | lst | dct
def Ty.name : Ty → String
  | .non => "NoneType" | .bl => "bool" | .int => "int" | .str => "str" | .tup => "tuple" | .lst => "list" | .dct => "dict"
def Ty.isi : Ty → Ty → Bool
  | .non, .non => true | .bl, .bl => true | .bl, .int => true | .int, .int => true | .str, .str => true | .tup, .tup => true | .lst, .lst => true | .dct, .dct => true
  | _, _ => false
theorem Ty.kit : ∀ a b : Ty, kitB a.name b.name = some (a.isi b) := by
  intro a b
  cases a <;> cases b <;> decide +kernel
def D.ty : D → Option Ty
  | .non => some .non
  | .bl _ => some .bl
  | .int _ => some .int
  | .str _ => some .str
  | .tup _ => some .tup
  | .lst _ => some .lst
  | .kst _ => some .lst
  | .dct _ _ => none
theorem rep_ty {F H : Hp} (sm : Same F H) {x : D} {v : V} {t : Ty} (h : x.ty = some t) (r : RepC c F x v) : TyX c.f.K H v (.type t.name) := by
  cases x <;> first | cases h | skip
  · have e : v = .non := r
    subst e; exact .base .non
  · rename_i b
    have e : v = .bl b := r
    subst e; exact .base (.bl b)
  · rename_i b
    have e : v = .int b := r
    subst e; exact .base (.int b)
  · rename_i b
    have e : v = .str b := r
    subst e; exact .base (.str b)
  · obtain ⟨a, xs, h1, h2, h3⟩ := r
    subst h1
    rcases Same.sqT sm h2 with (h2 | ⟨o, h2⟩) | ⟨o, its, n, h2, h3, _⟩
    · exact .base (.tup h2)
    · exact .fTuple h2
    · exact .kTuple h2 h3
  · obtain ⟨a, xs, h1, h2, h3⟩ := r
    subst h1
    exact .base (.lst (sm _ _ h2))
  · obtain ⟨a, xs, h1, h2, h3⟩ := r
    subst h1
    rcases sm.seq h2 with (h2 | ⟨o, h2⟩) | ⟨o, its, n, h2, h3, _⟩
    · exact .base (.lst h2)
    · exact .base (.frz h2)
    · exact .kList h2 h3
def fIsi (T : Ty) (x : D) : R D := match x.ty with
  | some t => .ok (.bl (t.isi T))
  | none => .no
def fIsi2 (T U : Ty) (x : D) : R D := match x.ty with
  | some t => .ok (.bl (t.isi T || t.isi U))
  | none => .no
section
variable {e : Expr} {m : DM D} {p p2 pos : Pos}
theorem pe_ty {X : Cx} {x : Str} {T : String} {p : Pos} (hg : Gl X x) (hm : X.mg x = none) (hv : bootBuiltins x = some (.type T)) (hn : x ≠ "__name__" := by decide) (hd : (x == ("__debug__" : Str)) = false := by decide) : PE X (.Name x p) (tC (.ty T)) := pe_bltn hg hm hv rfl hn hd
theorem gd_isi (T : Ty) {x : Str} (hi : c.f.mg "isinstance" = none) (hT : c.f.mg x = none) (h : GD c e m) (hv : bootBuiltins x = some (.type T.name) := by decide +kernel) (hg : GlC c "isinstance" := by rfl) (hgT : GlC c x := by rfl) (hn : x ≠ "__name__" := by decide) (hd : (x == ("__debug__" : Str)) = false := by decide)
    (he : ∀ v, c.V v → starEach [e, .Name x p2] v.env = (false, eval e v.env) :: starEach [.Name x p2] v.env := by intros; rfl) (hpl : ∀ v, c.V v → (backTo pos (starEach [.Name x p2] v.env)).any (·.1) = false := by intros; rfl) :
    GD c (.Call (.Name "isinstance" p) [e, .Name x p2] [] pos) (d1 (fIsi T) m) := by
  obtain ⟨t, h1, h2⟩ := h
  refine ⟨tCB (rIsi c.f.K) (tCons t (tCons (tC (.ty T.name)) tNil)), fun v hv' => pe_callB call_isi (gl_of hg v hv') hi PyProof.Rows.boot_isinstance (pa_cons (h1 v hv') (pa_cons (pe_ty (gl_of hgT v hv') hT hv hn hd) pa_nil) (he v hv')) (he := he v hv') (hpl := hpl v hv'),
    sem_one (r := fun x H Q => rIsi c.f.K [x, .ty T.name] H Q) h2 (UnD.here fun F H x vx sm rx Q z ez q => ?_)⟩
  unfold fIsi at ez
  cases et : x.ty with
  | none => rw [et] at ez; cases ez
  | some t =>
    rw [et] at ez
    cases ez
    exact ⟨vx, .ty T.name, _, _, t.isi T, rfl, .ty _, rep_ty sm et rx, kit_ty (Ty.kit t T), q _ rfl⟩
theorem gd_isi2 (T U : Ty) {x y : Str} {k : Nat} {p3 tpos : Pos} (hi : c.f.mg "isinstance" = none) (hT : c.f.mg x = none) (hU : c.f.mg y = none) (h : GD c e m) (hv : bootBuiltins x = some (.type T.name) := by decide +kernel) (hv2 : bootBuiltins y = some (.type U.name) := by decide +kernel)
    (hg : GlC c "isinstance" := by rfl) (hgT : GlC c x := by rfl) (hgU : GlC c y := by rfl) (hn : x ≠ "__name__" := by decide) (hd : (x == ("__debug__" : Str)) = false := by decide) (hn2 : y ≠ "__name__" := by decide) (hd2 : (y == ("__debug__" : Str)) = false := by decide)
    (he : ∀ v, c.V v → starEach [e, .Tuple [.Name x p2, .Name y p3] k tpos] v.env = (false, eval e v.env) :: starEach [.Tuple [.Name x p2, .Name y p3] k tpos] v.env := by intros; rfl) (hpl : ∀ v, c.V v → (backTo pos (starEach [.Tuple [.Name x p2, .Name y p3] k tpos] v.env)).any (·.1) = false := by intros; rfl) :
    GD c (.Call (.Name "isinstance" p) [e, .Tuple [.Name x p2, .Name y p3] k tpos] [] pos) (d1 (fIsi2 T U) m) := by
  obtain ⟨t, h1, h2⟩ := h
  refine ⟨tCB (rIsiT c.f.K) (tCons t (tCons (tTup (tCons (tC (.ty T.name)) (tCons (tC (.ty U.name)) tNil))) tNil)), fun v hv' => pe_callB call_isiT (gl_of hg v hv') hi PyProof.Rows.boot_isinstance
      (pa_cons (h1 v hv') (pa_cons (pe_tup (pa_cons (pe_ty (gl_of hgT v hv') hT hv hn hd) (pa_cons (pe_ty (gl_of hgU v hv') hU hv2 hn2 hd2) pa_nil))) pa_nil) (he v hv')) (he := he v hv') (hpl := hpl v hv'),
    sem_one (r := fun x H Q => 2 ≤ sizeLine ∧ ∀ p, H p = none → rIsiT c.f.K [x, .ref p] (upd H p (.tup [.ty T.name, .ty U.name])) Q) h2 ?_⟩
  intro F H x vx sm rx Q q
  unfold fIsi2 at q
  cases et : x.ty with
  | none => rw [et] at q; exact q.elim
  | some t =>
    rw [et] at q
    refine ⟨by rw [sizeLine_eq]; decide, fun p hp => ?_⟩
    obtain ⟨n, sm'⟩ := step_tup (o := .tup [.ty T.name, .ty U.name]) hp sm
    refine ⟨vx, p, [.ty T.name, .ty U.name], _, [.type T.name, .type U.name], t.isi T || t.isi U, rfl, upd_same, .cons (.ty _) (.cons (.ty _) .nil), rep_ty sm' et (rx.mono n.ext), ?_, q _ _ _ sm' rfl n⟩
    refine kitAny_cons (kit_ty (Ty.kit t T)) (fun e => ?_) (fun e => by rw [e]; rfl)
    rw [e, Bool.false_or]
    exact kitAny_cons (kit_ty (Ty.kit t U)) (fun e => by rw [e]; exact kitAny_nil) (fun e => e)
end
/-! ### < -/
def fLtA : D → D → R D
  | .int i, .int j => .ok (.bl (decide (i < j)))
  | .tup xs, .tup ys => (match D.ints xs, D.ints ys with
    | some is, some js => .ok (.bl (HT.lexLt is js))
    | _, _ => .no)
  | _, _ => .no
theorem opd_ltA : OpD c (fun x y H Q => rI0 (fun i j => .bl (decide (i < j))) x y H Q ∨ rLtT c.f.K x y H Q) fLtA := OpD.here fun F H x y vx vy sm rx ry Q z e q => by
  unfold fLtA at e
  cases x <;> cases y <;> first | (cases e; done) | skip
  case int.int i j =>
    cases e
    exact .inl ⟨i, j, rx, ry, q _ rfl⟩
  case tup.tup xs ys =>
    dsimp only at e
    cases e1 : D.ints xs with
    | none => rw [e1] at e; cases e
    | some is =>
      cases e2 : D.ints ys with
      | none => rw [e1, e2] at e; cases e
      | some js =>
        rw [e1, e2] at e
        cases e
        obtain ⟨a, us, h1, h2, h3⟩ := rx
        obtain ⟨b, ws, g1, g2, g3⟩ := ry
        have hu := rep_ints e1 h3
        have hw := rep_ints e2 g3
        subst hu; subst hw
        exact .inr ⟨a, b, is, js, h1, g1, Same.sqT sm h2, Same.sqT sm g2, q _ rfl⟩
theorem hu0 (c : Ctx) : ∀ v, c.V v → (cx c.f v).A.units < cLine := fun v hv => by
  have := hu64 c v hv
  omega
section
variable {a b : Expr} {ma mb : DM D} {pos : Pos}
theorem gd_ltA (ha : GD c a ma) (hb : GD c b mb) : GD c (.Compare a [.Lt] [b] pos) (d2 fLtA ma mb) := gd_cmp (fun v hv => op_lt.or (op_ltT (hu0 c v hv))) opd_ltA ha hb (nomark _)
theorem gt_ltA (ha : GD c a ma) (hb : GD c b mb) : GT c (.Compare a [.Lt] [b] pos) (dBool (d2 fLtA ma mb)) := gt_cmp (fun v hv => op_lt.or (op_ltT (hu0 c v hv))) opd_ltA ha hb (nomark _)
theorem gt_le (ha : GD c a ma) (hb : GD c b mb) : GT c (.Compare a [.LtE] [b] pos) (dBool (dLe ma mb)) := gt_cmp (fun _ _ => op_le) opd_B0 ha hb (nomark _)
theorem gt_gt (ha : GD c a ma) (hb : GD c b mb) : GT c (.Compare a [.Gt] [b] pos) (dBool (dGt ma mb)) := gt_cmp (fun _ _ => op_gt) opd_B0 ha hb (nomark _)
theorem gt_ge (ha : GD c a ma) (hb : GD c b mb) : GT c (.Compare a [.GtE] [b] pos) (dBool (dGe ma mb)) := gt_cmp (fun _ _ => op_ge) opd_B0 ha hb (nomark _)
end
/-! ### a op b op c, of ints -/
def dChain (f g : Int → Int → Bool) (ma mb mc : DM D) : DM D := fun δ => match ma δ with
  | .ok (.int i, δ1) => (match mb δ1 with
    | .ok (.int j, δ2) => if f i j = true then (match mc δ2 with
        | .ok (.int k, δ3) => .ok (.bl (g j k), δ3)
        | .ok _ => .no
        | .exc n => .exc n
        | .no => .no) else .ok (.bl false, δ2)
    | .ok _ => .no
    | .exc n => .exc n
    | .no => .no)
  | .ok _ => .no
  | .exc n => .exc n
  | .no => .no
theorem sem_chain {a b d : Expr} {ma mb md : DM D} {f g : Int → Int → Bool} {ta tb td : TE} (a2 : ∀ F H δ σ fp, OkC c F H δ σ fp → ∀ Q, WD c F H σ fp Q (ma δ) → ta σ H Q) (b2 : ∀ F H δ σ fp, OkC c F H δ σ fp → ∀ Q, WD c F H σ fp Q (mb δ) → tb σ H Q)
    (d2 : ∀ F H δ σ fp, OkC c F H δ σ fp → ∀ Q, WD c F H σ fp Q (md δ) → td σ H Q) : ∀ F H δ σ fp, OkC c F H δ σ fp → ∀ Q, WD c F H σ fp Q (dChain f g ma mb md δ) → tChain (rI0 fun i j => .bl (f i j)) (rI0 fun i j => .bl (g i j)) ta tb td σ H Q := by
  intro F H δ σ fp ok Q q
  refine a2 F H δ σ fp ok _ ?_
  unfold dChain at q
  revert q
  cases ma δ with
  | exc n => exact id
  | no => exact fun q => q.elim
  | ok pr =>
    obtain ⟨x, δ1⟩ := pr
    cases x <;> first | exact fun q => q.elim | skip
    rename_i i
    intro q F1 H1 fp1 v ok1 r1 s1
    refine b2 F1 H1 δ1 σ fp1 ok1 _ ?_
    revert q
    dsimp only
    cases mb δ1 with
    | exc n => exact fun q => WXc.step q s1
    | no => exact fun q => q.elim
    | ok pr =>
      obtain ⟨y, δ2⟩ := pr
      cases y <;> first | exact fun q => q.elim | skip
      rename_i j
      dsimp only
      intro q F2 H2 fp2 v2 ok2 r2 s2
      refine ⟨i, j, r1, r2, f i j, rfl, ?_⟩
      by_cases hf : f i j = true
      · rw [if_pos hf] at q ⊢
        refine d2 F2 H2 δ2 σ fp2 ok2 _ ?_
        revert q
        cases md δ2 with
        | exc n => exact fun q => WXc.step q (s1.trans s2)
        | no => exact fun q => q.elim
        | ok pr =>
          obtain ⟨z, δ3⟩ := pr
          cases z <;> first | exact fun q => q.elim | skip
          rename_i k
          exact fun q F3 H3 fp3 v3 ok3 r3 s3 => ⟨j, k, r2, r3, q F3 H3 fp3 _ ok3 rfl (s1.trans (s2.trans s3))⟩
      · rw [if_neg hf] at q ⊢
        exact q F2 H2 fp2 _ ok2 rfl (s1.trans s2)
theorem gd_chain {op op' : CmpOp} {f g : Int → Int → Bool} {a b d : Expr} {ma mb md : DM D} {pos : Pos} (ho : ∀ v, c.V v → OpR (cx c.f v) (compareOp op) (rI0 fun i j => .bl (f i j))) (ho' : ∀ v, c.V v → OpR (cx c.f v) (compareOp op') (rI0 fun i j => .bl (g i j)))
    (ha : GD c a ma) (hb : GD c b mb) (hd : GD c d md) (hm : lastMarks [op, op'] [b, d] = false := by with_unfolding_all rfl) : GD c (.Compare a [op, op'] [b, d] pos) (dChain f g ma mb md) := by
  obtain ⟨ta, a1, a2⟩ := ha
  obtain ⟨tb, b1, b2⟩ := hb
  obtain ⟨td, d1, d2⟩ := hd
  exact ⟨_, fun v hv => pe_chain (ho v hv) (ho' v hv) (a1 v hv) (b1 v hv) (d1 v hv) hm, sem_chain (a := a) (b := b) (d := d) a2 b2 d2⟩
theorem gt_chain {op op' : CmpOp} {f g : Int → Int → Bool} {a b d : Expr} {ma mb md : DM D} {pos : Pos} (ho : ∀ v, c.V v → OpR (cx c.f v) (compareOp op) (rI0 fun i j => .bl (f i j))) (ho' : ∀ v, c.V v → OpR (cx c.f v) (compareOp op') (rI0 fun i j => .bl (g i j)))
    (ha : GD c a ma) (hb : GD c b mb) (hd : GD c d md) (hm : lastMarks [op, op'] [b, d] = false := by with_unfolding_all rfl) : GT c (.Compare a [op, op'] [b, d] pos) (dBool (dChain f g ma mb md)) := by
  obtain ⟨ta, a1, a2⟩ := ha
  obtain ⟨tb, b1, b2⟩ := hb
  obtain ⟨td, d1, d2⟩ := hd
  refine ⟨_, fun v hv => pt_chain (ho v hv) (ho' v hv) (a1 v hv) (b1 v hv) (d1 v hv) hm, fun F H δ σ fp ok Q q => ?_⟩
  refine sem_chain (a := a) (b := b) (d := d) a2 b2 d2 F H δ σ fp ok _ ?_
  unfold dBool at q
  revert q
  cases dChain f g ma mb md δ with
  | exc n => exact id
  | no => exact fun q => q.elim
  | ok p =>
    obtain ⟨x, δ'⟩ := p
    cases x <;> first | exact fun q => q.elim | skip
    rename_i b
    intro q F' H' fp' v k' r s
    exact ⟨b, r, q F' H' fp' k' s⟩
/-! ### in, not in -/
def fInG (neg : Bool) (x y : D) : R D := match y.litems with
  | some ds => if (x.sh && SeqAt.shaped (.list (D.pdL ds))) = true then .ok (.bl (if neg then !(D.pdL ds).any (fun z => PyData.eqv z x.pd) else (D.pdL ds).any (fun z => PyData.eqv z x.pd))) else .no
  | none => .no
theorem dp_list {F H : Hp} (sm : Same F H) {y : D} {vy : V} {ds : List D} (e : y.litems = some ds) (ry : RepC c F y vy) (h : SeqAt.shaped (.list (D.pdL ds)) = true) : Dp c.f.K H vy (.list (D.pdL ds)) := by
  obtain ⟨a, xs, h1, h2, h3⟩ := rep_litems sm e ry
  subst h1
  have l := SeqAt.canLay_of_shaped h
  exact .lst h2 (RepL.dp sm ds xs (by rw [PyData.canLay0] at l; exact l) h3)
theorem opd_in : OpD c (rInD c.f.K) (fInG false) := OpD.here fun F H x y vx vy sm rx ry Q z e q => by
  unfold fInG at e
  cases ei : y.litems with
  | none => rw [ei] at e; cases e
  | some ds =>
    rw [ei] at e
    dsimp only at e
    split at e
    · rename_i hs
      have hs' := Bool.and_eq_true_iff.mp hs
      cases e
      exact ⟨x.pd, D.pdL ds, Rep.dp sm x vx (SeqAt.canLay_of_shaped hs'.1) rx, dp_list sm ei ry hs'.2, hs'.1, hs'.2, q _ rfl⟩
    · cases e
theorem opd_notin : OpD c (rNotInD c.f.K) (fInG true) := OpD.here fun F H x y vx vy sm rx ry Q z e q => by
  unfold fInG at e
  cases ei : y.litems with
  | none => rw [ei] at e; cases e
  | some ds =>
    rw [ei] at e
    dsimp only at e
    split at e
    · rename_i hs
      have hs' := Bool.and_eq_true_iff.mp hs
      cases e
      exact ⟨x.pd, D.pdL ds, Rep.dp sm x vx (SeqAt.canLay_of_shaped hs'.1) rx, dp_list sm ei ry hs'.2, hs'.1, hs'.2, q _ rfl⟩
    · cases e
section
variable {a b : Expr} {ma mb : DM D} {pos : Pos}
theorem gd_inL (ha : GD c a ma) (hb : GD c b mb) (hm : behindInMarks .In b = false := by with_unfolding_all rfl) : GD c (.Compare a [.In] [b] pos) (d2 (fInG false) ma mb) := gd_cmp (fun v hv => op_inD (hu65 c v hv)) opd_in ha hb hm
theorem gd_notinL (ha : GD c a ma) (hb : GD c b mb) (hm : behindInMarks .NotIn b = false := by with_unfolding_all rfl) : GD c (.Compare a [.NotIn] [b] pos) (d2 (fInG true) ma mb) := gd_cmp (fun v hv => op_notInD (hu65 c v hv)) opd_notin ha hb hm
theorem gt_inL (ha : GD c a ma) (hb : GD c b mb) (hm : behindInMarks .In b = false := by with_unfolding_all rfl) : GT c (.Compare a [.In] [b] pos) (dBool (d2 (fInG false) ma mb)) := gt_cmp (fun v hv => op_inD (hu65 c v hv)) opd_in ha hb hm
theorem gt_notinL (ha : GD c a ma) (hb : GD c b mb) (hm : behindInMarks .NotIn b = false := by with_unfolding_all rfl) : GT c (.Compare a [.NotIn] [b] pos) (dBool (d2 (fInG true) ma mb)) := gt_cmp (fun v hv => op_notInD (hu65 c v hv)) opd_notin ha hb hm
end
/-! ### x or y, of lists -/
def oOrL (ma mb : DM O) : DM O := fun δ => match ma δ with
  | .ok (.lst [], δ') => mb δ'
  | .ok (.lst (o :: os), δ') => .ok (.lst (o :: os), δ')
  | .ok _ => .no
  | .exc n => .exc n
  | .no => .no
theorem go_orL {a b : Expr} {rest : List Expr} {ma mb : DM O} {pos : Pos} (ha : GO c a ma) (hb : GO c (.BoolOp .Or (b :: rest) pos) mb) : GO c (.BoolOp .Or (a :: b :: rest) pos) (oOrL ma mb) := by
  obtain ⟨ta, a1, a2⟩ := ha
  obtain ⟨tb, b1, b2⟩ := hb
  refine ⟨tOrT c.f.K ta tb, fun v hv => pe_orT (a1 v hv) (b1 v hv), fun F H δ σ fp ok Q q => a2 F H δ σ fp ok _ ?_⟩
  unfold oOrL at q
  revert q
  cases ma δ with
  | exc n => exact id
  | no => exact fun q => q.elim
  | ok p =>
    obtain ⟨o, δ'⟩ := p
    cases o <;> first | exact fun q => q.elim | skip
    rename_i os
    cases os with
    | nil =>
      intro q F' H' fp' g v ok' r nd hg s
      obtain ⟨a, xs, fs, h1, h2, h3, h4⟩ := r
      have e : xs = [] := h3.1
      subst h1; subst e
      exact ⟨false, .inl ⟨[], SqL.of h2, rfl⟩, (if_neg Bool.false_ne_true).mpr (b2 F' H' δ' σ fp' ok' Q (WO.step (s.mono fun b hb => by simp [hb]) q))⟩
    | cons o os =>
      intro q F' H' fp' g v ok' r nd hg s
      obtain ⟨a, xs, fs, h1, h2, h3, h4⟩ := id r
      have hl := h3.length
      cases xs with
      | nil => simp at hl
      | cons x xs =>
        subst h1
        exact ⟨true, .inl ⟨_, SqL.of h2, rfl⟩, (if_pos rfl).mpr (q F' H' fp' g _ ok' r nd hg s)⟩
theorem go_one {op : BoolOp} {e : Expr} {m : DM O} {pos : Pos} (h : GO c e m) : GO c (.BoolOp op [e] pos) m := let ⟨t, h1, h2⟩ := h; ⟨t, fun v hv => pe_one (h1 v hv), h2⟩

/-! ### what a slot owns is changed -/
theorem Ok.mut {K : PySem.W.Frag} {w : World} {F H : Hp} {δ : DEnv} {σ : St} {fp g1 : List Addr} {i : Nat} {o : O} (k : Ok K w F H δ σ fp) (nd1 : (g1 ++ fp).Nodup) (e : δ[i]? = some (some o)) :
    ∃ v f1, σ[i]? = some (some v) ∧ OR K w F H o v f1 ∧ f1.Nodup ∧ (∀ b ∈ f1, F b = none ∧ b ∈ fp ∧ b ∉ g1) ∧ ∀ (F' H' : Hp) (o' : O) (f' g : List Addr), OR K w F' H' o' v f' → Step F H (g1 ++ f1) F' H' (g ++ f') → (g ++ f').Nodup → (∀ b ∈ g ++ f', F' b = none) → Same F' H' →
      ∃ fp', Ok K w F' H' (δ.set i (some o')) σ fp' ∧ (g ++ fp').Nodup ∧ Step F H (g1 ++ fp) F' H' (g ++ fp') := by
  obtain ⟨v, f1, pre, post, b1, b2, b3, b4, _⟩ := k.er.get e
  subst b3
  have m1 := List.nodup_append.mp nd1
  have n1 := List.nodup_append.mp k.nd
  have n2 := List.nodup_append.mp n1.2.1
  refine ⟨v, f1, b1, b2, n2.1, fun b hb => ⟨k.fr b (by simp [hb]), by simp [hb], fun z => m1.2.2 b z b (by simp [hb]) rfl⟩, fun F' H' o' f' g ro st nd hg sm => ?_⟩
  have ht : ∀ b ∈ pre ++ post, H b ≠ none ∧ b ∉ g1 ++ f1 := fun b hb => by
    refine ⟨k.there b (by rcases List.mem_append.mp hb with hb | hb <;> simp [hb]), fun z => ?_⟩
    rcases List.mem_append.mp z with z | z
    · exact m1.2.2 b z b (by rcases List.mem_append.mp hb with hb | hb <;> simp [hb]) rfl
    · rcases List.mem_append.mp hb with hb | hb
      · exact n1.2.2 b hb b (by simp [z]) rfl
      · exact n2.2.2 b z b hb rfl
  have er := b4 F' H' o' v f' st.ext (fun b hb => st.same (ht b hb).1 (ht b hb).2) ro
  rw [set_self b1] at er
  have gn : ∀ b ∈ g ++ f', b ∉ pre ++ post := fun b hb z => st.notOwn (ht b z).1 (ht b z).2 hb
  have nd' := List.nodup_append.mp nd
  have ndp : (pre ++ post).Nodup := List.nodup_append.mpr ⟨n1.1, n2.2.1, fun a ha b hb => n1.2.2 a ha b (by simp [hb])⟩
  have ndp' := List.nodup_append.mp ndp
  have nfull : (pre ++ (f' ++ post)).Nodup := List.nodup_append.mpr ⟨n1.1, List.nodup_append.mpr ⟨nd'.2.1, n2.2.1, fun a ha b hb e => gn a (by simp [ha]) (by simp [e, hb])⟩, fun a ha b hb e => by
    rcases List.mem_append.mp hb with hb | hb
    · exact gn b (by simp [hb]) (by rw [← e]; simp [ha])
    · exact ndp'.2.2 a ha b hb e⟩
  refine ⟨pre ++ (f' ++ post), ⟨er, nfull, fun b hb => ?_, sm⟩, ?_, ?_⟩
  · rcases List.mem_append.mp hb with hb | hb
    · exact st.notFrz (ht b (by simp [hb])).1 (ht b (by simp [hb])).2 (k.fr b (by simp [hb]))
    · rcases List.mem_append.mp hb with hb | hb
      · exact hg b (by simp [hb])
      · exact st.notFrz (ht b (by simp [hb])).1 (ht b (by simp [hb])).2 (k.fr b (by simp [hb]))
  · refine List.nodup_append.mpr ⟨nd'.1, nfull, fun a ha b hb e => ?_⟩
    subst e
    rcases List.mem_append.mp hb with hb | hb
    · exact gn a (by simp [ha]) (by simp [hb])
    · rcases List.mem_append.mp hb with hb | hb
      · exact nd'.2.2 a ha a hb rfl
      · exact gn a (by simp [ha]) (by simp [hb])
  · have s2 := (st.besideR (g := post)).beside (g := pre)
    refine ⟨st.ext, fun b o h hb => st.keep b o h fun z => hb ?_, st.alive, fun b hb => ?_, fun b hb => ?_⟩
    · rcases List.mem_append.mp z with z | z <;> simp [z]
    · rcases List.mem_append.mp hb with hb | hb
      · rcases st.own b (by simp [hb]) with z | z
        · exact .inl (by rcases List.mem_append.mp z with z | z <;> simp [z])
        · exact .inr z
      · rcases List.mem_append.mp hb with hb | hb
        · exact .inl (by simp [hb])
        · rcases List.mem_append.mp hb with hb | hb
          · rcases st.own b (by simp [hb]) with z | z
            · exact .inl (by rcases List.mem_append.mp z with z | z <;> simp [z])
            · exact .inr z
          · exact .inl (by simp [hb])
    · rcases st.frz b hb with z | z | z
      · exact .inl z
      · exact .inr (.inl (by rcases List.mem_append.mp z with z | z <;> simp [z]))
      · exact .inr (.inr z)
/-- an owned object is written -/
theorem step_upd {F H : Hp} {p : Addr} {o : HO} {f f' : List Addr} (hp : p ∈ f) (hF : F p = none) (sm : Same F H) (sub : ∀ b ∈ f', b ∈ f) : Step F H f F (upd H p o) f' ∧ Same F (upd H p o) := by
  refine ⟨⟨Same.refl _, fun b u e hb => ?_, fun b e => ?_, fun b hb => .inl (sub b hb), fun b hb => .inl hb⟩, fun b u e => ?_⟩
  · rw [upd_ne fun z => hb (by rw [z]; exact hp)]; exact e
  · by_cases z : b = p
    · subst z; rw [upd_same]; exact fun q => by cases q
    · rw [upd_ne z]; exact e
  · rw [upd_ne fun z => by rw [z, hF] at e; cases e]; exact sm _ _ e
/-! ### x.append(e) -/
def sAppend (k : Nat) (m : DM O) : SM := fun δ => match δ[k]? with
  | some (some _) => (match m δ with
    | .ok (o, δ1) => (match δ1[k]? with
      | some (some (.lst os)) => if Nat.blt os.length 16777216 = true then .ok (.nx, δ1.set k (some (.lst (os ++ [o])))) else .no
      | _ => .no)
    | .exc n => .exc n
    | .no => .no)
  | _ => .no
theorem tyV_slot {F H : Hp} {δ : DEnv} {σ : St} {fp : List Addr} {k : Nat} {o : O} {v : V} (ok : OkC c F H δ σ fp) (e : δ[k]? = some (some o)) (hσ : σ[k]? = some (some v)) (hl : ∃ os, o = .lst os) : tyV c.f.K "list" v H := by
  obtain ⟨v', f1, _, _, h1, h2, _⟩ := ok.er.get e
  rw [hσ] at h1
  cases h1
  obtain ⟨os, rfl⟩ := hl
  obtain ⟨p, xs, fs, g1, g2, _⟩ := h2
  subst g1
  exact .inl ⟨rfl, xs, SqL.of g2⟩
def O.isLst : O → Bool
  | .lst _ => true
  | _ => false
theorem O.isLst_ok {o : O} (h : o.isLst = true) : ∃ os, o = .lst os := by
  cases o <;> first | cases h | skip
  exact ⟨_, rfl⟩
def sAppend' (k : Nat) (m : DM O) : SM := fun δ => match δ[k]? with
  | some (some o) => if o.isLst = true then sAppend k m δ else .no
  | _ => .no
theorem gs_append (k : Nat) {x : Str} {e : Expr} {m : DM O} {p apos cpos pos : Pos} (h : GO c e m) (hN : c.f.N[k]? = some x := by rfl) (hv : VisC c x := by first | exact Or.inl rfl | exact Or.inr (Or.inl rfl) | exact Or.inr (Or.inr rfl)) (hd : (x == ("__debug__" : Str)) = false := by decide)
    (hcd : (x == ("__classdict__" : Str)) = false := by decide) (hbase : ∀ v, c.V v → attributeBase (.Name x p) "append" v.env (eval (.Name x p) v.env) = eval (.Name x p) v.env := by intros; rfl)
    (hfew : ∀ v, c.V v → ((backTo cpos (starEach [e] v.env)).all (fun x => !x.1) && (backToKw cpos (keywordEach [] v.env)).all (fun x => x.1.isSome) && decide (([e] : List Expr).length + ([] : List Keyword).length + (if ([] : List Keyword).isEmpty then 0 else 1) < 30)) = true := by intros; rfl)
    (hline : (apos.endLine == cpos.line) = true := by rfl) (hs : ∀ v, c.V v → starEach [e] v.env = (false, eval e v.env) :: starEach [] v.env := by intros; rfl) (hplain : ∀ v, c.V v → (backTo cpos (starEach ([] : List Expr) v.env)).any (·.1) = false := by intros; rfl)
    (hsw : ∀ v, c.V v → swapsWith (.Call (.Attribute (.Name x p) "append" apos) [e] [] cpos) none pos.line v.env = pure false := by intros; rfl) : GS c (.Expr (.Call (.Attribute (.Name x p) "append" apos) [e] [] cpos) pos) (sAppend' k m) := by
  obtain ⟨t, h1, h2⟩ := h
  refine ⟨tDrop (tBM c.f.K "list" rAppend (tVar k) (tCons t tNil)), fun v hv' => ps_expr (pe_bm PySem.F.plainAttrs_list PySem.F.slot_list_append PySem.F.type_list_append mt_append (pe_var hN (vis_of hv v hv') hd hcd) (pa_cons (h1 v hv') pa_nil (hs v hv')) (hbase v hv') (hfew v hv') hline (hs v hv') (hplain v hv')) (hsw v hv'), fun F H δ σ fp ok D q => ?_⟩
  unfold sAppend' at q
  cases e0 : δ[k]? with
  | none => rw [e0] at q; exact q.elim
  | some s0 =>
    cases s0 with
    | none => rw [e0] at q; exact q.elim
    | some o0 =>
      rw [e0] at q
      dsimp only at q
      by_cases hl : o0.isLst = true
      · rw [if_pos hl] at q
        obtain ⟨v, _, _, _, hσ, _⟩ := ok.er.get e0
        refine ⟨v, hσ, tyV_slot ok e0 hσ (O.isLst_ok hl), h2 F H δ σ fp ok _ ?_⟩
        unfold sAppend at q
        rw [e0] at q
        revert q
        dsimp only
        cases m δ with
        | exc n => exact id
        | no => exact fun q => q.elim
        | ok pr =>
          obtain ⟨o, δ1⟩ := pr
          dsimp only
          intro q F1 H1 fp1 g u ok1 ro nd hg s1
          cases e1 : δ1[k]? with
          | none => rw [e1] at q; exact q.elim
          | some s1' =>
            cases s1' with
            | none => rw [e1] at q; exact q.elim
            | some o1 =>
              rw [e1] at q
              cases o1 <;> first | exact q.elim | skip
              rename_i os
              dsimp only at q
              by_cases hz : Nat.blt os.length 16777216 = true
              · rw [if_pos hz] at q
                have hz' := Nat.le_of_ble_eq_true hz
                obtain ⟨v1, f1, hσ1, r1, nf1, hf1, fin⟩ := Ok.mut ok1 nd e1
                rw [hσ] at hσ1
                cases hσ1
                obtain ⟨a, xs, fs, a1, a2, a3, a4⟩ := r1
                subst a4
                have hzl : xs.length < sizeLine := by rw [sizeLine_eq, ← a3.length]; omega
                refine ⟨a, xs, u, a1, rfl, a2, hzl, ?_⟩
                have hgt := OR.there o u g ro
                have nag : a ∉ g := (hf1 a (by simp)).2.2
                have nafs : a ∉ fs := (List.nodup_cons.mp nf1).1
                have hup : ∀ b ∈ fs ++ g, upd H1 a (.lst (xs ++ [u])) b = H1 b := fun b hb => upd_ne fun z => by
                  subst z
                  rcases List.mem_append.mp hb with hb | hb
                  · exact nafs hb
                  · exact nag hb
                obtain ⟨st, sm⟩ := step_upd (F := F1) (H := H1) (p := a) (o := .lst (xs ++ [u])) (f := g ++ (a :: fs)) (f' := [] ++ (a :: (fs ++ g))) (by simp) (hf1 a (by simp)).1 ok1.sm (fun b hb => by
                  simp at hb ⊢
                  rcases hb with hb | hb | hb <;> simp [hb])
                have m1 := List.nodup_append.mp nd
                have mf := List.nodup_cons.mp nf1
                obtain ⟨fp', ok', _, st'⟩ := fin F1 _ (.lst (os ++ [o])) (a :: (fs ++ g)) [] ⟨a, xs ++ [u], fs ++ g, a1, upd_same, (ORL.mono (Same.refl _) _ _ _ (fun b hb => hup b (by simp [hb])) a3).append ⟨u, [], g, [], rfl, OR.mono (Same.refl _) o u g (fun b hb => hup b (by simp [hb])) ro, ⟨rfl, rfl⟩, by simp⟩, rfl⟩ st (by
                    simp only [List.nil_append]
                    refine List.nodup_cons.mpr ⟨fun z => ?_, List.nodup_append.mpr ⟨mf.2, m1.1, fun b hb d hd ez => ?_⟩⟩
                    · rcases List.mem_append.mp z with z | z
                      · exact nafs z
                      · exact nag z
                    · subst ez
                      exact (hf1 b (by simp [hb])).2.2 hd) (fun b hb => by
                    simp only [List.nil_append] at hb
                    rcases List.mem_cons.mp hb with hb | hb
                    · rw [hb]; exact (hf1 a (by simp)).1
                    · rcases List.mem_append.mp hb with hb | hb
                      · exact (hf1 b (by simp [hb])).1
                      · exact hg b hb) sm
                exact q F1 _ σ fp' ok' SF.refl (s1.trans (st'.mono fun b hb => by simpa using hb))
              · rw [if_neg hz] at q
                exact q.elim
      · rw [if_neg hl] at q
        exact q.elim
end
end G
/-! G8: lists that a slot owns: methods, items stored; op=; parallel stores. -/
namespace G
open PySem L2

section
variable {c : Ctx}
/-- the list that a slot owns, read and rewritten: what it owned it may drop -/
theorem Ok.lst {F H : Hp} {δ : DEnv} {σ : St} {fp : List Addr} {k : Nat} {os : List O} {v : V} (ok : OkC c F H δ σ fp) (e : δ[k]? = some (some (.lst os))) (hσ : σ[k]? = some (some v)) :
    ∃ a xs fs, v = .ref a ∧ H a = some (.lst xs) ∧ ORL c.f.K c.f.w F H os xs fs ∧ ∀ os' xs' fs', ORL c.f.K c.f.w F H os' xs' fs' → fs'.Sublist fs →
      ∃ fp', OkC c F (upd H a (.lst xs')) (δ.set k (some (.lst os'))) σ fp' ∧ Step F H fp F (upd H a (.lst xs')) fp' := by
  obtain ⟨v1, f1, hσ1, r1, nf1, hf1, fin⟩ := Ok.mut (g1 := []) ok (by simpa using ok.nd) e
  rw [hσ] at hσ1
  cases hσ1
  obtain ⟨a, xs, fs, a1, a2, a3, a4⟩ := r1
  subst a4
  refine ⟨a, xs, fs, a1, a2, a3, fun os' xs' fs' ho hs => ?_⟩
  have mf := List.nodup_cons.mp nf1
  have oth : ∀ b, b ≠ a → upd H a (.lst xs') b = H b := fun b hb => upd_ne hb
  have a3' : ORL c.f.K c.f.w F (upd H a (.lst xs')) os' xs' fs' := ORL.mono (Same.refl _) _ _ _ (fun b hb => oth b fun z => mf.1 (z ▸ hs.subset hb)) ho
  obtain ⟨st, sm⟩ := step_upd (F := F) (H := H) (p := a) (o := .lst xs') (f := [] ++ (a :: fs)) (f' := [] ++ (a :: fs')) (by simp) (hf1 a (by simp)).1 ok.sm (fun b hb => by
    simp only [List.nil_append] at hb ⊢
    rcases List.mem_cons.mp hb with hb | hb
    · rw [hb]; simp
    · exact List.mem_cons_of_mem _ (hs.subset hb))
  obtain ⟨fp', ok', _, st'⟩ := fin F _ (.lst os') (a :: fs') [] ⟨a, xs', fs', a1, upd_same, a3', rfl⟩ st (by
      simp only [List.nil_append]
      exact List.nodup_cons.mpr ⟨fun z => mf.1 (hs.subset z), mf.2.sublist hs⟩) (fun b hb => by
      simp only [List.nil_append] at hb
      rcases List.mem_cons.mp hb with hb | hb
      · rw [hb]; exact (hf1 a (by simp)).1
      · exact (hf1 b (List.mem_cons_of_mem _ (hs.subset hb))).1) sm
  exact ⟨fp', ok', by simpa using st'⟩

/-! ### methods of a list that a slot owns, arguments data -/
abbrev Eff := List O → List D → R (List O × D)
def EffOk (c : Ctx) (r : V → List V → Hp → VK → Prop) (eff : Eff) : Prop := ∀ (F H : Hp) (a : Addr) (os : List O) (xs : List V) (fs : List Addr) (ds : List D) (vs : List V) (os' : List O) (d : D), Same F H → H a = some (.lst xs) → ORL c.f.K c.f.w F H os xs fs → RepLC c F ds vs → eff os ds = .ok (os', d) →
  ∀ Q : VK, (∀ xs' fs' v, ORL c.f.K c.f.w F H os' xs' fs' → fs'.Sublist fs → RepC c F d v → Q v (upd H a (.lst xs'))) → r (.ref a) vs H Q
def dMth (k : Nat) (eff : Eff) (m : DM (List D)) : DM D := fun δ => match δ[k]? with
  | some (some o) => if o.isLst = true then (match m δ with
    | .ok (ds, δ1) => (match δ1[k]? with
      | some (some (.lst os)) => (match eff os ds with
        | .ok (os', d) => .ok (d, δ1.set k (some (.lst os')))
        | _ => .no)
      | _ => .no)
    | .exc n => .exc n
    | .no => .no) else .no
  | _ => .no
theorem sem_mth {k : Nat} {eff : Eff} {m : DM (List D)} {r : V → List V → Hp → VK → Prop} {t : TA} (h2 : ∀ F H δ σ fp, OkC c F H δ σ fp → ∀ Q, WA c F H σ fp Q (m δ) → t σ H Q) (he : EffOk c r eff) :
    ∀ F H δ σ fp, OkC c F H δ σ fp → ∀ Q, WD c F H σ fp Q (dMth k eff m δ) → tBM c.f.K "list" r (tVar k) t σ H Q := by
  intro F H δ σ fp ok Q q
  unfold dMth at q
  cases e0 : δ[k]? with
  | none => rw [e0] at q; exact q.elim
  | some s0 =>
    cases s0 with
    | none => rw [e0] at q; exact q.elim
    | some o0 =>
      rw [e0] at q
      dsimp only at q
      by_cases hl : o0.isLst = true
      · rw [if_pos hl] at q
        obtain ⟨v, _, _, _, hσ, _⟩ := ok.er.get e0
        refine ⟨v, hσ, tyV_slot ok e0 hσ (O.isLst_ok hl), h2 F H δ σ fp ok _ ?_⟩
        revert q
        cases m δ with
        | exc n => exact id
        | no => exact fun q => q.elim
        | ok pr =>
          obtain ⟨ds, δ1⟩ := pr
          dsimp only
          intro q F1 H1 fp1 vs ok1 rs s1
          cases e1 : δ1[k]? with
          | none => rw [e1] at q; exact q.elim
          | some s1' =>
            cases s1' with
            | none => rw [e1] at q; exact q.elim
            | some o1 =>
              rw [e1] at q
              cases o1 <;> first | exact q.elim | skip
              rename_i os
              dsimp only at q
              obtain ⟨a, xs, fs, ev, hH, ro, fin⟩ := Ok.lst ok1 e1 hσ
              subst ev
              cases ee : eff os ds with
              | exc n => rw [ee] at q; exact q.elim
              | no => rw [ee] at q; exact q.elim
              | ok p =>
                obtain ⟨os', d⟩ := p
                rw [ee] at q
                refine he F1 H1 a os xs fs ds vs os' d ok1.sm hH ro rs ee Q fun xs' fs' u ho hs ru => ?_
                obtain ⟨fp', ok', st'⟩ := fin os' xs' fs' ho hs
                exact q F1 _ fp' u ok' ru (s1.trans st')
      · rw [if_neg hl] at q
        exact q.elim
def eExt : Eff := fun os ds => match ds with
  | [.lst zs] => if Nat.ble (os.length + zs.length) 16777216 = true then .ok (os ++ zs.map .d, .non) else .no
  | _ => .no
theorem eff_ext : EffOk c rExtend eExt := by
  intro F H a os xs fs ds vs os' d sm hH ro rs ee Q q
  unfold eExt at ee
  split at ee <;> try cases ee
  rename_i zs
  obtain ⟨y, r', e1, ⟨b, ys, e2, e3, e4⟩, e5⟩ := rs
  have e6 : r' = [] := e5
  subst e6
  subst e1
  subst e2
  split at ee <;> cases ee
  rename_i hz
  have hz' := Nat.le_of_ble_eq_true hz
  refine ⟨a, b, xs, ys, rfl, rfl, hH, sm _ _ e3, by rw [sizeLine_eq, ← ro.length, ← e4.length]; exact hz', q (xs ++ ys) fs .non ?_ (List.Sublist.refl _) rfl⟩
  have z := ro.append (ORL.data (F := F) (H := H) e4)
  rw [List.append_nil] at z
  exact z
/-- what is taken out is data -/
def ePopAt : Eff := fun os ds => match ds with
  | [.int i] => if -(2 ^ 63) ≤ i ∧ i < 2 ^ 63 then (match seqIndex? i os.length with
    | some k => (match os[k]? with
      | some (.d d) => .ok (os.eraseIdx k, d)
      | _ => .no)
    | none => .no) else .no
  | _ => .no
theorem ORL.erase {K : PySem.W.Frag} {w : World} {F H : Hp} : ∀ {os : List O} {xs : List V} {fs : List Addr} (k : Nat) {d : D}, os[k]? = some (.d d) → ORL K w F H os xs fs → ORL K w F H (os.eraseIdx k) (xs.eraseIdx k) fs ∧ ∃ x, xs[k]? = some x ∧ Rep K w F d x
  | [], xs, fs, k, d, e, h => by simp at e
  | o :: os, xs, fs, 0, d, e, h => by
    obtain ⟨x, r, f1, f2, h1, h2, h3, h4⟩ := h
    simp at e
    subst e
    have e1 : f1 = [] := h2.2
    subst h1; subst h4; subst e1
    exact ⟨h3, x, rfl, h2.1⟩
  | o :: os, xs, fs, k + 1, d, e, h => by
    obtain ⟨x, r, f1, f2, h1, h2, h3, h4⟩ := h
    subst h1; subst h4
    obtain ⟨g1, y, g2, g3⟩ := ORL.erase k (by simpa using e) h3
    exact ⟨⟨x, r.eraseIdx k, f1, f2, rfl, h2, g1, rfl⟩, y, by simpa using g2, g3⟩
theorem eff_popAt : EffOk c rPopAt ePopAt := by
  intro F H a os xs fs ds vs os' d sm hH ro rs ee Q q
  unfold ePopAt at ee
  split at ee <;> try cases ee
  rename_i i
  obtain ⟨y, r', e1, e2, e5⟩ := rs
  have e6 : r' = [] := e5
  subst e6
  subst e1
  have e7 : y = .int i := e2
  subst e7
  split at ee <;> try cases ee
  rename_i hz
  split at ee <;> try cases ee
  rename_i k hk
  split at ee <;> try cases ee
  rename_i d' hd
  obtain ⟨g1, x, g2, g3⟩ := ORL.erase k hd ro
  exact ⟨a, xs, i, k, x, rfl, rfl, hH, hz.1, hz.2, by rw [← ro.length]; exact hk, g2, q (xs.eraseIdx k) fs x g1 (List.Sublist.refl _) g3⟩
def ePop : Eff := fun os ds => match ds with
  | [] => (match os[os.length - 1]? with
    | some (.d d) => .ok (os.eraseIdx (os.length - 1), d)
    | _ => .no)
  | _ => .no
theorem dropLast_erase {α : Type} : ∀ (xs : List α), xs.eraseIdx (xs.length - 1) = xs.dropLast
  | [] => rfl
  | [x] => rfl
  | x :: y :: r => by
    have h := dropLast_erase (y :: r)
    simp only [List.length_cons, Nat.add_sub_cancel] at h ⊢
    rw [List.eraseIdx_cons_succ, List.dropLast_cons_cons, h]
theorem eff_pop : EffOk c rPop ePop := by
  intro F H a os xs fs ds vs os' d sm hH ro rs ee Q q
  unfold ePop at ee
  split at ee <;> try cases ee
  have e6 : vs = [] := rs
  subst e6
  split at ee <;> try cases ee
  rename_i d' hd
  obtain ⟨g1, x, g2, g3⟩ := ORL.erase _ hd ro
  have hl := ro.length
  rw [hl] at g2 g1 hd
  refine ⟨a, xs, x, rfl, rfl, hH, g2, ?_⟩
  rw [← dropLast_erase]
  exact q _ fs x (by rw [hl]; exact g1) (List.Sublist.refl _) g3
theorem gs_extend (k : Nat) {x : Str} {e : Expr} {m : DM D} {p apos cpos pos : Pos} (h : GD c e m) (hN : c.f.N[k]? = some x := by rfl) (hv : VisC c x := by first | exact Or.inl rfl | exact Or.inr (Or.inl rfl) | exact Or.inr (Or.inr rfl)) (hd : (x == ("__debug__" : Str)) = false := by decide)
    (hcd : (x == ("__classdict__" : Str)) = false := by decide) (hbase : ∀ v, c.V v → attributeBase (.Name x p) "extend" v.env (eval (.Name x p) v.env) = eval (.Name x p) v.env := by intros; rfl)
    (hfew : ∀ v, c.V v → ((backTo cpos (starEach [e] v.env)).all (fun x => !x.1) && (backToKw cpos (keywordEach [] v.env)).all (fun x => x.1.isSome) && decide (([e] : List Expr).length + ([] : List Keyword).length + (if ([] : List Keyword).isEmpty then 0 else 1) < 30)) = true := by intros; rfl)
    (hline : (apos.endLine == cpos.line) = true := by rfl) (hs : ∀ v, c.V v → starEach [e] v.env = (false, eval e v.env) :: starEach [] v.env := by intros; rfl) (hplain : ∀ v, c.V v → (backTo cpos (starEach ([] : List Expr) v.env)).any (·.1) = false := by intros; rfl)
    (hsw : ∀ v, c.V v → swapsWith (.Call (.Attribute (.Name x p) "extend" apos) [e] [] cpos) none pos.line v.env = pure false := by intros; rfl) : GS c (.Expr (.Call (.Attribute (.Name x p) "extend" apos) [e] [] cpos) pos) (sDrop (dMth k eExt (dCons m aNil))) := by
  obtain ⟨t, h1, h2⟩ := ga_cons h ga_nil hs
  exact gs_expr ⟨_, fun v hv' => pe_bm PySem.F.plainAttrs_list PySem.F.slot_list_extend PySem.F.type_list_extend mt_extend (pe_var hN (vis_of hv v hv') hd hcd) (h1 v hv') (hbase v hv') (hfew v hv') hline (hs v hv') (hplain v hv'), sem_mth h2 eff_ext⟩ hsw
theorem gd_popAt (k : Nat) {x : Str} {e : Expr} {m : DM D} {p apos cpos : Pos} (h : GD c e m) (hN : c.f.N[k]? = some x := by rfl) (hv : VisC c x := by first | exact Or.inl rfl | exact Or.inr (Or.inl rfl) | exact Or.inr (Or.inr rfl)) (hd : (x == ("__debug__" : Str)) = false := by decide)
    (hcd : (x == ("__classdict__" : Str)) = false := by decide) (hbase : ∀ v, c.V v → attributeBase (.Name x p) "pop" v.env (eval (.Name x p) v.env) = eval (.Name x p) v.env := by intros; rfl)
    (hfew : ∀ v, c.V v → ((backTo cpos (starEach [e] v.env)).all (fun x => !x.1) && (backToKw cpos (keywordEach [] v.env)).all (fun x => x.1.isSome) && decide (([e] : List Expr).length + ([] : List Keyword).length + (if ([] : List Keyword).isEmpty then 0 else 1) < 30)) = true := by intros; rfl)
    (hline : (apos.endLine == cpos.line) = true := by rfl) (hs : ∀ v, c.V v → starEach [e] v.env = (false, eval e v.env) :: starEach [] v.env := by intros; rfl) (hplain : ∀ v, c.V v → (backTo cpos (starEach ([] : List Expr) v.env)).any (·.1) = false := by intros; rfl) :
    GD c (.Call (.Attribute (.Name x p) "pop" apos) [e] [] cpos) (dMth k ePopAt (dCons m aNil)) := by
  obtain ⟨t, h1, h2⟩ := ga_cons h ga_nil hs
  exact ⟨_, fun v hv' => pe_bm PySem.F.plainAttrs_list PySem.F.slot_list_pop PySem.F.type_list_pop mt_popAt (pe_var hN (vis_of hv v hv') hd hcd) (h1 v hv') (hbase v hv') (hfew v hv') hline (hs v hv') (hplain v hv'), sem_mth h2 eff_popAt⟩

/-! ### x[i] = e, x[i] op= e -/
theorem ORL.set {K : PySem.W.Frag} {w : World} {F H : Hp} {d : D} {v : V} (r : Rep K w F d v) : ∀ {os : List O} {xs : List V} {fs : List Addr} (j : Nat), ORL K w F H os xs fs → ∃ fs', fs'.Sublist fs ∧ ORL K w F H (os.set j (.d d)) (xs.set j v) fs'
  | [], xs, fs, j, h => by
    have e := h.1
    subst e
    exact ⟨fs, List.Sublist.refl _, h⟩
  | o :: os, xs, fs, 0, h => by
    obtain ⟨x, r', f1, f2, h1, h2, h3, h4⟩ := h
    subst h1; subst h4
    exact ⟨f2, List.sublist_append_right .., v, r', [], f2, rfl, ⟨r, rfl⟩, h3, rfl⟩
  | o :: os, xs, fs, j + 1, h => by
    obtain ⟨x, r', f1, f2, h1, h2, h3, h4⟩ := h
    subst h1; subst h4
    obtain ⟨f', g1, g2⟩ := ORL.set r j h3
    exact ⟨f1 ++ f', (List.append_sublist_append_left f1).mpr g1, x, r'.set j v, f1, f', rfl, h2, g2, rfl⟩
/-- the item of the list in slot k is stored -/
def gSubN (k : Nat) (mi : DM D) : D → DEnv → R DEnv := fun x δ => match δ[k]? with
  | some (some o) => if o.isLst = true then (match mi δ with
    | .ok (.int i, δ1) => (match δ1[k]? with
      | some (some (.lst os)) => (match ixN os.length i with
        | some j => .ok (δ1.set k (some (.lst (os.set j (.d x)))))
        | none => .no)
      | _ => .no)
    | _ => .no) else .no
  | _ => .no
theorem gg_sub (k : Nat) {x : Str} {i : Expr} {mi : DM D} {p pos : Pos} (h : GD c i mi) (hN : c.f.N[k]? = some x := by rfl) (hv : VisC c x := by first | exact Or.inl rfl | exact Or.inr (Or.inl rfl) | exact Or.inr (Or.inr rfl)) (hd : (x == ("__debug__" : Str)) = false := by decide)
    (hcd : (x == ("__classdict__" : Str)) = false := by decide) (ha : ∀ y, c.V y → ∀ v, assign (.Subscript (.Name x p) i pos) y.env v = (do
      let ov ← holding [v] (eval (.Name x p) y.env)
      let iv ← holding [v, ov] (eval i y.env)
      standAt pos
      holding [v, ov, iv] (setItem ov iv v)
      release [v, ov, iv] []) := by intros; rfl) : GG c (.Subscript (.Name x p) i pos) (gSubN k mi) := by
  obtain ⟨t, h1, h2⟩ := h
  refine ⟨gSub (tVar k) t rSetL, fun y hy => pg_sub (pe_var hN (vis_of hv y hy) hd hcd) (h1 y hy) set_list (ha y hy), fun F H δ σ fp xd vx ok r Q q => ?_⟩
  unfold gSubN at q
  cases e0 : δ[k]? with
  | none => rw [e0] at q; exact q.elim
  | some s0 =>
    cases s0 with
    | none => rw [e0] at q; exact q.elim
    | some o0 =>
      rw [e0] at q
      dsimp only at q
      by_cases hl : o0.isLst = true
      · rw [if_pos hl] at q
        obtain ⟨v, _, _, _, hσ, _⟩ := ok.er.get e0
        refine ⟨v, hσ, h2 F H δ σ fp ok _ ?_⟩
        revert q
        cases mi δ with
        | exc n => exact fun q => q.elim
        | no => exact fun q => q.elim
        | ok pr =>
          obtain ⟨di, δ1⟩ := pr
          cases di <;> first | exact fun q => q.elim | skip
          rename_i ii
          dsimp only
          intro q F1 H1 fp1 vi ok1 ri s1
          have ev : vi = .int ii := ri
          subst ev
          cases e1 : δ1[k]? with
          | none => rw [e1] at q; exact q.elim
          | some s1' =>
            cases s1' with
            | none => rw [e1] at q; exact q.elim
            | some o1 =>
              rw [e1] at q
              cases o1 <;> first | exact q.elim | skip
              rename_i os
              dsimp only at q
              obtain ⟨a, xs, fs, ev, hH, ro, fin⟩ := Ok.lst ok1 e1 hσ
              subst ev
              cases ej : ixN os.length ii with
              | none => rw [ej] at q; exact q.elim
              | some j =>
                rw [ej] at q
                obtain ⟨fs', g1, g2⟩ := ORL.set (Rep.mono s1.ext _ _ r) j ro
                obtain ⟨fp', ok', st'⟩ := fin _ _ _ g2 g1
                exact ⟨a, xs, ii, j, rfl, rfl, hH, by rw [← ro.length]; exact ej, q F1 _ σ fp' ok' SF.refl (s1.trans st')⟩
      · rw [if_neg hl] at q
        exact q.elim
/-- x[i] of a list, by values -/
def rGetL (K : PySem.W.Frag) : V → V → Hp → VK → Prop := fun o i H Q => ∃ p xs k x, o = .ref p ∧ i = .int k ∧ SqL K H p xs ∧ atI xs k = some x ∧ Q x H
theorem get_list {X : Cx} : PGet X (rGetL X.K) := by
  intro pins s σ H o i ov iv Q I ro ri h
  obtain ⟨p, xs, k, z, rfl, rfl, hq, he, q⟩ := h
  obtain rfl : ov = Value.ref p := ro
  obtain ⟨t, rfl⟩ := ri
  obtain ⟨its, r, pl, hz⟩ := I.list hq
  obtain ⟨j, h1, h2, h3, h4, h5⟩ := atI_get he
  obtain ⟨w, ew, rw'⟩ := r.get h2
  have hl := r.length
  have hn := line63
  have fin : EP X pins σ Q w s := ⟨z, H, I, rw', q⟩
  by_cases h0 : 0 ≤ k
  · have hj : k.toNat = j := by
      rw [seqIndex_of h0 h5] at h1
      exact Option.some.inj h1
    exact wpAny_getItem_list pl.isList h0 (by omega) (by rw [hj]; simpa using ew) fin
  · have hj : (k + (its.toArray.size : Int)).toNat = j := by
      rw [seqIndex_neg (by omega) h4] at h1
      rw [List.size_toArray, ← hl]
      exact Option.some.inj h1
    exact wpAny_getItem_list_neg pl.isList (by omega) (by rw [List.size_toArray] <;> omega) (by omega) (by rw [hj]; simpa using ew) fin
/-- x[i] op= e -/
def sAugSub (k : Nat) (mi me : DM D) (f : D → D → R D) : SM := fun δ => match δ[k]? with
  | some (some o) => if o.isLst = true then (match mi δ with
    | .ok (.int i, δ1) => (match δ1[k]? with
      | some (some (.lst os)) => (match atI os i with
        | some (.d x) => (match me δ1 with
          | .ok (y, δ2) => (match f x y with
            | .ok z => (match δ2[k]? with
              | some (some (.lst os2)) => (match ixN os2.length i with
                | some j => .ok (.nx, δ2.set k (some (.lst (os2.set j (.d z)))))
                | none => .no)
              | _ => .no)
            | _ => .no)
          | .exc n => .exc n
          | .no => .no)
        | _ => .no)
      | _ => .no)
    | .ok _ => .no
    | .exc n => .exc n
    | .no => .no) else .no
  | _ => .no
theorem ORL.at {K : PySem.W.Frag} {w : World} {F H : Hp} {os : List O} {xs : List V} {fs : List Addr} {i : Int} {d : D} (h : ORL K w F H os xs fs) (e : atI os i = some (.d d)) : ∃ x, atI xs i = some x ∧ Rep K w F d x := by
  unfold atI at e ⊢
  rw [← h.length]
  cases ej : ixN os.length i with
  | none => rw [ej] at e; cases e
  | some j =>
    rw [ej] at e
    have e' : os[j]? = some (.d d) := e
    obtain ⟨x, f, h1, h2, _⟩ := ORL.get h e'
    exact ⟨x, h1, (by first | exact h2.1 | exact h2)⟩
theorem gs_augSub (k : Nat) {x : Str} {i e : Expr} {mi me : DM D} {op : Operator} {r : R2} {f : D → D → R D} {p tpos pos : Pos} (hp : ∀ v, c.V v → PIp (cx c.f v) op r) (hf : OpD c r f) (h : GD c i mi) (h' : GD c e me) (hN : c.f.N[k]? = some x := by rfl) (hv : VisC c x := by first | exact Or.inl rfl | exact Or.inr (Or.inl rfl) | exact Or.inr (Or.inr rfl)) (hd : (x == ("__debug__" : Str)) = false := by decide)
    (hcd : (x == ("__classdict__" : Str)) = false := by decide) (ha : ∀ ov iv new, augStore i ov iv new = (do holding [new, ov, iv] (setItem ov iv new); release [new, ov, iv] []; pure .next) := by intros; rfl) : GS c (.AugAssign (.Subscript (.Name x p) i tpos) op e pos) (sAugSub k mi me f) := by
  obtain ⟨t, h1, h2⟩ := h
  obtain ⟨u, g1, g2⟩ := h'
  refine ⟨tAugS (tVar k) t u (rGetL c.f.K) r rSetL, fun y hy => ps_augS (pe_var hN (vis_of hv y hy) hd hcd) (h1 y hy) get_list (g1 y hy) (hp y hy) set_list ha, fun F H δ σ fp ok D q => ?_⟩
  unfold sAugSub at q
  cases e0 : δ[k]? with
  | none => rw [e0] at q; exact q.elim
  | some s0 =>
    cases s0 with
    | none => rw [e0] at q; exact q.elim
    | some o0 =>
      rw [e0] at q
      dsimp only at q
      by_cases hl : o0.isLst = true
      · rw [if_pos hl] at q
        obtain ⟨v, _, _, _, hσ, _⟩ := ok.er.get e0
        refine ⟨v, hσ, h2 F H δ σ fp ok _ ?_⟩
        revert q
        cases mi δ with
        | exc n => exact id
        | no => exact fun q => q.elim
        | ok pr =>
          obtain ⟨di, δ1⟩ := pr
          cases di <;> first | exact fun q => q.elim | skip
          rename_i ii
          dsimp only
          intro q F1 H1 fp1 vi ok1 ri s1
          have ev : vi = .int ii := ri
          subst ev
          cases e1 : δ1[k]? with
          | none => rw [e1] at q; exact q.elim
          | some s1' =>
            cases s1' with
            | none => rw [e1] at q; exact q.elim
            | some o1 =>
              rw [e1] at q
              cases o1 <;> first | exact q.elim | skip
              rename_i os
              dsimp only at q
              obtain ⟨a, xs, fs, ev, hH, ro, _⟩ := Ok.lst ok1 e1 hσ
              cases ea : atI os ii with
              | none => rw [ea] at q; exact q.elim
              | some oo =>
                rw [ea] at q
                cases oo <;> first | exact q.elim | skip
                rename_i xd
                dsimp only at q
                obtain ⟨vx, hx, rx⟩ := ORL.at ro ea
                refine ⟨a, xs, ii, vx, ev, rfl, SqL.of hH, hx, g2 F1 H1 δ1 σ fp1 ok1 _ ?_⟩
                revert q
                cases me δ1 with
                | exc n => exact fun q => WXc.step q s1
                | no => exact fun q => q.elim
                | ok pr =>
                  obtain ⟨yd, δ2⟩ := pr
                  dsimp only
                  intro q F2 H2 fp2 vy ok2 ry s2
                  refine hf F2 H2 xd yd vx vy ok2.sm (Rep.mono s2.ext _ _ rx) ry _ ?_
                  revert q
                  cases f xd yd with
                  | exc n => exact fun q => q.elim
                  | no => exact fun q => q.elim
                  | ok z =>
                    dsimp only
                    intro q F3 H3 vz sm3 rz n3
                    have ok3 := ok2.new n3 sm3
                    cases e2 : δ2[k]? with
                    | none => rw [e2] at q; exact q.elim
                    | some s2' =>
                      cases s2' with
                      | none => rw [e2] at q; exact q.elim
                      | some o2 =>
                        rw [e2] at q
                        cases o2 <;> first | exact q.elim | skip
                        rename_i os2
                        dsimp only at q
                        obtain ⟨a2, xs2, fs2, ev2, hH2, ro2, fin⟩ := Ok.lst ok3 e2 hσ
                        cases ej : ixN os2.length ii with
                        | none => rw [ej] at q; exact q.elim
                        | some j =>
                          rw [ej] at q
                          obtain ⟨fs', w1, w2⟩ := ORL.set rz j ro2
                          obtain ⟨fp', ok', st'⟩ := fin _ _ _ w2 w1
                          exact ⟨a2, xs2, ii, j, ev2, rfl, hH2, by rw [← ro2.length]; exact ej, q F3 _ σ fp' ok' SF.refl (s1.trans (s2.trans (n3.new0.trans st')))⟩
      · rw [if_neg hl] at q
        exact q.elim
/-- x op= e, what x holds is data -/
def sAug (k : Nat) (me : DM D) (f : D → D → R D) : SM := fun δ => match δ[k]? with
  | some (some (.d x)) => (match me δ with
    | .ok (y, δ2) => (match f x y with
      | .ok z => if k < δ2.length then .ok (.nx, δ2.set k (some (.d z))) else .no
      | _ => .no)
    | .exc n => .exc n
    | .no => .no)
  | _ => .no
theorem gs_aug (k : Nat) {x : Str} {e : Expr} {me : DM D} {op : Operator} {r : R2} {f : D → D → R D} {p pos : Pos} (hp : ∀ v, c.V v → PIp (cx c.f v) op r) (hf : OpD c r f) (h' : GD c e me) (hi : c.f.N[k]? = some x := by rfl) (hx : Loc c.so x := by first | exact Or.inl rfl | exact Or.inr rfl) (hfx : c.fx k = false := by rfl) :
    GS c (.AugAssign (.Name x p) op e pos) (sAug k me f) := by
  obtain ⟨u, g1, g2⟩ := h'
  refine ⟨tAug k u r, fun y hy => ps_aug c.nd hi (loc_of hx y hy) (g1 y hy) (hp y hy) (fn_of' hx y hy), fun F H δ σ fp ok D q => ?_⟩
  unfold sAug at q
  cases e0 : δ[k]? with
  | none => rw [e0] at q; exact q.elim
  | some s0 =>
    cases s0 with
    | none => rw [e0] at q; exact q.elim
    | some o0 =>
      rw [e0] at q
      cases o0 <;> first | exact q.elim | skip
      rename_i xd
      dsimp only at q
      obtain ⟨v, f1, pre, post, hσ, ro, _⟩ := ok.er.get e0
      refine ⟨v, hσ, g2 F H δ σ fp ok _ ?_⟩
      revert q
      cases me δ with
      | exc n => exact id
      | no => exact fun q => q.elim
      | ok pr =>
        obtain ⟨yd, δ2⟩ := pr
        dsimp only
        intro q F2 H2 fp2 vy ok2 ry s2
        refine hf F2 H2 xd yd v vy ok2.sm (Rep.mono s2.ext _ _ ro.1) ry _ ?_
        revert q
        cases f xd yd with
        | exc n => exact fun q => q.elim
        | no => exact fun q => q.elim
        | ok z =>
          dsimp only
          intro q F3 H3 vz sm3 rz n3
          by_cases hl : k < δ2.length
          · rw [if_pos hl] at q
            have ok3 := ok2.new n3 sm3
            obtain ⟨fp', k', sub⟩ := ok_store (g := []) (o := .d z) (v := vz) ok3 hl ⟨rz, rfl⟩ (by simpa using ok3.nd) (fun b hb => (nomatch hb))
            exact q F3 H3 _ fp' k' (sf_set hfx) (s2.trans (n3.new0.mono (by simpa using sub)))
          · rw [if_neg hl] at q
            exact q.elim
theorem opd_ipI (g : Int → Int → Int) : OpD c (ipI g) (fun x y => match x, y with
    | .int i, .int j => .ok (.int (g i j))
    | _, _ => .no) := fun F H x y vx vy sm rx ry Q q => by
  revert q
  cases x <;> cases y <;> first | exact fun q => q.elim | skip
  rename_i i j
  intro q
  exact ⟨i, j, rx, ry, q F H (.int (g i j)) sm rfl Step.refl⟩
def fIp (g : Int → Int → Int) : D → D → R D := fun x y => match x, y with
    | .int i, .int j => .ok (.int (g i j))
    | _, _ => .no
theorem gs_augAdd (k : Nat) {x : Str} {e : Expr} {me : DM D} {p pos : Pos} (h' : GD c e me) (hi : c.f.N[k]? = some x := by rfl) (hx : Loc c.so x := by first | exact Or.inl rfl | exact Or.inr rfl) (hfx : c.fx k = false := by rfl) : GS c (.AugAssign (.Name x p) .Add e pos) (sAug k me (fIp (· + ·))) := gs_aug k (fun _ _ => ip_add) (opd_ipI _) h' hi hx hfx
theorem gs_augSubt (k : Nat) {x : Str} {e : Expr} {me : DM D} {p pos : Pos} (h' : GD c e me) (hi : c.f.N[k]? = some x := by rfl) (hx : Loc c.so x := by first | exact Or.inl rfl | exact Or.inr rfl) (hfx : c.fx k = false := by rfl) : GS c (.AugAssign (.Name x p) .Sub e pos) (sAug k me (fIp (· - ·))) := gs_aug k (fun _ _ => ip_sub) (opd_ipI _) h' hi hx hfx
theorem gs_augSubAdd (k : Nat) {x : Str} {i e : Expr} {mi me : DM D} {p tpos pos : Pos} (h : GD c i mi) (h' : GD c e me) (hN : c.f.N[k]? = some x := by rfl) (hv : VisC c x := by first | exact Or.inl rfl | exact Or.inr (Or.inl rfl) | exact Or.inr (Or.inr rfl)) (hd : (x == ("__debug__" : Str)) = false := by decide)
    (hcd : (x == ("__classdict__" : Str)) = false := by decide) (ha : ∀ ov iv new, augStore i ov iv new = (do holding [new, ov, iv] (setItem ov iv new); release [new, ov, iv] []; pure .next) := by intros; rfl) : GS c (.AugAssign (.Subscript (.Name x p) i tpos) .Add e pos) (sAugSub k mi me (fIp (· + ·))) := gs_augSub k (fun _ _ => ip_add) (opd_ipI _) h h' hN hv hd hcd ha
theorem gs_augSubSub (k : Nat) {x : Str} {i e : Expr} {mi me : DM D} {p tpos pos : Pos} (h : GD c i mi) (h' : GD c e me) (hN : c.f.N[k]? = some x := by rfl) (hv : VisC c x := by first | exact Or.inl rfl | exact Or.inr (Or.inl rfl) | exact Or.inr (Or.inr rfl)) (hd : (x == ("__debug__" : Str)) = false := by decide)
    (hcd : (x == ("__classdict__" : Str)) = false := by decide) (ha : ∀ ov iv new, augStore i ov iv new = (do holding [new, ov, iv] (setItem ov iv new); release [new, ov, iv] []; pure .next) := by intros; rfl) : GS c (.AugAssign (.Subscript (.Name x p) i tpos) .Sub e pos) (sAugSub k mi me (fIp (· - ·))) := gs_augSub k (fun _ _ => ip_sub) (opd_ipI _) h h' hN hv hd hcd ha

/-! ### owned arguments -/
def WAO (c : Ctx) (F H : Hp) (σ : St) (fp : List Addr) (Q : List V → Hp → Prop) : R (List O × DEnv) → Prop
  | .ok (os, δ') => ∀ F' H' fp' g vs, OkC c F' H' δ' σ fp' → ORL c.f.K c.f.w F' H' os vs g → (g ++ fp').Nodup → (∀ b ∈ g, F' b = none) → Step F H fp F' H' (g ++ fp') → Q vs H'
  | .exc n => WXc c F H fp n
  | .no => False
def GAO (c : Ctx) (es : List Expr) (m : DM (List O)) : Prop := ∃ t : TA, (∀ v, c.V v → PA (cx c.f v) es t) ∧ ∀ F H δ σ fp, OkC c F H δ σ fp → ∀ Q, WAO c F H σ fp Q (m δ) → t σ H Q
def oNil : DM (List O) := fun δ => .ok ([], δ)
theorem gao_nil : GAO c [] oNil := ⟨tNil, fun _ _ => pa_nil, fun F H δ σ fp k Q q => q F H fp [] [] k ⟨rfl, rfl⟩ (by simpa using k.nd) (fun b hb => (nomatch hb)) (by simpa using Step.refl)⟩
def oCons (m : DM O) (ms : DM (List O)) : DM (List O) := fun δ => match m δ with
  | .ok (x, δ1) => (match ms δ1 with
    | .ok (xs, δ2) => .ok (x :: xs, δ2)
    | .exc n => .exc n
    | .no => .no)
  | .exc n => .exc n
  | .no => .no
theorem gao_cons {e : Expr} {es : List Expr} {m : DM O} {ms : DM (List O)} (h : GO c e m) (hs : GAO c es ms) (he : ∀ v, c.V v → starEach (e :: es) v.env = (false, eval e v.env) :: starEach es v.env := by intros; rfl) : GAO c (e :: es) (oCons m ms) := by
  obtain ⟨t, h1, h2⟩ := h
  obtain ⟨ts, g1, g2⟩ := hs
  refine ⟨tCons t ts, fun v hv => pa_cons (h1 v hv) (g1 v hv) (he v hv), fun F H δ σ fp k Q q => ?_⟩
  refine h2 F H δ σ fp k _ ?_
  unfold oCons at q
  revert q
  cases m δ with
  | exc n => exact id
  | no => exact id
  | ok p =>
    obtain ⟨x, δ1⟩ := p
    intro q F1 H1 fp1 g v k1 r1 nd1 hg1 s1
    refine g2 F1 H1 δ1 σ fp1 k1 _ ?_
    revert q
    dsimp only
    have m1 := List.nodup_append.mp nd1
    have th := OR.there _ _ _ r1
    have ng : ∀ b ∈ g, b ∉ fp1 := fun b hb z => m1.2.2 b hb b z rfl
    cases ms δ1 with
    | exc n => exact fun q => fun F2 H2 fp2 s2 => q F2 H2 (g ++ fp2) (s1.trans s2.beside)
    | no => exact id
    | ok p =>
      obtain ⟨xs, δ2⟩ := p
      intro q F2 H2 fp2 g' vs k2 r2 nd2 hg2 s2
      have m2 := List.nodup_append.mp nd2
      have out : ∀ b ∈ g, b ∉ g' ++ fp2 := fun b hb => s2.notOwn (th b hb) (ng b hb)
      refine q F2 H2 fp2 (g ++ g') (v :: vs) k2 ⟨v, vs, g, g', rfl, OR.mono s2.ext _ _ _ (fun b hb => s2.same (th b hb) (ng b hb)) r1, r2, rfl⟩ ?_ (fun b hb => ?_) ?_
      · rw [List.append_assoc]
        exact List.nodup_append.mpr ⟨m1.1, nd2, fun a ha b hb e => out a ha (e ▸ hb)⟩
      · rcases List.mem_append.mp hb with hb | hb
        · exact s2.notFrz (th b hb) (ng b hb) (hg1 b hb)
        · exact hg2 b hb
      · rw [List.append_assoc]
        exact s1.trans s2.beside
/-- a, b = x, y -/
def sPar (i j : Nat) (m : DM (List O)) : SM := fun δ => match m δ with
  | .ok ([o1, o2], δ1) => if i < δ1.length ∧ j < δ1.length then .ok (.nx, (δ1.set i (some o1)).set j (some o2)) else .no
  | .ok _ => .no
  | .exc n => .exc n
  | .no => .no
theorem gs_par (i j : Nat) {x y : Str} {a b : Expr} {m : DM (List O)} {px py pt pos : Pos} {kt k2 pt2} (h : GAO c [a, b] m) (hi : c.f.N[i]? = some x := by rfl) (hj : c.f.N[j]? = some y := by rfl) (hij : i ≠ j := by decide) (hx : c.sc.names.lookup x = some .local := by rfl) (hy : c.sc.names.lookup y = some .local := by rfl) (hf : c.fx i = false := by rfl) (hf' : c.fx j = false := by rfl)
    (hw : ∀ env : PySem.Env, swappedStores [.Tuple [.Name x px, .Name y py] kt pt] (.Tuple [a, b] k2 pt2) { env with scope := c.sc } = pure (some [x, y]) := by intros; rfl)
    (hs : ∀ v, c.V v → swapsWithSole [.Tuple [.Name x px, .Name y py] kt pt] (.Tuple [a, b] k2 pt2) pos.line v.env = pure false := by intros; rfl) : GS c (.Assign [.Tuple [.Name x px, .Name y py] kt pt] (.Tuple [a, b] k2 pt2) pos) (sPar i j m) := by
  obtain ⟨t, h1, h2⟩ := h
  refine ⟨tPar i j t, fun v hv => ps_par c.hc c.nd hi hj hij (by rw [show (cx c.f v).env.scope = c.sc from c.hsc v hv]; exact hx) (by rw [show (cx c.f v).env.scope = c.sc from c.hsc v hv]; exact hy) (h1 v hv) (by show swappedStores _ _ v.env = _; rw [env_sc v hv]; exact hw v.env) (hs v hv), fun F H δ σ fp k D q => h2 F H δ σ fp k _ ?_⟩
  unfold sPar at q
  revert q
  cases m δ with
  | exc n => exact id
  | no => exact id
  | ok p =>
    obtain ⟨os, δ1⟩ := p
    rcases os with _ | ⟨o1, _ | ⟨o2, _ | ⟨o3, os⟩⟩⟩
    · exact fun q => q.elim
    · exact fun q => q.elim
    · dsimp only
      by_cases hl : i < δ1.length ∧ j < δ1.length
      · rw [if_pos hl]
        intro q F1 H1 fp1 g vs k1 r1 nd1 hg1 s1
        obtain ⟨v1, r', g1, g2, e1, p1, p2, e2⟩ := r1
        obtain ⟨v2, r'', g3, g4, e3, p3, p4, e4⟩ := p2
        obtain ⟨e5, e6⟩ := p4
        subst e5; subst e6; subst e3; subst e1; subst e4; subst e2
        simp only [List.append_nil, List.append_assoc] at nd1 hg1 s1
        have m1 := List.nodup_append.mp nd1
        -- the first store, then the second
        have nd2 : (g1 ++ fp1).Nodup := List.nodup_append.mpr ⟨m1.1, k1.nd, fun a ha b hb => m1.2.2 a ha b (by simp [hb])⟩
        obtain ⟨fp2, k2, sub2⟩ := ok_store k1 hl.1 p1 nd2 (fun b hb => hg1 b (by simp [hb]))
        have m3 := List.nodup_append.mp m1.2.1
        have nd3 : (g3 ++ fp2).Nodup := List.nodup_append.mpr ⟨m3.1, k2.nd, fun a ha b hb e => by
          subst e
          rcases List.mem_append.mp (sub2 a hb) with z | z
          · exact m1.2.2 a z a (by simp [ha]) rfl
          · exact m3.2.2 a ha a z rfl⟩
        obtain ⟨fp3, k3, sub3⟩ := ok_store k2 (by rw [List.length_set]; exact hl.2) p3 nd3 (fun b hb => hg1 b (by simp [hb]))
        refine ⟨v1, v2, rfl, q F1 H1 _ fp3 k3 ?_ (s1.mono fun b hb => ?_)⟩
        · exact (sf_set hf).trans (sf_set hf')
        · rcases List.mem_append.mp (sub3 b hb) with z | z
          · simp [z]
          · rcases List.mem_append.mp (sub2 b z) with z | z <;> simp [z]
      · rw [if_neg hl]
        exact fun q => q.elim
    · exact fun q => q.elim
end
end G
/-! G9: what a for walks: lists, tuples, ranges, enumerate, zip, reversed, texts. -/
namespace G
open PySem PySem.Spec PyProof.Rows L2

/-! ### enumerate of a tuple -/
theorem meets_enumB {v : Value} {o : Obj} {H : Heap → Prop} (B : Begins v o H) :
    Meets (Builtin.«enumerate.__new__» ⟨[.type "enumerate", v], []⟩) (fun _ R s => H s.heap ∧
      R (.ok (.ret (.ref (s.heap.push o).objs.size))) { s with heap := (s.heap.push o).push { cls := .type "enumerate", data := .fields #[.none, .bool false, .ref s.heap.objs.size, rawInt 0, .none, .none] } }) :=
  .of_wp fun prog w A R s h => by
    obtain ⟨hp, g, d, tk, os⟩ := s; obtain ⟨h1, h⟩ := h
    have hsub := sub_enumerate
    have q1 : ∀ {A' : Around} {E : Value → Shared → Prop} {Q : Value → Shared → Prop}, Q (.ref hp.objs.size) ⟨hp.push o, g, d, tk, os⟩ → wpAny (model prog w) A' (pyIter v) Q E ⟨hp, g, d, tk, os⟩ :=
      fun q => B.iter prog w _ _ ⟨hp, g, d, tk, os⟩ _ h1 q
    wp_walk using q1
    refine wpAny_stack_any fun st => wpAny_pure ?_
    split
    · rename_i c _ _ _ _ _
      cases (c == Value.type "enumerate")
      · wp_walk using q1
        exact ⟨_, rfl, h⟩
      · wp_walk using q1
        exact ⟨_, rfl, h⟩
    · wp_walk using q1
      exact ⟨_, rfl, h⟩
theorem call_enumB {prog : Program} {w : World} {A : Around} {E : Value → Shared → Prop} {s : Shared} {v : Value} {o : Obj} {H : Heap → Prop} {Q : Value → Shared → Prop} (B : Begins v o H) (h1 : H s.heap)
    (h : ∀ h', IsEnum h' (s.heap.objs.size + 1) s.heap.objs.size 0 .none → h'.get? s.heap.objs.size = some o → h'.objs.size = s.heap.objs.size + 2 →
      (∀ b o, s.heap.get? b = some o → h'.get? b = some o) → Q (.ref (s.heap.objs.size + 1)) { s with heap := h' }) :
    wpAny (model prog w) A (call (.type "enumerate") [v]) Q E s := by
  refine callType_new F.called_enumerate (by decide) (F.typeCall_enumerate_1 _) (F.newCall_enumerate_1 _) (fun obj => F.args_object_init_2 obj _) F.entry_enumerate_new
    (meets_enumB B) ⟨h1, ?_⟩
  have hz : (s.heap.push o).objs.size = s.heap.objs.size + 1 := Heap.size_push ..
  show _ ∧ _
  rw [hz]
  have he : IsEnum ((s.heap.push o).push { cls := .type "enumerate", data := .fields #[.none, .bool false, .ref s.heap.objs.size, rawInt 0, .none, .none] }) (s.heap.objs.size + 1) s.heap.objs.size 0 .none := by
    have := Heap.get?_push_size (s.heap.push o) (o := { cls := .type "enumerate", data := .fields #[.none, .bool false, .ref s.heap.objs.size, rawInt 0, .none, .none] }) rfl
    rw [hz] at this; exact this
  refine ⟨⟨_, he, rfl⟩, h _ he (Heap.get?_push_of_some _ (Heap.get?_push_size _ B.free)) (by rw [Heap.size_push, hz]) fun b o x => Heap.get?_push_of_some _ (Heap.get?_push_of_some _ x)⟩
/-- the tuple at a, each item in a new pair -/
def IteT (K : PySem.W.Frag) (a : Addr) : It :=
  ⟨fun i H => ∃ (xs : List V) (x : V), SqT K H a xs ∧ xs[i]? = some x, fun i H v H' => ∃ T x, v = .ref T ∧ H T = none ∧ H' = upd H T (.tup [.int (i : Nat), x]) ∧ ∀ xs, SqT K H a xs → xs[i]? = some x, fun i H => ∃ xs : List V, SqT K H a xs ∧ xs.length ≤ i⟩
theorem turn_enumT {P : Program} {w : World} {K : PySem.W.Frag} {elts : List Expr} {kk : Nat} {tpos : Pos} (a e it n : Nat) :
    Turn P w K (.Tuple elts kk tpos) (IteT K a) [e, it] e (fun i h => (∃ old, IsEnum h e it ((i : Nat) : Int) old) ∧ h.IsTupleIter it a i ∧ e ≠ it) where
  mem := by simp
  obj := fun i h st b hb => by
    obtain ⟨⟨old, he⟩, ⟨o, ho, hc, hd⟩, _⟩ := st
    have e' : b = e ∨ b = it := by simpa using hb
    rcases e' with z | z
    · rw [z]; exact ⟨_, he, fun v q => nomatch q⟩
    · rw [z]; exact ⟨o, ho, fun v q => by rw [hd] at q; cases q⟩
  keep := fun i h h' st k => let ⟨⟨old, he⟩, hi, hne⟩ := st; ⟨⟨old, k e (by simp) _ he⟩, hi.at fun o q => k it (by simp) o q, hne⟩
  item := by
    intro X hP hw hK hc i pins s σ H E I hf st hg
    subst hP hw hK
    obtain ⟨⟨old, he⟩, hit, hne⟩ := st
    obtain ⟨xs, x, hq, hx⟩ := hg
    obtain ⟨its, rv, p, hz⟩ := I.tuple hq
    obtain ⟨u, hu, ru⟩ := rv.get hx
    have hu' : its.toArray[i]? = some u := by simpa using hu
    have hel : e < s.heap.objs.size := Heap.lt_size he
    have hil : it < s.heap.objs.size := by obtain ⟨_, q, _⟩ := hit; exact Heap.lt_size q
    have hta : s.heap.IsTuple a its.toArray := p
    have nie : a ≠ it := fun z => by
      obtain ⟨o1, q1, c1, d1⟩ := hit
      obtain ⟨o2, q2, c2, d2⟩ := hta
      rw [z] at q2
      rw [q1] at q2
      cases q2
      rw [c1] at c2
      exact absurd c2 (by intro z; injection z with z; exact absurd z (by decide))
    have nea : a ≠ e := fun z => by
      obtain ⟨o2, q2, c2, d2⟩ := hta
      rw [z] at q2
      have q1 : s.heap.get? e = some _ := he
      rw [q1] at q2
      cases q2
      exact absurd c2 (by intro z; injection z with z; exact absurd z (by decide))
    refine wpAny_pyNext_enum_itemD (Draws.tuple (A := X.A.in1) (show X.A.in1.handled = none from (I.ok.hd hc)) it a nie its.toArray) he ⟨hit, hta⟩ (by
      have h1 := (Array.getElem?_eq_some_iff.mp hu').1
      exact h1) hne (by simp [hne, Ne.symm nea]) fun y h' tk hy ho st' hT hsz hk => ?_
    obtain ⟨hit', _⟩ := st'
    rw [hu'] at hy
    cases hy
    refine ⟨_, rfl, wpAny_letOwnedTupleGo_enum (s := { s with heap := h', toks := tk + 1 }) ho fun h'' he' sb => ?_⟩
    have hT2 : h''.get? s.heap.objs.size = some { cls := .type "tuple", data := .seq #[.int i tk, u] } := (sb.2 _ (Nat.ne_of_gt hel)).trans hT
    have new : ObjOk X.prog X.w (upd H s.heap.objs.size (.tup [.int (i : Nat), x])) h'' s.heap.objs.size (.tup [.int (i : Nat), x]) :=
      ⟨by show 2 ≤ sizeLine; decide, [.int i tk, u], .cons ⟨_, rfl⟩ (.cons ru .nil), ⟨_, hT2, rfl, _, rfl⟩⟩
    have I1 : Inv X pins σ (upd H s.heap.objs.size (.tup [.int (i : Nat), x])) { s with heap := h'', toks := tk + 1 } :=
      I.turnedNew (ch := [e, it]) (fun b ob hb q => (sb.2 b (fun z => hb (by simp [z]))).trans (hk b ob (fun z => hb (by simp [z])) (fun z => hb (by simp [z])) q)) hf (Nat.le_refl _) new
    refine ⟨.ref s.heap.objs.size, _, I1, rfl, ⟨_, x, rfl, I.hok.fresh (Nat.le_refl _), rfl, fun ys hy => by rw [I.tuple_inj hy hq]; exact hx⟩, ⟨⟨u, ?_⟩, hit'.at fun o q => (sb.2 it (Ne.symm hne)).trans q, hne⟩, fun b hb => ?_⟩
    · have e1 : ((i + 1 : Nat) : Int) = (i : Int) + 1 := by omega
      rw [e1]; exact he'
    · have hb' : b < s.heap.objs.size := by
        have e' : b = e ∨ b = it := by simpa using hb
        rcases e' with z | z
        · rw [z]; exact hel
        · rw [z]; exact hil
      rw [upd_ne (Nat.ne_of_lt hb')]
      exact (hf b hb).1
  done := by
    intro X hP hw hK hc i pins s σ H E I hf st hg
    subst hP hw hK
    obtain ⟨⟨old, he⟩, hit, hne⟩ := st
    obtain ⟨xs, hq, hx⟩ := hg
    obtain ⟨its, rv, p, hz⟩ := I.tuple hq
    obtain ⟨f0, f1, f2, f3, f4, f5⟩ := hf it (by simp)
    have hl := rv.length
    have hta : s.heap.IsTuple a its.toArray := p
    have hT : s.TypeIs (.ref e) "enumerate" := ⟨_, he, rfl⟩
    unfold pyNext
    refine wpAny_bind (wpAny_attempt (wpAny_callSpecial?_slot (name := Str.ofString "__next__") hT F.slot_enumerate_next
      (wpAny_call_entry F.slot_enumerate_next hT F.entry_enumerate_next ?_ (F.args_enumerate_next_1 _))))
    show wpAny _ _ (field (.ref e) 2 >>= _) _ _ _
    refine wpAny_bind (wpAny_field he rfl (x := .ref it) rfl ?_)
    refine wpAny_bind (wpAny_nextOf_tuple_end (show X.A.in1.handled = none from (I.ok.hd hc)) hit hta (by simp; omega) fun h' x he' hx' => ?_)
    obtain ⟨o, ho, hc'⟩ := hx'
    refine wpAny_bind (wpAny_isInstance (T := "StopIteration") (b := true) ⟨o, ho, hc'⟩ isSubtype_stop ?_)
    exact wpAny_pure ⟨rfl, I.turned (t' := s.toks) (fun b o hb q => he' b o hb q) f0 f1 f3 f4 f5⟩
  self := fun A i s Q E st h => let ⟨⟨_, he⟩, _⟩ := st; wpAny_pyIter_enum he h
/-- a list or a tuple -/
def iEnumA (K : PySem.W.Frag) (ta : TA) : TI := fun σ H R => ta σ H fun vs H1 => ∃ a xs, vs = [.ref a] ∧ ((SqL K H1 a xs ∧ R (Ite K a) H1) ∨ (SqT K H1 a xs ∧ R (IteT K a) H1))
theorem pi_enumA {X : Cx} {e : Expr} {ta : TA} {p pos tpos : Pos} {elts : List Expr} {kk : Nat} (hg : Gl X "enumerate") (hm : X.mg "enumerate" = none) (ha : PA X [e] ta) (hs : starEach [e] X.env = [(false, eval e X.env)] := by rfl) :
    PI X (.Tuple elts kk tpos) (.Call (.Name "enumerate" p) [e] [] pos) (iEnumA X.K ta) := by
  refine ⟨fun pins s σ H R I h => ?_⟩
  refine Call_ (ld_blt I hg hm boot_enumerate (PyProof.Rows.callWith_type1 (thn (ha.run pos pins s σ H _ I h) fun us s1 ⟨vs, H1, I1, r1, q1⟩ => ?_) hs rfl))
  obtain ⟨a, xs, ex, q⟩ := q1
  subst ex
  cases r1 with
  | cons r rr =>
    cases rr
    cases r
    have fpo : ∀ {h' : Heap}, Inv X pins σ H1 { s1 with heap := h' } → ∀ b ∈ [s1.heap.objs.size + 1, s1.heap.objs.size], FpOk X pins H1 b := fun {h'} I2 b hb => by
      have e' : b = s1.heap.objs.size + 1 ∨ b = s1.heap.objs.size := by simpa using hb
      have hle : s1.heap.objs.size ≤ b := by
        rcases e' with z | z
        · rw [z]; exact Nat.le_add_right _ _
        · rw [z]; exact Nat.le_refl _
      exact I1.fpOk hle (I1.hok.fresh hle)
    rcases q with ⟨hq, q⟩ | ⟨hq, q⟩
    · obtain ⟨its, rv, p', hz⟩ := I1.list hq
      refine call_enumerate_list p'.isList fun h' he hit hsz hk => wpAny_pyIter_enum he ?_
      have I2 : Inv X pins σ H1 { s1 with heap := h' } := I1.kept (t' := s1.toks) hk
      exact ⟨s1.heap.objs.size + 1, [s1.heap.objs.size + 1, s1.heap.objs.size], _, _, H1, rfl, I2, turn_enum a (s1.heap.objs.size + 1) s1.heap.objs.size, ⟨⟨.none, he⟩, hit, Nat.succ_ne_self _⟩, fpo I2, q⟩
    · obtain ⟨its, rv, p', hz⟩ := I1.tuple hq
      have hta : s1.heap.IsTuple a its.toArray := p'
      refine call_enumB (begins_tuple a its.toArray) hta fun h' he hit hsz hk => wpAny_pyIter_enum he ?_
      have I2 : Inv X pins σ H1 { s1 with heap := h' } := I1.kept (t' := s1.toks) hk
      exact ⟨s1.heap.objs.size + 1, [s1.heap.objs.size + 1, s1.heap.objs.size], _, _, H1, rfl, I2, turn_enumT a (s1.heap.objs.size + 1) s1.heap.objs.size 0, ⟨⟨.none, he⟩, ⟨_, hit, rfl, rfl⟩, Nat.succ_ne_self _⟩, fpo I2, q⟩
/-! ### what is walked -/
section
variable {c : Ctx}
def dItems (m : DM D) : DM (List D) := fun δ => match m δ with
  | .ok (x, δ') => (match x.items with
    | some ds => .ok (ds, δ')
    | none => .no)
  | .exc n => .exc n
  | .no => .no
def iAny (K : PySem.W.Frag) (te : TE) : TI := fun σ H R => te σ H fun x H1 => ∃ a, x = .ref a ∧ (((∃ xs, SqL K H1 a xs) ∧ R (Itl K a) H1) ∨ ((∃ xs, SqT K H1 a xs) ∧ R (Itt K a) H1))
theorem pi_any {X : Cx} {tg l : Expr} {tl : TE} (hl : PE X l tl) : PI X tg l (iAny X.K tl) := by
  refine ⟨fun pins s σ H R I h => ?_⟩
  refine thn (hl.run pins s σ H _ I h) fun v s1 ⟨x, H1, I1, r1, q1⟩ => ?_
  obtain ⟨a, e, q1⟩ := q1
  subst e
  cases r1
  rcases q1 with ⟨⟨xs, hq⟩, q⟩ | ⟨⟨xs, hq⟩, q⟩
  · obtain ⟨its, rv, p, hz⟩ := I1.list hq
    refine wpAny_pyIter_list p.isList ?_
    refine ⟨s1.heap.objs.size, [s1.heap.objs.size], _, _, H1, rfl, I1.kept (t' := s1.toks) fun b o e => Heap.get?_push_of_some _ e, turn_list a _, ⟨_, Heap.get?_push_size _ rfl, rfl, rfl⟩, fun b hb => ?_, q⟩
    have e : b = s1.heap.objs.size := by simpa using hb
    subst e
    exact I1.fpOk (Nat.le_refl _) (I1.hok.fresh (Nat.le_refl _))
  · obtain ⟨its, rv, p, hz⟩ := I1.tuple hq
    refine wpAny_pyIter_tuple (show s1.heap.IsTuple a its.toArray from p) ?_
    refine ⟨s1.heap.objs.size, [s1.heap.objs.size], _, _, H1, rfl, I1.kept (t' := s1.toks) fun b o e => Heap.get?_push_of_some _ e, turn_tuple a _, ⟨_, Heap.get?_push_size _ rfl, rfl, rfl⟩, fun b hb => ?_, q⟩
    have e : b = s1.heap.objs.size := by simpa using hb
    subst e
    exact I1.fpOk (Nat.le_refl _) (I1.hok.fresh (Nat.le_refl _))
theorem sqLm {K : PySem.W.Frag} {H H' : Hp} {a : Addr} {xs : List V} (h : SqL K H a xs) (e : Same H H') : SqL K H' a xs := e.seq h
theorem sqTm {K : PySem.W.Frag} {H H' : Hp} {a : Addr} {xs : List V} (h : SqT K H a xs) (e : Same H H') : SqT K H' a xs := Same.sqT e h
theorem walks_list {F H : Hp} {a : Addr} {xs : List V} {ds : List D} (hs : SqL c.f.K F a xs) (r : RepLC c F ds xs) : Walks c (Itl c.f.K a) F ds := fun F2 H2 s1 s2 i => by
  have hq : SqL c.f.K H2 a xs := sqLm (sqLm hs s1) s2
  refine ⟨fun hi => ⟨xs, hq, by rw [← r.length]; exact hi⟩, fun d hd => ?_⟩
  obtain ⟨x, hx, rx⟩ := r.get hd
  refine ⟨⟨xs, x, hq, hx⟩, fun y H3 hy => ?_⟩
  obtain ⟨e, hy⟩ := hy
  subst e
  have e := hy xs hq
  rw [hx] at e
  cases e
  exact ⟨F2, s2, rx.mono s1, Step.refl⟩
theorem walks_tup {F H : Hp} {a : Addr} {xs : List V} {ds : List D} (hs : SqT c.f.K F a xs) (r : RepLC c F ds xs) : Walks c (Itt c.f.K a) F ds := fun F2 H2 s1 s2 i => by
  have hq : SqT c.f.K H2 a xs := sqTm (sqTm hs s1) s2
  refine ⟨fun hi => ⟨xs, hq, by rw [← r.length]; exact hi⟩, fun d hd => ?_⟩
  obtain ⟨x, hx, rx⟩ := r.get hd
  refine ⟨⟨xs, x, hq, hx⟩, fun y H3 hy => ?_⟩
  obtain ⟨e, hy⟩ := hy
  subst e
  have e := hy xs hq
  rw [hx] at e
  cases e
  exact ⟨F2, s2, rx.mono s1, Step.refl⟩
/-- data of several items stands at F -/
theorem rep_seq {F : Hp} {x : D} {v : V} {ds : List D} (h : x.items = some ds) (r : RepC c F x v) : ∃ a xs, v = .ref a ∧ SqAny c.f.K F a xs ∧ RepLC c F ds xs := rep_items (Same.refl F) h r
theorem gi_any {tg e : Expr} {m : DM D} (h : GD c e m) : GI c tg e (dItems m) := by
  obtain ⟨t, h1, h2⟩ := h
  refine ⟨iAny c.f.K t, fun v hv => pi_any (h1 v hv), fun F H δ σ fp k Rr q => h2 F H δ σ fp k _ ?_⟩
  unfold dItems at q
  revert q
  cases m δ with
  | exc n => exact id
  | no => exact id
  | ok p =>
    obtain ⟨x, δ'⟩ := p
    dsimp only
    cases e : x.items with
    | none => exact fun q => q.elim
    | some ds =>
      intro q F1 H1 fp1 v k1 r s
      obtain ⟨a, xs, e1, e2, e3⟩ := rep_seq e r
      refine ⟨a, e1, ?_⟩
      rcases e2 with e2 | e2
      · exact .inl ⟨⟨xs, sqLm e2 k1.sm⟩, q F1 H1 fp1 _ k1 (walks_list (H := H1) e2 e3) s⟩
      · exact .inr ⟨⟨xs, sqTm e2 k1.sm⟩, q F1 H1 fp1 _ k1 (walks_tup (H := H1) e2 e3) s⟩
/-! ranges -/
def rngI (lo st : Int) : Nat → List D
  | 0 => []
  | n + 1 => .int lo :: rngI (lo + st) st n
theorem rngI_length (lo st : Int) (n : Nat) : (rngI lo st n).length = n := by
  induction n generalizing lo with
  | zero => rfl
  | succ n ih => rw [rngI, List.length_cons, ih]
theorem rngI_get (st : Int) : ∀ (n i : Nat) (lo : Int) (d : D), (rngI lo st n)[i]? = some d → i < n ∧ d = .int (lo + (i : Nat) * st)
  | 0, i, lo, d, h => by simp [rngI] at h
  | n + 1, 0, lo, d, h => by
    simp [rngI] at h
    subst h
    exact ⟨by omega, by simp⟩
  | n + 1, i + 1, lo, d, h => by
    simp only [rngI, List.getElem?_cons_succ] at h
    obtain ⟨h1, h2⟩ := rngI_get st n i (lo + st) d h
    refine ⟨by omega, ?_⟩
    rw [h2]
    have e : ((i + 1 : Nat) : Int) * st = (i : Nat) * st + st := by
      rw [Int.natCast_add, Int.add_mul]; simp
    rw [e]
    congr 1
    omega
theorem walks_rng {F : Hp} {lo : Int} {n : Nat} : Walks c (Itr lo n) F (rngI lo 1 n) := fun F2 H2 s1 s2 i => by
  refine ⟨fun hi => by rw [rngI_length] at hi; exact hi, fun d hd => ?_⟩
  obtain ⟨h1, h2⟩ := rngI_get 1 n i lo d hd
  refine ⟨h1, fun y H3 hy => ?_⟩
  obtain ⟨e, hy⟩ := hy
  subst e; subst hy; subst h2
  exact ⟨F2, s2, by rw [Int.mul_one]; exact rfl, Step.refl⟩
theorem walks_rngC {F : Hp} {lo st : Int} {n : Nat} : Walks c (Itc lo st n) F (rngI lo st n) := fun F2 H2 s1 s2 i => by
  refine ⟨fun hi => by rw [rngI_length] at hi; exact hi, fun d hd => ?_⟩
  obtain ⟨h1, h2⟩ := rngI_get st n i lo d hd
  refine ⟨h1, fun y H3 hy => ?_⟩
  obtain ⟨e, hy⟩ := hy
  subst e; subst hy; subst h2
  exact ⟨F2, s2, rfl, Step.refl⟩
def inW (i : Int) : Bool := decide (-(2 ^ 62) ≤ i) && decide (i < 2 ^ 62)
theorem inW_ok {i : Int} (h : inW i = true) : -(2 ^ 62) ≤ i ∧ i < 2 ^ 62 := by
  unfold inW at h
  simpa using h
def dRng1 (ms : DM (List D)) : DM (List D) := fun δ => match ms δ with
  | .ok ([.int j], δ') => if inW j = true then .ok (rngI 0 1 j.toNat, δ') else .no
  | .ok _ => .no
  | .exc n => .exc n
  | .no => .no
def dRng2 (ms : DM (List D)) : DM (List D) := fun δ => match ms δ with
  | .ok ([.int i, .int j], δ') => if (inW i && inW j) = true then .ok (rngI i 1 (j - i).toNat, δ') else .no
  | .ok _ => .no
  | .exc n => .exc n
  | .no => .no
/-- how many items a stepped range has -/
def rngN (i j s : Int) : Nat := (Builtin.Range.rangeSize i j s).toNat
def rngOk (i j s : Int) : Bool := decide (s ≠ 0) && (Nat.blt s.natAbs 1073741824 && (Builtin.Range.small i j s && decide (0 ≤ Builtin.Range.rangeSize i j s)))
def dRng3 (ms : DM (List D)) : DM (List D) := fun δ => match ms δ with
  | .ok ([.int i, .int j, .int s], δ') => if rngOk i j s = true then .ok (rngI i s (rngN i j s), δ') else .no
  | .ok _ => .no
  | .exc n => .exc n
  | .no => .no
variable {tg : Expr}
theorem gi_range1 {a : Expr} {ms : DM (List D)} {p pos : Pos} (hm : c.f.mg "range" = none) (ha : GA c [a] ms) (hg : GlC c "range" := by rfl) (hs : ∀ v, c.V v → starEach [a] v.env = [(false, eval a v.env)] := by intros; rfl) : GI c tg (.Call (.Name "range" p) [a] [] pos) (dRng1 ms) := by
  obtain ⟨t, h1, h2⟩ := ha
  refine ⟨iRng1 t, fun v hv => pi_range1 (gl_of hg v hv) hm (h1 v hv) (hs v hv), fun F H δ σ fp k Rr q => h2 F H δ σ fp k _ ?_⟩
  unfold dRng1 at q
  revert q
  cases ms δ with
  | exc n => exact id
  | no => exact id
  | ok p =>
    obtain ⟨xs, δ'⟩ := p
    rcases xs with _ | ⟨x, _ | ⟨y, xs⟩⟩
    · exact fun q => q.elim
    · cases x <;> first | exact fun q => q.elim | skip
      rename_i j
      dsimp only
      intro q F1 H1 fp1 vs k1 r s
      obtain ⟨y, r', e1, e2, e3⟩ := r
      have e2' : y = .int j := e2
      have e3' : r' = [] := e3
      subst e1; subst e2'; subst e3'
      by_cases hj : inW j = true
      · rw [if_pos hj] at q
        obtain ⟨j1, j2⟩ := inW_ok hj
        exact ⟨j, rfl, j1, j2, q F1 H1 fp1 _ k1 walks_rng s⟩
      · rw [if_neg hj] at q
        exact q.elim
    · cases x <;> exact fun q => q.elim
theorem gi_range2 {a b : Expr} {ms : DM (List D)} {p pos : Pos} (hm : c.f.mg "range" = none) (ha : GA c [a, b] ms) (hg : GlC c "range" := by rfl) (hs : ∀ v, c.V v → starEach [a, b] v.env = [(false, eval a v.env), (false, eval b v.env)] := by intros; rfl) (hs2 : ∀ v, c.V v → starEach [b] v.env = [(false, eval b v.env)] := by intros; rfl) :
    GI c tg (.Call (.Name "range" p) [a, b] [] pos) (dRng2 ms) := by
  obtain ⟨t, h1, h2⟩ := ha
  refine ⟨iRng2 t, fun v hv => pi_range2 (gl_of hg v hv) hm (h1 v hv) (hs v hv) (hs2 v hv), fun F H δ σ fp k Rr q => h2 F H δ σ fp k _ ?_⟩
  unfold dRng2 at q
  revert q
  cases ms δ with
  | exc n => exact id
  | no => exact id
  | ok p =>
    obtain ⟨xs, δ'⟩ := p
    split <;> first | (rename_i hh; cases hh; done) | exact fun q => q.elim | skip
    · rename_i i j δ2 he
      cases he
      intro q F1 H1 fp1 vs k1 r s
      obtain ⟨y, r', e1, e2, y2, r2, e3, e4, e5⟩ := r
      have e2' : y = .int i := e2
      have e4' : y2 = .int j := e4
      have e5' : r2 = [] := e5
      subst e1; subst e3; subst e2'; subst e4'; subst e5'
      by_cases hj : (inW i && inW j) = true
      · rw [if_pos hj] at q
        rw [Bool.and_eq_true] at hj
        obtain ⟨i1, i2⟩ := inW_ok hj.1
        obtain ⟨j1, j2⟩ := inW_ok hj.2
        exact ⟨i, j, rfl, ⟨i1, i2, j1, j2⟩, q F1 H1 fp1 _ k1 walks_rng s⟩
      · rw [if_neg hj] at q
        exact q.elim
theorem gi_range3 {a b d : Expr} {ms : DM (List D)} {p pos : Pos} (hm : c.f.mg "range" = none) (ha : GA c [a, b, d] ms) (hg : GlC c "range" := by rfl) (hs : ∀ v, c.V v → starEach [a, b, d] v.env = (false, eval a v.env) :: starEach [b, d] v.env := by intros; rfl) (hpl : ∀ v, c.V v → (backTo pos (starEach [b, d] v.env)).any (·.1) = false := by intros; rfl) :
    GI c tg (.Call (.Name "range" p) [a, b, d] [] pos) (dRng3 ms) := by
  obtain ⟨t, h1, h2⟩ := ha
  refine ⟨iRng3 t, fun v hv => pi_range3 (gl_of hg v hv) hm (h1 v hv) (hs v hv) (hpl v hv), fun F H δ σ fp k Rr q => h2 F H δ σ fp k _ ?_⟩
  unfold dRng3 at q
  revert q
  cases ms δ with
  | exc n => exact id
  | no => exact id
  | ok p =>
    obtain ⟨xs, δ'⟩ := p
    split <;> first | (rename_i hh; cases hh; done) | exact fun q => q.elim | skip
    · rename_i i j s δ2 he
      cases he
      intro q F1 H1 fp1 vs k1 r st
      obtain ⟨y, r', e1, e2, y2, r2, e3, e4, y3, r3, e6, e7, e5⟩ := r
      have e2' : y = .int i := e2
      have e4' : y2 = .int j := e4
      have e7' : y3 = .int s := e7
      have e5' : r3 = [] := e5
      subst e1; subst e3; subst e2'; subst e4'; subst e6; subst e7'; subst e5'
      by_cases hj : rngOk i j s = true
      · rw [if_pos hj] at q
        unfold rngOk at hj
        simp only [Bool.and_eq_true, decide_eq_true_eq] at hj
        obtain ⟨j1, j2, j3, j4⟩ := hj
        exact ⟨i, j, s, rngN i j s, rfl, ⟨j1, Nat.le_of_ble_eq_true j2, j3, by unfold rngN; omega⟩, q F1 H1 fp1 _ k1 walks_rngC st⟩
      · rw [if_neg hj] at q
        exact q.elim
/-! enumerate, zip -/
def enumL : Nat → List D → List D
  | _, [] => []
  | i, d :: ds => .tup [.int (i : Nat), d] :: enumL (i + 1) ds
theorem enumL_length : ∀ (ds : List D) (k : Nat), (enumL k ds).length = ds.length
  | [], k => rfl
  | d :: ds, k => by rw [enumL, List.length_cons, List.length_cons, enumL_length ds]
theorem enumL_get : ∀ (ds : List D) (k i : Nat) (d : D), (enumL k ds)[i]? = some d → ∃ x, ds[i]? = some x ∧ d = .tup [.int ((k + i : Nat) : Int), x]
  | [], k, i, d, h => by simp [enumL] at h
  | x :: ds, k, 0, d, h => by
    simp [enumL] at h
    exact ⟨x, rfl, by rw [← h]; simp⟩
  | x :: ds, k, i + 1, d, h => by
    simp only [enumL, List.getElem?_cons_succ] at h
    obtain ⟨y, h1, h2⟩ := enumL_get ds (k + 1) i d h
    exact ⟨y, by simpa using h1, by rw [h2]; congr 4; omega⟩
theorem new_pair {F2 H2 : Hp} {T : Addr} {x y : V} {dx dy : D} (s2 : Same F2 H2) (hT : H2 T = none) (rx : RepC c F2 dx x) (ry : RepC c F2 dy y) : ∃ F3, Same F3 (upd H2 T (.tup [x, y])) ∧ RepC c F3 (.tup [dx, dy]) (.ref T) ∧ Step F2 H2 [] F3 (upd H2 T (.tup [x, y])) [] := by
  obtain ⟨st, sm⟩ := step_tup (F := F2) (H := H2) (o := .tup [x, y]) hT s2
  refine ⟨_, sm, ⟨T, [x, y], rfl, .inl (.inl upd_same), ⟨x, [y], rfl, rx.mono st.ext, ⟨y, [], rfl, ry.mono st.ext, rfl⟩⟩⟩, st⟩
def dEnum (ms : DM (List D)) : DM (List D) := fun δ => match ms δ with
  | .ok ([x], δ') => (match x.items with
    | some ds => .ok (enumL 0 ds, δ')
    | none => .no)
  | .ok _ => .no
  | .exc n => .exc n
  | .no => .no
theorem gi_enum {e : Expr} {elts : List Expr} {kk : Nat} {ms : DM (List D)} {p pos tpos : Pos} (hm : c.f.mg "enumerate" = none) (ha : GA c [e] ms) (hg : GlC c "enumerate" := by rfl) (hs : ∀ v, c.V v → starEach [e] v.env = [(false, eval e v.env)] := by intros; rfl) :
    GI c (.Tuple elts kk tpos) (.Call (.Name "enumerate" p) [e] [] pos) (dEnum ms) := by
  obtain ⟨t, h1, h2⟩ := ha
  refine ⟨iEnumA c.f.K t, fun v hv => pi_enumA (gl_of hg v hv) hm (h1 v hv) (hs v hv), fun F H δ σ fp k Rr q => h2 F H δ σ fp k _ ?_⟩
  unfold dEnum at q
  revert q
  cases ms δ with
  | exc n => exact id
  | no => exact id
  | ok p =>
    obtain ⟨xs, δ'⟩ := p
    rcases xs with _ | ⟨x, _ | ⟨y, xs⟩⟩
    · exact fun q => q.elim
    · dsimp only
      cases hx : x.items with
      | none => exact fun q => q.elim
      | some ds =>
        intro q F1 H1 fp1 vs k1 r s
        obtain ⟨y, r', e1, e2, e3⟩ := r
        have e3' : r' = [] := e3
        subst e1; subst e3'
        obtain ⟨a, ws, ev, hq, rl⟩ := rep_seq hx e2
        subst ev
        refine ⟨a, ws, rfl, ?_⟩
        rcases hq with hq | hq
        · refine .inl ⟨sqLm hq k1.sm, q F1 H1 fp1 _ k1 (fun F2 H2 s1 s2 i => ?_) s⟩
          have hq2 : SqL c.f.K H2 a ws := sqLm (sqLm hq s1) s2
          refine ⟨fun hi => ⟨ws, hq2, by rw [enumL_length] at hi; rw [← rl.length]; exact hi⟩, fun d hd => ?_⟩
          obtain ⟨dx, hdx, ed⟩ := enumL_get ds 0 i d hd
          obtain ⟨vx, hvx, rx⟩ := rl.get hdx
          refine ⟨⟨ws, vx, hq2, hvx⟩, fun v H3 hy => ?_⟩
          obtain ⟨T, u, eT, hT, eH, hu⟩ := hy
          have eu := hu ws hq2
          rw [hvx] at eu
          cases eu
          subst eT; subst eH; subst ed
          exact new_pair s2 hT (by rw [Nat.zero_add]; exact rfl) (rx.mono s1)
        · refine .inr ⟨sqTm hq k1.sm, q F1 H1 fp1 _ k1 (fun F2 H2 s1 s2 i => ?_) s⟩
          have hq2 : SqT c.f.K H2 a ws := sqTm (sqTm hq s1) s2
          refine ⟨fun hi => ⟨ws, hq2, by rw [enumL_length] at hi; rw [← rl.length]; exact hi⟩, fun d hd => ?_⟩
          obtain ⟨dx, hdx, ed⟩ := enumL_get ds 0 i d hd
          obtain ⟨vx, hvx, rx⟩ := rl.get hdx
          refine ⟨⟨ws, vx, hq2, hvx⟩, fun v H3 hy => ?_⟩
          obtain ⟨T, u, eT, hT, eH, hu⟩ := hy
          have eu := hu ws hq2
          rw [hvx] at eu
          cases eu
          subst eT; subst eH; subst ed
          exact new_pair s2 hT (by rw [Nat.zero_add]; exact rfl) (rx.mono s1)
    · exact fun q => q.elim
def zipL : List D → List D → List D
  | x :: xs, y :: ys => .tup [x, y] :: zipL xs ys
  | _, _ => []
theorem zipL_get : ∀ (xs ys : List D) (i : Nat), (∀ d, (zipL xs ys)[i]? = some d → ∃ x y, xs[i]? = some x ∧ ys[i]? = some y ∧ d = .tup [x, y]) ∧ ((zipL xs ys).length ≤ i → xs.length ≤ i ∨ ys.length ≤ i)
  | [], ys, i => ⟨fun d h => by simp [zipL] at h, fun _ => .inl (Nat.zero_le _)⟩
  | x :: xs, [], i => ⟨fun d h => by simp [zipL] at h, fun _ => .inr (Nat.zero_le _)⟩
  | x :: xs, y :: ys, 0 => ⟨fun d h => by
      simp [zipL] at h
      exact ⟨x, y, rfl, rfl, h.symm⟩, fun h => by simp [zipL] at h⟩
  | x :: xs, y :: ys, i + 1 => by
    obtain ⟨h1, h2⟩ := zipL_get xs ys i
    refine ⟨fun d h => ?_, fun h => ?_⟩
    · simp only [zipL, List.getElem?_cons_succ] at h
      obtain ⟨u, w, e1, e2, e3⟩ := h1 d h
      exact ⟨u, w, by simpa using e1, by simpa using e2, e3⟩
    · simp only [zipL, List.length_cons, Nat.add_le_add_iff_right] at h ⊢
      exact h2 h
def zipOk : D → D → Option (List D)
  | .tup xs, .tup ys => some (zipL xs ys)
  | .lst xs, .lst ys => some (zipL xs ys)
  | .lst xs, .kst ys => some (zipL xs ys)
  | .kst xs, .lst ys => some (zipL xs ys)
  | .kst xs, .kst ys => some (zipL xs ys)
  | _, _ => none
def dZip (ms : DM (List D)) : DM (List D) := fun δ => match ms δ with
  | .ok ([x, y], δ') => (match zipOk x y with
    | some ds => .ok (ds, δ')
    | none => .no)
  | .ok _ => .no
  | .exc n => .exc n
  | .no => .no
theorem zip_ok {F : Hp} {x y : D} {vx vy : V} {ds : List D} (h : zipOk x y = some ds) (rx : RepC c F x vx) (ry : RepC c F y vy) : ∃ a b xs ys es fs, vx = .ref a ∧ vy = .ref b ∧ ds = zipL es fs ∧ RepLC c F es xs ∧ RepLC c F fs ys ∧ ((SqL c.f.K F a xs ∧ SqL c.f.K F b ys) ∨ (SqT c.f.K F a xs ∧ SqT c.f.K F b ys)) := by
  cases x <;> cases y <;> first | cases h | skip
  · rename_i es fs
    obtain ⟨a, xs, e1, e2, e3⟩ := rx
    obtain ⟨b, ys, f1, f2, f3⟩ := ry
    exact ⟨a, b, xs, ys, es, fs, e1, f1, rfl, e3, f3, .inr ⟨e2, f2⟩⟩
  · rename_i es fs
    obtain ⟨a, xs, e1, e2, e3⟩ := rx
    obtain ⟨b, ys, f1, f2, f3⟩ := ry
    exact ⟨a, b, xs, ys, es, fs, e1, f1, rfl, e3, f3, .inl ⟨SqL.of e2, SqL.of f2⟩⟩
  · rename_i es fs
    obtain ⟨a, xs, e1, e2, e3⟩ := rx
    obtain ⟨b, ys, f1, f2, f3⟩ := ry
    exact ⟨a, b, xs, ys, es, fs, e1, f1, rfl, e3, f3, .inl ⟨SqL.of e2, f2⟩⟩
  · rename_i es fs
    obtain ⟨a, xs, e1, e2, e3⟩ := rx
    obtain ⟨b, ys, f1, f2, f3⟩ := ry
    exact ⟨a, b, xs, ys, es, fs, e1, f1, rfl, e3, f3, .inl ⟨e2, SqL.of f2⟩⟩
  · rename_i es fs
    obtain ⟨a, xs, e1, e2, e3⟩ := rx
    obtain ⟨b, ys, f1, f2, f3⟩ := ry
    exact ⟨a, b, xs, ys, es, fs, e1, f1, rfl, e3, f3, .inl ⟨e2, f2⟩⟩
theorem gi_zip {e e2 : Expr} {elts : List Expr} {kk : Nat} {ms : DM (List D)} {p pos tpos : Pos} (hm : c.f.mg "zip" = none) (ha : GA c [e, e2] ms) (hg : GlC c "zip" := by rfl) (hs : ∀ v, c.V v → starEach [e, e2] v.env = (false, eval e v.env) :: starEach [e2] v.env := by intros; rfl) (hpl : ∀ v, c.V v → (backTo pos (starEach [e2] v.env)).any (·.1) = false := by intros; rfl) :
    GI c (.Tuple elts kk tpos) (.Call (.Name "zip" p) [e, e2] [] pos) (dZip ms) := by
  obtain ⟨t, h1, h2⟩ := ha
  refine ⟨RZ.iZipA c.f.K t, fun v hv => RZ.pi_zipA (gl_of hg v hv) hm (h1 v hv) (hs v hv) (hpl v hv), fun F H δ σ fp k Rr q => h2 F H δ σ fp k _ ?_⟩
  unfold dZip at q
  revert q
  cases ms δ with
  | exc n => exact id
  | no => exact id
  | ok p =>
    obtain ⟨xs, δ'⟩ := p
    rcases xs with _ | ⟨x, _ | ⟨y, _ | ⟨z, xs⟩⟩⟩
    · exact fun q => q.elim
    · exact fun q => q.elim
    · dsimp only
      cases hz : zipOk x y with
      | none => exact fun q => q.elim
      | some ds =>
        intro q F1 H1 fp1 vs k1 r s
        obtain ⟨v1, r', e1, e2, v2, r2, e3, e4, e5⟩ := r
        have e5' : r2 = [] := e5
        subst e1; subst e3; subst e5'
        obtain ⟨a, b, ws, us, es, fs, ea, eb, ed, re, rf, hq⟩ := zip_ok hz e2 e4
        subst ea; subst eb; subst ed
        refine ⟨a, b, ws, us, rfl, ?_⟩
        rcases hq with ⟨q1, q2⟩ | ⟨q1, q2⟩
        · refine .inl ⟨sqLm q1 k1.sm, sqLm q2 k1.sm, q F1 H1 fp1 _ k1 (fun F2 H2 s1 s2 i => ?_) s⟩
          have p1 : SqL c.f.K H2 a ws := sqLm (sqLm q1 s1) s2
          have p2 : SqL c.f.K H2 b us := sqLm (sqLm q2 s1) s2
          obtain ⟨g1, g2⟩ := zipL_get es fs i
          refine ⟨fun hi => ⟨ws, us, p1, p2, by rw [← re.length, ← rf.length]; exact g2 hi⟩, fun d hd => ?_⟩
          obtain ⟨dx, dy, hx, hy, ed⟩ := g1 d hd
          obtain ⟨x1, hx1, rx1⟩ := re.get hx
          obtain ⟨y1, hy1, ry1⟩ := rf.get hy
          refine ⟨⟨ws, us, x1, y1, p1, p2, hx1, hy1⟩, fun v H3 hyl => ?_⟩
          obtain ⟨T, u1, u2, eT, hT, eH, hu1, hu2⟩ := hyl
          have z1 := hu1 ws p1
          have z2 := hu2 us p2
          rw [hx1] at z1
          rw [hy1] at z2
          cases z1; cases z2
          subst eT; subst eH; subst ed
          exact new_pair s2 hT (rx1.mono s1) (ry1.mono s1)
        · refine .inr ⟨sqTm q1 k1.sm, sqTm q2 k1.sm, q F1 H1 fp1 _ k1 (fun F2 H2 s1 s2 i => ?_) s⟩
          have p1 : SqT c.f.K H2 a ws := sqTm (sqTm q1 s1) s2
          have p2 : SqT c.f.K H2 b us := sqTm (sqTm q2 s1) s2
          obtain ⟨g1, g2⟩ := zipL_get es fs i
          refine ⟨fun hi => ⟨ws, us, p1, p2, by rw [← re.length, ← rf.length]; exact g2 hi⟩, fun d hd => ?_⟩
          obtain ⟨dx, dy, hx, hy, ed⟩ := g1 d hd
          obtain ⟨x1, hx1, rx1⟩ := re.get hx
          obtain ⟨y1, hy1, ry1⟩ := rf.get hy
          refine ⟨⟨ws, us, x1, y1, p1, p2, hx1, hy1⟩, fun v H3 hyl => ?_⟩
          obtain ⟨T, u1, u2, eT, hT, eH, hu1, hu2⟩ := hyl
          have z1 := hu1 ws p1
          have z2 := hu2 us p2
          rw [hx1] at z1
          rw [hy1] at z2
          cases z1; cases z2
          subst eT; subst eH; subst ed
          exact new_pair s2 hT (rx1.mono s1) (ry1.mono s1)
    · exact fun q => q.elim
end
end G
/-! G10: comprehensions. -/
namespace G
open PySem L2

/-! ### a block's context -/
def relP (sc : Scope) : Str × NameKind → Str × NameKind := fun (n, k) => if (k == .free && sc.kind == .function && sc.names.lookup n == some .cell) then (n, .cell) else (n, k)
def relS (sc scope : Scope) : Scope := { scope with names := scope.names.map (relP sc) }
theorem relP_fst (sc : Scope) (p : Str × NameKind) : (relP sc p).1 = p.1 := by
  obtain ⟨n, k⟩ := p
  show (if _ then (n, NameKind.cell) else (n, k)).1 = n
  split <;> rfl
theorem relP_own (sc : Scope) (n : Str) (k : NameKind) (hk : k = .local ∨ k = .cell) : relP sc (n, k) = (n, k) := by
  rcases hk with hk | hk <;> (subst hk; rfl)
theorem rel_keeps (sc : Scope) {k : NameKind} (hk : k = .local ∨ k = .cell) : ∀ (names : List (Str × NameKind)) (x : Str), names.lookup x = some k → (names.map (relP sc)).lookup x = some k
  | [], x, h => by simp at h
  | p :: r, x, h => by
    have ih := rel_keeps sc hk r x
    rw [List.map_cons]
    by_cases e : (x == p.1) = true
    · have e1 : List.lookup x (p :: r) = some p.2 := by
        obtain ⟨n, j⟩ := p
        simp only [List.lookup]
        rw [show (x == n) = true from e]
      rw [e1] at h
      have hp : relP sc p = p := by
        obtain ⟨n, j⟩ := p
        exact relP_own sc n j (by
          have h' : j = k := Option.some.inj h
          rw [h']; exact hk)
      rw [hp]
      obtain ⟨n, j⟩ := p
      simp only [List.lookup]
      rw [show (x == n) = true from e]
      exact h
    · have e' : (x == p.1) = false := by simpa using e
      have e1 : List.lookup x (p :: r) = List.lookup x r := by
        obtain ⟨n, j⟩ := p
        simp only [List.lookup]
        rw [show (x == n) = false from e']
      rw [e1] at h
      have g := ih h
      have e2 : (x == (relP sc p).1) = false := by rw [relP_fst]; exact e'
      generalize relP sc p = p' at e2 ⊢
      obtain ⟨n, j⟩ := p'
      simp only [List.lookup]
      rw [show (x == n) = false from e2]
      exact g
theorem rel_loc {sc scope : Scope} (x : Str) (h : Loc scope x) : Loc (relS sc scope) x := by
  rcases h with h | h
  · exact .inl (rel_keeps _ (.inl rfl) _ _ h)
  · exact .inr (rel_keeps _ (.inr rfl) _ _ h)
def memN : List Nat → Nat → Bool
  | [], _ => false
  | v :: vs, i => Nat.beq i v || memN vs i
theorem memN_ok : ∀ (vs : List Nat) (i : Nat), memN vs i = true ↔ i ∈ vs
  | [], i => by simp [memN]
  | v :: vs, i => by
    rw [memN, Bool.or_eq_true, memN_ok vs i, List.mem_cons]
    exact ⟨fun h => h.imp (fun h => Nat.eq_of_beq_eq_true h) id, fun h => h.imp (fun h => by rw [h]; exact Nat.beq_refl _) id⟩
def blkV (v : Var) (s : Shared) (H : Hp) (scope : Scope) (C : Addr) (cl : List (Str × Addr)) (fp : List Addr) : Var := ⟨s, H, compEnvC scope cl C v.env, v.stack, v.stack, fp, fun x => scope.names.lookup x == some .cell, [], fun _ _ => False⟩
theorem blkV_eq {f : Fix} {v : Var} {s : Shared} {H : Hp} {scope : Scope} {C : Addr} {cl : List (Str × Addr)} {fp : List Addr} : cx f (blkV v s H scope C cl fp) = (cx f v).blk s H scope (compEnvC scope cl C (cx f v).env) fp := rfl
def blk (c : Ctx) (scope : Scope) (vs : List Nat) : Ctx where
  f := c.f
  V := fun v' => ∃ v s H C cl fp, c.V v ∧ v' = blkV v s H scope C cl fp
  sc := relS c.sc scope
  so := scope
  E := E0
  cv := c.cv
  k := c.k
  fx := fun i => !memN vs i
  hsc := fun v' ⟨v, s, H, C, cl, fp, hv, e⟩ => by
    subst e
    show relabel scope v.env = relS c.sc scope
    rw [← c.hsc v hv]
    rfl
  hso := fun x h => rel_loc x h
  hc := c.hc
  nd := c.nd
  hr := c.hr
  hfn := fun v' ⟨v, s, H, C, cl, fp, hv, e⟩ x h => by
    subst e
    rcases h with h | h
    · exact .inr (rel_keeps _ (.inl rfl) _ _ h)
    · refine .inl ?_
      show (scope.names.lookup x == some NameKind.cell) = true
      rw [h]
      rfl
  hown := fun v' ⟨v, s, H, C, cl, fp, hv, e⟩ => by
    subst e
    exact PassesOwn.never
  hpass := fun v' ⟨v, s, H, C, cl, fp, hv, e⟩ => by
    subst e
    rintro pins σ H' s' e s'' I ⟨a, B, H2, cls, d, _, _, _, _, _, _, _, z⟩
    exact z.elim

/-! ### the block's own names -/
def wipeD (δ : DEnv) : List Nat → DEnv
  | [] => δ
  | v :: vs => (wipeD δ vs).set v none
def backD (δ0 δ : DEnv) : List Nat → DEnv
  | [] => δ
  | v :: vs => match δ0[v]? with
    | some (some (.d x)) => (backD δ0 δ vs).set v (some (.d x))
    | _ => backD δ0 δ vs
section
variable {K : PySem.W.Frag} {w : World} {F H : Hp}
theorem erDrop1 : ∀ {δ : DEnv} {σ : St} {fp : List Addr} (i : Nat), ER K w F H δ σ fp → ∃ fp', fp'.Sublist fp ∧ ER K w F H (δ.set i none) (σ.set i none) fp'
  | [], σ, fp, i, h => by
    have e := h.1
    subst e
    exact ⟨fp, List.Sublist.refl _, h⟩
  | none :: δ, σ, fp, 0, h => by
    obtain ⟨s, r, h1, h2⟩ := h
    subst h1
    exact ⟨fp, List.Sublist.refl _, none, r, rfl, h2⟩
  | some o :: δ, σ, fp, 0, h => by
    obtain ⟨v, r, f1, f2, h1, h2, h3, h4⟩ := h
    subst h1; subst h4
    exact ⟨f2, List.sublist_append_right .., none, r, rfl, h3⟩
  | none :: δ, σ, fp, i + 1, h => by
    obtain ⟨s, r, h1, h2⟩ := h
    subst h1
    obtain ⟨fp', g1, g2⟩ := erDrop1 i h2
    exact ⟨fp', g1, s, r.set i none, rfl, g2⟩
  | some o :: δ, σ, fp, i + 1, h => by
    obtain ⟨v, r, f1, f2, h1, h2, h3, h4⟩ := h
    subst h1; subst h4
    obtain ⟨fp', g1, g2⟩ := erDrop1 i h3
    exact ⟨f1 ++ fp', (List.append_sublist_append_left f1).mpr g1, v, r.set i none, f1, fp', rfl, h2, g2, rfl⟩
theorem erWipe {δ : DEnv} {σ : St} {fp : List Addr} (h : ER K w F H δ σ fp) : ∀ vs : List Nat, ∃ fp', fp'.Sublist fp ∧ ER K w F H (wipeD δ vs) (wipe σ vs) fp'
  | [] => ⟨fp, List.Sublist.refl _, h⟩
  | v :: vs => by
    obtain ⟨f1, g1, g2⟩ := erWipe h vs
    obtain ⟨f2, g3, g4⟩ := erDrop1 v g2
    exact ⟨f2, g3.trans g1, g4⟩
theorem Ok.sub {δ : DEnv} {σ : St} {fp fp' : List Addr} {δ' : DEnv} {σ' : St} (k : Ok K w F H δ σ fp) (s : fp'.Sublist fp) (e : ER K w F H δ' σ' fp') : Ok K w F H δ' σ' fp' := ⟨e, k.nd.sublist s, fun b hb => k.fr b (s.subset hb), k.sm⟩
theorem erUnset : ∀ {δ : DEnv} {σ : St} {fp : List Addr} (i : Nat), (∀ o, δ[i]? ≠ some (some o)) → ER K w F H δ (σ.set i none) fp → ER K w F H δ σ fp
  | [], σ, fp, i, n, h => by
    obtain ⟨h1, h2⟩ := h
    have e : σ = [] := by
      cases σ with
      | nil => rfl
      | cons a b => cases i <;> simp at h1
    exact ⟨e, h2⟩
  | none :: δ, [], fp, i, n, h => by
    obtain ⟨s, r, h1, h2⟩ := h
    simp at h1
  | none :: δ, s0 :: σ, fp, 0, n, h => by
    obtain ⟨s, r, h1, h2⟩ := h
    simp at h1
    exact ⟨s0, σ, rfl, by rw [h1.2]; exact h2⟩
  | none :: δ, s0 :: σ, fp, i + 1, n, h => by
    obtain ⟨s, r, h1, h2⟩ := h
    simp at h1
    rw [← h1.2] at h2
    exact ⟨s0, σ, rfl, erUnset i (fun o e => n o (by simpa using e)) h2⟩
  | some o :: δ, σ, fp, 0, n, h => absurd rfl (n o)
  | some o :: δ, [], fp, i + 1, n, h => by
    obtain ⟨v, r, f1, f2, h1, h2, h3, h4⟩ := h
    simp at h1
  | some o :: δ, s0 :: σ, fp, i + 1, n, h => by
    obtain ⟨v, r, f1, f2, h1, h2, h3, h4⟩ := h
    simp at h1
    rw [← h1.2] at h3
    exact ⟨v, σ, f1, f2, by rw [h1.1], h2, erUnset i (fun o e => n o (by simpa using e)) h3, h4⟩
theorem erUnwipe {δ : DEnv} {σ : St} {fp : List Addr} : ∀ vs : List Nat, (∀ v ∈ vs, ∀ o, δ[v]? ≠ some (some o)) → ER K w F H δ (wipe σ vs) fp → ER K w F H δ σ fp
  | [], n, h => h
  | v :: vs, n, h => erUnwipe vs (fun u hu => n u (List.mem_cons_of_mem _ hu)) (erUnset v (n v (List.mem_cons_self ..)) h)
theorem erBack {δ0 δ : DEnv} {σ : St} {fp : List Addr} : ∀ vs : List Nat, (∀ v ∈ vs, ∀ x, δ0[v]? = some (some (.d x)) → ∃ u, σ[v]? = some (some u) ∧ Rep K w F x u) → ER K w F H δ σ fp → ∃ fp', fp'.Sublist fp ∧ ER K w F H (backD δ0 δ vs) σ fp'
  | [], n, h => ⟨fp, List.Sublist.refl _, h⟩
  | v :: vs, n, h => by
    obtain ⟨f1, g1, g2⟩ := erBack vs (fun u hu => n u (List.mem_cons_of_mem _ hu)) h
    unfold backD
    split
    · rename_i x hx
      obtain ⟨u, hu, ru⟩ := n v (List.mem_cons_self ..) x hx
      have hl : v < (backD δ0 δ vs).length := by
        rw [g2.length]
        exact (List.getElem?_eq_some_iff.mp hu).1
      obtain ⟨pre, mid, post, e, er⟩ := ER.put g2 hl (o := .d x) (v := u) (f := []) ⟨ru, rfl⟩
      rw [set_self hu] at er
      subst e
      exact ⟨pre ++ ([] ++ post), List.Sublist.trans (by simp) g1, er⟩
    · exact ⟨f1, g1, g2⟩
theorem wipeD_none {δ : DEnv} : ∀ (vs : List Nat) (v : Nat), v ∈ vs → ∀ o, (wipeD δ vs)[v]? ≠ some (some o)
  | u :: vs, v, hv, o => by
    unfold wipeD
    by_cases e : u = v
    · subst e
      by_cases hl : u < (wipeD δ vs).length
      · rw [List.getElem?_set_self hl]
        exact fun z => by cases z
      · rw [List.getElem?_eq_none (by rw [List.length_set]; omega)]
        exact fun z => by cases z
    · rw [List.getElem?_set_ne e]
      exact wipeD_none vs v ((List.mem_cons.mp hv).resolve_left fun z => e z.symm) o
theorem wipe_in {σ : St} : ∀ {vs : List Nat} {i : Nat}, i ∈ vs → i < σ.length → (wipe σ vs)[i]? = some none
  | u :: vs, i, h, hl => by
    unfold wipe
    by_cases e : u = i
    · subst e
      rw [List.getElem?_set_self (by rw [wipe_length]; exact hl)]
    · rw [List.getElem?_set_ne e]
      exact wipe_in ((List.mem_cons.mp h).resolve_left fun z => e z.symm) hl
theorem wipe_eq {σ σ2 : St} {vs : List Nat} (hl : σ2.length = (wipe σ vs).length) (h : ∀ i, (!memN vs i) = true → σ2[i]? = (wipe σ vs)[i]?) : wipe σ2 vs = wipe σ vs := by
  rw [wipe_length] at hl
  apply List.ext_getElem?
  intro i
  by_cases hm : i ∈ vs
  · by_cases hi : i < σ.length
    · rw [wipe_in hm hi, wipe_in hm (by rw [hl]; exact hi)]
    · rw [List.getElem?_eq_none (by rw [wipe_length]; omega), List.getElem?_eq_none (by rw [wipe_length]; omega)]
  · rw [wipe_out hm]
    exact h i (by
      cases q : memN vs i with
      | false => rfl
      | true => exact absurd ((memN_ok vs i).mp q) hm)
end

/-! ### tests -/
section
variable {c : Ctx}
def GTs (c : Ctx) (es : List Expr) (m : DM Bool) : Prop := ∃ t : TT, (∀ v, c.V v → PTs (cx c.f v) es t) ∧ ∀ F H δ σ fp, OkC c F H δ σ fp → ∀ Q, WT c F H σ fp Q (m δ) → t σ H Q
def dYes : DM Bool := fun δ => .ok (true, δ)
theorem gts_nil : GTs c [] dYes := ⟨tYes, fun _ _ => pts_nil, fun F H δ σ fp k Q q => q F H fp k Step.refl⟩
theorem gts_one {e : Expr} {m : DM Bool} (h : GT c e m) : GTs c [e] m := let ⟨t, h1, h2⟩ := h; ⟨t, fun v hv => pts_one (h1 v hv), h2⟩

/-! ### [e for tg in it if t] -/
def lcL (g : D → DEnv → R DEnv) (t : DM Bool) (e : DM D) (vs : List Nat) : List D → DEnv → R (List D × DEnv)
  | [], δ => .ok ([], δ)
  | d :: ds, δ => match g d δ with
    | .ok δ1 => (match t δ1 with
      | .ok (true, δ2) => (match e δ2 with
        | .ok (y, δ3) => (match lcL g t e vs ds (wipeD δ3 vs) with
          | .ok (ys, δ4) => .ok (y :: ys, δ4)
          | .exc n => .exc n
          | .no => .no)
        | .exc n => .no
        | .no => .no)
      | .ok (false, δ2) => lcL g t e vs ds (wipeD δ2 vs)
      | .exc n => .no
      | .no => .no)
    | _ => .no
def oComp (vs : List Nat) (mi : DM (List D)) (g : D → DEnv → R DEnv) (t : DM Bool) (e : DM D) : DM O := fun δ => match mi δ with
  | .ok (ds, δ1) => if Nat.blt ds.length 16777216 = true then (match lcL g t e vs ds (wipeD δ1 vs) with
    | .ok (ys, δ2) => .ok (.lst (ys.map .d), backD δ1 δ2 vs)
    | _ => .no) else .no
  | .exc n => .exc n
  | .no => .no
theorem sem_comp {scope : Scope} {vs : List Nat} {mi : DM (List D)} {g : D → DEnv → R DEnv} {mt : DM Bool} {me : DM D} {ti : TI} {tg : TG} {tt : TT} {te : TE}
    (i2 : ∀ F H δ σ fp, OkC c F H δ σ fp → ∀ Rr, WI c F H σ fp Rr (mi δ) → ti σ H Rr)
    (g2 : ∀ F H δ σ fp x vx, OkC c F H δ σ fp → RepC c F x vx → ∀ Q, WG (blk c scope vs) F H σ fp Q (g x δ) → tg vx σ H Q)
    (t2 : ∀ F H δ σ fp, OkC c F H δ σ fp → ∀ Q, WT (blk c scope vs) F H σ fp Q (mt δ) → tt σ H Q)
    (e2 : ∀ F H δ σ fp, OkC c F H δ σ fp → ∀ Q, WD (blk c scope vs) F H σ fp Q (me δ) → te σ H Q) :
    ∀ F H δ σ fp, OkC c F H δ σ fp → ∀ Q, WO c F H σ fp Q (oComp vs mi g mt me δ) → tLc ti tg tt te vs σ H Q := by
  intro F H δ σ fp k Q q
  refine i2 F H δ σ fp k _ ?_
  unfold oComp at q
  revert q
  cases mi δ with
  | exc n => exact id
  | no => exact id
  | ok p =>
    obtain ⟨ds, δ1⟩ := p
    dsimp only
    by_cases hz : Nat.blt ds.length 16777216 = true
    case neg =>
      rw [if_neg hz]
      exact fun q => q.elim
    rw [if_pos hz]
    have hz' : ds.length < sizeLine := by rw [sizeLine_eq]; exact Nat.le_of_ble_eq_true hz
    cases hall : lcL g mt me vs ds (wipeD δ1 vs) with
    | exc n => exact fun q => q.elim
    | no => exact fun q => q.elim
    | ok p =>
      obtain ⟨tot, δe⟩ := p
      intro q F1 H1 fp1 J k1 wk s1 L hL
      have hLfp : ∀ b ∈ fp1, b ≠ L := fun b hb z => k1.there b hb (z ▸ hL)
      -- the data of the outer slots
      have outer : ∀ v ∈ vs, ∀ x, δ1[v]? = some (some (.d x)) → ∃ u, σ[v]? = some (some u) ∧ RepC c F1 x u := fun v hv x hx => by
        obtain ⟨u, f1, _, _, h1, h2, _⟩ := k1.er.get hx
        exact ⟨u, h1, h2.1⟩
      refine ⟨fun i m H => m = ds.length - i ∧ i ≤ ds.length ∧ ∃ F δ' fp', OkC c F H δ' (wipe σ vs) fp' ∧ (∀ v ∈ vs, ∀ o, δ'[v]? ≠ some (some o)) ∧ L ∉ fp' ∧ F L = none ∧ Step F1 H1 fp1 F H (L :: fp') ∧
        ∃ acc ads ys, H L = some (.lst acc) ∧ RepLC c F ads acc ∧ acc.length ≤ i ∧ lcL g mt me vs (ds.drop i) δ' = .ok (ys, δe) ∧ tot = ads ++ ys, ⟨_, rfl, Nat.zero_le _, ?_⟩, ?_⟩
      · obtain ⟨fpw, sw, ew⟩ := erWipe k1.er vs
        obtain ⟨st, sm, fL⟩ := step_own (F := F1) (H := H1) (o := .lst []) hL k1.sm
        have okw := k1.sub sw ew
        refine ⟨F1, wipeD δ1 vs, fpw, ⟨okw.er.mono (Same.refl _) (fun b hb => upd_ne (hLfp b (sw.subset hb))), okw.nd, okw.fr, sm⟩, wipeD_none vs, fun z => hLfp L (sw.subset z) rfl, fL, ?_, [], [], tot, upd_same, rfl, Nat.le_refl _, hall, rfl⟩
        exact (Step.newO st (fp := fp1)).mono fun b hb => by
          rcases List.mem_cons.mp hb with hb | hb
          · simp [hb]
          · simp [sw.subset hb]
      · rintro i m H2 ⟨rfl, hi, F2, δ2, fp2, k2, nv, hLn, hLF, s2, acc, ads, ys, hA, rA, lA, hl, ht⟩
        obtain ⟨w1, w2⟩ := wk F2 H2 s2.ext k2.sm i
        by_cases hlt : i < ds.length
        · refine .inr ?_
          have e : ds.drop i = ds[i] :: ds.drop (i + 1) := List.drop_eq_getElem_cons hlt
          obtain ⟨go, yl⟩ := w2 ds[i] (List.getElem?_eq_getElem hlt)
          refine ⟨go, _, fun H' h' => ⟨_, by omega, rfl, hlt, h'⟩, fun x H3 y => ?_⟩
          obtain ⟨F3, sm3, r3, n3⟩ := yl x H3 y
          have k3 := k2.new n3 sm3
          have s3 : Step F2 H2 fp2 F3 H3 fp2 := n3.new0
          refine g2 F3 H3 δ2 _ fp2 ds[i] x k3 r3 _ ?_
          rw [e] at hl
          unfold lcL at hl
          revert hl
          cases g ds[i] δ2 with
          | exc n => exact fun q => nomatch q
          | no => exact fun q => nomatch q
          | ok δ4 =>
            dsimp only
            intro hl F4 H4 σ4 fp4 k4 f4 s4
            have hw : wipe σ4 vs = wipe σ vs := wipe_eq f4.1 f4.2
            refine ⟨hw, t2 F4 H4 δ4 σ4 fp4 k4 _ ?_⟩
            revert hl
            cases mt δ4 with
            | exc n => exact fun q => nomatch q
            | no => exact fun q => nomatch q
            | ok p =>
              obtain ⟨b, δ5⟩ := p
              have hLt : H2 L ≠ none := by rw [hA]; exact fun z => nomatch z
              cases b with
              | false =>
                dsimp only
                intro hl F5 H5 fp5 k5 s5
                rw [if_neg Bool.false_ne_true]
                have s25 : Step F2 H2 fp2 F5 H5 fp5 := s3.trans (s4.trans s5)
                obtain ⟨fpw, sw, ew⟩ := erWipe k5.er vs
                rw [hw] at ew
                refine ⟨F5, wipeD δ5 vs, fpw, k5.sub sw ew, wipeD_none vs, fun z => s25.notOwn hLt hLn (sw.subset z), s25.notFrz hLt hLn hLF, ?_, acc, ads, ys, (s25.same hLt hLn).trans hA, rA.mono s25.ext, by omega, hl, ht⟩
                exact (s2.trans (s25.beside (g := [L]))).mono fun b hb => by
                  rcases List.mem_cons.mp hb with hb | hb
                  · simp [hb]
                  · simp [sw.subset hb]
              | true =>
                dsimp only
                intro hl F5 H5 fp5 k5 s5
                rw [if_pos rfl]
                refine e2 F5 H5 δ5 σ4 fp5 k5 _ ?_
                revert hl
                cases me δ5 with
                | exc n => exact fun q => nomatch q
                | no => exact fun q => nomatch q
                | ok p =>
                  obtain ⟨yd, δ6⟩ := p
                  dsimp only
                  cases hr : lcL g mt me vs (ds.drop (i + 1)) (wipeD δ6 vs) with
                  | exc n => exact fun q => nomatch q
                  | no => exact fun q => nomatch q
                  | ok p =>
                    obtain ⟨ys', δ7⟩ := p
                    intro hl F6 H6 fp6 u k6 r6 s6
                    injection hl with hl
                    injection hl with hl1 hl2
                    subst hl1; subst hl2
                    have s26 : Step F2 H2 fp2 F6 H6 fp6 := s3.trans (s4.trans (s5.trans s6))
                    have hA6 : H6 L = some (.lst acc) := (s26.same hLt hLn).trans hA
                    have hL6 : L ∉ fp6 := s26.notOwn hLt hLn
                    have hF6 : F6 L = none := s26.notFrz hLt hLn hLF
                    refine ⟨acc, hA6, by omega, ?_⟩
                    obtain ⟨fpw, sw, ew⟩ := erWipe k6.er vs
                    rw [hw] at ew
                    have okw := k6.sub sw ew
                    obtain ⟨st, sm⟩ := step_upd (F := F6) (H := H6) (p := L) (o := .lst (acc ++ [u])) (f := L :: fp6) (f' := L :: fpw) (by simp) hF6 k6.sm (fun b hb => by
                      rcases List.mem_cons.mp hb with hb | hb
                      · simp [hb]
                      · simp [sw.subset hb])
                    refine ⟨F6, wipeD δ6 vs, fpw, ⟨okw.er.mono (Same.refl _) (fun b hb => upd_ne fun z => hL6 (z ▸ sw.subset hb)), okw.nd, okw.fr, sm⟩, wipeD_none vs, fun z => hL6 (sw.subset z), hF6, ?_, acc ++ [u], ads ++ [yd], ys', upd_same, (rA.mono s26.ext).append ⟨u, [], rfl, r6, rfl⟩, by rw [List.length_append, List.length_singleton]; omega, hr, by rw [ht]; simp⟩
                    exact (s2.trans (s26.beside (g := [L]))).trans st
        · have e : i = ds.length := by omega
          refine .inl ⟨w1 (by omega), ?_⟩
          rw [e, List.drop_length] at hl
          unfold lcL at hl
          injection hl with hl
          injection hl with hl1 hl2
          subst hl1; subst hl2
          rw [List.append_nil] at ht
          subst ht
          have eu := erUnwipe vs nv k2.er
          obtain ⟨fpb, sb, eb⟩ := erBack (δ0 := δ1) vs (fun v hv x hx => let ⟨u, h1, h2⟩ := outer v hv x hx; ⟨u, h1, h2.mono s2.ext⟩) eu
          have okb := k2.sub sb eb
          have nb : (L :: fpb).Nodup := List.nodup_cons.mpr ⟨fun z => hLn (sb.subset z), okb.nd⟩
          refine q F2 H2 fpb [L] (.ref L) okb ⟨L, acc, [], rfl, hA, ORL.data rA, rfl⟩ (by simpa using nb) (fun b hb => by
            have eb : b = L := by simpa using hb
            rw [eb]; exact hLF) ((s1.trans s2).mono fun b hb => ?_)
          rcases List.mem_append.mp hb with hb | hb
          · have eb : b = L := by simpa using hb
            simp [eb]
          · simp [sb.subset hb]
theorem go_comp (own : List (Str × Nat)) {elt tg iter : Expr} {ifs : List Expr} {scope : Scope} {pos : Pos} {mi : DM (List D)} {g : D → DEnv → R DEnv} {mt : DM Bool} {me : DM D} (hb : blkC c.f.N c.sc scope own = true) (hi : GI c tg iter mi) (hg : GG (blk c scope (own.map (·.2))) tg g) (ht : GTs (blk c scope (own.map (·.2))) ifs mt) (he : GD (blk c scope (own.map (·.2))) elt me)
    (hs : ∀ v, c.V v → ∀ x, foldedSetIterable iter v.env x = pure x := by intros; rfl) : GO c (.ListComp elt [⟨tg, iter, ifs, 0⟩] scope pos) (oComp (own.map (·.2)) mi g mt me) := by
  obtain ⟨ti, i1, i2⟩ := hi
  obtain ⟨t1, g1, g2⟩ := hg
  obtain ⟨tt, t1', t2⟩ := ht
  obtain ⟨te, e1, e2⟩ := he
  refine ⟨tLc ti t1 tt te (own.map (·.2)), fun v hv => ?_, sem_comp i2 g2 t2 e2⟩
  have hsc : (cx c.f v).env.scope = c.sc := c.hsc v hv
  exact pe_lc c.hc c.nd (i1 v hv) (blkOk_by (by rw [hsc]; exact hb)) (fun s H C cl fp => g1 _ ⟨v, s, H, C, cl, fp, hv, rfl⟩) (fun s H C cl fp => t1' _ ⟨v, s, H, C, cl, fp, hv, rfl⟩) (fun s H C cl fp => e1 _ ⟨v, s, H, C, cl, fp, hv, rfl⟩) (hs v hv)
theorem gs_setComp (i : Nat) (own : List (Str × Nat)) {y : Str} {py : Pos} {elt tg iter : Expr} {ifs : List Expr} {scope : Scope} {pos spos : Pos} {mi : DM (List D)} {g : D → DEnv → R DEnv} {mt : DM Bool} {me : DM D} (hb : blkC c.f.N c.sc scope own = true) (hi : GI c tg iter mi) (hg : GG (blk c scope (own.map (·.2))) tg g) (ht : GTs (blk c scope (own.map (·.2))) ifs mt) (he : GD (blk c scope (own.map (·.2))) elt me)
    (hy : c.f.N[i]? = some y := by rfl) (hyl : c.sc.names.lookup y = some .local := by rfl) (hf : c.fx i = false := by rfl) (hsw : ∀ env : PySem.Env, swapsWith (.ListComp elt [⟨tg, iter, ifs, 0⟩] scope pos) (some (.Name y py)) spos.line { env with scope := c.sc } = pure true := by intros; rfl)
    (hs : ∀ v, c.V v → ∀ x, foldedSetIterable iter v.env x = pure x := by intros; rfl) : GS c (.Assign [.Name y py] (.ListComp elt [⟨tg, iter, ifs, 0⟩] scope pos) spos) (sSet i (oComp (own.map (·.2)) mi g mt me)) := by
  obtain ⟨ti, i1, i2⟩ := hi
  obtain ⟨t1, g1, g2⟩ := hg
  obtain ⟨tt, t1', t2⟩ := ht
  obtain ⟨te, e1, e2⟩ := he
  refine ⟨tAsg (tLc ti t1 tt te (own.map (·.2))) (gName i), fun v hv => ?_, sem_set (sem_comp i2 g2 t2 e2) hf⟩
  have hsc : (cx c.f v).env.scope = c.sc := c.hsc v hv
  exact ps_setLc c.hc c.nd hy (by rw [hsc]; exact hyl) (by show swapsWith _ _ _ v.env = _; rw [env_sc v hv]; exact hsw v.env) (i1 v hv) (blkOk_by (by rw [hsc]; exact hb)) (fun s H C cl fp => g1 _ ⟨v, s, H, C, cl, fp, hv, rfl⟩) (fun s H C cl fp => t1' _ ⟨v, s, H, C, cl, fp, hv, rfl⟩) (fun s H C cl fp => e1 _ ⟨v, s, H, C, cl, fp, hv, rfl⟩) (hs v hv)
end
end G
/-! G11: module constants, powers, >= of tuples. -/
namespace G
open PySem PySem.Spec PyProof.Rows L2
section
variable {c : Ctx}
/-- a module's int -/
theorem gd_globI (i : Int) {x : Str} {pos : Pos} (hm : ∃ t, c.f.mg x = some (.int i t)) (hg : GlC c x := by rfl) (hd : (x == ("__debug__" : Str)) = false := by decide) : GD c (.Name x pos) (dC (.int i)) := by
  obtain ⟨t, hm⟩ := hm
  exact gd_glob (v := .int i) hg hm ⟨t, rfl⟩ (fun _ => rfl) hd
def okPow (i j : Int) : Bool := decide (0 ≤ j) && (decide (j ≤ 1000000) && Nat.blt i.natAbs 18446744073709551616)
theorem okPow_ok {i j : Int} (h : okPow i j = true) : CPow i j := by
  unfold okPow at h
  simp only [Bool.and_eq_true, decide_eq_true_eq] at h
  have := Nat.le_of_ble_eq_true h.2.2
  exact ⟨h.1, h.2.1, by omega⟩
def dPow : DM D → DM D → DM D := d2 (fI2 okPow fun i j => i ^ j.toNat)
theorem gd_pow {a b : Expr} {ma mb : DM D} {pos : Pos} (ha : GD c a ma) (hb : GD c b mb) : GD c (.BinOp a .Pow b pos) (dPow ma mb) := gd_op (fun _ _ => op_pow) (opd_I fun _ _ => okPow_ok) ha hb
/-! ### >= of tuples of ints -/
def rGeT (K : PySem.W.Frag) : R2 := fun x y H Q => ∃ (a b : Addr) (ns ms : List Int), x = .ref a ∧ y = .ref b ∧ SqT K H a (ns.map V.int) ∧ SqT K H b (ms.map V.int) ∧
  Q (.bl (Ob.lexAt (fun j => decide (ns.getD j 0 = ms.getD j 0)) (fun j => decide (ms.getD j 0 ≤ ns.getD j 0)) (decide (ns.length ≥ ms.length)) 0 (min ns.length ms.length))) H
theorem op_geT {X : Cx} (hu : X.A.units < cLine) : OpR X (compareOp .GtE) (rGeT X.K) := by
  intro pins s σ H x y v u Q I rx ry h
  obtain ⟨a, b, ns, ms, rfl, rfl, ha, hb, q⟩ := h
  cases rx
  cases ry
  obtain ⟨its, r1, p1, _⟩ := I.tuple ha
  obtain ⟨its2, r2, p2, _⟩ := I.tuple hb
  have i1 : IntsAre its ns := Vals.ints r1
  have i2 : IntsAre its2 ms := Vals.ints r2
  have e1 : its.toArray.size = ns.length := by rw [List.size_toArray]; exact i1.length
  have e2 : its2.toArray.size = ms.length := by rw [List.size_toArray]; exact i2.length
  have at1 : ∀ j (h1 : j < its.toArray.size), ∃ t, its.toArray[j] = .int (ns.getD j 0) t := fun j h1 => PyProof.Rows.IntsAre.int_at i1 _ _ (by simp at h1; simp [h1])
  have at2 : ∀ j (h1 : j < its2.toArray.size), ∃ t, its2.toArray[j] = .int (ms.getD j 0) t := fun j h1 => PyProof.Rows.IntsAre.int_at i2 _ _ (by simp at h1; simp [h1])
  have R := Ob.RcOp.tuples_ge (A := X.A) (s := s) (e := fun j => decide (ns.getD j 0 = ms.getD j 0)) (r := fun j => decide (ms.getD j 0 ≤ ns.getD j 0)) p1 p2 hu (fun j h1 h2 => by
    obtain ⟨t, et⟩ := at1 j h1
    obtain ⟨t', et'⟩ := at2 j h2
    rw [et, et']
    have z : (ns.getD j 0 == ms.getD j 0) = decide (ns.getD j 0 = ms.getD j 0) := by
      by_cases q : ns.getD j 0 = ms.getD j 0
      · rw [decide_eq_true q]; exact beq_iff_eq.mpr q
      · rw [decide_eq_false q]; exact beq_eq_false_iff_ne.mpr q
    rw [← z]
    exact SeqAt.EqAt.int_int _ _ _ _) (fun j h1 h2 _ => by
    obtain ⟨t, et⟩ := at1 j h1
    obtain ⟨t', et'⟩ := at2 j h2
    rw [et, et']
    exact Ob.RcOp.ge_int _ _ _ _)
  rw [e1, e2] at R
  have z : wpAny (model X.prog X.w) X.A (compareOp .GtE (.ref a) (.ref b)) (EP X pins σ Q) X.xe s := R X.prog X.w X.xe (EP X pins σ Q) ⟨.bl _, H, I, rfl, q⟩
  exact z
/-- by the first place that differs -/
def lexGeI : List Int → List Int → Bool
  | _, [] => true
  | [], _ :: _ => false
  | x :: xs, y :: ys => if x = y then lexGeI xs ys else decide (y ≤ x)
theorem lexAt_shift (e r : Nat → Bool) (z : Bool) : ∀ (k i : Nat), Ob.lexAt e r z (i + 1) k = Ob.lexAt (fun j => e (j + 1)) (fun j => r (j + 1)) z i k
  | 0, i => rfl
  | k + 1, i => by
    rw [Ob.lexAt_succ, Ob.lexAt_succ, lexAt_shift e r z k (i + 1)]
theorem lexGe_at : ∀ (ns ms : List Int), Ob.lexAt (fun j => decide (ns.getD j 0 = ms.getD j 0)) (fun j => decide (ms.getD j 0 ≤ ns.getD j 0)) (decide (ns.length ≥ ms.length)) 0 (min ns.length ms.length) = lexGeI ns ms
  | ns, [] => by simp [lexGeI, Ob.lexAt_zero]
  | [], m :: ms => by simp [lexGeI, Ob.lexAt_zero]
  | n :: ns, m :: ms => by
    have h := lexGe_at ns ms
    rw [List.length_cons, List.length_cons, Nat.succ_min_succ, Ob.lexAt_succ, lexAt_shift]
    simp only [List.getD_cons_zero, List.getD_cons_succ]
    by_cases q : n = m
    · rw [if_pos (decide_eq_true q), lexGeI, if_pos q, ← h]
      congr 1
      simp
    · rw [if_neg (by simp [q]), lexGeI, if_neg q]
def fGeA : D → D → R D
  | .int i, .int j => .ok (.bl (decide (j ≤ i)))
  | .tup xs, .tup ys => (match D.ints xs, D.ints ys with
    | some ns, some ms => .ok (.bl (lexGeI ns ms))
    | _, _ => .no)
  | _, _ => .no
theorem opd_geA : OpD c (fun x y H Q => rI0 (fun i j => .bl (decide (j ≤ i))) x y H Q ∨ rGeT c.f.K x y H Q) fGeA := OpD.here fun F H x y vx vy sm rx ry Q z e q => by
  unfold fGeA at e
  cases x <;> cases y <;> first | cases e | skip
  · rename_i i j
    exact .inl ⟨i, j, rx, ry, q _ rfl⟩
  · rename_i xs ys
    obtain ⟨a, us, e1, e2, e3⟩ := rx
    obtain ⟨b, ws, f1, f2, f3⟩ := ry
    dsimp only at e
    cases hx : D.ints xs with
    | none => rw [hx] at e; cases e
    | some ns =>
      cases hy : D.ints ys with
      | none => rw [hx, hy] at e; cases e
      | some ms =>
        rw [hx, hy] at e
        cases e
        have ex := rep_ints (c := c) hx e3
        have ey := rep_ints (c := c) hy f3
        subst ex; subst ey
        refine .inr ⟨a, b, ns, ms, e1, f1, Same.sqT sm e2, Same.sqT sm f2, ?_⟩
        rw [lexGe_at]
        exact q _ rfl
theorem gd_geA {a b : Expr} {ma mb : DM D} {pos : Pos} (ha : GD c a ma) (hb : GD c b mb) : GD c (.Compare a [.GtE] [b] pos) (d2 fGeA ma mb) := gd_cmp (fun v hv => op_ge.or (op_geT (hu0 c v hv))) opd_geA ha hb (nomark _)
theorem gt_geA {a b : Expr} {ma mb : DM D} {pos : Pos} (ha : GD c a ma) (hb : GD c b mb) : GT c (.Compare a [.GtE] [b] pos) (dBool (d2 fGeA ma mb)) := gt_cmp (fun v hv => op_ge.or (op_geT (hu0 c v hv))) opd_geA ha hb (nomark _)
/-- names that a def's text is walked by -/
structure Facts (K : PySem.W.Frag) (mg : Str → Option Value) (defs : List (Str × Stmt)) (free : List Str) (cons : List (Str × Int)) : Prop where
  def_ : ∀ (i : Nat) (p : Str × Stmt), defs[i]? = some p → ∃ f fd, FunD K p.1 p.1 (defArgs p.2) (defBody p.2) (defScope p.2) [] [] f fd ∧ mg p.1 = some (.ref f)
  free : ∀ (i : Nat) (x : Str), free[i]? = some x → mg x = none
  int : ∀ (i : Nat) (p : Str × Int), cons[i]? = some p → ∃ t, mg p.1 = some (.int p.2 t)
theorem def_of {P : Program} {w : World} {K : PySem.W.Frag} {mg : Str → Option Value} {base : Heap} {cv : Nat → Value} {x : Str} {st : Stmt} {f : Addr} {fd : FuncData} {N ps : List Str} {k : Nat} {io : Option Nat} {m : SM}
    (D : FunD K x x (defArgs st) (defBody st) (defScope st) [] [] f fd) (hm : mg x = some (.ref f)) (S : FnScope N ps (defScope st)) (b : BodyOk P w K mg base cv N (defScope st) k io (defBody st) m) (hb : Binds K fd ps []) (hio : ∀ i ∈ io, i < ps.length) : DefOk P w K mg base cv x st (k + 1) io ps (runDef N.length ps.length io m) :=
  ⟨f, fd, fn_def D S b hio, hm, D.kp, hb, D⟩
end
end G
/-! G12: sorted; min, max of two; calls with keywords. -/
namespace G
open PySem PySem.Spec PyProof.Rows L2
/-! ### a sort that evaluates -/
section
variable {α : Type} {le : α → α → Bool}
def mrg (le : α → α → Bool) : Nat → List α → List α → List α
  | 0, xs, ys => xs ++ ys
  | _ + 1, [], ys => ys
  | _ + 1, x :: xs, [] => x :: xs
  | n + 1, x :: xs, y :: ys => if le x y = true then x :: mrg le n xs (y :: ys) else y :: mrg le n (x :: xs) ys
def msort (le : α → α → Bool) : Nat → List α → List α
  | 0, xs => xs
  | _ + 1, [] => []
  | _ + 1, [x] => [x]
  | n + 1, x :: y :: r => mrg le (r.length + 2) (msort le n ((x :: y :: r).take ((r.length + 2) / 2))) (msort le n ((x :: y :: r).drop ((r.length + 2) / 2)))
theorem mrg_perm : ∀ (n : Nat) (xs ys : List α), (mrg le n xs ys).Perm (xs ++ ys)
  | 0, xs, ys => List.Perm.refl _
  | n + 1, [], ys => List.Perm.refl _
  | n + 1, x :: xs, [] => by rw [mrg, List.append_nil]
  | n + 1, x :: xs, y :: ys => by
    rw [mrg]
    split
    · exact (mrg_perm n xs (y :: ys)).cons x
    · exact ((mrg_perm n (x :: xs) ys).cons y).trans (List.perm_middle (l₁ := x :: xs)).symm
theorem mrg_sorted (tr : ∀ a b c, le a b = true → le b c = true → le a c = true) (to : ∀ a b, le a b = false → le b a = true) : ∀ (n : Nat) (xs ys : List α), xs.length + ys.length ≤ n → xs.Pairwise (fun a b => le a b = true) → ys.Pairwise (fun a b => le a b = true) → (mrg le n xs ys).Pairwise (fun a b => le a b = true)
  | 0, xs, ys, h, hx, hy => by
    have e1 : xs = [] := List.length_eq_zero_iff.mp (by omega)
    have e2 : ys = [] := List.length_eq_zero_iff.mp (by omega)
    subst e1; subst e2
    exact List.Pairwise.nil
  | n + 1, [], ys, h, hx, hy => hy
  | n + 1, x :: xs, [], h, hx, hy => hx
  | n + 1, x :: xs, y :: ys, h, hx, hy => by
    simp only [List.length_cons] at h
    obtain ⟨x1, x2⟩ := List.pairwise_cons.mp hx
    obtain ⟨y1, y2⟩ := List.pairwise_cons.mp hy
    rw [mrg]
    split
    · rename_i q
      refine List.pairwise_cons.mpr ⟨fun z hz => ?_, mrg_sorted tr to n xs (y :: ys) (by simp only [List.length_cons]; omega) x2 hy⟩
      rcases List.mem_append.mp ((mrg_perm n xs (y :: ys)).mem_iff.mp hz) with hz | hz
      · exact x1 z hz
      · rcases List.mem_cons.mp hz with hz | hz
        · rw [hz]; exact q
        · exact tr x y z q (y1 z hz)
    · rename_i q
      have q' : le y x = true := to x y (by simpa using q)
      refine List.pairwise_cons.mpr ⟨fun z hz => ?_, mrg_sorted tr to n (x :: xs) ys (by simp only [List.length_cons]; omega) hx y2⟩
      rcases List.mem_append.mp ((mrg_perm n (x :: xs) ys).mem_iff.mp hz) with hz | hz
      · rcases List.mem_cons.mp hz with hz | hz
        · rw [hz]; exact q'
        · exact tr y x z q' (x1 z hz)
      · exact y1 z hz
theorem msort_perm : ∀ (n : Nat) (xs : List α), (msort le n xs).Perm xs
  | 0, xs => List.Perm.refl _
  | n + 1, [] => List.Perm.refl _
  | n + 1, [x] => List.Perm.refl _
  | n + 1, x :: y :: r => by
    rw [msort]
    refine (mrg_perm _ _ _).trans (((msort_perm n _).append (msort_perm n _)).trans ?_)
    rw [List.take_append_drop]
theorem msort_sorted (tr : ∀ a b c, le a b = true → le b c = true → le a c = true) (to : ∀ a b, le a b = false → le b a = true) : ∀ (n : Nat) (xs : List α), xs.length ≤ n → (msort le n xs).Pairwise (fun a b => le a b = true)
  | 0, xs, h => by
    have e1 : xs = [] := List.length_eq_zero_iff.mp (by omega)
    subst e1
    exact List.Pairwise.nil
  | n + 1, [], h => List.Pairwise.nil
  | n + 1, [x], h => List.pairwise_singleton _ _
  | n + 1, x :: y :: r, h => by
    simp only [List.length_cons] at h
    rw [msort]
    refine mrg_sorted tr to _ _ _ ?_ (msort_sorted tr to n _ ?_) (msort_sorted tr to n _ ?_)
    · rw [(msort_perm n _).length_eq, (msort_perm n _).length_eq, List.length_take, List.length_drop]
      simp only [List.length_cons]
      omega
    · rw [List.length_take]
      simp only [List.length_cons]
      omega
    · rw [List.length_drop]
      simp only [List.length_cons]
      omega
/-- one order of the same items -/
theorem sorted_one (an : ∀ a b, le a b = true → le b a = true → a = b) : ∀ (l m : List α), l.Pairwise (fun a b => le a b = true) → m.Pairwise (fun a b => le a b = true) → l.Perm m → l = m
  | [], m, _, _, h => (List.nil_perm.mp h).symm
  | x :: l, [], _, _, h => by
    have := h.length_eq
    simp at this
  | x :: l, y :: m, hl, hm, h => by
    obtain ⟨x1, x2⟩ := List.pairwise_cons.mp hl
    obtain ⟨y1, y2⟩ := List.pairwise_cons.mp hm
    have e : x = y := by
      rcases List.mem_cons.mp (h.mem_iff.mp (List.mem_cons_self (a := x) (l := l))) with e | e
      · exact e
      · rcases List.mem_cons.mp (h.mem_iff.mpr (List.mem_cons_self (a := y) (l := m))) with e' | e'
        · exact e'.symm
        · exact an x y (x1 y e') (y1 x e)
    subst e
    rw [sorted_one an l m x2 y2 h.cons_inv]
end
theorem lexGe_tot : ∀ (xs ys : List Int), lexGeI xs ys = false → lexGeI ys xs = true
  | xs, [], h => by cases xs <;> simp [lexGeI] at h
  | [], y :: ys, h => rfl
  | x :: xs, y :: ys, h => by
    rw [lexGeI] at h ⊢
    by_cases e : x = y
    · subst e
      rw [if_pos rfl] at h ⊢
      exact lexGe_tot xs ys h
    · rw [if_neg e] at h
      rw [if_neg (Ne.symm e)]
      simp at h ⊢
      omega
theorem lexGe_anti : ∀ (xs ys : List Int), lexGeI xs ys = true → lexGeI ys xs = true → xs = ys
  | [], [], _, _ => rfl
  | [], y :: ys, h, _ => by simp [lexGeI] at h
  | x :: xs, [], _, h => by simp [lexGeI] at h
  | x :: xs, y :: ys, h1, h2 => by
    rw [lexGeI] at h1 h2
    by_cases e : x = y
    · subst e
      rw [if_pos rfl] at h1 h2
      rw [lexGe_anti xs ys h1 h2]
    · rw [if_neg e] at h1
      rw [if_neg (Ne.symm e)] at h2
      simp at h1 h2
      omega
theorem lexGe_tr : ∀ (xs ys zs : List Int), lexGeI xs ys = true → lexGeI ys zs = true → lexGeI xs zs = true
  | xs, ys, [], _, _ => by cases xs <;> rfl
  | xs, [], z :: zs, _, h => by simp [lexGeI] at h
  | [], y :: ys, z :: zs, h, _ => by simp [lexGeI] at h
  | x :: xs, y :: ys, z :: zs, h1, h2 => by
    rw [lexGeI] at h1 h2 ⊢
    by_cases e : x = y
    · subst e
      rw [if_pos rfl] at h1
      by_cases e' : x = z
      · subst e'
        rw [if_pos rfl] at h2 ⊢
        exact lexGe_tr xs ys zs h1 h2
      · rw [if_neg e'] at h2 ⊢
        exact h2
    · rw [if_neg e] at h1
      simp at h1
      by_cases e' : y = z
      · subst e'
        rw [if_neg e]
        simpa using h1
      · rw [if_neg e'] at h2
        simp at h2
        rw [if_neg (by omega)]
        simp
        omega
/-- the order of rows of ints, upwards -/
def leR (p q : List Int) : Bool := lexGeI q p
theorem lexGe_le : ∀ (xs ys : List Int), lexGeI xs ys = !(decide (xs < ys))
  | [], [] => by simp [lexGeI]
  | x :: xs, [] => by simp [lexGeI]
  | [], y :: ys => by simp [lexGeI]
  | x :: xs, y :: ys => by
    rw [lexGeI]
    by_cases e : x = y
    · subst e
      rw [if_pos rfl, lexGe_le xs ys]
      simp [List.cons_lt_cons_iff]
    · rw [if_neg e]
      by_cases h : x < y
      · have : ¬ y ≤ x := by omega
        simp [List.cons_lt_cons_iff, h, this]
      · have : y ≤ x := by omega
        simp [List.cons_lt_cons_iff, h, e, this]
theorem le_data (p q : V × List Int) : PySem.W.dataLe false (fun b : V × List Int => PyData.tuple (b.2.map .int)) p q = leR p.2 q.2 := by
  show (!PySem.W.dataLt (.tuple (q.2.map .int)) (.tuple (p.2.map .int))) = _
  rw [PySem.W.dataLt_tuple]
  show (!PySem.W.rowLt (q.2.map .int) (p.2.map .int)) = _
  rw [PySem.W.dataLt_ints]
  unfold leR
  rw [lexGe_le]
/-! ### sorted of a list of tuples of ints, none empty -/
def rSortR (K : PySem.W.Frag) : List V → Hp → VK → Prop := fun vs H Q => ∃ (a : Addr) (bs : List (V × List Int)), vs = [.ref a] ∧ SqL K H a (bs.map (·.1)) ∧ (∀ b ∈ bs, b.2 ≠ [] ∧ ∃ t, b.1 = .ref t ∧ SqT K H t (b.2.map V.int)) ∧
  ∀ (bs' : List (V × List Int)) (p : Addr), bs'.Perm bs → (bs'.map (·.2)).Pairwise (fun p q => leR p q = true) → H p = none → Q (.ref p) (upd H p (.lst (bs'.map (·.1))))
theorem dataAll_ints : ∀ (K : PySem.W.Frag) (H : Hp) (ns : List Int), DpAll K H (ns.map V.int) (ns.map PyData.int)
  | K, H, [] => .nil
  | K, H, n :: ns => .cons (.int n) (dataAll_ints K H ns)
theorem vals_each : ∀ {bs : List (V × List Int)} {its : List Value}, Vals (bs.map (·.1)) its → PySem.W.EachIs (fun (u : Value) (b : V × List Int) => RelV b.1 u) its bs
  | [], its, h => by
    cases h
    exact .nil
  | b :: bs, its, h => by
    cases h with
    | cons r rr => exact .cons r (vals_each rr)
theorem each_vals : ∀ {bs : List (V × List Int)} {its : List Value}, PySem.W.EachIs (fun (u : Value) (b : V × List Int) => RelV b.1 u) its bs → Vals (bs.map (·.1)) its
  | [], its, h => by
    cases h
    exact .nil
  | b :: bs, its, h => by
    cases h with
    | cons r rr => exact .cons r (each_vals rr)
theorem each_mem : ∀ {bs : List (V × List Int)} {its : List Value} {R R' : Value → V × List Int → Prop}, PySem.W.EachIs R its bs → (∀ u b, b ∈ bs → R u b → R' u b) → PySem.W.EachIs R' its bs
  | [], its, R, R', h, k => by
    cases h
    exact .nil
  | b :: bs, its, R, R', h, k => by
    cases h with
    | cons r rr => exact .cons (k _ _ (List.mem_cons_self ..) r) (each_mem rr fun u b hb => k u b (List.mem_cons_of_mem _ hb))
theorem cr_sortedR {X : Cx} (hu : X.A.units + 64 < cLine) : CallR X (.builtin "sorted") (rSortR X.K) := by
  intro pins s σ H vs us Q I r h
  obtain ⟨a, bs, rfl, hs, hb, q⟩ := h
  obtain ⟨its, rv, hl, hz⟩ := I.list hs
  rw [Vals.ref1 r]
  have e := vals_each rv
  have er : PySem.W.EachIs (fun v b => ∃ as, Reads s.heap v ((fun b : V × List Int => PyData.tuple (b.2.map .int)) b) as) its bs := each_mem e fun u b hbm ru => by
    obtain ⟨_, t, e1, e2⟩ := hb b hbm
    exact Dp.reads I _ b.1 u (by rw [e1]; exact .tup e2 (dataAll_ints _ _ _)) ru
  refine PySem.W.sorted_data (vs := its) hl.isList e er ?_ ?_ (by rw [← List.length_map (f := (·.1))]; exact hz) (fun b _ => ?_) fun out ho eo => ?_
  · exact PySem.W.AllAlike.of fun b b' => by
      show PySem.W.alike (.tuple _) (.tuple _) = true
      simp only [PySem.W.alike]
      exact PySem.W.alike_ints _ _
  · refine .inl fun d hd => ?_
    obtain ⟨b, hbm, rfl⟩ := List.mem_map.mp hd
    obtain ⟨hne, _⟩ := hb b hbm
    cases hb2 : b.2 with
    | nil => exact absurd hb2 hne
    | cons x r => exact ⟨.int x, r.map .int, rfl⟩
  · have : (PyData.tuple (b.2.map PyData.int)).depth = 1 := by
      rw [PyData.depth, PySem.W.depth_ints]
    show X.A.units + 2 + (PyData.tuple (b.2.map PyData.int)).depth < cLine
    omega
  · obtain ⟨ep, he'⟩ := PyProof.Rows.sortedAll_at s.heap its out.toArray
    have hp := List.mergeSort_perm bs (PySem.W.dataLe false (fun b : V × List Int => PyData.tuple (b.2.map .int)))
    have vo := each_vals eo
    have hlen : ((bs.mergeSort (PySem.W.dataLe false (fun b : V × List Int => PyData.tuple (b.2.map .int)))).map (·.1)).length ≤ sizeLine := by
      rw [List.length_map, hp.length_eq, ← List.length_map (f := (·.1))]
      exact hz
    have hpw : (bs.mergeSort (PySem.W.dataLe false (fun b : V × List Int => PyData.tuple (b.2.map .int)))).Pairwise (fun p q => leR p.2 q.2 = true) := by
      have z := PySem.W.sort_pairwise (PySem.W.sortLe_total (listOrd itemOrd) false fun b : V × List Int => PySem.W.keyToks (PyData.tuple (b.2.map .int))) bs
      exact z.imp fun {p q} h => by
        rw [← le_data]
        exact h
    exact ⟨.ref _, upd H (s.heap.objs.size + 1) (.lst ((bs.mergeSort _).map (·.1))), I.laid (t' := s.toks) (fun _ _ => PyProof.Rows.sortedAll_old) (Nat.le_succ _) ⟨hlen, out, ep, vo, he'⟩, rfl, q _ _ hp (List.pairwise_map.mpr hpw) (I.hok.fresh (Nat.le_succ _))⟩

section
variable {c : Ctx}
/-- data that are tuples of ints, none empty -/
def D.rows : List D → Option (List (List Int))
  | [] => some []
  | .tup (x :: xs) :: ds => (match D.ints (x :: xs), D.rows ds with
    | some r, some rs => some (r :: rs)
    | _, _ => none)
  | _ => none
def rowD (r : List Int) : D := .tup (r.map .int)
theorem rep_row {F : Hp} : ∀ {ns : List Int}, RepLC c F (ns.map D.int) (ns.map V.int)
  | [] => rfl
  | n :: ns => ⟨.int n, ns.map V.int, rfl, rfl, rep_row⟩
theorem ints_eq : ∀ {ds : List D} {is : List Int}, D.ints ds = some is → ds = is.map D.int
  | [], is, h => by
    cases h
    rfl
  | d :: ds, is, h => by
    cases d <;> first | cases h | skip
    rename_i i
    simp only [D.ints] at h
    cases e : D.ints ds with
    | none => rw [e] at h; cases h
    | some js =>
      rw [e] at h
      cases h
      rw [ints_eq e]
      rfl
theorem ints_map : ∀ ns : List Int, D.ints (ns.map D.int) = some ns
  | [] => rfl
  | n :: ns => by
    simp only [List.map_cons, D.ints]
    rw [ints_map ns]
    rfl
theorem rep_rows {F : Hp} : ∀ {ds : List D} {xs : List V} {rs : List (List Int)}, D.rows ds = some rs → RepLC c F ds xs → ∃ bs : List (V × List Int), bs.map (·.1) = xs ∧ bs.map (·.2) = rs ∧ ∀ b ∈ bs, b.2 ≠ [] ∧ RepC c F (rowD b.2) b.1
  | [], xs, rs, h, r => by
    cases h
    have e : xs = [] := r
    subst e
    exact ⟨[], rfl, rfl, fun b hb => nomatch hb⟩
  | d :: ds, xs, rs, h, r => by
    cases d <;> first | cases h | skip
    rename_i ys
    cases ys with
    | nil => cases h
    | cons y ys =>
      simp only [D.rows] at h
      cases e1 : D.ints (y :: ys) with
      | none => rw [e1] at h; cases h
      | some row =>
        cases e2 : D.rows ds with
        | none => rw [e1, e2] at h; cases h
        | some rs' =>
          rw [e1, e2] at h
          cases h
          obtain ⟨x, r', h1, h2, h3⟩ := r
          subst h1
          obtain ⟨bs, g1, g2, g3⟩ := rep_rows e2 h3
          have er := ints_eq e1
          refine ⟨(x, row) :: bs, by rw [List.map_cons, g1], by rw [List.map_cons, g2], fun b hb => ?_⟩
          rcases List.mem_cons.mp hb with hb | hb
          · subst hb
            refine ⟨fun z => ?_, ?_⟩
            · have z' : row = [] := z
              subst z'
              cases er
            · show RepC c F (.tup (row.map .int)) x
              rw [← er]
              exact h2
          · exact g3 b hb
theorem rows_rep {F : Hp} : ∀ {bs : List (V × List Int)}, (∀ b ∈ bs, RepC c F (rowD b.2) b.1) → RepLC c F ((bs.map (·.2)).map rowD) (bs.map (·.1))
  | [], _ => rfl
  | b :: bs, h => ⟨b.1, bs.map (·.1), rfl, h b (List.mem_cons_self ..), rows_rep fun b' hb => h b' (List.mem_cons_of_mem _ hb)⟩
def intLe (a b : Int) : Bool := decide (a ≤ b)
def fSorted (x : D) : R O := match x.litems with
  | some ds => (match D.ints ds with
    | some is => .ok (.lst ((msort intLe is.length is).map fun i => .d (.int i)))
    | none => (match D.rows ds with
      | some rs => .ok (.lst ((msort leR rs.length rs).map fun r => .d (rowD r)))
      | none => .no))
  | none => .no
theorem msort_ints {ns ns' : List Int} (h1 : ns'.Perm ns) (h2 : ns'.Pairwise (· ≤ ·)) : ns' = msort intLe ns.length ns := by
  refine sorted_one (le := intLe) (fun a b h h' => ?_) _ _ (h2.imp fun h => decide_eq_true h) (msort_sorted (fun a b c h h' => ?_) (fun a b h => ?_) _ _ (Nat.le_refl _)) (h1.trans (msort_perm _ _).symm)
  · have a1 := of_decide_eq_true h
    have a2 := of_decide_eq_true h'
    omega
  · have a1 := of_decide_eq_true h
    have a2 := of_decide_eq_true h'
    exact decide_eq_true (by omega)
  · have a1 := of_decide_eq_false h
    exact decide_eq_true (by omega)
theorem msort_rows {rs rs' : List (List Int)} (h1 : rs'.Perm rs) (h2 : rs'.Pairwise (fun p q => leR p q = true)) : rs' = msort leR rs.length rs :=
  sorted_one (le := leR) (fun a b h h' => lexGe_anti a b h' h) _ _ h2 (msort_sorted (fun a b c h h' => lexGe_tr c b a h' h) (fun a b h => lexGe_tot b a h) _ _ (Nat.le_refl _)) (h1.trans (msort_perm _ _).symm)
theorem uno_sorted : UnO c (r1 fun vs H Q => rSortedI c.f.K vs H Q ∨ rSortR c.f.K vs H Q) fSorted := by
  intro F H x vx sm rx Q q
  unfold fSorted at q
  cases e : x.litems with
  | none => rw [e] at q; exact q.elim
  | some ds =>
    rw [e] at q
    obtain ⟨a, xs, h1, h2, h3⟩ := rep_litems sm e rx
    dsimp only at q
    cases e1 : D.ints ds with
    | some is =>
      rw [e1] at q
      have ex := rep_ints e1 h3
      subst ex
      refine .inl ⟨a, is, by rw [h1], h2, fun ns' p hp hs hn => ?_⟩
      have em := msort_ints hp hs
      have z := new_lstO (c := c) (Q := Q) sm (rep_row (c := c) (F := F) (ns := ns')) hn (by
        rw [em, List.map_map]
        exact q)
      exact z
    | none =>
      rw [e1] at q
      dsimp only at q
      cases e2 : D.rows ds with
      | none => rw [e2] at q; exact q.elim
      | some rs =>
        rw [e2] at q
        obtain ⟨bs, g1, g2, g3⟩ := rep_rows e2 h3
        refine .inr ⟨a, bs, by rw [h1], by rw [g1]; exact h2, fun b hb => ⟨(g3 b hb).1, ?_⟩, fun bs' p hp hs hn => ?_⟩
        · obtain ⟨t, us, f1, f2, f3⟩ := (g3 b hb).2
          have eu : us = b.2.map V.int := by
            have := rep_ints (c := c) (F := F) (ds := b.2.map D.int) (xs := us) (is := b.2) (ints_map b.2) f3
            exact this
          subst eu
          exact ⟨t, f1, Same.sqT sm f2⟩
        · have em : bs'.map (·.2) = msort leR rs.length rs := msort_rows (by rw [← g2]; exact hp.map _) hs
          have z := new_lstO (c := c) (Q := Q) sm (rows_rep (c := c) (F := F) (bs := bs') fun b hb => (g3 b (hp.mem_iff.mp hb)).2) hn (by
            rw [em, List.map_map]
            exact q)
          exact z
theorem go_sorted {e : Expr} {m : DM D} {p pos : Pos} (hm : c.f.mg "sorted" = none) (h : GD c e m) (hg : GlC c "sorted" := by rfl) (he : ∀ v, c.V v → starEach [e] v.env = (false, eval e v.env) :: starEach [] v.env := by intros; rfl) : GO c (.Call (.Name "sorted" p) [e] [] pos) (o1 fSorted m) :=
  go_b1 (r := fun vs H Q => rSortedI c.f.K vs H Q ∨ rSortR c.f.K vs H Q) (fun v hv => (cr_sortedI (X := cx c.f v)).or (cr_sortedR (hu64 c v hv))) uno_sorted hm PyProof.Rows.boot_sorted h hg (he := he)

/-! ### min, max of two ints -/
def dMin2 (ms : DM (List D)) : DM D := fun δ => match ms δ with
  | .ok ([.int i, .int j], δ') => .ok (.int (if j < i then j else i), δ')
  | .ok _ => .no
  | .exc n => .exc n
  | .no => .no
def dMax2 (ms : DM (List D)) : DM D := fun δ => match ms δ with
  | .ok ([.int i, .int j], δ') => .ok (.int (if j > i then j else i), δ')
  | .ok _ => .no
  | .exc n => .exc n
  | .no => .no
theorem gd_min2 {a b : Expr} {ms : DM (List D)} {p pos : Pos} (hm : c.f.mg "min" = none) (ha : GA c [a, b] ms) (hg : GlC c "min" := by rfl) (hs : ∀ v, c.V v → starEach [a, b] v.env = (false, eval a v.env) :: starEach [b] v.env := by intros; rfl) (hpl : ∀ v, c.V v → (backTo pos (starEach [b] v.env)).any (·.1) = false := by intros; rfl) : GD c (.Call (.Name "min" p) [a, b] [] pos) (dMin2 ms) := by
  obtain ⟨t, h1, h2⟩ := ha
  refine ⟨tCB _ t, fun v hv => pe_callB (call_min2 c.hc) (gl_of hg v hv) hm PyProof.Rows.boot_min (h1 v hv) (by decide) (by decide) (hs v hv) (hpl v hv), fun F H δ σ fp k Q q => h2 F H δ σ fp k _ ?_⟩
  unfold dMin2 at q
  revert q
  cases ms δ with
  | exc n => exact id
  | no => exact id
  | ok p =>
    obtain ⟨xs, δ'⟩ := p
    split <;> first | (rename_i hh; cases hh; done) | exact fun q => q.elim | skip
    · rename_i i j δ2 he
      cases he
      intro q F1 H1 fp1 vs k1 r s
      obtain ⟨y, r', e1, e2, y2, r2, e3, e4, e5⟩ := r
      have e2' : y = .int i := e2
      have e4' : y2 = .int j := e4
      have e5' : r2 = [] := e5
      subst e1; subst e3; subst e2'; subst e4'; subst e5'
      exact ⟨i, j, rfl, q F1 H1 fp1 _ k1 rfl s⟩
theorem gd_max2 {a b : Expr} {ms : DM (List D)} {p pos : Pos} (hm : c.f.mg "max" = none) (ha : GA c [a, b] ms) (hg : GlC c "max" := by rfl) (hs : ∀ v, c.V v → starEach [a, b] v.env = (false, eval a v.env) :: starEach [b] v.env := by intros; rfl) (hpl : ∀ v, c.V v → (backTo pos (starEach [b] v.env)).any (·.1) = false := by intros; rfl) : GD c (.Call (.Name "max" p) [a, b] [] pos) (dMax2 ms) := by
  obtain ⟨t, h1, h2⟩ := ha
  refine ⟨tCB _ t, fun v hv => pe_callB (call_max2 c.hc) (gl_of hg v hv) hm PyProof.Rows.boot_max (h1 v hv) (by decide) (by decide) (hs v hv) (hpl v hv), fun F H δ σ fp k Q q => h2 F H δ σ fp k _ ?_⟩
  unfold dMax2 at q
  revert q
  cases ms δ with
  | exc n => exact id
  | no => exact id
  | ok p =>
    obtain ⟨xs, δ'⟩ := p
    split <;> first | (rename_i hh; cases hh; done) | exact fun q => q.elim | skip
    · rename_i i j δ2 he
      cases he
      intro q F1 H1 fp1 vs k1 r s
      obtain ⟨y, r', e1, e2, y2, r2, e3, e4, e5⟩ := r
      have e2' : y = .int i := e2
      have e4' : y2 = .int j := e4
      have e5' : r2 = [] := e5
      subst e1; subst e3; subst e2'; subst e4'; subst e5'
      exact ⟨i, j, rfl, q F1 H1 fp1 _ k1 rfl s⟩

/-! ### calls with keywords -/
def GK (c : Ctx) (kws : List Keyword) (m : DM (List D)) : Prop := ∃ t : TA, (∀ v, c.V v → PK (cx c.f v) kws t) ∧ ∀ F H δ σ fp, OkC c F H δ σ fp → ∀ Q, WA c F H σ fp Q (m δ) → t σ H Q
theorem gk_nil : GK c [] aNil := ⟨tNil, fun _ _ => pk_nil, fun F H δ σ fp k Q q => q F H fp [] k rfl Step.refl⟩
theorem gk_cons {nm : Option Str} {e : Expr} {kpos : Pos} {kws : List Keyword} {m : DM D} {ms : DM (List D)} (h : GD c e m) (hs : GK c kws ms) : GK c (⟨nm, e, kpos⟩ :: kws) (dCons m ms) := by
  obtain ⟨t, h1, h2⟩ := h
  obtain ⟨ts, g1, g2⟩ := hs
  refine ⟨tCons t ts, fun v hv => pk_cons (h1 v hv) (g1 v hv), fun F H δ σ fp k Q q => ?_⟩
  refine h2 F H δ σ fp k _ ?_
  unfold dCons at q
  revert q
  cases m δ with
  | exc n => exact id
  | no => exact id
  | ok p =>
    obtain ⟨x, δ1⟩ := p
    intro q F1 H1 fp1 v k1 r1 s1
    refine g2 F1 H1 δ1 σ fp1 k1 _ ?_
    revert q
    dsimp only
    cases ms δ1 with
    | exc n => exact fun q => WXc.step q s1
    | no => exact id
    | ok p =>
      obtain ⟨xs, δ2⟩ := p
      intro q F2 H2 fp2 vs k2 r2 s2
      exact q F2 H2 fp2 (v :: vs) k2 ⟨v, vs, rfl, r1.mono s2.ext, r2⟩ (s1.trans s2)
/-- the positional values, then the keywords' values by their places -/
def kg {α : Type} (π : List Nat) (us ws : List α) : List α := us ++ π.filterMap fun j => ws[j]?
theorem kg_vals (π : List Nat) {vs zs : List V} {us ws : List Value} (r : Vals vs us) (rz : Vals zs ws) : Vals (kg π vs zs) (kg π us ws) := by
  unfold kg
  refine r.append ?_
  induction π with
  | nil => exact .nil
  | cons j π ih =>
    cases e : zs[j]? with
    | none =>
      have e' : ws[j]? = none := by
        rw [List.getElem?_eq_none_iff] at e ⊢
        rw [← rz.length]
        exact e
      rw [List.filterMap_cons_none e, List.filterMap_cons_none e']
      exact ih
    | some z =>
      obtain ⟨w, hw, rw'⟩ := rz.get e
      rw [List.filterMap_cons_some e, List.filterMap_cons_some hw]
      exact .cons rw' ih
theorem kg_rep (π : List Nat) {F : Hp} {xs ys : List D} {vs zs : List V} (r : RepLC c F xs vs) (rz : RepLC c F ys zs) : RepLC c F (kg π xs ys) (kg π vs zs) := by
  unfold kg
  refine r.append ?_
  induction π with
  | nil => exact rfl
  | cons j π ih =>
    cases e : ys[j]? with
    | none =>
      have e' : zs[j]? = none := by
        rw [List.getElem?_eq_none_iff] at e ⊢
        rw [← rz.length]
        exact e
      rw [List.filterMap_cons_none e, List.filterMap_cons_none e']
      exact ih
    | some z =>
      obtain ⟨w, hw, rw'⟩ := rz.get e
      rw [List.filterMap_cons_some e, List.filterMap_cons_some hw]
      exact ⟨w, _, rfl, rw', ih⟩
theorem kbN {K : PySem.W.Frag} {x qual : Str} {params : Arguments} {body : List Stmt} {scope : Scope} {f : Addr} {fd : FuncData} {ps ks : List Str} (π : List Nat) (n : Nat) (F : FunD K x qual params body scope [] [] f fd)
    (h : ∀ (kV doc pm : Value) (an : Option Addr) (cdv ct : Value) (us ws : List Value), us.length = n → ws.length = ks.length → bindArgs (PySem.W.fnOf x qual params body scope .none kV doc pm an cdv ct) ⟨us, ks.zip ws⟩ = pure (ps.zip (kg π us ws))) : KBn K fd ps n ks (kg π) (kg π) := by
  obtain ⟨oc, od, dV, kV, doc, pm, an, cdv, ct, osl, rfl, lk, hcd, hD, hK⟩ := F.ex
  rcases hD with ⟨_, rfl⟩ | ⟨e, _⟩
  · exact ⟨fun s us ws X l1 l2 => .of_eq (h kV doc pm an cdv ct us ws l1 l2), fun r rz => kg_vals π r rz⟩
  · exact absurd rfl e
/-- f(k = v, ..) -/
theorem pe_callN0 {X : Cx} {CX : CXT} {k : Nat} {f : Addr} {fd : FuncData} {ps ks : List Str} {sp : Sp} {E : XK} {x : Str} {p pos : Pos} {kw : Keyword} {kws : List Keyword} {tk : TA} {g : List Value → List Value → List Value} {gV : List V → List V → List V} (F : FnOk X.prog X.w X.K X.mg X.base CX k f fd ps sp) (hr : Room k X.A) (hg : Gl X x) (hm : X.mg x = some (.ref f)) (hk : PySem.W.keepIn X.K (.ref f) = true) (hb : KBn X.K fd ps 0 ks g gV) (hx : Passes CX X E)
    (hkw : PK X (kw :: kws) tk) (hall : (backToKw pos (keywordEach (kw :: kws) X.env)).all (·.1.isSome) = true) (hks : (backToKw pos (keywordEach (kw :: kws) X.env)).filterMap (·.1) = ks)
    (hdb : (x == ("__debug__" : Str)) = false)
    (hpl : ((backTo pos (starEach [] X.env)).any (·.1) || (backToKw pos (keywordEach (kw :: kws) X.env)).any (·.1.isNone)) = false) :
    PE X (.Call (.Name x p) [] (kw :: kws) pos) (tCallN 0 ks.length sp gV E tNil tk) := by
  refine ⟨fun pins s σ H Q I h => ?_⟩
  refine wpAny_Call_Name_kw (ld_glob I hg hm ?_ hdb)
  refine PySem.W.callWith_KW0 (h₀ := X.base) I.ok.mod.kin hk hall (thn (hkw.run pos pins s σ H _ I h) fun ws s2 ⟨zs, H2, I2, rz, l1, l2, q2⟩ => ⟨I2.kIn, ?_⟩) hpl
  rw [hks]
  exact run_fnN F hr hb hx I2 .nil rz l1 l2 q2
def oCallK (n m : Nat) (π : List Nat) (f : DF) (ma mk : DM (List D)) : DM O := fun δ => match ma δ with
  | .ok (xs, δ1) => (match mk δ1 with
    | .ok (ys, δ2) => if (Nat.beq xs.length n && Nat.beq ys.length m) = true then (match f ((kg π xs ys).map .d) with
      | .ok (o, none) => .ok (o, δ2)
      | .ok (_, some _) => .no
      | .exc n => .exc n
      | .no => .no) else .no
    | .exc n => .exc n
    | .no => .no)
  | .exc n => .exc n
  | .no => .no
theorem sem_callK {n m : Nat} {π : List Nat} {f : DF} {ma mk : DM (List D)} {ta tk : TA} (a2 : ∀ F H δ σ fp, OkC c F H δ σ fp → ∀ Q, WA c F H σ fp Q (ma δ) → ta σ H Q) (k2 : ∀ F H δ σ fp, OkC c F H δ σ fp → ∀ Q, WA c F H σ fp Q (mk δ) → tk σ H Q) :
    ∀ F H δ σ fp, OkC c F H δ σ fp → ∀ Q, WO c F H σ fp Q (oCallK n m π f ma mk δ) → tCallN n m (SpOf c.f.K c.f.w c.cv none f) (kg π) c.E ta tk σ H Q := by
  intro F H δ σ fp k Q q
  refine a2 F H δ σ fp k _ ?_
  unfold oCallK at q
  revert q
  cases ma δ with
  | exc n => exact id
  | no => exact id
  | ok pr =>
    obtain ⟨xs, δ1⟩ := pr
    dsimp only
    intro q F1 H1 fp1 vs k1 r1 s1
    refine k2 F1 H1 δ1 σ fp1 k1 _ ?_
    revert q
    cases mk δ1 with
    | exc n => exact fun q => WXc.step q s1
    | no => exact fun q => q.elim
    | ok pr =>
      obtain ⟨ys, δ2⟩ := pr
      dsimp only
      by_cases hl : (Nat.beq xs.length n && Nat.beq ys.length m) = true
      · rw [if_pos hl]
        rw [Bool.and_eq_true] at hl
        have l1 := Nat.eq_of_beq_eq_true hl.1
        have l2 := Nat.eq_of_beq_eq_true hl.2
        intro q F2 H2 fp2 zs k2' r2 s2
        refine ⟨by rw [← r1.length]; exact l1, by rw [← r2.length]; exact l2, F2, (kg π xs ys).map .d, [], ORL.data (kg_rep π (r1.mono s2.ext) r2), List.nodup_nil, fun b hb => (nomatch hb), k2'.sm, ?_⟩
        have s12 := s1.trans s2
        revert q
        cases f ((kg π xs ys).map .d) with
        | exc n => exact fun q F' H' fp' st => q F' H' (fp' ++ fp2) (s12.trans st.newO)
        | no => exact fun q => q.elim
        | ok pr =>
          obtain ⟨o, out⟩ := pr
          cases out with
          | some o' => exact fun q => q.elim
          | none =>
            intro q F' H' v fp' g ou r nd hg sm st
            have e0 : fp' = [] := ou
            subst e0
            rw [List.append_nil] at nd st
            exact q F' H' fp2 g v (k2'.new st sm) r (k2'.newNd st nd) (fun b hb => hg b (by simp [hb])) (s12.trans st.newO)
      · rw [if_neg hl]
        exact fun q => q.elim
theorem go_callK0 (ks : List Str) (π : List Nat) (n : Nat) {x : Str} {st : Stmt} {j : Nat} {ps : List Str} {m : DF} {kw : Keyword} {kws : List Keyword} {ma mk : DM (List D)} {p pos : Pos} (d : DefOk c.f.prog c.f.w c.f.K c.f.mg c.f.base c.cv x st j none ps m)
    (hbd : ∀ (kV doc pm : Value) (an : Option Addr) (cdv ct : Value) (us ws : List Value), us.length = 0 → ws.length = ks.length → bindArgs (PySem.W.fnOf x x (defArgs st) (defBody st) (defScope st) .none kV doc pm an cdv ct) ⟨us, ks.zip ws⟩ = pure (ps.zip (kg π us ws)))
    (ha : GA c [] ma) (hk : GK c (kw :: kws) mk) (hj : j ≤ c.k := by first | exact Nat.le_of_ble_eq_true rfl | exact Nat.le_refl _) (hg : GlC c x := by rfl)
    (hall : ∀ v, c.V v → (backToKw pos (keywordEach (kw :: kws) v.env)).all (·.1.isSome) = true := by intros; rfl) (hks : ∀ v, c.V v → (backToKw pos (keywordEach (kw :: kws) v.env)).filterMap (·.1) = ks := by intros; rfl)
    (hdb : (x == ("__debug__" : Str)) = false := by decide) (hpl : ∀ v, c.V v → ((backTo pos (starEach [] v.env)).any (·.1) || (backToKw pos (keywordEach (kw :: kws) v.env)).any (·.1.isNone)) = false := by intros; rfl) : GO c (.Call (.Name x p) [] (kw :: kws) pos) (oCallK 0 ks.length π m aNil mk) := by
  obtain ⟨f, fd, F, hm, hkp, _, D⟩ := d.ex
  obtain ⟨tk, k1, k2⟩ := hk
  obtain ⟨ta, a1, a2⟩ := ga_nil (c := c)
  refine ⟨tCallN 0 ks.length (SpOf c.f.K c.f.w c.cv none m) (kg π) c.E tNil tk, fun v hv => pe_callN0 F (c.hr.mono hj) (gl_of hg v hv) hm hkp (kbN π 0 D hbd) (c.hpass v hv) (k1 v hv) (hall v hv) (hks v hv) hdb (hpl v hv), sem_callK (fun F H δ σ fp k Q q => q F H fp [] k rfl Step.refl) k2⟩
theorem go_callK (ks : List Str) (π : List Nat) (n : Nat) {x : Str} {st : Stmt} {j : Nat} {ps : List Str} {m : DF} {e : Expr} {es : List Expr} {kws : List Keyword} {ma mk : DM (List D)} {p pos : Pos} (d : DefOk c.f.prog c.f.w c.f.K c.f.mg c.f.base c.cv x st j none ps m)
    (hbd : ∀ (kV doc pm : Value) (an : Option Addr) (cdv ct : Value) (us ws : List Value), us.length = n → ws.length = ks.length → bindArgs (PySem.W.fnOf x x (defArgs st) (defBody st) (defScope st) .none kV doc pm an cdv ct) ⟨us, ks.zip ws⟩ = pure (ps.zip (kg π us ws)))
    (ha : GA c (e :: es) ma) (hk : GK c kws mk) (hj : j ≤ c.k := by first | exact Nat.le_of_ble_eq_true rfl | exact Nat.le_refl _) (hg : GlC c x := by rfl)
    (hall : ∀ v, c.V v → (backToKw pos (keywordEach kws v.env)).all (·.1.isSome) = true := by intros; rfl) (hks : ∀ v, c.V v → (backToKw pos (keywordEach kws v.env)).filterMap (·.1) = ks := by intros; rfl)
    (hdb : (x == ("__debug__" : Str)) = false := by decide) (he : ∀ v, c.V v → starEach (e :: es) v.env = (false, eval e v.env) :: starEach es v.env := by intros; rfl)
    (hpl : ∀ v, c.V v → ((backTo pos (starEach (e :: es) v.env)).any (·.1) || (backToKw pos (keywordEach kws v.env)).any (·.1.isNone)) = false := by intros; rfl) : GO c (.Call (.Name x p) (e :: es) kws pos) (oCallK n ks.length π m ma mk) := by
  obtain ⟨f, fd, F, hm, hkp, _, D⟩ := d.ex
  obtain ⟨tk, k1, k2⟩ := hk
  obtain ⟨ta, a1, a2⟩ := ha
  exact ⟨tCallN n ks.length (SpOf c.f.K c.f.w c.cv none m) (kg π) c.E ta tk, fun v hv => pe_callN F (c.hr.mono hj) (gl_of hg v hv) hm hkp (kbN π n D hbd) (c.hpass v hv) (a1 v hv) (k1 v hv) (hall v hv) (hks v hv) hdb (he v hv) (hpl v hv), sem_callK a2 k2⟩
end
end G
/-! G13: dicts whose keys are tuples: dict(list of pairs), in, not in. -/
namespace G
open PySem PySem.Spec PyProof.Rows L2
/-! ### keys as values -/
mutual
inductive Nk (K : PySem.W.Frag) (H : Hp) : V → NestedKey → Prop
  | non : Nk K H .non .none
  | bl (b : Bool) : Nk K H (.bl b) (.num (if b = true then 1 else 0))
  | int (i : Int) : Nk K H (.int i) (.num i)
  | str (x : Str) : Nk K H (.str x) (.text x)
  | tup {a : Addr} {xs : List V} {ks : List NestedKey} : SqT K H a xs → NkAll K H xs ks → Nk K H (.ref a) (.tup ks)
inductive NkAll (K : PySem.W.Frag) (H : Hp) : List V → List NestedKey → Prop
  | nil : NkAll K H [] []
  | cons {v : V} {vs : List V} {k : NestedKey} {ks : List NestedKey} : Nk K H v k → NkAll K H vs ks → NkAll K H (v :: vs) (k :: ks)
end
section
variable {X : Cx} {pins : List (Addr × Obj)} {σ : L2.St} {H : Hp} {s : Shared}
mutual
theorem Nk.is (I : Inv X pins σ H s) : ∀ (k : NestedKey) (v : V) (u : Value), Nk X.K H v k → RelV v u → NestedIs s.heap k u
  | .none, v, u, h, r => by
    cases h
    obtain rfl : u = Value.none := r
    exact .none
  | .num i, v, u, h, r => by
    cases h with
    | bl b =>
      obtain rfl : u = Value.bool b := r
      exact .bool rfl
    | int _ =>
      obtain ⟨t, rfl⟩ := r
      exact .int i t
  | .text x, v, u, h, r => by
    cases h
    obtain ⟨t, rfl⟩ := r
    exact .text x t
  | .tup ks, v, u, h, r => by
    cases h with
    | tup h1 h2 =>
      rename_i a xs
      obtain rfl : u = Value.ref a := r
      obtain ⟨its, rv, p, _⟩ := I.tuple h1
      obtain ⟨o, ho, hc, n, hd⟩ := id p
      exact .tup ho hc hd (NkAll.is I ks xs its h2 rv)
theorem NkAll.is (I : Inv X pins σ H s) : ∀ (ks : List NestedKey) (vs : List V) (us : List Value), NkAll X.K H vs ks → Vals vs us → NestedAll s.heap ks us
  | [], vs, us, h, r => by
    cases h
    cases r
    exact .nil
  | k :: ks, vs, us, h, r => by
    cases h with
    | cons h1 h2 =>
      cases r with
      | cons r1 r2 => exact .cons (Nk.is I k _ _ h1 r1) (NkAll.is I ks _ _ h2 r2)
end
end
section
variable {K : PySem.W.Frag} {w : World} {F H : Hp}
mutual
theorem rep_nk (sm : Same F H) : ∀ (d : D) (v : V) (k : NestedKey), d.key = some k → Rep K w F d v → Nk K H v k
  | .non, v, k, e, r => by
    have r' : v = .non := r
    subst r'
    simp only [D.key] at e
    cases e
    exact .non
  | .bl b, v, k, e, r => by
    have r' : v = .bl b := r
    subst r'
    simp only [D.key] at e
    cases e
    exact .bl b
  | .int i, v, k, e, r => by
    have r' : v = .int i := r
    subst r'
    simp only [D.key] at e
    cases e
    exact .int i
  | .str x, v, k, e, r => by
    have r' : v = .str x := r
    subst r'
    simp only [D.key] at e
    cases e
    exact .str x
  | .tup ds, v, k, e, r => by
    obtain ⟨a, xs, h1, h2, h3⟩ := r
    subst h1
    rw [D.key] at e
    cases q : D.keyL ds with
    | none => rw [q] at e; cases e
    | some ks =>
      rw [q] at e
      cases e
      exact .tup (Same.sqT sm h2) (rep_nkL sm ds xs ks q h3)
  | .lst ds, v, k, e, r => by simp only [D.key] at e; cases e
  | .dct ds vs, v, k, e, r => by simp only [D.key] at e; cases e
  | .kst ds, v, k, e, r => by simp only [D.key] at e; cases e
theorem rep_nkL (sm : Same F H) : ∀ (ds : List D) (xs : List V) (ks : List NestedKey), D.keyL ds = some ks → RepL K w F ds xs → NkAll K H xs ks
  | [], xs, ks, e, r => by
    have r' : xs = [] := r
    subst r'
    rw [D.keyL] at e
    cases e
    exact .nil
  | d :: ds, xs, ks, e, r => by
    obtain ⟨x, r', h1, h2, h3⟩ := r
    subst h1
    rw [D.keyL] at e
    cases q : D.key d with
    | none => rw [q] at e; cases e
    | some k =>
      rw [q] at e
      cases q2 : D.keyL ds with
      | none => rw [q2] at e; cases e
      | some ks' =>
        rw [q2] at e
        cases e
        exact .cons (rep_nk sm d x k q h2) (rep_nkL sm ds r' ks' q2 h3)
end
end
/-! ### what dict() makes of pairs -/
section
variable {α β α' β' : Type}
def stG (xs : List (NestedKey × α × β)) (k : NestedKey) (a : α) (b : β) : List (NestedKey × α × β) :=
  if (xs.any fun x => NestedKey.beq x.1 k) = true then xs.map (fun x => if NestedKey.beq x.1 k = true then (x.1, x.2.1, b) else x) else xs ++ [(k, a, b)]
def stAll (xs ps : List (NestedKey × α × β)) : List (NestedKey × α × β) := ps.foldl (fun acc p => stG acc p.1 p.2.1 p.2.2) xs
inductive Al (R : α → α' → Prop) (S : β → β' → Prop) : List (NestedKey × α × β) → List (NestedKey × α' × β') → Prop
  | nil : Al R S [] []
  | cons {k a b a' b' xs ys} : R a a' → S b b' → Al R S xs ys → Al R S ((k, a, b) :: xs) ((k, a', b') :: ys)
variable {R : α → α' → Prop} {S : β → β' → Prop}
theorem Al.append {xs zs : List (NestedKey × α × β)} {ys us : List (NestedKey × α' × β')} (h : Al R S xs ys) (g : Al R S zs us) : Al R S (xs ++ zs) (ys ++ us) := by
  induction h with
  | nil => exact g
  | cons r s t ih => exact .cons r s ih
theorem Al.any {xs : List (NestedKey × α × β)} {ys : List (NestedKey × α' × β')} (h : Al R S xs ys) (k : NestedKey) : (xs.any fun x => NestedKey.beq x.1 k) = ys.any fun x => NestedKey.beq x.1 k := by
  induction h with
  | nil => rfl
  | cons r s t ih => rw [List.any_cons, List.any_cons, ih]
theorem Al.mapv {xs : List (NestedKey × α × β)} {ys : List (NestedKey × α' × β')} (h : Al R S xs ys) (k : NestedKey) {b : β} {b' : β'} (s : S b b') : Al R S (xs.map fun x => if NestedKey.beq x.1 k = true then (x.1, x.2.1, b) else x) (ys.map fun x => if NestedKey.beq x.1 k = true then (x.1, x.2.1, b') else x) := by
  induction h with
  | nil => exact .nil
  | cons r' s' t ih =>
    rw [List.map_cons, List.map_cons]
    dsimp only
    split
    · exact .cons r' s ih
    · exact .cons r' s' ih
theorem Al.st {xs : List (NestedKey × α × β)} {ys : List (NestedKey × α' × β')} (h : Al R S xs ys) (k : NestedKey) {a : α} {b : β} {a' : α'} {b' : β'} (r : R a a') (s : S b b') : Al R S (stG xs k a b) (stG ys k a' b') := by
  unfold stG
  rw [h.any k]
  split
  · exact h.mapv k s
  · exact h.append (.cons r s .nil)
theorem Al.stAll {ps : List (NestedKey × α × β)} {qs : List (NestedKey × α' × β')} (g : Al R S ps qs) : ∀ {xs : List (NestedKey × α × β)} {ys : List (NestedKey × α' × β')}, Al R S xs ys → Al R S (G.stAll xs ps) (G.stAll ys qs) := by
  induction g with
  | nil => exact fun h => h
  | cons r s t ih => exact fun h => ih (h.st _ r s)
end
theorem atKey_any (xs : List (NestedKey × Addr × Value)) (k : NestedKey) : (atKey xs k).isSome = xs.any fun x => NestedKey.beq x.1 k := by
  unfold atKey
  rw [Option.isSome_map]
  apply Bool.eq_iff_iff.mpr
  rw [List.find?_isSome, List.any_eq_true]
  constructor
  · rintro ⟨x, h1, h2⟩
    exact ⟨x, h1, by rw [← NestedKey.decide_eq]; simpa using h2⟩
  · rintro ⟨x, h1, h2⟩
    exact ⟨x, h1, by rw [← NestedKey.decide_eq] at h2; simpa using h2⟩
theorem storedH_eq (xs : List (NestedKey × Addr × Value)) (k : NestedKey) (a : Addr) (v : Value) : storedH xs k a v = stG xs k a v := by
  unfold storedH stG
  rw [atKey_any]
  have e : putAt k v = fun x : NestedKey × Addr × Value => if NestedKey.beq x.1 k = true then (x.1, x.2.1, v) else x := by
    funext x
    unfold putAt
    by_cases h : x.1 = k
    · rw [if_pos h, if_pos (by rw [← NestedKey.decide_eq]; exact decide_eq_true h)]
    · rw [if_neg h, if_neg (by rw [← NestedKey.decide_eq]; simpa using h)]
  rw [e]
theorem storedAllH_eq : ∀ (ps xs : List (NestedKey × Addr × Value)), storedAllH xs ps = stAll xs ps
  | [], xs => rfl
  | p :: ps, xs => by
    show storedAllH (storedH xs p.1 p.2.1 p.2.2) ps = stAll (stG xs p.1 p.2.1 p.2.2) ps
    rw [storedH_eq, storedAllH_eq ps]

/-! ### dict(pairs) -/
def tupK : NestedKey → Bool
  | .tup _ => true
  | _ => false
def okK (k : NestedKey) : Bool := tupK k && Nat.ble k.depth 8
theorem okK_ref {K : PySem.W.Frag} {H : Hp} {v : V} {k : NestedKey} (h : Nk K H v k) (e : okK k = true) : (∃ a, v = .ref a) ∧ k.depth ≤ 8 := by
  unfold okK at e
  rw [Bool.and_eq_true] at e
  refine ⟨?_, Nat.le_of_ble_eq_true e.2⟩
  cases h with
  | tup h1 h2 => exact ⟨_, rfl⟩
  | non => cases e.1
  | bl b => cases e.1
  | int i => cases e.1
  | str x => cases e.1
def rDict (K : PySem.W.Frag) (w : World) : List V → Hp → VK → Prop := fun vs H Q => ∃ (a : Addr) (ts : List (NestedKey × V × V)) (ps : List V), vs = [.ref a] ∧ SqL K H a ps ∧ ps.length = ts.length ∧ (∀ (i : Nat) (t : NestedKey × V × V), ts[i]? = some t → ∃ p, ps[i]? = some (.ref p) ∧ SqT K H p [t.2.1, t.2.2]) ∧ (∀ t ∈ ts, Nk K H t.2.1 t.1 ∧ okK t.1 = true) ∧
  ∀ (p : Addr) (o : Obj) (es : Array DictEntry) (ep : Nat), H p = none → (p == sysModules) = false → o.ExactDict → o.data = .dict es ep → Ent3 w es.toList ((stAll [] ts).map (·.1)) ((stAll [] ts).map (·.2.1)) ((stAll [] ts).map (·.2.2)) → ((stAll [] ts).map (·.1)).Nodup → Q (.ref p) (upd H p (pinO p o))
theorem al_ent {prog : Program} {w : World} : ∀ {ts : List (NestedKey × V × V)} {xs : List (NestedKey × Addr × Value)}, Al (fun (v : V) (a : Addr) => v = .ref a) (fun (v : V) (u : Value) => RelV v u) ts xs → Ent3 w (xs.map (entryOfKey (nestedKind prog w))) (ts.map (·.1)) (ts.map (·.2.1)) (ts.map (·.2.2))
  | _, _, .nil => .nil
  | _, _, .cons r s t => .cons rfl (by rw [r]; exact rfl) s (al_ent t)
theorem al_keys {ts : List (NestedKey × V × V)} {xs : List (NestedKey × Addr × Value)} {R : V → Addr → Prop} {S : V → Value → Prop} (h : Al R S ts xs) : ts.map (·.1) = xs.map (·.1) := by
  induction h with
  | nil => rfl
  | cons r s t ih => rw [List.map_cons, List.map_cons, ih]
theorem al_of_vals {K : PySem.W.Frag} {H : Hp} : ∀ {ts : List (NestedKey × V × V)}, (∀ t ∈ ts, Nk K H t.2.1 t.1 ∧ okK t.1 = true) → (∀ t ∈ ts, ∃ u, RelV t.2.2 u) → ∃ xs : List (NestedKey × Addr × Value), Al (fun (v : V) (a : Addr) => v = .ref a) (fun (v : V) (u : Value) => RelV v u) ts xs
  | [], _, _ => ⟨[], .nil⟩
  | (k, v, y) :: ts, h, g => by
    obtain ⟨h1, h2⟩ := h _ (List.mem_cons_self ..)
    obtain ⟨⟨a, e⟩, _⟩ := okK_ref h1 h2
    obtain ⟨u, hu⟩ := g _ (List.mem_cons_self ..)
    obtain ⟨xs, hx⟩ := al_of_vals (fun t ht => h t (List.mem_cons_of_mem _ ht)) (fun t ht => g t (List.mem_cons_of_mem _ ht))
    exact ⟨(k, a, u) :: xs, .cons e hu hx⟩
/-- the pairs' values in the heap -/
theorem al_of_pairs {X : Cx} {pins : List (Addr × Obj)} {σ : L2.St} {H : Hp} {s : Shared} (I : Inv X pins σ H s) : ∀ {ts : List (NestedKey × V × V)} {ps : List V} {its : List Value}, Vals ps its → ps.length = ts.length → (∀ (i : Nat) (t : NestedKey × V × V), ts[i]? = some t → ∃ p, ps[i]? = some (.ref p) ∧ SqT X.K H p [t.2.1, t.2.2]) → (∀ t ∈ ts, Nk X.K H t.2.1 t.1 ∧ okK t.1 = true) →
    ∃ xs : List (NestedKey × Addr × Value), Al (fun (v : V) (a : Addr) => v = .ref a) (fun (v : V) (u : Value) => RelV v u) ts xs ∧ (∀ (i : Nat) (x : NestedKey × Addr × Value), xs[i]? = some x → ∃ p, its[i]? = some (.ref p) ∧ PairAt s.heap p (.ref x.2.1) x.2.2) ∧ (∀ x ∈ xs, (nestedKind X.prog X.w).is s.heap x.1 x.2.1) ∧ xs.length = its.length
  | [], ps, its, rv, hl, hp, hk => by
    have e : ps = [] := List.length_eq_zero_iff.mp hl
    subst e
    cases rv
    exact ⟨[], .nil, fun i x h => (by simp at h), fun x hx => absurd hx (List.not_mem_nil), rfl⟩
  | (k, v, y) :: ts, ps, its, rv, hl, hp, hk => by
    obtain ⟨p, e1, e2⟩ := hp 0 (k, v, y) rfl
    cases rv with
    | nil => simp at e1
    | cons r rr =>
      rename_i p0 u0 ps' its'
      have ep : p0 = .ref p := by simpa using e1
      subst ep
      obtain rfl : u0 = Value.ref p := r
      obtain ⟨n1, n2⟩ := hk _ (List.mem_cons_self ..)
      obtain ⟨⟨a, ea⟩, hd⟩ := okK_ref n1 n2
      have ea' : v = .ref a := ea
      subst ea'
      obtain ⟨two, r2, pt, _⟩ := I.tuple e2
      obtain ⟨w1, w2, ew, rw1, rw2⟩ : ∃ w1 w2, two = [w1, w2] ∧ RelV (.ref a) w1 ∧ RelV y w2 := by
        cases r2 with
        | cons q1 q2 =>
          cases q2 with
          | cons q3 q4 =>
            cases q4
            exact ⟨_, _, rfl, q1, q3⟩
      obtain rfl : w1 = Value.ref a := rw1
      subst ew
      obtain ⟨xs, g1, g2, g3, g4⟩ := al_of_pairs I rr (by simpa using hl) (fun i t ht => by simpa using hp (i + 1) t (by simpa using ht)) (fun t ht => hk t (List.mem_cons_of_mem _ ht))
      refine ⟨(k, a, w2) :: xs, .cons rfl rw2 g1, fun i x hx => ?_, fun x hx => ?_, by rw [List.length_cons, List.length_cons, g4]⟩
      · cases i with
        | zero =>
          simp at hx
          subst hx
          exact ⟨p, rfl, .inl pt⟩
        | succ i => simpa using g2 i x (by simpa using hx)
      · rcases List.mem_cons.mp hx with hx | hx
        · subst hx
          exact ⟨Nk.is I _ _ _ n1 rfl, hd⟩
        · exact g3 x hx
theorem plainSeq {h : Heap} {a : Addr} {items : Array Value} (p : PlainL h a items) : PlainSeq "list" h a items := by
  obtain ⟨o, n, h1, h2, h3, h4⟩ := p
  exact ⟨o, n, h1, h2, h3, h4⟩
theorem cr_dict {X : Cx} (hc : X.calm = true) (hu : X.A.units + 64 < cLine) : CallR X (.type "dict") (rDict X.K X.w) := by
  intro pins s σ H vs us Q I r h
  obtain ⟨a, ts, ps, rfl, hs, hl, hp, hk, q⟩ := h
  obtain ⟨its, rv, pl, hz⟩ := I.list hs
  rw [Vals.ref1 r]
  obtain ⟨xs, al, at_, is_, len⟩ := al_of_pairs I rv hl hp hk
  have hn : xs.length ≤ sizeLine := by rw [len, ← rv.length]; exact hz
  let Ts : Nat → Addr := fun i => match its[i]? with | some (.ref p) => p | _ => 0
  let kv : List (Value × Value) := xs.map fun x => (Value.ref x.2.1, x.2.2)
  have hkl : kv.length = xs.length := List.length_map ..
  have items : PairItems s.heap its.toArray Ts kv := by
    refine ⟨by rw [List.size_toArray, hkl, len], fun j key v hj => ?_⟩
    rw [List.getElem?_map] at hj
    cases e : xs[j]? with
    | none => rw [e] at hj; cases hj
    | some x =>
      rw [e] at hj
      cases hj
      obtain ⟨p, e1, e2⟩ := at_ j x e
      have eT : Ts j = p := by
        show (match its[j]? with | some (.ref p) => p | _ => 0) = p
        rw [e1]
      rw [eT]
      exact ⟨by simpa using e1, e2⟩
  refine call_dict_pairsH (knd := nestedKind X.prog X.w) (ps := xs) (PairArg.list a its.toArray Ts kv) (I.ok.hd hc) (by show X.A.units + 1 + 1 + 8 < cLine; omega) (wr := []) ⟨plainSeq pl, items⟩ ⟨hkl.symm, fun i key v hr => ?_⟩ (fun h' hk' x hx => ?_) (by rw [hkl]; exact hn) fun h' tk hd' hk' => ?_
  · have hr' : kv[i]? = some (key, v) := hr
    rw [List.getElem?_map] at hr'
    cases e : xs[i]? with
    | none => rw [e] at hr'; cases hr'
    | some x =>
      rw [e] at hr'
      cases hr'
      exact ⟨x.1, x.2.1, rfl, rfl⟩
  · obtain ⟨i1, i2⟩ := is_ x hx
    exact ⟨NestedIs.at (fun b ob vs n hb hc => hk' b ob (Nat.ne_of_lt (Heap.lt_size hb)) (by simp) hb) _ _ i1, i2⟩
  · obtain ⟨o, es, ep, ho, hx, hdat, hes, his, hnd⟩ := hd'
    rw [storedAllH_eq] at hes his hnd
    have al2 := Al.stAll al (Al.nil (R := fun (v : V) (a : Addr) => v = .ref a) (S := fun (v : V) (u : Value) => RelV v u))
    have hsys : (s.heap.objs.size == sysModules) = false := beq_eq_false_iff_ne.mpr (Nat.ne_of_gt I.big)
    have hfree : H s.heap.objs.size = none := I.hok.fresh (Nat.le_refl _)
    refine ⟨.ref s.heap.objs.size, upd H s.heap.objs.size (pinO s.heap.objs.size o), I.laid (fun b u e => hk' b u (by simp) e) (Nat.le_refl _) ⟨ho, ⟨o, ho⟩, fun h1 h2 e k => k o e⟩, rfl, q _ o es ep hfree hsys hx hdat ?_ ?_⟩
    · rw [hes]
      exact al_ent al2
    · rw [al_keys al2]
      exact hnd

/-! ### the rules -/
section
variable {c : Ctx}
/-- pairs of data with their keys -/
def D.pairs : List D → Option (List (NestedKey × D × D))
  | [] => some []
  | .tup [k, v] :: ds => (match D.key k, D.pairs ds with
    | some nk, some r => if okK nk = true then some ((nk, k, v) :: r) else none
    | _, _ => none)
  | _ => none
def fDict (x : D) : R O := match x.litems with
  | some ds => (match D.pairs ds with
    | some ts => .ok (.dct ((stAll [] ts).map (·.2.1)) ((stAll [] ts).map fun t => .d t.2.2))
    | none => .no)
  | none => .no
theorem rep_pairs {F H : Hp} (sm : Same F H) : ∀ {ds : List D} {xs : List V} {ts : List (NestedKey × D × D)}, D.pairs ds = some ts → RepLC c F ds xs → ∃ vs : List (NestedKey × V × V), xs.length = vs.length ∧ (∀ (i : Nat) (t : NestedKey × V × V), vs[i]? = some t → ∃ p, xs[i]? = some (.ref p) ∧ SqT c.f.K H p [t.2.1, t.2.2]) ∧ (∀ t ∈ vs, Nk c.f.K H t.2.1 t.1 ∧ okK t.1 = true) ∧
    Al (fun (d : D) (v : V) => RepC c F d v) (fun (d : D) (v : V) => RepC c F d v) ts vs ∧ ∀ t ∈ ts, D.key t.2.1 = some t.1
  | [], xs, ts, e, r => by
    rw [D.pairs] at e
    cases e
    have r' : xs = [] := r
    subst r'
    exact ⟨[], rfl, fun i t h => (by simp at h), fun t h => absurd h List.not_mem_nil, .nil, fun t h => absurd h List.not_mem_nil⟩
  | d :: ds, xs, ts, e, r => by
    cases d <;> first | (simp only [D.pairs] at e; cases e; done) | skip
    rename_i ys
    rcases ys with _ | ⟨dk, _ | ⟨dv, _ | ⟨z, zs⟩⟩⟩
    · simp only [D.pairs] at e; cases e
    · simp only [D.pairs] at e; cases e
    · simp only [D.pairs] at e
      cases q1 : D.key dk with
      | none => rw [q1] at e; cases e
      | some nk =>
        cases q2 : D.pairs ds with
        | none => rw [q1, q2] at e; cases e
        | some r2 =>
          rw [q1, q2] at e
          dsimp only at e
          split at e
          · rename_i hok
            cases e
            obtain ⟨x, r', h1, h2, h3⟩ := r
            subst h1
            obtain ⟨p, us, e1, e2, e3⟩ := h2
            obtain ⟨vk, r3, e4, rk, vv, r4, e5, rv, e6⟩ := e3
            have e6' : r4 = [] := e6
            subst e6'; subst e5; subst e4; subst e1
            obtain ⟨vs, g1, g2, g3, g4, g5⟩ := rep_pairs sm q2 h3
            refine ⟨(nk, vk, vv) :: vs, by rw [List.length_cons, List.length_cons, g1], fun i t ht => ?_, fun t ht => ?_, .cons rk rv g4, fun t ht => ?_⟩
            · cases i with
              | zero =>
                simp at ht
                subst ht
                exact ⟨p, rfl, Same.sqT sm e2⟩
              | succ i => simpa using g2 i t (by simpa using ht)
            · rcases List.mem_cons.mp ht with ht | ht
              · subst ht
                exact ⟨rep_nk sm _ _ _ q1 rk, hok⟩
              · exact g3 t ht
            · rcases List.mem_cons.mp ht with ht | ht
              · subst ht
                exact q1
              · exact g5 t ht
          · cases e
    · simp only [D.pairs] at e; cases e
theorem al_repK {F : Hp} {ts : List (NestedKey × D × D)} {vs : List (NestedKey × V × V)} (h : Al (fun (d : D) (v : V) => RepC c F d v) (fun (d : D) (v : V) => RepC c F d v) ts vs) : RepLC c F (ts.map (·.2.1)) (vs.map (·.2.1)) ∧ RepLC c F (ts.map (·.2.2)) (vs.map (·.2.2)) ∧ ts.map (·.1) = vs.map (·.1) := by
  induction h with
  | nil => exact ⟨rfl, rfl, rfl⟩
  | cons r s t ih => exact ⟨⟨_, _, rfl, r, ih.1⟩, ⟨_, _, rfl, s, ih.2.1⟩, by rw [List.map_cons, List.map_cons, ih.2.2]⟩
theorem stG_inv {α β : Type} {P : NestedKey × α × β → Prop} (hP : ∀ k a b b', P (k, a, b) → P (k, a, b')) {xs : List (NestedKey × α × β)} {k : NestedKey} {a : α} {b : β} (h : ∀ x ∈ xs, P x) (hn : P (k, a, b)) : ∀ x ∈ stG xs k a b, P x := by
  intro x hx
  unfold stG at hx
  split at hx
  · obtain ⟨y, hy, e⟩ := List.mem_map.mp hx
    subst e
    split
    · exact hP _ _ _ _ (h y hy)
    · exact h y hy
  · rcases List.mem_append.mp hx with hx | hx
    · exact h x hx
    · rw [List.mem_singleton] at hx
      rw [hx]; exact hn
theorem stAll_inv {α β : Type} {P : NestedKey × α × β → Prop} (hP : ∀ k a b b', P (k, a, b) → P (k, a, b')) : ∀ (ps xs : List (NestedKey × α × β)), (∀ x ∈ xs, P x) → (∀ x ∈ ps, P x) → ∀ x ∈ stAll xs ps, P x
  | [], xs, h, g => h
  | p :: ps, xs, h, g => stAll_inv hP ps _ (stG_inv hP h (g p (List.mem_cons_self ..))) fun x hx => g x (List.mem_cons_of_mem _ hx)
theorem keyL_of {ts : List (NestedKey × D × D)} (h : ∀ t ∈ ts, D.key t.2.1 = some t.1) : D.keyL (ts.map (·.2.1)) = some (ts.map (·.1)) := by
  induction ts with
  | nil => rw [List.map_nil, D.keyL]; rfl
  | cons t ts ih =>
    rw [List.map_cons, D.keyL, h t (List.mem_cons_self ..), ih fun t ht => h t (List.mem_cons_of_mem _ ht)]
    rfl
theorem uno_dict : UnO c (r1 (rDict c.f.K c.f.w)) fDict := by
  intro F H x vx sm rx Q q
  unfold fDict at q
  cases e : x.litems with
  | none => rw [e] at q; exact q.elim
  | some ds =>
    rw [e] at q
    obtain ⟨a, xs, h1, h2, h3⟩ := rep_litems sm e rx
    dsimp only at q
    cases e1 : D.pairs ds with
    | none => rw [e1] at q; exact q.elim
    | some ts =>
      rw [e1] at q
      dsimp only at q
      obtain ⟨vs, g1, g2, g3, g4, g5⟩ := rep_pairs sm e1 h3
      refine ⟨a, vs, xs, by rw [h1], h2, g1, g2, g3, fun p o es ep hp hs hx hd hent hnd => ?_⟩
      have al := Al.stAll g4 (Al.nil (R := fun (d : D) (v : V) => RepC c F d v) (S := fun (d : D) (v : V) => RepC c F d v))
      obtain ⟨r1', r2', r3'⟩ := al_repK al
      obtain ⟨st, sm', fp⟩ := step_own (F := F) (H := H) (o := pinO p o) hp sm
      have hkey : ∀ t ∈ stAll [] ts, D.key t.2.1 = some t.1 := stAll_inv (P := fun t : NestedKey × D × D => D.key t.2.1 = some t.1) (fun _ _ _ _ h => h) ts [] (fun x hx => absurd hx List.not_mem_nil) g5
      refine q F _ _ [p] sm' ⟨p, o, _, _, [], rfl, upd_same, hs, ⟨hx, es, ep, _, hd, keyL_of hkey, by rw [r3']; exact hnd, by rw [r3']; exact hent⟩, r1', ?_, rfl⟩ (by simp) (fun b hb => by
        have eb : b = p := by simpa using hb
        rw [eb]; exact fp) st
      have z := ORL.data (F := F) (H := upd H p (pinO p o)) r2'
      rw [List.map_map] at z
      exact z
theorem go_dict {e : Expr} {m : DM D} {p pos : Pos} (hm : c.f.mg "dict" = none) (h : GD c e m) (hg : GlC c "dict" := by rfl) (he : ∀ v, c.V v → starEach [e] v.env = (false, eval e v.env) :: starEach [] v.env := by intros; rfl) : GO c (.Call (.Name "dict" p) [e] [] pos) (o1 fDict m) :=
  go_t1 (r := rDict c.f.K c.f.w) (fun v hv => cr_dict (X := cx c.f v) c.hc (hu64 c v hv)) uno_dict hm PyProof.Rows.boot_dict h hg (he := he)

/-! ### in, not in -/
def rInDct (K : PySem.W.Frag) (w : World) (neg : Bool) : R2 := fun x y H Q => ∃ (d : Addr) (o : Obj) (es : Array DictEntry) (ep : Nat) (xs ys : List V) (ks : List NestedKey) (k : NestedKey), Nk K H x k ∧ okK k = true ∧ y = .ref d ∧ H d = some (pinO d o) ∧ (d == sysModules) = false ∧ o.ExactDict ∧ o.data = .dict es ep ∧ Ent3 w es.toList ks xs ys ∧ NkAll K H xs ks ∧ ks.Nodup ∧ (ks.all okK) = true ∧
  Q (.bl (neg != ks.any fun j => NestedKey.beq j k)) H
theorem ent_al {X : Cx} {pins : List (Addr × Obj)} {σ : L2.St} {H : Hp} {s : Shared} (I : Inv X pins σ H s) : ∀ {es : List DictEntry} {ks : List NestedKey} {xs ys : List V}, Ent3 X.w es ks xs ys → NkAll X.K H xs ks → (ks.all okK) = true → ∃ hs : List (NestedKey × Addr × Value), es = hs.map (entryOfKey (nestedKind X.prog X.w)) ∧ hs.map (·.1) = ks ∧ ∀ x ∈ hs, (nestedKind X.prog X.w).is s.heap x.1 x.2.1
  | _, _, _, _, .nil, _, _ => ⟨[], rfl, rfl, fun x hx => absurd hx List.not_mem_nil⟩
  | _, _, _, _, .cons (e := e) (k := k) (x := x) h1 h2 h3 h4, n, a => by
    cases n with
    | cons n1 n2 =>
      rw [List.all_cons, Bool.and_eq_true] at a
      obtain ⟨⟨ad, ea⟩, hdp⟩ := okK_ref n1 a.1
      obtain ⟨hs, g1, g2, g3⟩ := ent_al I h4 n2 a.2
      have n1' := n1
      subst ea
      have ek : e.key = .ref ad := h2
      refine ⟨(k, ad, e.val) :: hs, ?_, by rw [List.map_cons, g2], fun y hy => ?_⟩
      · rw [List.map_cons, ← g1]
        congr 1
        show e = ⟨k.hash X.w, .ref ad, e.val⟩
        rw [← h1, ← ek]
      · rcases List.mem_cons.mp hy with hy | hy
        · subst hy
          exact ⟨Nk.is I _ _ _ n1 rfl, hdp⟩
        · exact g3 y hy
theorem find_any (hs : List (NestedKey × Addr × Value)) (k : NestedKey) : (valueAt (pairsH hs) k).isSome = (hs.map (·.1)).any fun j => NestedKey.beq j k := by
  rw [valueAt_pairsH, Option.isSome_map, atKey_any, List.any_map]
  rfl
theorem op_inDct {X : Cx} (hu : X.A.units + 64 < cLine) : OpR X (compareOp .In) (rInDct X.K X.w false) := by
  intro pins s σ H x y v u Q I rx ry h
  obtain ⟨d, o, es, ep, xs, ys, ks, k, hk, hok, ey, hd, hsys, hx, hdat, hent, hnk, hnd, hall, q⟩ := h
  subst ey
  obtain rfl : u = Value.ref d := ry
  obtain ⟨⟨a, ea⟩, hdp⟩ := okK_ref hk hok
  have hk' := hk
  subst ea
  obtain rfl : v = Value.ref a := rx
  obtain ⟨ho, _, _⟩ := I.hok _ _ hd
  obtain ⟨hs, g1, g2, g3⟩ := ent_al I hent hnk hall
  refine in_keyed (kvs := pairsH hs) (knd := nestedKind X.prog X.w) (k := k) (by show X.A.units + 1 + 8 < cLine; omega) ⟨Nk.is I _ _ _ hk rfl, hdp⟩ hsys ⟨hs, ⟨o, es, ep, ho, hx, hdat, g1, g3, by rw [g2]; exact hnd⟩, rfl⟩ ⟨.bl _, H, I.tok _, rfl, ?_⟩
  rw [find_any, g2]
  simpa using q
theorem op_notinDct {X : Cx} (hu : X.A.units + 64 < cLine) : OpR X (compareOp .NotIn) (rInDct X.K X.w true) := by
  intro pins s σ H x y v u Q I rx ry h
  obtain ⟨d, o, es, ep, xs, ys, ks, k, hk, hok, ey, hd, hsys, hx, hdat, hent, hnk, hnd, hall, q⟩ := h
  subst ey
  obtain rfl : u = Value.ref d := ry
  obtain ⟨⟨a, ea⟩, hdp⟩ := okK_ref hk hok
  have hk' := hk
  subst ea
  obtain rfl : v = Value.ref a := rx
  obtain ⟨ho, _, _⟩ := I.hok _ _ hd
  obtain ⟨hs, g1, g2, g3⟩ := ent_al I hent hnk hall
  refine notIn_keyed (kvs := pairsH hs) (knd := nestedKind X.prog X.w) (k := k) (by show X.A.units + 1 + 8 < cLine; omega) ⟨Nk.is I _ _ _ hk rfl, hdp⟩ hsys ⟨hs, ⟨o, es, ep, ho, hx, hdat, g1, g3, by rw [g2]; exact hnd⟩, rfl⟩ ⟨.bl _, H, I.tok _, rfl, ?_⟩
  rw [find_any, g2]
  simpa using q
def fInA (neg : Bool) (x y : D) : R D := match y with
  | .dct ks _ => (match D.key x, D.keyL ks with
    | some k, some nks => if (okK k && nks.all okK) = true then .ok (.bl (neg != nks.any fun j => NestedKey.beq j k)) else .no
    | _, _ => .no)
  | _ => fInG neg x y
theorem opd_inDct (neg : Bool) {rG : R2} (hG : OpD c rG (fInG neg)) : OpD c (fun x y H Q => rInDct c.f.K c.f.w neg x y H Q ∨ rG x y H Q) (fInA neg) := by
  intro F H x y vx vy sm rx ry Q q
  by_cases hy : ∃ ks vs, y = .dct ks vs
  · obtain ⟨ks, vs, rfl⟩ := hy
    left
    unfold fInA at q
    dsimp only at q
    cases e1 : D.key x with
    | none => rw [e1] at q; exact q.elim
    | some k =>
      cases e2 : D.keyL ks with
      | none => rw [e1, e2] at q; exact q.elim
      | some nks =>
        rw [e1, e2] at q
        dsimp only at q
        by_cases hok : (okK k && nks.all okK) = true
        · rw [if_pos hok] at q
          rw [Bool.and_eq_true] at hok
          obtain ⟨a, o, xs, ys, h1, h2, h3, ⟨hx, es, ep, nks', h4, h5, h6, h7⟩, h8, h9⟩ := ry
          rw [e2] at h5
          cases h5
          exact ⟨a, o, es, ep, xs, ys, nks, k, rep_nk sm _ _ _ e1 rx, hok.1, h1, sm _ _ h2, h3, hx, h4, h7, rep_nkL sm _ _ _ e2 h8, h6, hok.2, q F H _ sm rfl Step.refl⟩
        · rw [if_neg hok] at q
          exact q.elim
  · right
    refine hG F H x y vx vy sm rx ry Q ?_
    have e : fInA neg x y = fInG neg x y := by
      unfold fInA
      cases y <;> first | rfl | exact absurd ⟨_, _, rfl⟩ hy
    rw [← e]
    exact q
variable {a b : Expr} {ma mb : DM D} {pos : Pos}
theorem gd_in (ha : GD c a ma) (hb : GD c b mb) (hm : behindInMarks .In b = false := by with_unfolding_all rfl) : GD c (.Compare a [.In] [b] pos) (d2 (fInA false) ma mb) := gd_cmp (fun v hv => (op_inDct (X := cx c.f v) (hu64 c v hv)).or (op_inD (hu65 c v hv))) (opd_inDct false opd_in) ha hb hm
theorem gd_notin (ha : GD c a ma) (hb : GD c b mb) (hm : behindInMarks .NotIn b = false := by with_unfolding_all rfl) : GD c (.Compare a [.NotIn] [b] pos) (d2 (fInA true) ma mb) := gd_cmp (fun v hv => (op_notinDct (X := cx c.f v) (hu64 c v hv)).or (op_notInD (hu65 c v hv))) (opd_inDct true opd_notin) ha hb hm
theorem gt_in (ha : GD c a ma) (hb : GD c b mb) (hm : behindInMarks .In b = false := by with_unfolding_all rfl) : GT c (.Compare a [.In] [b] pos) (dBool (d2 (fInA false) ma mb)) := gt_cmp (fun v hv => (op_inDct (X := cx c.f v) (hu64 c v hv)).or (op_inD (hu65 c v hv))) (opd_inDct false opd_in) ha hb hm
theorem gt_notin (ha : GD c a ma) (hb : GD c b mb) (hm : behindInMarks .NotIn b = false := by with_unfolding_all rfl) : GT c (.Compare a [.NotIn] [b] pos) (dBool (d2 (fInA true) ma mb)) := gt_cmp (fun v hv => (op_notinDct (X := cx c.f v) (hu64 c v hv)).or (op_notInD (hu65 c v hv))) (opd_inDct true opd_notin) ha hb hm
end
end G
/-! G14: the head's facts for Facts; the law's def behind the head. -/
namespace G
open PySem PySem.Spec PyProof.Rows L2
def toD (p : Str × Stmt) : He.DefD := ⟨(p.1, none), p.1, p.1, defArgs p.2, defBody p.2, defScope p.2, [], []⟩
def faOf (defs : List (Str × Stmt)) (free : List Str) (cons : List (Str × Int)) : List He.Fa := (defs.map fun p => He.Fa.glo p.1) ++ ((free.map He.Fa.free) ++ (cons.map fun p => He.Fa.int p.1 p.2))
theorem facts_of {K : PySem.W.Frag} {h : Heap} {mg : Str → Option Value} {defs : List (Str × Stmt)} {free : List Str} {cons : List (Str × Int)} (X : K.In h) (G : h.Ns mainGlobals mg) (c : He.SaysD (faOf defs free cons) (defs.map toD) K) : Facts K mg defs free cons where
  def_ := fun i p hp => by
    have hg : (faOf defs free cons)[i]? = some (He.Fa.glo p.1) := by
      unfold faOf
      rw [List.getElem?_append_left (by rw [List.length_map]; exact (List.getElem?_eq_some_iff.mp hp).1), List.getElem?_map, hp]
      rfl
    obtain ⟨fd, F⟩ := c.def_ i (d := toD p) (by rw [List.getElem?_map, hp]; rfl)
    exact ⟨_, fd, F, He.glo_ok X G (c.fact i hg)⟩
  free := fun i x hx => by
    have hg : (faOf defs free cons)[defs.length + i]? = some (He.Fa.free x) := by
      unfold faOf
      rw [List.getElem?_append_right (by rw [List.length_map]; omega), List.length_map, Nat.add_sub_cancel_left, List.getElem?_append_left (by rw [List.length_map]; exact (List.getElem?_eq_some_iff.mp hx).1), List.getElem?_map, hx]
      rfl
    exact He.free_ok X G (c.fact _ hg)
  int := fun i p hp => by
    have hg : (faOf defs free cons)[defs.length + (free.length + i)]? = some (He.Fa.int p.1 p.2) := by
      unfold faOf
      rw [List.getElem?_append_right (by rw [List.length_map]; omega), List.length_map, Nat.add_sub_cancel_left, List.getElem?_append_right (by rw [List.length_map]; omega), List.length_map, Nat.add_sub_cancel_left, List.getElem?_map, hp]
      rfl
    exact He.int_ok X G (c.fact _ hg)
/-- what lets no exception out -/
def CXF : CXT := fun outer H s E u s' => ∃ P w, CX P w outer H s E u s'
theorem cxf_no (H : Hp) (s : Shared) (e : Value) (s' : Shared) (h : CXF [] H s (fun _ _ _ => False) e s') : False := by
  obtain ⟨P, w, a, B, H', cls, d, _, _, _, _, _, _, _, z⟩ := h
  exact z
theorem fn_cxf {P : Program} {w : World} {K : PySem.W.Frag} {mg : Str → Option Value} {base : Heap} {k : Nat} {f : Addr} {fd : FuncData} {ps : List Str} {sp : Sp} (F : FnOk P w K mg base (CX P w) k f fd ps sp) : FnOk P w K mg base CXF k f fd ps sp :=
  ⟨F.len, fun A outer s H args us vs Q E hr he hb hv hs => codeAny_mono (F.run A outer s H args us vs Q E hr he hb hv hs) fun r s' h => by
    cases r with
    | error e => exact ⟨P, w, h⟩
    | ok fl => cases fl <;> exact h⟩
theorem law_sp {K : PySem.W.Frag} {w : World} {cv : Nat → Value} {m : DF} {H : Hp} {a : Addr} {ns : List Int} (hS : SqL K H a (ns.map V.int)) (h : m [.d (.kst (ns.map D.int))] = .ok (.d (.bl true), none)) : SpOf K w cv none m [.ref a] H (fun v _ => v = .bl true) (fun _ _ _ => False) := by
  refine ⟨H, [.d (.kst (ns.map D.int))], [], ⟨.ref a, [], [], [], rfl, ⟨⟨a, ns.map V.int, rfl, hS, ?_⟩, rfl⟩, ⟨rfl, rfl⟩, rfl⟩, List.nodup_nil, fun b hb => (nomatch hb), Same.refl _, ?_⟩
  · clear h hS
    induction ns with
    | nil => exact rfl
    | cons n ns ih => exact ⟨.int n, ns.map V.int, rfl, rfl, ih⟩
  · rw [h]
    intro F' H' v fp' g ou r nd hg sm st
    exact r.1
/-- the law's def behind the head -/
theorem law_fn {P : Program} {w : World} {K : PySem.W.Frag} {mg : Str → Option Value} {fa : Addr} {x p : Str} {st : Stmt} {k : Nat} {m : DF} (hfa : mg x = some (.ref fa)) (d : ∀ base : Heap, DefOk P w K mg base (fun _ => .none) x st k none [p] m) (base0 : Heap)
    (hb : ∀ (kV doc pm : Value) (an : Option Addr) (cdv ct : Value) (us : List Value), us.length = 1 → bindArgs (PySem.W.fnOf x x (defArgs st) (defBody st) (defScope st) .none kV doc pm an cdv ct) ⟨us, []⟩ = pure ([p].zip us)) :
    ∃ fd : FuncData, (∀ (s : Shared) (u : Value), BindsTo s fd ⟨[u], []⟩ [(p, u)]) ∧ ∀ base : Heap, FnOk P w K mg base CXF k fa fd [p] (SpOf K w (fun _ => .none) none m) := by
  obtain ⟨f, fd, F, hm, _, _, D⟩ := (d base0).ex
  rw [hfa] at hm
  cases hm
  refine ⟨fd, fun s u => FunD.bindsA (ps := [p]) D hb s [u] rfl, fun base => ?_⟩
  obtain ⟨f', fd', F', hm', _, _, D'⟩ := (d base).ex
  rw [hfa] at hm'
  cases hm'
  have e : fd = fd' := by
    obtain ⟨_, _, _, _, _, _, _, _, _, _, _, l1, _⟩ := D.ex
    obtain ⟨_, _, _, _, _, _, _, _, _, _, _, l2, _⟩ := D'.ex
    rw [l1] at l2
    injection l2 with l2
    injection l2 with _ _ l2 _
    injection l2
  rw [e]
  exact fn_cxf F'
end G
/-! G15: what is forgotten; blocks. -/
namespace G
open PySem L2
section
variable {K : PySem.W.Frag} {w : World} {F H : Hp}
theorem erForget1 {δ : DEnv} {σ : St} {fp : List Addr} (v : Nat) (h : ER K w F H δ σ fp) : ∃ fp', fp'.Sublist fp ∧ ER K w F H (δ.set v none) σ fp' := by
  cases e : δ[v]? with
  | none =>
    rw [List.set_eq_of_length_le (List.getElem?_eq_none_iff.mp e)]
    exact ⟨fp, List.Sublist.refl _, h⟩
  | some s =>
    cases s with
    | none =>
      have e2 : δ.set v none = δ := by
        apply List.ext_getElem?
        intro j
        rw [List.getElem?_set]
        by_cases hj : v = j
        · subst hj
          rw [if_pos rfl]
          have hl := (List.getElem?_eq_some_iff.mp e).1
          rw [if_pos hl, e]
        · rw [if_neg hj]
      rw [e2]
      exact ⟨fp, List.Sublist.refl _, h⟩
    | some o =>
      obtain ⟨v1, f1, pre, post, a1, a2, a3, a4, a5⟩ := ER.get h e
      subst a3
      exact ⟨pre ++ post, (List.Sublist.refl pre).append (List.sublist_append_right f1 post), a5 F H (Same.refl _) fun b hb => rfl⟩
theorem erForget {δ : DEnv} {σ : St} {fp : List Addr} (h : ER K w F H δ σ fp) : ∀ vs : List Nat, ∃ fp', fp'.Sublist fp ∧ ER K w F H (wipeD δ vs) σ fp'
  | [] => ⟨fp, List.Sublist.refl _, h⟩
  | v :: vs => by
    obtain ⟨f1, s1, e1⟩ := erForget h vs
    obtain ⟨f2, s2, e2⟩ := erForget1 v e1
    exact ⟨f2, s2.trans s1, e2⟩
end
section
variable {c : Ctx}
def sWipe (V : List Nat) (m : SM) : SM := fun δ => m (wipeD δ V)
/-- slots are forgotten ahead of a block -/
theorem gss_wipe (V : List Nat) {st : List Stmt} {m : SM} (h : GSs c st m) : GSs c st (sWipe V m) := by
  obtain ⟨t, h1, h2⟩ := h
  refine ⟨t, h1, fun F H δ σ fp k D q => ?_⟩
  obtain ⟨fp', s, e⟩ := erForget k.er V
  exact h2 F H (wipeD δ V) σ fp' (k.sub s e) D (WS.step (Step.refl.mono fun b hb => s.subset hb) SF.refl q)
/-- what a slot owns is data from here on -/
theorem ok_freeze {F H : Hp} {δ : DEnv} {σ : St} {fp : List Addr} {i : Nat} {o : O} (k : OkC c F H δ σ fp) (e : δ[i]? = some (some o)) : ∃ F' fp', OkC c F' H (δ.set i (some (.d o.frz))) σ fp' ∧ Step F H fp F' H fp' := by
  obtain ⟨v, f1, pre, post, a1, a2, a3, a4, _⟩ := k.er.get e
  subst a3
  have nd := k.nd
  have dj : ∀ b ∈ pre ++ post, b ∉ f1 := fun b hb z => by
    have h1 := List.nodup_append.mp nd
    have h2 := List.nodup_append.mp h1.2.1
    rcases List.mem_append.mp hb with hb | hb
    · exact h1.2.2 b hb b (List.mem_append_left _ z) rfl
    · exact h2.2.2 b z b hb rfl
  have hg : ∀ b ∈ f1, F b = none := fun b hb => k.fr b (by simp [hb])
  have er := a4 (frzF F H f1) H (.d o.frz) v [] (frzF_ext hg) (fun _ _ => rfl) ⟨OR.frz (frzF_ext hg) _ v f1 (fun b hb => frzF_in hb) a2, rfl⟩
  rw [set_self a1] at er
  refine ⟨frzF F H f1, pre ++ post, ⟨by simpa using er, ?_, fun b hb => ?_, frzF_same k.sm⟩, ?_⟩
  · have h1 := List.nodup_append.mp nd
    have h2 := List.nodup_append.mp h1.2.1
    exact List.nodup_append.mpr ⟨h1.1, h2.2.1, fun a ha b hb => h1.2.2 a ha b (List.mem_append_right _ hb)⟩
  · rw [frzF_out (dj b hb)]
    exact k.fr b (by rcases List.mem_append.mp hb with hb | hb <;> simp [hb])
  · exact ⟨frzF_ext hg, fun b o h _ => h, fun b h => h, fun b hb => .inl (by rcases List.mem_append.mp hb with hb | hb <;> simp [hb]), fun b hb => by
      by_cases z : b ∈ f1
      · exact .inr (.inl (by simp [z]))
      · rw [frzF_out z] at hb; exact .inl hb⟩
def dWipe {α : Type} (V : List Nat) (m : DM α) : DM α := fun δ => m (wipeD δ V)
theorem gt_wipe (V : List Nat) {e : Expr} {m : DM Bool} (h : GT c e m) : GT c e (dWipe V m) := by
  obtain ⟨t, h1, h2⟩ := h
  refine ⟨t, h1, fun F H δ σ fp k Q q => ?_⟩
  obtain ⟨fp', s, e⟩ := erForget k.er V
  refine h2 F H (wipeD δ V) σ fp' (k.sub s e) Q ?_
  have st : Step F H fp F H fp' := Step.refl.mono fun b hb => s.subset hb
  have q' : WT c F H σ fp Q (m (wipeD δ V)) := q
  revert q'
  cases m (wipeD δ V) with
  | exc n => exact fun q => WXc.step q st
  | no => exact id
  | ok p => exact fun q F' H' fp2 k2 s2 => q F' H' fp2 k2 (st.trans s2)
def frzS (δ : DEnv) (i : Nat) : DEnv := match δ[i]? with
  | some (some o) => δ.set i (some (.d o.frz))
  | _ => δ
def sFrz (i : Nat) (m : SM) : SM := fun δ => m (frzS δ i)
theorem gss_frz (i : Nat) {st : List Stmt} {m : SM} (h : GSs c st m) : GSs c st (sFrz i m) := by
  obtain ⟨t, h1, h2⟩ := h
  refine ⟨t, h1, fun F H δ σ fp k D q => ?_⟩
  unfold sFrz frzS at q
  cases e : δ[i]? with
  | none => rw [e] at q; exact h2 F H δ σ fp k D q
  | some s =>
    cases s with
    | none => rw [e] at q; exact h2 F H δ σ fp k D q
    | some o =>
      rw [e] at q
      obtain ⟨F', fp', k', s⟩ := ok_freeze k e
      exact h2 F' H _ σ fp' k' D (WS.step s SF.refl q)
end
end G
/-! U1: the typed layer: what a mirror makes, in plain typed Lean; expressions. -/
namespace U
open PySem L2 G

def bind {α β : Type} (t : R α) (k : α → R β) : R β := match t with
  | .ok a => k a
  | .exc n => .exc n
  | .no => .no
theorem bind_okE {α β : Type} (a : α) (k : α → R β) : bind (.ok a) k = k a := rfl
theorem of_bind {α β : Type} {t : R α} {k : α → R β} {r : β} (h : bind t k = .ok r) : ∃ a, t = .ok a ∧ k a = .ok r := by
  cases t with
  | ok a => exact ⟨a, rfl, h⟩
  | exc n => cases h
  | no => cases h
theorem of_ok {α : Type} {a r : α} (h : (R.ok a : R α) = .ok r) : a = r := by cases h; rfl
theorem of_ite {α : Type} {b : Bool} {x y : R α} {r : α} (h : (if b = true then x else y) = .ok r) : (b = true ∧ x = .ok r) ∨ (b = false ∧ y = .ok r) := by
  cases b with
  | true => exact .inl ⟨rfl, h⟩
  | false => exact .inr ⟨rfl, h⟩
def chk (n : Nat) : R Unit := if Nat.blt n 16777216 = true then .ok () else .no
theorem of_chk {n : Nat} {u : Unit} (h : chk n = .ok u) : Nat.blt n 16777216 = true := by
  unfold chk at h
  split at h
  · assumption
  · cases h
def need (b : Bool) : R Unit := if b = true then .ok () else .no
theorem of_need {b : Bool} {u : Unit} (h : need b = .ok u) : b = true := by
  unfold need at h
  split at h
  · assumption
  · cases h

/-! ### encodings -/
abbrev eInt : Int → D := D.int
abbrev eBl : Bool → D := D.bl
abbrev eStr : Str → D := D.str
abbrev eNon : Unit → D := fun _ => D.non
abbrev eT {α : Type} (e : α → D) (xs : List α) : D := .tup (xs.map e)
abbrev eL {α : Type} (e : α → D) (xs : List α) : D := .lst (xs.map e)
abbrev eK {α : Type} (e : α → D) (xs : List α) : D := .kst (xs.map e)
abbrev eP {α β : Type} (e : α → D) (f : β → D) (p : α × β) : D := .tup [e p.1, f p.2]
abbrev eO {α : Type} (e : α → D) (x : Option α) : D := match x with
  | none => .non
  | some y => e y
abbrev oD {α : Type} (e : α → D) (x : α) : O := .d (e x)
abbrev oL {α : Type} (o : α → O) (xs : List α) : O := .lst (xs.map o)
theorem frz_d (x : D) : (O.d x).frz = x := by rw [O.frz]
theorem frzL_map {α : Type} {o : α → O} {e : α → D} (h : ∀ x, (o x).frz = e x) : ∀ xs : List α, O.frzL (xs.map o) = xs.map e
  | [] => by rw [List.map_nil, O.frzL]; rfl
  | x :: xs => by rw [List.map_cons, O.frzL, h, frzL_map h xs]; rfl
theorem frz_L {α : Type} {o : α → O} {e : α → D} (h : ∀ x, (o x).frz = e x) (xs : List α) : (oL o xs).frz = eL e xs := by
  show (O.lst (xs.map o)).frz = _
  rw [O.frz, frzL_map h]
theorem frz_D {α : Type} (e : α → D) (x : α) : (oD e x).frz = e x := frz_d _
theorem frz_lit (ds : List D) : (O.lst (ds.map .d)).frz = .lst ds := by
  rw [O.frz, frzL_map (o := O.d) (e := id) frz_d, List.map_id]
theorem map_oD {α : Type} (e : α → D) (xs : List α) : (xs.map e).map O.d = xs.map (oD e) := by rw [List.map_map]; rfl

/-! ### expressions -/
section
variable {δ δ1 δ2 δ3 : DEnv}
theorem u_c (x : D) : dC x δ = .ok (x, δ) := rfl
theorem u_var (i : Nat) {x : D} (h : δ[i]? = some (some (.d x))) : dVar i δ = .ok (x, δ) := by
  unfold dVar
  rw [h]
/-- what is owned is data behind it -/
theorem u_varL (i : Nat) {os : List O} {x : D} (h : δ[i]? = some (some (.lst os))) (hx : (O.lst os).frz = x) (e : δ.set i (some (.d x)) = δ2) : dVar i δ = .ok (x, δ2) := by
  unfold dVar
  rw [h, ← e, ← hx]
theorem u_ovar (i : Nat) {o : O} (h : δ[i]? = some (some o)) (e : δ.set i none = δ2) : oVar i δ = .ok (o, δ2) := by
  unfold oVar
  rw [h, ← e]
theorem u_d2 {f : D → D → R D} {ma mb : DM D} {x y z : D} (h1 : ma δ = .ok (x, δ1)) (h2 : mb δ1 = .ok (y, δ2)) (h3 : f x y = .ok z) : d2 f ma mb δ = .ok (z, δ2) := by
  unfold d2
  rw [h1]
  dsimp only
  rw [h2]
  dsimp only
  rw [h3]
theorem u_o2 {f : D → D → R O} {ma mb : DM D} {x y : D} {z : O} (h1 : ma δ = .ok (x, δ1)) (h2 : mb δ1 = .ok (y, δ2)) (h3 : f x y = .ok z) : o2 f ma mb δ = .ok (z, δ2) := by
  unfold o2
  rw [h1]
  dsimp only
  rw [h2]
  dsimp only
  rw [h3]
theorem u_d1 {f : D → R D} {m : DM D} {x z : D} (h1 : m δ = .ok (x, δ1)) (h3 : f x = .ok z) : d1 f m δ = .ok (z, δ1) := by
  unfold d1
  rw [h1]
  dsimp only
  rw [h3]
theorem u_o1 {f : D → R O} {m : DM D} {x : D} {z : O} (h1 : m δ = .ok (x, δ1)) (h3 : f x = .ok z) : o1 f m δ = .ok (z, δ1) := by
  unfold o1
  rw [h1]
  dsimp only
  rw [h3]
theorem u_frz {m : DM O} {o : O} {x : D} (h : m δ = .ok (o, δ1)) (hx : o.frz = x) : DM.frz m δ = .ok (x, δ1) := by
  unfold DM.frz
  rw [h]
  dsimp only
  rw [hx]
theorem u_dat {m : DM D} {x : D} (h : m δ = .ok (x, δ1)) : DM.dat m δ = .ok (.d x, δ1) := by
  unfold DM.dat
  rw [h]
theorem u_nil : aNil δ = .ok ([], δ) := rfl
theorem u_cons {m : DM D} {ms : DM (List D)} {x : D} {xs : List D} (h1 : m δ = .ok (x, δ1)) (h2 : ms δ1 = .ok (xs, δ2)) : dCons m ms δ = .ok (x :: xs, δ2) := by
  unfold dCons
  rw [h1]
  dsimp only
  rw [h2]
theorem u_onil : oNil δ = .ok ([], δ) := rfl
theorem u_ocons {m : DM O} {ms : DM (List O)} {x : O} {xs : List O} (h1 : m δ = .ok (x, δ1)) (h2 : ms δ1 = .ok (xs, δ2)) : oCons m ms δ = .ok (x :: xs, δ2) := by
  unfold oCons
  rw [h1]
  dsimp only
  rw [h2]
theorem u_tup {ms : DM (List D)} {xs : List D} (h : ms δ = .ok (xs, δ1)) (hz : small xs.length = true) : dTup ms δ = .ok (.tup xs, δ1) := by
  unfold dTup
  rw [h]
  dsimp only
  rw [if_pos hz]
theorem u_lst {ms : DM (List D)} {xs : List D} {o : O} (h : ms δ = .ok (xs, δ1)) (hz : small xs.length = true) (ho : O.lst (xs.map .d) = o) : oLst ms δ = .ok (o, δ1) := by
  unfold oLst
  rw [h]
  dsimp only
  rw [if_pos hz, ho]
theorem u_bool {m : DM D} {b : Bool} (h : m δ = .ok (.bl b, δ1)) : dBool m δ = .ok (b, δ1) := by
  unfold dBool
  rw [h]
theorem u_not {m : DM Bool} {b : Bool} (h : m δ = .ok (b, δ1)) : dNotT m δ = .ok (!b, δ1) := by
  unfold dNotT
  rw [h]
theorem u_andT {m1 m2 : DM Bool} {a b : Bool} (h1 : m1 δ = .ok (a, δ1)) (h2 : a = true → m2 δ1 = .ok (b, δ1)) : dAndT m1 m2 δ = .ok (a && b, δ1) := by
  unfold dAndT
  rw [h1]
  cases a with
  | true => exact h2 rfl
  | false => rfl
theorem u_orT {m1 m2 : DM Bool} {a b : Bool} (h1 : m1 δ = .ok (a, δ1)) (h2 : a = false → m2 δ1 = .ok (b, δ1)) : dOrT m1 m2 δ = .ok (a || b, δ1) := by
  unfold dOrT
  rw [h1]
  cases a with
  | true => rfl
  | false => exact h2 rfl
theorem u_andV {m1 m2 : DM D} {a b : Bool} (h1 : m1 δ = .ok (.bl a, δ1)) (h2 : a = true → m2 δ1 = .ok (.bl b, δ1)) : dAndV m1 m2 δ = .ok (.bl (a && b), δ1) := by
  unfold dAndV
  rw [h1]
  cases a with
  | true => exact h2 rfl
  | false => rfl
theorem u_orV {m1 m2 : DM D} {a b : Bool} (h1 : m1 δ = .ok (.bl a, δ1)) (h2 : a = false → m2 δ1 = .ok (.bl b, δ1)) : dOrV m1 m2 δ = .ok (.bl (a || b), δ1) := by
  unfold dOrV
  rw [h1]
  cases a with
  | true => rfl
  | false => exact h2 rfl
/-- the first decides -/
theorem u_andT0 {m1 m2 : DM Bool} (h1 : m1 δ = .ok (false, δ1)) : dAndT m1 m2 δ = .ok (false, δ1) := by
  unfold dAndT
  rw [h1]
theorem u_andT1 {m1 m2 : DM Bool} {b : Bool} (h1 : m1 δ = .ok (true, δ1)) (h2 : m2 δ1 = .ok (b, δ2)) : dAndT m1 m2 δ = .ok (b, δ2) := by
  unfold dAndT
  rw [h1]
  exact h2
theorem u_orT1 {m1 m2 : DM Bool} (h1 : m1 δ = .ok (true, δ1)) : dOrT m1 m2 δ = .ok (true, δ1) := by
  unfold dOrT
  rw [h1]
theorem u_orT0 {m1 m2 : DM Bool} {b : Bool} (h1 : m1 δ = .ok (false, δ1)) (h2 : m2 δ1 = .ok (b, δ2)) : dOrT m1 m2 δ = .ok (b, δ2) := by
  unfold dOrT
  rw [h1]
  exact h2
theorem u_andV0 {m1 m2 : DM D} (h1 : m1 δ = .ok (.bl false, δ1)) : dAndV m1 m2 δ = .ok (.bl false, δ1) := by
  unfold dAndV
  rw [h1]
theorem u_andV1 {m1 m2 : DM D} {b : D} (h1 : m1 δ = .ok (.bl true, δ1)) (h2 : m2 δ1 = .ok (b, δ2)) : dAndV m1 m2 δ = .ok (b, δ2) := by
  unfold dAndV
  rw [h1]
  exact h2
theorem u_orV1 {m1 m2 : DM D} (h1 : m1 δ = .ok (.bl true, δ1)) : dOrV m1 m2 δ = .ok (.bl true, δ1) := by
  unfold dOrV
  rw [h1]
theorem u_orV0 {m1 m2 : DM D} {b : D} (h1 : m1 δ = .ok (.bl false, δ1)) (h2 : m2 δ1 = .ok (b, δ2)) : dOrV m1 m2 δ = .ok (b, δ2) := by
  unfold dOrV
  rw [h1]
  exact h2
theorem u_if {α : Type} {t : DM Bool} {m1 m2 : DM α} {b : Bool} {p : α × DEnv} (h : t δ = .ok (b, δ1)) (h1 : b = true → m1 δ1 = .ok p) (h2 : b = false → m2 δ1 = .ok p) : dIf t m1 m2 δ = .ok p := by
  unfold dIf
  rw [h]
  cases b with
  | true => exact h1 rfl
  | false => exact h2 rfl
theorem u_ifT {α : Type} {t : DM Bool} {m1 m2 : DM α} {p : α × DEnv} (h : t δ = .ok (true, δ1)) (h1 : m1 δ1 = .ok p) : dIf t m1 m2 δ = .ok p := by
  unfold dIf
  rw [h]
  exact h1
theorem u_ifF {α : Type} {t : DM Bool} {m1 m2 : DM α} {p : α × DEnv} (h : t δ = .ok (false, δ1)) (h1 : m2 δ1 = .ok p) : dIf t m1 m2 δ = .ok p := by
  unfold dIf
  rw [h]
  exact h1
theorem u_call {f : DF} {ma : DM (List D)} {xs : List D} {o : O} (h : ma δ = .ok (xs, δ1)) (hf : f (xs.map .d) = .ok (o, none)) : oCall f ma δ = .ok (o, δ1) := by
  unfold oCall
  rw [h]
  dsimp only
  rw [hf]
theorem u_callR (i : Nat) {f : DF} {ma : DM (List D)} {o0 o o' r : O} {xs : List D} (h0 : δ[i]? = some (some o0)) (h : ma δ = .ok (xs, δ1)) (h1 : δ1[i]? = some (some o)) (hf : f (o :: xs.map .d) = .ok (r, some o')) (e : δ1.set i (some o') = δ2) : oCallR i f ma δ = .ok (r, δ2) := by
  unfold oCallR
  rw [h0]
  dsimp only
  rw [h]
  dsimp only
  rw [h1]
  dsimp only
  rw [hf, ← e]
theorem u_callK {n m : Nat} {π : List Nat} {f : DF} {ma mk : DM (List D)} {xs ys zs : List D} {o : O} (h : ma δ = .ok (xs, δ1)) (hk : mk δ1 = .ok (ys, δ2)) (hn : (Nat.beq xs.length n && Nat.beq ys.length m) = true) (hp : kg π xs ys = zs) (hf : f (zs.map .d) = .ok (o, none)) : oCallK n m π f ma mk δ = .ok (o, δ2) := by
  unfold oCallK
  rw [h]
  dsimp only
  rw [hk]
  dsimp only
  rw [if_pos hn, hp, hf]

/-! ### numbers -/
theorem f_mulI {i j : Int} (h : okMul i j = true) : fMul (.int i) (.int j) = .ok (.d (.int (i * j))) := by
  show (if okMul i j = true then _ else _) = _
  rw [if_pos h]
theorem f_mul2 {i j : Int} (h : okMul i j = true) : fI2 okMul (fun i j => i * j) (.int i) (.int j) = .ok (.int (i * j)) := by
  show (if okMul i j = true then _ else _) = _
  rw [if_pos h]
theorem f_div {i j : Int} (h : okDiv i j = true) : fI2 okDiv (fun i j => i / j) (.int i) (.int j) = .ok (.int (i / j)) := by
  show (if okDiv i j = true then _ else _) = _
  rw [if_pos h]
theorem f_mod {i j : Int} (h : okMod i j = true) : fI2 okMod (fun i j => i % j) (.int i) (.int j) = .ok (.int (i % j)) := by
  show (if okMod i j = true then _ else _) = _
  rw [if_pos h]
theorem f_pow {i j : Int} (h : okPow i j = true) : fI2 okPow (fun i j => i ^ j.toNat) (.int i) (.int j) = .ok (.int (i ^ j.toNat)) := by
  show (if okPow i j = true then _ else _) = _
  rw [if_pos h]
theorem u_chain {f g : Int → Int → Bool} {ma mb mc : DM D} {i j k : Int} (h1 : ma δ = .ok (.int i, δ1)) (h2 : mb δ1 = .ok (.int j, δ1)) (h3 : f i j = true → mc δ1 = .ok (.int k, δ1)) : dChain f g ma mb mc δ = .ok (.bl (f i j && g j k), δ1) := by
  unfold dChain
  rw [h1]
  dsimp only
  rw [h2]
  dsimp only
  cases e : f i j with
  | true =>
    rw [if_pos rfl, h3 e]
    rfl
  | false => rfl
end

/-! ### lists -/
section
variable {α β : Type} {e : α → D} {δ δ1 δ2 : DEnv}
def ix (xs : List α) (i : Int) : R α := match atI xs i with
  | some x => .ok x
  | none => .no
theorem atI_map (f : α → β) (xs : List α) (i : Int) : atI (xs.map f) i = (atI xs i).map f := by
  unfold atI
  rw [List.length_map]
  cases ixN xs.length i with
  | none => rfl
  | some k =>
    show (xs.map f)[k]? = (xs[k]?).map f
    rw [List.getElem?_map]
theorem of_ix {xs : List α} {i : Int} {x : α} (h : ix xs i = .ok x) : atI xs i = some x := by
  unfold ix at h
  cases q : atI xs i with
  | none => rw [q] at h; cases h
  | some y => rw [q] at h; cases h; rfl
theorem oAt_L {xs : List α} {i : Int} {x : α} (h : ix xs i = .ok x) : oAt (oL (oD e) xs) i = .ok (e x) := by
  show (match atI (xs.map (oD e)) i with | some (.d x) => R.ok x | _ => .no) = _
  rw [atI_map, of_ix h]
  rfl
theorem oAt_T {xs : List α} {i : Int} {x : α} (h : ix xs i = .ok x) : oAt (.d (eT e xs)) i = .ok (e x) := by
  show (match atI ((xs.map e).map O.d) i with | some (.d x) => R.ok x | _ => .no) = _
  rw [atI_map, atI_map, of_ix h]
  rfl
theorem oAt_dL {xs : List α} {i : Int} {x : α} (h : ix xs i = .ok x) : oAt (.d (eL e xs)) i = .ok (e x) := by
  show (match atI ((xs.map e).map O.d) i with | some (.d x) => R.ok x | _ => .no) = _
  rw [atI_map, atI_map, of_ix h]
  rfl
theorem oAt_dK {xs : List α} {i : Int} {x : α} (h : ix xs i = .ok x) : oAt (.d (eK e xs)) i = .ok (e x) := by
  show (match atI ((xs.map e).map O.d) i with | some (.d x) => R.ok x | _ => .no) = _
  rw [atI_map, atI_map, of_ix h]
  rfl
theorem u_ixN (k : Nat) {mb : DM D} {o0 o : O} {i : Int} {x : D} (h0 : δ[k]? = some (some o0)) (h : mb δ = .ok (.int i, δ1)) (h1 : δ1[k]? = some (some o)) (hx : oAt o i = .ok x) : dIxN k mb δ = .ok (x, δ1) := by
  unfold dIxN
  rw [h0]
  dsimp only
  rw [h]
  dsimp only
  rw [h1]
  dsimp only
  rw [hx]
theorem fIx_T {xs : List α} {i : Int} {x : α} (h : ix xs i = .ok x) : fIx (eT e xs) (.int i) = .ok (e x) := by
  show (match atI (xs.map e) i with | some d => R.ok d | none => .no) = _
  rw [atI_map, of_ix h]
  rfl
theorem fIx_L {xs : List α} {i : Int} {x : α} (h : ix xs i = .ok x) : fIx (eL e xs) (.int i) = .ok (e x) := by
  show (match atI (xs.map e) i with | some d => R.ok d | none => .no) = _
  rw [atI_map, of_ix h]
  rfl
theorem oLen_L (o : α → O) (xs : List α) : oLen (oL o xs) = .ok (.int xs.length) := by
  show R.ok (D.int (xs.map o).length) = _
  rw [List.length_map]
theorem oLen_T (xs : List α) : oLen (.d (eT e xs)) = .ok (.int xs.length) := by
  show R.ok (D.int (xs.map e).length) = _
  rw [List.length_map]
theorem oLen_dL (xs : List α) : oLen (.d (eL e xs)) = .ok (.int xs.length) := by
  show R.ok (D.int (xs.map e).length) = _
  rw [List.length_map]
theorem oLen_dK (xs : List α) : oLen (.d (eK e xs)) = .ok (.int xs.length) := by
  show R.ok (D.int (xs.map e).length) = _
  rw [List.length_map]
theorem u_lenN (k : Nat) {o : O} {z : D} (h0 : δ[k]? = some (some o)) (hz : oLen o = .ok z) : dLenN k δ = .ok (z, δ) := by
  unfold dLenN
  rw [h0]
  dsimp only
  rw [hz]
theorem fLen_T (xs : List α) : fLen (eT e xs) = .ok (.int xs.length) := by
  show R.ok (D.int (xs.map e).length) = _
  rw [List.length_map]
theorem fLen_L (xs : List α) : fLen (eL e xs) = .ok (.int xs.length) := by
  show R.ok (D.int (xs.map e).length) = _
  rw [List.length_map]
theorem ints_map : ∀ xs : List Int, D.ints (xs.map eInt) = some xs
  | [] => rfl
  | x :: xs => by
    rw [List.map_cons, D.ints, ints_map xs]
    rfl
theorem bools_map : ∀ xs : List Bool, D.bools (xs.map eBl) = some xs
  | [] => rfl
  | x :: xs => by
    rw [List.map_cons, D.bools, bools_map xs]
    rfl
theorem fSum_L (xs : List Int) : fSum (eL eInt xs) = .ok (.int xs.sum) := by
  show (match D.ints (xs.map eInt) with | some is => R.ok (D.int (sumI is 0)) | none => .no) = _
  rw [ints_map]
  dsimp only
  rw [sumI_eq, Int.zero_add]
theorem fAny_L (xs : List Bool) : fAny (eL eBl xs) = .ok (.bl (xs.any id)) := by
  show (match D.bools (xs.map eBl) with | some is => R.ok (D.bl (is.any id)) | none => .no) = _
  rw [bools_map]
theorem fAll_L (xs : List Bool) : fAll (eL eBl xs) = .ok (.bl (xs.all id)) := by
  show (match D.bools (xs.map eBl) with | some is => R.ok (D.bl (is.all id)) | none => .no) = _
  rw [bools_map]
def minL : List Int → R Int
  | [] => .no
  | i :: is => .ok (leastI is i)
def maxL : List Int → R Int
  | [] => .no
  | i :: is => .ok (mostI is i)
theorem fMin_L {xs : List Int} {r : Int} (h : minL xs = .ok r) : fMin (eL eInt xs) = .ok (.int r) := by
  show (match D.ints (xs.map eInt) with | some (i :: is) => R.ok (D.int (leastI is i)) | _ => .no) = _
  rw [ints_map]
  cases xs with
  | nil => cases h
  | cons x xs => cases h; rfl
theorem fMax_L {xs : List Int} {r : Int} (h : maxL xs = .ok r) : fMax (eL eInt xs) = .ok (.int r) := by
  show (match D.ints (xs.map eInt) with | some (i :: is) => R.ok (D.int (mostI is i)) | _ => .no) = _
  rw [ints_map]
  cases xs with
  | nil => cases h
  | cons x xs => cases h; rfl
theorem u_min2 {ms : DM (List D)} {i j : Int} (h : ms δ = .ok ([.int i, .int j], δ1)) : dMin2 ms δ = .ok (.int (if j < i then j else i), δ1) := by
  unfold dMin2
  rw [h]
theorem u_max2 {ms : DM (List D)} {i j : Int} (h : ms δ = .ok ([.int i, .int j], δ1)) : dMax2 ms δ = .ok (.int (if j > i then j else i), δ1) := by
  unfold dMax2
  rw [h]
/-- a list so many times -/
def rep (xs : List α) (k : Int) : R (List α) := if (decide (-1000000 ≤ k) && decide (k ≤ 1000000) && small (xs.length * k.toNat)) = true then .ok (List.replicate k.toNat xs).flatten else .no
def repT (xs : List α) (k : Int) : R (List α) := if (decide (-1000000 ≤ k) && decide (k ≤ 1000) && Nat.ble xs.length 1000) = true then .ok (List.replicate k.toNat xs).flatten else .no
theorem map_rep (f : α → β) (xs : List α) (n : Nat) : (List.replicate n xs).flatten.map f = (List.replicate n (xs.map f)).flatten := by
  rw [List.map_flatten, List.map_replicate]
theorem fMul_L {xs ys : List α} {k : Int} (h : rep xs k = .ok ys) : fMul (eL e xs) (.int k) = .ok (oL (oD e) ys) := by
  unfold rep at h
  split at h
  · rename_i c
    cases h
    show (if (decide (-1000000 ≤ k) && decide (k ≤ 1000000) && small ((xs.map e).length * k.toNat)) = true then R.ok (O.lst ((List.replicate k.toNat (xs.map e)).flatten.map .d)) else .no) = _
    rw [List.length_map, if_pos c, ← map_rep, map_oD]
  · cases h
theorem fMul_T {xs ys : List α} {k : Int} (h : repT xs k = .ok ys) : fMul (eT e xs) (.int k) = .ok (oD (eT e) ys) := by
  unfold repT at h
  split at h
  · rename_i c
    cases h
    show (if (decide (-1000000 ≤ k) && decide (k ≤ 1000) && Nat.ble (xs.map e).length 1000) = true then R.ok (O.d (.tup (List.replicate k.toNat (xs.map e)).flatten)) else .no) = _
    rw [List.length_map, if_pos c, ← map_rep]
  · cases h
def cat (xs ys : List α) : R (List α) := if small (xs.length + ys.length) = true then .ok (xs ++ ys) else .no
theorem fAdd_L {xs ys zs : List α} (h : cat xs ys = .ok zs) : fAdd (eL e xs) (eL e ys) = .ok (oL (oD e) zs) := by
  unfold cat at h
  split at h
  · rename_i c
    cases h
    show (if small ((xs.map e).length + (ys.map e).length) = true then R.ok (O.lst ((xs.map e ++ ys.map e).map .d)) else .no) = _
    rw [List.length_map, List.length_map, if_pos c, ← List.map_append, map_oD]
  · cases h
theorem fAdd_T {xs ys zs : List α} (h : cat xs ys = .ok zs) : fAdd (eT e xs) (eT e ys) = .ok (oD (eT e) zs) := by
  unfold cat at h
  split at h
  · rename_i c
    cases h
    show (if small ((xs.map e).length + (ys.map e).length) = true then R.ok (O.d (.tup (xs.map e ++ ys.map e))) else .no) = _
    rw [List.length_map, List.length_map, if_pos c, ← List.map_append]
  · cases h
/-- a slice -/
def sl (xs : List α) (lo hi : Option Int) : List α := (xs.drop (HT.sIx xs.length 0 lo)).take (HT.sIx xs.length xs.length hi - HT.sIx xs.length 0 lo)
theorem cut_map (xs : List α) (lo hi : Option Int) : cutD (xs.map e) lo hi = (sl xs lo hi).map e := by
  unfold cutD sl
  rw [List.length_map, List.map_take, List.map_drop]
theorem fSl_T (xs : List α) (lo hi : Option Int) : fSl (eT e xs) lo hi = .ok (oD (eT e) (sl xs lo hi)) := by
  show R.ok (O.d (.tup (cutD (xs.map e) lo hi))) = _
  rw [cut_map]
theorem fSl_L (xs : List α) (lo hi : Option Int) : fSl (eL e xs) lo hi = .ok (oL (oD e) (sl xs lo hi)) := by
  show R.ok (O.lst ((cutD (xs.map e) lo hi).map .d)) = _
  rw [cut_map, map_oD]
theorem fSl_K (xs : List α) (lo hi : Option Int) : fSl (eK e xs) lo hi = .ok (oL (oD e) (sl xs lo hi)) := by
  show R.ok (O.lst ((cutD (xs.map e) lo hi).map .d)) = _
  rw [cut_map, map_oD]
theorem u_pnone : pNone δ = .ok (none, δ) := rfl
theorem u_psome {m : DM D} {i : Int} (h : m δ = .ok (.int i, δ1)) : pSome m δ = .ok (some i, δ1) := by
  unfold pSome
  rw [h]
theorem u_sl {ma : DM D} {ml mh : DM (Option Int)} {x : D} {lo hi : Option Int} {o : O} {δ3 : DEnv} (h1 : ma δ = .ok (x, δ1)) (h2 : ml δ1 = .ok (lo, δ2)) (h3 : mh δ2 = .ok (hi, δ3)) (h4 : fSl x lo hi = .ok o) : oSl ma ml mh δ = .ok (o, δ3) := by
  unfold oSl
  rw [h1]
  dsimp only
  rw [h2]
  dsimp only
  rw [h3]
  dsimp only
  rw [h4]
theorem fList_T (xs : List α) : fList (eT e xs) = .ok (oL (oD e) xs) := by
  show R.ok (O.lst ((xs.map e).map .d)) = _
  rw [map_oD]
theorem fList_L (xs : List α) : fList (eL e xs) = .ok (oL (oD e) xs) := by
  show R.ok (O.lst ((xs.map e).map .d)) = _
  rw [map_oD]
theorem fList_K (xs : List α) : fList (eK e xs) = .ok (oL (oD e) xs) := by
  show R.ok (O.lst ((xs.map e).map .d)) = _
  rw [map_oD]
theorem fRev_L (xs : List α) : fRev (eL e xs) = .ok (oL (oD e) xs.reverse) := by
  show R.ok (O.lst ((xs.map e).reverse.map .d)) = _
  rw [← List.map_reverse, map_oD]
theorem u_orL {ma mb : DM O} {o : α → O} {xs ys : List α} (h : ma δ = .ok (oL o xs, δ1)) (h2 : xs = [] → mb δ1 = .ok (oL o ys, δ1)) : oOrL ma mb δ = .ok (oL o (if xs.isEmpty = true then ys else xs), δ1) := by
  unfold oOrL
  rw [h]
  cases xs with
  | nil => exact h2 rfl
  | cons x xs => rfl
/-! ### orders -/
theorem fLt_T (xs ys : List Int) : fLtA (eT eInt xs) (eT eInt ys) = .ok (.bl (HT.lexLt xs ys)) := by
  show (match D.ints (xs.map eInt), D.ints (ys.map eInt) with | some is, some js => R.ok (D.bl (HT.lexLt is js)) | _, _ => .no) = _
  rw [ints_map, ints_map]
theorem fGe_T (xs ys : List Int) : fGeA (eT eInt xs) (eT eInt ys) = .ok (.bl (lexGeI xs ys)) := by
  show (match D.ints (xs.map eInt), D.ints (ys.map eInt) with | some is, some js => R.ok (D.bl (lexGeI is js)) | _, _ => .no) = _
  rw [ints_map, ints_map]
theorem fSorted_I (xs : List Int) : fSorted (eL eInt xs) = .ok (oL (oD eInt) (msort intLe xs.length xs)) := by
  show (match D.ints (xs.map eInt) with | some is => R.ok (O.lst ((msort intLe is.length is).map fun i => .d (.int i))) | none => _) = _
  rw [ints_map]
theorem rows_map : ∀ xs : List (List Int), (xs.all fun x => !x.isEmpty) = true → D.rows (xs.map (eT eInt)) = some xs
  | [], _ => rfl
  | [] :: xs, h => by cases h
  | (y :: x) :: xs, h => by
    have h' : (xs.all fun x => !x.isEmpty) = true := h
    rw [List.map_cons]
    show (match D.ints (D.int y :: x.map eInt), D.rows (xs.map (eT eInt)) with | some r, some rs => some (r :: rs) | _, _ => none) = _
    have e1 : D.ints (D.int y :: x.map eInt) = some (y :: x) := ints_map (y :: x)
    rw [e1, rows_map xs h']
def sortR (xs : List (List Int)) : R (List (List Int)) := if (xs.all fun x => !x.isEmpty) = true then .ok (msort leR xs.length xs) else .no
theorem fSorted_R {xs ys : List (List Int)} (h : sortR xs = .ok ys) : fSorted (eL (eT eInt) xs) = .ok (oL (oD (eT eInt)) ys) := by
  unfold sortR at h
  split at h
  · rename_i c
    cases h
    show (match D.ints (xs.map (eT eInt)) with | some is => R.ok (O.lst ((msort intLe is.length is).map fun i => .d (.int i))) | none => (match D.rows (xs.map (eT eInt)) with | some rs => .ok (.lst ((msort leR rs.length rs).map fun r => .d (rowD r))) | none => .no)) = _
    cases xs with
    | nil => rfl
    | cons x xs =>
      have e1 : D.ints ((x :: xs).map (eT eInt)) = none := rfl
      rw [e1, rows_map _ c]
      rfl
  · cases h
end
end U
/-! U2: the typed layer: blocks, loops, comprehensions. -/
namespace U
open PySem L2 G

def Tl (r : R (Fl × DEnv)) (P : Fl → DEnv → Prop) : Prop := ∃ fl δ', r = .ok (fl, δ') ∧ P fl δ'
/-- a def's end -/
def PF (o : O) (fl : Fl) (_ : DEnv) : Prop := fl = .rt o ∨ (fl = .nx ∧ o = .d .non)
theorem run_of {n np : Nat} {m : SM} {os : List O} {o : O} (hl : os.length = np) (h : Tl (m (os.map some ++ List.replicate (n - np) none)) (PF o)) : runDef n np none m os = .ok (o, none) := by
  obtain ⟨fl, δ', h1, h2⟩ := h
  unfold runDef
  rw [if_pos hl, h1]
  rcases h2 with h2 | ⟨h2, h3⟩
  · subst h2; rfl
  · subst h2; subst h3; rfl
theorem run_ofR {n np i : Nat} {m : SM} {os : List O} {o o' : O} (hl : os.length = np) (h : Tl (m (os.map some ++ List.replicate (n - np) none)) (fun fl δ' => PF o fl δ' ∧ δ'[i]? = some (some o'))) : runDef n np (some i) m os = .ok (o, some o') := by
  obtain ⟨fl, δ', h1, h2, h4⟩ := h
  unfold runDef
  rw [if_pos hl, h1]
  rcases h2 with h2 | ⟨h2, h3⟩
  · subst h2
    dsimp only
    rw [h4]
  · subst h2; subst h3
    dsimp only
    rw [h4]
section
variable {δ δ1 δ2 : DEnv} {a b r x y : SM} {P : Fl → DEnv → Prop}
theorem tl_seq (h : a δ = .ok (.nx, δ1)) (k : Tl (b δ1) P) : Tl (sSeq a b δ) P := by
  obtain ⟨fl, δ', h1, h2⟩ := k
  refine ⟨fl, δ', ?_, h2⟩
  unfold sSeq
  rw [h]
  exact h1
theorem tl_end (h : P .nx δ) : Tl (sNil δ) P := ⟨.nx, δ, rfl, h⟩
theorem tl_rt {m : DM O} {o : O} (h : m δ = .ok (o, δ1)) (p : P (.rt o) δ1) : Tl (sSeq (sRet m) r δ) P := by
  refine ⟨.rt o, δ1, ?_, p⟩
  unfold sSeq sRet
  rw [h]
theorem tl_rtN (p : P (.rt (.d .non)) δ) : Tl (sSeq sRetN r δ) P := ⟨.rt (.d .non), δ, rfl, p⟩
theorem tl_ct (p : P .ct δ) : Tl (sSeq sCnt r δ) P := ⟨.ct, δ, rfl, p⟩
theorem tl_bk (p : P .bk δ) : Tl (sSeq sBrk r δ) P := ⟨.bk, δ, rfl, p⟩
theorem seq_assoc (a b r : SM) (δ : DEnv) : sSeq (sSeq a b) r δ = sSeq a (sSeq b r) δ := by
  unfold sSeq
  cases a δ with
  | exc n => rfl
  | no => rfl
  | ok p =>
    obtain ⟨fl, δ1⟩ := p
    cases fl <;> rfl
theorem tl_assoc (h : Tl (sSeq a (sSeq b r) δ) P) : Tl (sSeq (sSeq a b) r δ) P := by
  rw [seq_assoc]
  exact h
theorem tl_nil (h : Tl (r δ) P) : Tl (sSeq sNil r δ) P := h
theorem tl_wipe {V : List Nat} (h : Tl (r (wipeD δ V)) P) : Tl (sWipe V r δ) P := h
theorem tl_wipes {V : List Nat} (h : Tl (sSeq a r (wipeD δ V)) P) : Tl (sSeq (sWipe V a) r δ) P := h
theorem tl_frz {i : Nat} {o : O} {d : D} (e : δ[i]? = some (some o)) (hd : o.frz = d) (h : Tl (r (δ.set i (some (.d d)))) P) : Tl (sFrz i r δ) P := by
  unfold sFrz frzS
  rw [e]
  dsimp only
  rw [hd]
  exact h
theorem tl_if {t : DM Bool} {c : Bool} (h : t δ = .ok (c, δ1)) (h1 : c = true → Tl (sSeq x r δ1) P) (h2 : c = false → Tl (sSeq y r δ1) P) : Tl (sSeq (sIf t x y) r δ) P := by
  have e : sSeq (sIf t x y) r δ = if c = true then sSeq x r δ1 else sSeq y r δ1 := by
    unfold sSeq sIf
    rw [h]
    cases c <;> rfl
  rw [e]
  cases c with
  | true => exact h1 rfl
  | false => exact h2 rfl
theorem tl_ifT {t : DM Bool} (h : t δ = .ok (true, δ1)) (h1 : Tl (sSeq x r δ1) P) : Tl (sSeq (sIf t x y) r δ) P := tl_if h (fun _ => h1) (fun z => by cases z)
theorem tl_ifF {t : DM Bool} (h : t δ = .ok (false, δ1)) (h1 : Tl (sSeq y r δ1) P) : Tl (sSeq (sIf t x y) r δ) P := tl_if h (fun z => by cases z) (fun _ => h1)
/-- a block whose ways meet again -/
theorem tl_blk {V : List Nat} (h : Tl (a δ) (fun fl δ' => fl = .nx ∧ wipeD δ' V = δ1)) (k : Tl (b δ1) P) : Tl (sSeq a (sWipe V b) δ) P := by
  obtain ⟨fl, δ', h1, h2, h3⟩ := h
  subst h2
  refine tl_seq h1 ?_
  show Tl (b (wipeD δ' V)) P
  rw [h3]
  exact k
/-- a test inside such a block -/
theorem tl_if0 {t : DM Bool} {c : Bool} (h : t δ = .ok (c, δ1)) (h1 : c = true → Tl (x δ1) P) (h2 : c = false → Tl (y δ1) P) : Tl (sIf t x y δ) P := by
  have e : sIf t x y δ = if c = true then x δ1 else y δ1 := by
    unfold sIf
    rw [h]
    cases c <;> rfl
  rw [e]
  cases c with
  | true => exact h1 rfl
  | false => exact h2 rfl

/-! ### statements -/
theorem blt_lt {i n : Nat} (h : Nat.blt i n = true) : i < n := Nat.le_of_ble_eq_true h
theorem u_set (i : Nat) {m : DM O} {o : O} (h : m δ = .ok (o, δ1)) (hl : Nat.blt i δ1.length = true) (e : δ1.set i (some o) = δ2) : sSet i m δ = .ok (.nx, δ2) := by
  unfold sSet
  rw [h]
  dsimp only
  rw [if_pos (blt_lt hl), ← e]
theorem u_asg {m : DM D} {d : D} {g : D → DEnv → R DEnv} (h : m δ = .ok (d, δ1)) (hg : g d δ1 = .ok δ2) : sAsg m g δ = .ok (.nx, δ2) := by
  unfold sAsg
  rw [h]
  dsimp only
  rw [hg]
theorem u_par (i j : Nat) {m : DM (List O)} {o1 o2 : O} (h : m δ = .ok ([o1, o2], δ1)) (hl : (Nat.blt i δ1.length && Nat.blt j δ1.length) = true) (e : (δ1.set i (some o1)).set j (some o2) = δ2) : sPar i j m δ = .ok (.nx, δ2) := by
  rw [Bool.and_eq_true] at hl
  unfold sPar
  rw [h]
  dsimp only
  rw [if_pos ⟨blt_lt hl.1, blt_lt hl.2⟩, ← e]
theorem u_drop {m : DM D} {d : D} (h : m δ = .ok (d, δ1)) : sDrop m δ = .ok (.nx, δ1) := by
  unfold sDrop
  rw [h]
theorem u_append (k : Nat) {α : Type} {o : α → O} {m : DM O} {xs : List α} {y : α} {os0 : List O} {z : O} (h0 : δ[k]? = some (some (.lst os0))) (h : m δ = .ok (z, δ1)) (hz0 : z = o y) (h1 : δ1[k]? = some (some (oL o xs))) (hz : Nat.blt xs.length 16777216 = true) (e : δ1.set k (some (oL o (xs ++ [y]))) = δ2) : sAppend' k m δ = .ok (.nx, δ2) := by
  unfold sAppend'
  rw [h0]
  dsimp only
  rw [if_pos (show (O.lst os0).isLst = true from rfl)]
  unfold sAppend
  rw [h0]
  dsimp only
  rw [h]
  dsimp only
  rw [h1]
  dsimp only
  rw [List.length_map, if_pos hz, ← e, hz0]
  show _ = R.ok (Fl.nx, δ1.set k (some (O.lst ((xs ++ [y]).map o))))
  rw [List.map_append]
  rfl
theorem u_extend (k : Nat) {α : Type} {e : α → D} {m : DM D} {xs ys : List α} {os0 : List O} (h0 : δ[k]? = some (some (.lst os0))) (h : m δ = .ok (eL e ys, δ1)) (h1 : δ1[k]? = some (some (oL (oD e) xs))) (hz : Nat.ble (xs.length + ys.length) 16777216 = true) (ee : δ1.set k (some (oL (oD e) (xs ++ ys))) = δ2) : sDrop (dMth k eExt (dCons m aNil)) δ = .ok (.nx, δ2) := by
  refine u_drop (d := .non) ?_
  unfold dMth
  rw [h0]
  dsimp only
  rw [if_pos (show (O.lst os0).isLst = true from rfl), u_cons h (u_nil)]
  dsimp only
  rw [h1]
  dsimp only
  have e1 : eExt (xs.map (oD e)) [eL e ys] = .ok ((xs ++ ys).map (oD e), .non) := by
    show (if Nat.ble ((xs.map (oD e)).length + (ys.map e).length) 16777216 = true then R.ok (xs.map (oD e) ++ (ys.map e).map O.d, D.non) else .no) = _
    rw [List.length_map, List.length_map, if_pos hz, map_oD, List.map_append]
  rw [e1, ← ee]
def popAt {α : Type} (xs : List α) (i : Int) : R (α × List α) := if -(2 ^ 63) ≤ i ∧ i < 2 ^ 63 then (match seqIndex? i xs.length with
  | some k => (match xs[k]? with
    | some x => .ok (x, xs.eraseIdx k)
    | none => .no)
  | none => .no) else .no
theorem map_erase {α β : Type} (f : α → β) : ∀ (l : List α) (j : Nat), (l.eraseIdx j).map f = (l.map f).eraseIdx j
  | [], j => rfl
  | x :: l, 0 => rfl
  | x :: l, j + 1 => by
    rw [List.eraseIdx_cons_succ, List.map_cons, List.map_cons, List.eraseIdx_cons_succ, map_erase f l j]
theorem u_popAt (k : Nat) {α : Type} {e : α → D} {m : DM (List D)} {xs : List α} {i : Int} {p : α × List α} {os0 : List O} (h0 : δ[k]? = some (some (.lst os0))) (h : m δ = .ok ([.int i], δ1)) (h1 : δ1[k]? = some (some (oL (oD e) xs))) (hp : popAt xs i = .ok p) (ee : δ1.set k (some (oL (oD e) p.2)) = δ2) : dMth k ePopAt m δ = .ok (e p.1, δ2) := by
  unfold dMth
  rw [h0]
  dsimp only
  rw [if_pos (show (O.lst os0).isLst = true from rfl), h]
  dsimp only
  rw [h1]
  dsimp only
  have e1 : ePopAt (xs.map (oD e)) [.int i] = .ok (p.2.map (oD e), e p.1) := by
    unfold popAt at hp
    unfold ePopAt
    dsimp only
    split at hp
    · rename_i c
      rw [if_pos c, List.length_map]
      cases q : seqIndex? i xs.length with
      | none => rw [q] at hp; cases hp
      | some j =>
        rw [q] at hp
        dsimp only at hp ⊢
        cases q2 : xs[j]? with
        | none => rw [q2] at hp; cases hp
        | some x =>
          rw [q2] at hp
          cases hp
          have e2 : (xs.map (oD e))[j]? = some (.d (e x)) := by rw [List.getElem?_map, q2]; rfl
          rw [e2]
          dsimp only
          rw [map_erase]
    · cases hp
  rw [e1, ← ee]
def setIx {α : Type} (xs : List α) (i : Int) (y : α) : R (List α) := match ixN xs.length i with
  | some j => .ok (xs.set j y)
  | none => .no
theorem u_gsub (k : Nat) {α : Type} {e : α → D} {mi : DM D} {xs ys : List α} {i : Int} {y : α} {os0 : List O} (h0 : δ[k]? = some (some (.lst os0))) (h : mi δ = .ok (.int i, δ1)) (h1 : δ1[k]? = some (some (oL (oD e) xs))) (hs : setIx xs i y = .ok ys) (ee : δ1.set k (some (oL (oD e) ys)) = δ2) : gSubN k mi (e y) δ = .ok δ2 := by
  unfold gSubN
  rw [h0]
  dsimp only
  rw [if_pos (show (O.lst os0).isLst = true from rfl), h]
  dsimp only
  rw [h1]
  dsimp only
  unfold setIx at hs
  rw [List.length_map]
  cases q : ixN xs.length i with
  | none => rw [q] at hs; cases hs
  | some j =>
    rw [q] at hs
    cases hs
    dsimp only
    rw [← ee]
    show _ = R.ok (δ1.set k (some (O.lst ((xs.set j y).map (oD e)))))
    rw [List.map_set]
theorem u_augSub (k : Nat) {g : Int → Int → Int} {mi me : DM D} {xs ys : List Int} {i v y : Int} {os0 : List O} (h0 : δ[k]? = some (some (.lst os0))) (h : mi δ = .ok (.int i, δ1)) (h1 : δ1[k]? = some (some (oL (oD eInt) xs))) (hv : ix xs i = .ok v) (hm : me δ1 = .ok (.int y, δ1)) (hs : setIx xs i (g v y) = .ok ys) (ee : δ1.set k (some (oL (oD eInt) ys)) = δ2) : sAugSub k mi me (fIp g) δ = .ok (.nx, δ2) := by
  unfold sAugSub
  rw [h0]
  dsimp only
  rw [if_pos (show (O.lst os0).isLst = true from rfl), h]
  dsimp only
  rw [h1]
  dsimp only
  have e1 : atI (xs.map (oD eInt)) i = some (.d (.int v)) := by rw [atI_map, of_ix hv]; rfl
  rw [e1]
  dsimp only
  rw [hm]
  dsimp only
  have e2 : fIp g (.int v) (.int y) = .ok (.int (g v y)) := rfl
  rw [e2]
  dsimp only
  rw [h1]
  dsimp only
  unfold setIx at hs
  rw [List.length_map]
  cases q : ixN xs.length i with
  | none => rw [q] at hs; cases hs
  | some j =>
    rw [q] at hs
    cases hs
    dsimp only
    rw [← ee]
    show _ = R.ok (Fl.nx, δ1.set k (some (O.lst ((xs.set j (g v y)).map (oD eInt)))))
    rw [List.map_set]
theorem u_aug (k : Nat) {f : D → D → R D} {me : DM D} {x y z : D} (h0 : δ[k]? = some (some (.d x))) (hm : me δ = .ok (y, δ1)) (hf : f x y = .ok z) (hl : Nat.blt k δ1.length = true) (ee : δ1.set k (some (.d z)) = δ2) : sAug k me f δ = .ok (.nx, δ2) := by
  unfold sAug
  rw [h0]
  dsimp only
  rw [hm]
  dsimp only
  rw [hf]
  dsimp only
  rw [if_pos (blt_lt hl), ← ee]
end

/-! ### targets -/
def setAll : List (Nat × D) → DEnv → DEnv
  | [], δ => δ
  | p :: ps, δ => setAll ps (δ.set p.1 (some (.d p.2)))
theorem setAll_length : ∀ (ps : List (Nat × D)) (δ : DEnv), (setAll ps δ).length = δ.length
  | [], δ => rfl
  | p :: ps, δ => by rw [setAll, setAll_length ps, List.length_set]
theorem setAll_append : ∀ (ps qs : List (Nat × D)) (δ : DEnv), setAll (ps ++ qs) δ = setAll qs (setAll ps δ)
  | [], qs, δ => rfl
  | p :: ps, qs, δ => setAll_append ps qs _
/-- a target that stores these -/
def TgOk (n : Nat) (g : D → DEnv → R DEnv) (d : D) (T : List (Nat × D)) : Prop := ∀ δ : DEnv, δ.length = n → g d δ = .ok (setAll T δ)
def TgsOk (n : Nat) (g : List D → DEnv → R DEnv) (ds : List D) (T : List (Nat × D)) : Prop := ∀ δ : DEnv, δ.length = n → g ds δ = .ok (setAll T δ)
theorem tg_name {n : Nat} (i : Nat) {d : D} (h : Nat.blt i n = true) : TgOk n (gN i) d [(i, d)] := fun δ hl => by
  unfold gN
  rw [if_pos (by rw [hl]; exact blt_lt h)]
  rfl
theorem tgs_nil {n : Nat} : TgsOk n gsN [] [] := fun δ _ => rfl
theorem tgs_cons {n : Nat} {g : D → DEnv → R DEnv} {gs : List D → DEnv → R DEnv} {d : D} {ds : List D} {T T' : List (Nat × D)} (h : TgOk n g d T) (h' : TgsOk n gs ds T') : TgsOk n (gsC g gs) (d :: ds) (T ++ T') := fun δ hl => by
  show (match g d δ with | .ok δ' => gs ds δ' | _ => .no) = _
  rw [h δ hl]
  dsimp only
  rw [h' _ (by rw [setAll_length]; exact hl), setAll_append]
theorem tg_tup {n m : Nat} {gs : List D → DEnv → R DEnv} {ds : List D} {T : List (Nat × D)} (h : TgsOk n gs ds T) (hl : ds.length = m) : TgOk n (gTn m gs) (.tup ds) T := fun δ hn => by
  show (if ds.length = m then gs ds δ else .no) = _
  rw [if_pos hl]
  exact h δ hn
theorem wipeD_length (δ : DEnv) : ∀ vs : List Nat, (wipeD δ vs).length = δ.length
  | [] => rfl
  | v :: vs => by rw [wipeD, List.length_set, wipeD_length δ vs]
theorem wipeD_get (δ : DEnv) : ∀ (vs : List Nat) (j : Nat), (wipeD δ vs)[j]? = if j ∈ vs then (if j < δ.length then some none else none) else δ[j]?
  | [], j => by simp [wipeD]
  | v :: vs, j => by
    rw [wipeD, List.getElem?_set, wipeD_length, wipeD_get δ vs j]
    by_cases h : v = j
    · subst h
      simp
    · have h' : ¬ j = v := fun z => h z.symm
      simp [h, h']
theorem wipeD_eq {δ δ' : DEnv} {vs : List Nat} (hl : δ.length = δ'.length) (h : ∀ j, j ∉ vs → δ[j]? = δ'[j]?) : wipeD δ vs = wipeD δ' vs := by
  apply List.ext_getElem?
  intro j
  rw [wipeD_get, wipeD_get, hl]
  by_cases hj : j ∈ vs
  · rw [if_pos hj, if_pos hj]
  · rw [if_neg hj, if_neg hj, h j hj]
theorem setAll_out : ∀ (T : List (Nat × D)) (δ : DEnv) (j : Nat), j ∉ T.map (·.1) → (setAll T δ)[j]? = δ[j]?
  | [], δ, j, h => rfl
  | p :: T, δ, j, h => by
    rw [List.map_cons, List.mem_cons, not_or] at h
    rw [setAll, setAll_out T _ j h.2, List.getElem?_set_ne fun z => h.1 z.symm]
theorem setAll_in : ∀ (T : List (Nat × D)) (δ δ' : DEnv) (j : Nat), j ∈ T.map (·.1) → δ.length = δ'.length → (setAll T δ)[j]? = (setAll T δ')[j]?
  | [], δ, δ', j, h, hl => by cases h
  | p :: T, δ, δ', j, h, hl => by
    rw [setAll, setAll]
    by_cases hj : j ∈ T.map (·.1)
    · exact setAll_in T _ _ j hj (by rw [List.length_set, List.length_set, hl])
    · rw [setAll_out T _ j hj, setAll_out T _ j hj]
      rw [List.map_cons] at h
      have e := (List.mem_cons.mp h).resolve_right hj
      subst e
      rw [List.getElem?_set, List.getElem?_set, hl, if_pos rfl, if_pos rfl]
theorem wipe_setAll {T : List (Nat × D)} {δ : DEnv} {vs : List Nat} (h : ∀ j ∈ T.map (·.1), j ∈ vs) : wipeD (setAll T δ) vs = wipeD δ vs :=
  wipeD_eq (setAll_length T δ) fun j hj => setAll_out T δ j fun z => hj (h j z)
theorem wipeD_idem (δ : DEnv) (vs : List Nat) : wipeD (wipeD δ vs) vs = wipeD δ vs :=
  wipeD_eq (wipeD_length δ vs) fun j hj => by rw [wipeD_get, if_neg hj]
/-- a target's slots stored, the others forgotten -/
theorem wipe_tail {T : List (Nat × D)} {δ : DEnv} {idx V : List Nat} (hx : T.map (·.1) = idx) (hd : (idx.all fun i => !V.contains i) = true) : wipeD (setAll T δ) V = setAll T (wipeD δ (idx ++ V)) := by
  have hd' : ∀ i ∈ idx, i ∉ V := fun i hi z => by
    have := List.all_eq_true.mp hd i hi
    simp [z] at this
  apply List.ext_getElem?
  intro j
  rw [wipeD_get]
  by_cases hj : j ∈ V
  · have hn : j ∉ idx := fun z => hd' j z hj
    rw [if_pos hj, setAll_length, setAll_out T _ j (by rw [hx]; exact hn), wipeD_get, if_pos (List.mem_append_right _ hj)]
  · rw [if_neg hj]
    by_cases hi : j ∈ idx
    · exact setAll_in T _ _ j (by rw [hx]; exact hi) (by rw [wipeD_length])
    · rw [setAll_out T _ j (by rw [hx]; exact hi), setAll_out T _ j (by rw [hx]; exact hi), wipeD_get, if_neg]
      intro z
      rcases List.mem_append.mp z with z | z
      · exact hi z
      · exact hj z

/-! ### loops -/
section
variable {α β S ρ : Type}
def forM (f : α → S → R S) : List α → S → R S
  | [], s => .ok s
  | x :: xs, s => bind (f x s) fun s' => forM f xs s'
inductive Ctl (S ρ : Type) where
  | nx (s : S) | bk (s : S) | rt (v : ρ)
def forC (f : α → S → R (Ctl S ρ)) : List α → S → R (Ctl S ρ)
  | [], s => .ok (.nx s)
  | x :: xs, s => bind (f x s) fun c => match c with
    | .nx s' => forC f xs s'
    | .bk s' => .ok (.nx s')
    | .rt v => .ok (.rt v)
def whileM (c : S → R Bool) (f : S → R S) : Nat → S → R S
  | 0, _ => .no
  | n + 1, s => bind (c s) fun b => if b = true then bind (f s) fun s' => whileM c f n s' else .ok s
def whileC (c : S → R Bool) (f : S → R (Ctl S ρ)) : Nat → S → R (Ctl S ρ)
  | 0, _ => .no
  | n + 1, s => bind (c s) fun b => if b = true then bind (f s) fun c' => (match c' with
    | .nx s' => whileC c f n s'
    | .bk s' => .ok (.nx s')
    | .rt v => .ok (.rt v)) else .ok (.nx s)
def PB (lit : S → DEnv) (V : List Nat) (o : ρ → O) (c : Ctl S ρ) (fl : Fl) (δ' : DEnv) : Prop := match c with
  | .nx s => (fl = .nx ∨ fl = .ct) ∧ wipeD δ' V = lit s
  | .bk s => fl = .bk ∧ wipeD δ' V = lit s
  | .rt v => fl = .rt (o v)
def PC (lit : S → DEnv) (V : List Nat) (o : ρ → O) (c : Ctl S ρ) (fl : Fl) (δ' : DEnv) : Prop := match c with
  | .nx s => fl = .nx ∧ wipeD δ' V = lit s
  | .bk s => False
  | .rt v => fl = .rt (o v)
variable {e : α → D} {mi : DM (List D)} {g : D → DEnv → R DEnv} {body : SM} {idx V : List Nat} {n : Nat} {T : α → List (Nat × D)} {lit : S → DEnv} {δ δ1 : DEnv}
theorem forL_M {f : α → S → R S}
    (hn : ∀ s, (lit s).length = n) (ht : ∀ x, TgOk n g (e x) (T x)) (hx : ∀ x, (T x).map (·.1) = idx) (hd : (idx.all fun i => !V.contains i) = true) :
    ∀ (xs : List α) (s s' : S) (δ : DEnv), (∀ x ∈ xs, ∀ s s', f x s = .ok s' → Tl (body (setAll (T x) (lit s))) (fun fl δ' => (fl = .nx ∨ fl = .ct) ∧ wipeD δ' (idx ++ V) = lit s')) → wipeD δ (idx ++ V) = lit s → forM f xs s = .ok s' → Tl (sForL g (sWipe V body) (xs.map e) δ) (fun fl δ' => fl = .nx ∧ wipeD δ' (idx ++ V) = lit s')
  | [], s, s', δ, st, h0, h => by
    cases h
    exact ⟨.nx, δ, rfl, rfl, h0⟩
  | x :: xs, s, s', δ, st, h0, h => by
    obtain ⟨s1, h1, h2⟩ := of_bind h
    have hl : δ.length = n := by rw [← hn s, ← h0, wipeD_length]
    obtain ⟨fl, δ2, e1, e2, e3⟩ := st x (List.mem_cons_self ..) s s1 h1
    obtain ⟨fl', δ', i1, i2, i3⟩ := forL_M hn ht hx hd xs s1 s' δ2 (fun y hy => st y (List.mem_cons_of_mem _ hy)) e3 h2
    refine ⟨fl', δ', ?_, i2, i3⟩
    have ew : sWipe V body (setAll (T x) δ) = .ok (fl, δ2) := by
      show body (wipeD (setAll (T x) δ) V) = _
      rw [wipe_tail (hx x) hd, h0, e1]
    rw [List.map_cons, sForL, ht x δ hl]
    dsimp only
    rw [ew]
    rcases e2 with e2 | e2 <;> subst e2 <;> exact i1
theorem tl_for {f : α → S → R S} {xs : List α} {s s' : S} (h : forM f xs s = .ok s') (hi : mi δ = .ok (xs.map e, δ1)) (h0 : wipeD δ1 (idx ++ V) = lit s)
    (hn : ∀ s, (lit s).length = n) (ht : ∀ x, TgOk n g (e x) (T x)) (hx : ∀ x, (T x).map (·.1) = idx) (hd : (idx.all fun i => !V.contains i) = true)
    (st : ∀ x ∈ xs, ∀ s s', f x s = .ok s' → Tl (body (setAll (T x) (lit s))) (fun fl δ' => (fl = .nx ∨ fl = .ct) ∧ wipeD δ' (idx ++ V) = lit s')) :
    Tl (sFor mi g (sWipe V body) δ) (fun fl δ' => fl = .nx ∧ wipeD δ' (idx ++ V) = lit s') := by
  unfold sFor
  rw [hi]
  exact forL_M hn ht hx hd xs s s' δ1 st h0 h
theorem forL_C {o : ρ → O} {f : α → S → R (Ctl S ρ)}
    (hn : ∀ s, (lit s).length = n) (ht : ∀ x, TgOk n g (e x) (T x)) (hx : ∀ x, (T x).map (·.1) = idx) (hd : (idx.all fun i => !V.contains i) = true) :
    ∀ (xs : List α) (s : S) (c : Ctl S ρ) (δ : DEnv), (∀ x ∈ xs, ∀ s c, f x s = .ok c → Tl (body (setAll (T x) (lit s))) (PB lit (idx ++ V) o c)) → wipeD δ (idx ++ V) = lit s → forC f xs s = .ok c → Tl (sForL g (sWipe V body) (xs.map e) δ) (PC lit (idx ++ V) o c)
  | [], s, c, δ, st, h0, h => by
    cases h
    exact ⟨.nx, δ, rfl, rfl, h0⟩
  | x :: xs, s, c, δ, st, h0, h => by
    obtain ⟨c1, h1, h2⟩ := of_bind h
    have hl : δ.length = n := by rw [← hn s, ← h0, wipeD_length]
    obtain ⟨fl, δ2, e1, e2⟩ := st x (List.mem_cons_self ..) s c1 h1
    have ew : sWipe V body (setAll (T x) δ) = .ok (fl, δ2) := by
      show body (wipeD (setAll (T x) δ) V) = _
      rw [wipe_tail (hx x) hd, h0, e1]
    cases c1 with
    | nx s1 =>
      obtain ⟨e2, e3⟩ := e2
      obtain ⟨fl', δ', i1, i2⟩ := forL_C hn ht hx hd xs s1 c δ2 (fun y hy => st y (List.mem_cons_of_mem _ hy)) e3 h2
      refine ⟨fl', δ', ?_, i2⟩
      rw [List.map_cons, sForL, ht x δ hl]
      dsimp only
      rw [ew]
      rcases e2 with e2 | e2 <;> subst e2 <;> exact i1
    | bk s1 =>
      obtain ⟨e2, e3⟩ := e2
      cases h2
      subst e2
      refine ⟨.nx, δ2, ?_, rfl, e3⟩
      rw [List.map_cons, sForL, ht x δ hl]
      dsimp only
      rw [ew]
    | rt v =>
      have e2' : fl = .rt (o v) := e2
      cases h2
      subst e2'
      refine ⟨.rt (o v), δ2, ?_, rfl⟩
      rw [List.map_cons, sForL, ht x δ hl]
      dsimp only
      rw [ew]
theorem tl_forC {o : ρ → O} {f : α → S → R (Ctl S ρ)} {xs : List α} {s : S} {c : Ctl S ρ} (h : forC f xs s = .ok c) (hi : mi δ = .ok (xs.map e, δ1)) (h0 : wipeD δ1 (idx ++ V) = lit s)
    (hn : ∀ s, (lit s).length = n) (ht : ∀ x, TgOk n g (e x) (T x)) (hx : ∀ x, (T x).map (·.1) = idx) (hd : (idx.all fun i => !V.contains i) = true)
    (st : ∀ x ∈ xs, ∀ s c, f x s = .ok c → Tl (body (setAll (T x) (lit s))) (PB lit (idx ++ V) o c)) :
    Tl (sFor mi g (sWipe V body) δ) (PC lit (idx ++ V) o c) := by
  unfold sFor
  rw [hi]
  exact forL_C hn ht hx hd xs s c δ1 st h0 h
theorem tl_while {t : DM Bool} {b : SM} {c : S → R Bool} {f : S → R S} (ht : ∀ s b, c s = .ok b → t (lit s) = .ok (b, lit s)) (st : ∀ s s', c s = .ok true → f s = .ok s' → Tl (b (lit s)) (fun fl δ' => (fl = .nx ∨ fl = .ct) ∧ wipeD δ' V = lit s')) :
    ∀ (fuel : Nat) {s s' : S} {δ : DEnv}, whileM c f fuel s = .ok s' → wipeD δ V = lit s → Tl (sWhile (dWipe V t) b fuel δ) (fun fl δ' => fl = .nx ∧ wipeD δ' V = lit s')
  | 0, s, s', δ, h, h0 => by cases h
  | k + 1, s, s', δ, h, h0 => by
    obtain ⟨q, h1, h2⟩ := of_bind h
    have et : dWipe V t δ = .ok (q, lit s) := by
      show t (wipeD δ V) = _
      rw [h0]
      exact ht s q h1
    cases q with
    | false =>
      cases h2
      refine ⟨.nx, lit s, ?_, rfl, ?_⟩
      · rw [sWhile, et]
      · rw [← h0, wipeD_idem]
    | true =>
      obtain ⟨s1, h3, h4⟩ := of_bind (h2 : bind (f s) (fun s' => whileM c f k s') = _)
      obtain ⟨fl, δ2, e1, e2, e3⟩ := st s s1 h1 h3
      obtain ⟨fl', δ', i1, i2, i3⟩ := tl_while ht st k h4 e3
      refine ⟨fl', δ', ?_, i2, i3⟩
      rw [sWhile, et]
      dsimp only
      rw [e1]
      rcases e2 with e2 | e2 <;> subst e2 <;> exact i1
theorem tl_whileC {o : ρ → O} {t : DM Bool} {b : SM} {c : S → R Bool} {f : S → R (Ctl S ρ)} (ht : ∀ s b, c s = .ok b → t (lit s) = .ok (b, lit s)) (st : ∀ s z, c s = .ok true → f s = .ok z → Tl (b (lit s)) (PB lit V o z)) :
    ∀ (fuel : Nat) {s : S} {z : Ctl S ρ} {δ : DEnv}, whileC c f fuel s = .ok z → wipeD δ V = lit s → Tl (sWhile (dWipe V t) b fuel δ) (PC lit V o z)
  | 0, s, z, δ, h, h0 => by cases h
  | k + 1, s, z, δ, h, h0 => by
    obtain ⟨q, h1, h2⟩ := of_bind h
    have et : dWipe V t δ = .ok (q, lit s) := by
      show t (wipeD δ V) = _
      rw [h0]
      exact ht s q h1
    cases q with
    | false =>
      cases h2
      refine ⟨.nx, lit s, ?_, rfl, ?_⟩
      · rw [sWhile, et]
      · rw [← h0, wipeD_idem]
    | true =>
      obtain ⟨c1, h3, h4⟩ := of_bind (h2 : bind (f s) _ = _)
      obtain ⟨fl, δ2, e1, e2⟩ := st s c1 h1 h3
      cases c1 with
      | nx s1 =>
        obtain ⟨e2, e3⟩ := e2
        obtain ⟨fl', δ', i1, i2⟩ := tl_whileC ht st k h4 e3
        refine ⟨fl', δ', ?_, i2⟩
        rw [sWhile, et]
        dsimp only
        rw [e1]
        rcases e2 with e2 | e2 <;> subst e2 <;> exact i1
      | bk s1 =>
        obtain ⟨e2, e3⟩ := e2
        cases h4
        subst e2
        refine ⟨.nx, δ2, ?_, rfl, e3⟩
        rw [sWhile, et]
        dsimp only
        rw [e1]
      | rt v =>
        have e2' : fl = .rt (o v) := e2
        cases h4
        subst e2'
        refine ⟨.rt (o v), δ2, ?_, rfl⟩
        rw [sWhile, et]
        dsimp only
        rw [e1]
end
end U
/-! U3: the typed layer: comprehensions, what is walked, equality. -/
namespace U
open PySem L2 G

/-- a comprehension's name is put back -/
def bkO (s : Option (Option O)) : Option O := match s with
  | some (some (.d x)) => some (.d x)
  | _ => none
def backAll (δ0 δ : DEnv) (vs : List Nat) : DEnv := vs.foldr (fun v acc => acc.set v (bkO δ0[v]?)) δ
theorem backAll_length (δ0 δ : DEnv) : ∀ vs : List Nat, (backAll δ0 δ vs).length = δ.length
  | [] => rfl
  | v :: vs => by
    show ((backAll δ0 δ vs).set v _).length = _
    rw [List.length_set, backAll_length δ0 δ vs]
theorem set_same {δ : DEnv} {v : Nat} {z : Option O} (h : v < δ.length → δ[v]? = some z) : δ.set v z = δ := by
  apply List.ext_getElem?
  intro j
  rw [List.getElem?_set]
  by_cases e : v = j
  · subst e
    rw [if_pos rfl]
    by_cases hl : v < δ.length
    · rw [if_pos hl, h hl]
    · rw [if_neg hl, List.getElem?_eq_none (by omega)]
  · rw [if_neg e]
theorem backAll_get (δ0 δ : DEnv) : ∀ (vs : List Nat) (j : Nat), j < δ.length → (backAll δ0 δ vs)[j]? = if j ∈ vs then some (bkO δ0[j]?) else δ[j]?
  | [], j, hj => by simp [backAll]
  | v :: vs, j, hj => by
    show ((backAll δ0 δ vs).set v _)[j]? = _
    rw [List.getElem?_set, backAll_length, backAll_get δ0 δ vs j hj]
    by_cases e : v = j
    · subst e
      simp [hj]
    · have e' : ¬ j = v := fun z => e z.symm
      simp [e, e']
theorem backD_all {δ0 δ : DEnv} {us : List Nat} (hw : wipeD δ us = δ) : ∀ vs : List Nat, (∀ v ∈ vs, v ∈ us) → backD δ0 δ vs = backAll δ0 δ vs
  | [], h => rfl
  | v :: vs, h => by
    have ih := backD_all hw (δ0 := δ0) vs fun u hu => h u (List.mem_cons_of_mem _ hu)
    have hv := h v (List.mem_cons_self ..)
    show (match δ0[v]? with | some (some (.d x)) => (backD δ0 δ vs).set v (some (.d x)) | _ => backD δ0 δ vs) = (backAll δ0 δ vs).set v (bkO δ0[v]?)
    rw [ih]
    have key : bkO δ0[v]? = none → backAll δ0 δ vs = (backAll δ0 δ vs).set v (bkO δ0[v]?) := fun hb => by
      symm
      apply set_same
      intro hl
      rw [backAll_length] at hl
      rw [backAll_get δ0 δ vs v hl]
      by_cases hm : v ∈ vs
      · rw [if_pos hm]
      · rw [if_neg hm, hb]
        have := wipeD_get δ us v
        rw [hw, if_pos hv, if_pos hl] at this
        exact this
    cases q : δ0[v]? with
    | none => rw [q] at key; exact key rfl
    | some s =>
      cases s with
      | none => rw [q] at key; exact key rfl
      | some o =>
        cases o with
        | d x => rfl
        | lst os => rw [q] at key; exact key rfl
        | dct ks os => rw [q] at key; exact key rfl

section
variable {α β S : Type} {e : α → D} {e2 : β → D} {vs : List Nat} {mi : DM (List D)} {g : D → DEnv → R DEnv} {t : DM Bool} {el : DM D} {δ δ1 δ2 δw : DEnv} {T : α → List (Nat × D)} {n : Nat} {xs : List α}
theorem u_lcL {p : α → Bool} {f : α → β} (ht : ∀ x, TgOk n g (e x) (T x)) (hx : ∀ x, (T x).map (·.1) = vs) (hn : δw.length = n) (hw : wipeD δw vs = δw)
    : ∀ xs : List α, (∀ x ∈ xs, t (setAll (T x) δw) = .ok (p x, setAll (T x) δw)) → (∀ x ∈ xs, p x = true → el (setAll (T x) δw) = .ok (e2 (f x), setAll (T x) δw)) → lcL g t el vs (xs.map e) δw = .ok (((xs.filter p).map f).map e2, δw)
  | [], hp, he => rfl
  | x :: xs, hp, he => by
    have ih := u_lcL (p := p) (f := f) ht hx hn hw xs (fun y hy => hp y (List.mem_cons_of_mem _ hy)) (fun y hy => he y (List.mem_cons_of_mem _ hy))
    have h1 := hp x (List.mem_cons_self ..)
    have h2 := he x (List.mem_cons_self ..)
    have wx : wipeD (setAll (T x) δw) vs = δw := (wipe_setAll (by rw [hx]; exact fun j hj => hj)).trans hw
    rw [List.map_cons, lcL, ht x δw hn]
    dsimp only
    rw [h1]
    cases q : p x with
    | true =>
      dsimp only
      rw [h2 q]
      dsimp only
      rw [wx, ih, List.filter_cons_of_pos q]
      rfl
    | false =>
      dsimp only
      rw [wx, ih, List.filter_cons_of_neg (by rw [q]; exact Bool.false_ne_true)]
theorem oComp_of {ys : List D} {δ3 : DEnv} (hi : mi δ = .ok (xs.map e, δ1)) (hz : Nat.blt xs.length 16777216 = true) (hl : lcL g t el vs (xs.map e) (wipeD δ1 vs) = .ok (ys, δ3)) (hw : wipeD δ3 vs = δ3) (hb : backAll δ1 δ3 vs = δ2) : oComp vs mi g t el δ = .ok (.lst (ys.map .d), δ2) := by
  unfold oComp
  rw [hi]
  dsimp only
  rw [List.length_map, if_pos hz, hl]
  dsimp only
  rw [backD_all (us := vs) hw vs (fun v hv => hv), hb]
/-- all steps tell -/
theorem u_comp {p : α → Bool} {f : α → β} (hi : mi δ = .ok (xs.map e, δ1)) (hz : Nat.blt xs.length 16777216 = true) (hw : wipeD δ1 vs = δw) (hn : δw.length = n) (ht : ∀ x, TgOk n g (e x) (T x)) (hx : ∀ x, (T x).map (·.1) = vs)
    (hp : ∀ x ∈ xs, t (setAll (T x) δw) = .ok (p x, setAll (T x) δw)) (he : ∀ x ∈ xs, p x = true → el (setAll (T x) δw) = .ok (e2 (f x), setAll (T x) δw)) (hb : backAll δ1 δw vs = δ2) : oComp vs mi g t el δ = .ok (oL (oD e2) ((xs.filter p).map f), δ2) := by
  have w2 : wipeD δw vs = δw := by rw [← hw, wipeD_idem]
  have h := oComp_of hi hz (by rw [hw]; exact u_lcL (e2 := e2) (p := p) (f := f) ht hx hn w2 xs hp he) w2 hb
  rw [map_oD] at h
  exact h
theorem u_compA {f : α → β} (hi : mi δ = .ok (xs.map e, δ1)) (hz : Nat.blt xs.length 16777216 = true) (hw : wipeD δ1 vs = δw) (hn : δw.length = n) (ht : ∀ x, TgOk n g (e x) (T x)) (hx : ∀ x, (T x).map (·.1) = vs)
    (he : ∀ x ∈ xs, el (setAll (T x) δw) = .ok (e2 (f x), setAll (T x) δw)) (hb : backAll δ1 δw vs = δ2) : oComp vs mi g dYes el δ = .ok (oL (oD e2) (xs.map f), δ2) := by
  have h := u_comp (t := dYes) (p := fun _ => true) (f := f) hi hz hw hn ht hx (fun _ _ => rfl) (fun x hx _ => he x hx) hb
  rw [List.filter_eq_self.mpr (fun _ _ => rfl)] at h
  exact h
/-- steps that may not tell -/
def compM (p : α → R Bool) (f : α → R β) : List α → R (List β)
  | [] => .ok []
  | x :: xs => bind (p x) fun b => if b = true then bind (f x) fun y => bind (compM p f xs) fun ys => .ok (y :: ys) else compM p f xs
theorem u_lcM {p : α → R Bool} {f : α → R β} (ht : ∀ x, TgOk n g (e x) (T x)) (hx : ∀ x, (T x).map (·.1) = vs) (hn : δw.length = n) (hw : wipeD δw vs = δw) :
    ∀ (xs : List α) (ys : List β), (∀ x ∈ xs, ∀ b, p x = .ok b → t (setAll (T x) δw) = .ok (b, setAll (T x) δw)) → (∀ x ∈ xs, p x = .ok true → ∀ y, f x = .ok y → el (setAll (T x) δw) = .ok (e2 y, setAll (T x) δw)) → compM p f xs = .ok ys → lcL g t el vs (xs.map e) δw = .ok (ys.map e2, δw)
  | [], ys, hp, he, h => by cases h; rfl
  | x :: xs, ys, hp, he, h => by
    obtain ⟨b, h1, h⟩ := of_bind h
    have k1 := hp x (List.mem_cons_self ..) b h1
    have k2 := he x (List.mem_cons_self ..)
    have wx : wipeD (setAll (T x) δw) vs = δw := (wipe_setAll (by rw [hx]; exact fun j hj => hj)).trans hw
    rw [List.map_cons, lcL, ht x δw hn]
    dsimp only
    rw [k1]
    cases b with
    | true =>
      obtain ⟨y, h2, h⟩ := of_bind (h : bind (f x) _ = _)
      obtain ⟨zs, h3, h⟩ := of_bind h
      cases h
      dsimp only
      rw [k2 h1 y h2]
      dsimp only
      rw [wx, u_lcM ht hx hn hw xs zs (fun y hy => hp y (List.mem_cons_of_mem _ hy)) (fun y hy => he y (List.mem_cons_of_mem _ hy)) h3]
      rfl
    | false =>
      dsimp only
      rw [wx]
      exact u_lcM ht hx hn hw xs ys (fun y hy => hp y (List.mem_cons_of_mem _ hy)) (fun y hy => he y (List.mem_cons_of_mem _ hy)) h
theorem u_compM {p : α → R Bool} {f : α → R β} {ys : List β} (h : compM p f xs = .ok ys) (hi : mi δ = .ok (xs.map e, δ1)) (hz : Nat.blt xs.length 16777216 = true) (hw : wipeD δ1 vs = δw) (hn : δw.length = n) (ht : ∀ x, TgOk n g (e x) (T x)) (hx : ∀ x, (T x).map (·.1) = vs)
    (hp : ∀ x ∈ xs, ∀ b, p x = .ok b → t (setAll (T x) δw) = .ok (b, setAll (T x) δw)) (he : ∀ x ∈ xs, p x = .ok true → ∀ y, f x = .ok y → el (setAll (T x) δw) = .ok (e2 y, setAll (T x) δw)) (hb : backAll δ1 δw vs = δ2) : oComp vs mi g t el δ = .ok (oL (oD e2) ys, δ2) := by
  have w2 : wipeD δw vs = δw := by rw [← hw, wipeD_idem]
  have h' := oComp_of hi hz (by rw [hw]; exact u_lcM (e2 := e2) ht hx hn w2 xs ys hp he h) w2 hb
  rw [map_oD] at h'
  exact h'
def mapM (f : α → R β) : List α → R (List β)
  | [] => .ok []
  | x :: xs => bind (f x) fun y => bind (mapM f xs) fun ys => .ok (y :: ys)
theorem mapM_compM (f : α → R β) : ∀ xs : List α, mapM f xs = compM (fun _ => .ok true) f xs
  | [] => rfl
  | x :: xs => by
    rw [mapM, compM, mapM_compM f xs]
    rfl
theorem u_compMA {f : α → R β} {ys : List β} (h : mapM f xs = .ok ys) (hi : mi δ = .ok (xs.map e, δ1)) (hz : Nat.blt xs.length 16777216 = true) (hw : wipeD δ1 vs = δw) (hn : δw.length = n) (ht : ∀ x, TgOk n g (e x) (T x)) (hx : ∀ x, (T x).map (·.1) = vs)
    (he : ∀ x ∈ xs, ∀ y, f x = .ok y → el (setAll (T x) δw) = .ok (e2 y, setAll (T x) δw)) (hb : backAll δ1 δw vs = δ2) : oComp vs mi g dYes el δ = .ok (oL (oD e2) ys, δ2) := by
  rw [mapM_compM] at h
  exact u_compM (t := dYes) h hi hz hw hn ht hx (fun x _ b hb => by cases hb; rfl) (fun x hx _ y hy => he x hx y hy) hb
/-- steps that change what stands -/
def mapS (f : α → S → R (β × S)) : List α → S → R (List β × S)
  | [], s => .ok ([], s)
  | x :: xs, s => bind (f x s) fun y => bind (mapS f xs y.2) fun ys => .ok (y.1 :: ys.1, ys.2)
theorem u_lcS {lit : S → DEnv} {f : α → S → R (β × S)} (ht : ∀ x, TgOk n g (e x) (T x)) (hx : ∀ x, (T x).map (·.1) = vs) (hn : ∀ s, (lit s).length = n) (hw : ∀ s, wipeD (lit s) vs = lit s) :
    ∀ (xs : List α) (s : S) (r : List β × S), (∀ x ∈ xs, ∀ s r, f x s = .ok r → el (setAll (T x) (lit s)) = .ok (e2 r.1, setAll (T x) (lit r.2))) → mapS f xs s = .ok r → lcL g dYes el vs (xs.map e) (lit s) = .ok (r.1.map e2, lit r.2)
  | [], s, r, he, h => by cases h; rfl
  | x :: xs, s, r, he, h => by
    obtain ⟨y, h1, h⟩ := of_bind h
    obtain ⟨ys, h2, h⟩ := of_bind h
    cases h
    have k := he x (List.mem_cons_self ..) s y h1
    have wx : wipeD (setAll (T x) (lit y.2)) vs = lit y.2 := (wipe_setAll (by rw [hx]; exact fun j hj => hj)).trans (hw _)
    rw [List.map_cons, lcL, ht x (lit s) (hn s)]
    dsimp only [dYes]
    rw [k]
    dsimp only
    have ih := u_lcS ht hx hn hw xs y.2 ys (fun y hy => he y (List.mem_cons_of_mem _ hy)) h2
    rw [wx, ih]
    rfl
theorem u_compS {lit : S → DEnv} {f : α → S → R (β × S)} {s : S} {r : List β × S} (h : mapS f xs s = .ok r) (hi : mi δ = .ok (xs.map e, δ1)) (hz : Nat.blt xs.length 16777216 = true) (hw : wipeD δ1 vs = lit s) (hn : ∀ s, (lit s).length = n) (hws : ∀ s, wipeD (lit s) vs = lit s) (ht : ∀ x, TgOk n g (e x) (T x)) (hx : ∀ x, (T x).map (·.1) = vs)
    (he : ∀ x ∈ xs, ∀ s r, f x s = .ok r → el (setAll (T x) (lit s)) = .ok (e2 r.1, setAll (T x) (lit r.2))) (hb : backAll δ1 (lit r.2) vs = δ2) : oComp vs mi g dYes el δ = .ok (oL (oD e2) r.1, δ2) := by
  have h' := oComp_of hi hz (by rw [hw]; exact u_lcS (e2 := e2) ht hx hn hws xs s r he h) (hws _) hb
  rw [map_oD] at h'
  exact h'
/-- one by one -/
theorem u_lc0 : lcL g t el vs [] δ = .ok ([], δ) := rfl
theorem u_lc1 {d y : D} {ds ys : List D} {δ3 δ4 δ5 : DEnv} (hg : g d δ = .ok δ1) (ht : t δ1 = .ok (true, δ2)) (he : el δ2 = .ok (y, δ3)) (hw : wipeD δ3 vs = δ4) (hr : lcL g t el vs ds δ4 = .ok (ys, δ5)) : lcL g t el vs (d :: ds) δ = .ok (y :: ys, δ5) := by
  rw [lcL, hg]
  dsimp only
  rw [ht]
  dsimp only
  rw [he]
  dsimp only
  rw [hw, hr]
theorem u_compL {ds ys : List D} {δ3 : DEnv} {o : O} (hi : mi δ = .ok (ds, δ1)) (hz : Nat.blt ds.length 16777216 = true) (hw : wipeD δ1 vs = δw) (hl : lcL g t el vs ds δw = .ok (ys, δ3)) (hw3 : wipeD δ3 vs = δ3) (hb : backAll δ1 δ3 vs = δ2) (ho : O.lst (ys.map .d) = o) : oComp vs mi g t el δ = .ok (o, δ2) := by
  unfold oComp
  rw [hi]
  dsimp only
  rw [if_pos hz, hw, hl]
  dsimp only
  rw [backD_all (us := vs) hw3 vs (fun v hv => hv), hb, ho]
end

/-! ### what is walked -/
section
variable {α β : Type} {e : α → D} {e2 : β → D} {δ δ1 δ2 : DEnv}
theorem u_items {m : DM D} {x : D} {ds : List D} (h : m δ = .ok (x, δ1)) (hx : x.items = some ds) : dItems m δ = .ok (ds, δ1) := by
  unfold dItems
  rw [h]
  dsimp only
  rw [hx]
/-- numbers from lo on, n of them, by st -/
def rngL (lo st : Int) : Nat → List Int
  | 0 => []
  | n + 1 => lo :: rngL (lo + st) st n
theorem rngI_map (st : Int) : ∀ (n : Nat) (lo : Int), rngI lo st n = (rngL lo st n).map eInt
  | 0, lo => rfl
  | n + 1, lo => by
    rw [rngI, rngL, rngI_map st n (lo + st)]
    rfl
def rng1 (j : Int) : R (List Int) := if inW j = true then .ok (rngL 0 1 j.toNat) else .no
def rng2 (i j : Int) : R (List Int) := if (inW i && inW j) = true then .ok (rngL i 1 (j - i).toNat) else .no
def rng3 (i j s : Int) : R (List Int) := if rngOk i j s = true then .ok (rngL i s (rngN i j s)) else .no
theorem u_rng1 {ms : DM (List D)} {j : Int} {r : List Int} (h : ms δ = .ok ([.int j], δ1)) (hr : rng1 j = .ok r) : dRng1 ms δ = .ok (r.map eInt, δ1) := by
  unfold rng1 at hr
  split at hr
  · rename_i c
    cases hr
    unfold dRng1
    rw [h]
    dsimp only
    rw [if_pos c, rngI_map]
  · cases hr
theorem u_rng2 {ms : DM (List D)} {i j : Int} {r : List Int} (h : ms δ = .ok ([.int i, .int j], δ1)) (hr : rng2 i j = .ok r) : dRng2 ms δ = .ok (r.map eInt, δ1) := by
  unfold rng2 at hr
  split at hr
  · rename_i c
    cases hr
    unfold dRng2
    rw [h]
    dsimp only
    rw [if_pos c, rngI_map]
  · cases hr
theorem u_rng3 {ms : DM (List D)} {i j s : Int} {r : List Int} (h : ms δ = .ok ([.int i, .int j, .int s], δ1)) (hr : rng3 i j s = .ok r) : dRng3 ms δ = .ok (r.map eInt, δ1) := by
  unfold rng3 at hr
  split at hr
  · rename_i c
    cases hr
    unfold dRng3
    rw [h]
    dsimp only
    rw [if_pos c, rngI_map]
  · cases hr
def enumA : Nat → List α → List (Int × α)
  | _, [] => []
  | i, x :: xs => ((i : Int), x) :: enumA (i + 1) xs
theorem enum_map : ∀ (xs : List α) (i : Nat), enumL i (xs.map e) = (enumA i xs).map (eP eInt e)
  | [], i => rfl
  | x :: xs, i => by
    rw [List.map_cons, enumL, enumA, enum_map xs (i + 1)]
    rfl
theorem u_enum {ms : DM (List D)} {x : D} {xs : List α} (h : ms δ = .ok ([x], δ1)) (hx : x.items = some (xs.map e)) : dEnum ms δ = .ok ((enumA 0 xs).map (eP eInt e), δ1) := by
  unfold dEnum
  rw [h]
  dsimp only
  rw [hx]
  dsimp only
  rw [enum_map]
theorem zip_map : ∀ (xs : List α) (ys : List β), zipL (xs.map e) (ys.map e2) = (xs.zip ys).map (eP e e2)
  | [], ys => by cases ys <;> rfl
  | x :: xs, [] => rfl
  | x :: xs, y :: ys => by
    rw [List.map_cons, List.map_cons, zipL, zip_map xs ys]
    rfl
theorem u_zip {ms : DM (List D)} {x y : D} {xs : List α} {ys : List β} (h : ms δ = .ok ([x, y], δ1)) (hx : zipOk x y = some (zipL (xs.map e) (ys.map e2))) : dZip ms δ = .ok ((xs.zip ys).map (eP e e2), δ1) := by
  unfold dZip
  rw [h]
  dsimp only
  rw [hx]
  dsimp only
  rw [zip_map]
end

/-! ### equality -/
/-- equality of the data is equality of what they stand for -/
structure EqOk {α : Type} [DecidableEq α] (n : Nat) (e : α → D) : Prop where
  lay : ∀ x, (e x).pd.canLay0 = true
  dep : ∀ x, (e x).pd.depth ≤ n
  eqv : ∀ x y, PyData.eqv (e x).pd (e y).pd = decide (x = y)
theorem depth_le {n : Nat} : ∀ {xs : List PyData}, (∀ x ∈ xs, x.depth ≤ n) → PyData.depthAll xs ≤ n
  | [], h => by rw [PyData.depthAll]; exact Nat.zero_le _
  | x :: xs, h => by
    rw [PyData.depthAll]
    exact Nat.max_le.mpr ⟨h x (List.mem_cons_self ..), depth_le fun y hy => h y (List.mem_cons_of_mem _ hy)⟩
theorem pdL_map {α : Type} (e : α → D) : ∀ xs : List α, D.pdL (xs.map e) = xs.map fun x => (e x).pd
  | [] => by rw [List.map_nil, D.pdL]; rfl
  | x :: xs => by rw [List.map_cons, D.pdL, pdL_map e xs]; rfl
theorem lay_all {α : Type} {e : α → D} (h : ∀ x, (e x).pd.canLay0 = true) : ∀ xs : List α, PyData.canLayAll0 (xs.map fun x => (e x).pd) = true
  | [] => by rw [List.map_nil, PyData.canLayAll0]
  | x :: xs => by rw [List.map_cons, PyData.canLayAll0, h x, lay_all h xs]; rfl
theorem eqv_all {α : Type} [DecidableEq α] {e : α → D} (h : ∀ x y, PyData.eqv (e x).pd (e y).pd = decide (x = y)) : ∀ xs ys : List α, PyData.eqvAll (xs.map fun x => (e x).pd) (ys.map fun x => (e x).pd) = decide (xs = ys)
  | [], [] => by simp [PyData.eqvAll]
  | [], y :: ys => by simp [PyData.eqvAll]
  | x :: xs, [] => by simp [PyData.eqvAll]
  | x :: xs, y :: ys => by
    rw [List.map_cons, List.map_cons, PyData.eqvAll, h x y, eqv_all h xs ys]
    by_cases h1 : x = y <;> by_cases h2 : xs = ys <;> simp [h1, h2]
theorem eq_int : EqOk 1 eInt := ⟨fun x => rfl, fun x => by show PyData.depth (D.int x).pd ≤ 1; rw [D.pd, PyData.depth]; decide, fun x y => by show PyData.eqv (D.int x).pd (D.int y).pd = _; rw [D.pd, D.pd, PyData.eqv]; rfl⟩
end U
/-! U4: the typed layer: equality of all types, dicts. -/
namespace U
open PySem L2 G

theorem eq_bl : EqOk 1 eBl := ⟨fun x => by show (D.bl x).pd.canLay0 = true; rw [D.pd]; rfl, fun x => by show PyData.depth (D.bl x).pd ≤ 1; rw [D.pd, PyData.depth]; decide, fun x y => by
  show PyData.eqv (D.bl x).pd (D.bl y).pd = _
  rw [D.pd, D.pd, PyData.eqv]
  cases x <;> cases y <;> rfl⟩
theorem eq_non : EqOk 1 eNon := ⟨fun x => by show (D.non).pd.canLay0 = true; rw [D.pd]; rfl, fun x => by show PyData.depth (D.non).pd ≤ 1; rw [D.pd, PyData.depth]; decide, fun x y => by
  show PyData.eqv (D.non).pd (D.non).pd = _
  rw [D.pd, PyData.eqv]
  cases x; cases y; rfl⟩
section
variable {α β : Type} [DecidableEq α] [DecidableEq β] {n m : Nat} {e : α → D} {f : β → D}
theorem eq_T (h : EqOk n e) : EqOk (n + 1) (eT e) where
  lay := fun xs => by
    show (D.tup (xs.map e)).pd.canLay0 = true
    rw [D.pd, pdL_map]
    simp only [PyData.canLay0]
    exact lay_all h.lay xs
  dep := fun xs => by
    show (D.tup (xs.map e)).pd.depth ≤ n + 1
    rw [D.pd, pdL_map, PyData.depth]
    have := depth_le (n := n) (xs := xs.map fun x => (e x).pd) fun x hx => by
      obtain ⟨y, _, rfl⟩ := List.mem_map.mp hx
      exact h.dep y
    omega
  eqv := fun xs ys => by
    show PyData.eqv (D.tup (xs.map e)).pd (D.tup (ys.map e)).pd = _
    rw [D.pd, D.pd, pdL_map, pdL_map, PyData.eqv]
    exact eqv_all h.eqv xs ys
theorem eq_L (h : EqOk n e) : EqOk (n + 1) (eL e) where
  lay := fun xs => by
    show (D.lst (xs.map e)).pd.canLay0 = true
    rw [D.pd, pdL_map]
    simp only [PyData.canLay0]
    exact lay_all h.lay xs
  dep := fun xs => by
    show (D.lst (xs.map e)).pd.depth ≤ n + 1
    rw [D.pd, pdL_map, PyData.depth]
    have := depth_le (n := n) (xs := xs.map fun x => (e x).pd) fun x hx => by
      obtain ⟨y, _, rfl⟩ := List.mem_map.mp hx
      exact h.dep y
    omega
  eqv := fun xs ys => by
    show PyData.eqv (D.lst (xs.map e)).pd (D.lst (ys.map e)).pd = _
    rw [D.pd, D.pd, pdL_map, pdL_map, PyData.eqv]
    exact eqv_all h.eqv xs ys
theorem eq_P (h : EqOk n e) (h' : EqOk m f) : EqOk (max n m + 1) (eP e f) where
  lay := fun p => by
    show (D.tup [e p.1, f p.2]).pd.canLay0 = true
    simp only [D.pd, D.pdL, PyData.canLay0, PyData.canLayAll0, h.lay, h'.lay]
    rfl
  dep := fun p => by
    show (D.tup [e p.1, f p.2]).pd.depth ≤ _
    have a := h.dep p.1
    have b := h'.dep p.2
    simp only [D.pd, D.pdL, PyData.depth, PyData.depthAll]
    omega
  eqv := fun p q => by
    show PyData.eqv (D.tup [e p.1, f p.2]).pd (D.tup [e q.1, f q.2]).pd = _
    simp only [D.pd, D.pdL, PyData.eqv, PyData.eqvAll, h.eqv, h'.eqv]
    obtain ⟨a, b⟩ := p
    obtain ⟨c, d⟩ := q
    by_cases h1 : a = c <;> by_cases h2 : b = d <;> simp [h1, h2]
theorem eqv_non_int (i : Int) : PyData.eqv .none (.int i) = false := rfl
theorem sh_of (h : EqOk n e) (hn : Nat.ble n 64 = true) (x : α) : (e x).sh = true := by
  unfold D.sh SeqAt.shaped
  rw [Bool.and_eq_true]
  exact ⟨h.lay x, decide_eq_true (Nat.le_trans (h.dep x) (Nat.le_of_ble_eq_true hn))⟩
theorem fEq_sh {x y : D} (hx : x.sh = true) (hy : y.sh = true) : fEq x y = .ok (.bl (x.same y)) := by
  unfold fEq
  split
  · rename_i i j
    unfold D.same
    rw [D.pd, D.pd, PyData.eqv]
    rfl
  · rw [hx, hy]
    rfl
theorem fNe_sh {x y : D} (hx : x.sh = true) (hy : y.sh = true) : fNe x y = .ok (.bl (!x.same y)) := by
  unfold fNe
  split
  · rename_i i j
    unfold D.same
    rw [D.pd, D.pd, PyData.eqv]
    rfl
  · rw [hx, hy]
    rfl
theorem f_eq (h : EqOk n e) (hn : Nat.ble n 64 = true) (x y : α) : fEq (e x) (e y) = .ok (.bl (decide (x = y))) := by
  rw [fEq_sh (sh_of h hn x) (sh_of h hn y)]
  unfold D.same
  rw [h.eqv]
theorem f_ne (h : EqOk n e) (hn : Nat.ble n 64 = true) (x y : α) : fNe (e x) (e y) = .ok (.bl (!decide (x = y))) := by
  rw [fNe_sh (sh_of h hn x) (sh_of h hn y)]
  unfold D.same
  rw [h.eqv]
/-- x in a list -/
theorem any_eq (h : EqOk n e) (x : α) : ∀ ys : List α, ((ys.map fun y => (e y).pd).any fun z => PyData.eqv z (e x).pd) = ys.contains x
  | [] => rfl
  | y :: ys => by
    rw [List.map_cons, List.any_cons, any_eq h x ys, h.eqv, List.contains_cons]
    congr 1
    by_cases q : y = x
    · subst q; simp
    · have q' : ¬ x = y := fun z => q z.symm
      simp [q, q']
theorem f_inL (h : EqOk n e) (hn : Nat.ble n 63 = true) (x : α) (ys : List α) : fInA false (e x) (eL e ys) = .ok (.bl (ys.contains x)) := by
  have hl := sh_of (eq_L h) (show Nat.ble (n + 1) 64 = true from Nat.ble_eq_true_of_le (Nat.succ_le_succ (Nat.le_of_ble_eq_true hn))) ys
  have hx := sh_of h (Nat.ble_eq_true_of_le (Nat.le_trans (Nat.le_of_ble_eq_true hn) (by decide))) x
  show fInG false (e x) (eL e ys) = _
  show (if ((e x).sh && SeqAt.shaped (.list (D.pdL (ys.map e)))) = true then R.ok (D.bl (if false = true then !(D.pdL (ys.map e)).any (fun z => PyData.eqv z (e x).pd) else (D.pdL (ys.map e)).any (fun z => PyData.eqv z (e x).pd))) else .no) = _
  have hl' : SeqAt.shaped (.list (D.pdL (ys.map e))) = true := by
    have : (D.lst (ys.map e)).sh = true := hl
    unfold D.sh at this
    rw [D.pd] at this
    exact this
  rw [hx, hl', pdL_map, any_eq h]
  rfl
theorem f_ninL (h : EqOk n e) (hn : Nat.ble n 63 = true) (x : α) (ys : List α) : fInA true (e x) (eL e ys) = .ok (.bl (!ys.contains x)) := by
  have hl := sh_of (eq_L h) (show Nat.ble (n + 1) 64 = true from Nat.ble_eq_true_of_le (Nat.succ_le_succ (Nat.le_of_ble_eq_true hn))) ys
  have hx := sh_of h (Nat.ble_eq_true_of_le (Nat.le_trans (Nat.le_of_ble_eq_true hn) (by decide))) x
  show fInG true (e x) (eL e ys) = _
  show (if ((e x).sh && SeqAt.shaped (.list (D.pdL (ys.map e)))) = true then R.ok (D.bl (if true = true then !(D.pdL (ys.map e)).any (fun z => PyData.eqv z (e x).pd) else (D.pdL (ys.map e)).any (fun z => PyData.eqv z (e x).pd))) else .no) = _
  have hl' : SeqAt.shaped (.list (D.pdL (ys.map e))) = true := by
    have : (D.lst (ys.map e)).sh = true := hl
    unfold D.sh at this
    rw [D.pd] at this
    exact this
  rw [hx, hl', pdL_map, any_eq h]
  rfl
end

/-! ### dicts -/
section
variable {κ ν : Type} [DecidableEq κ] {e : κ → D} {o : ν → O}
abbrev oM (e : κ → D) (o : ν → O) (m : List (κ × ν)) : O := .dct (m.map fun p => e p.1) (m.map fun p => o p.2)
abbrev eM {ν : Type} (e : κ → D) (f : ν → D) (m : List (κ × ν)) : D := .dct (m.map fun p => e p.1) (m.map fun p => f p.2)
theorem frz_M {f : ν → D} (h : ∀ x, (o x).frz = f x) (m : List (κ × ν)) : (oM e o m).frz = eM e f m := by
  show (O.dct _ _).frz = _
  have e1 : (m.map fun p => o p.2) = (m.map (·.2)).map o := by rw [List.map_map]; rfl
  rw [O.frz, e1, frzL_map h, List.map_map]
  rfl
def dput (m : List (κ × ν)) (k : κ) (v : ν) : List (κ × ν) := if (m.any fun p => decide (p.1 = k)) = true then m.map (fun p => if p.1 = k then (p.1, v) else p) else m ++ [(k, v)]
def dictOf (ps : List (κ × ν)) : List (κ × ν) := ps.foldl (fun m p => dput m p.1 p.2) []
/-- data that are keys -/
structure KeyOk (e : κ → D) : Prop where
  ex : ∃ nk : κ → NestedKey, (∀ x, D.key (e x) = some (nk x)) ∧ (∀ x, okK (nk x) = true) ∧ ∀ x y, NestedKey.beq (nk x) (nk y) = decide (x = y)
theorem keyL_map {nk : κ → NestedKey} (h : ∀ x, D.key (e x) = some (nk x)) : ∀ xs : List κ, D.keyL (xs.map e) = some (xs.map nk)
  | [] => by rw [List.map_nil, D.keyL]; rfl
  | x :: xs => by
    rw [List.map_cons, D.keyL, h x, keyL_map h xs]
    rfl
theorem key_T : KeyOk (eT eInt) := ⟨fun xs => .tup (xs.map .num), fun xs => by
  show D.key (D.tup (xs.map eInt)) = _
  rw [D.key, keyL_map (e := eInt) (nk := NestedKey.num) fun x => by show D.key (D.int x) = _; rw [D.key]]
  rfl, fun xs => by
  unfold okK
  rw [Bool.and_eq_true]
  refine ⟨rfl, Nat.ble_eq_true_of_le ?_⟩
  have : ∀ xs : List Int, NestedKey.depthAll (xs.map .num) ≤ 7 := by
    intro xs
    induction xs with
    | nil => rw [List.map_nil, NestedKey.depthAll]; decide
    | cons x xs ih => rw [List.map_cons, NestedKey.depthAll, NestedKey.depth]; omega
  rw [NestedKey.depth]
  have := this xs
  omega, fun xs ys => by
  by_cases h : xs = ys
  · subst h
    rw [NestedKey.beq_self, decide_eq_true rfl]
  · rw [decide_eq_false h]
    cases q : NestedKey.beq (.tup (xs.map .num)) (.tup (ys.map .num)) with
    | false => rfl
    | true =>
      have := NestedKey.eq_of_beq _ _ q
      exact absurd (List.map_inj_right (fun a b h => by cases h; rfl) |>.mp (NestedKey.tup.inj this)) h⟩
theorem pairs_map {f : ν → D} {nk : κ → NestedKey} (h1 : ∀ x, D.key (e x) = some (nk x)) (h2 : ∀ x, okK (nk x) = true) : ∀ ps : List (κ × ν), D.pairs (ps.map (eP e f)) = some (ps.map fun p => (nk p.1, e p.1, f p.2))
  | [] => rfl
  | p :: ps => by
    rw [List.map_cons]
    show (match D.key (e p.1), D.pairs (ps.map (eP e f)) with | some nk, some r => if okK nk = true then some ((nk, e p.1, f p.2) :: r) else none | _, _ => none) = _
    rw [h1, pairs_map h1 h2 ps]
    dsimp only
    rw [if_pos (h2 _)]
    rfl
theorem stG_map {f : ν → D} {nk : κ → NestedKey} (h3 : ∀ x y, NestedKey.beq (nk x) (nk y) = decide (x = y)) (m : List (κ × ν)) (k : κ) (v : ν) : stG (m.map fun p => (nk p.1, e p.1, f p.2)) (nk k) (e k) (f v) = (dput m k v).map fun p => (nk p.1, e p.1, f p.2) := by
  unfold stG dput
  have e1 : ((m.map fun p => (nk p.1, e p.1, f p.2)).any fun x => NestedKey.beq x.1 (nk k)) = m.any fun p => decide (p.1 = k) := by
    rw [List.any_map]
    congr 1
    funext p
    exact h3 _ _
  rw [e1]
  by_cases c : (m.any fun p => decide (p.1 = k)) = true
  · rw [if_pos c, if_pos c, List.map_map, List.map_map]
    apply List.map_congr_left
    intro p hp
    show (if NestedKey.beq (nk p.1) (nk k) = true then _ else _) = (fun p : κ × ν => (nk p.1, e p.1, f p.2)) (if p.1 = k then (p.1, v) else p)
    rw [h3]
    by_cases q : p.1 = k
    · rw [if_pos (decide_eq_true q), if_pos q]
    · rw [if_neg (by simp [q]), if_neg q]
  · rw [if_neg c, if_neg c, List.map_append]
    rfl
theorem stAll_map {f : ν → D} {nk : κ → NestedKey} (h3 : ∀ x y, NestedKey.beq (nk x) (nk y) = decide (x = y)) : ∀ (ps m : List (κ × ν)), stAll (m.map fun p => (nk p.1, e p.1, f p.2)) (ps.map fun p => (nk p.1, e p.1, f p.2)) = (ps.foldl (fun m p => dput m p.1 p.2) m).map fun p => (nk p.1, e p.1, f p.2)
  | [], m => rfl
  | p :: ps, m => by
    show stAll (stG (m.map fun p => (nk p.1, e p.1, f p.2)) (nk p.1) (e p.1) (f p.2)) (ps.map fun p => (nk p.1, e p.1, f p.2)) = _
    rw [stG_map h3, stAll_map h3 ps]
    rfl
theorem f_dict {f : ν → D} (hk : KeyOk e) (ps : List (κ × ν)) : fDict (eL (eP e f) ps) = .ok (oM e (oD f) (dictOf ps)) := by
  obtain ⟨nk, h1, h2, h3⟩ := hk.ex
  show (match D.pairs (ps.map (eP e f)) with | some ts => R.ok (O.dct ((stAll [] ts).map (fun t : NestedKey × D × D => t.2.1)) ((stAll [] ts).map fun t : NestedKey × D × D => O.d t.2.2)) | none => .no) = _
  rw [pairs_map h1 h2]
  dsimp only
  have := stAll_map (e := e) (f := f) h3 ps []
  rw [List.map_nil] at this
  rw [this, List.map_map, List.map_map]
  rfl
theorem f_inM {f : ν → D} (hk : KeyOk e) (neg : Bool) (x : κ) (m : List (κ × ν)) : fInA neg (e x) (eM e f m) = .ok (.bl (neg != m.any fun p => decide (p.1 = x))) := by
  obtain ⟨nk, h1, h2, h3⟩ := hk.ex
  show (match D.key (e x), D.keyL (m.map fun p => e p.1) with | some k, some nks => if (okK k && nks.all okK) = true then R.ok (D.bl (neg != nks.any fun j => NestedKey.beq j k)) else .no | _, _ => .no) = _
  have e1 : (m.map fun p => e p.1) = (m.map (·.1)).map e := by rw [List.map_map]; rfl
  rw [h1, e1, keyL_map h1]
  dsimp only
  rw [if_pos]
  · rw [List.map_map, List.any_map]
    have : (fun j => NestedKey.beq j (nk x)) ∘ (nk ∘ fun x : κ × ν => x.1) = fun p => decide (p.1 = x) := by
      funext p
      exact h3 _ _
    rw [this]
  · rw [Bool.and_eq_true]
    refine ⟨h2 x, List.all_eq_true.mpr fun j hj => ?_⟩
    obtain ⟨k, _, rfl⟩ := List.mem_map.mp hj
    exact h2 k
theorem u_varM (i : Nat) {δ δ2 : DEnv} {ks : List D} {os : List O} {x : D} (h : δ[i]? = some (some (.dct ks os))) (hx : (O.dct ks os).frz = x) (ee : δ.set i (some (.d x)) = δ2) : dVar i δ = .ok (x, δ2) := by
  unfold dVar
  rw [h, ← ee, ← hx]
end
end U
/-! U5: the typed layer: what the generator names beside. -/
namespace U
open PySem L2 G
section
variable {δ δ1 δ2 : DEnv} {a b r x y K : SM} {P : Fl → DEnv → Prop}
theorem tl_ifT2 {t : DM Bool} {c : Bool} (h : t δ = .ok (c, δ1)) (hc : c = true) (k : Tl (sSeq x r δ1) P) : Tl (sSeq (sIf t x y) r δ) P := tl_if h (fun _ => k) (fun z => by rw [hc] at z; cases z)
theorem tl_ifF2 {t : DM Bool} {c : Bool} (h : t δ = .ok (c, δ1)) (hc : c = false) (k : Tl (sSeq y r δ1) P) : Tl (sSeq (sIf t x y) r δ) P := tl_if h (fun z => by rw [hc] at z; cases z) (fun _ => k)
theorem tl_if0T {t : DM Bool} {c : Bool} (h : t δ = .ok (c, δ1)) (hc : c = true) (k : Tl (x δ1) P) : Tl (sIf t x y δ) P := tl_if0 h (fun _ => k) (fun z => by rw [hc] at z; cases z)
theorem tl_if0F {t : DM Bool} {c : Bool} (h : t δ = .ok (c, δ1)) (hc : c = false) (k : Tl (y δ1) P) : Tl (sIf t x y δ) P := tl_if0 h (fun z => by rw [hc] at z; cases z) (fun _ => k)
theorem tl_blk2 {V : List Nat} (h : Tl (a δ) (fun fl δ' => fl = .nx ∧ wipeD δ' V = δ1)) (k : Tl (sSeq b K δ1) P) : Tl (sSeq a (sSeq (sWipe V b) K) δ) P := tl_blk (b := sSeq b K) h k
/-- behind a loop that may hand back -/
theorem tl_cNx {S ρ : Type} {lit : S → DEnv} {V : List Nat} {o : ρ → O} {s : S} (h : Tl (a δ) (PC lit V o (Ctl.nx s))) (k : Tl (b (lit s)) P) : Tl (sSeq a (sWipe V b) δ) P := tl_blk h k
theorem tl_cNx2 {S ρ : Type} {lit : S → DEnv} {V : List Nat} {o : ρ → O} {s : S} (h : Tl (a δ) (PC lit V o (Ctl.nx s))) (k : Tl (sSeq b K (lit s)) P) : Tl (sSeq a (sSeq (sWipe V b) K) δ) P := tl_blk2 h k
theorem tl_cRt {S ρ : Type} {lit : S → DEnv} {V : List Nat} {o : ρ → O} {v : ρ} (h : Tl (a δ) (PC lit V o (Ctl.rt v))) (k : ∀ δ', P (.rt (o v)) δ') : Tl (sSeq a b δ) P := by
  obtain ⟨fl, δ', h1, h2⟩ := h
  have e : fl = .rt (o v) := h2
  subst e
  refine ⟨.rt (o v), δ', ?_, k δ'⟩
  unfold sSeq
  rw [h1]
theorem pc_bk {S ρ : Type} {lit : S → DEnv} {V : List Nat} {o : ρ → O} {s : S} (h : Tl (a δ) (PC lit V o (Ctl.bk s))) : False := by
  obtain ⟨fl, δ', h1, h2⟩ := h
  exact h2
theorem u_ifV {α τ : Type} {e : τ → α} {x y : τ} {t : DM Bool} {m1 m2 : DM α} {c : Bool} (h : t δ = .ok (c, δ1)) (h1 : c = true → m1 δ1 = .ok (e x, δ2)) (h2 : c = false → m2 δ1 = .ok (e y, δ2)) : dIf t m1 m2 δ = .ok (e (if c = true then x else y), δ2) := by
  refine u_if h (fun z => ?_) (fun z => ?_)
  · rw [h1 z, if_pos z]
  · rw [h2 z, if_neg (by rw [z]; exact Bool.false_ne_true)]
/-- the value of a branch that may not tell -/
theorem u_ifM {α τ : Type} {p : α × DEnv} {v : τ} {tx ty : R τ} {t : DM Bool} {m1 m2 : DM α} {c : Bool} (hv : (if c = true then tx else ty) = .ok v) (h : t δ = .ok (c, δ1)) (h1 : c = true → tx = .ok v → m1 δ1 = .ok p) (h2 : c = false → ty = .ok v → m2 δ1 = .ok p) : dIf t m1 m2 δ = .ok p :=
  (of_ite hv).elim (fun z => u_if h (fun _ => h1 z.1 z.2) (fun q => by rw [z.1] at q; cases q)) (fun z => u_if h (fun q => by rw [z.1] at q; cases q) (fun _ => h2 z.1 z.2))
theorem u_andM {m1 m2 : DM Bool} {c v : Bool} {ty : R Bool} (hv : (if c = true then ty else .ok false) = .ok v) (h1 : m1 δ = .ok (c, δ1)) (h2 : c = true → ty = .ok v → m2 δ1 = .ok (v, δ1)) : dAndT m1 m2 δ = .ok (v, δ1) := by
  rcases of_ite hv with ⟨z, q⟩ | ⟨z, q⟩
  · subst z
    exact u_andT1 h1 (h2 rfl q)
  · subst z
    cases q
    exact u_andT0 h1
theorem u_orM {m1 m2 : DM Bool} {c v : Bool} {ty : R Bool} (hv : (if c = true then .ok true else ty) = .ok v) (h1 : m1 δ = .ok (c, δ1)) (h2 : c = false → ty = .ok v → m2 δ1 = .ok (v, δ1)) : dOrT m1 m2 δ = .ok (v, δ1) := by
  rcases of_ite hv with ⟨z, q⟩ | ⟨z, q⟩
  · subst z
    cases q
    exact u_orT1 h1
  · subst z
    exact u_orT0 h1 (h2 rfl q)
theorem u_andVM {m1 m2 : DM D} {c v : Bool} {ty : R Bool} (hv : (if c = true then ty else .ok false) = .ok v) (h1 : m1 δ = .ok (.bl c, δ1)) (h2 : c = true → ty = .ok v → m2 δ1 = .ok (.bl v, δ1)) : dAndV m1 m2 δ = .ok (.bl v, δ1) := by
  rcases of_ite hv with ⟨z, q⟩ | ⟨z, q⟩
  · subst z
    exact u_andV1 h1 (h2 rfl q)
  · subst z
    cases q
    exact u_andV0 h1
theorem u_orVM {m1 m2 : DM D} {c v : Bool} {ty : R Bool} (hv : (if c = true then .ok true else ty) = .ok v) (h1 : m1 δ = .ok (.bl c, δ1)) (h2 : c = false → ty = .ok v → m2 δ1 = .ok (.bl v, δ1)) : dOrV m1 m2 δ = .ok (.bl v, δ1) := by
  rcases of_ite hv with ⟨z, q⟩ | ⟨z, q⟩
  · subst z
    cases q
    exact u_orV1 h1
  · subst z
    exact u_orV0 h1 (h2 rfl q)
end
theorem f_mulL {i j : Int} (h : Nat.blt i.natAbs 18446744073709551616 = true) : okMul i j = true := by
  unfold okMul
  rw [h]
  rfl
theorem f_mulR {i j : Int} (h : Nat.blt j.natAbs 18446744073709551616 = true) : okMul i j = true := by
  unfold okMul
  rw [h, Bool.or_true]
theorem b01 (i : Int) (b : Bool) : okMul i (if b = true then 1 else 0) = true := f_mulR (by cases b <;> decide)
theorem f_is {α : Type} {e : α → D} (h : ∀ x, e x ≠ .non) (x : Option α) : fIs (eO e x) .non = .ok (.bl x.isNone) := by
  cases x with
  | none => rfl
  | some y =>
    have := h y
    show fIs (e y) .non = .ok (.bl false)
    revert this
    cases e y <;> first | exact fun z => absurd rfl z | (intro _; rfl)
theorem f_isN {α : Type} {e : α → D} (h : ∀ x, e x ≠ .non) (x : Option α) : fIsN (eO e x) .non = .ok (.bl x.isSome) := by
  cases x with
  | none => rfl
  | some y =>
    have := h y
    show fIsN (e y) .non = .ok (.bl true)
    revert this
    cases e y <;> first | exact fun z => absurd rfl z | (intro _; rfl)
def getO {α : Type} (x : Option α) : R α := match x with
  | some y => .ok y
  | none => .no
theorem of_getO {α : Type} {x : Option α} {y : α} (h : getO x = .ok y) : x = some y := by
  cases x with
  | none => cases h
  | some z => cases h; rfl
end U
namespace U
open PySem L2 G
section
variable {δ δ1 δ2 : DEnv} {K : SM}
theorem u_at {α : Type} {m : DEnv → R α} {δ' : DEnv} {p : R α} (h : δ = δ') (k : m δ' = p) : m δ = p := by rw [h]; exact k
theorem cast_ok {τ α : Type} {o : τ → α} {a b : τ} {r : R (α × DEnv)} (h : a = b) (k : r = .ok (o a, δ)) : r = .ok (o b, δ) := by rw [← h]; exact k
theorem u_br {τ α : Type} {p : τ → α} {x v : τ} {r : R α} (hx : (R.ok x : R τ) = .ok v) (k : r = .ok (p x)) : r = .ok (p v) := by rw [← of_ok hx]; exact k
theorem tl_rtF {ρ : Type} {o : ρ → O} {x r : ρ} {m : DM O} (hx : (R.ok x : R ρ) = .ok r) (h : m δ = .ok (o x, δ1)) : Tl (sSeq (sRet m) K δ) (PF (o r)) := by
  rw [← of_ok hx]
  exact tl_rt h (.inl rfl)
theorem tl_rtFR {ρ σ : Type} {o : ρ → O} {o' : σ → O} {i : Nat} {x : ρ} {z : σ} {r : ρ × σ} {m : DM O} (hx : (R.ok (x, z) : R (ρ × σ)) = .ok r) (h : m δ = .ok (o x, δ1)) (hi : δ1[i]? = some (some (o' z))) : Tl (sSeq (sRet m) K δ) (fun fl δ' => PF (o r.1) fl δ' ∧ δ'[i]? = some (some (o' r.2))) := by
  rw [← of_ok hx]
  exact tl_rt h ⟨.inl rfl, hi⟩
theorem tl_rtNF {ρ : Type} {o : ρ → O} {x r : ρ} (hx : (R.ok x : R ρ) = .ok r) (ho : o x = .d .non) : Tl (sSeq sRetN K δ) (PF (o r)) := by
  rw [← of_ok hx]
  exact tl_rtN (.inl (by rw [ho]))
theorem tl_endF {ρ : Type} {o : ρ → O} {x r : ρ} (hx : (R.ok x : R ρ) = .ok r) (ho : o x = .d .non) : Tl (sNil δ) (PF (o r)) := by
  rw [← of_ok hx]
  exact tl_end (.inr ⟨rfl, ho⟩)
theorem tl_endFR {ρ σ : Type} {o : ρ → O} {o' : σ → O} {i : Nat} {x : ρ} {z : σ} {r : ρ × σ} (hx : (R.ok (x, z) : R (ρ × σ)) = .ok r) (ho : o x = .d .non) (hi : δ[i]? = some (some (o' z))) : Tl (sNil δ) (fun fl δ' => PF (o r.1) fl δ' ∧ δ'[i]? = some (some (o' r.2))) := by
  rw [← of_ok hx]
  exact tl_end ⟨.inr ⟨rfl, ho⟩, hi⟩
variable {S ρ : Type} {lit : S → DEnv} {V : List Nat} {o : ρ → O}
theorem tl_endL {x s : S} (hx : (R.ok x : R S) = .ok s) (h : wipeD δ V = lit x) : Tl (sNil δ) (fun fl δ' => (fl = .nx ∨ fl = .ct) ∧ wipeD δ' V = lit s) := by
  rw [← of_ok hx]
  exact tl_end ⟨.inl rfl, h⟩
theorem tl_ctL {x s : S} (hx : (R.ok x : R S) = .ok s) (h : wipeD δ V = lit x) : Tl (sSeq sCnt K δ) (fun fl δ' => (fl = .nx ∨ fl = .ct) ∧ wipeD δ' V = lit s) := by
  rw [← of_ok hx]
  exact tl_ct ⟨.inr rfl, h⟩
theorem tl_endJ {x s : S} (hx : (R.ok x : R S) = .ok s) (h : wipeD δ V = lit x) : Tl (sNil δ) (fun fl δ' => fl = .nx ∧ wipeD δ' V = lit s) := by
  rw [← of_ok hx]
  exact tl_end ⟨rfl, h⟩
theorem tl_endC {x : S} {c : Ctl S ρ} (hx : (R.ok (Ctl.nx x) : R (Ctl S ρ)) = .ok c) (h : wipeD δ V = lit x) : Tl (sNil δ) (PB lit V o c) := by
  rw [← of_ok hx]
  exact tl_end ⟨.inl rfl, h⟩
theorem tl_ctC {x : S} {c : Ctl S ρ} (hx : (R.ok (Ctl.nx x) : R (Ctl S ρ)) = .ok c) (h : wipeD δ V = lit x) : Tl (sSeq sCnt K δ) (PB lit V o c) := by
  rw [← of_ok hx]
  exact tl_ct ⟨.inr rfl, h⟩
theorem tl_bkC {x : S} {c : Ctl S ρ} (hx : (R.ok (Ctl.bk x) : R (Ctl S ρ)) = .ok c) (h : wipeD δ V = lit x) : Tl (sSeq sBrk K δ) (PB lit V o c) := by
  rw [← of_ok hx]
  exact tl_bk ⟨rfl, h⟩
theorem tl_rtC {x : ρ} {c : Ctl S ρ} {m : DM O} (hx : (R.ok (Ctl.rt x) : R (Ctl S ρ)) = .ok c) (h : m δ = .ok (o x, δ1)) : Tl (sSeq (sRet m) K δ) (PB lit V o c) := by
  rw [← of_ok hx]
  exact tl_rt h rfl
theorem pf_rt (x : O) (δ' : DEnv) : PF x (.rt x) δ' := .inl rfl
theorem pb_rt {v : ρ} {c : Ctl S ρ} (hx : (R.ok (Ctl.rt v) : R (Ctl S ρ)) = .ok c) (δ' : DEnv) : PB lit V o c (.rt (o v)) δ' := by
  rw [← of_ok hx]
  rfl
end
end U
namespace U
open PySem L2 G
theorem tl_at {m : SM} {δ δ' : DEnv} {P : Fl → DEnv → Prop} (h : δ = δ') (k : Tl (m δ') P) : Tl (m δ) P := by rw [h]; exact k
end U
namespace U
open PySem L2 G
section
variable {δ : DEnv} {a b K : SM} {P : Fl → DEnv → Prop} {S ρ : Type} {lit : S → DEnv} {V : List Nat} {o : ρ → O} {c : Ctl S ρ}
theorem tl_contC (h : Tl (a δ) (PC lit V o c)) (k1 : ∀ s, c = .nx s → Tl (b (lit s)) P) (k2 : ∀ v, c = .rt v → ∀ δ', P (.rt (o v)) δ') : Tl (sSeq a (sWipe V b) δ) P := by
  cases c with
  | nx s => exact tl_cNx h (k1 s rfl)
  | bk s => exact (pc_bk h).elim
  | rt v => exact tl_cRt h (k2 v rfl)
theorem tl_contC2 (h : Tl (a δ) (PC lit V o c)) (k1 : ∀ s, c = .nx s → Tl (sSeq b K (lit s)) P) (k2 : ∀ v, c = .rt v → ∀ δ', P (.rt (o v)) δ') : Tl (sSeq a (sSeq (sWipe V b) K) δ) P := tl_contC (b := sSeq b K) h k1 k2
theorem pf_rtv {v r : ρ} (hx : (R.ok v : R ρ) = .ok r) (δ' : DEnv) : PF (o r) (.rt (o v)) δ' := by
  rw [← of_ok hx]
  exact .inl rfl
end
end U
namespace U
open PySem L2 G
section
variable {δ δ1 : DEnv}
theorem u_setIf {τ : Type} {i : Nat} {p : Fl × DEnv} {v : τ} {tx ty : R τ} {t : DM Bool} {m1 m2 : DM O} {c : Bool} (hv : (if c = true then tx else ty) = .ok v) (h : t δ = .ok (c, δ1)) (h1 : c = true → tx = .ok v → sSet i m1 δ1 = .ok p) (h2 : c = false → ty = .ok v → sSet i m2 δ1 = .ok p) : sSet i (dIf t m1 m2) δ = .ok p := by
  rcases of_ite hv with ⟨z, q⟩ | ⟨z, q⟩
  · subst z
    have k := h1 rfl q
    unfold sSet dIf at *
    rw [h]
    exact k
  · subst z
    have k := h2 rfl q
    unfold sSet dIf at *
    rw [h]
    exact k
end
end U
namespace U
open PySem L2 G
theorem u_zipL {δ δ1 : DEnv} {ms : DM (List D)} {x y : D} {ds : List D} (h : ms δ = .ok ([x, y], δ1)) (hz : zipOk x y = some ds) : dZip ms δ = .ok (ds, δ1) := by
  unfold dZip
  rw [h]
  dsimp only
  rw [hz]
theorem fEq_no {x y : D} (hx : x.sh = true) (hy : y.sh = true) (hs : x.same y = false) : fEq x y = .ok (.bl false) := by
  rw [fEq_sh hx hy, hs]
theorem fNe_no {x y : D} (hx : x.sh = true) (hy : y.sh = true) (hs : x.same y = false) : fNe x y = .ok (.bl true) := by
  rw [fNe_sh hx hy, hs]
  rfl
end U
/-! U6: the typed layer: plain lemmas over what the typed functions are made of. -/
namespace U
open PySem PyProof L2 G
section
variable {α β S ρ : Type}
theorem bind_ok {a : α} {k : α → R β} : U.bind (.ok a) k = k a := rfl
theorem bind_eq {t : R α} {a : α} {k : α → R β} (h : t = .ok a) : U.bind t k = k a := by rw [h]; rfl
theorem bind_pure (t : R α) : (U.bind t fun v => .ok v) = t := by cases t <;> rfl
theorem chk_ok {n : Nat} (h : n < 16777216) : chk n = .ok () := by
  unfold chk
  rw [if_pos (show Nat.blt n 16777216 = true from Nat.ble_eq_true_of_le h)]
theorem need_true : need true = .ok () := rfl
theorem need_ok {b : Bool} (h : b = true) : need b = .ok () := by rw [h]; rfl
theorem ixN_nat {n i : Nat} (h : i < n) : ixN n (i : Int) = some i := by
  unfold ixN
  rw [if_pos (by omega), if_pos (by omega), Int.toNat_natCast]
theorem ix_nat {xs : List α} {i : Nat} (h : i < xs.length) : ix xs (i : Int) = .ok xs[i] := by
  unfold ix atI
  rw [ixN_nat h]
  show (match xs[i]? with | some x => R.ok x | none => .no) = _
  rw [List.getElem?_eq_getElem h]
theorem ix_int {xs : List α} {i : Int} (h0 : 0 ≤ i) (h : i.toNat < xs.length) : ix xs i = .ok xs[i.toNat] := by
  have e : (i.toNat : Int) = i := Int.toNat_of_nonneg h0
  have := ix_nat h
  rw [e] at this
  exact this
theorem ix_some {xs : List α} {i : Nat} {x : α} (h : xs[i]? = some x) : ix xs (i : Int) = .ok x := by
  unfold ix atI
  rw [ixN_nat (List.getElem?_eq_some_iff.mp h).1]
  show (match xs[i]? with | some x => R.ok x | none => .no) = _
  rw [h]
theorem setIx_nat {xs : List α} {i : Nat} {y : α} (h : i < xs.length) : setIx xs (i : Int) y = .ok (xs.set i y) := by
  unfold setIx
  rw [ixN_nat h]
theorem setIx_int {xs : List α} {i : Int} {y : α} (h0 : 0 ≤ i) (h : i.toNat < xs.length) : setIx xs i y = .ok (xs.set i.toNat y) := by
  have e : (i.toNat : Int) = i := Int.toNat_of_nonneg h0
  have := setIx_nat (y := y) h
  rw [e] at this
  exact this
theorem inW_ok {i : Int} (h1 : -1000000000000 < i) (h2 : i < 1000000000000) : inW i = true := by
  unfold inW
  simp only [Bool.and_eq_true, decide_eq_true_eq]
  omega
theorem rngL_map (st : Int) : ∀ (n : Nat) (lo : Int), rngL lo st n = (List.range n).map fun i => lo + (i : Nat) * st
  | 0, lo => rfl
  | n + 1, lo => by
    rw [rngL, rngL_map st n (lo + st), List.range_succ_eq_map, List.map_cons, List.map_map]
    congr 1
    · simp
    · apply List.map_congr_left
      intro i hi
      show lo + st + (i : Nat) * st = lo + ((i + 1 : Nat)) * st
      rw [Int.natCast_add, Int.add_mul, Int.add_assoc]
      congr 1
      simp [Int.add_comm]
theorem rngL_length (st : Int) (n : Nat) (lo : Int) : (rngL lo st n).length = n := by rw [rngL_map, List.length_map, List.length_range]
theorem mem_rngL {lo : Int} {n : Nat} {x : Int} (h : x ∈ rngL lo 1 n) : lo ≤ x ∧ x < lo + n := by
  rw [rngL_map] at h
  obtain ⟨i, hi, rfl⟩ := List.mem_map.mp h
  have := List.mem_range.mp hi
  omega
theorem rng1_ok {j : Int} (h1 : -1000000000000 < j) (h2 : j < 1000000000000) : rng1 j = .ok (rngL 0 1 j.toNat) := by
  unfold rng1
  rw [if_pos (inW_ok h1 h2)]
theorem rng2_ok {i j : Int} (h1 : -1000000000000 < i) (h2 : i < 1000000000000) (h3 : -1000000000000 < j) (h4 : j < 1000000000000) : rng2 i j = .ok (rngL i 1 (j - i).toNat) := by
  unfold rng2
  rw [inW_ok h1 h2, inW_ok h3 h4]
  rfl
theorem cat_ok {xs ys : List α} (h : xs.length + ys.length ≤ 16777216) : cat xs ys = .ok (xs ++ ys) := by
  unfold cat small
  rw [if_pos (Nat.ble_eq_true_of_le h)]
theorem rep_ok {x : α} {k : Int} (h0 : -1000000 ≤ k) (h1 : k ≤ 1000000) : rep [x] k = .ok (List.replicate k.toNat x) := by
  unfold rep small
  have e : (List.replicate k.toNat [x]).flatten = List.replicate k.toNat x := by
    generalize k.toNat = n
    induction n with
    | zero => rfl
    | succ n ih => rw [List.replicate_succ, List.replicate_succ, List.flatten_cons, ih]; rfl
  rw [if_pos, e]
  simp only [Bool.and_eq_true, decide_eq_true_eq]
  refine ⟨⟨h0, h1⟩, Nat.ble_eq_true_of_le ?_⟩
  show 1 * k.toNat ≤ 16777216
  omega
theorem forM_nil {f : α → S → R S} {s : S} : U.forM f [] s = .ok s := rfl
theorem forM_cons {f : α → S → R S} {x : α} {xs : List α} {s : S} : U.forM f (x :: xs) s = U.bind (f x s) fun s' => U.forM f xs s' := rfl
theorem whileM_step {c : S → R Bool} {f : S → R S} {n : Nat} {s s1 : S} (h : c s = .ok true) (h1 : f s = .ok s1) : whileM c f (n + 1) s = whileM c f n s1 := by
  rw [whileM, h]
  show U.bind (f s) (fun s' => whileM c f n s') = _
  rw [h1]
  rfl
theorem whileM_end {c : S → R Bool} {f : S → R S} {n : Nat} {s : S} (h : c s = .ok false) : whileM c f (n + 1) s = .ok s := by
  rw [whileM, h]
  rfl
theorem forM_inv {f : α → S → R S} {I : S → Prop} : ∀ {xs : List α} {s : S}, (∀ x ∈ xs, ∀ s, I s → ∃ s', f x s = .ok s' ∧ I s') → I s → ∃ s', forM f xs s = .ok s' ∧ I s'
  | [], s, h, h0 => ⟨s, rfl, h0⟩
  | x :: xs, s, h, h0 => by
    obtain ⟨s1, e1, i1⟩ := h x (List.mem_cons_self ..) s h0
    obtain ⟨s2, e2, i2⟩ := forM_inv (fun y hy => h y (List.mem_cons_of_mem _ hy)) i1
    exact ⟨s2, by rw [forM, e1]; exact e2, i2⟩
theorem forM_invN {f : α → S → R S} : ∀ {xs : List α} {I : Nat → S → Prop} {s : S}, (∀ k x, xs[k]? = some x → ∀ s, I k s → ∃ s', f x s = .ok s' ∧ I (k + 1) s') → I 0 s → ∃ s', forM f xs s = .ok s' ∧ I xs.length s'
  | [], I, s, h, h0 => ⟨s, rfl, h0⟩
  | x :: xs, I, s, h, h0 => by
    obtain ⟨s1, e1, i1⟩ := h 0 x rfl s h0
    obtain ⟨s2, e2, i2⟩ := forM_invN (xs := xs) (I := fun k => I (k + 1)) (fun k y hy => h (k + 1) y (by simpa using hy)) i1
    exact ⟨s2, by rw [forM, e1]; exact e2, i2⟩
theorem forM_foldl {f : α → S → R S} {g : α → S → S} : ∀ {xs : List α} {s : S}, (∀ x ∈ xs, ∀ s, f x s = .ok (g x s)) → forM f xs s = .ok (xs.foldl (fun s x => g x s) s)
  | [], s, h => rfl
  | x :: xs, s, h => by
    rw [forM, h x (List.mem_cons_self ..)]
    exact forM_foldl fun y hy => h y (List.mem_cons_of_mem _ hy)
theorem forM_foldlI {f : α → S → R S} {g : α → S → S} {I : S → Prop} : ∀ {xs : List α} {s : S}, (∀ x ∈ xs, ∀ s, I s → f x s = .ok (g x s) ∧ I (g x s)) → I s → forM f xs s = .ok (xs.foldl (fun s x => g x s) s) ∧ I (xs.foldl (fun s x => g x s) s)
  | [], s, h, h0 => ⟨rfl, h0⟩
  | x :: xs, s, h, h0 => by
    obtain ⟨e, i⟩ := h x (List.mem_cons_self ..) s h0
    rw [forM, e]
    exact forM_foldlI (fun y hy => h y (List.mem_cons_of_mem _ hy)) i
theorem forC_inv {f : α → S → R (Ctl S ρ)} {I : S → Prop} : ∀ {xs : List α} {s : S}, (∀ x ∈ xs, ∀ s, I s → ∃ s', f x s = .ok (.nx s') ∧ I s') → I s → ∃ s', forC f xs s = .ok (.nx s') ∧ I s'
  | [], s, h, h0 => ⟨s, rfl, h0⟩
  | x :: xs, s, h, h0 => by
    obtain ⟨s1, e1, i1⟩ := h x (List.mem_cons_self ..) s h0
    obtain ⟨s2, e2, i2⟩ := forC_inv (fun y hy => h y (List.mem_cons_of_mem _ hy)) i1
    exact ⟨s2, by rw [forC, e1]; exact e2, i2⟩
theorem forC_invN {f : α → S → R (Ctl S ρ)} : ∀ {xs : List α} {I : Nat → S → Prop} {s : S}, (∀ k x, xs[k]? = some x → ∀ s, I k s → ∃ s', f x s = .ok (.nx s') ∧ I (k + 1) s') → I 0 s → ∃ s', forC f xs s = .ok (.nx s') ∧ I xs.length s'
  | [], I, s, h, h0 => ⟨s, rfl, h0⟩
  | x :: xs, I, s, h, h0 => by
    obtain ⟨s1, e1, i1⟩ := h 0 x rfl s h0
    obtain ⟨s2, e2, i2⟩ := forC_invN (xs := xs) (I := fun k => I (k + 1)) (fun k y hy => h (k + 1) y (by simpa using hy)) i1
    exact ⟨s2, by rw [forC, e1]; exact e2, i2⟩
theorem mapM_ok {f : α → R β} {g : α → β} : ∀ {xs : List α}, (∀ x ∈ xs, f x = .ok (g x)) → mapM f xs = .ok (xs.map g)
  | [], h => rfl
  | x :: xs, h => by
    rw [mapM, h x (List.mem_cons_self ..), mapM_ok fun y hy => h y (List.mem_cons_of_mem _ hy)]
    rfl
theorem compM_ok {p : α → R Bool} {f : α → R β} {q : α → Bool} {g : α → β} : ∀ {xs : List α}, (∀ x ∈ xs, p x = .ok (q x)) → (∀ x ∈ xs, q x = true → f x = .ok (g x)) → compM p f xs = .ok ((xs.filter q).map g)
  | [], h, h' => rfl
  | x :: xs, h, h' => by
    have ih := compM_ok (fun y hy => h y (List.mem_cons_of_mem _ hy)) (fun y hy => h' y (List.mem_cons_of_mem _ hy))
    rw [compM, h x (List.mem_cons_self ..)]
    show (if q x = true then _ else _) = _
    by_cases c : q x = true
    · rw [if_pos c, h' x (List.mem_cons_self ..) c, List.filter_cons_of_pos c, ih]
      rfl
    · rw [if_neg c, List.filter_cons_of_neg c, ih]
theorem mapS_invN {f : α → S → R (β × S)} {Q : β → Prop} : ∀ {xs : List α} {I : Nat → S → Prop} {s : S}, (∀ k x, xs[k]? = some x → ∀ s, I k s → ∃ y s', f x s = .ok (y, s') ∧ Q y ∧ I (k + 1) s') → I 0 s → ∃ ys s', mapS f xs s = .ok (ys, s') ∧ ys.length = xs.length ∧ (∀ y ∈ ys, Q y) ∧ I xs.length s'
  | [], I, s, h, h0 => ⟨[], s, rfl, rfl, fun y hy => (nomatch hy), h0⟩
  | x :: xs, I, s, h, h0 => by
    obtain ⟨y, s1, e1, q1, i1⟩ := h 0 x rfl s h0
    obtain ⟨ys, s2, e2, l2, q2, i2⟩ := mapS_invN (xs := xs) (I := fun k => I (k + 1)) (fun k y hy => h (k + 1) y (by simpa using hy)) i1
    refine ⟨y :: ys, s2, ?_, by rw [List.length_cons, List.length_cons, l2], ?_, i2⟩
    · rw [mapS, e1]
      show U.bind (mapS f xs s1) _ = _
      rw [e2]
      rfl
    · intro z hz
      rcases List.mem_cons.mp hz with hz | hz
      · rw [hz]; exact q1
      · exact q2 z hz
theorem enumA_get : ∀ (xs : List α) (k i : Nat), (enumA k xs)[i]? = (xs[i]?).map fun x => (((k + i : Nat) : Int), x)
  | [], k, i => by simp [enumA]
  | x :: xs, k, 0 => by simp [enumA]
  | x :: xs, k, i + 1 => by
    rw [enumA, List.getElem?_cons_succ, enumA_get xs (k + 1) i, List.getElem?_cons_succ]
    congr 2
    funext x
    congr 2
    omega
theorem enumA_length : ∀ (xs : List α) (k : Nat), (enumA k xs).length = xs.length
  | [], k => rfl
  | x :: xs, k => by rw [enumA, List.length_cons, List.length_cons, enumA_length xs]
theorem mem_enumA {xs : List α} {k : Nat} {p : Int × α} (h : p ∈ enumA k xs) : ∃ i : Nat, i < xs.length ∧ p.1 = ((k + i : Nat) : Int) ∧ xs[i]? = some p.2 := by
  obtain ⟨i, hi⟩ := List.getElem?_of_mem h
  rw [enumA_get] at hi
  cases q : xs[i]? with
  | none => rw [q] at hi; cases hi
  | some x =>
    rw [q] at hi
    cases hi
    exact ⟨i, (List.getElem?_eq_some_iff.mp q).1, rfl, q⟩
theorem okMul_r {i j : Int} (h : j.natAbs < 18446744073709551616) : okMul i j = true := f_mulR (Nat.ble_eq_true_of_le h)
theorem okMul_l {i j : Int} (h : i.natAbs < 18446744073709551616) : okMul i j = true := f_mulL (Nat.ble_eq_true_of_le h)
theorem okDiv_ok {i j : Int} (h1 : 0 < j) (h2 : j < 1073741824) : okDiv i j = true := by
  obtain ⟨n, rfl⟩ : ∃ n : Nat, j = n := ⟨j.toNat, (Int.toNat_of_nonneg (by omega)).symm⟩
  show (Nat.blt 0 n && Nat.blt n 1073741824) = true
  rw [Bool.and_eq_true]
  exact ⟨Nat.ble_eq_true_of_le (show 1 ≤ n by omega), Nat.ble_eq_true_of_le (show n + 1 ≤ 1073741824 by omega)⟩
theorem okMod_ok {i j : Int} (h1 : 0 < j) : okMod i j = true := by
  obtain ⟨n, rfl⟩ : ∃ n : Nat, j = n := ⟨j.toNat, (Int.toNat_of_nonneg (by omega)).symm⟩
  exact Nat.ble_eq_true_of_le (show 1 ≤ n by omega)
theorem popAt_ok {xs : List α} {i : Int} (h0 : 0 ≤ i) (h : i.toNat < xs.length) (hl : xs.length < 1073741824) : popAt xs i = .ok (xs[i.toNat], xs.eraseIdx i.toNat) := by
  have hs : seqIndex? i xs.length = some i.toNat := seqIndex_of (k := i) (n := xs.length) h0 (by omega)
  unfold popAt
  rw [if_pos ⟨by omega, by omega⟩, hs]
  dsimp only
  rw [List.getElem?_eq_getElem h]
theorem sl_to (xs : List α) (p : Nat) : sl xs none (some (p : Int)) = xs.take p := by
  unfold sl
  rw [HT.sIx_nat]
  show (xs.drop 0).take (min p xs.length - 0) = _
  rw [List.drop_zero, Nat.sub_zero]
  by_cases h : p ≤ xs.length
  · rw [Nat.min_eq_left h]
  · rw [Nat.min_eq_right (by omega), List.take_length, List.take_of_length_le (by omega)]
theorem sl_from (xs : List α) (p : Nat) : sl xs (some (p : Int)) none = xs.drop p := by
  unfold sl
  rw [HT.sIx_nat]
  show (xs.drop (min p xs.length)).take (xs.length - min p xs.length) = _
  by_cases h : p ≤ xs.length
  · rw [Nat.min_eq_left h, List.take_of_length_le (by rw [List.length_drop]; exact Nat.le_refl _)]
  · rw [Nat.min_eq_right (by omega), List.drop_eq_nil_of_le (Nat.le_refl _), List.drop_eq_nil_of_le (by omega), List.take_nil]
theorem sl_length_le (xs : List α) (lo hi : Option Int) : (sl xs lo hi).length ≤ xs.length := by
  unfold sl
  rw [List.length_take, List.length_drop]
  omega
end
end U

namespace L
open PySem PySem.Spec L2 G
def top (i : Nat) : Stmt := PySem.Challenge.pw_leastmodels_k20_main_free_brackets_count.main.body.getD i (.Pass ⟨0, 0, 0, 0⟩)
abbrev DEFS : List (Str × Stmt) := [("is_number", top 5), ("is_within", top 6), ("are_numbers", top 7), ("tupled", top 8), ("sure_within", top 9), ("sure_list", top 13), ("words_series", top 14), ("series_times", top 15), ("ranks_from_series", top 16), ("free_ranks_in", top 17), ("is_lyndon", top 18), ("lyndon_words", top 19), ("word_degree", top 20), ("free_ranks", top 21), ("basic_words", top 22), ("is_basic_word", top 23), ("joined_ranks", top 24), ("cut_word", top 25), ("_law_box", top 27), ("_law_take", top 28), ("_law_cells", top 29), ("_law_pick", top 30), ("_law_lists", top 31), ("_law_same", top 32), ("_law_flat", top 33), ("_law_moebius", top 34), ("_law_all_words", top 35), ("_law_less", top 36), ("_law_power", top 37), ("law", top 38)]
abbrev FREE : List Str := ["isinstance", "bool", "int", "all", "tuple", "list", "any", "len", "range", "sum", "sorted", "enumerate", "min", "abs", "str", "zip", "dict"]
abbrev CONS : List (Str × Int) := [("MOST_LETTERS", 8), ("MOST_WORDS", 3000)]
section
variable {P : Program} {w : World} {K : PySem.W.Frag} {mg : Str → Option Value} {base : Heap} {cv : Nat → Value}
def N_is_number : List Str := ["thing"]
theorem sc_is_number : FnScope N_is_number ["thing"] (defScope (top 5)) := ⟨rfl, rfl, rfl, by decide +kernel, rfl, by decide +kernel, by decide +kernel⟩
def m_is_number : SM := sSeq (sRet (DM.dat (dAndV (d1 (fIsi .int) (dVar 0)) (d1 fNot (d1 (fIsi .bl) (dVar 0))))))
  (sNil)
def f_is_number : DF := runDef 1 1 none m_is_number
theorem bd_is_number (X : Facts K mg DEFS FREE CONS) : BodyOk P w K mg base cv N_is_number (defScope (top 5)) 0 none (defBody (top 5)) m_is_number := fun A E V hsc nd hr hfn hown hpass =>
    gss_cons (gs_ret (GD.go (gd_and (gd_isi .int (X.free 0 "isinstance" rfl) (X.free 2 "int" rfl) (gd_var 0)) (gd_one (gd_not (gd_isi .bl (X.free 0 "isinstance" rfl) (X.free 1 "bool" rfl) (gd_var 0)))))))
      (gss_nil)
theorem ok_is_number (X : Facts K mg DEFS FREE CONS) : DefOk P w K mg base cv "is_number" (top 5) 1 none ["thing"] f_is_number := by
  obtain ⟨f, fd, F, hm⟩ := X.def_ 0 ("is_number", top 5) rfl
  exact def_of F hm sc_is_number (bd_is_number X) (FunD.bindsN F fun _ _ _ _ _ _ us hl => match us, hl with | [_], _ => rfl) (fun i hi => nomatch hi)
def N_is_within : List Str := ["thing", "least", "most"]
theorem sc_is_within : FnScope N_is_within ["thing", "least", "most"] (defScope (top 6)) := ⟨rfl, rfl, rfl, by decide +kernel, rfl, by decide +kernel, by decide +kernel⟩
def m_is_within : SM := sSeq (sRet (DM.dat (dAndV (DM.frz (oCall (f_is_number) (dCons (dVar 0) (aNil)))) (dChain (fun i j => decide (i ≤ j)) (fun i j => decide (i ≤ j)) (dVar 1) (dVar 0) (dVar 2)))))
  (sNil)
def f_is_within : DF := runDef 3 3 none m_is_within
theorem bd_is_within (X : Facts K mg DEFS FREE CONS) : BodyOk P w K mg base cv N_is_within (defScope (top 6)) 1 none (defBody (top 6)) m_is_within := fun A E V hsc nd hr hfn hown hpass =>
    gss_cons (gs_ret (GD.go (gd_and (GO.gd (go_call (ok_is_number X) (ga_cons (gd_var 0) (ga_nil)))) (gd_one (gd_chain (fun _ _ => op_le) (fun _ _ => op_le) (gd_var 1) (gd_var 0) (gd_var 2))))))
      (gss_nil)
theorem ok_is_within (X : Facts K mg DEFS FREE CONS) : DefOk P w K mg base cv "is_within" (top 6) 2 none ["thing", "least", "most"] f_is_within := by
  obtain ⟨f, fd, F, hm⟩ := X.def_ 1 ("is_within", top 6) rfl
  exact def_of F hm sc_is_within (bd_is_within X) (FunD.bindsN F fun _ _ _ _ _ _ us hl => match us, hl with | [_, _, _], _ => rfl) (fun i hi => nomatch hi)
def N_are_numbers : List Str := ["thing", "own"]
theorem sc_are_numbers : FnScope N_are_numbers ["thing"] (defScope (top 7)) := ⟨rfl, rfl, rfl, by decide +kernel, rfl, by decide +kernel, by decide +kernel⟩
def m_are_numbers : SM := sSeq (sRet (DM.dat (dAndV (d1 (fIsi .tup) (dVar 0)) (d1 fAll (DM.frz (oComp [1] (dItems (dVar 0)) (gN 1) (dYes) (DM.frz (oCall (f_is_number) (dCons (dVar 1) (aNil))))))))))
  (sNil)
def f_are_numbers : DF := runDef 2 1 none m_are_numbers
theorem bd_are_numbers (X : Facts K mg DEFS FREE CONS) : BodyOk P w K mg base cv N_are_numbers (defScope (top 7)) 1 none (defBody (top 7)) m_are_numbers := fun A E V hsc nd hr hfn hown hpass =>
    gss_cons (gs_ret (GD.go (gd_and (gd_isi .tup (X.free 0 "isinstance" rfl) (X.free 4 "tuple" rfl) (gd_var 0)) (gd_one (gd_all (X.free 3 "all" rfl) (GO.gd (go_comp [("own", 1)] (by rfl) (gi_any (gd_var 0)) (gg_name 1) (gts_nil) (GO.gd (go_call (ok_is_number X) (ga_cons (gd_var 1) (ga_nil)))))))))))
      (gss_nil)
theorem ok_are_numbers (X : Facts K mg DEFS FREE CONS) : DefOk P w K mg base cv "are_numbers" (top 7) 2 none ["thing"] f_are_numbers := by
  obtain ⟨f, fd, F, hm⟩ := X.def_ 2 ("are_numbers", top 7) rfl
  exact def_of F hm sc_are_numbers (bd_are_numbers X) (FunD.bindsN F fun _ _ _ _ _ _ us hl => match us, hl with | [_], _ => rfl) (fun i hi => nomatch hi)
def N_tupled : List Str := ["value", "own"]
theorem sc_tupled : FnScope N_tupled ["value"] (defScope (top 8)) := ⟨rfl, rfl, rfl, by decide +kernel, rfl, by decide +kernel, by decide +kernel⟩
def m_tupled (rec : DF) : SM := sSeq (sRet (dIf (dBool (d1 (fIsi2 .lst .tup) (dVar 0))) (DM.dat (d1 fTuple (DM.frz (oComp [1] (dItems (dVar 0)) (gN 1) (dYes) (DM.frz (oCall (rec) (dCons (dVar 1) (aNil)))))))) (DM.dat (dVar 0))))
  (sNil)
def f_tupled : Nat → DF
  | 0 => fun _ => .no
  | n + 1 => runDef 2 1 none (m_tupled (f_tupled n))
theorem bd_tupled (X : Facts K mg DEFS FREE CONS) (j : Nat) (rec : DF) (ok : DefOk P w K mg base cv "tupled" (top 8) (0 + j) none ["value"] rec) : BodyOk P w K mg base cv N_tupled (defScope (top 8)) (0 + j) none (defBody (top 8)) (m_tupled rec) := fun A E V hsc nd hr hfn hown hpass =>
    gss_cons (gs_ret (go_if (gt_bool (gd_isi2 .lst .tup (X.free 0 "isinstance" rfl) (X.free 5 "list" rfl) (X.free 4 "tuple" rfl) (gd_var 0))) (GD.go (gd_tuple (X.free 4 "tuple" rfl) (GO.gd (go_comp [("own", 1)] (by rfl) (gi_any (gd_var 0)) (gg_name 1) (gts_nil) (GO.gd (go_call (hj := Nat.le_refl _) (ok) (ga_cons (gd_var 1) (ga_nil)))))))) (GD.go (gd_var 0))))
      (gss_nil)
theorem okn_tupled (X : Facts K mg DEFS FREE CONS) : ∀ n : Nat, DefOk P w K mg base cv "tupled" (top 8) (0 + n) none ["value"] (f_tupled n)
  | 0 => by
    obtain ⟨f, fd, F, hm⟩ := X.def_ 3 ("tupled", top 8) rfl
    exact ⟨f, fd, fn_none, hm, F.kp, (FunD.bindsN F fun _ _ _ _ _ _ us hl => match us, hl with | [_], _ => rfl), F⟩
  | n + 1 => by
    obtain ⟨f, fd, F, hm⟩ := X.def_ 3 ("tupled", top 8) rfl
    exact def_of F hm sc_tupled (bd_tupled X n _ (okn_tupled X n)) (FunD.bindsN F fun _ _ _ _ _ _ us hl => match us, hl with | [_], _ => rfl) (fun i hi => nomatch hi)
theorem ok_tupled (X : Facts K mg DEFS FREE CONS) : DefOk P w K mg base cv "tupled" (top 8) 20 none ["value"] (f_tupled 20) := okn_tupled X 20
def N_sure_within : List Str := ["thing", "least", "most"]
theorem sc_sure_within : FnScope N_sure_within ["thing", "least", "most"] (defScope (top 9)) := ⟨rfl, rfl, rfl, by decide +kernel, rfl, by decide +kernel, by decide +kernel⟩
def m_sure_within : SM := sSeq (sIf (dNotT (dBool (DM.frz (oCall (f_is_within) (dCons (dVar 0) (dCons (dVar 1) (dCons (dVar 2) (aNil)))))))) (sSeq (sNever)
  (sNil)) (sNil))
  (sWipe [] (sSeq (sRet (oVar 0))
  (sNil)))
def f_sure_within : DF := runDef 3 3 none m_sure_within
theorem bd_sure_within (X : Facts K mg DEFS FREE CONS) : BodyOk P w K mg base cv N_sure_within (defScope (top 9)) 2 none (defBody (top 9)) m_sure_within := fun A E V hsc nd hr hfn hown hpass =>
    gss_cons (gs_if' (gt_not (gt_bool (GO.gd (go_call (ok_is_within X) (ga_cons (gd_var 0) (ga_cons (gd_var 1) (ga_cons (gd_var 2) (ga_nil)))))))) (gss_cons (gs_never)
      (gss_nil)) (gss_nil))
      (gss_wipe [] (gss_cons (gs_ret (go_var 0))
      (gss_nil)))
theorem ok_sure_within (X : Facts K mg DEFS FREE CONS) : DefOk P w K mg base cv "sure_within" (top 9) 3 none ["thing", "least", "most"] f_sure_within := by
  obtain ⟨f, fd, F, hm⟩ := X.def_ 4 ("sure_within", top 9) rfl
  exact def_of F hm sc_sure_within (bd_sure_within X) (FunD.bindsN F fun _ _ _ _ _ _ us hl => match us, hl with | [_, _, _], _ => rfl) (fun i hi => nomatch hi)
def N_sure_list : List Str := ["value", "least", "own", "its"]
theorem sc_sure_list : FnScope N_sure_list ["value", "least"] (defScope (top 13)) := ⟨rfl, rfl, rfl, by decide +kernel, rfl, by decide +kernel, by decide +kernel⟩
def m_sure_list : SM := sSeq (sSet 2 (oCall (f_tupled 20) (dCons (dVar 0) (aNil))))
  (sSeq (sIf (dOrT (dNotT (dBool (DM.frz (oCall (f_are_numbers) (dCons (dVar 2) (aNil)))))) (dOrT (dBool (dGt (dLenN 2) (dC (.int 8)))) (dBool (d1 fAny (DM.frz (oComp [3] (dItems (dVar 2)) (gN 3) (dYes) (d1 fNot (dChain (fun i j => decide (i ≤ j)) (fun i j => decide (i ≤ j)) (dVar 1) (dVar 3) (dC (.int 20)))))))))) (sSeq (sNever)
  (sNil)) (sNil))
  (sWipe [] (sSeq (sRet (oVar 2))
  (sNil))))
def f_sure_list : DF := runDef 4 2 none m_sure_list
theorem bd_sure_list (X : Facts K mg DEFS FREE CONS) : BodyOk P w K mg base cv N_sure_list (defScope (top 13)) 21 none (defBody (top 13)) m_sure_list := fun A E V hsc nd hr hfn hown hpass =>
    gss_cons (gs_set 2 (go_call (ok_tupled X) (ga_cons (gd_var 0) (ga_nil))))
      (gss_cons (gs_if' (GW.gt (gw_or (gt_not (gt_bool (GO.gd (go_call (ok_are_numbers X) (ga_cons (gd_var 2) (ga_nil)))))) (gw_or (gt_gt (gd_lenN 2 (X.free 7 "len" rfl)) (gd_globI 8 (X.int 0 ("MOST_LETTERS", 8) rfl))) (gw_or1 (gt_bool (gd_any (X.free 6 "any" rfl) (GO.gd (go_comp [("its", 3)] (by rfl) (gi_any (gd_var 2)) (gg_name 3) (gts_nil) (gd_not (gd_chain (fun _ _ => op_le) (fun _ _ => op_le) (gd_var 1) (gd_var 3) (gd_int))))))))))) (gss_cons (gs_never)
      (gss_nil)) (gss_nil))
      (gss_wipe [] (gss_cons (gs_ret (go_var 2))
      (gss_nil))))
theorem ok_sure_list (X : Facts K mg DEFS FREE CONS) : DefOk P w K mg base cv "sure_list" (top 13) 22 none ["value", "least"] f_sure_list := by
  obtain ⟨f, fd, F, hm⟩ := X.def_ 5 ("sure_list", top 13) rfl
  exact def_of F hm sc_sure_list (bd_sure_list X) (FunD.bindsN F fun _ _ _ _ _ _ us hl => match us, hl with | [_, _], _ => rfl) (fun i hi => nomatch hi)
def N_words_series : List Str := ["degrees", "most", "found", "total", "own"]
theorem sc_words_series : FnScope N_words_series ["degrees", "most"] (defScope (top 14)) := ⟨rfl, rfl, rfl, by decide +kernel, rfl, by decide +kernel, by decide +kernel⟩
def m_words_series : SM := sSeq (sSet 2 (o2 fAdd (DM.frz (oLst (dCons (dC (.int 1)) (aNil)))) (DM.frz (o2 fMul (DM.frz (oLst (dCons (dC (.int 0)) (aNil)))) (dVar 1)))))
  (sSeq (sFor (dRng2 (dCons (dC (.int 1)) (dCons (DM.frz (o2 fAdd (dVar 1) (dC (.int 1)))) (aNil)))) (gN 3) (sWipe [] (sSeq (sAsg (d1 fSum (DM.frz (oComp [4] (dItems (dVar 0)) (gN 4) (dBool (dLe (dVar 4) (dVar 3))) (dIxN 2 (dSub (dVar 3) (dVar 4)))))) (gSubN 2 (dVar 3)))
  (sNil))))
  (sWipe [3] (sSeq (sRet (oVar 2))
  (sNil))))
def f_words_series : DF := runDef 5 2 none m_words_series
theorem bd_words_series (X : Facts K mg DEFS FREE CONS) : BodyOk P w K mg base cv N_words_series (defScope (top 14)) 0 none (defBody (top 14)) m_words_series := fun A E V hsc nd hr hfn hown hpass =>
    gss_cons (gs_set 2 (go_addA (GO.gd (go_lst (ga_cons (gd_int) (ga_nil)))) (GO.gd (go_mulA (GO.gd (go_lst (ga_cons (gd_int) (ga_nil)))) (gd_var 1)))))
      (gss_cons (gs_for (gi_range2 (X.free 8 "range" rfl) (ga_cons (gd_int) (ga_cons (GO.gd (go_addA (gd_var 1) (gd_int))) (ga_nil)))) (gg_name 3) (gss_wipe [] (gss_cons (gs_asg (gd_sum (X.free 9 "sum" rfl) (GO.gd (go_comp [("own", 4)] (by rfl) (gi_any (gd_var 0)) (gg_name 4) (gts_one (gt_le (gd_var 4) (gd_var 3))) (gd_ixN 2 (gd_sub (gd_var 3) (gd_var 4)))))) (gg_sub 2 (gd_var 3)))
      (gss_nil))))
      (gss_wipe [3] (gss_cons (gs_ret (go_var 2))
      (gss_nil))))
theorem ok_words_series (X : Facts K mg DEFS FREE CONS) : DefOk P w K mg base cv "words_series" (top 14) 1 none ["degrees", "most"] f_words_series := by
  obtain ⟨f, fd, F, hm⟩ := X.def_ 6 ("words_series", top 14) rfl
  exact def_of F hm sc_words_series (bd_words_series X) (FunD.bindsN F fun _ _ _ _ _ _ us hl => match us, hl with | [_, _], _ => rfl) (fun i hi => nomatch hi)
def N_series_times : List Str := ["row", "degree", "many", "found", "lap", "total"]
theorem sc_series_times : FnScope N_series_times ["row", "degree", "many"] (defScope (top 15)) := ⟨rfl, rfl, rfl, by decide +kernel, rfl, by decide +kernel, by decide +kernel⟩
def m_series_times : SM := sSeq (sSet 3 (o1 fList (dVar 0)))
  (sSeq (sFor (dRng1 (dCons (dVar 2) (aNil))) (gN 4) (sWipe [5] (sSeq (sIf (dBool (d2 fEq (dMod (dVar 1) (dC (.int 2))) (dC (.int 1)))) (sSeq (sFor (dRng3 (dCons (dSub (dLenN 3) (dC (.int 1))) (dCons (dSub (dVar 1) (dC (.int 1))) (dCons (dNeg (dC (.int 1))) (aNil))))) (gN 5) (sWipe [] (sSeq (sAugSub 3 (dVar 5) (dIxN 3 (dSub (dVar 5) (dVar 1))) (fIp (· + ·)))
  (sNil))))
  (sWipe [5] (sNil))) (sSeq (sFor (dRng2 (dCons (dVar 1) (dCons (dLenN 3) (aNil)))) (gN 5) (sWipe [] (sSeq (sAugSub 3 (dVar 5) (dIxN 3 (dSub (dVar 5) (dVar 1))) (fIp (· + ·)))
  (sNil))))
  (sWipe [5] (sNil))))
  (sWipe [5] (sNil)))))
  (sWipe [4, 5] (sSeq (sRet (oVar 3))
  (sNil))))
def f_series_times : DF := runDef 6 3 none m_series_times
theorem bd_series_times (X : Facts K mg DEFS FREE CONS) : BodyOk P w K mg base cv N_series_times (defScope (top 15)) 0 none (defBody (top 15)) m_series_times := fun A E V hsc nd hr hfn hown hpass =>
    gss_cons (gs_set 3 (go_list (X.free 5 "list" rfl) (gd_var 0)))
      (gss_cons (gs_for (gi_range1 (X.free 8 "range" rfl) (ga_cons (gd_var 2) (ga_nil))) (gg_name 4) (gss_wipe [5] (gss_cons (gs_if' (gt_eq (gd_mod (gd_var 1) (gd_int)) (gd_int)) (gss_cons (gs_for (gi_range3 (X.free 8 "range" rfl) (ga_cons (gd_sub (gd_lenN 3 (X.free 7 "len" rfl)) (gd_int)) (ga_cons (gd_sub (gd_var 1) (gd_int)) (ga_cons (gd_neg (gd_int)) (ga_nil))))) (gg_name 5) (gss_wipe [] (gss_cons (gs_augSubAdd 3 (gd_var 5) (gd_ixN 3 (gd_sub (gd_var 5) (gd_var 1))))
      (gss_nil))))
      (gss_wipe [5] (gss_nil))) (gss_cons (gs_for (gi_range2 (X.free 8 "range" rfl) (ga_cons (gd_var 1) (ga_cons (gd_lenN 3 (X.free 7 "len" rfl)) (ga_nil)))) (gg_name 5) (gss_wipe [] (gss_cons (gs_augSubAdd 3 (gd_var 5) (gd_ixN 3 (gd_sub (gd_var 5) (gd_var 1))))
      (gss_nil))))
      (gss_wipe [5] (gss_nil))))
      (gss_wipe [5] (gss_nil)))))
      (gss_wipe [4, 5] (gss_cons (gs_ret (go_var 3))
      (gss_nil))))
theorem ok_series_times (X : Facts K mg DEFS FREE CONS) : DefOk P w K mg base cv "series_times" (top 15) 1 none ["row", "degree", "many"] f_series_times := by
  obtain ⟨f, fd, F, hm⟩ := X.def_ 7 ("series_times", top 15) rfl
  exact def_of F hm sc_series_times (bd_series_times X) (FunD.bindsN F fun _ _ _ _ _ _ us hl => match us, hl with | [_, _, _], _ => rfl) (fun i hi => nomatch hi)
def N_ranks_from_series : List Str := ["goal", "ranks", "here", "degree", "many"]
theorem sc_ranks_from_series : FnScope N_ranks_from_series ["goal"] (defScope (top 16)) := ⟨rfl, rfl, rfl, by decide +kernel, rfl, by decide +kernel, by decide +kernel⟩
def m_ranks_from_series : SM := sSeq (sPar 1 2 (oCons (oLst (dCons (dC (.int 0)) (aNil))) (oCons (o2 fAdd (DM.frz (oLst (dCons (dC (.int 1)) (aNil)))) (DM.frz (o2 fMul (DM.frz (oLst (dCons (dC (.int 0)) (aNil)))) (dSub (dLenN 0) (dC (.int 1)))))) (oNil))))
  (sSeq (sFor (dRng2 (dCons (dC (.int 1)) (dCons (dLenN 0) (aNil)))) (gN 3) (sWipe [4] (sSeq (sSet 4 (DM.dat (dSub (dIxN 0 (dVar 3)) (dIxN 2 (dVar 3)))))
  (sSeq (sAppend' 1 (DM.dat (dVar 4)))
  (sSeq (sIf (dBool (d2 fLtA (dVar 4) (dC (.int 0)))) (sSeq (sRet (oVar 1))
  (sNil)) (sNil))
  (sWipe [] (sSeq (sSet 2 (oCall (f_series_times) (dCons (dVar 2) (dCons (dVar 3) (dCons (dVar 4) (aNil))))))
  (sNil))))))))
  (sWipe [3, 4] (sSeq (sRet (oVar 1))
  (sNil))))
def f_ranks_from_series : DF := runDef 5 1 none m_ranks_from_series
theorem bd_ranks_from_series (X : Facts K mg DEFS FREE CONS) : BodyOk P w K mg base cv N_ranks_from_series (defScope (top 16)) 1 none (defBody (top 16)) m_ranks_from_series := fun A E V hsc nd hr hfn hown hpass =>
    gss_cons (gs_par 1 2 (gao_cons (go_lst (ga_cons (gd_int) (ga_nil))) (gao_cons (go_addA (GO.gd (go_lst (ga_cons (gd_int) (ga_nil)))) (GO.gd (go_mulA (GO.gd (go_lst (ga_cons (gd_int) (ga_nil)))) (gd_sub (gd_lenN 0 (X.free 7 "len" rfl)) (gd_int))))) (gao_nil))))
      (gss_cons (gs_for (gi_range2 (X.free 8 "range" rfl) (ga_cons (gd_int) (ga_cons (gd_lenN 0 (X.free 7 "len" rfl)) (ga_nil)))) (gg_name 3) (gss_wipe [4] (gss_cons (gs_set 4 (GD.go (gd_sub (gd_ixN 0 (gd_var 3)) (gd_ixN 2 (gd_var 3)))))
      (gss_cons (gs_append 1 (GD.go (gd_var 4)))
      (gss_cons (gs_if' (gt_ltA (gd_var 4) (gd_int)) (gss_cons (gs_ret (go_var 1))
      (gss_nil)) (gss_nil))
      (gss_wipe [] (gss_cons (gs_set 2 (go_call (ok_series_times X) (ga_cons (gd_var 2) (ga_cons (gd_var 3) (ga_cons (gd_var 4) (ga_nil))))))
      (gss_nil))))))))
      (gss_wipe [3, 4] (gss_cons (gs_ret (go_var 1))
      (gss_nil))))
theorem ok_ranks_from_series (X : Facts K mg DEFS FREE CONS) : DefOk P w K mg base cv "ranks_from_series" (top 16) 2 none ["goal"] f_ranks_from_series := by
  obtain ⟨f, fd, F, hm⟩ := X.def_ 8 ("ranks_from_series", top 16) rfl
  exact def_of F hm sc_ranks_from_series (bd_ranks_from_series X) (FunD.bindsN F fun _ _ _ _ _ _ us hl => match us, hl with | [_], _ => rfl) (fun i hi => nomatch hi)
def N_free_ranks_in : List Str := ["degrees", "most"]
theorem sc_free_ranks_in : FnScope N_free_ranks_in ["degrees", "most"] (defScope (top 17)) := ⟨rfl, rfl, rfl, by decide +kernel, rfl, by decide +kernel, by decide +kernel⟩
def m_free_ranks_in : SM := sSeq (sRet (DM.dat (d1 fTuple (DM.frz (oCall (f_ranks_from_series) (dCons (DM.frz (oCall (f_words_series) (dCons (dVar 0) (dCons (dVar 1) (aNil))))) (aNil)))))))
  (sNil)
def f_free_ranks_in : DF := runDef 2 2 none m_free_ranks_in
theorem bd_free_ranks_in (X : Facts K mg DEFS FREE CONS) : BodyOk P w K mg base cv N_free_ranks_in (defScope (top 17)) 2 none (defBody (top 17)) m_free_ranks_in := fun A E V hsc nd hr hfn hown hpass =>
    gss_cons (gs_ret (GD.go (gd_tuple (X.free 4 "tuple" rfl) (GO.gd (go_call (ok_ranks_from_series X) (ga_cons (GO.gd (go_call (ok_words_series X) (ga_cons (gd_var 0) (ga_cons (gd_var 1) (ga_nil))))) (ga_nil)))))))
      (gss_nil)
theorem ok_free_ranks_in (X : Facts K mg DEFS FREE CONS) : DefOk P w K mg base cv "free_ranks_in" (top 17) 3 none ["degrees", "most"] f_free_ranks_in := by
  obtain ⟨f, fd, F, hm⟩ := X.def_ 9 ("free_ranks_in", top 17) rfl
  exact def_of F hm sc_free_ranks_in (bd_free_ranks_in X) (FunD.bindsN F fun _ _ _ _ _ _ us hl => match us, hl with | [_, _], _ => rfl) (fun i hi => nomatch hi)
def N_is_lyndon : List Str := ["word", "place"]
theorem sc_is_lyndon : FnScope N_is_lyndon ["word"] (defScope (top 18)) := ⟨rfl, rfl, rfl, by decide +kernel, rfl, by decide +kernel, by decide +kernel⟩
def m_is_lyndon : SM := sSeq (sRet (DM.dat (d1 fAll (DM.frz (oComp [1] (dRng2 (dCons (dC (.int 1)) (dCons (dLenN 0) (aNil)))) (gN 1) (dYes) (d2 fLtA (dVar 0) (DM.frz (oSl (dVar 0) (pSome (dVar 1)) (pNone)))))))))
  (sNil)
def f_is_lyndon : DF := runDef 2 1 none m_is_lyndon
theorem bd_is_lyndon (X : Facts K mg DEFS FREE CONS) : BodyOk P w K mg base cv N_is_lyndon (defScope (top 18)) 0 none (defBody (top 18)) m_is_lyndon := fun A E V hsc nd hr hfn hown hpass =>
    gss_cons (gs_ret (GD.go (gd_all (X.free 3 "all" rfl) (GO.gd (go_comp [("place", 1)] (by rfl) (gi_range2 (X.free 8 "range" rfl) (ga_cons (gd_int) (ga_cons (gd_lenN 0 (X.free 7 "len" rfl)) (ga_nil)))) (gg_name 1) (gts_nil) (gd_ltA (gd_var 0) (GO.gd (go_sl (gd_var 0) (gp_some (gd_var 1)) (gp_none)))))))))
      (gss_nil)
theorem ok_is_lyndon (X : Facts K mg DEFS FREE CONS) : DefOk P w K mg base cv "is_lyndon" (top 18) 1 none ["word"] f_is_lyndon := by
  obtain ⟨f, fd, F, hm⟩ := X.def_ 10 ("is_lyndon", top 18) rfl
  exact def_of F hm sc_is_lyndon (bd_is_lyndon X) (FunD.bindsN F fun _ _ _ _ _ _ us hl => match us, hl with | [_], _ => rfl) (fun i hi => nomatch hi)
def N_lyndon_words : List Str := ["degrees", "most", "found", "rows", "later", "word", "total", "letter", "own", "_"]
theorem sc_lyndon_words : FnScope N_lyndon_words ["degrees", "most"] (defScope (top 19)) := ⟨rfl, rfl, rfl, by decide +kernel, rfl, by decide +kernel, by decide +kernel⟩
def m_lyndon_words : SM := sSeq (sIf (dBool (dGt (d1 fSum (DM.frz (oCall (f_words_series) (dCons (dVar 0) (dCons (dVar 1) (aNil)))))) (DM.frz (o2 fMul (dC (.int 3000)) (dC (.int 4)))))) (sSeq (sNever)
  (sNil)) (sNil))
  (sWipe [] (sSeq (sPar 2 3 (oCons (oLst (aNil)) (oCons (oLst (dCons (dTup (dCons (dTup (aNil)) (dCons (dC (.int 0)) (aNil)))) (aNil))) (oNil))))
  (sFrz 3 (sSeq (sWhile (dWipe [4, 5, 6, 7, 8] (dBool (dGt (dLenN 3) (dC (.int 0))))) (sSeq (sSet 4 (oLst (aNil)))
  (sSeq (sFor (dItems (dVar 3)) (gTn 2 (gsC (gN 5) (gsC (gN 6) (gsN)))) (sWipe [7, 8] (sSeq (sFor (dEnum (dCons (dVar 0) (aNil))) (gTn 2 (gsC (gN 7) (gsC (gN 8) (gsN)))) (sWipe [] (sSeq (sIf (dBool (dLe (DM.frz (o2 fAdd (dVar 6) (dVar 8))) (dVar 1))) (sSeq (sAppend' 4 (DM.dat (dTup (dCons (DM.frz (o2 fAdd (dVar 5) (dTup (dCons (dVar 7) (aNil))))) (dCons (DM.frz (o2 fAdd (dVar 6) (dVar 8))) (aNil))))))
  (sNil)) (sNil))
  (sWipe [] (sNil)))))
  (sWipe [7, 8] (sNil)))))
  (sWipe [5, 6, 7, 8] (sSeq (sDrop (dMth 2 eExt (dCons (DM.frz (oComp [5, 9] (dItems (dVar 4)) (gTn 2 (gsC (gN 5) (gsC (gN 9) (gsN)))) (dBool (DM.frz (oCall (f_is_lyndon) (dCons (dVar 5) (aNil))))) (dVar 5))) aNil)))
  (sSeq (sSet 3 (DM.dat (dVar 4)))
  (sNil)))))) 1000000)
  (sWipe [4, 5, 6, 7, 8] (sSeq (sRet (o1 fSorted (dVar 2)))
  (sNil)))))))
def f_lyndon_words : DF := runDef 10 2 none m_lyndon_words
theorem bd_lyndon_words (X : Facts K mg DEFS FREE CONS) : BodyOk P w K mg base cv N_lyndon_words (defScope (top 19)) 1 none (defBody (top 19)) m_lyndon_words := fun A E V hsc nd hr hfn hown hpass =>
    gss_cons (gs_if' (gt_gt (gd_sum (X.free 9 "sum" rfl) (GO.gd (go_call (ok_words_series X) (ga_cons (gd_var 0) (ga_cons (gd_var 1) (ga_nil)))))) (GO.gd (go_mulA (gd_globI 3000 (X.int 1 ("MOST_WORDS", 3000) rfl)) (gd_int)))) (gss_cons (gs_never)
      (gss_nil)) (gss_nil))
      (gss_wipe [] (gss_cons (gs_par 2 3 (gao_cons (go_lst (ga_nil)) (gao_cons (go_lst (ga_cons (gd_tup (ga_cons (gd_tup (ga_nil)) (ga_cons (gd_int) (ga_nil)))) (ga_nil))) (gao_nil))))
      (gss_frz 3 (gss_cons (gs_while 1000000 (gt_wipe [4, 5, 6, 7, 8] (gt_gt (gd_lenN 3 (X.free 7 "len" rfl)) (gd_int))) (gss_cons (gs_set 4 (go_lst (ga_nil)))
      (gss_cons (gs_for (gi_any (gd_var 3)) (gg_tup 2 (ggs_cons (gg_name 5) (ggs_cons (gg_name 6) (ggs_nil)))) (gss_wipe [7, 8] (gss_cons (gs_for (gi_enum (X.free 11 "enumerate" rfl) (ga_cons (gd_var 0) (ga_nil))) (gg_tup 2 (ggs_cons (gg_name 7) (ggs_cons (gg_name 8) (ggs_nil)))) (gss_wipe [] (gss_cons (gs_if' (gt_le (GO.gd (go_addA (gd_var 6) (gd_var 8))) (gd_var 1)) (gss_cons (gs_append 4 (GD.go (gd_tup (ga_cons (GO.gd (go_addA (gd_var 5) (gd_tup (ga_cons (gd_var 7) (ga_nil))))) (ga_cons (GO.gd (go_addA (gd_var 6) (gd_var 8))) (ga_nil))))))
      (gss_nil)) (gss_nil))
      (gss_wipe [] (gss_nil)))))
      (gss_wipe [7, 8] (gss_nil)))))
      (gss_wipe [5, 6, 7, 8] (gss_cons (gs_extend 2 (GO.gd (go_comp [("word", 5), ("_", 9)] (by rfl) (gi_any (gd_var 4)) (gg_tup 2 (ggs_cons (gg_name 5) (ggs_cons (gg_name 9) (ggs_nil)))) (gts_one (gt_bool (GO.gd (go_call (ok_is_lyndon X) (ga_cons (gd_var 5) (ga_nil)))))) (gd_var 5))))
      (gss_cons (gs_set 3 (GD.go (gd_var 4)))
      (gss_nil)))))))
      (gss_wipe [4, 5, 6, 7, 8] (gss_cons (gs_ret (go_sorted (X.free 10 "sorted" rfl) (gd_var 2)))
      (gss_nil)))))))
theorem ok_lyndon_words (X : Facts K mg DEFS FREE CONS) : DefOk P w K mg base cv "lyndon_words" (top 19) 2 none ["degrees", "most"] f_lyndon_words := by
  obtain ⟨f, fd, F, hm⟩ := X.def_ 11 ("lyndon_words", top 19) rfl
  exact def_of F hm sc_lyndon_words (bd_lyndon_words X) (FunD.bindsN F fun _ _ _ _ _ _ us hl => match us, hl with | [_, _], _ => rfl) (fun i hi => nomatch hi)
def N_word_degree : List Str := ["degrees", "word", "own"]
theorem sc_word_degree : FnScope N_word_degree ["degrees", "word"] (defScope (top 20)) := ⟨rfl, rfl, rfl, by decide +kernel, rfl, by decide +kernel, by decide +kernel⟩
def m_word_degree : SM := sSeq (sRet (DM.dat (d1 fSum (DM.frz (oComp [2] (dItems (dVar 1)) (gN 2) (dYes) (dIxN 0 (dVar 2)))))))
  (sNil)
def f_word_degree : DF := runDef 3 2 none m_word_degree
theorem bd_word_degree (X : Facts K mg DEFS FREE CONS) : BodyOk P w K mg base cv N_word_degree (defScope (top 20)) 0 none (defBody (top 20)) m_word_degree := fun A E V hsc nd hr hfn hown hpass =>
    gss_cons (gs_ret (GD.go (gd_sum (X.free 9 "sum" rfl) (GO.gd (go_comp [("own", 2)] (by rfl) (gi_any (gd_var 1)) (gg_name 2) (gts_nil) (gd_ixN 0 (gd_var 2)))))))
      (gss_nil)
theorem ok_word_degree (X : Facts K mg DEFS FREE CONS) : DefOk P w K mg base cv "word_degree" (top 20) 1 none ["degrees", "word"] f_word_degree := by
  obtain ⟨f, fd, F, hm⟩ := X.def_ 12 ("word_degree", top 20) rfl
  exact def_of F hm sc_word_degree (bd_word_degree X) (FunD.bindsN F fun _ _ _ _ _ _ us hl => match us, hl with | [_, _], _ => rfl) (fun i hi => nomatch hi)
def N_free_ranks : List Str := ["degrees", "most", "own"]
theorem sc_free_ranks : FnScope N_free_ranks ["degrees", "most"] (defScope (top 21)) := ⟨rfl, rfl, rfl, by decide +kernel, rfl, by decide +kernel, by decide +kernel⟩
def m_free_ranks : SM := sSeq (sSet 2 (oCall (f_sure_list) (dCons (dVar 0) (dCons (dC (.int 1)) (aNil)))))
  (sSeq (sRet (oCall (f_free_ranks_in) (dCons (dVar 2) (dCons (DM.frz (oCall (f_sure_within) (dCons (dVar 1) (dCons (dC (.int 0)) (dCons (dC (.int 40)) (aNil)))))) (aNil)))))
  (sNil))
def f_free_ranks : DF := runDef 3 2 none m_free_ranks
theorem bd_free_ranks (X : Facts K mg DEFS FREE CONS) : BodyOk P w K mg base cv N_free_ranks (defScope (top 21)) 22 none (defBody (top 21)) m_free_ranks := fun A E V hsc nd hr hfn hown hpass =>
    gss_cons (gs_set 2 (go_call (ok_sure_list X) (ga_cons (gd_var 0) (ga_cons (gd_int) (ga_nil)))))
      (gss_cons (gs_ret (go_call (ok_free_ranks_in X) (ga_cons (gd_var 2) (ga_cons (GO.gd (go_call (ok_sure_within X) (ga_cons (gd_var 1) (ga_cons (gd_int) (ga_cons (gd_int) (ga_nil)))))) (ga_nil)))))
      (gss_nil))
theorem ok_free_ranks (X : Facts K mg DEFS FREE CONS) : DefOk P w K mg base cv "free_ranks" (top 21) 23 none ["degrees", "most"] f_free_ranks := by
  obtain ⟨f, fd, F, hm⟩ := X.def_ 13 ("free_ranks", top 21) rfl
  exact def_of F hm sc_free_ranks (bd_free_ranks X) (FunD.bindsN F fun _ _ _ _ _ _ us hl => match us, hl with | [_, _], _ => rfl) (fun i hi => nomatch hi)
def N_basic_words : List Str := ["degrees", "most", "own", "top", "found", "odd", "word"]
theorem sc_basic_words : FnScope N_basic_words ["degrees", "most"] (defScope (top 22)) := ⟨rfl, rfl, rfl, by decide +kernel, rfl, by decide +kernel, by decide +kernel⟩
def m_basic_words : SM := sSeq (sAsg (dTup (dCons (DM.frz (oCall (f_sure_list) (dCons (dVar 0) (dCons (dC (.int 1)) (aNil))))) (dCons (DM.frz (oCall (f_sure_within) (dCons (dVar 1) (dCons (dC (.int 0)) (dCons (dC (.int 20)) (aNil)))))) (aNil)))) (gTn 2 (gsC (gN 2) (gsC (gN 3) (gsN)))))
  (sSeq (sSet 4 (oCall (f_lyndon_words) (dCons (dVar 2) (dCons (dVar 3) (aNil)))))
  (sSeq (sSet 5 (oComp [6] (dItems (dVar 4)) (gN 6) (dAndT (dBool (d2 fEq (dMod (DM.frz (oCall (f_word_degree) (dCons (dVar 2) (dCons (dVar 6) (aNil))))) (dC (.int 2))) (dC (.int 1)))) (dBool (dLe (DM.frz (o2 fMul (dC (.int 2)) (DM.frz (oCall (f_word_degree) (dCons (dVar 2) (dCons (dVar 6) (aNil))))))) (dVar 3)))) (dVar 6)))
  (sSeq (sRet (o1 fSorted (DM.frz (o2 fAdd (dVar 4) (DM.frz (oComp [6] (dItems (dVar 5)) (gN 6) (dYes) (DM.frz (o2 fAdd (dVar 6) (dVar 6)))))))))
  (sNil))))
def f_basic_words : DF := runDef 7 2 none m_basic_words
theorem bd_basic_words (X : Facts K mg DEFS FREE CONS) : BodyOk P w K mg base cv N_basic_words (defScope (top 22)) 22 none (defBody (top 22)) m_basic_words := fun A E V hsc nd hr hfn hown hpass =>
    gss_cons (gs_asg (gd_tup (ga_cons (GO.gd (go_call (ok_sure_list X) (ga_cons (gd_var 0) (ga_cons (gd_int) (ga_nil))))) (ga_cons (GO.gd (go_call (ok_sure_within X) (ga_cons (gd_var 1) (ga_cons (gd_int) (ga_cons (gd_int) (ga_nil)))))) (ga_nil)))) (gg_tup 2 (ggs_cons (gg_name 2) (ggs_cons (gg_name 3) (ggs_nil)))))
      (gss_cons (gs_set 4 (go_call (ok_lyndon_words X) (ga_cons (gd_var 2) (ga_cons (gd_var 3) (ga_nil)))))
      (gss_cons (gs_setComp 5 [("word", 6)] (by rfl) (gi_any (gd_var 4)) (gg_name 6) (gts_one (GW.gt (gw_and (gt_eq (gd_mod (GO.gd (go_call (ok_word_degree X) (ga_cons (gd_var 2) (ga_cons (gd_var 6) (ga_nil))))) (gd_int)) (gd_int)) (gw_and1 (gt_le (GO.gd (go_mulA (gd_int) (GO.gd (go_call (ok_word_degree X) (ga_cons (gd_var 2) (ga_cons (gd_var 6) (ga_nil))))))) (gd_var 3)))))) (gd_var 6))
      (gss_cons (gs_ret (go_sorted (X.free 10 "sorted" rfl) (GO.gd (go_addA (gd_var 4) (GO.gd (go_comp [("word", 6)] (by rfl) (gi_any (gd_var 5)) (gg_name 6) (gts_nil) (GO.gd (go_addA (gd_var 6) (gd_var 6)))))))))
      (gss_nil))))
theorem ok_basic_words (X : Facts K mg DEFS FREE CONS) : DefOk P w K mg base cv "basic_words" (top 22) 23 none ["degrees", "most"] f_basic_words := by
  obtain ⟨f, fd, F, hm⟩ := X.def_ 14 ("basic_words", top 22) rfl
  exact def_of F hm sc_basic_words (bd_basic_words X) (FunD.bindsN F fun _ _ _ _ _ _ us hl => match us, hl with | [_, _], _ => rfl) (fun i hi => nomatch hi)
def N_is_basic_word : List Str := ["degrees", "thing", "own", "its", "half"]
theorem sc_is_basic_word : FnScope N_is_basic_word ["degrees", "thing"] (defScope (top 23)) := ⟨rfl, rfl, rfl, by decide +kernel, rfl, by decide +kernel, by decide +kernel⟩
def m_is_basic_word : SM := sSeq (sSet 2 (oCall (f_sure_list) (dCons (dVar 0) (dCons (dC (.int 1)) (aNil)))))
  (sSeq (sIf (dOrT (dNotT (dBool (DM.frz (oCall (f_are_numbers) (dCons (dVar 1) (aNil)))))) (dOrT (dBool (d2 fEq (dVar 1) (dTup (aNil)))) (dBool (d1 fAny (DM.frz (oComp [3] (dItems (dVar 1)) (gN 3) (dYes) (d1 fNot (dChain (fun i j => decide (i ≤ j)) (fun i j => decide (i < j)) (dC (.int 0)) (dVar 3) (dLenN 2))))))))) (sSeq (sRet (DM.dat (dC (.bl false))))
  (sNil)) (sNil))
  (sWipe [] (sSeq (sIf (dBool (DM.frz (oCall (f_is_lyndon) (dCons (dVar 1) (aNil))))) (sSeq (sRet (DM.dat (dC (.bl true))))
  (sNil)) (sNil))
  (sWipe [] (sSeq (sSet 4 (DM.dat (dFdv (dLenN 1) (dC (.int 2)))))
  (sSeq (sRet (DM.dat (dAndV (d2 fEq (DM.frz (oSl (dVar 1) (pNone) (pSome (dVar 4)))) (DM.frz (oSl (dVar 1) (pSome (dVar 4)) (pNone)))) (dAndV (DM.frz (oCall (f_is_lyndon) (dCons (DM.frz (oSl (dVar 1) (pNone) (pSome (dVar 4)))) (aNil)))) (d2 fEq (dMod (DM.frz (oCall (f_word_degree) (dCons (dVar 2) (dCons (DM.frz (oSl (dVar 1) (pNone) (pSome (dVar 4)))) (aNil))))) (dC (.int 2))) (dC (.int 1)))))))
  (sNil)))))))
def f_is_basic_word : DF := runDef 5 2 none m_is_basic_word
theorem bd_is_basic_word (X : Facts K mg DEFS FREE CONS) : BodyOk P w K mg base cv N_is_basic_word (defScope (top 23)) 22 none (defBody (top 23)) m_is_basic_word := fun A E V hsc nd hr hfn hown hpass =>
    gss_cons (gs_set 2 (go_call (ok_sure_list X) (ga_cons (gd_var 0) (ga_cons (gd_int) (ga_nil)))))
      (gss_cons (gs_if' (GW.gt (gw_or (gt_not (gt_bool (GO.gd (go_call (ok_are_numbers X) (ga_cons (gd_var 1) (ga_nil)))))) (gw_or (gt_eq (gd_var 1) (gd_tup (ga_nil))) (gw_or1 (gt_bool (gd_any (X.free 6 "any" rfl) (GO.gd (go_comp [("its", 3)] (by rfl) (gi_any (gd_var 1)) (gg_name 3) (gts_nil) (gd_not (gd_chain (fun _ _ => op_le) (fun _ _ => op_lt) (gd_int) (gd_var 3) (gd_lenN 2 (X.free 7 "len" rfl)))))))))))) (gss_cons (gs_ret (GD.go (gd_bl)))
      (gss_nil)) (gss_nil))
      (gss_wipe [] (gss_cons (gs_if' (gt_bool (GO.gd (go_call (ok_is_lyndon X) (ga_cons (gd_var 1) (ga_nil))))) (gss_cons (gs_ret (GD.go (gd_bl)))
      (gss_nil)) (gss_nil))
      (gss_wipe [] (gss_cons (gs_set 4 (GD.go (gd_fdv (gd_lenN 1 (X.free 7 "len" rfl)) (gd_int))))
      (gss_cons (gs_ret (GD.go (gd_and (gd_eq (GO.gd (go_sl (gd_var 1) (gp_none) (gp_some (gd_var 4)))) (GO.gd (go_sl (gd_var 1) (gp_some (gd_var 4)) (gp_none)))) (gd_and (GO.gd (go_call (ok_is_lyndon X) (ga_cons (GO.gd (go_sl (gd_var 1) (gp_none) (gp_some (gd_var 4)))) (ga_nil)))) (gd_one (gd_eq (gd_mod (GO.gd (go_call (ok_word_degree X) (ga_cons (gd_var 2) (ga_cons (GO.gd (go_sl (gd_var 1) (gp_none) (gp_some (gd_var 4)))) (ga_nil))))) (gd_int)) (gd_int)))))))
      (gss_nil)))))))
theorem ok_is_basic_word (X : Facts K mg DEFS FREE CONS) : DefOk P w K mg base cv "is_basic_word" (top 23) 23 none ["degrees", "thing"] f_is_basic_word := by
  obtain ⟨f, fd, F, hm⟩ := X.def_ 15 ("is_basic_word", top 23) rfl
  exact def_of F hm sc_is_basic_word (bd_is_basic_word X) (FunD.bindsN F fun _ _ _ _ _ _ us hl => match us, hl with | [_, _], _ => rfl) (fun i hi => nomatch hi)
def N_joined_ranks : List Str := ["spheres", "most", "own", "top", "its"]
theorem sc_joined_ranks : FnScope N_joined_ranks ["spheres", "most"] (defScope (top 24)) := ⟨rfl, rfl, rfl, by decide +kernel, rfl, by decide +kernel, by decide +kernel⟩
def m_joined_ranks : SM := sSeq (sPar 2 3 (oCons (oCall (f_sure_list) (dCons (dVar 0) (dCons (dC (.int 2)) (aNil)))) (oCons (oCall (f_sure_within) (dCons (dVar 1) (dCons (dC (.int 0)) (dCons (dC (.int 40)) (aNil))))) (oNil))))
  (sSeq (sIf (dBool (d2 fEq (dVar 3) (dC (.int 0)))) (sSeq (sRet (DM.dat (dTup (dCons (dC (.int 0)) (aNil)))))
  (sNil)) (sNil))
  (sWipe [] (sSeq (sRet (o2 fAdd (dTup (dCons (dC (.int 0)) (aNil))) (DM.frz (oCall (f_free_ranks_in) (dCons (d1 fTuple (DM.frz (oComp [4] (dItems (dVar 2)) (gN 4) (dYes) (dSub (dVar 4) (dC (.int 1)))))) (dCons (dSub (dVar 3) (dC (.int 1))) (aNil)))))))
  (sNil))))
def f_joined_ranks : DF := runDef 5 2 none m_joined_ranks
theorem bd_joined_ranks (X : Facts K mg DEFS FREE CONS) : BodyOk P w K mg base cv N_joined_ranks (defScope (top 24)) 22 none (defBody (top 24)) m_joined_ranks := fun A E V hsc nd hr hfn hown hpass =>
    gss_cons (gs_par 2 3 (gao_cons (go_call (ok_sure_list X) (ga_cons (gd_var 0) (ga_cons (gd_int) (ga_nil)))) (gao_cons (go_call (ok_sure_within X) (ga_cons (gd_var 1) (ga_cons (gd_int) (ga_cons (gd_int) (ga_nil))))) (gao_nil))))
      (gss_cons (gs_if' (gt_eq (gd_var 3) (gd_int)) (gss_cons (gs_ret (GD.go (gd_tup (ga_cons (gd_int) (ga_nil)))))
      (gss_nil)) (gss_nil))
      (gss_wipe [] (gss_cons (gs_ret (go_addA (gd_tup (ga_cons (gd_int) (ga_nil))) (GO.gd (go_call (ok_free_ranks_in X) (ga_cons (gd_tuple (X.free 4 "tuple" rfl) (GO.gd (go_comp [("its", 4)] (by rfl) (gi_any (gd_var 2)) (gg_name 4) (gts_nil) (gd_sub (gd_var 4) (gd_int))))) (ga_cons (gd_sub (gd_var 3) (gd_int)) (ga_nil)))))))
      (gss_nil))))
theorem ok_joined_ranks (X : Facts K mg DEFS FREE CONS) : DefOk P w K mg base cv "joined_ranks" (top 24) 23 none ["spheres", "most"] f_joined_ranks := by
  obtain ⟨f, fd, F, hm⟩ := X.def_ 16 ("joined_ranks", top 24) rfl
  exact def_of F hm sc_joined_ranks (bd_joined_ranks X) (FunD.bindsN F fun _ _ _ _ _ _ us hl => match us, hl with | [_, _], _ => rfl) (fun i hi => nomatch hi)
def N_cut_word : List Str := ["degrees", "word", "own", "told", "half", "place"]
theorem sc_cut_word : FnScope N_cut_word ["degrees", "word"] (defScope (top 25)) := ⟨rfl, rfl, rfl, by decide +kernel, rfl, by decide +kernel, by decide +kernel⟩
def m_cut_word : SM := sSeq (sAsg (dTup (dCons (DM.frz (oCall (f_sure_list) (dCons (dVar 0) (dCons (dC (.int 1)) (aNil))))) (dCons (DM.frz (oCall (f_tupled 20) (dCons (dVar 1) (aNil)))) (aNil)))) (gTn 2 (gsC (gN 2) (gsC (gN 3) (gsN)))))
  (sSeq (sIf (dNotT (dBool (DM.frz (oCall (f_is_basic_word) (dCons (dVar 2) (dCons (dVar 3) (aNil))))))) (sSeq (sNever)
  (sNil)) (sNil))
  (sWipe [] (sSeq (sIf (dBool (d2 fEq (dLenN 3) (dC (.int 1)))) (sSeq (sNever)
  (sNil)) (sNil))
  (sWipe [] (sSeq (sSet 4 (DM.dat (dFdv (dLenN 3) (dC (.int 2)))))
  (sSeq (sIf (dNotT (dBool (DM.frz (oCall (f_is_lyndon) (dCons (dVar 3) (aNil)))))) (sSeq (sRet (DM.dat (dTup (dCons (DM.frz (oSl (dVar 3) (pNone) (pSome (dVar 4)))) (dCons (DM.frz (oSl (dVar 3) (pSome (dVar 4)) (pNone))) (aNil))))))
  (sNil)) (sNil))
  (sWipe [] (sSeq (sSet 5 (DM.dat (d1 fMin (DM.frz (oComp [5] (dRng2 (dCons (dC (.int 1)) (dCons (dLenN 3) (aNil)))) (gN 5) (dBool (DM.frz (oCall (f_is_lyndon) (dCons (DM.frz (oSl (dVar 3) (pSome (dVar 5)) (pNone))) (aNil))))) (dVar 5))))))
  (sSeq (sRet (DM.dat (dTup (dCons (DM.frz (oSl (dVar 3) (pNone) (pSome (dVar 5)))) (dCons (DM.frz (oSl (dVar 3) (pSome (dVar 5)) (pNone))) (aNil))))))
  (sNil))))))))))
def f_cut_word : DF := runDef 6 2 none m_cut_word
theorem bd_cut_word (X : Facts K mg DEFS FREE CONS) : BodyOk P w K mg base cv N_cut_word (defScope (top 25)) 23 none (defBody (top 25)) m_cut_word := fun A E V hsc nd hr hfn hown hpass =>
    gss_cons (gs_asg (gd_tup (ga_cons (GO.gd (go_call (ok_sure_list X) (ga_cons (gd_var 0) (ga_cons (gd_int) (ga_nil))))) (ga_cons (GO.gd (go_call (ok_tupled X) (ga_cons (gd_var 1) (ga_nil)))) (ga_nil)))) (gg_tup 2 (ggs_cons (gg_name 2) (ggs_cons (gg_name 3) (ggs_nil)))))
      (gss_cons (gs_if' (gt_not (gt_bool (GO.gd (go_call (ok_is_basic_word X) (ga_cons (gd_var 2) (ga_cons (gd_var 3) (ga_nil))))))) (gss_cons (gs_never)
      (gss_nil)) (gss_nil))
      (gss_wipe [] (gss_cons (gs_if' (gt_eq (gd_lenN 3 (X.free 7 "len" rfl)) (gd_int)) (gss_cons (gs_never)
      (gss_nil)) (gss_nil))
      (gss_wipe [] (gss_cons (gs_set 4 (GD.go (gd_fdv (gd_lenN 3 (X.free 7 "len" rfl)) (gd_int))))
      (gss_cons (gs_if' (gt_not (gt_bool (GO.gd (go_call (ok_is_lyndon X) (ga_cons (gd_var 3) (ga_nil)))))) (gss_cons (gs_ret (GD.go (gd_tup (ga_cons (GO.gd (go_sl (gd_var 3) (gp_none) (gp_some (gd_var 4)))) (ga_cons (GO.gd (go_sl (gd_var 3) (gp_some (gd_var 4)) (gp_none))) (ga_nil))))))
      (gss_nil)) (gss_nil))
      (gss_wipe [] (gss_cons (gs_set 5 (GD.go (gd_min (X.free 12 "min" rfl) (GO.gd (go_comp [("place", 5)] (by rfl) (gi_range2 (X.free 8 "range" rfl) (ga_cons (gd_int) (ga_cons (gd_lenN 3 (X.free 7 "len" rfl)) (ga_nil)))) (gg_name 5) (gts_one (gt_bool (GO.gd (go_call (ok_is_lyndon X) (ga_cons (GO.gd (go_sl (gd_var 3) (gp_some (gd_var 5)) (gp_none))) (ga_nil)))))) (gd_var 5))))))
      (gss_cons (gs_ret (GD.go (gd_tup (ga_cons (GO.gd (go_sl (gd_var 3) (gp_none) (gp_some (gd_var 5)))) (ga_cons (GO.gd (go_sl (gd_var 3) (gp_some (gd_var 5)) (gp_none))) (ga_nil))))))
      (gss_nil))))))))))
theorem ok_cut_word (X : Facts K mg DEFS FREE CONS) : DefOk P w K mg base cv "cut_word" (top 25) 24 none ["degrees", "word"] f_cut_word := by
  obtain ⟨f, fd, F, hm⟩ := X.def_ 17 ("cut_word", top 25) rfl
  exact def_of F hm sc_cut_word (bd_cut_word X) (FunD.bindsN F fun _ _ _ _ _ _ us hl => match us, hl with | [_, _], _ => rfl) (fun i hi => nomatch hi)
def N__law_box : List Str := ["script", "k", "bit_so"]
theorem sc__law_box : FnScope N__law_box ["script", "k"] (defScope (top 27)) := ⟨rfl, rfl, rfl, by decide +kernel, rfl, by decide +kernel, by decide +kernel⟩
def m__law_box : SM := sSeq (sSet 2 (dIf (dBool (d2 fLtA (dVar 1) (dLenN 0))) (DM.dat (dIxN 0 (dVar 1))) (DM.dat (dC (.int 0)))))
  (sSeq (sRet (oLst (dCons (DM.frz (o2 fMul (d1 fAbs (dVar 2)) (d1 fInt (d2 fGeA (d1 fAbs (dVar 2)) (dPow (dC (.int 10)) (dC (.int 18))))))) (dCons (DM.frz (o2 fAdd (DM.frz (o2 fAdd (dMod (d1 fInt (dVar 2)) (dC (.int 2305843009213693951))) (DM.frz (o2 fMul (dC (.int 39373)) (dVar 1))))) (dC (.int 25153)))) (dCons (dC (.int 0)) (aNil))))))
  (sNil))
def f__law_box : DF := runDef 3 2 none m__law_box
theorem bd__law_box (X : Facts K mg DEFS FREE CONS) : BodyOk P w K mg base cv N__law_box (defScope (top 27)) 0 none (defBody (top 27)) m__law_box := fun A E V hsc nd hr hfn hown hpass =>
    gss_cons (gs_set 2 (go_if (gt_ltA (gd_var 1) (gd_lenN 0 (X.free 7 "len" rfl))) (GD.go (gd_ixN 0 (gd_var 1))) (GD.go (gd_int))))
      (gss_cons (gs_ret (go_lst (ga_cons (GO.gd (go_mulA (gd_abs (X.free 13 "abs" rfl) (gd_var 2)) (gd_int1 (X.free 2 "int" rfl) (gd_geA (gd_abs (X.free 13 "abs" rfl) (gd_var 2)) (gd_pow (gd_int) (gd_int)))))) (ga_cons (GO.gd (go_addA (GO.gd (go_addA (gd_mod (gd_int1 (X.free 2 "int" rfl) (gd_var 2)) (gd_int)) (GO.gd (go_mulA (gd_int) (gd_var 1))))) (gd_int))) (ga_cons (gd_int) (ga_nil))))))
      (gss_nil))
theorem ok__law_box (X : Facts K mg DEFS FREE CONS) : DefOk P w K mg base cv "_law_box" (top 27) 1 none ["script", "k"] f__law_box := by
  obtain ⟨f, fd, F, hm⟩ := X.def_ 18 ("_law_box", top 27) rfl
  exact def_of F hm sc__law_box (bd__law_box X) (FunD.bindsN F fun _ _ _ _ _ _ us hl => match us, hl with | [_, _], _ => rfl) (fun i hi => nomatch hi)
def N__law_take : List Str := ["tin", "below_so", "drawn_so", "once_so", "wide_so", "twice_so"]
theorem sc__law_take : FnScope N__law_take ["tin", "below_so"] (defScope (top 28)) := ⟨rfl, rfl, rfl, by decide +kernel, rfl, by decide +kernel, by decide +kernel⟩
def m__law_take : SM := sSeq (sIf (dBool (dGt (dIxN 0 (dC (.int 0))) (dC (.int 0)))) (sSeq (sSet 2 (DM.dat (dMod (d1 fInt (dIxN 0 (dC (.int 0)))) (dVar 1))))
  (sSeq (sAsg (dFdv (dIxN 0 (dC (.int 0))) (dVar 1)) (gSubN 0 (dC (.int 0))))
  (sSeq (sRet (oVar 2))
  (sNil)))) (sNil))
  (sWipe [2] (sSeq (sAsg (DM.frz (o2 fAdd (dIxN 0 (dC (.int 2))) (dC (.int 1)))) (gSubN 0 (dC (.int 2))))
  (sSeq (sSet 3 (DM.dat (dMod (d1 fInt (DM.frz (o2 fMul (DM.frz (o2 fAdd (dIxN 0 (dC (.int 1))) (DM.frz (o2 fMul (dC (.int 48271)) (dIxN 0 (dC (.int 2))))))) (DM.frz (o2 fAdd (dC (.int 39373)) (dIxN 0 (dC (.int 2)))))))) (dC (.int 2147483647)))))
  (sSeq (sSet 4 (o2 fAdd (dMod (d1 fInt (dVar 3)) (dC (.int 40009))) (dC (.int 7))))
  (sSeq (sSet 5 (DM.dat (dMod (d1 fInt (DM.frz (o2 fMul (DM.frz (o2 fAdd (DM.frz (o2 fAdd (dVar 3) (dIxN 0 (dC (.int 2))))) (dFdv (dIxN 0 (dC (.int 1))) (dC (.int 1000003))))) (dVar 4)))) (dC (.int 2147483629)))))
  (sSeq (sRet (DM.dat (dMod (d1 fInt (dFdv (dMod (d1 fInt (DM.frz (o2 fAdd (DM.frz (o2 fMul (dVar 5) (dC (.int 48271)))) (dVar 3)))) (dC (.int 2147483587))) (dC (.int 64)))) (dVar 1))))
  (sNil)))))))
def f__law_take : DF := runDef 6 2 (some 0) m__law_take
theorem bd__law_take (X : Facts K mg DEFS FREE CONS) : BodyOk P w K mg base cv N__law_take (defScope (top 28)) 0 (some 0) (defBody (top 28)) m__law_take := fun A E V hsc nd hr hfn hown hpass =>
    gss_cons (gs_if' (gt_gt (gd_ixN 0 (gd_int)) (gd_int)) (gss_cons (gs_set 2 (GD.go (gd_mod (gd_int1 (X.free 2 "int" rfl) (gd_ixN 0 (gd_int))) (gd_var 1))))
      (gss_cons (gs_asg (gd_fdv (gd_ixN 0 (gd_int)) (gd_var 1)) (gg_sub 0 (gd_int)))
      (gss_cons (gs_ret (go_var 2))
      (gss_nil)))) (gss_nil))
      (gss_wipe [2] (gss_cons (gs_asg (GO.gd (go_addA (gd_ixN 0 (gd_int)) (gd_int))) (gg_sub 0 (gd_int)))
      (gss_cons (gs_set 3 (GD.go (gd_mod (gd_int1 (X.free 2 "int" rfl) (GO.gd (go_mulA (GO.gd (go_addA (gd_ixN 0 (gd_int)) (GO.gd (go_mulA (gd_int) (gd_ixN 0 (gd_int)))))) (GO.gd (go_addA (gd_int) (gd_ixN 0 (gd_int))))))) (gd_int))))
      (gss_cons (gs_set 4 (go_addA (gd_mod (gd_int1 (X.free 2 "int" rfl) (gd_var 3)) (gd_int)) (gd_int)))
      (gss_cons (gs_set 5 (GD.go (gd_mod (gd_int1 (X.free 2 "int" rfl) (GO.gd (go_mulA (GO.gd (go_addA (GO.gd (go_addA (gd_var 3) (gd_ixN 0 (gd_int)))) (gd_fdv (gd_ixN 0 (gd_int)) (gd_int)))) (gd_var 4)))) (gd_int))))
      (gss_cons (gs_ret (GD.go (gd_mod (gd_int1 (X.free 2 "int" rfl) (gd_fdv (gd_mod (gd_int1 (X.free 2 "int" rfl) (GO.gd (go_addA (GO.gd (go_mulA (gd_var 5) (gd_int))) (gd_var 3)))) (gd_int)) (gd_int))) (gd_var 1))))
      (gss_nil)))))))
theorem ok__law_take (X : Facts K mg DEFS FREE CONS) : DefOk P w K mg base cv "_law_take" (top 28) 1 (some 0) ["tin", "below_so"] f__law_take := by
  obtain ⟨f, fd, F, hm⟩ := X.def_ 19 ("_law_take", top 28) rfl
  exact def_of F hm sc__law_take (bd__law_take X) (FunD.bindsN F fun _ _ _ _ _ _ us hl => match us, hl with | [_, _], _ => rfl) (fun i hi => by cases hi; decide)
def N__law_cells : List Str := ["script", "most_so", "cells_so", "k", "bit_so", "at_so"]
theorem sc__law_cells : FnScope N__law_cells ["script", "most_so"] (defScope (top 29)) := ⟨rfl, rfl, rfl, by decide +kernel, rfl, by decide +kernel, by decide +kernel⟩
def m__law_cells : SM := sSeq (sSet 2 (oOrL (o1 fList (DM.frz (oSl (dVar 0) (pNone) (pSome (dVar 1))))) (oLst (dCons (dC (.int 0)) (aNil)))))
  (sSeq (sFor (dEnum (dCons (DM.frz (oSl (dVar 0) (pSome (dVar 1)) (pSome (dC (.int 63))))) (aNil))) (gTn 2 (gsC (gN 3) (gsC (gN 4) (gsN)))) (sWipe [5] (sSeq (sSet 5 (DM.dat (dMod (d1 fInt (dVar 3)) (dVar 1))))
  (sSeq (sAsg (DM.frz (o2 fAdd (dIxN 2 (dVar 5)) (DM.frz (o2 fMul (dVar 4) (DM.frz (o2 fAdd (dVar 3) (dC (.int 2)))))))) (gSubN 2 (dVar 5)))
  (sNil)))))
  (sWipe [3, 4, 5] (sSeq (sRet (oVar 2))
  (sNil))))
def f__law_cells : DF := runDef 6 2 none m__law_cells
theorem bd__law_cells (X : Facts K mg DEFS FREE CONS) : BodyOk P w K mg base cv N__law_cells (defScope (top 29)) 0 none (defBody (top 29)) m__law_cells := fun A E V hsc nd hr hfn hown hpass =>
    gss_cons (gs_set 2 (go_orL (go_list (X.free 5 "list" rfl) (GO.gd (go_sl (gd_var 0) (gp_none) (gp_some (gd_var 1))))) (go_one (go_lst (ga_cons (gd_int) (ga_nil))))))
      (gss_cons (gs_for (gi_enum (X.free 11 "enumerate" rfl) (ga_cons (GO.gd (go_sl (gd_var 0) (gp_some (gd_var 1)) (gp_some (gd_int)))) (ga_nil))) (gg_tup 2 (ggs_cons (gg_name 3) (ggs_cons (gg_name 4) (ggs_nil)))) (gss_wipe [5] (gss_cons (gs_set 5 (GD.go (gd_mod (gd_int1 (X.free 2 "int" rfl) (gd_var 3)) (gd_var 1))))
      (gss_cons (gs_asg (GO.gd (go_addA (gd_ixN 2 (gd_var 5)) (GO.gd (go_mulA (gd_var 4) (GO.gd (go_addA (gd_var 3) (gd_int))))))) (gg_sub 2 (gd_var 5)))
      (gss_nil)))))
      (gss_wipe [3, 4, 5] (gss_cons (gs_ret (go_var 2))
      (gss_nil))))
theorem ok__law_cells (X : Facts K mg DEFS FREE CONS) : DefOk P w K mg base cv "_law_cells" (top 29) 1 none ["script", "most_so"] f__law_cells := by
  obtain ⟨f, fd, F, hm⟩ := X.def_ 20 ("_law_cells", top 29) rfl
  exact def_of F hm sc__law_cells (bd__law_cells X) (FunD.bindsN F fun _ _ _ _ _ _ us hl => match us, hl with | [_, _], _ => rfl) (fun i hi => nomatch hi)
def N__law_pick : List Str := ["tin", "goods_so", "count_so", "pool_so", "found", "lap"]
theorem sc__law_pick : FnScope N__law_pick ["tin", "goods_so", "count_so"] (defScope (top 30)) := ⟨rfl, rfl, rfl, by decide +kernel, rfl, by decide +kernel, by decide +kernel⟩
def m__law_pick : SM := sSeq (sPar 3 4 (oCons (o1 fList (dVar 1)) (oCons (oLst (aNil)) (oNil))))
  (sSeq (sFor (dRng1 (dCons (dMin2 (dCons (d1 fInt (dVar 2)) (dCons (dLenN 3) (aNil)))) (aNil))) (gN 5) (sWipe [] (sSeq (sAppend' 4 (DM.dat (dMth 3 ePopAt (dCons (DM.frz (oCallR 0 (f__law_take) (dCons (dLenN 3) (aNil)))) aNil))))
  (sNil))))
  (sWipe [5] (sSeq (sRet (oVar 4))
  (sNil))))
def f__law_pick : DF := runDef 6 3 (some 0) m__law_pick
theorem bd__law_pick (X : Facts K mg DEFS FREE CONS) : BodyOk P w K mg base cv N__law_pick (defScope (top 30)) 1 (some 0) (defBody (top 30)) m__law_pick := fun A E V hsc nd hr hfn hown hpass =>
    gss_cons (gs_par 3 4 (gao_cons (go_list (X.free 5 "list" rfl) (gd_var 1)) (gao_cons (go_lst (ga_nil)) (gao_nil))))
      (gss_cons (gs_for (gi_range1 (X.free 8 "range" rfl) (ga_cons (gd_min2 (X.free 12 "min" rfl) (ga_cons (gd_int1 (X.free 2 "int" rfl) (gd_var 2)) (ga_cons (gd_lenN 3 (X.free 7 "len" rfl)) (ga_nil)))) (ga_nil))) (gg_name 5) (gss_wipe [] (gss_cons (gs_append 4 (GD.go (gd_popAt 3 (GO.gd (go_callR 0 (ok__law_take X) (ga_cons (gd_lenN 3 (X.free 7 "len" rfl)) (ga_nil)))))))
      (gss_nil))))
      (gss_wipe [5] (gss_cons (gs_ret (go_var 4))
      (gss_nil))))
theorem ok__law_pick (X : Facts K mg DEFS FREE CONS) : DefOk P w K mg base cv "_law_pick" (top 30) 2 (some 0) ["tin", "goods_so", "count_so"] f__law_pick := by
  obtain ⟨f, fd, F, hm⟩ := X.def_ 21 ("_law_pick", top 30) rfl
  exact def_of F hm sc__law_pick (bd__law_pick X) (FunD.bindsN F fun _ _ _ _ _ _ us hl => match us, hl with | [_, _, _], _ => rfl) (fun i hi => by cases hi; decide)
def N__law_lists : List Str := ["matter", "bit"]
theorem sc__law_lists : FnScope N__law_lists ["matter"] (defScope (top 31)) := ⟨rfl, rfl, rfl, by decide +kernel, rfl, by decide +kernel, by decide +kernel⟩
def m__law_lists (rec : DF) : SM := sSeq (sRet (dIf (dBool (d1 (fIsi2 .lst .tup) (dVar 0))) (oComp [1] (dItems (dVar 0)) (gN 1) (dYes) (DM.frz (oCall (rec) (dCons (dVar 1) (aNil))))) (DM.dat (dVar 0))))
  (sNil)
def f__law_lists : Nat → DF
  | 0 => fun _ => .no
  | n + 1 => runDef 2 1 none (m__law_lists (f__law_lists n))
theorem bd__law_lists (X : Facts K mg DEFS FREE CONS) (j : Nat) (rec : DF) (ok : DefOk P w K mg base cv "_law_lists" (top 31) (0 + j) none ["matter"] rec) : BodyOk P w K mg base cv N__law_lists (defScope (top 31)) (0 + j) none (defBody (top 31)) (m__law_lists rec) := fun A E V hsc nd hr hfn hown hpass =>
    gss_cons (gs_ret (go_if (gt_bool (gd_isi2 .lst .tup (X.free 0 "isinstance" rfl) (X.free 5 "list" rfl) (X.free 4 "tuple" rfl) (gd_var 0))) (go_comp [("bit", 1)] (by rfl) (gi_any (gd_var 0)) (gg_name 1) (gts_nil) (GO.gd (go_call (hj := Nat.le_refl _) (ok) (ga_cons (gd_var 1) (ga_nil))))) (GD.go (gd_var 0))))
      (gss_nil)
theorem okn__law_lists (X : Facts K mg DEFS FREE CONS) : ∀ n : Nat, DefOk P w K mg base cv "_law_lists" (top 31) (0 + n) none ["matter"] (f__law_lists n)
  | 0 => by
    obtain ⟨f, fd, F, hm⟩ := X.def_ 22 ("_law_lists", top 31) rfl
    exact ⟨f, fd, fn_none, hm, F.kp, (FunD.bindsN F fun _ _ _ _ _ _ us hl => match us, hl with | [_], _ => rfl), F⟩
  | n + 1 => by
    obtain ⟨f, fd, F, hm⟩ := X.def_ 22 ("_law_lists", top 31) rfl
    exact def_of F hm sc__law_lists (bd__law_lists X n _ (okn__law_lists X n)) (FunD.bindsN F fun _ _ _ _ _ _ us hl => match us, hl with | [_], _ => rfl) (fun i hi => nomatch hi)
theorem ok__law_lists (X : Facts K mg DEFS FREE CONS) : DefOk P w K mg base cv "_law_lists" (top 31) 20 none ["matter"] (f__law_lists 20) := okn__law_lists X 20
def N__law_same : List Str := ["got", "due", "mine", "its"]
theorem sc__law_same : FnScope N__law_same ["got", "due"] (defScope (top 32)) := ⟨rfl, rfl, rfl, by decide +kernel, rfl, by decide +kernel, by decide +kernel⟩
def m__law_same (rec : DF) : SM := sSeq (sIf (dBool (d1 (fIsi2 .lst .tup) (dVar 1))) (sSeq (sIf (dOrT (dBool (d2 fNe (d1 (fIsi .lst) (dVar 0)) (d1 (fIsi .lst) (dVar 1)))) (dBool (d2 fNe (d1 (fIsi .tup) (dVar 0)) (d1 (fIsi .tup) (dVar 1))))) (sSeq (sRet (DM.dat (dC (.bl false))))
  (sNil)) (sNil))
  (sWipe [] (sSeq (sRet (DM.dat (dAndV (d2 fEq (dLenN 0) (dLenN 1)) (d1 fAll (DM.frz (oComp [2, 3] (dZip (dCons (dVar 0) (dCons (dVar 1) (aNil)))) (gTn 2 (gsC (gN 2) (gsC (gN 3) (gsN)))) (dYes) (DM.frz (oCall (rec) (dCons (dVar 2) (dCons (dVar 3) (aNil)))))))))))
  (sNil)))) (sNil))
  (sWipe [] (sSeq (sIf (dBool (d2 fIs (dVar 1) (dC .non))) (sSeq (sRet (DM.dat (d2 fIs (dVar 0) (dC .non))))
  (sNil)) (sNil))
  (sWipe [] (sSeq (sIf (dBool (d1 (fIsi2 .bl .str) (dVar 1))) (sSeq (sRet (DM.dat (dAndV (d2 fEq (d1 (fIsi .bl) (dVar 0)) (d1 (fIsi .bl) (dVar 1))) (dAndV (d2 fEq (d1 (fIsi .str) (dVar 0)) (d1 (fIsi .str) (dVar 1))) (d2 fEq (dVar 0) (dVar 1))))))
  (sNil)) (sNil))
  (sWipe [] (sSeq (sRet (DM.dat (dAndV (d1 (fIsi .int) (dVar 0)) (dAndV (d1 fNot (d1 (fIsi .bl) (dVar 0))) (d2 fEq (dVar 0) (dVar 1))))))
  (sNil)))))))
def f__law_same : Nat → DF
  | 0 => fun _ => .no
  | n + 1 => runDef 4 2 none (m__law_same (f__law_same n))
theorem bd__law_same (X : Facts K mg DEFS FREE CONS) (j : Nat) (rec : DF) (ok : DefOk P w K mg base cv "_law_same" (top 32) (0 + j) none ["got", "due"] rec) : BodyOk P w K mg base cv N__law_same (defScope (top 32)) (0 + j) none (defBody (top 32)) (m__law_same rec) := fun A E V hsc nd hr hfn hown hpass =>
    gss_cons (gs_if' (gt_bool (gd_isi2 .lst .tup (X.free 0 "isinstance" rfl) (X.free 5 "list" rfl) (X.free 4 "tuple" rfl) (gd_var 1))) (gss_cons (gs_if' (GW.gt (gw_or (gt_ne (gd_isi .lst (X.free 0 "isinstance" rfl) (X.free 5 "list" rfl) (gd_var 0)) (gd_isi .lst (X.free 0 "isinstance" rfl) (X.free 5 "list" rfl) (gd_var 1))) (gw_or1 (gt_ne (gd_isi .tup (X.free 0 "isinstance" rfl) (X.free 4 "tuple" rfl) (gd_var 0)) (gd_isi .tup (X.free 0 "isinstance" rfl) (X.free 4 "tuple" rfl) (gd_var 1)))))) (gss_cons (gs_ret (GD.go (gd_bl)))
      (gss_nil)) (gss_nil))
      (gss_wipe [] (gss_cons (gs_ret (GD.go (gd_and (gd_eq (gd_lenN 0 (X.free 7 "len" rfl)) (gd_lenN 1 (X.free 7 "len" rfl))) (gd_one (gd_all (X.free 3 "all" rfl) (GO.gd (go_comp [("mine", 2), ("its", 3)] (by rfl) (gi_zip (X.free 15 "zip" rfl) (ga_cons (gd_var 0) (ga_cons (gd_var 1) (ga_nil)))) (gg_tup 2 (ggs_cons (gg_name 2) (ggs_cons (gg_name 3) (ggs_nil)))) (gts_nil) (GO.gd (go_call (hj := Nat.le_refl _) (ok) (ga_cons (gd_var 2) (ga_cons (gd_var 3) (ga_nil))))))))))))
      (gss_nil)))) (gss_nil))
      (gss_wipe [] (gss_cons (gs_if' (gt_is (gd_var 1) (gd_non)) (gss_cons (gs_ret (GD.go (gd_is (gd_var 0) (gd_non))))
      (gss_nil)) (gss_nil))
      (gss_wipe [] (gss_cons (gs_if' (gt_bool (gd_isi2 .bl .str (X.free 0 "isinstance" rfl) (X.free 1 "bool" rfl) (X.free 14 "str" rfl) (gd_var 1))) (gss_cons (gs_ret (GD.go (gd_and (gd_eq (gd_isi .bl (X.free 0 "isinstance" rfl) (X.free 1 "bool" rfl) (gd_var 0)) (gd_isi .bl (X.free 0 "isinstance" rfl) (X.free 1 "bool" rfl) (gd_var 1))) (gd_and (gd_eq (gd_isi .str (X.free 0 "isinstance" rfl) (X.free 14 "str" rfl) (gd_var 0)) (gd_isi .str (X.free 0 "isinstance" rfl) (X.free 14 "str" rfl) (gd_var 1))) (gd_one (gd_eq (gd_var 0) (gd_var 1)))))))
      (gss_nil)) (gss_nil))
      (gss_wipe [] (gss_cons (gs_ret (GD.go (gd_and (gd_isi .int (X.free 0 "isinstance" rfl) (X.free 2 "int" rfl) (gd_var 0)) (gd_and (gd_not (gd_isi .bl (X.free 0 "isinstance" rfl) (X.free 1 "bool" rfl) (gd_var 0))) (gd_one (gd_eq (gd_var 0) (gd_var 1)))))))
      (gss_nil)))))))
theorem okn__law_same (X : Facts K mg DEFS FREE CONS) : ∀ n : Nat, DefOk P w K mg base cv "_law_same" (top 32) (0 + n) none ["got", "due"] (f__law_same n)
  | 0 => by
    obtain ⟨f, fd, F, hm⟩ := X.def_ 23 ("_law_same", top 32) rfl
    exact ⟨f, fd, fn_none, hm, F.kp, (FunD.bindsN F fun _ _ _ _ _ _ us hl => match us, hl with | [_, _], _ => rfl), F⟩
  | n + 1 => by
    obtain ⟨f, fd, F, hm⟩ := X.def_ 23 ("_law_same", top 32) rfl
    exact def_of F hm sc__law_same (bd__law_same X n _ (okn__law_same X n)) (FunD.bindsN F fun _ _ _ _ _ _ us hl => match us, hl with | [_, _], _ => rfl) (fun i hi => nomatch hi)
theorem ok__law_same (X : Facts K mg DEFS FREE CONS) : DefOk P w K mg base cv "_law_same" (top 32) 20 none ["got", "due"] (f__law_same 20) := okn__law_same X 20
def N__law_flat : List Str := ["rows_so", "found", "own"]
theorem sc__law_flat : FnScope N__law_flat ["rows_so"] (defScope (top 33)) := ⟨rfl, rfl, rfl, by decide +kernel, rfl, by decide +kernel, by decide +kernel⟩
def m__law_flat : SM := sSeq (sSet 1 (oLst (aNil)))
  (sSeq (sFor (dItems (dVar 0)) (gN 2) (sWipe [] (sSeq (sDrop (dMth 1 eExt (dCons (dVar 2) aNil)))
  (sNil))))
  (sWipe [2] (sSeq (sRet (oVar 1))
  (sNil))))
def f__law_flat : DF := runDef 3 1 none m__law_flat
theorem bd__law_flat (X : Facts K mg DEFS FREE CONS) : BodyOk P w K mg base cv N__law_flat (defScope (top 33)) 0 none (defBody (top 33)) m__law_flat := fun A E V hsc nd hr hfn hown hpass =>
    gss_cons (gs_set 1 (go_lst (ga_nil)))
      (gss_cons (gs_for (gi_any (gd_var 0)) (gg_name 2) (gss_wipe [] (gss_cons (gs_extend 1 (gd_var 2))
      (gss_nil))))
      (gss_wipe [2] (gss_cons (gs_ret (go_var 1))
      (gss_nil))))
theorem ok__law_flat (X : Facts K mg DEFS FREE CONS) : DefOk P w K mg base cv "_law_flat" (top 33) 1 none ["rows_so"] f__law_flat := by
  obtain ⟨f, fd, F, hm⟩ := X.def_ 24 ("_law_flat", top 33) rfl
  exact def_of F hm sc__law_flat (bd__law_flat X) (FunD.bindsN F fun _ _ _ _ _ _ us hl => match us, hl with | [_], _ => rfl) (fun i hi => nomatch hi)
def N__law_moebius : List Str := ["n", "found", "left_so", "p"]
theorem sc__law_moebius : FnScope N__law_moebius ["n"] (defScope (top 34)) := ⟨rfl, rfl, rfl, by decide +kernel, rfl, by decide +kernel, by decide +kernel⟩
def m__law_moebius : SM := sSeq (sPar 1 2 (oCons (DM.dat (dC (.int 1))) (oCons (DM.dat (dVar 0)) (oNil))))
  (sSeq (sFor (dRng2 (dCons (dC (.int 2)) (dCons (DM.frz (o2 fAdd (dVar 0) (dC (.int 1)))) (aNil)))) (gN 3) (sWipe [] (sSeq (sIf (dBool (d2 fEq (dMod (dVar 2) (dVar 3)) (dC (.int 0)))) (sSeq (sSet 2 (DM.dat (dFdv (dVar 2) (dVar 3))))
  (sSeq (sIf (dBool (d2 fEq (dMod (dVar 2) (dVar 3)) (dC (.int 0)))) (sSeq (sRet (DM.dat (dC (.int 0))))
  (sNil)) (sNil))
  (sWipe [] (sSeq (sSet 1 (DM.dat (dSub (dC (.int 0)) (dVar 1))))
  (sNil))))) (sNil))
  (sWipe [] (sNil)))))
  (sWipe [3] (sSeq (sRet (oVar 1))
  (sNil))))
def f__law_moebius : DF := runDef 4 1 none m__law_moebius
theorem bd__law_moebius (X : Facts K mg DEFS FREE CONS) : BodyOk P w K mg base cv N__law_moebius (defScope (top 34)) 0 none (defBody (top 34)) m__law_moebius := fun A E V hsc nd hr hfn hown hpass =>
    gss_cons (gs_par 1 2 (gao_cons (GD.go (gd_int)) (gao_cons (GD.go (gd_var 0)) (gao_nil))))
      (gss_cons (gs_for (gi_range2 (X.free 8 "range" rfl) (ga_cons (gd_int) (ga_cons (GO.gd (go_addA (gd_var 0) (gd_int))) (ga_nil)))) (gg_name 3) (gss_wipe [] (gss_cons (gs_if' (gt_eq (gd_mod (gd_var 2) (gd_var 3)) (gd_int)) (gss_cons (gs_set 2 (GD.go (gd_fdv (gd_var 2) (gd_var 3))))
      (gss_cons (gs_if' (gt_eq (gd_mod (gd_var 2) (gd_var 3)) (gd_int)) (gss_cons (gs_ret (GD.go (gd_int)))
      (gss_nil)) (gss_nil))
      (gss_wipe [] (gss_cons (gs_set 1 (GD.go (gd_sub (gd_int) (gd_var 1))))
      (gss_nil))))) (gss_nil))
      (gss_wipe [] (gss_nil)))))
      (gss_wipe [3] (gss_cons (gs_ret (go_var 1))
      (gss_nil))))
theorem ok__law_moebius (X : Facts K mg DEFS FREE CONS) : DefOk P w K mg base cv "_law_moebius" (top 34) 1 none ["n"] f__law_moebius := by
  obtain ⟨f, fd, F, hm⟩ := X.def_ 25 ("_law_moebius", top 34) rfl
  exact def_of F hm sc__law_moebius (bd__law_moebius X) (FunD.bindsN F fun _ _ _ _ _ _ us hl => match us, hl with | [_], _ => rfl) (fun i hi => nomatch hi)
def N__law_all_words : List Str := ["degrees_so", "most_so", "rows_so", "found", "lap", "word_so", "total_so", "k", "own"]
theorem sc__law_all_words : FnScope N__law_all_words ["degrees_so", "most_so"] (defScope (top 35)) := ⟨rfl, rfl, rfl, by decide +kernel, rfl, by decide +kernel, by decide +kernel⟩
def m__law_all_words : SM := sSeq (sPar 2 3 (oCons (oLst (dCons (dTup (dCons (dTup (aNil)) (dCons (dC (.int 0)) (aNil)))) (aNil))) (oCons (oLst (aNil)) (oNil))))
  (sFrz 2 (sSeq (sFor (dRng1 (dCons (dVar 1) (aNil))) (gN 4) (sWipe [] (sSeq (sSet 2 (oCall (f__law_flat) (dCons (DM.frz (oComp [5, 6] (dItems (dVar 2)) (gTn 2 (gsC (gN 5) (gsC (gN 6) (gsN)))) (dYes) (DM.frz (oComp [7, 8] (dEnum (dCons (dVar 0) (aNil))) (gTn 2 (gsC (gN 7) (gsC (gN 8) (gsN)))) (dBool (dLe (DM.frz (o2 fAdd (dVar 6) (dVar 8))) (dVar 1))) (dTup (dCons (DM.frz (o2 fAdd (dVar 5) (dTup (dCons (dVar 7) (aNil))))) (dCons (DM.frz (o2 fAdd (dVar 6) (dVar 8))) (aNil)))))))) (aNil))))
  (sSeq (sDrop (dMth 3 eExt (dCons (dVar 2) aNil)))
  (sNil)))))
  (sWipe [4] (sSeq (sRet (oVar 3))
  (sNil)))))
def f__law_all_words : DF := runDef 9 2 none m__law_all_words
theorem bd__law_all_words (X : Facts K mg DEFS FREE CONS) : BodyOk P w K mg base cv N__law_all_words (defScope (top 35)) 1 none (defBody (top 35)) m__law_all_words := fun A E V hsc nd hr hfn hown hpass =>
    gss_cons (gs_par 2 3 (gao_cons (go_lst (ga_cons (gd_tup (ga_cons (gd_tup (ga_nil)) (ga_cons (gd_int) (ga_nil)))) (ga_nil))) (gao_cons (go_lst (ga_nil)) (gao_nil))))
      (gss_frz 2 (gss_cons (gs_for (gi_range1 (X.free 8 "range" rfl) (ga_cons (gd_var 1) (ga_nil))) (gg_name 4) (gss_wipe [] (gss_cons (gs_set 2 (go_call (ok__law_flat X) (ga_cons (GO.gd (go_comp [("word_so", 5), ("total_so", 6)] (by rfl) (gi_any (gd_var 2)) (gg_tup 2 (ggs_cons (gg_name 5) (ggs_cons (gg_name 6) (ggs_nil)))) (gts_nil) (GO.gd (go_comp [("k", 7), ("own", 8)] (by rfl) (gi_enum (X.free 11 "enumerate" rfl) (ga_cons (gd_var 0) (ga_nil))) (gg_tup 2 (ggs_cons (gg_name 7) (ggs_cons (gg_name 8) (ggs_nil)))) (gts_one (gt_le (GO.gd (go_addA (gd_var 6) (gd_var 8))) (gd_var 1))) (gd_tup (ga_cons (GO.gd (go_addA (gd_var 5) (gd_tup (ga_cons (gd_var 7) (ga_nil))))) (ga_cons (GO.gd (go_addA (gd_var 6) (gd_var 8))) (ga_nil)))))))) (ga_nil))))
      (gss_cons (gs_extend 3 (gd_var 2))
      (gss_nil)))))
      (gss_wipe [4] (gss_cons (gs_ret (go_var 3))
      (gss_nil)))))
theorem ok__law_all_words (X : Facts K mg DEFS FREE CONS) : DefOk P w K mg base cv "_law_all_words" (top 35) 2 none ["degrees_so", "most_so"] f__law_all_words := by
  obtain ⟨f, fd, F, hm⟩ := X.def_ 26 ("_law_all_words", top 35) rfl
  exact def_of F hm sc__law_all_words (bd__law_all_words X) (FunD.bindsN F fun _ _ _ _ _ _ us hl => match us, hl with | [_, _], _ => rfl) (fun i hi => nomatch hi)
def N__law_less : List Str := ["word_so", "k"]
theorem sc__law_less : FnScope N__law_less ["word_so"] (defScope (top 36)) := ⟨rfl, rfl, rfl, by decide +kernel, rfl, by decide +kernel, by decide +kernel⟩
def m__law_less : SM := sSeq (sRet (DM.dat (d2 fEq (DM.frz (oComp [1] (dRng2 (dCons (dC (.int 1)) (dCons (dLenN 0) (aNil)))) (gN 1) (dBool (d2 fGeA (dVar 0) (DM.frz (oSl (dVar 0) (pSome (dVar 1)) (pNone))))) (dVar 1))) (DM.frz (oLst (aNil))))))
  (sNil)
def f__law_less : DF := runDef 2 1 none m__law_less
theorem bd__law_less (X : Facts K mg DEFS FREE CONS) : BodyOk P w K mg base cv N__law_less (defScope (top 36)) 0 none (defBody (top 36)) m__law_less := fun A E V hsc nd hr hfn hown hpass =>
    gss_cons (gs_ret (GD.go (gd_eq (GO.gd (go_comp [("k", 1)] (by rfl) (gi_range2 (X.free 8 "range" rfl) (ga_cons (gd_int) (ga_cons (gd_lenN 0 (X.free 7 "len" rfl)) (ga_nil)))) (gg_name 1) (gts_one (gt_geA (gd_var 0) (GO.gd (go_sl (gd_var 0) (gp_some (gd_var 1)) (gp_none))))) (gd_var 1))) (GO.gd (go_lst (ga_nil))))))
      (gss_nil)
theorem ok__law_less (X : Facts K mg DEFS FREE CONS) : DefOk P w K mg base cv "_law_less" (top 36) 1 none ["word_so"] f__law_less := by
  obtain ⟨f, fd, F, hm⟩ := X.def_ 27 ("_law_less", top 36) rfl
  exact def_of F hm sc__law_less (bd__law_less X) (FunD.bindsN F fun _ _ _ _ _ _ us hl => match us, hl with | [_], _ => rfl) (fun i hi => nomatch hi)
def N__law_power : List Str := ["k", "often_so", "found", "lap"]
theorem sc__law_power : FnScope N__law_power ["k", "often_so"] (defScope (top 37)) := ⟨rfl, rfl, rfl, by decide +kernel, rfl, by decide +kernel, by decide +kernel⟩
def m__law_power : SM := sSeq (sSet 2 (DM.dat (dC (.int 1))))
  (sSeq (sFor (dRng1 (dCons (dVar 1) (aNil))) (gN 3) (sWipe [] (sSeq (sSet 2 (o2 fMul (dVar 2) (dVar 0)))
  (sNil))))
  (sWipe [3] (sSeq (sRet (oVar 2))
  (sNil))))
def f__law_power : DF := runDef 4 2 none m__law_power
theorem bd__law_power (X : Facts K mg DEFS FREE CONS) : BodyOk P w K mg base cv N__law_power (defScope (top 37)) 0 none (defBody (top 37)) m__law_power := fun A E V hsc nd hr hfn hown hpass =>
    gss_cons (gs_set 2 (GD.go (gd_int)))
      (gss_cons (gs_for (gi_range1 (X.free 8 "range" rfl) (ga_cons (gd_var 1) (ga_nil))) (gg_name 3) (gss_wipe [] (gss_cons (gs_set 2 (go_mulA (gd_var 2) (gd_var 0)))
      (gss_nil))))
      (gss_wipe [3] (gss_cons (gs_ret (go_var 2))
      (gss_nil))))
theorem ok__law_power (X : Facts K mg DEFS FREE CONS) : DefOk P w K mg base cv "_law_power" (top 37) 1 none ["k", "often_so"] f__law_power := by
  obtain ⟨f, fd, F, hm⟩ := X.def_ 28 ("_law_power", top 37) rfl
  exact def_of F hm sc__law_power (bd__law_power X) (FunD.bindsN F fun _ _ _ _ _ _ us hl => match us, hl with | [_, _], _ => rfl) (fun i hi => nomatch hi)
def N_law : List Str := ["script", "tin", "lap", "degrees_so", "most_so", "words_so", "plain_so", "due", "ranks_so", "told_so", "row_so", "k", "own", "basics_so", "total_so", "got", "turn", "half_so", "its", "j", "many_so", "n", "d"]
theorem sc_law : FnScope N_law ["script"] (defScope (top 38)) := ⟨rfl, rfl, rfl, by decide +kernel, rfl, by decide +kernel, by decide +kernel⟩
def m_law : SM := sSeq (sSet 1 (oCall (f__law_box) (dCons (DM.frz (oCall (f__law_cells) (dCons (dVar 0) (dCons (dC (.int 1)) (aNil))))) (dCons (dC (.int 0)) (aNil)))))
  (sSeq (sFor (dRng1 (dCons (dC (.int 3)) (aNil))) (gN 2) (sWipe [3, 4, 5, 6, 7, 8, 9, 10, 11, 12, 13, 14, 15, 16, 17, 19] (sSeq (sSet 3 (DM.dat (d1 fTuple (DM.frz (oComp [11] (dRng1 (dCons (DM.frz (o2 fAdd (dC (.int 1)) (DM.frz (oCallR 1 (f__law_take) (dCons (dC (.int 3)) (aNil)))))) (aNil))) (gN 11) (dYes) (DM.frz (o2 fAdd (dC (.int 1)) (DM.frz (oCallR 1 (f__law_take) (dCons (dC (.int 3)) (aNil)))))))))))
  (sSeq (sSet 4 (o2 fAdd (dC (.int 4)) (DM.frz (oCallR 1 (f__law_take) (dCons (dC (.int 4)) (aNil))))))
  (sSeq (sSet 5 (oCall (f__law_all_words) (dCons (dVar 3) (dCons (dVar 4) (aNil)))))
  (sSeq (sIf (dBool (dGt (dLenN 5) (dC (.int 4000)))) (sSeq (sCnt)
  (sNil)) (sNil))
  (sWipe [] (sSeq (sSet 6 (oComp [12] (dItems (dVar 5)) (gN 12) (dBool (DM.frz (oCall (f__law_less) (dCons (dIxN 12 (dC (.int 0))) (aNil))))) (dVar 12)))
  (sSeq (sSet 7 (o2 fAdd (dVar 6) (DM.frz (oComp [12] (dItems (dVar 6)) (gN 12) (dAndT (dBool (d2 fEq (dMod (dIxN 12 (dC (.int 1))) (dC (.int 2))) (dC (.int 1)))) (dBool (dLe (DM.frz (o2 fMul (dC (.int 2)) (dIxN 12 (dC (.int 1))))) (dVar 4)))) (dTup (dCons (DM.frz (o2 fAdd (dIxN 12 (dC (.int 0))) (dIxN 12 (dC (.int 0))))) (dCons (DM.frz (o2 fMul (dC (.int 2)) (dIxN 12 (dC (.int 1))))) (aNil))))))))
  (sFrz 7 (sSeq (sSet 8 (DM.dat (d1 fTuple (DM.frz (oComp [11] (dRng1 (dCons (DM.frz (o2 fAdd (dVar 4) (dC (.int 1)))) (aNil))) (gN 11) (dYes) (d1 fLen (DM.frz (oComp [12] (dItems (dVar 7)) (gN 12) (dBool (d2 fEq (dIxN 12 (dC (.int 1))) (dVar 11))) (dC (.int 1))))))))))
  (sSeq (sSet 9 (oCall (f_basic_words) (dCons (DM.frz (oCall (f__law_lists 20) (dCons (dVar 3) (aNil)))) (dCons (dVar 4) (aNil)))))
  (sSeq (sIf (dNotT (dBool (DM.frz (oCall (f__law_same 20) (dCons (DM.frz (oLst (dCons (dVar 9) (dCons (DM.frz (oCall (f_free_ranks) (dCons (dVar 3) (dCons (dVar 4) (aNil))))) (dCons (DM.frz (oCallK 0 2 [1, 0] (f_free_ranks) (aNil) (dCons (dVar 4) (dCons (DM.frz (oCall (f__law_lists 20) (dCons (dVar 3) (aNil)))) (aNil))))) (aNil)))))) (dCons (DM.frz (oLst (dCons (DM.frz (o1 fSorted (DM.frz (oComp [12] (dItems (dVar 7)) (gN 12) (dYes) (dIxN 12 (dC (.int 0))))))) (dCons (dVar 8) (dCons (dVar 8) (aNil)))))) (aNil))))))) (sSeq (sRet (DM.dat (dC (.bl false))))
  (sNil)) (sNil))
  (sWipe [] (sSeq (sSet 10 (o2 fAdd (DM.frz (oLst (dCons (dC (.int 1)) (aNil)))) (DM.frz (o2 fMul (DM.frz (oLst (dCons (dC (.int 0)) (aNil)))) (dVar 4)))))
  (sSeq (sFor (dRng2 (dCons (dC (.int 1)) (dCons (DM.frz (o2 fAdd (dVar 4) (dC (.int 1)))) (aNil)))) (gN 11) (sWipe [16, 19] (sSeq (sFor (dRng1 (dCons (dIxN 8 (dVar 11)) (aNil))) (gN 16) (sWipe [19] (sSeq (sSet 10 (dIf (dBool (d2 fEq (dMod (dVar 11) (dC (.int 2))) (dC (.int 1)))) (oComp [19] (dRng1 (dCons (DM.frz (o2 fAdd (dVar 4) (dC (.int 1)))) (aNil))) (gN 19) (dYes) (DM.frz (o2 fAdd (dIxN 10 (dVar 19)) (dIf (dBool (d2 fGeA (dVar 19) (dVar 11))) (dIxN 10 (dSub (dVar 19) (dVar 11))) (dC (.int 0)))))) (oVar 10)))
  (sSeq (sIf (dBool (d2 fEq (dMod (dVar 11) (dC (.int 2))) (dC (.int 0)))) (sSeq (sFor (dRng2 (dCons (dVar 11) (dCons (DM.frz (o2 fAdd (dVar 4) (dC (.int 1)))) (aNil)))) (gN 19) (sWipe [] (sSeq (sAsg (DM.frz (o2 fAdd (dIxN 10 (dVar 19)) (dIxN 10 (dSub (dVar 19) (dVar 11))))) (gSubN 10 (dVar 19)))
  (sNil))))
  (sWipe [19] (sNil))) (sNil))
  (sWipe [19] (sNil))))))
  (sWipe [16, 19] (sNil)))))
  (sWipe [11, 16, 19] (sSeq (sIf (dBool (d2 fNe (dVar 10) (DM.frz (o2 fAdd (DM.frz (oLst (dCons (dC (.int 1)) (aNil)))) (DM.frz (oComp [11] (dRng2 (dCons (dC (.int 1)) (dCons (DM.frz (o2 fAdd (dVar 4) (dC (.int 1)))) (aNil)))) (gN 11) (dYes) (d1 fLen (DM.frz (oComp [12] (dItems (dVar 5)) (gN 12) (dBool (d2 fEq (dIxN 12 (dC (.int 1))) (dVar 11))) (dC (.int 1))))))))))) (sSeq (sRet (DM.dat (dC (.bl false))))
  (sNil)) (sNil))
  (sWipe [] (sSeq (sFor (dItems (DM.frz (oCallR 1 (f__law_pick) (dCons (dVar 9) (dCons (dC (.int 5)) (aNil)))))) (gN 12) (sWipe [11, 15, 17] (sSeq (sIf (dBool (dGt (dLenN 12) (dC (.int 1)))) (sSeq (sSet 17 (DM.dat (dFdv (dLenN 12) (dC (.int 2)))))
  (sSeq (sSet 11 (dIf (dBool (DM.frz (oCall (f__law_less) (dCons (dVar 12) (aNil))))) (DM.dat (d2 fIx (DM.frz (oComp [11] (dRng2 (dCons (dC (.int 1)) (dCons (dLenN 12) (aNil)))) (gN 11) (dBool (DM.frz (oCall (f__law_less) (dCons (DM.frz (oSl (dVar 12) (pSome (dVar 11)) (pNone))) (aNil))))) (dVar 11))) (dC (.int 0)))) (DM.dat (dVar 17))))
  (sSeq (sSet 15 (oLst (dCons (DM.frz (oCall (f_cut_word) (dCons (dVar 3) (dCons (DM.frz (o1 fList (dVar 12))) (aNil))))) (dCons (DM.frz (oCall (f_is_basic_word) (dCons (dVar 3) (dCons (DM.frz (oSl (dVar 12) (pNone) (pSome (dVar 11)))) (aNil))))) (dCons (DM.frz (oCall (f_is_basic_word) (dCons (dVar 3) (dCons (DM.frz (oSl (dVar 12) (pSome (dVar 11)) (pNone))) (aNil))))) (aNil))))))
  (sSeq (sIf (dNotT (dBool (DM.frz (oCall (f__law_same 20) (dCons (dVar 15) (dCons (DM.frz (oLst (dCons (dTup (dCons (DM.frz (oSl (dVar 12) (pNone) (pSome (dVar 11)))) (dCons (DM.frz (oSl (dVar 12) (pSome (dVar 11)) (pNone))) (aNil)))) (dCons (dC (.bl true)) (dCons (dC (.bl true)) (aNil)))))) (aNil))))))) (sSeq (sRet (DM.dat (dC (.bl false))))
  (sNil)) (sNil))
  (sWipe [] (sNil)))))) (sNil))
  (sWipe [11, 15, 17] (sNil)))))
  (sWipe [12, 11, 15, 17] (sSeq (sSet 13 (o1 fDict (DM.frz (oComp [12] (dItems (dVar 7)) (gN 12) (dYes) (dTup (dCons (dIxN 12 (dC (.int 0))) (dCons (dC (.bl true)) (aNil))))))))
  (sFrz 13 (sSeq (sFor (dItems (DM.frz (oCallR 1 (f__law_pick) (dCons (dVar 5) (dCons (dC (.int 8)) (aNil)))))) (gTn 2 (gsC (gN 12) (gsC (gN 14) (gsN)))) (sWipe [] (sSeq (sIf (dNotT (dBool (DM.frz (oCall (f__law_same 20) (dCons (DM.frz (oCall (f_is_basic_word) (dCons (dVar 3) (dCons (dVar 12) (aNil))))) (dCons (d2 (fInA false) (dVar 12) (dVar 13)) (aNil))))))) (sSeq (sRet (DM.dat (dC (.bl false))))
  (sNil)) (sNil))
  (sWipe [] (sNil)))))
  (sWipe [12, 14] (sSeq (sSet 15 (oComp [18] (dItems (dTup (dCons (dTup (aNil)) (dCons (dC .non) (dCons (dTup (dCons (dLenN 3) (aNil))) (dCons (dTup (dCons (dNeg (dC (.int 1))) (aNil))) (dCons (DM.frz (oLst (dCons (dC (.int 0)) (aNil)))) (dCons (dTup (dCons (dC (.bl true)) (aNil))) (aNil))))))))) (gN 18) (dYes) (DM.frz (oCall (f_is_basic_word) (dCons (dVar 3) (dCons (dVar 18) (aNil)))))))
  (sSeq (sIf (dNotT (dBool (DM.frz (oCall (f__law_same 20) (dCons (DM.frz (o2 fAdd (dVar 15) (DM.frz (oLst (dCons (DM.frz (oCall (f_joined_ranks) (dCons (d1 fTuple (DM.frz (oComp [12] (dItems (dVar 3)) (gN 12) (dYes) (DM.frz (o2 fAdd (dVar 12) (dC (.int 1))))))) (dCons (DM.frz (o2 fAdd (dVar 4) (dC (.int 1)))) (aNil))))) (aNil)))))) (dCons (DM.frz (o2 fAdd (DM.frz (o2 fMul (DM.frz (oLst (dCons (dC (.bl false)) (aNil)))) (dC (.int 6)))) (DM.frz (oLst (dCons (DM.frz (o2 fAdd (dTup (dCons (dC (.int 0)) (aNil))) (dVar 8))) (aNil)))))) (aNil))))))) (sSeq (sRet (DM.dat (dC (.bl false))))
  (sNil)) (sNil))
  (sWipe [] (sNil)))))))))))))))))))))))))))))
  (sWipe [2, 3, 4, 5, 6, 7, 8, 9, 10, 11, 12, 13, 14, 15, 16, 17, 19] (sSeq (sAsg (dTup (dCons (DM.frz (o2 fAdd (dC (.int 1)) (DM.frz (oCallR 1 (f__law_take) (dCons (dC (.int 4)) (aNil)))))) (dCons (DM.frz (o2 fAdd (dC (.int 1)) (DM.frz (oCallR 1 (f__law_take) (dCons (dC (.int 8)) (aNil)))))) (aNil)))) (gTn 2 (gsC (gN 20) (gsC (gN 21) (gsN)))))
  (sSeq (sSet 7 (DM.dat (dFdv (d1 fSum (DM.frz (oComp [22] (dRng2 (dCons (dC (.int 1)) (dCons (DM.frz (o2 fAdd (dVar 21) (dC (.int 1)))) (aNil)))) (gN 22) (dBool (d2 fEq (dMod (dVar 21) (dVar 22)) (dC (.int 0)))) (DM.frz (o2 fMul (DM.frz (oCall (f__law_moebius) (dCons (dVar 22) (aNil)))) (DM.frz (oCall (f__law_power) (dCons (dVar 20) (dCons (dFdv (dVar 21) (dVar 22)) (aNil)))))))))) (dVar 21))))
  (sSeq (sRet (oCall (f__law_same 20) (dCons (DM.frz (oLst (dCons (d2 fIx (DM.frz (oCall (f_free_ranks) (dCons (DM.frz (o2 fMul (dTup (dCons (dC (.int 2)) (aNil))) (dVar 20))) (dCons (DM.frz (o2 fMul (dC (.int 2)) (dVar 21))) (aNil))))) (DM.frz (o2 fMul (dC (.int 2)) (dVar 21)))) (dCons (DM.frz (oCall (f_free_ranks) (dCons (dTup (aNil)) (dCons (dC (.int 3)) (aNil))))) (dCons (DM.frz (oCall (f_joined_ranks) (dCons (dTup (aNil)) (dCons (dC (.int 2)) (aNil))))) (dCons (DM.frz (oCall (f_basic_words) (dCons (dTup (aNil)) (dCons (dC (.int 5)) (aNil))))) (aNil))))))) (dCons (DM.frz (oLst (dCons (dVar 7) (dCons (dTup (dCons (dC (.int 0)) (dCons (dC (.int 0)) (dCons (dC (.int 0)) (dCons (dC (.int 0)) (aNil)))))) (dCons (dTup (dCons (dC (.int 0)) (dCons (dC (.int 0)) (dCons (dC (.int 0)) (aNil))))) (dCons (DM.frz (oLst (aNil))) (aNil))))))) (aNil)))))
  (sNil))))))
def f_law : DF := runDef 23 1 none m_law
theorem bd_law (X : Facts K mg DEFS FREE CONS) : BodyOk P w K mg base cv N_law (defScope (top 38)) 24 none (defBody (top 38)) m_law := fun A E V hsc nd hr hfn hown hpass =>
    gss_cons (gs_set 1 (go_call (ok__law_box X) (ga_cons (GO.gd (go_call (ok__law_cells X) (ga_cons (gd_var 0) (ga_cons (gd_int) (ga_nil))))) (ga_cons (gd_int) (ga_nil)))))
      (gss_cons (gs_for (gi_range1 (X.free 8 "range" rfl) (ga_cons (gd_int) (ga_nil))) (gg_name 2) (gss_wipe [3, 4, 5, 6, 7, 8, 9, 10, 11, 12, 13, 14, 15, 16, 17, 19] (gss_cons (gs_set 3 (GD.go (gd_tuple (X.free 4 "tuple" rfl) (GO.gd (go_comp [("k", 11)] (by rfl) (gi_range1 (X.free 8 "range" rfl) (ga_cons (GO.gd (go_addA (gd_int) (GO.gd (go_callR 1 (ok__law_take X) (ga_cons (gd_int) (ga_nil)))))) (ga_nil))) (gg_name 11) (gts_nil) (GO.gd (go_addA (gd_int) (GO.gd (go_callR 1 (ok__law_take X) (ga_cons (gd_int) (ga_nil)))))))))))
      (gss_cons (gs_set 4 (go_addA (gd_int) (GO.gd (go_callR 1 (ok__law_take X) (ga_cons (gd_int) (ga_nil))))))
      (gss_cons (gs_set 5 (go_call (ok__law_all_words X) (ga_cons (gd_var 3) (ga_cons (gd_var 4) (ga_nil)))))
      (gss_cons (gs_if' (gt_gt (gd_lenN 5 (X.free 7 "len" rfl)) (gd_int)) (gss_cons (gs_cont)
      (gss_nil)) (gss_nil))
      (gss_wipe [] (gss_cons (gs_setComp 6 [("own", 12)] (by rfl) (gi_any (gd_var 5)) (gg_name 12) (gts_one (gt_bool (GO.gd (go_call (ok__law_less X) (ga_cons (gd_ixN 12 (gd_int)) (ga_nil)))))) (gd_var 12))
      (gss_cons (gs_set 7 (go_addA (gd_var 6) (GO.gd (go_comp [("own", 12)] (by rfl) (gi_any (gd_var 6)) (gg_name 12) (gts_one (GW.gt (gw_and (gt_eq (gd_mod (gd_ixN 12 (gd_int)) (gd_int)) (gd_int)) (gw_and1 (gt_le (GO.gd (go_mulA (gd_int) (gd_ixN 12 (gd_int)))) (gd_var 4)))))) (gd_tup (ga_cons (GO.gd (go_addA (gd_ixN 12 (gd_int)) (gd_ixN 12 (gd_int)))) (ga_cons (GO.gd (go_mulA (gd_int) (gd_ixN 12 (gd_int)))) (ga_nil))))))))
      (gss_frz 7 (gss_cons (gs_set 8 (GD.go (gd_tuple (X.free 4 "tuple" rfl) (GO.gd (go_comp [("k", 11)] (by rfl) (gi_range1 (X.free 8 "range" rfl) (ga_cons (GO.gd (go_addA (gd_var 4) (gd_int))) (ga_nil))) (gg_name 11) (gts_nil) (gd_len (X.free 7 "len" rfl) (GO.gd (go_comp [("own", 12)] (by rfl) (gi_any (gd_var 7)) (gg_name 12) (gts_one (gt_eq (gd_ixN 12 (gd_int)) (gd_var 11))) (gd_int)))))))))
      (gss_cons (gs_set 9 (go_call (ok_basic_words X) (ga_cons (GO.gd (go_call (ok__law_lists X) (ga_cons (gd_var 3) (ga_nil)))) (ga_cons (gd_var 4) (ga_nil)))))
      (gss_cons (gs_if' (gt_not (gt_bool (GO.gd (go_call (ok__law_same X) (ga_cons (GO.gd (go_lst (ga_cons (gd_var 9) (ga_cons (GO.gd (go_call (ok_free_ranks X) (ga_cons (gd_var 3) (ga_cons (gd_var 4) (ga_nil))))) (ga_cons (GO.gd (go_callK0 ["most", "degrees"] [1, 0] 0 (ok_free_ranks X) (fun _ _ _ _ _ _ us ws hl hl2 => match us, ws, hl, hl2 with | [], [_, _], _, _ => rfl) (ga_nil) (gk_cons (gd_var 4) (gk_cons (GO.gd (go_call (ok__law_lists X) (ga_cons (gd_var 3) (ga_nil)))) (gk_nil))))) (ga_nil)))))) (ga_cons (GO.gd (go_lst (ga_cons (GO.gd (go_sorted (X.free 10 "sorted" rfl) (GO.gd (go_comp [("own", 12)] (by rfl) (gi_any (gd_var 7)) (gg_name 12) (gts_nil) (gd_ixN 12 (gd_int)))))) (ga_cons (gd_var 8) (ga_cons (gd_var 8) (ga_nil)))))) (ga_nil))))))) (gss_cons (gs_ret (GD.go (gd_bl)))
      (gss_nil)) (gss_nil))
      (gss_wipe [] (gss_cons (gs_set 10 (go_addA (GO.gd (go_lst (ga_cons (gd_int) (ga_nil)))) (GO.gd (go_mulA (GO.gd (go_lst (ga_cons (gd_int) (ga_nil)))) (gd_var 4)))))
      (gss_cons (gs_for (gi_range2 (X.free 8 "range" rfl) (ga_cons (gd_int) (ga_cons (GO.gd (go_addA (gd_var 4) (gd_int))) (ga_nil)))) (gg_name 11) (gss_wipe [16, 19] (gss_cons (gs_for (gi_range1 (X.free 8 "range" rfl) (ga_cons (gd_ixN 8 (gd_var 11)) (ga_nil))) (gg_name 16) (gss_wipe [19] (gss_cons (gs_set 10 (go_if (gt_eq (gd_mod (gd_var 11) (gd_int)) (gd_int)) (go_comp [("j", 19)] (by rfl) (gi_range1 (X.free 8 "range" rfl) (ga_cons (GO.gd (go_addA (gd_var 4) (gd_int))) (ga_nil))) (gg_name 19) (gts_nil) (GO.gd (go_addA (gd_ixN 10 (gd_var 19)) (gd_if (gt_geA (gd_var 19) (gd_var 11)) (gd_ixN 10 (gd_sub (gd_var 19) (gd_var 11))) (gd_int))))) (go_var 10)))
      (gss_cons (gs_if' (gt_eq (gd_mod (gd_var 11) (gd_int)) (gd_int)) (gss_cons (gs_for (gi_range2 (X.free 8 "range" rfl) (ga_cons (gd_var 11) (ga_cons (GO.gd (go_addA (gd_var 4) (gd_int))) (ga_nil)))) (gg_name 19) (gss_wipe [] (gss_cons (gs_asg (GO.gd (go_addA (gd_ixN 10 (gd_var 19)) (gd_ixN 10 (gd_sub (gd_var 19) (gd_var 11))))) (gg_sub 10 (gd_var 19)))
      (gss_nil))))
      (gss_wipe [19] (gss_nil))) (gss_nil))
      (gss_wipe [19] (gss_nil))))))
      (gss_wipe [16, 19] (gss_nil)))))
      (gss_wipe [11, 16, 19] (gss_cons (gs_if' (gt_ne (gd_var 10) (GO.gd (go_addA (GO.gd (go_lst (ga_cons (gd_int) (ga_nil)))) (GO.gd (go_comp [("k", 11)] (by rfl) (gi_range2 (X.free 8 "range" rfl) (ga_cons (gd_int) (ga_cons (GO.gd (go_addA (gd_var 4) (gd_int))) (ga_nil)))) (gg_name 11) (gts_nil) (gd_len (X.free 7 "len" rfl) (GO.gd (go_comp [("own", 12)] (by rfl) (gi_any (gd_var 5)) (gg_name 12) (gts_one (gt_eq (gd_ixN 12 (gd_int)) (gd_var 11))) (gd_int))))))))) (gss_cons (gs_ret (GD.go (gd_bl)))
      (gss_nil)) (gss_nil))
      (gss_wipe [] (gss_cons (gs_for (gi_any (GO.gd (go_callR 1 (ok__law_pick X) (ga_cons (gd_var 9) (ga_cons (gd_int) (ga_nil)))))) (gg_name 12) (gss_wipe [11, 15, 17] (gss_cons (gs_if' (gt_gt (gd_lenN 12 (X.free 7 "len" rfl)) (gd_int)) (gss_cons (gs_set 17 (GD.go (gd_fdv (gd_lenN 12 (X.free 7 "len" rfl)) (gd_int))))
      (gss_cons (gs_set 11 (go_if (gt_bool (GO.gd (go_call (ok__law_less X) (ga_cons (gd_var 12) (ga_nil))))) (GD.go (gd_ix (GO.gd (go_comp [("k", 11)] (by rfl) (gi_range2 (X.free 8 "range" rfl) (ga_cons (gd_int) (ga_cons (gd_lenN 12 (X.free 7 "len" rfl)) (ga_nil)))) (gg_name 11) (gts_one (gt_bool (GO.gd (go_call (ok__law_less X) (ga_cons (GO.gd (go_sl (gd_var 12) (gp_some (gd_var 11)) (gp_none))) (ga_nil)))))) (gd_var 11))) (gd_int))) (GD.go (gd_var 17))))
      (gss_cons (gs_set 15 (go_lst (ga_cons (GO.gd (go_call (ok_cut_word X) (ga_cons (gd_var 3) (ga_cons (GO.gd (go_list (X.free 5 "list" rfl) (gd_var 12))) (ga_nil))))) (ga_cons (GO.gd (go_call (ok_is_basic_word X) (ga_cons (gd_var 3) (ga_cons (GO.gd (go_sl (gd_var 12) (gp_none) (gp_some (gd_var 11)))) (ga_nil))))) (ga_cons (GO.gd (go_call (ok_is_basic_word X) (ga_cons (gd_var 3) (ga_cons (GO.gd (go_sl (gd_var 12) (gp_some (gd_var 11)) (gp_none))) (ga_nil))))) (ga_nil))))))
      (gss_cons (gs_if' (gt_not (gt_bool (GO.gd (go_call (ok__law_same X) (ga_cons (gd_var 15) (ga_cons (GO.gd (go_lst (ga_cons (gd_tup (ga_cons (GO.gd (go_sl (gd_var 12) (gp_none) (gp_some (gd_var 11)))) (ga_cons (GO.gd (go_sl (gd_var 12) (gp_some (gd_var 11)) (gp_none))) (ga_nil)))) (ga_cons (gd_bl) (ga_cons (gd_bl) (ga_nil)))))) (ga_nil))))))) (gss_cons (gs_ret (GD.go (gd_bl)))
      (gss_nil)) (gss_nil))
      (gss_wipe [] (gss_nil)))))) (gss_nil))
      (gss_wipe [11, 15, 17] (gss_nil)))))
      (gss_wipe [12, 11, 15, 17] (gss_cons (gs_set 13 (go_dict (X.free 16 "dict" rfl) (GO.gd (go_comp [("own", 12)] (by rfl) (gi_any (gd_var 7)) (gg_name 12) (gts_nil) (gd_tup (ga_cons (gd_ixN 12 (gd_int)) (ga_cons (gd_bl) (ga_nil))))))))
      (gss_frz 13 (gss_cons (gs_for (gi_any (GO.gd (go_callR 1 (ok__law_pick X) (ga_cons (gd_var 5) (ga_cons (gd_int) (ga_nil)))))) (gg_tup 2 (ggs_cons (gg_name 12) (ggs_cons (gg_name 14) (ggs_nil)))) (gss_wipe [] (gss_cons (gs_if' (gt_not (gt_bool (GO.gd (go_call (ok__law_same X) (ga_cons (GO.gd (go_call (ok_is_basic_word X) (ga_cons (gd_var 3) (ga_cons (gd_var 12) (ga_nil))))) (ga_cons (gd_in (gd_var 12) (gd_var 13)) (ga_nil))))))) (gss_cons (gs_ret (GD.go (gd_bl)))
      (gss_nil)) (gss_nil))
      (gss_wipe [] (gss_nil)))))
      (gss_wipe [12, 14] (gss_cons (gs_setComp 15 [("its", 18)] (by rfl) (gi_any (gd_tup (ga_cons (gd_tup (ga_nil)) (ga_cons (gd_non) (ga_cons (gd_tup (ga_cons (gd_lenN 3 (X.free 7 "len" rfl)) (ga_nil))) (ga_cons (gd_tup (ga_cons (gd_neg (gd_int)) (ga_nil))) (ga_cons (GO.gd (go_lst (ga_cons (gd_int) (ga_nil)))) (ga_cons (gd_tup (ga_cons (gd_bl) (ga_nil))) (ga_nil))))))))) (gg_name 18) (gts_nil) (GO.gd (go_call (ok_is_basic_word X) (ga_cons (gd_var 3) (ga_cons (gd_var 18) (ga_nil))))))
      (gss_cons (gs_if' (gt_not (gt_bool (GO.gd (go_call (ok__law_same X) (ga_cons (GO.gd (go_addA (gd_var 15) (GO.gd (go_lst (ga_cons (GO.gd (go_call (ok_joined_ranks X) (ga_cons (gd_tuple (X.free 4 "tuple" rfl) (GO.gd (go_comp [("own", 12)] (by rfl) (gi_any (gd_var 3)) (gg_name 12) (gts_nil) (GO.gd (go_addA (gd_var 12) (gd_int)))))) (ga_cons (GO.gd (go_addA (gd_var 4) (gd_int))) (ga_nil))))) (ga_nil)))))) (ga_cons (GO.gd (go_addA (GO.gd (go_mulA (GO.gd (go_lst (ga_cons (gd_bl) (ga_nil)))) (gd_int))) (GO.gd (go_lst (ga_cons (GO.gd (go_addA (gd_tup (ga_cons (gd_int) (ga_nil))) (gd_var 8))) (ga_nil)))))) (ga_nil))))))) (gss_cons (gs_ret (GD.go (gd_bl)))
      (gss_nil)) (gss_nil))
      (gss_wipe [] (gss_nil)))))))))))))))))))))))))))))
      (gss_wipe [2, 3, 4, 5, 6, 7, 8, 9, 10, 11, 12, 13, 14, 15, 16, 17, 19] (gss_cons (gs_asg (gd_tup (ga_cons (GO.gd (go_addA (gd_int) (GO.gd (go_callR 1 (ok__law_take X) (ga_cons (gd_int) (ga_nil)))))) (ga_cons (GO.gd (go_addA (gd_int) (GO.gd (go_callR 1 (ok__law_take X) (ga_cons (gd_int) (ga_nil)))))) (ga_nil)))) (gg_tup 2 (ggs_cons (gg_name 20) (ggs_cons (gg_name 21) (ggs_nil)))))
      (gss_cons (gs_set 7 (GD.go (gd_fdv (gd_sum (X.free 9 "sum" rfl) (GO.gd (go_comp [("d", 22)] (by rfl) (gi_range2 (X.free 8 "range" rfl) (ga_cons (gd_int) (ga_cons (GO.gd (go_addA (gd_var 21) (gd_int))) (ga_nil)))) (gg_name 22) (gts_one (gt_eq (gd_mod (gd_var 21) (gd_var 22)) (gd_int))) (GO.gd (go_mulA (GO.gd (go_call (ok__law_moebius X) (ga_cons (gd_var 22) (ga_nil)))) (GO.gd (go_call (ok__law_power X) (ga_cons (gd_var 20) (ga_cons (gd_fdv (gd_var 21) (gd_var 22)) (ga_nil)))))))))) (gd_var 21))))
      (gss_cons (gs_ret (go_call (ok__law_same X) (ga_cons (GO.gd (go_lst (ga_cons (gd_ix (GO.gd (go_call (ok_free_ranks X) (ga_cons (GO.gd (go_mulA (gd_tup (ga_cons (gd_int) (ga_nil))) (gd_var 20))) (ga_cons (GO.gd (go_mulA (gd_int) (gd_var 21))) (ga_nil))))) (GO.gd (go_mulA (gd_int) (gd_var 21)))) (ga_cons (GO.gd (go_call (ok_free_ranks X) (ga_cons (gd_tup (ga_nil)) (ga_cons (gd_int) (ga_nil))))) (ga_cons (GO.gd (go_call (ok_joined_ranks X) (ga_cons (gd_tup (ga_nil)) (ga_cons (gd_int) (ga_nil))))) (ga_cons (GO.gd (go_call (ok_basic_words X) (ga_cons (gd_tup (ga_nil)) (ga_cons (gd_int) (ga_nil))))) (ga_nil))))))) (ga_cons (GO.gd (go_lst (ga_cons (gd_var 7) (ga_cons (gd_tup (ga_cons (gd_int) (ga_cons (gd_int) (ga_cons (gd_int) (ga_cons (gd_int) (ga_nil)))))) (ga_cons (gd_tup (ga_cons (gd_int) (ga_cons (gd_int) (ga_cons (gd_int) (ga_nil))))) (ga_cons (GO.gd (go_lst (ga_nil))) (ga_nil))))))) (ga_nil)))))
      (gss_nil))))))
theorem ok_law (X : Facts K mg DEFS FREE CONS) : DefOk P w K mg base cv "law" (top 38) 25 none ["script"] f_law := by
  obtain ⟨f, fd, F, hm⟩ := X.def_ 29 ("law", top 38) rfl
  exact def_of F hm sc_law (bd_law X) (FunD.bindsN F fun _ _ _ _ _ _ us hl => match us, hl with | [_], _ => rfl) (fun i hi => nomatch hi)
end
end L

namespace L
open PySem L2 G U
def t__law_cells (script : List Int) (most_so : Int) : R (List Int) :=
  U.bind (.ok (if (sl script none (some most_so)).isEmpty then ([0] : List Int) else (sl script none (some most_so)))) fun cells_so =>
  U.bind (forM (fun (p : Int × Int) (cells_so1 : (List Int)) =>
  U.bind (need (okMod p.1 most_so)) fun w =>
  U.bind (ix cells_so1 (p.1 % most_so)) fun v =>
  U.bind (need (okMul p.2 (p.1 + 2))) fun w1 =>
  U.bind (setIx cells_so1 (p.1 % most_so) (v + (p.2 * (p.1 + 2)))) fun cells_so2 =>
  .ok cells_so2) (enumA 0 (sl script (some most_so) (some 63))) cells_so) fun cells_so3 =>
  .ok cells_so3
theorem den__law_cells (script : List Int) (most_so : Int) (r : List Int) (h : t__law_cells script most_so = .ok r) : f__law_cells [(oD (eK eInt) script), (oD eInt most_so)] = .ok ((oL (oD eInt)) r, none) := by
  unfold t__law_cells at h
  refine run_of rfl ?_
  show Tl (m__law_cells ([some (oD (eK eInt) script), some (oD eInt most_so), none, none, none, none] : DEnv)) _
  unfold m__law_cells
  obtain ⟨cells_so, e_cells_so, h1⟩ := of_bind h
  clear h
  refine tl_seq (δ1 := ([some (oD (eK eInt) script), some (oD eInt most_so), some ((oL (oD eInt)) cells_so), none, none, none] : DEnv)) (u_set 2 (cast_ok (o := (oL (oD eInt))) (of_ok e_cells_so) (u_orL (o := oD eInt) (xs := (sl script none (some most_so))) (ys := ([0] : List Int)) (u_o1 (u_frz (u_sl (u_var 0 rfl) (u_pnone) (u_psome (u_var 1 rfl)) (fSl_K (e := eInt) _ _ _)) ((frz_L (frz_D eInt)) _)) (fList_L (e := eInt) _)) (fun _ => u_lst (u_cons (u_c _) (u_nil)) rfl (rfl : _ = (O.lst [(oD eInt 0)]))))) rfl rfl) ?_
  obtain ⟨cells_so3, h7, h8⟩ := of_bind h1
  clear h1
  refine tl_blk (tl_for (e := (eP eInt eInt)) (idx := [3, 4]) (V := [5]) (n := 6) (T := (fun p : Int × Int => [(3, (eInt p.1)), (4, (eInt p.2))])) (lit := (fun s : (List Int) => ([some (oD (eK eInt) script), some (oD eInt most_so), some ((oL (oD eInt)) s), none, none, none] : DEnv))) h7 (u_enum (e := eInt) (xs := (sl script (some most_so) (some 63))) (u_cons (u_frz (u_sl (u_var 0 rfl) (u_psome (u_var 1 rfl)) (u_psome (u_c _)) (fSl_K (e := eInt) _ _ _)) ((frz_L (frz_D eInt)) _)) (u_nil)) rfl) rfl (fun _ => rfl) (fun p => tg_tup (tgs_cons (tg_name 3 rfl) (tgs_cons (tg_name 4 rfl) (tgs_nil))) rfl) (fun _ => rfl) (by decide) ?_) ?_
  · intro p _ cells_so1 s0 h2
    refine tl_at (δ' := ([some (oD (eK eInt) script), some (oD eInt most_so), some ((oL (oD eInt)) cells_so1), some (oD eInt p.1), some (oD eInt p.2), none] : DEnv)) rfl ?_
    obtain ⟨w, e_w, h3⟩ := of_bind h2
    clear h2
    refine tl_seq (δ1 := ([some (oD (eK eInt) script), some (oD eInt most_so), some ((oL (oD eInt)) cells_so1), some (oD eInt p.1), some (oD eInt p.2), some (oD eInt (p.1 % most_so))] : DEnv)) (u_set 5 (u_dat (u_d2 (u_d1 (u_var 3 rfl) rfl) (u_var 1 rfl) (f_mod (of_need e_w)))) rfl rfl) ?_
    obtain ⟨v, e_v, h4⟩ := of_bind h3
    clear h3
    obtain ⟨w1, e_w1, h5⟩ := of_bind h4
    clear h4
    obtain ⟨cells_so2, e_cells_so2, h6⟩ := of_bind h5
    clear h5
    refine tl_seq (δ1 := ([some (oD (eK eInt) script), some (oD eInt most_so), some ((oL (oD eInt)) cells_so2), some (oD eInt p.1), some (oD eInt p.2), some (oD eInt (p.1 % most_so))] : DEnv)) (u_asg (u_frz (u_o2 (u_ixN 2 rfl (u_var 5 rfl) rfl (oAt_L (e := eInt) e_v)) (u_frz (u_o2 (u_var 4 rfl) (u_frz (u_o2 (u_var 3 rfl) (u_c _) rfl) (frz_d _)) (f_mulI (of_need e_w1))) (frz_d _)) rfl) (frz_d _)) (u_gsub 2 (e := eInt) (xs := cells_so1) (y := (v + (p.2 * (p.1 + 2)))) rfl (u_var 5 rfl) rfl e_cells_so2 rfl)) ?_
    exact tl_endL (lit := (fun s : (List Int) => ([some (oD (eK eInt) script), some (oD eInt most_so), some ((oL (oD eInt)) s), none, none, none] : DEnv))) h6 rfl
  clear h7
  refine tl_at (δ' := ([some (oD (eK eInt) script), some (oD eInt most_so), some ((oL (oD eInt)) cells_so3), none, none, none] : DEnv)) rfl ?_
  exact tl_rtF (o := (oL (oD eInt))) h8 (u_ovar 2 rfl (rfl : _ = ([some (oD (eK eInt) script), some (oD eInt most_so), none, none, none, none] : DEnv)))
def t__law_box (script : List Int) (k : Int) : R (List Int) :=
  U.bind (if (decide (k < (script.length : Int))) then (U.bind (ix script k) fun v =>
  .ok v) else (.ok 0)) fun v1 =>
  U.bind (need (okMul (if v1 < 0 then -v1 else v1) (if (decide (1000000000000000000 ≤ (if v1 < 0 then -v1 else v1))) then 1 else 0))) fun w =>
  .ok ([((if v1 < 0 then -v1 else v1) * (if (decide (1000000000000000000 ≤ (if v1 < 0 then -v1 else v1))) then 1 else 0)), (((v1 % 2305843009213693951) + (39373 * k)) + 25153), 0] : List Int)
theorem den__law_box (script : List Int) (k : Int) (r : List Int) (h : t__law_box script k = .ok r) : f__law_box [(oD (eL eInt) script), (oD eInt k)] = .ok ((oL (oD eInt)) r, none) := by
  unfold t__law_box at h
  refine run_of rfl ?_
  show Tl (m__law_box ([some (oD (eL eInt) script), some (oD eInt k), none] : DEnv)) _
  unfold m__law_box
  obtain ⟨v1, e_v1, h2⟩ := of_bind h
  clear h
  refine tl_seq (δ1 := ([some (oD (eL eInt) script), some (oD eInt k), some (oD eInt v1)] : DEnv)) (u_set 2 (u_ifM (p := ((oD eInt) v1, ([some (oD (eL eInt) script), some (oD eInt k), none] : DEnv))) e_v1 (u_bool (u_d2 (u_var 1 rfl) (u_lenN 0 rfl (oLen_dL (e := eInt) _)) rfl)) (fun _ hA => (match of_bind hA with | ⟨v, e_v, h1⟩ => u_br (p := (fun z : Int => ((oD eInt) z, ([some (oD (eL eInt) script), some (oD eInt k), none] : DEnv)))) h1 (u_dat (u_ixN 0 rfl (u_var 1 rfl) rfl (oAt_dL (e := eInt) e_v))))) (fun _ hA => u_br (p := (fun z : Int => ((oD eInt) z, ([some (oD (eL eInt) script), some (oD eInt k), none] : DEnv)))) hA (u_dat (u_c _)))) rfl rfl) ?_
  obtain ⟨w, e_w, h3⟩ := of_bind h2
  clear h2
  exact tl_rtF (o := (oL (oD eInt))) h3 (u_lst (u_cons (u_frz (u_o2 (u_d1 (u_var 2 rfl) rfl) (u_d1 (u_d2 (u_d1 (u_var 2 rfl) rfl) (u_d2 (u_c _) (u_c _) (show _ = R.ok (D.int 1000000000000000000) from rfl)) rfl) (show _ = R.ok (D.int (if (decide (1000000000000000000 ≤ (if v1 < 0 then -v1 else v1))) then 1 else 0)) from rfl)) (f_mulI (of_need e_w))) (frz_d _)) (u_cons (u_frz (u_o2 (u_frz (u_o2 (u_d2 (u_d1 (u_var 2 rfl) rfl) (u_c _) (f_mod rfl)) (u_frz (u_o2 (u_c _) (u_var 1 rfl) (f_mulI (f_mulL rfl))) (frz_d _)) rfl) (frz_d _)) (u_c _) rfl) (frz_d _)) (u_cons (u_c _) (u_nil)))) rfl (rfl : _ = (O.lst [(oD eInt ((if v1 < 0 then -v1 else v1) * (if (decide (1000000000000000000 ≤ (if v1 < 0 then -v1 else v1))) then 1 else 0))), (oD eInt (((v1 % 2305843009213693951) + (39373 * k)) + 25153)), (oD eInt 0)])))
def t__law_take (tin : List Int) (below_so : Int) : R (Int × (List Int)) :=
  U.bind (ix tin 0) fun v =>
  if (decide (0 < v)) then
  U.bind (ix tin 0) fun v1 =>
  U.bind (need (okMod v1 below_so)) fun w =>
  U.bind (ix tin 0) fun v2 =>
  U.bind (need (okDiv v2 below_so)) fun w1 =>
  U.bind (setIx tin 0 (v2 / below_so)) fun tin1 =>
  .ok ((v1 % below_so), tin1)
  else
  U.bind (ix tin 2) fun v3 =>
  U.bind (setIx tin 2 (v3 + 1)) fun tin2 =>
  U.bind (ix tin2 1) fun v4 =>
  U.bind (ix tin2 2) fun v5 =>
  U.bind (ix tin2 2) fun v6 =>
  U.bind (need (okMul (v4 + (48271 * v5)) (39373 + v6))) fun w2 =>
  U.bind (.ok (((v4 + (48271 * v5)) * (39373 + v6)) % 2147483647)) fun once_so =>
  U.bind (ix tin2 2) fun v7 =>
  U.bind (ix tin2 1) fun v8 =>
  U.bind (need (okMul ((once_so + v7) + (v8 / 1000003)) ((once_so % 40009) + 7))) fun w3 =>
  U.bind (.ok ((((once_so + v7) + (v8 / 1000003)) * ((once_so % 40009) + 7)) % 2147483629)) fun twice_so =>
  U.bind (need (okMod ((((twice_so * 48271) + once_so) % 2147483587) / 64) below_so)) fun w4 =>
  .ok ((((((twice_so * 48271) + once_so) % 2147483587) / 64) % below_so), tin2)
theorem den__law_take (tin : List Int) (below_so : Int) (r : Int × (List Int)) (h : t__law_take tin below_so = .ok r) : f__law_take [((oL (oD eInt)) tin), (oD eInt below_so)] = .ok ((oD eInt) r.1, some ((oL (oD eInt)) r.2)) := by
  unfold t__law_take at h
  refine run_ofR rfl ?_
  show Tl (m__law_take ([some ((oL (oD eInt)) tin), some (oD eInt below_so), none, none, none, none] : DEnv)) _
  unfold m__law_take
  obtain ⟨v, e_v, h1⟩ := of_bind h
  clear h
  rcases of_ite h1 with ⟨hc, h2⟩ | ⟨hc, h2⟩ <;> clear h1
  · refine tl_ifT2 (u_bool (u_d2 (u_ixN 0 rfl (u_c _) rfl (oAt_L (e := eInt) e_v)) (u_c _) rfl)) hc ?_
    clear hc
    obtain ⟨v1, e_v1, h3⟩ := of_bind h2
    clear h2
    obtain ⟨w, e_w, h4⟩ := of_bind h3
    clear h3
    refine tl_assoc ?_
    refine tl_seq (δ1 := ([some ((oL (oD eInt)) tin), some (oD eInt below_so), some (oD eInt (v1 % below_so)), none, none, none] : DEnv)) (u_set 2 (u_dat (u_d2 (u_d1 (u_ixN 0 rfl (u_c _) rfl (oAt_L (e := eInt) e_v1)) rfl) (u_var 1 rfl) (f_mod (of_need e_w)))) rfl rfl) ?_
    obtain ⟨v2, e_v2, h5⟩ := of_bind h4
    clear h4
    obtain ⟨w1, e_w1, h6⟩ := of_bind h5
    clear h5
    obtain ⟨tin1, e_tin1, h7⟩ := of_bind h6
    clear h6
    refine tl_assoc ?_
    refine tl_seq (δ1 := ([some ((oL (oD eInt)) tin1), some (oD eInt below_so), some (oD eInt (v1 % below_so)), none, none, none] : DEnv)) (u_asg (u_d2 (u_ixN 0 rfl (u_c _) rfl (oAt_L (e := eInt) e_v2)) (u_var 1 rfl) (f_div (of_need e_w1))) (u_gsub 0 (e := eInt) (xs := tin) (y := (v2 / below_so)) rfl (u_c _) rfl e_tin1 rfl)) ?_
    refine tl_assoc ?_
    exact tl_rtFR (o := (oD eInt)) (o' := (oL (oD eInt))) h7 (u_ovar 2 rfl (rfl : _ = ([some ((oL (oD eInt)) tin1), some (oD eInt below_so), none, none, none, none] : DEnv))) rfl
  · refine tl_ifF2 (u_bool (u_d2 (u_ixN 0 rfl (u_c _) rfl (oAt_L (e := eInt) e_v)) (u_c _) rfl)) hc ?_
    clear hc
    refine tl_nil ?_
    refine tl_wipe ?_
    obtain ⟨v3, e_v3, h8⟩ := of_bind h2
    clear h2
    obtain ⟨tin2, e_tin2, h9⟩ := of_bind h8
    clear h8
    refine tl_seq (δ1 := ([some ((oL (oD eInt)) tin2), some (oD eInt below_so), none, none, none, none] : DEnv)) (u_asg (u_frz (u_o2 (u_ixN 0 rfl (u_c _) rfl (oAt_L (e := eInt) e_v3)) (u_c _) rfl) (frz_d _)) (u_gsub 0 (e := eInt) (xs := tin) (y := (v3 + 1)) rfl (u_c _) rfl e_tin2 rfl)) ?_
    obtain ⟨v4, e_v4, h10⟩ := of_bind h9
    clear h9
    obtain ⟨v5, e_v5, h11⟩ := of_bind h10
    clear h10
    obtain ⟨v6, e_v6, h12⟩ := of_bind h11
    clear h11
    obtain ⟨w2, e_w2, h13⟩ := of_bind h12
    clear h12
    obtain ⟨once_so, e_once_so, h14⟩ := of_bind h13
    clear h13
    refine tl_seq (δ1 := ([some ((oL (oD eInt)) tin2), some (oD eInt below_so), none, some (oD eInt once_so), none, none] : DEnv)) (u_set 3 (cast_ok (o := (oD eInt)) (of_ok e_once_so) (u_dat (u_d2 (u_d1 (u_frz (u_o2 (u_frz (u_o2 (u_ixN 0 rfl (u_c _) rfl (oAt_L (e := eInt) e_v4)) (u_frz (u_o2 (u_c _) (u_ixN 0 rfl (u_c _) rfl (oAt_L (e := eInt) e_v5)) (f_mulI (f_mulL rfl))) (frz_d _)) rfl) (frz_d _)) (u_frz (u_o2 (u_c _) (u_ixN 0 rfl (u_c _) rfl (oAt_L (e := eInt) e_v6)) rfl) (frz_d _)) (f_mulI (of_need e_w2))) (frz_d _)) rfl) (u_c _) (f_mod rfl)))) rfl rfl) ?_
    refine tl_seq (δ1 := ([some ((oL (oD eInt)) tin2), some (oD eInt below_so), none, some (oD eInt once_so), some (oD eInt ((once_so % 40009) + 7)), none] : DEnv)) (u_set 4 (u_o2 (u_d2 (u_d1 (u_var 3 rfl) rfl) (u_c _) (f_mod rfl)) (u_c _) rfl) rfl rfl) ?_
    obtain ⟨v7, e_v7, h15⟩ := of_bind h14
    clear h14
    obtain ⟨v8, e_v8, h16⟩ := of_bind h15
    clear h15
    obtain ⟨w3, e_w3, h17⟩ := of_bind h16
    clear h16
    obtain ⟨twice_so, e_twice_so, h18⟩ := of_bind h17
    clear h17
    refine tl_seq (δ1 := ([some ((oL (oD eInt)) tin2), some (oD eInt below_so), none, some (oD eInt once_so), some (oD eInt ((once_so % 40009) + 7)), some (oD eInt twice_so)] : DEnv)) (u_set 5 (cast_ok (o := (oD eInt)) (of_ok e_twice_so) (u_dat (u_d2 (u_d1 (u_frz (u_o2 (u_frz (u_o2 (u_frz (u_o2 (u_var 3 rfl) (u_ixN 0 rfl (u_c _) rfl (oAt_L (e := eInt) e_v7)) rfl) (frz_d _)) (u_d2 (u_ixN 0 rfl (u_c _) rfl (oAt_L (e := eInt) e_v8)) (u_c _) (f_div rfl)) rfl) (frz_d _)) (u_var 4 rfl) (f_mulI (of_need e_w3))) (frz_d _)) rfl) (u_c _) (f_mod rfl)))) rfl rfl) ?_
    obtain ⟨w4, e_w4, h19⟩ := of_bind h18
    clear h18
    exact tl_rtFR (o := (oD eInt)) (o' := (oL (oD eInt))) h19 (u_dat (u_d2 (u_d1 (u_d2 (u_d2 (u_d1 (u_frz (u_o2 (u_frz (u_o2 (u_var 5 rfl) (u_c _) (f_mulI (f_mulR rfl))) (frz_d _)) (u_var 3 rfl) rfl) (frz_d _)) rfl) (u_c _) (f_mod rfl)) (u_c _) (f_div rfl)) rfl) (u_var 1 rfl) (f_mod (of_need e_w4)))) rfl
def t__law_flat (rows_so : List (List ((List Int) × Int))) : R (List ((List Int) × Int)) :=
  U.bind (forM (fun (own : List ((List Int) × Int)) (found : (List ((List Int) × Int))) =>
  U.bind (need (Nat.ble (found.length + own.length) 16777216)) fun w =>
  .ok (found ++ own)) rows_so ([] : List ((List Int) × Int))) fun found1 =>
  .ok found1
theorem den__law_flat (rows_so : List (List ((List Int) × Int))) (r : List ((List Int) × Int)) (h : t__law_flat rows_so = .ok r) : f__law_flat [(oD (eL (eL (eP (eT eInt) eInt))) rows_so)] = .ok ((oL (oD (eP (eT eInt) eInt))) r, none) := by
  unfold t__law_flat at h
  refine run_of rfl ?_
  show Tl (m__law_flat ([some (oD (eL (eL (eP (eT eInt) eInt))) rows_so), none, none] : DEnv)) _
  unfold m__law_flat
  refine tl_seq (δ1 := ([some (oD (eL (eL (eP (eT eInt) eInt))) rows_so), some (O.lst []), none] : DEnv)) (u_set 1 (u_lst (u_nil) rfl (rfl : _ = (O.lst []))) rfl rfl) ?_
  obtain ⟨found1, h5, h6⟩ := of_bind h
  clear h
  refine tl_blk (tl_for (e := (eL (eP (eT eInt) eInt))) (idx := [2]) (V := []) (n := 3) (T := (fun own : List ((List Int) × Int) => [(2, ((eL (eP (eT eInt) eInt)) own))])) (lit := (fun s : (List ((List Int) × Int)) => ([some (oD (eL (eL (eP (eT eInt) eInt))) rows_so), some ((oL (oD (eP (eT eInt) eInt))) s), none] : DEnv))) h5 (u_items (u_var 0 rfl) rfl) rfl (fun _ => rfl) (fun own => tg_name 2 rfl) (fun _ => rfl) (by decide) ?_) ?_
  · intro own _ found s0 h3
    refine tl_at (δ' := ([some (oD (eL (eL (eP (eT eInt) eInt))) rows_so), some ((oL (oD (eP (eT eInt) eInt))) found), some (oD (eL (eP (eT eInt) eInt)) own)] : DEnv)) rfl ?_
    obtain ⟨w, e_w, h4⟩ := of_bind h3
    clear h3
    refine tl_seq (δ1 := ([some (oD (eL (eL (eP (eT eInt) eInt))) rows_so), some ((oL (oD (eP (eT eInt) eInt))) (found ++ own)), some (oD (eL (eP (eT eInt) eInt)) own)] : DEnv)) (u_extend 1 (e := (eP (eT eInt) eInt)) (xs := found) (ys := own) rfl (u_var 2 rfl) rfl (of_need e_w) rfl) ?_
    exact tl_endL (lit := (fun s : (List ((List Int) × Int)) => ([some (oD (eL (eL (eP (eT eInt) eInt))) rows_so), some ((oL (oD (eP (eT eInt) eInt))) s), none] : DEnv))) h4 rfl
  clear h5
  refine tl_at (δ' := ([some (oD (eL (eL (eP (eT eInt) eInt))) rows_so), some ((oL (oD (eP (eT eInt) eInt))) found1), none] : DEnv)) rfl ?_
  exact tl_rtF (o := (oL (oD (eP (eT eInt) eInt)))) h6 (u_ovar 1 rfl (rfl : _ = ([some (oD (eL (eL (eP (eT eInt) eInt))) rows_so), none, none] : DEnv)))
def t__law_all_words (degrees_so : List Int) (most_so : Int) : R (List ((List Int) × Int)) :=
  U.bind (rng1 most_so) fun v =>
  U.bind (forM (fun (lap : Int) (st : (List ((List Int) × Int)) × (List ((List Int) × Int))) =>
  (match st with
  | (rows_so, found) =>
  U.bind (chk rows_so.length) fun w1 =>
  U.bind (mapM (fun p : (List Int) × Int => U.bind (chk (enumA 0 degrees_so).length) fun w =>
  U.bind (compM (fun p1 : Int × Int => .ok (decide ((p.2 + p1.2) ≤ most_so))) (fun p1 : Int × Int => U.bind (cat p.1 ([p1.1] : List Int)) fun v1 =>
  .ok (v1, (p.2 + p1.2))) (enumA 0 degrees_so)) fun v2 =>
  .ok v2) rows_so) fun v3 =>
  U.bind (t__law_flat v3) fun v4 =>
  U.bind (need (Nat.ble (found.length + v4.length) 16777216)) fun w2 =>
  .ok (v4, (found ++ v4)))) v (([(([] : List Int), 0)] : List ((List Int) × Int)), ([] : List ((List Int) × Int)))) fun (rows_so1, found1) =>
  .ok found1
theorem den__law_all_words (degrees_so : List Int) (most_so : Int) (r : List ((List Int) × Int)) (h : t__law_all_words degrees_so most_so = .ok r) : f__law_all_words [(oD (eT eInt) degrees_so), (oD eInt most_so)] = .ok ((oL (oD (eP (eT eInt) eInt))) r, none) := by
  unfold t__law_all_words at h
  refine run_of rfl ?_
  show Tl (m__law_all_words ([some (oD (eT eInt) degrees_so), some (oD eInt most_so), none, none, none, none, none, none, none] : DEnv)) _
  unfold m__law_all_words
  refine tl_seq (δ1 := ([some (oD (eT eInt) degrees_so), some (oD eInt most_so), some (O.lst [(O.d ((eP (fun p : Unit => D.tup []) eInt) ((), 0)))]), some (O.lst []), none, none, none, none, none] : DEnv)) (u_par 2 3 (u_ocons (u_lst (u_cons (u_tup (u_cons (u_tup (u_nil) rfl) (u_cons (u_c _) (u_nil))) rfl) (u_nil)) rfl (rfl : _ = (O.lst [(O.d ((eP (fun p : Unit => D.tup []) eInt) ((), 0)))]))) (u_ocons (u_lst (u_nil) rfl (rfl : _ = (O.lst []))) u_onil)) rfl rfl) ?_
  refine tl_frz rfl (frz_lit [((eP (fun p : Unit => D.tup []) eInt) ((), 0))]) ?_
  obtain ⟨v, e_v, h10⟩ := of_bind h
  clear h
  obtain ⟨⟨rows_so1, found1⟩, h19, h20⟩ := of_bind h10
  clear h10
  dsimp only at h20
  refine tl_blk (tl_for (e := eInt) (idx := [4]) (V := []) (n := 9) (T := (fun lap : Int => [(4, (eInt lap))])) (lit := (fun s : (List ((List Int) × Int)) × (List ((List Int) × Int)) => ([some (oD (eT eInt) degrees_so), some (oD eInt most_so), some (oD (eL (eP (eT eInt) eInt)) s.1), some ((oL (oD (eP (eT eInt) eInt))) s.2), none, none, none, none, none] : DEnv))) h19 (u_rng1 (u_cons (u_var 1 rfl) (u_nil)) e_v) rfl (fun _ => rfl) (fun lap => tg_name 4 rfl) (fun _ => rfl) (by decide) ?_) ?_
  · rintro lap _ ⟨rows_so, found⟩ s0 h11
    dsimp only at h11
    refine tl_at (δ' := ([some (oD (eT eInt) degrees_so), some (oD eInt most_so), some (oD (eL (eP (eT eInt) eInt)) rows_so), some ((oL (oD (eP (eT eInt) eInt))) found), some (oD eInt lap), none, none, none, none] : DEnv)) rfl ?_
    obtain ⟨w1, e_w1, h15⟩ := of_bind h11
    clear h11
    obtain ⟨v3, e_v3, h16⟩ := of_bind h15
    clear h15
    obtain ⟨v4, e_v4, h17⟩ := of_bind h16
    clear h16
    refine tl_seq (δ1 := ([some (oD (eT eInt) degrees_so), some (oD eInt most_so), some ((oL (oD (eP (eT eInt) eInt))) v4), some ((oL (oD (eP (eT eInt) eInt))) found), some (oD eInt lap), none, none, none, none] : DEnv)) (u_set 2 (u_call (xs := [(eL (eL (eP (eT eInt) eInt))) v3]) (u_cons (u_frz (u_compMA (e := (eP (eT eInt) eInt)) (e2 := (eL (eP (eT eInt) eInt))) (T := (fun p => [(5, ((eT eInt) p.1)), (6, (eInt p.2))])) (δw := ([some (oD (eT eInt) degrees_so), some (oD eInt most_so), some (oD (eL (eP (eT eInt) eInt)) rows_so), some ((oL (oD (eP (eT eInt) eInt))) found), some (oD eInt lap), none, none, none, none] : DEnv)) (n := 9) (vs := [5, 6]) (f := (fun p : (List Int) × Int => U.bind (chk (enumA 0 degrees_so).length) fun w =>
  U.bind (compM (fun p1 : Int × Int => .ok (decide ((p.2 + p1.2) ≤ most_so))) (fun p1 : Int × Int => U.bind (cat p.1 ([p1.1] : List Int)) fun v1 =>
  .ok (v1, (p.2 + p1.2))) (enumA 0 degrees_so)) fun v2 =>
  .ok v2)) e_v3 (u_items (u_var 2 rfl) rfl) (of_chk e_w1) rfl rfl (fun p => tg_tup (tgs_cons (tg_name 5 rfl) (tgs_cons (tg_name 6 rfl) (tgs_nil))) rfl) (fun _ => rfl) (fun p _ y1 hA => u_at (δ' := ([some (oD (eT eInt) degrees_so), some (oD eInt most_so), some (oD (eL (eP (eT eInt) eInt)) rows_so), some ((oL (oD (eP (eT eInt) eInt))) found), some (oD eInt lap), some (oD (eT eInt) p.1), some (oD eInt p.2), none, none] : DEnv)) rfl ((match of_bind hA with | ⟨w, e_w, h13⟩ => (match of_bind h13 with | ⟨v2, e_v2, h14⟩ => u_br (p := fun z : List ((List Int) × Int) => ((eL (eP (eT eInt) eInt)) z, ([some (oD (eT eInt) degrees_so), some (oD eInt most_so), some (oD (eL (eP (eT eInt) eInt)) rows_so), some ((oL (oD (eP (eT eInt) eInt))) found), some (oD eInt lap), some (oD (eT eInt) p.1), some (oD eInt p.2), none, none] : DEnv))) h14 (u_frz (u_compM (e := (eP eInt eInt)) (e2 := (eP (eT eInt) eInt)) (T := (fun p1 => [(7, (eInt p1.1)), (8, (eInt p1.2))])) (δw := ([some (oD (eT eInt) degrees_so), some (oD eInt most_so), some (oD (eL (eP (eT eInt) eInt)) rows_so), some ((oL (oD (eP (eT eInt) eInt))) found), some (oD eInt lap), some (oD (eT eInt) p.1), some (oD eInt p.2), none, none] : DEnv)) (n := 9) (vs := [7, 8]) (p := (fun p1 : Int × Int => .ok (decide ((p.2 + p1.2) ≤ most_so)))) (f := (fun p1 : Int × Int => U.bind (cat p.1 ([p1.1] : List Int)) fun v1 =>
  .ok (v1, (p.2 + p1.2)))) e_v2 (u_enum (e := eInt) (xs := degrees_so) (u_cons (u_var 0 rfl) (u_nil)) rfl) (of_chk e_w) rfl rfl (fun p1 => tg_tup (tgs_cons (tg_name 7 rfl) (tgs_cons (tg_name 8 rfl) (tgs_nil))) rfl) (fun _ => rfl) (fun p1 _ _ hA => u_at (δ' := ([some (oD (eT eInt) degrees_so), some (oD eInt most_so), some (oD (eL (eP (eT eInt) eInt)) rows_so), some ((oL (oD (eP (eT eInt) eInt))) found), some (oD eInt lap), some (oD (eT eInt) p.1), some (oD eInt p.2), some (oD eInt p1.1), some (oD eInt p1.2)] : DEnv)) rfl (u_br (p := fun z : Bool => (z, ([some (oD (eT eInt) degrees_so), some (oD eInt most_so), some (oD (eL (eP (eT eInt) eInt)) rows_so), some ((oL (oD (eP (eT eInt) eInt))) found), some (oD eInt lap), some (oD (eT eInt) p.1), some (oD eInt p.2), some (oD eInt p1.1), some (oD eInt p1.2)] : DEnv))) hA (u_bool (u_d2 (u_frz (u_o2 (u_var 6 rfl) (u_var 8 rfl) rfl) (frz_d _)) (u_var 1 rfl) rfl)))) (fun p1 _ _ y hA => u_at (δ' := ([some (oD (eT eInt) degrees_so), some (oD eInt most_so), some (oD (eL (eP (eT eInt) eInt)) rows_so), some ((oL (oD (eP (eT eInt) eInt))) found), some (oD eInt lap), some (oD (eT eInt) p.1), some (oD eInt p.2), some (oD eInt p1.1), some (oD eInt p1.2)] : DEnv)) rfl ((match of_bind hA with | ⟨v1, e_v1, h12⟩ => u_br (p := fun z : (List Int) × Int => ((eP (eT eInt) eInt) z, ([some (oD (eT eInt) degrees_so), some (oD eInt most_so), some (oD (eL (eP (eT eInt) eInt)) rows_so), some ((oL (oD (eP (eT eInt) eInt))) found), some (oD eInt lap), some (oD (eT eInt) p.1), some (oD eInt p.2), some (oD eInt p1.1), some (oD eInt p1.2)] : DEnv))) h12 (u_tup (u_cons (u_frz (u_o2 (u_var 5 rfl) (u_tup (u_cons (u_var 7 rfl) (u_nil)) rfl) (fAdd_T (e := eInt) e_v1)) (frz_d _)) (u_cons (u_frz (u_o2 (u_var 6 rfl) (u_var 8 rfl) rfl) (frz_d _)) (u_nil))) rfl)))) (rfl : _ = ([some (oD (eT eInt) degrees_so), some (oD eInt most_so), some (oD (eL (eP (eT eInt) eInt)) rows_so), some ((oL (oD (eP (eT eInt) eInt))) found), some (oD eInt lap), some (oD (eT eInt) p.1), some (oD eInt p.2), none, none] : DEnv))) ((frz_L (frz_D (eP (eT eInt) eInt))) _)))))) (rfl : _ = ([some (oD (eT eInt) degrees_so), some (oD eInt most_so), some (oD (eL (eP (eT eInt) eInt)) rows_so), some ((oL (oD (eP (eT eInt) eInt))) found), some (oD eInt lap), none, none, none, none] : DEnv))) ((frz_L (frz_D (eL (eP (eT eInt) eInt)))) _)) (u_nil)) (den__law_flat v3 _ e_v4)) rfl rfl) ?_
    obtain ⟨w2, e_w2, h18⟩ := of_bind h17
    clear h17
    refine tl_seq (δ1 := ([some (oD (eT eInt) degrees_so), some (oD eInt most_so), some (oD (eL (eP (eT eInt) eInt)) v4), some ((oL (oD (eP (eT eInt) eInt))) (found ++ v4)), some (oD eInt lap), none, none, none, none] : DEnv)) (u_extend 3 (e := (eP (eT eInt) eInt)) (xs := found) (ys := v4) rfl (u_varL 2 rfl ((frz_L (frz_D (eP (eT eInt) eInt))) _) (rfl : _ = ([some (oD (eT eInt) degrees_so), some (oD eInt most_so), some (oD (eL (eP (eT eInt) eInt)) v4), some ((oL (oD (eP (eT eInt) eInt))) found), some (oD eInt lap), none, none, none, none] : DEnv))) rfl (of_need e_w2) rfl) ?_
    exact tl_endL (lit := (fun s : (List ((List Int) × Int)) × (List ((List Int) × Int)) => ([some (oD (eT eInt) degrees_so), some (oD eInt most_so), some (oD (eL (eP (eT eInt) eInt)) s.1), some ((oL (oD (eP (eT eInt) eInt))) s.2), none, none, none, none, none] : DEnv))) h18 rfl
  clear h19
  refine tl_at (δ' := ([some (oD (eT eInt) degrees_so), some (oD eInt most_so), some (oD (eL (eP (eT eInt) eInt)) rows_so1), some ((oL (oD (eP (eT eInt) eInt))) found1), none, none, none, none, none] : DEnv)) rfl ?_
  exact tl_rtF (o := (oL (oD (eP (eT eInt) eInt)))) h20 (u_ovar 3 rfl (rfl : _ = ([some (oD (eT eInt) degrees_so), some (oD eInt most_so), some (oD (eL (eP (eT eInt) eInt)) rows_so1), none, none, none, none, none, none] : DEnv)))
def t__law_less (word_so : List Int) : R Bool :=
  U.bind (rng2 1 (word_so.length : Int)) fun v =>
  U.bind (chk v.length) fun w =>
  .ok (decide ((v.filter (fun k : Int => (lexGeI word_so (sl word_so (some k) none)))) = ([] : List Int)))
theorem den__law_less (word_so : List Int) (r : Bool) (h : t__law_less word_so = .ok r) : f__law_less [(oD (eT eInt) word_so)] = .ok ((oD eBl) r, none) := by
  unfold t__law_less at h
  refine run_of rfl ?_
  show Tl (m__law_less ([some (oD (eT eInt) word_so), none] : DEnv)) _
  unfold m__law_less
  obtain ⟨v, e_v, h1⟩ := of_bind h
  clear h
  obtain ⟨w, e_w, h2⟩ := of_bind h1
  clear h1
  exact tl_rtF (o := (oD eBl)) h2 (u_dat (u_d2 (u_frz (cast_ok (o := oL (oD eInt)) (List.map_id' (v.filter (fun k : Int => (lexGeI word_so (sl word_so (some k) none))))) (u_comp (e := eInt) (e2 := eInt) (T := (fun k => [(1, (eInt k))])) (δw := ([some (oD (eT eInt) word_so), none] : DEnv)) (n := 2) (vs := [1]) (p := (fun k : Int => (lexGeI word_so (sl word_so (some k) none)))) (f := (fun k : Int => k)) (u_rng2 (u_cons (u_c _) (u_cons (u_lenN 0 rfl (oLen_T (e := eInt) _)) (u_nil))) e_v) (of_chk e_w) rfl rfl (fun k => tg_name 1 rfl) (fun _ => rfl) (fun k _ => u_at (δ' := ([some (oD (eT eInt) word_so), some (oD eInt k)] : DEnv)) rfl (u_bool (u_d2 (u_var 0 rfl) (u_frz (u_sl (u_var 0 rfl) (u_psome (u_var 1 rfl)) (u_pnone) (fSl_T (e := eInt) _ _ _)) (frz_d _)) (fGe_T word_so (sl word_so (some k) none))))) (fun k _ _ => u_at (δ' := ([some (oD (eT eInt) word_so), some (oD eInt k)] : DEnv)) rfl (u_var 1 rfl)) (rfl : _ = ([some (oD (eT eInt) word_so), none] : DEnv)))) ((frz_L (frz_D eInt)) _)) (u_frz (u_lst (u_nil) rfl (rfl : _ = (O.lst []))) (frz_lit [])) (f_eq (eq_L eq_int) rfl (v.filter (fun k : Int => (lexGeI word_so (sl word_so (some k) none)))) ([] : List Int))))
def t__law_lists_2 (matter : Int) : R Int :=
  .ok matter
theorem den__law_lists_2 (fu : Nat) (matter : Int) (r : Int) (h : t__law_lists_2 matter = .ok r) : f__law_lists (fu + 1) [(oD eInt matter)] = .ok ((oD eInt) r, none) := by
  unfold t__law_lists_2 at h
  refine run_of rfl ?_
  show Tl (m__law_lists (f__law_lists (fu + 0)) ([some (oD eInt matter), none] : DEnv)) _
  unfold m__law_lists
  exact tl_rtF (o := (oD eInt)) h (u_ifF (u_bool (u_d1 (u_var 0 rfl) (show _ = R.ok (D.bl false) from rfl))) (u_dat (u_var 0 rfl)))
def t__law_lists (matter : List Int) : R (List Int) :=
  U.bind (chk matter.length) fun w =>
  U.bind (mapM (fun bit : Int => U.bind (t__law_lists_2 bit) fun v =>
  .ok v) matter) fun v1 =>
  .ok v1
theorem den__law_lists (fu : Nat) (matter : List Int) (r : List Int) (h : t__law_lists matter = .ok r) : f__law_lists (fu + 2) [(oD (eT eInt) matter)] = .ok ((oL (oD eInt)) r, none) := by
  unfold t__law_lists at h
  refine run_of rfl ?_
  show Tl (m__law_lists (f__law_lists (fu + 1)) ([some (oD (eT eInt) matter), none] : DEnv)) _
  unfold m__law_lists
  obtain ⟨w, e_w, h2⟩ := of_bind h
  clear h
  obtain ⟨v1, e_v1, h3⟩ := of_bind h2
  clear h2
  exact tl_rtF (o := (oL (oD eInt))) h3 (u_ifT (u_bool (u_d1 (u_var 0 rfl) (show _ = R.ok (D.bl true) from rfl))) (u_compMA (e := eInt) (e2 := eInt) (T := (fun bit => [(1, (eInt bit))])) (δw := ([some (oD (eT eInt) matter), none] : DEnv)) (n := 2) (vs := [1]) (f := (fun bit : Int => U.bind (t__law_lists_2 bit) fun v =>
  .ok v)) e_v1 (u_items (u_var 0 rfl) rfl) (of_chk e_w) rfl rfl (fun bit => tg_name 1 rfl) (fun _ => rfl) (fun bit _ y hA => u_at (δ' := ([some (oD (eT eInt) matter), some (oD eInt bit)] : DEnv)) rfl ((match of_bind hA with | ⟨v, e_v, h1⟩ => u_br (p := fun z : Int => (eInt z, ([some (oD (eT eInt) matter), some (oD eInt bit)] : DEnv))) h1 (u_frz (u_call (xs := [eInt bit]) (u_cons (u_var 1 rfl) (u_nil)) (den__law_lists_2 (fu + 0) bit _ e_v)) (frz_d _))))) (rfl : _ = ([some (oD (eT eInt) matter), none] : DEnv))))
def t_tupled_2 (value : Int) : R Int :=
  .ok value
theorem den_tupled_2 (fu : Nat) (value : Int) (r : Int) (h : t_tupled_2 value = .ok r) : f_tupled (fu + 1) [(oD eInt value)] = .ok ((oD eInt) r, none) := by
  unfold t_tupled_2 at h
  refine run_of rfl ?_
  show Tl (m_tupled (f_tupled (fu + 0)) ([some (oD eInt value), none] : DEnv)) _
  unfold m_tupled
  exact tl_rtF (o := (oD eInt)) h (u_ifF (u_bool (u_d1 (u_var 0 rfl) (show _ = R.ok (D.bl false) from rfl))) (u_dat (u_var 0 rfl)))
def t_tupled (value : List Int) : R (List Int) :=
  U.bind (chk value.length) fun w =>
  U.bind (mapM (fun own : Int => U.bind (t_tupled_2 own) fun v =>
  .ok v) value) fun v1 =>
  .ok v1
theorem den_tupled (fu : Nat) (value : List Int) (r : List Int) (h : t_tupled value = .ok r) : f_tupled (fu + 2) [(oD (eL eInt) value)] = .ok ((oD (eT eInt)) r, none) := by
  unfold t_tupled at h
  refine run_of rfl ?_
  show Tl (m_tupled (f_tupled (fu + 1)) ([some (oD (eL eInt) value), none] : DEnv)) _
  unfold m_tupled
  obtain ⟨w, e_w, h2⟩ := of_bind h
  clear h
  obtain ⟨v1, e_v1, h3⟩ := of_bind h2
  clear h2
  exact tl_rtF (o := (oD (eT eInt))) h3 (u_ifT (u_bool (u_d1 (u_var 0 rfl) (show _ = R.ok (D.bl true) from rfl))) (u_dat (u_d1 (u_frz (u_compMA (e := eInt) (e2 := eInt) (T := (fun own => [(1, (eInt own))])) (δw := ([some (oD (eL eInt) value), none] : DEnv)) (n := 2) (vs := [1]) (f := (fun own : Int => U.bind (t_tupled_2 own) fun v =>
  .ok v)) e_v1 (u_items (u_var 0 rfl) rfl) (of_chk e_w) rfl rfl (fun own => tg_name 1 rfl) (fun _ => rfl) (fun own _ y hA => u_at (δ' := ([some (oD (eL eInt) value), some (oD eInt own)] : DEnv)) rfl ((match of_bind hA with | ⟨v, e_v, h1⟩ => u_br (p := fun z : Int => (eInt z, ([some (oD (eL eInt) value), some (oD eInt own)] : DEnv))) h1 (u_frz (u_call (xs := [eInt own]) (u_cons (u_var 1 rfl) (u_nil)) (den_tupled_2 (fu + 0) own _ e_v)) (frz_d _))))) (rfl : _ = ([some (oD (eL eInt) value), none] : DEnv))) ((frz_L (frz_D eInt)) _)) (show _ = R.ok (eT eInt v1) from rfl))))
def t_is_number (thing : Int) : R Bool :=
  .ok true
theorem den_is_number (thing : Int) (r : Bool) (h : t_is_number thing = .ok r) : f_is_number [(oD eInt thing)] = .ok ((oD eBl) r, none) := by
  unfold t_is_number at h
  refine run_of rfl ?_
  show Tl (m_is_number ([some (oD eInt thing)] : DEnv)) _
  unfold m_is_number
  exact tl_rtF (o := (oD eBl)) h (u_dat (u_andV1 (u_d1 (u_var 0 rfl) (show _ = R.ok (D.bl true) from rfl)) (u_d1 (u_d1 (u_var 0 rfl) (show _ = R.ok (D.bl false) from rfl)) rfl)))
def t_are_numbers (thing : List Int) : R Bool :=
  U.bind (chk thing.length) fun w =>
  .ok ((thing.map (fun own : Int => true)).all id)
theorem den_are_numbers (thing : List Int) (r : Bool) (h : t_are_numbers thing = .ok r) : f_are_numbers [(oD (eT eInt) thing)] = .ok ((oD eBl) r, none) := by
  unfold t_are_numbers at h
  refine run_of rfl ?_
  show Tl (m_are_numbers ([some (oD (eT eInt) thing), none] : DEnv)) _
  unfold m_are_numbers
  obtain ⟨w, e_w, h1⟩ := of_bind h
  clear h
  exact tl_rtF (o := (oD eBl)) h1 (u_dat (u_andV1 (u_d1 (u_var 0 rfl) (show _ = R.ok (D.bl true) from rfl)) (u_d1 (u_frz (u_compA (e := eInt) (e2 := eBl) (T := (fun own => [(1, (eInt own))])) (δw := ([some (oD (eT eInt) thing), none] : DEnv)) (n := 2) (vs := [1]) (f := (fun own : Int => true)) (u_items (u_var 0 rfl) rfl) (of_chk e_w) rfl rfl (fun own => tg_name 1 rfl) (fun _ => rfl) (fun own _ => u_at (δ' := ([some (oD (eT eInt) thing), some (oD eInt own)] : DEnv)) rfl (u_frz (u_call (xs := [eInt own]) (u_cons (u_var 1 rfl) (u_nil)) (den_is_number own true rfl)) (frz_d _))) (rfl : _ = ([some (oD (eT eInt) thing), none] : DEnv))) ((frz_L (frz_D eBl)) _)) (fAll_L (thing.map (fun own : Int => true))))))
def t_sure_list (value : List Int) (least : Int) : R (List Int) :=
  U.bind (t_tupled value) fun v =>
  U.bind (t_are_numbers v) fun v1 =>
  U.bind (if (!v1) then .ok true else (U.bind (if (decide (8 < (v.length : Int))) then .ok true else (U.bind (chk v.length) fun w =>
  .ok ((v.map (fun its : Int => (!(decide (least ≤ its) && decide (its ≤ 20))))).any id))) fun b =>
  .ok b)) fun b1 =>
  if b1 then
  .no
  else
  .ok v
theorem den_sure_list (value : List Int) (least : Int) (r : List Int) (h : t_sure_list value least = .ok r) : f_sure_list [(oD (eL eInt) value), (oD eInt least)] = .ok ((oD (eT eInt)) r, none) := by
  unfold t_sure_list at h
  refine run_of rfl ?_
  show Tl (m_sure_list ([some (oD (eL eInt) value), some (oD eInt least), none, none] : DEnv)) _
  unfold m_sure_list
  obtain ⟨v, e_v, h1⟩ := of_bind h
  clear h
  refine tl_seq (δ1 := ([some (oD (eL eInt) value), some (oD eInt least), some (oD (eT eInt) v), none] : DEnv)) (u_set 2 (u_call (xs := [(eL eInt) value]) (u_cons (u_var 0 rfl) (u_nil)) (den_tupled 18 value _ e_v)) rfl rfl) ?_
  obtain ⟨v1, e_v1, h4⟩ := of_bind h1
  clear h1
  obtain ⟨b1, e_b1, h5⟩ := of_bind h4
  clear h4
  rcases of_ite h5 with ⟨hc, h6⟩ | ⟨hc, h6⟩ <;> clear h5
  · refine tl_ifT2 (u_orM e_b1 (u_not (u_bool (u_frz (u_call (xs := [(eT eInt) v]) (u_cons (u_var 2 rfl) (u_nil)) (den_are_numbers v _ e_v1)) (frz_d _)))) (fun _ hA => (match of_bind hA with | ⟨b, e_b, h3⟩ => u_br (p := fun z : Bool => (z, ([some (oD (eL eInt) value), some (oD eInt least), some (oD (eT eInt) v), none] : DEnv))) h3 (u_orM e_b (u_bool (u_d2 (u_lenN 2 rfl (oLen_T (e := eInt) _)) (u_c _) rfl)) (fun _ hA => (match of_bind hA with | ⟨w, e_w, h2⟩ => u_br (p := fun z : Bool => (z, ([some (oD (eL eInt) value), some (oD eInt least), some (oD (eT eInt) v), none] : DEnv))) h2 (u_bool (u_d1 (u_frz (u_compA (e := eInt) (e2 := eBl) (T := (fun its => [(3, (eInt its))])) (δw := ([some (oD (eL eInt) value), some (oD eInt least), some (oD (eT eInt) v), none] : DEnv)) (n := 4) (vs := [3]) (f := (fun its : Int => (!(decide (least ≤ its) && decide (its ≤ 20))))) (u_items (u_var 2 rfl) rfl) (of_chk e_w) rfl rfl (fun its => tg_name 3 rfl) (fun _ => rfl) (fun its _ => u_at (δ' := ([some (oD (eL eInt) value), some (oD eInt least), some (oD (eT eInt) v), some (oD eInt its)] : DEnv)) rfl (u_d1 ((u_chain (f := fun i j => decide (i ≤ j)) (g := fun i j => decide (i ≤ j)) (u_var 1 rfl) (u_var 3 rfl) (fun _ => u_c _))) rfl)) (rfl : _ = ([some (oD (eL eInt) value), some (oD eInt least), some (oD (eT eInt) v), none] : DEnv))) ((frz_L (frz_D eBl)) _)) (fAny_L (v.map (fun its : Int => (!(decide (least ≤ its) && decide (its ≤ 20)))))))))))))) hc ?_
    clear hc
    cases h6
  · refine tl_ifF2 (u_orM e_b1 (u_not (u_bool (u_frz (u_call (xs := [(eT eInt) v]) (u_cons (u_var 2 rfl) (u_nil)) (den_are_numbers v _ e_v1)) (frz_d _)))) (fun _ hA => (match of_bind hA with | ⟨b, e_b, h3⟩ => u_br (p := fun z : Bool => (z, ([some (oD (eL eInt) value), some (oD eInt least), some (oD (eT eInt) v), none] : DEnv))) h3 (u_orM e_b (u_bool (u_d2 (u_lenN 2 rfl (oLen_T (e := eInt) _)) (u_c _) rfl)) (fun _ hA => (match of_bind hA with | ⟨w, e_w, h2⟩ => u_br (p := fun z : Bool => (z, ([some (oD (eL eInt) value), some (oD eInt least), some (oD (eT eInt) v), none] : DEnv))) h2 (u_bool (u_d1 (u_frz (u_compA (e := eInt) (e2 := eBl) (T := (fun its => [(3, (eInt its))])) (δw := ([some (oD (eL eInt) value), some (oD eInt least), some (oD (eT eInt) v), none] : DEnv)) (n := 4) (vs := [3]) (f := (fun its : Int => (!(decide (least ≤ its) && decide (its ≤ 20))))) (u_items (u_var 2 rfl) rfl) (of_chk e_w) rfl rfl (fun its => tg_name 3 rfl) (fun _ => rfl) (fun its _ => u_at (δ' := ([some (oD (eL eInt) value), some (oD eInt least), some (oD (eT eInt) v), some (oD eInt its)] : DEnv)) rfl (u_d1 ((u_chain (f := fun i j => decide (i ≤ j)) (g := fun i j => decide (i ≤ j)) (u_var 1 rfl) (u_var 3 rfl) (fun _ => u_c _))) rfl)) (rfl : _ = ([some (oD (eL eInt) value), some (oD eInt least), some (oD (eT eInt) v), none] : DEnv))) ((frz_L (frz_D eBl)) _)) (fAny_L (v.map (fun its : Int => (!(decide (least ≤ its) && decide (its ≤ 20)))))))))))))) hc ?_
    clear hc
    refine tl_nil ?_
    refine tl_wipe ?_
    exact tl_rtF (o := (oD (eT eInt))) h6 (u_ovar 2 rfl (rfl : _ = ([some (oD (eL eInt) value), some (oD eInt least), none, none] : DEnv)))
def t_is_within (thing : Int) (least : Int) (most : Int) : R Bool :=
  .ok (decide (least ≤ thing) && decide (thing ≤ most))
theorem den_is_within (thing : Int) (least : Int) (most : Int) (r : Bool) (h : t_is_within thing least most = .ok r) : f_is_within [(oD eInt thing), (oD eInt least), (oD eInt most)] = .ok ((oD eBl) r, none) := by
  unfold t_is_within at h
  refine run_of rfl ?_
  show Tl (m_is_within ([some (oD eInt thing), some (oD eInt least), some (oD eInt most)] : DEnv)) _
  unfold m_is_within
  exact tl_rtF (o := (oD eBl)) h (u_dat (u_andV1 (u_frz (u_call (xs := [eInt thing]) (u_cons (u_var 0 rfl) (u_nil)) (den_is_number thing true rfl)) (frz_d _)) ((u_chain (f := fun i j => decide (i ≤ j)) (g := fun i j => decide (i ≤ j)) (u_var 1 rfl) (u_var 0 rfl) (fun _ => u_var 2 rfl)))))
def t_sure_within (thing : Int) (least : Int) (most : Int) : R Int :=
  U.bind (t_is_within thing least most) fun v =>
  if (!v) then
  .no
  else
  .ok thing
theorem den_sure_within (thing : Int) (least : Int) (most : Int) (r : Int) (h : t_sure_within thing least most = .ok r) : f_sure_within [(oD eInt thing), (oD eInt least), (oD eInt most)] = .ok ((oD eInt) r, none) := by
  unfold t_sure_within at h
  refine run_of rfl ?_
  show Tl (m_sure_within ([some (oD eInt thing), some (oD eInt least), some (oD eInt most)] : DEnv)) _
  unfold m_sure_within
  obtain ⟨v, e_v, h1⟩ := of_bind h
  clear h
  rcases of_ite h1 with ⟨hc, h2⟩ | ⟨hc, h2⟩ <;> clear h1
  · refine tl_ifT2 (u_not (u_bool (u_frz (u_call (xs := [eInt thing, eInt least, eInt most]) (u_cons (u_var 0 rfl) (u_cons (u_var 1 rfl) (u_cons (u_var 2 rfl) (u_nil)))) (den_is_within thing least most _ e_v)) (frz_d _)))) hc ?_
    clear hc
    cases h2
  · refine tl_ifF2 (u_not (u_bool (u_frz (u_call (xs := [eInt thing, eInt least, eInt most]) (u_cons (u_var 0 rfl) (u_cons (u_var 1 rfl) (u_cons (u_var 2 rfl) (u_nil)))) (den_is_within thing least most _ e_v)) (frz_d _)))) hc ?_
    clear hc
    refine tl_nil ?_
    refine tl_wipe ?_
    exact tl_rtF (o := (oD eInt)) h2 (u_ovar 0 rfl (rfl : _ = ([none, some (oD eInt least), some (oD eInt most)] : DEnv)))
def t_words_series (degrees : List Int) (most : Int) : R (List Int) :=
  U.bind (rep ([0] : List Int) most) fun v =>
  U.bind (cat ([1] : List Int) v) fun v1 =>
  U.bind (rng2 1 (most + 1)) fun v2 =>
  U.bind (forM (fun (total : Int) (found : (List Int)) =>
  U.bind (chk degrees.length) fun w =>
  U.bind (compM (fun own : Int => .ok (decide (own ≤ total))) (fun own : Int => U.bind (ix found (total - own)) fun v3 =>
  .ok v3) degrees) fun v4 =>
  U.bind (setIx found total v4.sum) fun found1 =>
  .ok found1) v2 v1) fun found2 =>
  .ok found2
theorem den_words_series (degrees : List Int) (most : Int) (r : List Int) (h : t_words_series degrees most = .ok r) : f_words_series [(oD (eT eInt) degrees), (oD eInt most)] = .ok ((oL (oD eInt)) r, none) := by
  unfold t_words_series at h
  refine run_of rfl ?_
  show Tl (m_words_series ([some (oD (eT eInt) degrees), some (oD eInt most), none, none, none] : DEnv)) _
  unfold m_words_series
  obtain ⟨v, e_v, h1⟩ := of_bind h
  clear h
  obtain ⟨v1, e_v1, h2⟩ := of_bind h1
  clear h1
  refine tl_seq (δ1 := ([some (oD (eT eInt) degrees), some (oD eInt most), some ((oL (oD eInt)) v1), none, none] : DEnv)) (u_set 2 (u_o2 (u_frz (u_lst (u_cons (u_c _) (u_nil)) rfl (rfl : _ = (O.lst [(oD eInt 1)]))) (frz_lit [(eInt 1)])) (u_frz (u_o2 (u_frz (u_lst (u_cons (u_c _) (u_nil)) rfl (rfl : _ = (O.lst [(oD eInt 0)]))) (frz_lit [(eInt 0)])) (u_var 1 rfl) (fMul_L (e := eInt) e_v)) ((frz_L (frz_D eInt)) _)) (fAdd_L (e := eInt) e_v1)) rfl rfl) ?_
  obtain ⟨v2, e_v2, h3⟩ := of_bind h2
  clear h2
  obtain ⟨found2, h9, h10⟩ := of_bind h3
  clear h3
  refine tl_blk (tl_for (e := eInt) (idx := [3]) (V := []) (n := 5) (T := (fun total : Int => [(3, (eInt total))])) (lit := (fun s : (List Int) => ([some (oD (eT eInt) degrees), some (oD eInt most), some ((oL (oD eInt)) s), none, none] : DEnv))) h9 (u_rng2 (u_cons (u_c _) (u_cons (u_frz (u_o2 (u_var 1 rfl) (u_c _) rfl) (frz_d _)) (u_nil))) e_v2) rfl (fun _ => rfl) (fun total => tg_name 3 rfl) (fun _ => rfl) (by decide) ?_) ?_
  · intro total _ found s0 h4
    refine tl_at (δ' := ([some (oD (eT eInt) degrees), some (oD eInt most), some ((oL (oD eInt)) found), some (oD eInt total), none] : DEnv)) rfl ?_
    obtain ⟨w, e_w, h6⟩ := of_bind h4
    clear h4
    obtain ⟨v4, e_v4, h7⟩ := of_bind h6
    clear h6
    obtain ⟨found1, e_found1, h8⟩ := of_bind h7
    clear h7
    refine tl_seq (δ1 := ([some (oD (eT eInt) degrees), some (oD eInt most), some ((oL (oD eInt)) found1), some (oD eInt total), none] : DEnv)) (u_asg (u_d1 (u_frz (u_compM (e := eInt) (e2 := eInt) (T := (fun own => [(4, (eInt own))])) (δw := ([some (oD (eT eInt) degrees), some (oD eInt most), some ((oL (oD eInt)) found), some (oD eInt total), none] : DEnv)) (n := 5) (vs := [4]) (p := (fun own : Int => .ok (decide (own ≤ total)))) (f := (fun own : Int => U.bind (ix found (total - own)) fun v3 =>
  .ok v3)) e_v4 (u_items (u_var 0 rfl) rfl) (of_chk e_w) rfl rfl (fun own => tg_name 4 rfl) (fun _ => rfl) (fun own _ _ hA => u_at (δ' := ([some (oD (eT eInt) degrees), some (oD eInt most), some ((oL (oD eInt)) found), some (oD eInt total), some (oD eInt own)] : DEnv)) rfl (u_br (p := fun z : Bool => (z, ([some (oD (eT eInt) degrees), some (oD eInt most), some ((oL (oD eInt)) found), some (oD eInt total), some (oD eInt own)] : DEnv))) hA (u_bool (u_d2 (u_var 4 rfl) (u_var 3 rfl) rfl)))) (fun own _ _ y hA => u_at (δ' := ([some (oD (eT eInt) degrees), some (oD eInt most), some ((oL (oD eInt)) found), some (oD eInt total), some (oD eInt own)] : DEnv)) rfl ((match of_bind hA with | ⟨v3, e_v3, h5⟩ => u_br (p := fun z : Int => (eInt z, ([some (oD (eT eInt) degrees), some (oD eInt most), some ((oL (oD eInt)) found), some (oD eInt total), some (oD eInt own)] : DEnv))) h5 (u_ixN 2 rfl (u_d2 (u_var 3 rfl) (u_var 4 rfl) rfl) rfl (oAt_L (e := eInt) e_v3))))) (rfl : _ = ([some (oD (eT eInt) degrees), some (oD eInt most), some ((oL (oD eInt)) found), some (oD eInt total), none] : DEnv))) ((frz_L (frz_D eInt)) _)) (fSum_L v4)) (u_gsub 2 (e := eInt) (xs := found) (y := v4.sum) rfl (u_var 3 rfl) rfl e_found1 rfl)) ?_
    exact tl_endL (lit := (fun s : (List Int) => ([some (oD (eT eInt) degrees), some (oD eInt most), some ((oL (oD eInt)) s), none, none] : DEnv))) h8 rfl
  clear h9
  refine tl_at (δ' := ([some (oD (eT eInt) degrees), some (oD eInt most), some ((oL (oD eInt)) found2), none, none] : DEnv)) rfl ?_
  exact tl_rtF (o := (oL (oD eInt))) h10 (u_ovar 2 rfl (rfl : _ = ([some (oD (eT eInt) degrees), some (oD eInt most), none, none, none] : DEnv)))
def t_is_lyndon (word : List Int) : R Bool :=
  U.bind (rng2 1 (word.length : Int)) fun v =>
  U.bind (chk v.length) fun w =>
  .ok ((v.map (fun place : Int => (HT.lexLt word (sl word (some place) none)))).all id)
theorem den_is_lyndon (word : List Int) (r : Bool) (h : t_is_lyndon word = .ok r) : f_is_lyndon [(oD (eT eInt) word)] = .ok ((oD eBl) r, none) := by
  unfold t_is_lyndon at h
  refine run_of rfl ?_
  show Tl (m_is_lyndon ([some (oD (eT eInt) word), none] : DEnv)) _
  unfold m_is_lyndon
  obtain ⟨v, e_v, h1⟩ := of_bind h
  clear h
  obtain ⟨w, e_w, h2⟩ := of_bind h1
  clear h1
  exact tl_rtF (o := (oD eBl)) h2 (u_dat (u_d1 (u_frz (u_compA (e := eInt) (e2 := eBl) (T := (fun place => [(1, (eInt place))])) (δw := ([some (oD (eT eInt) word), none] : DEnv)) (n := 2) (vs := [1]) (f := (fun place : Int => (HT.lexLt word (sl word (some place) none)))) (u_rng2 (u_cons (u_c _) (u_cons (u_lenN 0 rfl (oLen_T (e := eInt) _)) (u_nil))) e_v) (of_chk e_w) rfl rfl (fun place => tg_name 1 rfl) (fun _ => rfl) (fun place _ => u_at (δ' := ([some (oD (eT eInt) word), some (oD eInt place)] : DEnv)) rfl (u_d2 (u_var 0 rfl) (u_frz (u_sl (u_var 0 rfl) (u_psome (u_var 1 rfl)) (u_pnone) (fSl_T (e := eInt) _ _ _)) (frz_d _)) (fLt_T word (sl word (some place) none)))) (rfl : _ = ([some (oD (eT eInt) word), none] : DEnv))) ((frz_L (frz_D eBl)) _)) (fAll_L (v.map (fun place : Int => (HT.lexLt word (sl word (some place) none)))))))
def t_lyndon_words (degrees : List Int) (most : Int) : R (List (List Int)) :=
  U.bind (t_words_series degrees most) fun v =>
  if (decide ((3000 * 4) < v.sum)) then
  .no
  else
  U.bind (whileM (fun (st : (List (List Int)) × (List ((List Int) × Int))) => (match st with
  | (found, rows) =>
  .ok (decide (0 < (rows.length : Int))))) (fun (st : (List (List Int)) × (List ((List Int) × Int))) => (match st with
  | (found, rows) =>
  
  U.bind (forM (fun (p : (List Int) × Int) (later : (List ((List Int) × Int))) =>
  U.bind (forM (fun (p1 : Int × Int) (later1 : (List ((List Int) × Int))) =>
  if (decide ((p.2 + p1.2) ≤ most)) then
  U.bind (cat p.1 ([p1.1] : List Int)) fun v1 =>
  U.bind (chk later1.length) fun w =>
  .ok (later1 ++ [(v1, (p.2 + p1.2))])
  else
  .ok later1) (enumA 0 degrees) later) fun later2 =>
  .ok later2) rows ([] : List ((List Int) × Int))) fun later3 =>
  U.bind (chk later3.length) fun w1 =>
  U.bind (compM (fun p2 : (List Int) × Int => U.bind (t_is_lyndon p2.1) fun v2 =>
  .ok v2) (fun p2 : (List Int) × Int => .ok p2.1) later3) fun v3 =>
  U.bind (need (Nat.ble (found.length + v3.length) 16777216)) fun w2 =>
  .ok ((found ++ v3), later3))) 1000000 (([] : List (List Int)), ([(([] : List Int), 0)] : List ((List Int) × Int)))) fun (found1, rows1) =>
  U.bind (sortR found1) fun v4 =>
  .ok v4
theorem den_lyndon_words (degrees : List Int) (most : Int) (r : List (List Int)) (h : t_lyndon_words degrees most = .ok r) : f_lyndon_words [(oD (eT eInt) degrees), (oD eInt most)] = .ok ((oL (oD (eT eInt))) r, none) := by
  unfold t_lyndon_words at h
  refine run_of rfl ?_
  show Tl (m_lyndon_words ([some (oD (eT eInt) degrees), some (oD eInt most), none, none, none, none, none, none, none, none] : DEnv)) _
  unfold m_lyndon_words
  obtain ⟨v, e_v, h35⟩ := of_bind h
  clear h
  rcases of_ite h35 with ⟨hc, h36⟩ | ⟨hc, h36⟩ <;> clear h35
  · refine tl_ifT2 (u_bool (u_d2 (u_d1 (u_frz (u_call (xs := [(eT eInt) degrees, eInt most]) (u_cons (u_var 0 rfl) (u_cons (u_var 1 rfl) (u_nil))) (den_words_series degrees most _ e_v)) ((frz_L (frz_D eInt)) _)) (fSum_L v)) (u_frz (u_o2 (u_c _) (u_c _) (f_mulI (f_mulL rfl))) (frz_d _)) rfl)) hc ?_
    clear hc
    cases h36
  · refine tl_ifF2 (u_bool (u_d2 (u_d1 (u_frz (u_call (xs := [(eT eInt) degrees, eInt most]) (u_cons (u_var 0 rfl) (u_cons (u_var 1 rfl) (u_nil))) (den_words_series degrees most _ e_v)) ((frz_L (frz_D eInt)) _)) (fSum_L v)) (u_frz (u_o2 (u_c _) (u_c _) (f_mulI (f_mulL rfl))) (frz_d _)) rfl)) hc ?_
    clear hc
    refine tl_nil ?_
    refine tl_wipe ?_
    refine tl_seq (δ1 := ([some (oD (eT eInt) degrees), some (oD eInt most), some (O.lst []), some (O.lst [(O.d ((eP (fun p : Unit => D.tup []) eInt) ((), 0)))]), none, none, none, none, none, none] : DEnv)) (u_par 2 3 (u_ocons (u_lst (u_nil) rfl (rfl : _ = (O.lst []))) (u_ocons (u_lst (u_cons (u_tup (u_cons (u_tup (u_nil) rfl) (u_cons (u_c _) (u_nil))) rfl) (u_nil)) rfl (rfl : _ = (O.lst [(O.d ((eP (fun p : Unit => D.tup []) eInt) ((), 0)))]))) u_onil)) rfl rfl) ?_
    refine tl_frz rfl (frz_lit [((eP (fun p : Unit => D.tup []) eInt) ((), 0))]) ?_
    obtain ⟨⟨found1, rows1⟩, h51, h52⟩ := of_bind h36
    clear h36
    dsimp only at h52
    refine tl_blk (tl_while (V := [4, 5, 6, 7, 8]) (lit := (fun s : (List (List Int)) × (List ((List Int) × Int)) => ([some (oD (eT eInt) degrees), some (oD eInt most), some ((oL (oD (eT eInt))) s.1), some (oD (eL (eP (eT eInt) eInt)) s.2), none, none, none, none, none, none] : DEnv))) ?_ ?_ 1000000 h51 rfl) ?_
    · rintro ⟨found, rows⟩ bb hA
      dsimp only at hA
      exact (u_br (p := fun z : Bool => (z, ([some (oD (eT eInt) degrees), some (oD eInt most), some ((oL (oD (eT eInt))) found), some (oD (eL (eP (eT eInt) eInt)) rows), none, none, none, none, none, none] : DEnv))) hA (u_bool (u_d2 (u_lenN 3 rfl (oLen_dL (e := (eP (eT eInt) eInt)) _)) (u_c _) rfl)))
    · rintro ⟨found, rows⟩ s2 _ h37
      dsimp only at h37
      refine tl_at (δ' := ([some (oD (eT eInt) degrees), some (oD eInt most), some ((oL (oD (eT eInt))) found), some (oD (eL (eP (eT eInt) eInt)) rows), none, none, none, none, none, none] : DEnv)) rfl ?_
      refine tl_seq (δ1 := ([some (oD (eT eInt) degrees), some (oD eInt most), some ((oL (oD (eT eInt))) found), some (oD (eL (eP (eT eInt) eInt)) rows), some (O.lst []), none, none, none, none, none] : DEnv)) (u_set 4 (u_lst (u_nil) rfl (rfl : _ = (O.lst []))) rfl rfl) ?_
      obtain ⟨later3, h45, h46⟩ := of_bind h37
      clear h37
      refine tl_blk (tl_for (e := (eP (eT eInt) eInt)) (idx := [5, 6]) (V := [7, 8]) (n := 10) (T := (fun p : (List Int) × Int => [(5, ((eT eInt) p.1)), (6, (eInt p.2))])) (lit := (fun s : (List ((List Int) × Int)) => ([some (oD (eT eInt) degrees), some (oD eInt most), some ((oL (oD (eT eInt))) found), some (oD (eL (eP (eT eInt) eInt)) rows), some ((oL (oD (eP (eT eInt) eInt))) s), none, none, none, none, none] : DEnv))) h45 (u_items (u_var 3 rfl) rfl) rfl (fun _ => rfl) (fun p => tg_tup (tgs_cons (tg_name 5 rfl) (tgs_cons (tg_name 6 rfl) (tgs_nil))) rfl) (fun _ => rfl) (by decide) ?_) ?_
      · intro p _ later s1 h38
        refine tl_at (δ' := ([some (oD (eT eInt) degrees), some (oD eInt most), some ((oL (oD (eT eInt))) found), some (oD (eL (eP (eT eInt) eInt)) rows), some ((oL (oD (eP (eT eInt) eInt))) later), some (oD (eT eInt) p.1), some (oD eInt p.2), none, none, none] : DEnv)) rfl ?_
        obtain ⟨later2, h43, h44⟩ := of_bind h38
        clear h38
        refine tl_blk (tl_for (e := (eP eInt eInt)) (idx := [7, 8]) (V := []) (n := 10) (T := (fun p1 : Int × Int => [(7, (eInt p1.1)), (8, (eInt p1.2))])) (lit := (fun s : (List ((List Int) × Int)) => ([some (oD (eT eInt) degrees), some (oD eInt most), some ((oL (oD (eT eInt))) found), some (oD (eL (eP (eT eInt) eInt)) rows), some ((oL (oD (eP (eT eInt) eInt))) s), some (oD (eT eInt) p.1), some (oD eInt p.2), none, none, none] : DEnv))) h43 (u_enum (e := eInt) (xs := degrees) (u_cons (u_var 0 rfl) (u_nil)) rfl) rfl (fun _ => rfl) (fun p1 => tg_tup (tgs_cons (tg_name 7 rfl) (tgs_cons (tg_name 8 rfl) (tgs_nil))) rfl) (fun _ => rfl) (by decide) ?_) ?_
        · intro p1 _ later1 s0 h39
          refine tl_at (δ' := ([some (oD (eT eInt) degrees), some (oD eInt most), some ((oL (oD (eT eInt))) found), some (oD (eL (eP (eT eInt) eInt)) rows), some ((oL (oD (eP (eT eInt) eInt))) later1), some (oD (eT eInt) p.1), some (oD eInt p.2), some (oD eInt p1.1), some (oD eInt p1.2), none] : DEnv)) rfl ?_
          rcases of_ite h39 with ⟨hc, h40⟩ | ⟨hc, h40⟩ <;> clear h39
          · refine tl_ifT2 (u_bool (u_d2 (u_frz (u_o2 (u_var 6 rfl) (u_var 8 rfl) rfl) (frz_d _)) (u_var 1 rfl) rfl)) hc ?_
            clear hc
            obtain ⟨v1, e_v1, h41⟩ := of_bind h40
            clear h40
            obtain ⟨w, e_w, h42⟩ := of_bind h41
            clear h41
            refine tl_assoc ?_
            refine tl_seq (δ1 := ([some (oD (eT eInt) degrees), some (oD eInt most), some ((oL (oD (eT eInt))) found), some (oD (eL (eP (eT eInt) eInt)) rows), some ((oL (oD (eP (eT eInt) eInt))) (later1 ++ [(v1, (p.2 + p1.2))])), some (oD (eT eInt) p.1), some (oD eInt p.2), some (oD eInt p1.1), some (oD eInt p1.2), none] : DEnv)) (u_append 4 (o := (oD (eP (eT eInt) eInt))) (xs := later1) (y := (v1, (p.2 + p1.2))) rfl (u_dat (u_tup (u_cons (u_frz (u_o2 (u_var 5 rfl) (u_tup (u_cons (u_var 7 rfl) (u_nil)) rfl) (fAdd_T (e := eInt) e_v1)) (frz_d _)) (u_cons (u_frz (u_o2 (u_var 6 rfl) (u_var 8 rfl) rfl) (frz_d _)) (u_nil))) rfl)) rfl rfl (of_chk e_w) rfl) ?_
            refine tl_nil ?_
            refine tl_wipe ?_
            exact tl_endL (lit := (fun s : (List ((List Int) × Int)) => ([some (oD (eT eInt) degrees), some (oD eInt most), some ((oL (oD (eT eInt))) found), some (oD (eL (eP (eT eInt) eInt)) rows), some ((oL (oD (eP (eT eInt) eInt))) s), some (oD (eT eInt) p.1), some (oD eInt p.2), none, none, none] : DEnv))) h42 rfl
          · refine tl_ifF2 (u_bool (u_d2 (u_frz (u_o2 (u_var 6 rfl) (u_var 8 rfl) rfl) (frz_d _)) (u_var 1 rfl) rfl)) hc ?_
            clear hc
            refine tl_nil ?_
            refine tl_wipe ?_
            exact tl_endL (lit := (fun s : (List ((List Int) × Int)) => ([some (oD (eT eInt) degrees), some (oD eInt most), some ((oL (oD (eT eInt))) found), some (oD (eL (eP (eT eInt) eInt)) rows), some ((oL (oD (eP (eT eInt) eInt))) s), some (oD (eT eInt) p.1), some (oD eInt p.2), none, none, none] : DEnv))) h40 rfl
        clear h43
        refine tl_at (δ' := ([some (oD (eT eInt) degrees), some (oD eInt most), some ((oL (oD (eT eInt))) found), some (oD (eL (eP (eT eInt) eInt)) rows), some ((oL (oD (eP (eT eInt) eInt))) later2), some (oD (eT eInt) p.1), some (oD eInt p.2), none, none, none] : DEnv)) rfl ?_
        exact tl_endL (lit := (fun s : (List ((List Int) × Int)) => ([some (oD (eT eInt) degrees), some (oD eInt most), some ((oL (oD (eT eInt))) found), some (oD (eL (eP (eT eInt) eInt)) rows), some ((oL (oD (eP (eT eInt) eInt))) s), none, none, none, none, none] : DEnv))) h44 rfl
      clear h45
      refine tl_at (δ' := ([some (oD (eT eInt) degrees), some (oD eInt most), some ((oL (oD (eT eInt))) found), some (oD (eL (eP (eT eInt) eInt)) rows), some ((oL (oD (eP (eT eInt) eInt))) later3), none, none, none, none, none] : DEnv)) rfl ?_
      obtain ⟨w1, e_w1, h48⟩ := of_bind h46
      clear h46
      obtain ⟨v3, e_v3, h49⟩ := of_bind h48
      clear h48
      obtain ⟨w2, e_w2, h50⟩ := of_bind h49
      clear h49
      refine tl_seq (δ1 := ([some (oD (eT eInt) degrees), some (oD eInt most), some ((oL (oD (eT eInt))) (found ++ v3)), some (oD (eL (eP (eT eInt) eInt)) rows), some (oD (eL (eP (eT eInt) eInt)) later3), none, none, none, none, none] : DEnv)) (u_extend 2 (e := (eT eInt)) (xs := found) (ys := v3) rfl (u_frz (u_compM (e := (eP (eT eInt) eInt)) (e2 := (eT eInt)) (T := (fun p2 => [(5, ((eT eInt) p2.1)), (9, (eInt p2.2))])) (δw := ([some (oD (eT eInt) degrees), some (oD eInt most), some ((oL (oD (eT eInt))) found), some (oD (eL (eP (eT eInt) eInt)) rows), some (oD (eL (eP (eT eInt) eInt)) later3), none, none, none, none, none] : DEnv)) (n := 10) (vs := [5, 9]) (p := (fun p2 : (List Int) × Int => U.bind (t_is_lyndon p2.1) fun v2 =>
  .ok v2)) (f := (fun p2 : (List Int) × Int => .ok p2.1)) e_v3 (u_items (u_varL 4 rfl ((frz_L (frz_D (eP (eT eInt) eInt))) _) (rfl : _ = ([some (oD (eT eInt) degrees), some (oD eInt most), some ((oL (oD (eT eInt))) found), some (oD (eL (eP (eT eInt) eInt)) rows), some (oD (eL (eP (eT eInt) eInt)) later3), none, none, none, none, none] : DEnv))) rfl) (of_chk e_w1) rfl rfl (fun p2 => tg_tup (tgs_cons (tg_name 5 rfl) (tgs_cons (tg_name 9 rfl) (tgs_nil))) rfl) (fun _ => rfl) (fun p2 _ _ hA => u_at (δ' := ([some (oD (eT eInt) degrees), some (oD eInt most), some ((oL (oD (eT eInt))) found), some (oD (eL (eP (eT eInt) eInt)) rows), some (oD (eL (eP (eT eInt) eInt)) later3), some (oD (eT eInt) p2.1), none, none, none, some (oD eInt p2.2)] : DEnv)) rfl ((match of_bind hA with | ⟨v2, e_v2, h47⟩ => u_br (p := fun z : Bool => (z, ([some (oD (eT eInt) degrees), some (oD eInt most), some ((oL (oD (eT eInt))) found), some (oD (eL (eP (eT eInt) eInt)) rows), some (oD (eL (eP (eT eInt) eInt)) later3), some (oD (eT eInt) p2.1), none, none, none, some (oD eInt p2.2)] : DEnv))) h47 (u_bool (u_frz (u_call (xs := [(eT eInt) p2.1]) (u_cons (u_var 5 rfl) (u_nil)) (den_is_lyndon p2.1 _ e_v2)) (frz_d _)))))) (fun p2 _ _ y hA => u_at (δ' := ([some (oD (eT eInt) degrees), some (oD eInt most), some ((oL (oD (eT eInt))) found), some (oD (eL (eP (eT eInt) eInt)) rows), some (oD (eL (eP (eT eInt) eInt)) later3), some (oD (eT eInt) p2.1), none, none, none, some (oD eInt p2.2)] : DEnv)) rfl (u_br (p := fun z : List Int => ((eT eInt) z, ([some (oD (eT eInt) degrees), some (oD eInt most), some ((oL (oD (eT eInt))) found), some (oD (eL (eP (eT eInt) eInt)) rows), some (oD (eL (eP (eT eInt) eInt)) later3), some (oD (eT eInt) p2.1), none, none, none, some (oD eInt p2.2)] : DEnv))) hA (u_var 5 rfl))) (rfl : _ = ([some (oD (eT eInt) degrees), some (oD eInt most), some ((oL (oD (eT eInt))) found), some (oD (eL (eP (eT eInt) eInt)) rows), some (oD (eL (eP (eT eInt) eInt)) later3), none, none, none, none, none] : DEnv))) ((frz_L (frz_D (eT eInt))) _)) rfl (of_need e_w2) rfl) ?_
      refine tl_seq (δ1 := ([some (oD (eT eInt) degrees), some (oD eInt most), some ((oL (oD (eT eInt))) (found ++ v3)), some (oD (eL (eP (eT eInt) eInt)) later3), some (oD (eL (eP (eT eInt) eInt)) later3), none, none, none, none, none] : DEnv)) (u_set 3 (u_dat (u_var 4 rfl)) rfl rfl) ?_
      exact tl_endL (lit := (fun s : (List (List Int)) × (List ((List Int) × Int)) => ([some (oD (eT eInt) degrees), some (oD eInt most), some ((oL (oD (eT eInt))) s.1), some (oD (eL (eP (eT eInt) eInt)) s.2), none, none, none, none, none, none] : DEnv))) h50 rfl
    clear h51
    refine tl_at (δ' := ([some (oD (eT eInt) degrees), some (oD eInt most), some ((oL (oD (eT eInt))) found1), some (oD (eL (eP (eT eInt) eInt)) rows1), none, none, none, none, none, none] : DEnv)) rfl ?_
    obtain ⟨v4, e_v4, h53⟩ := of_bind h52
    clear h52
    exact tl_rtF (o := (oL (oD (eT eInt)))) h53 (u_o1 (u_varL 2 rfl ((frz_L (frz_D (eT eInt))) _) (rfl : _ = ([some (oD (eT eInt) degrees), some (oD eInt most), some (oD (eL (eT eInt)) found1), some (oD (eL (eP (eT eInt) eInt)) rows1), none, none, none, none, none, none] : DEnv))) (fSorted_R e_v4))
def t_word_degree (degrees : List Int) (word : List Int) : R Int :=
  U.bind (chk word.length) fun w =>
  U.bind (mapM (fun own : Int => U.bind (ix degrees own) fun v =>
  .ok v) word) fun v1 =>
  .ok v1.sum
theorem den_word_degree (degrees : List Int) (word : List Int) (r : Int) (h : t_word_degree degrees word = .ok r) : f_word_degree [(oD (eT eInt) degrees), (oD (eT eInt) word)] = .ok ((oD eInt) r, none) := by
  unfold t_word_degree at h
  refine run_of rfl ?_
  show Tl (m_word_degree ([some (oD (eT eInt) degrees), some (oD (eT eInt) word), none] : DEnv)) _
  unfold m_word_degree
  obtain ⟨w, e_w, h2⟩ := of_bind h
  clear h
  obtain ⟨v1, e_v1, h3⟩ := of_bind h2
  clear h2
  exact tl_rtF (o := (oD eInt)) h3 (u_dat (u_d1 (u_frz (u_compMA (e := eInt) (e2 := eInt) (T := (fun own => [(2, (eInt own))])) (δw := ([some (oD (eT eInt) degrees), some (oD (eT eInt) word), none] : DEnv)) (n := 3) (vs := [2]) (f := (fun own : Int => U.bind (ix degrees own) fun v =>
  .ok v)) e_v1 (u_items (u_var 1 rfl) rfl) (of_chk e_w) rfl rfl (fun own => tg_name 2 rfl) (fun _ => rfl) (fun own _ y hA => u_at (δ' := ([some (oD (eT eInt) degrees), some (oD (eT eInt) word), some (oD eInt own)] : DEnv)) rfl ((match of_bind hA with | ⟨v, e_v, h1⟩ => u_br (p := fun z : Int => (eInt z, ([some (oD (eT eInt) degrees), some (oD (eT eInt) word), some (oD eInt own)] : DEnv))) h1 (u_ixN 0 rfl (u_var 2 rfl) rfl (oAt_T (e := eInt) e_v))))) (rfl : _ = ([some (oD (eT eInt) degrees), some (oD (eT eInt) word), none] : DEnv))) ((frz_L (frz_D eInt)) _)) (fSum_L v1)))
def t_basic_words (degrees : List Int) (most : Int) : R (List (List Int)) :=
  U.bind (t_sure_list degrees 1) fun v =>
  U.bind (t_sure_within most 0 20) fun v1 =>
  U.bind (t_lyndon_words v v1) fun v2 =>
  U.bind (chk v2.length) fun w =>
  U.bind (compM (fun word : List Int => U.bind (t_word_degree v word) fun v3 =>
  U.bind (if (decide ((v3 % 2) = 1)) then (U.bind (t_word_degree v word) fun v4 =>
  .ok (decide ((2 * v4) ≤ v1))) else .ok false) fun b =>
  .ok b) (fun word : List Int => .ok word) v2) fun v5 =>
  U.bind (chk v5.length) fun w1 =>
  U.bind (mapM (fun word1 : List Int => U.bind (cat word1 word1) fun v6 =>
  .ok v6) v5) fun v7 =>
  U.bind (cat v2 v7) fun v8 =>
  U.bind (sortR v8) fun v9 =>
  .ok v9
theorem den_basic_words (degrees : List Int) (most : Int) (r : List (List Int)) (h : t_basic_words degrees most = .ok r) : f_basic_words [(oD (eL eInt) degrees), (oD eInt most)] = .ok ((oL (oD (eT eInt))) r, none) := by
  unfold t_basic_words at h
  refine run_of rfl ?_
  show Tl (m_basic_words ([some (oD (eL eInt) degrees), some (oD eInt most), none, none, none, none, none] : DEnv)) _
  unfold m_basic_words
  obtain ⟨v, e_v, h1⟩ := of_bind h
  clear h
  obtain ⟨v1, e_v1, h2⟩ := of_bind h1
  clear h1
  refine tl_seq (δ1 := ([some (oD (eL eInt) degrees), some (oD eInt most), some (oD (eT eInt) v), some (oD eInt v1), none, none, none] : DEnv)) (u_asg (u_tup (u_cons (u_frz (u_call (xs := [(eL eInt) degrees, eInt 1]) (u_cons (u_var 0 rfl) (u_cons (u_c _) (u_nil))) (den_sure_list degrees 1 _ e_v)) (frz_d _)) (u_cons (u_frz (u_call (xs := [eInt most, eInt 0, eInt 20]) (u_cons (u_var 1 rfl) (u_cons (u_c _) (u_cons (u_c _) (u_nil)))) (den_sure_within most 0 20 _ e_v1)) (frz_d _)) (u_nil))) rfl) ((tg_tup (tgs_cons (tg_name 2 rfl) (tgs_cons (tg_name 3 rfl) (tgs_nil))) rfl) _ rfl)) ?_
  obtain ⟨v2, e_v2, h3⟩ := of_bind h2
  clear h2
  refine tl_seq (δ1 := ([some (oD (eL eInt) degrees), some (oD eInt most), some (oD (eT eInt) v), some (oD eInt v1), some ((oL (oD (eT eInt))) v2), none, none] : DEnv)) (u_set 4 (u_call (xs := [(eT eInt) v, eInt v1]) (u_cons (u_var 2 rfl) (u_cons (u_var 3 rfl) (u_nil))) (den_lyndon_words v v1 _ e_v2)) rfl rfl) ?_
  obtain ⟨w, e_w, h7⟩ := of_bind h3
  clear h3
  obtain ⟨v5, e_v5, h8⟩ := of_bind h7
  clear h7
  refine tl_seq (δ1 := ([some (oD (eL eInt) degrees), some (oD eInt most), some (oD (eT eInt) v), some (oD eInt v1), some (oD (eL (eT eInt)) v2), some ((oL (oD (eT eInt))) v5), none] : DEnv)) (u_set 5 (u_compM (e := (eT eInt)) (e2 := (eT eInt)) (T := (fun word => [(6, ((eT eInt) word))])) (δw := ([some (oD (eL eInt) degrees), some (oD eInt most), some (oD (eT eInt) v), some (oD eInt v1), some (oD (eL (eT eInt)) v2), none, none] : DEnv)) (n := 7) (vs := [6]) (p := (fun word : List Int => U.bind (t_word_degree v word) fun v3 =>
  U.bind (if (decide ((v3 % 2) = 1)) then (U.bind (t_word_degree v word) fun v4 =>
  .ok (decide ((2 * v4) ≤ v1))) else .ok false) fun b =>
  .ok b)) (f := (fun word : List Int => .ok word)) e_v5 (u_items (u_varL 4 rfl ((frz_L (frz_D (eT eInt))) _) (rfl : _ = ([some (oD (eL eInt) degrees), some (oD eInt most), some (oD (eT eInt) v), some (oD eInt v1), some (oD (eL (eT eInt)) v2), none, none] : DEnv))) rfl) (of_chk e_w) rfl rfl (fun word => tg_name 6 rfl) (fun _ => rfl) (fun word _ _ hA => u_at (δ' := ([some (oD (eL eInt) degrees), some (oD eInt most), some (oD (eT eInt) v), some (oD eInt v1), some (oD (eL (eT eInt)) v2), none, some (oD (eT eInt) word)] : DEnv)) rfl ((match of_bind hA with | ⟨v3, e_v3, h5⟩ => (match of_bind h5 with | ⟨b, e_b, h6⟩ => u_br (p := fun z : Bool => (z, ([some (oD (eL eInt) degrees), some (oD eInt most), some (oD (eT eInt) v), some (oD eInt v1), some (oD (eL (eT eInt)) v2), none, some (oD (eT eInt) word)] : DEnv))) h6 (u_andM e_b (u_bool (u_d2 (u_d2 (u_frz (u_call (xs := [(eT eInt) v, (eT eInt) word]) (u_cons (u_var 2 rfl) (u_cons (u_var 6 rfl) (u_nil))) (den_word_degree v word _ e_v3)) (frz_d _)) (u_c _) (f_mod rfl)) (u_c _) rfl)) (fun _ hA => (match of_bind hA with | ⟨v4, e_v4, h4⟩ => u_br (p := fun z : Bool => (z, ([some (oD (eL eInt) degrees), some (oD eInt most), some (oD (eT eInt) v), some (oD eInt v1), some (oD (eL (eT eInt)) v2), none, some (oD (eT eInt) word)] : DEnv))) h4 (u_bool (u_d2 (u_frz (u_o2 (u_c _) (u_frz (u_call (xs := [(eT eInt) v, (eT eInt) word]) (u_cons (u_var 2 rfl) (u_cons (u_var 6 rfl) (u_nil))) (den_word_degree v word _ e_v4)) (frz_d _)) (f_mulI (f_mulL rfl))) (frz_d _)) (u_var 3 rfl) rfl))))))))) (fun word _ _ y hA => u_at (δ' := ([some (oD (eL eInt) degrees), some (oD eInt most), some (oD (eT eInt) v), some (oD eInt v1), some (oD (eL (eT eInt)) v2), none, some (oD (eT eInt) word)] : DEnv)) rfl (u_br (p := fun z : List Int => ((eT eInt) z, ([some (oD (eL eInt) degrees), some (oD eInt most), some (oD (eT eInt) v), some (oD eInt v1), some (oD (eL (eT eInt)) v2), none, some (oD (eT eInt) word)] : DEnv))) hA (u_var 6 rfl))) (rfl : _ = ([some (oD (eL eInt) degrees), some (oD eInt most), some (oD (eT eInt) v), some (oD eInt v1), some (oD (eL (eT eInt)) v2), none, none] : DEnv))) rfl rfl) ?_
  obtain ⟨w1, e_w1, h10⟩ := of_bind h8
  clear h8
  obtain ⟨v7, e_v7, h11⟩ := of_bind h10
  clear h10
  obtain ⟨v8, e_v8, h12⟩ := of_bind h11
  clear h11
  obtain ⟨v9, e_v9, h13⟩ := of_bind h12
  clear h12
  exact tl_rtF (o := (oL (oD (eT eInt)))) h13 (u_o1 (u_frz (u_o2 (u_var 4 rfl) (u_frz (u_compMA (e := (eT eInt)) (e2 := (eT eInt)) (T := (fun word1 => [(6, ((eT eInt) word1))])) (δw := ([some (oD (eL eInt) degrees), some (oD eInt most), some (oD (eT eInt) v), some (oD eInt v1), some (oD (eL (eT eInt)) v2), some (oD (eL (eT eInt)) v5), none] : DEnv)) (n := 7) (vs := [6]) (f := (fun word1 : List Int => U.bind (cat word1 word1) fun v6 =>
  .ok v6)) e_v7 (u_items (u_varL 5 rfl ((frz_L (frz_D (eT eInt))) _) (rfl : _ = ([some (oD (eL eInt) degrees), some (oD eInt most), some (oD (eT eInt) v), some (oD eInt v1), some (oD (eL (eT eInt)) v2), some (oD (eL (eT eInt)) v5), none] : DEnv))) rfl) (of_chk e_w1) rfl rfl (fun word1 => tg_name 6 rfl) (fun _ => rfl) (fun word1 _ y1 hA => u_at (δ' := ([some (oD (eL eInt) degrees), some (oD eInt most), some (oD (eT eInt) v), some (oD eInt v1), some (oD (eL (eT eInt)) v2), some (oD (eL (eT eInt)) v5), some (oD (eT eInt) word1)] : DEnv)) rfl ((match of_bind hA with | ⟨v6, e_v6, h9⟩ => u_br (p := fun z : List Int => ((eT eInt) z, ([some (oD (eL eInt) degrees), some (oD eInt most), some (oD (eT eInt) v), some (oD eInt v1), some (oD (eL (eT eInt)) v2), some (oD (eL (eT eInt)) v5), some (oD (eT eInt) word1)] : DEnv))) h9 (u_frz (u_o2 (u_var 6 rfl) (u_var 6 rfl) (fAdd_T (e := eInt) e_v6)) (frz_d _))))) (rfl : _ = ([some (oD (eL eInt) degrees), some (oD eInt most), some (oD (eT eInt) v), some (oD eInt v1), some (oD (eL (eT eInt)) v2), some (oD (eL (eT eInt)) v5), none] : DEnv))) ((frz_L (frz_D (eT eInt))) _)) (fAdd_L (e := (eT eInt)) e_v8)) ((frz_L (frz_D (eT eInt))) _)) (fSorted_R e_v9))
def t_tupled_3 (value : List Int) : R (List Int) :=
  U.bind (chk value.length) fun w =>
  U.bind (mapM (fun own : Int => U.bind (t_tupled_2 own) fun v =>
  .ok v) value) fun v1 =>
  .ok v1
theorem den_tupled_3 (fu : Nat) (value : List Int) (r : List Int) (h : t_tupled_3 value = .ok r) : f_tupled (fu + 2) [(oD (eT eInt) value)] = .ok ((oD (eT eInt)) r, none) := by
  unfold t_tupled_3 at h
  refine run_of rfl ?_
  show Tl (m_tupled (f_tupled (fu + 1)) ([some (oD (eT eInt) value), none] : DEnv)) _
  unfold m_tupled
  obtain ⟨w, e_w, h2⟩ := of_bind h
  clear h
  obtain ⟨v1, e_v1, h3⟩ := of_bind h2
  clear h2
  exact tl_rtF (o := (oD (eT eInt))) h3 (u_ifT (u_bool (u_d1 (u_var 0 rfl) (show _ = R.ok (D.bl true) from rfl))) (u_dat (u_d1 (u_frz (u_compMA (e := eInt) (e2 := eInt) (T := (fun own => [(1, (eInt own))])) (δw := ([some (oD (eT eInt) value), none] : DEnv)) (n := 2) (vs := [1]) (f := (fun own : Int => U.bind (t_tupled_2 own) fun v =>
  .ok v)) e_v1 (u_items (u_var 0 rfl) rfl) (of_chk e_w) rfl rfl (fun own => tg_name 1 rfl) (fun _ => rfl) (fun own _ y hA => u_at (δ' := ([some (oD (eT eInt) value), some (oD eInt own)] : DEnv)) rfl ((match of_bind hA with | ⟨v, e_v, h1⟩ => u_br (p := fun z : Int => (eInt z, ([some (oD (eT eInt) value), some (oD eInt own)] : DEnv))) h1 (u_frz (u_call (xs := [eInt own]) (u_cons (u_var 1 rfl) (u_nil)) (den_tupled_2 (fu + 0) own _ e_v)) (frz_d _))))) (rfl : _ = ([some (oD (eT eInt) value), none] : DEnv))) ((frz_L (frz_D eInt)) _)) (show _ = R.ok (eT eInt v1) from rfl))))
def t_sure_list_2 (value : List Int) (least : Int) : R (List Int) :=
  U.bind (t_tupled_3 value) fun v =>
  U.bind (t_are_numbers v) fun v1 =>
  U.bind (if (!v1) then .ok true else (U.bind (if (decide (8 < (v.length : Int))) then .ok true else (U.bind (chk v.length) fun w =>
  .ok ((v.map (fun its : Int => (!(decide (least ≤ its) && decide (its ≤ 20))))).any id))) fun b =>
  .ok b)) fun b1 =>
  if b1 then
  .no
  else
  .ok v
theorem den_sure_list_2 (value : List Int) (least : Int) (r : List Int) (h : t_sure_list_2 value least = .ok r) : f_sure_list [(oD (eT eInt) value), (oD eInt least)] = .ok ((oD (eT eInt)) r, none) := by
  unfold t_sure_list_2 at h
  refine run_of rfl ?_
  show Tl (m_sure_list ([some (oD (eT eInt) value), some (oD eInt least), none, none] : DEnv)) _
  unfold m_sure_list
  obtain ⟨v, e_v, h1⟩ := of_bind h
  clear h
  refine tl_seq (δ1 := ([some (oD (eT eInt) value), some (oD eInt least), some (oD (eT eInt) v), none] : DEnv)) (u_set 2 (u_call (xs := [(eT eInt) value]) (u_cons (u_var 0 rfl) (u_nil)) (den_tupled_3 18 value _ e_v)) rfl rfl) ?_
  obtain ⟨v1, e_v1, h4⟩ := of_bind h1
  clear h1
  obtain ⟨b1, e_b1, h5⟩ := of_bind h4
  clear h4
  rcases of_ite h5 with ⟨hc, h6⟩ | ⟨hc, h6⟩ <;> clear h5
  · refine tl_ifT2 (u_orM e_b1 (u_not (u_bool (u_frz (u_call (xs := [(eT eInt) v]) (u_cons (u_var 2 rfl) (u_nil)) (den_are_numbers v _ e_v1)) (frz_d _)))) (fun _ hA => (match of_bind hA with | ⟨b, e_b, h3⟩ => u_br (p := fun z : Bool => (z, ([some (oD (eT eInt) value), some (oD eInt least), some (oD (eT eInt) v), none] : DEnv))) h3 (u_orM e_b (u_bool (u_d2 (u_lenN 2 rfl (oLen_T (e := eInt) _)) (u_c _) rfl)) (fun _ hA => (match of_bind hA with | ⟨w, e_w, h2⟩ => u_br (p := fun z : Bool => (z, ([some (oD (eT eInt) value), some (oD eInt least), some (oD (eT eInt) v), none] : DEnv))) h2 (u_bool (u_d1 (u_frz (u_compA (e := eInt) (e2 := eBl) (T := (fun its => [(3, (eInt its))])) (δw := ([some (oD (eT eInt) value), some (oD eInt least), some (oD (eT eInt) v), none] : DEnv)) (n := 4) (vs := [3]) (f := (fun its : Int => (!(decide (least ≤ its) && decide (its ≤ 20))))) (u_items (u_var 2 rfl) rfl) (of_chk e_w) rfl rfl (fun its => tg_name 3 rfl) (fun _ => rfl) (fun its _ => u_at (δ' := ([some (oD (eT eInt) value), some (oD eInt least), some (oD (eT eInt) v), some (oD eInt its)] : DEnv)) rfl (u_d1 ((u_chain (f := fun i j => decide (i ≤ j)) (g := fun i j => decide (i ≤ j)) (u_var 1 rfl) (u_var 3 rfl) (fun _ => u_c _))) rfl)) (rfl : _ = ([some (oD (eT eInt) value), some (oD eInt least), some (oD (eT eInt) v), none] : DEnv))) ((frz_L (frz_D eBl)) _)) (fAny_L (v.map (fun its : Int => (!(decide (least ≤ its) && decide (its ≤ 20)))))))))))))) hc ?_
    clear hc
    cases h6
  · refine tl_ifF2 (u_orM e_b1 (u_not (u_bool (u_frz (u_call (xs := [(eT eInt) v]) (u_cons (u_var 2 rfl) (u_nil)) (den_are_numbers v _ e_v1)) (frz_d _)))) (fun _ hA => (match of_bind hA with | ⟨b, e_b, h3⟩ => u_br (p := fun z : Bool => (z, ([some (oD (eT eInt) value), some (oD eInt least), some (oD (eT eInt) v), none] : DEnv))) h3 (u_orM e_b (u_bool (u_d2 (u_lenN 2 rfl (oLen_T (e := eInt) _)) (u_c _) rfl)) (fun _ hA => (match of_bind hA with | ⟨w, e_w, h2⟩ => u_br (p := fun z : Bool => (z, ([some (oD (eT eInt) value), some (oD eInt least), some (oD (eT eInt) v), none] : DEnv))) h2 (u_bool (u_d1 (u_frz (u_compA (e := eInt) (e2 := eBl) (T := (fun its => [(3, (eInt its))])) (δw := ([some (oD (eT eInt) value), some (oD eInt least), some (oD (eT eInt) v), none] : DEnv)) (n := 4) (vs := [3]) (f := (fun its : Int => (!(decide (least ≤ its) && decide (its ≤ 20))))) (u_items (u_var 2 rfl) rfl) (of_chk e_w) rfl rfl (fun its => tg_name 3 rfl) (fun _ => rfl) (fun its _ => u_at (δ' := ([some (oD (eT eInt) value), some (oD eInt least), some (oD (eT eInt) v), some (oD eInt its)] : DEnv)) rfl (u_d1 ((u_chain (f := fun i j => decide (i ≤ j)) (g := fun i j => decide (i ≤ j)) (u_var 1 rfl) (u_var 3 rfl) (fun _ => u_c _))) rfl)) (rfl : _ = ([some (oD (eT eInt) value), some (oD eInt least), some (oD (eT eInt) v), none] : DEnv))) ((frz_L (frz_D eBl)) _)) (fAny_L (v.map (fun its : Int => (!(decide (least ≤ its) && decide (its ≤ 20)))))))))))))) hc ?_
    clear hc
    refine tl_nil ?_
    refine tl_wipe ?_
    exact tl_rtF (o := (oD (eT eInt))) h6 (u_ovar 2 rfl (rfl : _ = ([some (oD (eT eInt) value), some (oD eInt least), none, none] : DEnv)))
def t_series_times (row : List Int) (degree : Int) (many : Int) : R (List Int) :=
  U.bind (rng1 many) fun v =>
  U.bind (forM (fun (lap : Int) (found : (List Int)) =>
  if (decide ((degree % 2) = 1)) then
  U.bind (rng3 ((found.length : Int) - 1) (degree - 1) (-1)) fun v1 =>
  U.bind (forM (fun (total : Int) (found1 : (List Int)) =>
  U.bind (ix found1 total) fun v2 =>
  U.bind (ix found1 (total - degree)) fun v3 =>
  U.bind (setIx found1 total (v2 + v3)) fun found2 =>
  .ok found2) v1 found) fun found3 =>
  .ok found3
  else
  U.bind (rng2 degree (found.length : Int)) fun v4 =>
  U.bind (forM (fun (total1 : Int) (found4 : (List Int)) =>
  U.bind (ix found4 total1) fun v5 =>
  U.bind (ix found4 (total1 - degree)) fun v6 =>
  U.bind (setIx found4 total1 (v5 + v6)) fun found5 =>
  .ok found5) v4 found) fun found6 =>
  .ok found6) v row) fun found7 =>
  .ok found7
theorem den_series_times (row : List Int) (degree : Int) (many : Int) (r : List Int) (h : t_series_times row degree many = .ok r) : f_series_times [(oD (eL eInt) row), (oD eInt degree), (oD eInt many)] = .ok ((oL (oD eInt)) r, none) := by
  unfold t_series_times at h
  refine run_of rfl ?_
  show Tl (m_series_times ([some (oD (eL eInt) row), some (oD eInt degree), some (oD eInt many), none, none, none] : DEnv)) _
  unfold m_series_times
  refine tl_seq (δ1 := ([some (oD (eL eInt) row), some (oD eInt degree), some (oD eInt many), some ((oL (oD eInt)) row), none, none] : DEnv)) (u_set 3 (u_o1 (u_var 0 rfl) (fList_L (e := eInt) _)) rfl rfl) ?_
  obtain ⟨v, e_v, h1⟩ := of_bind h
  clear h
  obtain ⟨found7, h18, h19⟩ := of_bind h1
  clear h1
  refine tl_blk (tl_for (e := eInt) (idx := [4]) (V := [5]) (n := 6) (T := (fun lap : Int => [(4, (eInt lap))])) (lit := (fun s : (List Int) => ([some (oD (eL eInt) row), some (oD eInt degree), some (oD eInt many), some ((oL (oD eInt)) s), none, none] : DEnv))) h18 (u_rng1 (u_cons (u_var 2 rfl) (u_nil)) e_v) rfl (fun _ => rfl) (fun lap => tg_name 4 rfl) (fun _ => rfl) (by decide) ?_) ?_
  · intro lap _ found s2 h2
    refine tl_at (δ' := ([some (oD (eL eInt) row), some (oD eInt degree), some (oD eInt many), some ((oL (oD eInt)) found), some (oD eInt lap), none] : DEnv)) rfl ?_
    rcases of_ite h2 with ⟨hc, h3⟩ | ⟨hc, h3⟩ <;> clear h2
    · refine tl_ifT2 (u_bool (u_d2 (u_d2 (u_var 1 rfl) (u_c _) (f_mod rfl)) (u_c _) rfl)) hc ?_
      clear hc
      obtain ⟨v1, e_v1, h4⟩ := of_bind h3
      clear h3
      obtain ⟨found3, h9, h10⟩ := of_bind h4
      clear h4
      refine tl_assoc ?_
      refine tl_blk2 (tl_for (e := eInt) (idx := [5]) (V := []) (n := 6) (T := (fun total : Int => [(5, (eInt total))])) (lit := (fun s : (List Int) => ([some (oD (eL eInt) row), some (oD eInt degree), some (oD eInt many), some ((oL (oD eInt)) s), some (oD eInt lap), none] : DEnv))) h9 (u_rng3 (u_cons (u_d2 (u_lenN 3 rfl (oLen_L _ _)) (u_c _) rfl) (u_cons (u_d2 (u_var 1 rfl) (u_c _) rfl) (u_cons (u_d1 (u_c _) rfl) (u_nil)))) e_v1) rfl (fun _ => rfl) (fun total => tg_name 5 rfl) (fun _ => rfl) (by decide) ?_) ?_
      · intro total _ found1 s0 h5
        refine tl_at (δ' := ([some (oD (eL eInt) row), some (oD eInt degree), some (oD eInt many), some ((oL (oD eInt)) found1), some (oD eInt lap), some (oD eInt total)] : DEnv)) rfl ?_
        obtain ⟨v2, e_v2, h6⟩ := of_bind h5
        clear h5
        obtain ⟨v3, e_v3, h7⟩ := of_bind h6
        clear h6
        obtain ⟨found2, e_found2, h8⟩ := of_bind h7
        clear h7
        refine tl_seq (δ1 := ([some (oD (eL eInt) row), some (oD eInt degree), some (oD eInt many), some ((oL (oD eInt)) found2), some (oD eInt lap), some (oD eInt total)] : DEnv)) (u_augSub 3 (xs := found1) rfl (u_var 5 rfl) rfl e_v2 (u_ixN 3 rfl (u_d2 (u_var 5 rfl) (u_var 1 rfl) rfl) rfl (oAt_L (e := eInt) e_v3)) e_found2 rfl) ?_
        exact tl_endL (lit := (fun s : (List Int) => ([some (oD (eL eInt) row), some (oD eInt degree), some (oD eInt many), some ((oL (oD eInt)) s), some (oD eInt lap), none] : DEnv))) h8 rfl
      clear h9
      refine tl_at (δ' := ([some (oD (eL eInt) row), some (oD eInt degree), some (oD eInt many), some ((oL (oD eInt)) found3), some (oD eInt lap), none] : DEnv)) rfl ?_
      refine tl_nil ?_
      refine tl_wipe ?_
      exact tl_endL (lit := (fun s : (List Int) => ([some (oD (eL eInt) row), some (oD eInt degree), some (oD eInt many), some ((oL (oD eInt)) s), none, none] : DEnv))) h10 rfl
    · refine tl_ifF2 (u_bool (u_d2 (u_d2 (u_var 1 rfl) (u_c _) (f_mod rfl)) (u_c _) rfl)) hc ?_
      clear hc
      obtain ⟨v4, e_v4, h11⟩ := of_bind h3
      clear h3
      obtain ⟨found6, h16, h17⟩ := of_bind h11
      clear h11
      refine tl_assoc ?_
      refine tl_blk2 (tl_for (e := eInt) (idx := [5]) (V := []) (n := 6) (T := (fun total1 : Int => [(5, (eInt total1))])) (lit := (fun s : (List Int) => ([some (oD (eL eInt) row), some (oD eInt degree), some (oD eInt many), some ((oL (oD eInt)) s), some (oD eInt lap), none] : DEnv))) h16 (u_rng2 (u_cons (u_var 1 rfl) (u_cons (u_lenN 3 rfl (oLen_L _ _)) (u_nil))) e_v4) rfl (fun _ => rfl) (fun total1 => tg_name 5 rfl) (fun _ => rfl) (by decide) ?_) ?_
      · intro total1 _ found4 s1 h12
        refine tl_at (δ' := ([some (oD (eL eInt) row), some (oD eInt degree), some (oD eInt many), some ((oL (oD eInt)) found4), some (oD eInt lap), some (oD eInt total1)] : DEnv)) rfl ?_
        obtain ⟨v5, e_v5, h13⟩ := of_bind h12
        clear h12
        obtain ⟨v6, e_v6, h14⟩ := of_bind h13
        clear h13
        obtain ⟨found5, e_found5, h15⟩ := of_bind h14
        clear h14
        refine tl_seq (δ1 := ([some (oD (eL eInt) row), some (oD eInt degree), some (oD eInt many), some ((oL (oD eInt)) found5), some (oD eInt lap), some (oD eInt total1)] : DEnv)) (u_augSub 3 (xs := found4) rfl (u_var 5 rfl) rfl e_v5 (u_ixN 3 rfl (u_d2 (u_var 5 rfl) (u_var 1 rfl) rfl) rfl (oAt_L (e := eInt) e_v6)) e_found5 rfl) ?_
        exact tl_endL (lit := (fun s : (List Int) => ([some (oD (eL eInt) row), some (oD eInt degree), some (oD eInt many), some ((oL (oD eInt)) s), some (oD eInt lap), none] : DEnv))) h15 rfl
      clear h16
      refine tl_at (δ' := ([some (oD (eL eInt) row), some (oD eInt degree), some (oD eInt many), some ((oL (oD eInt)) found6), some (oD eInt lap), none] : DEnv)) rfl ?_
      refine tl_nil ?_
      refine tl_wipe ?_
      exact tl_endL (lit := (fun s : (List Int) => ([some (oD (eL eInt) row), some (oD eInt degree), some (oD eInt many), some ((oL (oD eInt)) s), none, none] : DEnv))) h17 rfl
  clear h18
  refine tl_at (δ' := ([some (oD (eL eInt) row), some (oD eInt degree), some (oD eInt many), some ((oL (oD eInt)) found7), none, none] : DEnv)) rfl ?_
  exact tl_rtF (o := (oL (oD eInt))) h19 (u_ovar 3 rfl (rfl : _ = ([some (oD (eL eInt) row), some (oD eInt degree), some (oD eInt many), none, none, none] : DEnv)))
def t_ranks_from_series (goal : List Int) : R (List Int) :=
  U.bind (rep ([0] : List Int) ((goal.length : Int) - 1)) fun v =>
  U.bind (cat ([1] : List Int) v) fun v1 =>
  U.bind (rng2 1 (goal.length : Int)) fun v2 =>
  U.bind (forC (ρ := (List Int)) (fun (degree : Int) (st : (List Int) × (List Int)) =>
  (match st with
  | (ranks, here) =>
  U.bind (ix goal degree) fun v3 =>
  U.bind (ix here degree) fun v4 =>
  U.bind (chk ranks.length) fun w =>
  if (decide ((v3 - v4) < 0)) then
  .ok (Ctl.rt (ranks ++ [(v3 - v4)]))
  else
  U.bind (t_series_times here degree (v3 - v4)) fun v5 =>
  .ok (Ctl.nx ((ranks ++ [(v3 - v4)]), v5)))) v2 (([0] : List Int), v1)) fun c1 => (match c1 with
  | .nx (ranks1, here1) =>
  .ok ranks1
  | .bk _ => .no
  | .rt z => .ok z)
theorem den_ranks_from_series (goal : List Int) (r : List Int) (h : t_ranks_from_series goal = .ok r) : f_ranks_from_series [(oD (eL eInt) goal)] = .ok ((oL (oD eInt)) r, none) := by
  unfold t_ranks_from_series at h
  refine run_of rfl ?_
  show Tl (m_ranks_from_series ([some (oD (eL eInt) goal), none, none, none, none] : DEnv)) _
  unfold m_ranks_from_series
  obtain ⟨v, e_v, h1⟩ := of_bind h
  clear h
  obtain ⟨v1, e_v1, h2⟩ := of_bind h1
  clear h1
  refine tl_seq (δ1 := ([some (oD (eL eInt) goal), some (O.lst [(oD eInt 0)]), some ((oL (oD eInt)) v1), none, none] : DEnv)) (u_par 1 2 (u_ocons (u_lst (u_cons (u_c _) (u_nil)) rfl (rfl : _ = (O.lst [(oD eInt 0)]))) (u_ocons (u_o2 (u_frz (u_lst (u_cons (u_c _) (u_nil)) rfl (rfl : _ = (O.lst [(oD eInt 1)]))) (frz_lit [(eInt 1)])) (u_frz (u_o2 (u_frz (u_lst (u_cons (u_c _) (u_nil)) rfl (rfl : _ = (O.lst [(oD eInt 0)]))) (frz_lit [(eInt 0)])) (u_d2 (u_lenN 0 rfl (oLen_dL (e := eInt) _)) (u_c _) rfl) (fMul_L (e := eInt) e_v)) ((frz_L (frz_D eInt)) _)) (fAdd_L (e := eInt) e_v1)) u_onil)) rfl rfl) ?_
  obtain ⟨v2, e_v2, h3⟩ := of_bind h2
  clear h2
  obtain ⟨c1, h10, h11⟩ := of_bind h3
  clear h3
  refine tl_contC (tl_forC (o := (oL (oD eInt))) (e := eInt) (idx := [3]) (V := [4]) (n := 5) (T := (fun degree : Int => [(3, (eInt degree))])) (lit := (fun s : (List Int) × (List Int) => ([some (oD (eL eInt) goal), some ((oL (oD eInt)) s.1), some ((oL (oD eInt)) s.2), none, none] : DEnv))) h10 (u_rng2 (u_cons (u_c _) (u_cons (u_lenN 0 rfl (oLen_dL (e := eInt) _)) (u_nil))) e_v2) rfl (fun _ => rfl) (fun degree => tg_name 3 rfl) (fun _ => rfl) (by decide) ?_) ?_ ?_
  · rintro degree _ ⟨ranks, here⟩ c h4
    dsimp only at h4
    refine tl_at (δ' := ([some (oD (eL eInt) goal), some ((oL (oD eInt)) ranks), some ((oL (oD eInt)) here), some (oD eInt degree), none] : DEnv)) rfl ?_
    obtain ⟨v3, e_v3, h5⟩ := of_bind h4
    clear h4
    obtain ⟨v4, e_v4, h6⟩ := of_bind h5
    clear h5
    refine tl_seq (δ1 := ([some (oD (eL eInt) goal), some ((oL (oD eInt)) ranks), some ((oL (oD eInt)) here), some (oD eInt degree), some (oD eInt (v3 - v4))] : DEnv)) (u_set 4 (u_dat (u_d2 (u_ixN 0 rfl (u_var 3 rfl) rfl (oAt_dL (e := eInt) e_v3)) (u_ixN 2 rfl (u_var 3 rfl) rfl (oAt_L (e := eInt) e_v4)) rfl)) rfl rfl) ?_
    obtain ⟨w, e_w, h7⟩ := of_bind h6
    clear h6
    refine tl_seq (δ1 := ([some (oD (eL eInt) goal), some ((oL (oD eInt)) (ranks ++ [(v3 - v4)])), some ((oL (oD eInt)) here), some (oD eInt degree), some (oD eInt (v3 - v4))] : DEnv)) (u_append 1 (o := (oD eInt)) (xs := ranks) (y := (v3 - v4)) rfl (u_dat (u_var 4 rfl)) rfl rfl (of_chk e_w) rfl) ?_
    rcases of_ite h7 with ⟨hc, h8⟩ | ⟨hc, h8⟩ <;> clear h7
    · refine tl_ifT2 (u_bool (u_d2 (u_var 4 rfl) (u_c _) rfl)) hc ?_
      clear hc
      refine tl_assoc ?_
      exact tl_rtC (lit := (fun s : (List Int) × (List Int) => ([some (oD (eL eInt) goal), some ((oL (oD eInt)) s.1), some ((oL (oD eInt)) s.2), none, none] : DEnv))) (o := (oL (oD eInt))) h8 (u_ovar 1 rfl (rfl : _ = ([some (oD (eL eInt) goal), none, some ((oL (oD eInt)) here), some (oD eInt degree), some (oD eInt (v3 - v4))] : DEnv)))
    · refine tl_ifF2 (u_bool (u_d2 (u_var 4 rfl) (u_c _) rfl)) hc ?_
      clear hc
      refine tl_nil ?_
      refine tl_wipe ?_
      obtain ⟨v5, e_v5, h9⟩ := of_bind h8
      clear h8
      refine tl_seq (δ1 := ([some (oD (eL eInt) goal), some ((oL (oD eInt)) (ranks ++ [(v3 - v4)])), some ((oL (oD eInt)) v5), some (oD eInt degree), some (oD eInt (v3 - v4))] : DEnv)) (u_set 2 (u_call (xs := [(eL eInt) here, eInt degree, eInt (v3 - v4)]) (u_cons (u_varL 2 rfl ((frz_L (frz_D eInt)) _) (rfl : _ = ([some (oD (eL eInt) goal), some ((oL (oD eInt)) (ranks ++ [(v3 - v4)])), some (oD (eL eInt) here), some (oD eInt degree), some (oD eInt (v3 - v4))] : DEnv))) (u_cons (u_var 3 rfl) (u_cons (u_var 4 rfl) (u_nil)))) (den_series_times here degree (v3 - v4) _ e_v5)) rfl rfl) ?_
      exact tl_endC (lit := (fun s : (List Int) × (List Int) => ([some (oD (eL eInt) goal), some ((oL (oD eInt)) s.1), some ((oL (oD eInt)) s.2), none, none] : DEnv))) h9 rfl
  · rintro ⟨ranks1, here1⟩ rfl
    dsimp only at h11
    clear h10
    refine tl_at (δ' := ([some (oD (eL eInt) goal), some ((oL (oD eInt)) ranks1), some ((oL (oD eInt)) here1), none, none] : DEnv)) rfl ?_
    exact tl_rtF (o := (oL (oD eInt))) h11 (u_ovar 1 rfl (rfl : _ = ([some (oD (eL eInt) goal), none, some ((oL (oD eInt)) here1), none, none] : DEnv)))
  · rintro z rfl δq
    dsimp only at h11
    exact pf_rtv h11 δq
def t_free_ranks_in (degrees : List Int) (most : Int) : R (List Int) :=
  U.bind (t_words_series degrees most) fun v =>
  U.bind (t_ranks_from_series v) fun v1 =>
  .ok v1
theorem den_free_ranks_in (degrees : List Int) (most : Int) (r : List Int) (h : t_free_ranks_in degrees most = .ok r) : f_free_ranks_in [(oD (eT eInt) degrees), (oD eInt most)] = .ok ((oD (eT eInt)) r, none) := by
  unfold t_free_ranks_in at h
  refine run_of rfl ?_
  show Tl (m_free_ranks_in ([some (oD (eT eInt) degrees), some (oD eInt most)] : DEnv)) _
  unfold m_free_ranks_in
  obtain ⟨v, e_v, h1⟩ := of_bind h
  clear h
  obtain ⟨v1, e_v1, h2⟩ := of_bind h1
  clear h1
  exact tl_rtF (o := (oD (eT eInt))) h2 (u_dat (u_d1 (u_frz (u_call (xs := [(eL eInt) v]) (u_cons (u_frz (u_call (xs := [(eT eInt) degrees, eInt most]) (u_cons (u_var 0 rfl) (u_cons (u_var 1 rfl) (u_nil))) (den_words_series degrees most _ e_v)) ((frz_L (frz_D eInt)) _)) (u_nil)) (den_ranks_from_series v _ e_v1)) ((frz_L (frz_D eInt)) _)) (show _ = R.ok (eT eInt v1) from rfl)))
def t_free_ranks (degrees : List Int) (most : Int) : R (List Int) :=
  U.bind (t_sure_list_2 degrees 1) fun v =>
  U.bind (t_sure_within most 0 40) fun v1 =>
  U.bind (t_free_ranks_in v v1) fun v2 =>
  .ok v2
theorem den_free_ranks (degrees : List Int) (most : Int) (r : List Int) (h : t_free_ranks degrees most = .ok r) : f_free_ranks [(oD (eT eInt) degrees), (oD eInt most)] = .ok ((oD (eT eInt)) r, none) := by
  unfold t_free_ranks at h
  refine run_of rfl ?_
  show Tl (m_free_ranks ([some (oD (eT eInt) degrees), some (oD eInt most), none] : DEnv)) _
  unfold m_free_ranks
  obtain ⟨v, e_v, h1⟩ := of_bind h
  clear h
  refine tl_seq (δ1 := ([some (oD (eT eInt) degrees), some (oD eInt most), some (oD (eT eInt) v)] : DEnv)) (u_set 2 (u_call (xs := [(eT eInt) degrees, eInt 1]) (u_cons (u_var 0 rfl) (u_cons (u_c _) (u_nil))) (den_sure_list_2 degrees 1 _ e_v)) rfl rfl) ?_
  obtain ⟨v1, e_v1, h2⟩ := of_bind h1
  clear h1
  obtain ⟨v2, e_v2, h3⟩ := of_bind h2
  clear h2
  exact tl_rtF (o := (oD (eT eInt))) h3 (u_call (xs := [(eT eInt) v, eInt v1]) (u_cons (u_var 2 rfl) (u_cons (u_frz (u_call (xs := [eInt most, eInt 0, eInt 40]) (u_cons (u_var 1 rfl) (u_cons (u_c _) (u_cons (u_c _) (u_nil)))) (den_sure_within most 0 40 _ e_v1)) (frz_d _)) (u_nil))) (den_free_ranks_in v v1 _ e_v2))
def t_free_ranks_2 (degrees : List Int) (most : Int) : R (List Int) :=
  U.bind (t_sure_list degrees 1) fun v =>
  U.bind (t_sure_within most 0 40) fun v1 =>
  U.bind (t_free_ranks_in v v1) fun v2 =>
  .ok v2
theorem den_free_ranks_2 (degrees : List Int) (most : Int) (r : List Int) (h : t_free_ranks_2 degrees most = .ok r) : f_free_ranks [(oD (eL eInt) degrees), (oD eInt most)] = .ok ((oD (eT eInt)) r, none) := by
  unfold t_free_ranks_2 at h
  refine run_of rfl ?_
  show Tl (m_free_ranks ([some (oD (eL eInt) degrees), some (oD eInt most), none] : DEnv)) _
  unfold m_free_ranks
  obtain ⟨v, e_v, h1⟩ := of_bind h
  clear h
  refine tl_seq (δ1 := ([some (oD (eL eInt) degrees), some (oD eInt most), some (oD (eT eInt) v)] : DEnv)) (u_set 2 (u_call (xs := [(eL eInt) degrees, eInt 1]) (u_cons (u_var 0 rfl) (u_cons (u_c _) (u_nil))) (den_sure_list degrees 1 _ e_v)) rfl rfl) ?_
  obtain ⟨v1, e_v1, h2⟩ := of_bind h1
  clear h1
  obtain ⟨v2, e_v2, h3⟩ := of_bind h2
  clear h2
  exact tl_rtF (o := (oD (eT eInt))) h3 (u_call (xs := [(eT eInt) v, eInt v1]) (u_cons (u_var 2 rfl) (u_cons (u_frz (u_call (xs := [eInt most, eInt 0, eInt 40]) (u_cons (u_var 1 rfl) (u_cons (u_c _) (u_cons (u_c _) (u_nil)))) (den_sure_within most 0 40 _ e_v1)) (frz_d _)) (u_nil))) (den_free_ranks_in v v1 _ e_v2))
def t__law_same_4 (got : Int) (due : Int) : R Bool :=
  .ok (decide (got = due))
theorem den__law_same_4 (fu : Nat) (got : Int) (due : Int) (r : Bool) (h : t__law_same_4 got due = .ok r) : f__law_same (fu + 1) [(oD eInt got), (oD eInt due)] = .ok ((oD eBl) r, none) := by
  unfold t__law_same_4 at h
  refine run_of rfl ?_
  show Tl (m__law_same (f__law_same (fu + 0)) ([some (oD eInt got), some (oD eInt due), none, none] : DEnv)) _
  unfold m__law_same
  refine tl_ifF (u_bool (u_d1 (u_var 1 rfl) (show _ = R.ok (D.bl false) from rfl))) ?_
  refine tl_nil ?_
  refine tl_wipe ?_
  refine tl_ifF (u_bool (u_d2 (u_var 1 rfl) (u_c _) rfl)) ?_
  refine tl_nil ?_
  refine tl_wipe ?_
  refine tl_ifF (u_bool (u_d1 (u_var 1 rfl) (show _ = R.ok (D.bl false) from rfl))) ?_
  refine tl_nil ?_
  refine tl_wipe ?_
  exact tl_rtF (o := (oD eBl)) h (u_dat (u_andV1 (u_d1 (u_var 0 rfl) (show _ = R.ok (D.bl true) from rfl)) (u_andV1 (u_d1 (u_d1 (u_var 0 rfl) (show _ = R.ok (D.bl false) from rfl)) rfl) (u_d2 (u_var 0 rfl) (u_var 1 rfl) rfl))))
def t__law_same_3 (got : List Int) (due : List Int) : R Bool :=
  if ((!decide (false = false)) || (!decide (true = true))) then
  .ok false
  else
  U.bind (if (decide ((got.length : Int) = (due.length : Int))) then (U.bind (chk (got.zip due).length) fun w =>
  U.bind (mapM (fun p : Int × Int => U.bind (t__law_same_4 p.1 p.2) fun v =>
  .ok v) (got.zip due)) fun v1 =>
  .ok (v1.all id)) else .ok false) fun b =>
  .ok b
theorem den__law_same_3 (fu : Nat) (got : List Int) (due : List Int) (r : Bool) (h : t__law_same_3 got due = .ok r) : f__law_same (fu + 2) [(oD (eT eInt) got), (oD (eT eInt) due)] = .ok ((oD eBl) r, none) := by
  unfold t__law_same_3 at h
  refine run_of rfl ?_
  show Tl (m__law_same (f__law_same (fu + 1)) ([some (oD (eT eInt) got), some (oD (eT eInt) due), none, none] : DEnv)) _
  unfold m__law_same
  refine tl_ifT (u_bool (u_d1 (u_var 1 rfl) (show _ = R.ok (D.bl true) from rfl))) ?_
  rcases of_ite h with ⟨hc, h1⟩ | ⟨hc, h1⟩ <;> clear h
  · refine tl_assoc ?_
    refine tl_ifT2 (u_orT (u_bool (u_d2 (u_d1 (u_var 0 rfl) (show _ = R.ok (D.bl false) from rfl)) (u_d1 (u_var 1 rfl) (show _ = R.ok (D.bl false) from rfl)) (f_ne eq_bl rfl false false))) (fun _ => u_bool (u_d2 (u_d1 (u_var 0 rfl) (show _ = R.ok (D.bl true) from rfl)) (u_d1 (u_var 1 rfl) (show _ = R.ok (D.bl true) from rfl)) (f_ne eq_bl rfl true true)))) hc ?_
    clear hc
    refine tl_assoc ?_
    exact tl_rtF (o := (oD eBl)) h1 (u_dat (u_c _))
  · refine tl_assoc ?_
    refine tl_ifF2 (u_orT (u_bool (u_d2 (u_d1 (u_var 0 rfl) (show _ = R.ok (D.bl false) from rfl)) (u_d1 (u_var 1 rfl) (show _ = R.ok (D.bl false) from rfl)) (f_ne eq_bl rfl false false))) (fun _ => u_bool (u_d2 (u_d1 (u_var 0 rfl) (show _ = R.ok (D.bl true) from rfl)) (u_d1 (u_var 1 rfl) (show _ = R.ok (D.bl true) from rfl)) (f_ne eq_bl rfl true true)))) hc ?_
    clear hc
    refine tl_nil ?_
    refine tl_wipes ?_
    obtain ⟨b, e_b, h5⟩ := of_bind h1
    clear h1
    refine tl_assoc ?_
    exact tl_rtF (o := (oD eBl)) h5 (u_dat (u_andVM e_b (u_d2 (u_lenN 0 rfl (oLen_T (e := eInt) _)) (u_lenN 1 rfl (oLen_T (e := eInt) _)) rfl) (fun _ hA => (match of_bind hA with | ⟨w, e_w, h3⟩ => (match of_bind h3 with | ⟨v1, e_v1, h4⟩ => u_br (p := fun z : Bool => (eBl z, ([some (oD (eT eInt) got), some (oD (eT eInt) due), none, none] : DEnv))) h4 (u_d1 (u_frz (u_compMA (e := (eP eInt eInt)) (e2 := eBl) (T := (fun p => [(2, (eInt p.1)), (3, (eInt p.2))])) (δw := ([some (oD (eT eInt) got), some (oD (eT eInt) due), none, none] : DEnv)) (n := 4) (vs := [2, 3]) (f := (fun p : Int × Int => U.bind (t__law_same_4 p.1 p.2) fun v =>
  .ok v)) e_v1 (u_zip (e := eInt) (e2 := eInt) (xs := got) (ys := due) (u_cons (u_var 0 rfl) (u_cons (u_var 1 rfl) (u_nil))) rfl) (of_chk e_w) rfl rfl (fun p => tg_tup (tgs_cons (tg_name 2 rfl) (tgs_cons (tg_name 3 rfl) (tgs_nil))) rfl) (fun _ => rfl) (fun p _ y hA => u_at (δ' := ([some (oD (eT eInt) got), some (oD (eT eInt) due), some (oD eInt p.1), some (oD eInt p.2)] : DEnv)) rfl ((match of_bind hA with | ⟨v, e_v, h2⟩ => u_br (p := fun z : Bool => (eBl z, ([some (oD (eT eInt) got), some (oD (eT eInt) due), some (oD eInt p.1), some (oD eInt p.2)] : DEnv))) h2 (u_frz (u_call (xs := [eInt p.1, eInt p.2]) (u_cons (u_var 2 rfl) (u_cons (u_var 3 rfl) (u_nil))) (den__law_same_4 (fu + 0) p.1 p.2 _ e_v)) (frz_d _))))) (rfl : _ = ([some (oD (eT eInt) got), some (oD (eT eInt) due), none, none] : DEnv))) ((frz_L (frz_D eBl)) _)) (fAll_L v1)))))))
def t__law_same_2 (got : List (List Int)) (due : List (List Int)) : R Bool :=
  if ((!decide (true = true)) || (!decide (false = false))) then
  .ok false
  else
  U.bind (if (decide ((got.length : Int) = (due.length : Int))) then (U.bind (chk (got.zip due).length) fun w =>
  U.bind (mapM (fun p : (List Int) × (List Int) => U.bind (t__law_same_3 p.1 p.2) fun v =>
  .ok v) (got.zip due)) fun v1 =>
  .ok (v1.all id)) else .ok false) fun b =>
  .ok b
theorem den__law_same_2 (fu : Nat) (got : List (List Int)) (due : List (List Int)) (r : Bool) (h : t__law_same_2 got due = .ok r) : f__law_same (fu + 3) [(oD (eL (eT eInt)) got), (oD (eL (eT eInt)) due)] = .ok ((oD eBl) r, none) := by
  unfold t__law_same_2 at h
  refine run_of rfl ?_
  show Tl (m__law_same (f__law_same (fu + 2)) ([some (oD (eL (eT eInt)) got), some (oD (eL (eT eInt)) due), none, none] : DEnv)) _
  unfold m__law_same
  refine tl_ifT (u_bool (u_d1 (u_var 1 rfl) (show _ = R.ok (D.bl true) from rfl))) ?_
  rcases of_ite h with ⟨hc, h1⟩ | ⟨hc, h1⟩ <;> clear h
  · refine tl_assoc ?_
    refine tl_ifT2 (u_orT (u_bool (u_d2 (u_d1 (u_var 0 rfl) (show _ = R.ok (D.bl true) from rfl)) (u_d1 (u_var 1 rfl) (show _ = R.ok (D.bl true) from rfl)) (f_ne eq_bl rfl true true))) (fun _ => u_bool (u_d2 (u_d1 (u_var 0 rfl) (show _ = R.ok (D.bl false) from rfl)) (u_d1 (u_var 1 rfl) (show _ = R.ok (D.bl false) from rfl)) (f_ne eq_bl rfl false false)))) hc ?_
    clear hc
    refine tl_assoc ?_
    exact tl_rtF (o := (oD eBl)) h1 (u_dat (u_c _))
  · refine tl_assoc ?_
    refine tl_ifF2 (u_orT (u_bool (u_d2 (u_d1 (u_var 0 rfl) (show _ = R.ok (D.bl true) from rfl)) (u_d1 (u_var 1 rfl) (show _ = R.ok (D.bl true) from rfl)) (f_ne eq_bl rfl true true))) (fun _ => u_bool (u_d2 (u_d1 (u_var 0 rfl) (show _ = R.ok (D.bl false) from rfl)) (u_d1 (u_var 1 rfl) (show _ = R.ok (D.bl false) from rfl)) (f_ne eq_bl rfl false false)))) hc ?_
    clear hc
    refine tl_nil ?_
    refine tl_wipes ?_
    obtain ⟨b, e_b, h5⟩ := of_bind h1
    clear h1
    refine tl_assoc ?_
    exact tl_rtF (o := (oD eBl)) h5 (u_dat (u_andVM e_b (u_d2 (u_lenN 0 rfl (oLen_dL (e := (eT eInt)) _)) (u_lenN 1 rfl (oLen_dL (e := (eT eInt)) _)) rfl) (fun _ hA => (match of_bind hA with | ⟨w, e_w, h3⟩ => (match of_bind h3 with | ⟨v1, e_v1, h4⟩ => u_br (p := fun z : Bool => (eBl z, ([some (oD (eL (eT eInt)) got), some (oD (eL (eT eInt)) due), none, none] : DEnv))) h4 (u_d1 (u_frz (u_compMA (e := (eP (eT eInt) (eT eInt))) (e2 := eBl) (T := (fun p => [(2, ((eT eInt) p.1)), (3, ((eT eInt) p.2))])) (δw := ([some (oD (eL (eT eInt)) got), some (oD (eL (eT eInt)) due), none, none] : DEnv)) (n := 4) (vs := [2, 3]) (f := (fun p : (List Int) × (List Int) => U.bind (t__law_same_3 p.1 p.2) fun v =>
  .ok v)) e_v1 (u_zip (e := (eT eInt)) (e2 := (eT eInt)) (xs := got) (ys := due) (u_cons (u_var 0 rfl) (u_cons (u_var 1 rfl) (u_nil))) rfl) (of_chk e_w) rfl rfl (fun p => tg_tup (tgs_cons (tg_name 2 rfl) (tgs_cons (tg_name 3 rfl) (tgs_nil))) rfl) (fun _ => rfl) (fun p _ y hA => u_at (δ' := ([some (oD (eL (eT eInt)) got), some (oD (eL (eT eInt)) due), some (oD (eT eInt) p.1), some (oD (eT eInt) p.2)] : DEnv)) rfl ((match of_bind hA with | ⟨v, e_v, h2⟩ => u_br (p := fun z : Bool => (eBl z, ([some (oD (eL (eT eInt)) got), some (oD (eL (eT eInt)) due), some (oD (eT eInt) p.1), some (oD (eT eInt) p.2)] : DEnv))) h2 (u_frz (u_call (xs := [(eT eInt) p.1, (eT eInt) p.2]) (u_cons (u_var 2 rfl) (u_cons (u_var 3 rfl) (u_nil))) (den__law_same_3 (fu + 0) p.1 p.2 _ e_v)) (frz_d _))))) (rfl : _ = ([some (oD (eL (eT eInt)) got), some (oD (eL (eT eInt)) due), none, none] : DEnv))) ((frz_L (frz_D eBl)) _)) (fAll_L v1)))))))
def t__law_same (got : (List (List Int)) × (List Int) × (List Int)) (due : (List (List Int)) × (List Int) × (List Int)) : R Bool :=
  if ((!decide (true = true)) || (!decide (false = false))) then
  .ok false
  else
  U.bind (t__law_same_2 got.1 due.1) fun v =>
  U.bind (t__law_same_3 got.2.1 due.2.1) fun v1 =>
  U.bind (t__law_same_3 got.2.2 due.2.2) fun v2 =>
  .ok (([v, v1, v2] : List Bool).all id)
theorem den__law_same (fu : Nat) (got : (List (List Int)) × (List Int) × (List Int)) (due : (List (List Int)) × (List Int) × (List Int)) (r : Bool) (h : t__law_same got due = .ok r) : f__law_same (fu + 4) [(oD (fun p : (List (List Int)) × (List Int) × (List Int) => D.lst [(eL (eT eInt)) p.1, (eT eInt) p.2.1, (eT eInt) p.2.2]) got), (oD (fun p : (List (List Int)) × (List Int) × (List Int) => D.lst [(eL (eT eInt)) p.1, (eT eInt) p.2.1, (eT eInt) p.2.2]) due)] = .ok ((oD eBl) r, none) := by
  unfold t__law_same at h
  refine run_of rfl ?_
  show Tl (m__law_same (f__law_same (fu + 3)) ([some (oD (fun p : (List (List Int)) × (List Int) × (List Int) => D.lst [(eL (eT eInt)) p.1, (eT eInt) p.2.1, (eT eInt) p.2.2]) got), some (oD (fun p : (List (List Int)) × (List Int) × (List Int) => D.lst [(eL (eT eInt)) p.1, (eT eInt) p.2.1, (eT eInt) p.2.2]) due), none, none] : DEnv)) _
  unfold m__law_same
  refine tl_ifT (u_bool (u_d1 (u_var 1 rfl) (show _ = R.ok (D.bl true) from rfl))) ?_
  rcases of_ite h with ⟨hc, h1⟩ | ⟨hc, h1⟩ <;> clear h
  · refine tl_assoc ?_
    refine tl_ifT2 (u_orT (u_bool (u_d2 (u_d1 (u_var 0 rfl) (show _ = R.ok (D.bl true) from rfl)) (u_d1 (u_var 1 rfl) (show _ = R.ok (D.bl true) from rfl)) (f_ne eq_bl rfl true true))) (fun _ => u_bool (u_d2 (u_d1 (u_var 0 rfl) (show _ = R.ok (D.bl false) from rfl)) (u_d1 (u_var 1 rfl) (show _ = R.ok (D.bl false) from rfl)) (f_ne eq_bl rfl false false)))) hc ?_
    clear hc
    refine tl_assoc ?_
    exact tl_rtF (o := (oD eBl)) h1 (u_dat (u_c _))
  · refine tl_assoc ?_
    refine tl_ifF2 (u_orT (u_bool (u_d2 (u_d1 (u_var 0 rfl) (show _ = R.ok (D.bl true) from rfl)) (u_d1 (u_var 1 rfl) (show _ = R.ok (D.bl true) from rfl)) (f_ne eq_bl rfl true true))) (fun _ => u_bool (u_d2 (u_d1 (u_var 0 rfl) (show _ = R.ok (D.bl false) from rfl)) (u_d1 (u_var 1 rfl) (show _ = R.ok (D.bl false) from rfl)) (f_ne eq_bl rfl false false)))) hc ?_
    clear hc
    refine tl_nil ?_
    refine tl_wipes ?_
    obtain ⟨v, e_v, h2⟩ := of_bind h1
    clear h1
    obtain ⟨v1, e_v1, h3⟩ := of_bind h2
    clear h2
    obtain ⟨v2, e_v2, h4⟩ := of_bind h3
    clear h3
    refine tl_assoc ?_
    exact tl_rtF (o := (oD eBl)) h4 (u_dat (u_andV1 (u_d2 (u_lenN 0 rfl (show _ = R.ok (D.int 3) from rfl)) (u_lenN 1 rfl (show _ = R.ok (D.int 3) from rfl)) (show _ = R.ok (D.bl true) from rfl)) (u_d1 (u_frz (u_compL (vs := [2, 3]) (δw := ([some (oD (fun p : (List (List Int)) × (List Int) × (List Int) => D.lst [(eL (eT eInt)) p.1, (eT eInt) p.2.1, (eT eInt) p.2.2]) got), some (oD (fun p : (List (List Int)) × (List Int) × (List Int) => D.lst [(eL (eT eInt)) p.1, (eT eInt) p.2.1, (eT eInt) p.2.2]) due), none, none] : DEnv)) (u_zipL (u_cons (u_var 0 rfl) (u_cons (u_var 1 rfl) (u_nil))) rfl) rfl rfl (u_lc1 (δ1 := ([some (oD (fun p : (List (List Int)) × (List Int) × (List Int) => D.lst [(eL (eT eInt)) p.1, (eT eInt) p.2.1, (eT eInt) p.2.2]) got), some (oD (fun p : (List (List Int)) × (List Int) × (List Int) => D.lst [(eL (eT eInt)) p.1, (eT eInt) p.2.1, (eT eInt) p.2.2]) due), some (oD (eL (eT eInt)) got.1), some (oD (eL (eT eInt)) due.1)] : DEnv)) ((tg_tup (tgs_cons (tg_name 2 rfl) (tgs_cons (tg_name 3 rfl) (tgs_nil))) rfl) _ rfl) rfl (u_frz (u_call (xs := [(eL (eT eInt)) got.1, (eL (eT eInt)) due.1]) (u_cons (u_var 2 rfl) (u_cons (u_var 3 rfl) (u_nil))) (den__law_same_2 (fu + 0) got.1 due.1 _ e_v)) (frz_d _)) (rfl : _ = ([some (oD (fun p : (List (List Int)) × (List Int) × (List Int) => D.lst [(eL (eT eInt)) p.1, (eT eInt) p.2.1, (eT eInt) p.2.2]) got), some (oD (fun p : (List (List Int)) × (List Int) × (List Int) => D.lst [(eL (eT eInt)) p.1, (eT eInt) p.2.1, (eT eInt) p.2.2]) due), none, none] : DEnv)) (u_lc1 (δ1 := ([some (oD (fun p : (List (List Int)) × (List Int) × (List Int) => D.lst [(eL (eT eInt)) p.1, (eT eInt) p.2.1, (eT eInt) p.2.2]) got), some (oD (fun p : (List (List Int)) × (List Int) × (List Int) => D.lst [(eL (eT eInt)) p.1, (eT eInt) p.2.1, (eT eInt) p.2.2]) due), some (oD (eT eInt) got.2.1), some (oD (eT eInt) due.2.1)] : DEnv)) ((tg_tup (tgs_cons (tg_name 2 rfl) (tgs_cons (tg_name 3 rfl) (tgs_nil))) rfl) _ rfl) rfl (u_frz (u_call (xs := [(eT eInt) got.2.1, (eT eInt) due.2.1]) (u_cons (u_var 2 rfl) (u_cons (u_var 3 rfl) (u_nil))) (den__law_same_3 (fu + 1) got.2.1 due.2.1 _ e_v1)) (frz_d _)) (rfl : _ = ([some (oD (fun p : (List (List Int)) × (List Int) × (List Int) => D.lst [(eL (eT eInt)) p.1, (eT eInt) p.2.1, (eT eInt) p.2.2]) got), some (oD (fun p : (List (List Int)) × (List Int) × (List Int) => D.lst [(eL (eT eInt)) p.1, (eT eInt) p.2.1, (eT eInt) p.2.2]) due), none, none] : DEnv)) (u_lc1 (δ1 := ([some (oD (fun p : (List (List Int)) × (List Int) × (List Int) => D.lst [(eL (eT eInt)) p.1, (eT eInt) p.2.1, (eT eInt) p.2.2]) got), some (oD (fun p : (List (List Int)) × (List Int) × (List Int) => D.lst [(eL (eT eInt)) p.1, (eT eInt) p.2.1, (eT eInt) p.2.2]) due), some (oD (eT eInt) got.2.2), some (oD (eT eInt) due.2.2)] : DEnv)) ((tg_tup (tgs_cons (tg_name 2 rfl) (tgs_cons (tg_name 3 rfl) (tgs_nil))) rfl) _ rfl) rfl (u_frz (u_call (xs := [(eT eInt) got.2.2, (eT eInt) due.2.2]) (u_cons (u_var 2 rfl) (u_cons (u_var 3 rfl) (u_nil))) (den__law_same_3 (fu + 1) got.2.2 due.2.2 _ e_v2)) (frz_d _)) (rfl : _ = ([some (oD (fun p : (List (List Int)) × (List Int) × (List Int) => D.lst [(eL (eT eInt)) p.1, (eT eInt) p.2.1, (eT eInt) p.2.2]) got), some (oD (fun p : (List (List Int)) × (List Int) × (List Int) => D.lst [(eL (eT eInt)) p.1, (eT eInt) p.2.1, (eT eInt) p.2.2]) due), none, none] : DEnv)) (u_lc0)))) rfl (rfl : _ = ([some (oD (fun p : (List (List Int)) × (List Int) × (List Int) => D.lst [(eL (eT eInt)) p.1, (eT eInt) p.2.1, (eT eInt) p.2.2]) got), some (oD (fun p : (List (List Int)) × (List Int) × (List Int) => D.lst [(eL (eT eInt)) p.1, (eT eInt) p.2.1, (eT eInt) p.2.2]) due), none, none] : DEnv)) (rfl : _ = (O.lst [(oD eBl v), (oD eBl v1), (oD eBl v2)]))) (frz_lit [(eBl v), (eBl v1), (eBl v2)])) (fAll_L ([v, v1, v2] : List Bool)))))
def t__law_pick (tin : List Int) (goods_so : List (List Int)) (count_so : Int) : R ((List (List Int)) × (List Int)) :=
  U.bind (rng1 (if (goods_so.length : Int) < count_so then (goods_so.length : Int) else count_so)) fun v =>
  U.bind (forM (fun (lap : Int) (st : (List Int) × (List (List Int)) × (List (List Int))) =>
  (match st with
  | (tin1, pool_so, found) =>
  U.bind (t__law_take tin1 (pool_so.length : Int)) fun v1 =>
  U.bind (popAt pool_so v1.1) fun v2 =>
  U.bind (chk found.length) fun w =>
  .ok (v1.2, v2.2, (found ++ [v2.1])))) v (tin, goods_so, ([] : List (List Int)))) fun (tin2, pool_so1, found1) =>
  .ok (found1, tin2)
theorem den__law_pick (tin : List Int) (goods_so : List (List Int)) (count_so : Int) (r : (List (List Int)) × (List Int)) (h : t__law_pick tin goods_so count_so = .ok r) : f__law_pick [((oL (oD eInt)) tin), (oD (eL (eT eInt)) goods_so), (oD eInt count_so)] = .ok ((oL (oD (eT eInt))) r.1, some ((oL (oD eInt)) r.2)) := by
  unfold t__law_pick at h
  refine run_ofR rfl ?_
  show Tl (m__law_pick ([some ((oL (oD eInt)) tin), some (oD (eL (eT eInt)) goods_so), some (oD eInt count_so), none, none, none] : DEnv)) _
  unfold m__law_pick
  refine tl_seq (δ1 := ([some ((oL (oD eInt)) tin), some (oD (eL (eT eInt)) goods_so), some (oD eInt count_so), some ((oL (oD (eT eInt))) goods_so), some (O.lst []), none] : DEnv)) (u_par 3 4 (u_ocons (u_o1 (u_var 1 rfl) (fList_L (e := (eT eInt)) _)) (u_ocons (u_lst (u_nil) rfl (rfl : _ = (O.lst []))) u_onil)) rfl rfl) ?_
  obtain ⟨v, e_v, h6⟩ := of_bind h
  clear h
  obtain ⟨⟨tin2, pool_so1, found1⟩, h11, h12⟩ := of_bind h6
  clear h6
  dsimp only at h12
  refine tl_blk (tl_for (e := eInt) (idx := [5]) (V := []) (n := 6) (T := (fun lap : Int => [(5, (eInt lap))])) (lit := (fun s : (List Int) × (List (List Int)) × (List (List Int)) => ([some ((oL (oD eInt)) s.1), some (oD (eL (eT eInt)) goods_so), some (oD eInt count_so), some ((oL (oD (eT eInt))) s.2.1), some ((oL (oD (eT eInt))) s.2.2), none] : DEnv))) h11 (u_rng1 (u_cons (u_min2 (u_cons (u_d1 (u_var 2 rfl) rfl) (u_cons (u_lenN 3 rfl (oLen_L _ _)) (u_nil)))) (u_nil)) e_v) rfl (fun _ => rfl) (fun lap => tg_name 5 rfl) (fun _ => rfl) (by decide) ?_) ?_
  · rintro lap _ ⟨tin1, pool_so, found⟩ s0 h7
    dsimp only at h7
    refine tl_at (δ' := ([some ((oL (oD eInt)) tin1), some (oD (eL (eT eInt)) goods_so), some (oD eInt count_so), some ((oL (oD (eT eInt))) pool_so), some ((oL (oD (eT eInt))) found), some (oD eInt lap)] : DEnv)) rfl ?_
    obtain ⟨v1, e_v1, h8⟩ := of_bind h7
    clear h7
    obtain ⟨v2, e_v2, h9⟩ := of_bind h8
    clear h8
    obtain ⟨w, e_w, h10⟩ := of_bind h9
    clear h9
    refine tl_seq (δ1 := ([some ((oL (oD eInt)) v1.2), some (oD (eL (eT eInt)) goods_so), some (oD eInt count_so), some ((oL (oD (eT eInt))) v2.2), some ((oL (oD (eT eInt))) (found ++ [v2.1])), some (oD eInt lap)] : DEnv)) (u_append 4 (o := (oD (eT eInt))) (xs := found) (y := v2.1) rfl (u_dat (u_popAt 3 (e := (eT eInt)) rfl (u_cons (u_frz (u_callR (xs := [eInt (pool_so.length : Int)]) 0 rfl (u_cons (u_lenN 3 rfl (oLen_L _ _)) (u_nil)) rfl (den__law_take tin1 (pool_so.length : Int) _ e_v1) (rfl : _ = ([some ((oL (oD eInt)) v1.2), some (oD (eL (eT eInt)) goods_so), some (oD eInt count_so), some ((oL (oD (eT eInt))) pool_so), some ((oL (oD (eT eInt))) found), some (oD eInt lap)] : DEnv))) (frz_d _)) u_nil) rfl e_v2 (rfl : _ = ([some ((oL (oD eInt)) v1.2), some (oD (eL (eT eInt)) goods_so), some (oD eInt count_so), some ((oL (oD (eT eInt))) v2.2), some ((oL (oD (eT eInt))) found), some (oD eInt lap)] : DEnv)))) rfl rfl (of_chk e_w) rfl) ?_
    exact tl_endL (lit := (fun s : (List Int) × (List (List Int)) × (List (List Int)) => ([some ((oL (oD eInt)) s.1), some (oD (eL (eT eInt)) goods_so), some (oD eInt count_so), some ((oL (oD (eT eInt))) s.2.1), some ((oL (oD (eT eInt))) s.2.2), none] : DEnv))) h10 rfl
  clear h11
  refine tl_at (δ' := ([some ((oL (oD eInt)) tin2), some (oD (eL (eT eInt)) goods_so), some (oD eInt count_so), some ((oL (oD (eT eInt))) pool_so1), some ((oL (oD (eT eInt))) found1), none] : DEnv)) rfl ?_
  exact tl_rtFR (o := (oL (oD (eT eInt)))) (o' := (oL (oD eInt))) h12 (u_ovar 4 rfl (rfl : _ = ([some ((oL (oD eInt)) tin2), some (oD (eL (eT eInt)) goods_so), some (oD eInt count_so), some ((oL (oD (eT eInt))) pool_so1), none, none] : DEnv))) rfl
def t_is_basic_word (degrees : List Int) (thing : List Int) : R Bool :=
  U.bind (t_sure_list_2 degrees 1) fun v =>
  U.bind (t_are_numbers thing) fun v1 =>
  U.bind (if (!v1) then .ok true else (U.bind (if (decide (thing = ([] : List Int))) then .ok true else (U.bind (chk thing.length) fun w =>
  .ok ((thing.map (fun its : Int => (!(decide (0 ≤ its) && decide (its < (v.length : Int)))))).any id))) fun b =>
  .ok b)) fun b1 =>
  if b1 then
  .ok false
  else
  U.bind (t_is_lyndon thing) fun v2 =>
  if v2 then
  .ok true
  else
  U.bind (.ok ((thing.length : Int) / 2)) fun half =>
  U.bind (if (decide ((sl thing none (some half)) = (sl thing (some half) none))) then (U.bind (t_is_lyndon (sl thing none (some half))) fun v3 =>
  U.bind (if v3 then (U.bind (t_word_degree v (sl thing none (some half))) fun v4 =>
  .ok (decide ((v4 % 2) = 1))) else .ok false) fun b2 =>
  .ok b2) else .ok false) fun b3 =>
  .ok b3
theorem den_is_basic_word (degrees : List Int) (thing : List Int) (r : Bool) (h : t_is_basic_word degrees thing = .ok r) : f_is_basic_word [(oD (eT eInt) degrees), (oD (eT eInt) thing)] = .ok ((oD eBl) r, none) := by
  unfold t_is_basic_word at h
  refine run_of rfl ?_
  show Tl (m_is_basic_word ([some (oD (eT eInt) degrees), some (oD (eT eInt) thing), none, none, none] : DEnv)) _
  unfold m_is_basic_word
  obtain ⟨v, e_v, h1⟩ := of_bind h
  clear h
  refine tl_seq (δ1 := ([some (oD (eT eInt) degrees), some (oD (eT eInt) thing), some (oD (eT eInt) v), none, none] : DEnv)) (u_set 2 (u_call (xs := [(eT eInt) degrees, eInt 1]) (u_cons (u_var 0 rfl) (u_cons (u_c _) (u_nil))) (den_sure_list_2 degrees 1 _ e_v)) rfl rfl) ?_
  obtain ⟨v1, e_v1, h4⟩ := of_bind h1
  clear h1
  obtain ⟨b1, e_b1, h5⟩ := of_bind h4
  clear h4
  rcases of_ite h5 with ⟨hc, h6⟩ | ⟨hc, h6⟩ <;> clear h5
  · refine tl_ifT2 (u_orM e_b1 (u_not (u_bool (u_frz (u_call (xs := [(eT eInt) thing]) (u_cons (u_var 1 rfl) (u_nil)) (den_are_numbers thing _ e_v1)) (frz_d _)))) (fun _ hA => (match of_bind hA with | ⟨b, e_b, h3⟩ => u_br (p := fun z : Bool => (z, ([some (oD (eT eInt) degrees), some (oD (eT eInt) thing), some (oD (eT eInt) v), none, none] : DEnv))) h3 (u_orM e_b (u_bool (u_d2 (u_var 1 rfl) (u_tup (u_nil) rfl) (f_eq (eq_T eq_int) rfl thing ([] : List Int)))) (fun _ hA => (match of_bind hA with | ⟨w, e_w, h2⟩ => u_br (p := fun z : Bool => (z, ([some (oD (eT eInt) degrees), some (oD (eT eInt) thing), some (oD (eT eInt) v), none, none] : DEnv))) h2 (u_bool (u_d1 (u_frz (u_compA (e := eInt) (e2 := eBl) (T := (fun its => [(3, (eInt its))])) (δw := ([some (oD (eT eInt) degrees), some (oD (eT eInt) thing), some (oD (eT eInt) v), none, none] : DEnv)) (n := 5) (vs := [3]) (f := (fun its : Int => (!(decide (0 ≤ its) && decide (its < (v.length : Int)))))) (u_items (u_var 1 rfl) rfl) (of_chk e_w) rfl rfl (fun its => tg_name 3 rfl) (fun _ => rfl) (fun its _ => u_at (δ' := ([some (oD (eT eInt) degrees), some (oD (eT eInt) thing), some (oD (eT eInt) v), some (oD eInt its), none] : DEnv)) rfl (u_d1 ((u_chain (f := fun i j => decide (i ≤ j)) (g := fun i j => decide (i < j)) (u_c _) (u_var 3 rfl) (fun _ => u_lenN 2 rfl (oLen_T (e := eInt) _)))) rfl)) (rfl : _ = ([some (oD (eT eInt) degrees), some (oD (eT eInt) thing), some (oD (eT eInt) v), none, none] : DEnv))) ((frz_L (frz_D eBl)) _)) (fAny_L (thing.map (fun its : Int => (!(decide (0 ≤ its) && decide (its < (v.length : Int))))))))))))))) hc ?_
    clear hc
    refine tl_assoc ?_
    exact tl_rtF (o := (oD eBl)) h6 (u_dat (u_c _))
  · refine tl_ifF2 (u_orM e_b1 (u_not (u_bool (u_frz (u_call (xs := [(eT eInt) thing]) (u_cons (u_var 1 rfl) (u_nil)) (den_are_numbers thing _ e_v1)) (frz_d _)))) (fun _ hA => (match of_bind hA with | ⟨b, e_b, h3⟩ => u_br (p := fun z : Bool => (z, ([some (oD (eT eInt) degrees), some (oD (eT eInt) thing), some (oD (eT eInt) v), none, none] : DEnv))) h3 (u_orM e_b (u_bool (u_d2 (u_var 1 rfl) (u_tup (u_nil) rfl) (f_eq (eq_T eq_int) rfl thing ([] : List Int)))) (fun _ hA => (match of_bind hA with | ⟨w, e_w, h2⟩ => u_br (p := fun z : Bool => (z, ([some (oD (eT eInt) degrees), some (oD (eT eInt) thing), some (oD (eT eInt) v), none, none] : DEnv))) h2 (u_bool (u_d1 (u_frz (u_compA (e := eInt) (e2 := eBl) (T := (fun its => [(3, (eInt its))])) (δw := ([some (oD (eT eInt) degrees), some (oD (eT eInt) thing), some (oD (eT eInt) v), none, none] : DEnv)) (n := 5) (vs := [3]) (f := (fun its : Int => (!(decide (0 ≤ its) && decide (its < (v.length : Int)))))) (u_items (u_var 1 rfl) rfl) (of_chk e_w) rfl rfl (fun its => tg_name 3 rfl) (fun _ => rfl) (fun its _ => u_at (δ' := ([some (oD (eT eInt) degrees), some (oD (eT eInt) thing), some (oD (eT eInt) v), some (oD eInt its), none] : DEnv)) rfl (u_d1 ((u_chain (f := fun i j => decide (i ≤ j)) (g := fun i j => decide (i < j)) (u_c _) (u_var 3 rfl) (fun _ => u_lenN 2 rfl (oLen_T (e := eInt) _)))) rfl)) (rfl : _ = ([some (oD (eT eInt) degrees), some (oD (eT eInt) thing), some (oD (eT eInt) v), none, none] : DEnv))) ((frz_L (frz_D eBl)) _)) (fAny_L (thing.map (fun its : Int => (!(decide (0 ≤ its) && decide (its < (v.length : Int))))))))))))))) hc ?_
    clear hc
    refine tl_nil ?_
    refine tl_wipe ?_
    obtain ⟨v2, e_v2, h7⟩ := of_bind h6
    clear h6
    rcases of_ite h7 with ⟨hc, h8⟩ | ⟨hc, h8⟩ <;> clear h7
    · refine tl_ifT2 (u_bool (u_frz (u_call (xs := [(eT eInt) thing]) (u_cons (u_var 1 rfl) (u_nil)) (den_is_lyndon thing _ e_v2)) (frz_d _))) hc ?_
      clear hc
      refine tl_assoc ?_
      exact tl_rtF (o := (oD eBl)) h8 (u_dat (u_c _))
    · refine tl_ifF2 (u_bool (u_frz (u_call (xs := [(eT eInt) thing]) (u_cons (u_var 1 rfl) (u_nil)) (den_is_lyndon thing _ e_v2)) (frz_d _))) hc ?_
      clear hc
      refine tl_nil ?_
      refine tl_wipe ?_
      obtain ⟨half, e_half, h9⟩ := of_bind h8
      clear h8
      refine tl_seq (δ1 := ([some (oD (eT eInt) degrees), some (oD (eT eInt) thing), some (oD (eT eInt) v), none, some (oD eInt half)] : DEnv)) (u_set 4 (cast_ok (o := (oD eInt)) (of_ok e_half) (u_dat (u_d2 (u_lenN 1 rfl (oLen_T (e := eInt) _)) (u_c _) (f_div rfl)))) rfl rfl) ?_
      obtain ⟨b3, e_b3, h13⟩ := of_bind h9
      clear h9
      exact tl_rtF (o := (oD eBl)) h13 (u_dat (u_andVM e_b3 (u_d2 (u_frz (u_sl (u_var 1 rfl) (u_pnone) (u_psome (u_var 4 rfl)) (fSl_T (e := eInt) _ _ _)) (frz_d _)) (u_frz (u_sl (u_var 1 rfl) (u_psome (u_var 4 rfl)) (u_pnone) (fSl_T (e := eInt) _ _ _)) (frz_d _)) (f_eq (eq_T eq_int) rfl (sl thing none (some half)) (sl thing (some half) none))) (fun _ hA => (match of_bind hA with | ⟨v3, e_v3, h11⟩ => (match of_bind h11 with | ⟨b2, e_b2, h12⟩ => u_br (p := fun z : Bool => (eBl z, ([some (oD (eT eInt) degrees), some (oD (eT eInt) thing), some (oD (eT eInt) v), none, some (oD eInt half)] : DEnv))) h12 (u_andVM e_b2 (u_frz (u_call (xs := [(eT eInt) (sl thing none (some half))]) (u_cons (u_frz (u_sl (u_var 1 rfl) (u_pnone) (u_psome (u_var 4 rfl)) (fSl_T (e := eInt) _ _ _)) (frz_d _)) (u_nil)) (den_is_lyndon (sl thing none (some half)) _ e_v3)) (frz_d _)) (fun _ hA => (match of_bind hA with | ⟨v4, e_v4, h10⟩ => u_br (p := fun z : Bool => (eBl z, ([some (oD (eT eInt) degrees), some (oD (eT eInt) thing), some (oD (eT eInt) v), none, some (oD eInt half)] : DEnv))) h10 (u_d2 (u_d2 (u_frz (u_call (xs := [(eT eInt) v, (eT eInt) (sl thing none (some half))]) (u_cons (u_var 2 rfl) (u_cons (u_frz (u_sl (u_var 1 rfl) (u_pnone) (u_psome (u_var 4 rfl)) (fSl_T (e := eInt) _ _ _)) (frz_d _)) (u_nil))) (den_word_degree v (sl thing none (some half)) _ e_v4)) (frz_d _)) (u_c _) (f_mod rfl)) (u_c _) rfl)))))))))
def t_cut_word (degrees : List Int) (word : List Int) : R ((List Int) × (List Int)) :=
  U.bind (t_sure_list_2 degrees 1) fun v =>
  U.bind (t_tupled word) fun v1 =>
  U.bind (t_is_basic_word v v1) fun v2 =>
  if (!v2) then
  .no
  else
  if (decide ((v1.length : Int) = 1)) then
  .no
  else
  U.bind (t_is_lyndon v1) fun v3 =>
  if (!v3) then
  .ok ((sl v1 none (some ((v1.length : Int) / 2))), (sl v1 (some ((v1.length : Int) / 2)) none))
  else
  U.bind (rng2 1 (v1.length : Int)) fun v4 =>
  U.bind (chk v4.length) fun w =>
  U.bind (compM (fun place : Int => U.bind (t_is_lyndon (sl v1 (some place) none)) fun v5 =>
  .ok v5) (fun place : Int => .ok place) v4) fun v6 =>
  U.bind (minL v6) fun v7 =>
  .ok ((sl v1 none (some v7)), (sl v1 (some v7) none))
theorem den_cut_word (degrees : List Int) (word : List Int) (r : (List Int) × (List Int)) (h : t_cut_word degrees word = .ok r) : f_cut_word [(oD (eT eInt) degrees), (oD (eL eInt) word)] = .ok ((oD (eP (eT eInt) (eT eInt))) r, none) := by
  unfold t_cut_word at h
  refine run_of rfl ?_
  show Tl (m_cut_word ([some (oD (eT eInt) degrees), some (oD (eL eInt) word), none, none, none, none] : DEnv)) _
  unfold m_cut_word
  obtain ⟨v, e_v, h1⟩ := of_bind h
  clear h
  obtain ⟨v1, e_v1, h2⟩ := of_bind h1
  clear h1
  refine tl_seq (δ1 := ([some (oD (eT eInt) degrees), some (oD (eL eInt) word), some (oD (eT eInt) v), some (oD (eT eInt) v1), none, none] : DEnv)) (u_asg (u_tup (u_cons (u_frz (u_call (xs := [(eT eInt) degrees, eInt 1]) (u_cons (u_var 0 rfl) (u_cons (u_c _) (u_nil))) (den_sure_list_2 degrees 1 _ e_v)) (frz_d _)) (u_cons (u_frz (u_call (xs := [(eL eInt) word]) (u_cons (u_var 1 rfl) (u_nil)) (den_tupled 18 word _ e_v1)) (frz_d _)) (u_nil))) rfl) ((tg_tup (tgs_cons (tg_name 2 rfl) (tgs_cons (tg_name 3 rfl) (tgs_nil))) rfl) _ rfl)) ?_
  obtain ⟨v2, e_v2, h3⟩ := of_bind h2
  clear h2
  rcases of_ite h3 with ⟨hc, h4⟩ | ⟨hc, h4⟩ <;> clear h3
  · refine tl_ifT2 (u_not (u_bool (u_frz (u_call (xs := [(eT eInt) v, (eT eInt) v1]) (u_cons (u_var 2 rfl) (u_cons (u_var 3 rfl) (u_nil))) (den_is_basic_word v v1 _ e_v2)) (frz_d _)))) hc ?_
    clear hc
    cases h4
  · refine tl_ifF2 (u_not (u_bool (u_frz (u_call (xs := [(eT eInt) v, (eT eInt) v1]) (u_cons (u_var 2 rfl) (u_cons (u_var 3 rfl) (u_nil))) (den_is_basic_word v v1 _ e_v2)) (frz_d _)))) hc ?_
    clear hc
    refine tl_nil ?_
    refine tl_wipe ?_
    rcases of_ite h4 with ⟨hc, h5⟩ | ⟨hc, h5⟩ <;> clear h4
    · refine tl_ifT2 (u_bool (u_d2 (u_lenN 3 rfl (oLen_T (e := eInt) _)) (u_c _) rfl)) hc ?_
      clear hc
      cases h5
    · refine tl_ifF2 (u_bool (u_d2 (u_lenN 3 rfl (oLen_T (e := eInt) _)) (u_c _) rfl)) hc ?_
      clear hc
      refine tl_nil ?_
      refine tl_wipe ?_
      refine tl_seq (δ1 := ([some (oD (eT eInt) degrees), some (oD (eL eInt) word), some (oD (eT eInt) v), some (oD (eT eInt) v1), some (oD eInt ((v1.length : Int) / 2)), none] : DEnv)) (u_set 4 (u_dat (u_d2 (u_lenN 3 rfl (oLen_T (e := eInt) _)) (u_c _) (f_div rfl))) rfl rfl) ?_
      obtain ⟨v3, e_v3, h6⟩ := of_bind h5
      clear h5
      rcases of_ite h6 with ⟨hc, h7⟩ | ⟨hc, h7⟩ <;> clear h6
      · refine tl_ifT2 (u_not (u_bool (u_frz (u_call (xs := [(eT eInt) v1]) (u_cons (u_var 3 rfl) (u_nil)) (den_is_lyndon v1 _ e_v3)) (frz_d _)))) hc ?_
        clear hc
        refine tl_assoc ?_
        exact tl_rtF (o := (oD (eP (eT eInt) (eT eInt)))) h7 (u_dat (u_tup (u_cons (u_frz (u_sl (u_var 3 rfl) (u_pnone) (u_psome (u_var 4 rfl)) (fSl_T (e := eInt) _ _ _)) (frz_d _)) (u_cons (u_frz (u_sl (u_var 3 rfl) (u_psome (u_var 4 rfl)) (u_pnone) (fSl_T (e := eInt) _ _ _)) (frz_d _)) (u_nil))) rfl))
      · refine tl_ifF2 (u_not (u_bool (u_frz (u_call (xs := [(eT eInt) v1]) (u_cons (u_var 3 rfl) (u_nil)) (den_is_lyndon v1 _ e_v3)) (frz_d _)))) hc ?_
        clear hc
        refine tl_nil ?_
        refine tl_wipe ?_
        obtain ⟨v4, e_v4, h9⟩ := of_bind h7
        clear h7
        obtain ⟨w, e_w, h10⟩ := of_bind h9
        clear h9
        obtain ⟨v6, e_v6, h11⟩ := of_bind h10
        clear h10
        obtain ⟨v7, e_v7, h12⟩ := of_bind h11
        clear h11
        refine tl_seq (δ1 := ([some (oD (eT eInt) degrees), some (oD (eL eInt) word), some (oD (eT eInt) v), some (oD (eT eInt) v1), some (oD eInt ((v1.length : Int) / 2)), some (oD eInt v7)] : DEnv)) (u_set 5 (u_dat (u_d1 (u_frz (u_compM (e := eInt) (e2 := eInt) (T := (fun place => [(5, (eInt place))])) (δw := ([some (oD (eT eInt) degrees), some (oD (eL eInt) word), some (oD (eT eInt) v), some (oD (eT eInt) v1), some (oD eInt ((v1.length : Int) / 2)), none] : DEnv)) (n := 6) (vs := [5]) (p := (fun place : Int => U.bind (t_is_lyndon (sl v1 (some place) none)) fun v5 =>
  .ok v5)) (f := (fun place : Int => .ok place)) e_v6 (u_rng2 (u_cons (u_c _) (u_cons (u_lenN 3 rfl (oLen_T (e := eInt) _)) (u_nil))) e_v4) (of_chk e_w) rfl rfl (fun place => tg_name 5 rfl) (fun _ => rfl) (fun place _ _ hA => u_at (δ' := ([some (oD (eT eInt) degrees), some (oD (eL eInt) word), some (oD (eT eInt) v), some (oD (eT eInt) v1), some (oD eInt ((v1.length : Int) / 2)), some (oD eInt place)] : DEnv)) rfl ((match of_bind hA with | ⟨v5, e_v5, h8⟩ => u_br (p := fun z : Bool => (z, ([some (oD (eT eInt) degrees), some (oD (eL eInt) word), some (oD (eT eInt) v), some (oD (eT eInt) v1), some (oD eInt ((v1.length : Int) / 2)), some (oD eInt place)] : DEnv))) h8 (u_bool (u_frz (u_call (xs := [(eT eInt) (sl v1 (some place) none)]) (u_cons (u_frz (u_sl (u_var 3 rfl) (u_psome (u_var 5 rfl)) (u_pnone) (fSl_T (e := eInt) _ _ _)) (frz_d _)) (u_nil)) (den_is_lyndon (sl v1 (some place) none) _ e_v5)) (frz_d _)))))) (fun place _ _ y hA => u_at (δ' := ([some (oD (eT eInt) degrees), some (oD (eL eInt) word), some (oD (eT eInt) v), some (oD (eT eInt) v1), some (oD eInt ((v1.length : Int) / 2)), some (oD eInt place)] : DEnv)) rfl (u_br (p := fun z : Int => (eInt z, ([some (oD (eT eInt) degrees), some (oD (eL eInt) word), some (oD (eT eInt) v), some (oD (eT eInt) v1), some (oD eInt ((v1.length : Int) / 2)), some (oD eInt place)] : DEnv))) hA (u_var 5 rfl))) (rfl : _ = ([some (oD (eT eInt) degrees), some (oD (eL eInt) word), some (oD (eT eInt) v), some (oD (eT eInt) v1), some (oD eInt ((v1.length : Int) / 2)), none] : DEnv))) ((frz_L (frz_D eInt)) _)) (fMin_L e_v7))) rfl rfl) ?_
        exact tl_rtF (o := (oD (eP (eT eInt) (eT eInt)))) h12 (u_dat (u_tup (u_cons (u_frz (u_sl (u_var 3 rfl) (u_pnone) (u_psome (u_var 5 rfl)) (fSl_T (e := eInt) _ _ _)) (frz_d _)) (u_cons (u_frz (u_sl (u_var 3 rfl) (u_psome (u_var 5 rfl)) (u_pnone) (fSl_T (e := eInt) _ _ _)) (frz_d _)) (u_nil))) rfl))
def t__law_same_6 (got : (List Int) × (List Int)) (due : (List Int) × (List Int)) : R Bool :=
  if ((!decide (false = false)) || (!decide (true = true))) then
  .ok false
  else
  U.bind (t__law_same_3 got.1 due.1) fun v =>
  U.bind (t__law_same_3 got.2 due.2) fun v1 =>
  .ok (([v, v1] : List Bool).all id)
theorem den__law_same_6 (fu : Nat) (got : (List Int) × (List Int)) (due : (List Int) × (List Int)) (r : Bool) (h : t__law_same_6 got due = .ok r) : f__law_same (fu + 3) [(oD (eP (eT eInt) (eT eInt)) got), (oD (eP (eT eInt) (eT eInt)) due)] = .ok ((oD eBl) r, none) := by
  unfold t__law_same_6 at h
  refine run_of rfl ?_
  show Tl (m__law_same (f__law_same (fu + 2)) ([some (oD (eP (eT eInt) (eT eInt)) got), some (oD (eP (eT eInt) (eT eInt)) due), none, none] : DEnv)) _
  unfold m__law_same
  refine tl_ifT (u_bool (u_d1 (u_var 1 rfl) (show _ = R.ok (D.bl true) from rfl))) ?_
  rcases of_ite h with ⟨hc, h1⟩ | ⟨hc, h1⟩ <;> clear h
  · refine tl_assoc ?_
    refine tl_ifT2 (u_orT (u_bool (u_d2 (u_d1 (u_var 0 rfl) (show _ = R.ok (D.bl false) from rfl)) (u_d1 (u_var 1 rfl) (show _ = R.ok (D.bl false) from rfl)) (f_ne eq_bl rfl false false))) (fun _ => u_bool (u_d2 (u_d1 (u_var 0 rfl) (show _ = R.ok (D.bl true) from rfl)) (u_d1 (u_var 1 rfl) (show _ = R.ok (D.bl true) from rfl)) (f_ne eq_bl rfl true true)))) hc ?_
    clear hc
    refine tl_assoc ?_
    exact tl_rtF (o := (oD eBl)) h1 (u_dat (u_c _))
  · refine tl_assoc ?_
    refine tl_ifF2 (u_orT (u_bool (u_d2 (u_d1 (u_var 0 rfl) (show _ = R.ok (D.bl false) from rfl)) (u_d1 (u_var 1 rfl) (show _ = R.ok (D.bl false) from rfl)) (f_ne eq_bl rfl false false))) (fun _ => u_bool (u_d2 (u_d1 (u_var 0 rfl) (show _ = R.ok (D.bl true) from rfl)) (u_d1 (u_var 1 rfl) (show _ = R.ok (D.bl true) from rfl)) (f_ne eq_bl rfl true true)))) hc ?_
    clear hc
    refine tl_nil ?_
    refine tl_wipes ?_
    obtain ⟨v, e_v, h2⟩ := of_bind h1
    clear h1
    obtain ⟨v1, e_v1, h3⟩ := of_bind h2
    clear h2
    refine tl_assoc ?_
    exact tl_rtF (o := (oD eBl)) h3 (u_dat (u_andV1 (u_d2 (u_lenN 0 rfl (show _ = R.ok (D.int 2) from rfl)) (u_lenN 1 rfl (show _ = R.ok (D.int 2) from rfl)) (show _ = R.ok (D.bl true) from rfl)) (u_d1 (u_frz (u_compL (vs := [2, 3]) (δw := ([some (oD (eP (eT eInt) (eT eInt)) got), some (oD (eP (eT eInt) (eT eInt)) due), none, none] : DEnv)) (u_zipL (u_cons (u_var 0 rfl) (u_cons (u_var 1 rfl) (u_nil))) rfl) rfl rfl (u_lc1 (δ1 := ([some (oD (eP (eT eInt) (eT eInt)) got), some (oD (eP (eT eInt) (eT eInt)) due), some (oD (eT eInt) got.1), some (oD (eT eInt) due.1)] : DEnv)) ((tg_tup (tgs_cons (tg_name 2 rfl) (tgs_cons (tg_name 3 rfl) (tgs_nil))) rfl) _ rfl) rfl (u_frz (u_call (xs := [(eT eInt) got.1, (eT eInt) due.1]) (u_cons (u_var 2 rfl) (u_cons (u_var 3 rfl) (u_nil))) (den__law_same_3 (fu + 0) got.1 due.1 _ e_v)) (frz_d _)) (rfl : _ = ([some (oD (eP (eT eInt) (eT eInt)) got), some (oD (eP (eT eInt) (eT eInt)) due), none, none] : DEnv)) (u_lc1 (δ1 := ([some (oD (eP (eT eInt) (eT eInt)) got), some (oD (eP (eT eInt) (eT eInt)) due), some (oD (eT eInt) got.2), some (oD (eT eInt) due.2)] : DEnv)) ((tg_tup (tgs_cons (tg_name 2 rfl) (tgs_cons (tg_name 3 rfl) (tgs_nil))) rfl) _ rfl) rfl (u_frz (u_call (xs := [(eT eInt) got.2, (eT eInt) due.2]) (u_cons (u_var 2 rfl) (u_cons (u_var 3 rfl) (u_nil))) (den__law_same_3 (fu + 0) got.2 due.2 _ e_v1)) (frz_d _)) (rfl : _ = ([some (oD (eP (eT eInt) (eT eInt)) got), some (oD (eP (eT eInt) (eT eInt)) due), none, none] : DEnv)) (u_lc0))) rfl (rfl : _ = ([some (oD (eP (eT eInt) (eT eInt)) got), some (oD (eP (eT eInt) (eT eInt)) due), none, none] : DEnv)) (rfl : _ = (O.lst [(oD eBl v), (oD eBl v1)]))) (frz_lit [(eBl v), (eBl v1)])) (fAll_L ([v, v1] : List Bool)))))
def t__law_same_7 (got : Bool) (due : Bool) : R Bool :=
  .ok ((decide (true = true)) && ((decide (false = false)) && (decide (got = due))))
theorem den__law_same_7 (fu : Nat) (got : Bool) (due : Bool) (r : Bool) (h : t__law_same_7 got due = .ok r) : f__law_same (fu + 1) [(oD eBl got), (oD eBl due)] = .ok ((oD eBl) r, none) := by
  unfold t__law_same_7 at h
  refine run_of rfl ?_
  show Tl (m__law_same (f__law_same (fu + 0)) ([some (oD eBl got), some (oD eBl due), none, none] : DEnv)) _
  unfold m__law_same
  refine tl_ifF (u_bool (u_d1 (u_var 1 rfl) (show _ = R.ok (D.bl false) from rfl))) ?_
  refine tl_nil ?_
  refine tl_wipe ?_
  refine tl_ifF (u_bool (u_d2 (u_var 1 rfl) (u_c _) rfl)) ?_
  refine tl_nil ?_
  refine tl_wipe ?_
  refine tl_ifT (u_bool (u_d1 (u_var 1 rfl) (show _ = R.ok (D.bl true) from rfl))) ?_
  refine tl_assoc ?_
  exact tl_rtF (o := (oD eBl)) h (u_dat (u_andV (u_d2 (u_d1 (u_var 0 rfl) (show _ = R.ok (D.bl true) from rfl)) (u_d1 (u_var 1 rfl) (show _ = R.ok (D.bl true) from rfl)) (f_eq eq_bl rfl true true)) (fun _ => u_andV (u_d2 (u_d1 (u_var 0 rfl) (show _ = R.ok (D.bl false) from rfl)) (u_d1 (u_var 1 rfl) (show _ = R.ok (D.bl false) from rfl)) (f_eq eq_bl rfl false false)) (fun _ => u_d2 (u_var 0 rfl) (u_var 1 rfl) (f_eq eq_bl rfl got due)))))
def t__law_same_5 (got : ((List Int) × (List Int)) × Bool × Bool) (due : ((List Int) × (List Int)) × Bool × Bool) : R Bool :=
  if ((!decide (true = true)) || (!decide (false = false))) then
  .ok false
  else
  U.bind (t__law_same_6 got.1 due.1) fun v =>
  U.bind (t__law_same_7 got.2.1 due.2.1) fun v1 =>
  U.bind (t__law_same_7 got.2.2 due.2.2) fun v2 =>
  .ok (([v, v1, v2] : List Bool).all id)
theorem den__law_same_5 (fu : Nat) (got : ((List Int) × (List Int)) × Bool × Bool) (due : ((List Int) × (List Int)) × Bool × Bool) (r : Bool) (h : t__law_same_5 got due = .ok r) : f__law_same (fu + 4) [(oD (fun p : ((List Int) × (List Int)) × Bool × Bool => D.lst [(eP (eT eInt) (eT eInt)) p.1, eBl p.2.1, eBl p.2.2]) got), (oD (fun p : ((List Int) × (List Int)) × Bool × Bool => D.lst [(eP (eT eInt) (eT eInt)) p.1, eBl p.2.1, eBl p.2.2]) due)] = .ok ((oD eBl) r, none) := by
  unfold t__law_same_5 at h
  refine run_of rfl ?_
  show Tl (m__law_same (f__law_same (fu + 3)) ([some (oD (fun p : ((List Int) × (List Int)) × Bool × Bool => D.lst [(eP (eT eInt) (eT eInt)) p.1, eBl p.2.1, eBl p.2.2]) got), some (oD (fun p : ((List Int) × (List Int)) × Bool × Bool => D.lst [(eP (eT eInt) (eT eInt)) p.1, eBl p.2.1, eBl p.2.2]) due), none, none] : DEnv)) _
  unfold m__law_same
  refine tl_ifT (u_bool (u_d1 (u_var 1 rfl) (show _ = R.ok (D.bl true) from rfl))) ?_
  rcases of_ite h with ⟨hc, h1⟩ | ⟨hc, h1⟩ <;> clear h
  · refine tl_assoc ?_
    refine tl_ifT2 (u_orT (u_bool (u_d2 (u_d1 (u_var 0 rfl) (show _ = R.ok (D.bl true) from rfl)) (u_d1 (u_var 1 rfl) (show _ = R.ok (D.bl true) from rfl)) (f_ne eq_bl rfl true true))) (fun _ => u_bool (u_d2 (u_d1 (u_var 0 rfl) (show _ = R.ok (D.bl false) from rfl)) (u_d1 (u_var 1 rfl) (show _ = R.ok (D.bl false) from rfl)) (f_ne eq_bl rfl false false)))) hc ?_
    clear hc
    refine tl_assoc ?_
    exact tl_rtF (o := (oD eBl)) h1 (u_dat (u_c _))
  · refine tl_assoc ?_
    refine tl_ifF2 (u_orT (u_bool (u_d2 (u_d1 (u_var 0 rfl) (show _ = R.ok (D.bl true) from rfl)) (u_d1 (u_var 1 rfl) (show _ = R.ok (D.bl true) from rfl)) (f_ne eq_bl rfl true true))) (fun _ => u_bool (u_d2 (u_d1 (u_var 0 rfl) (show _ = R.ok (D.bl false) from rfl)) (u_d1 (u_var 1 rfl) (show _ = R.ok (D.bl false) from rfl)) (f_ne eq_bl rfl false false)))) hc ?_
    clear hc
    refine tl_nil ?_
    refine tl_wipes ?_
    obtain ⟨v, e_v, h2⟩ := of_bind h1
    clear h1
    obtain ⟨v1, e_v1, h3⟩ := of_bind h2
    clear h2
    obtain ⟨v2, e_v2, h4⟩ := of_bind h3
    clear h3
    refine tl_assoc ?_
    exact tl_rtF (o := (oD eBl)) h4 (u_dat (u_andV1 (u_d2 (u_lenN 0 rfl (show _ = R.ok (D.int 3) from rfl)) (u_lenN 1 rfl (show _ = R.ok (D.int 3) from rfl)) (show _ = R.ok (D.bl true) from rfl)) (u_d1 (u_frz (u_compL (vs := [2, 3]) (δw := ([some (oD (fun p : ((List Int) × (List Int)) × Bool × Bool => D.lst [(eP (eT eInt) (eT eInt)) p.1, eBl p.2.1, eBl p.2.2]) got), some (oD (fun p : ((List Int) × (List Int)) × Bool × Bool => D.lst [(eP (eT eInt) (eT eInt)) p.1, eBl p.2.1, eBl p.2.2]) due), none, none] : DEnv)) (u_zipL (u_cons (u_var 0 rfl) (u_cons (u_var 1 rfl) (u_nil))) rfl) rfl rfl (u_lc1 (δ1 := ([some (oD (fun p : ((List Int) × (List Int)) × Bool × Bool => D.lst [(eP (eT eInt) (eT eInt)) p.1, eBl p.2.1, eBl p.2.2]) got), some (oD (fun p : ((List Int) × (List Int)) × Bool × Bool => D.lst [(eP (eT eInt) (eT eInt)) p.1, eBl p.2.1, eBl p.2.2]) due), some (oD (eP (eT eInt) (eT eInt)) got.1), some (oD (eP (eT eInt) (eT eInt)) due.1)] : DEnv)) ((tg_tup (tgs_cons (tg_name 2 rfl) (tgs_cons (tg_name 3 rfl) (tgs_nil))) rfl) _ rfl) rfl (u_frz (u_call (xs := [(eP (eT eInt) (eT eInt)) got.1, (eP (eT eInt) (eT eInt)) due.1]) (u_cons (u_var 2 rfl) (u_cons (u_var 3 rfl) (u_nil))) (den__law_same_6 (fu + 0) got.1 due.1 _ e_v)) (frz_d _)) (rfl : _ = ([some (oD (fun p : ((List Int) × (List Int)) × Bool × Bool => D.lst [(eP (eT eInt) (eT eInt)) p.1, eBl p.2.1, eBl p.2.2]) got), some (oD (fun p : ((List Int) × (List Int)) × Bool × Bool => D.lst [(eP (eT eInt) (eT eInt)) p.1, eBl p.2.1, eBl p.2.2]) due), none, none] : DEnv)) (u_lc1 (δ1 := ([some (oD (fun p : ((List Int) × (List Int)) × Bool × Bool => D.lst [(eP (eT eInt) (eT eInt)) p.1, eBl p.2.1, eBl p.2.2]) got), some (oD (fun p : ((List Int) × (List Int)) × Bool × Bool => D.lst [(eP (eT eInt) (eT eInt)) p.1, eBl p.2.1, eBl p.2.2]) due), some (oD eBl got.2.1), some (oD eBl due.2.1)] : DEnv)) ((tg_tup (tgs_cons (tg_name 2 rfl) (tgs_cons (tg_name 3 rfl) (tgs_nil))) rfl) _ rfl) rfl (u_frz (u_call (xs := [eBl got.2.1, eBl due.2.1]) (u_cons (u_var 2 rfl) (u_cons (u_var 3 rfl) (u_nil))) (den__law_same_7 (fu + 2) got.2.1 due.2.1 _ e_v1)) (frz_d _)) (rfl : _ = ([some (oD (fun p : ((List Int) × (List Int)) × Bool × Bool => D.lst [(eP (eT eInt) (eT eInt)) p.1, eBl p.2.1, eBl p.2.2]) got), some (oD (fun p : ((List Int) × (List Int)) × Bool × Bool => D.lst [(eP (eT eInt) (eT eInt)) p.1, eBl p.2.1, eBl p.2.2]) due), none, none] : DEnv)) (u_lc1 (δ1 := ([some (oD (fun p : ((List Int) × (List Int)) × Bool × Bool => D.lst [(eP (eT eInt) (eT eInt)) p.1, eBl p.2.1, eBl p.2.2]) got), some (oD (fun p : ((List Int) × (List Int)) × Bool × Bool => D.lst [(eP (eT eInt) (eT eInt)) p.1, eBl p.2.1, eBl p.2.2]) due), some (oD eBl got.2.2), some (oD eBl due.2.2)] : DEnv)) ((tg_tup (tgs_cons (tg_name 2 rfl) (tgs_cons (tg_name 3 rfl) (tgs_nil))) rfl) _ rfl) rfl (u_frz (u_call (xs := [eBl got.2.2, eBl due.2.2]) (u_cons (u_var 2 rfl) (u_cons (u_var 3 rfl) (u_nil))) (den__law_same_7 (fu + 2) got.2.2 due.2.2 _ e_v2)) (frz_d _)) (rfl : _ = ([some (oD (fun p : ((List Int) × (List Int)) × Bool × Bool => D.lst [(eP (eT eInt) (eT eInt)) p.1, eBl p.2.1, eBl p.2.2]) got), some (oD (fun p : ((List Int) × (List Int)) × Bool × Bool => D.lst [(eP (eT eInt) (eT eInt)) p.1, eBl p.2.1, eBl p.2.2]) due), none, none] : DEnv)) (u_lc0)))) rfl (rfl : _ = ([some (oD (fun p : ((List Int) × (List Int)) × Bool × Bool => D.lst [(eP (eT eInt) (eT eInt)) p.1, eBl p.2.1, eBl p.2.2]) got), some (oD (fun p : ((List Int) × (List Int)) × Bool × Bool => D.lst [(eP (eT eInt) (eT eInt)) p.1, eBl p.2.1, eBl p.2.2]) due), none, none] : DEnv)) (rfl : _ = (O.lst [(oD eBl v), (oD eBl v1), (oD eBl v2)]))) (frz_lit [(eBl v), (eBl v1), (eBl v2)])) (fAll_L ([v, v1, v2] : List Bool)))))
def t__law_pick_2 (tin : List Int) (goods_so : List ((List Int) × Int)) (count_so : Int) : R ((List ((List Int) × Int)) × (List Int)) :=
  U.bind (rng1 (if (goods_so.length : Int) < count_so then (goods_so.length : Int) else count_so)) fun v =>
  U.bind (forM (fun (lap : Int) (st : (List Int) × (List ((List Int) × Int)) × (List ((List Int) × Int))) =>
  (match st with
  | (tin1, pool_so, found) =>
  U.bind (t__law_take tin1 (pool_so.length : Int)) fun v1 =>
  U.bind (popAt pool_so v1.1) fun v2 =>
  U.bind (chk found.length) fun w =>
  .ok (v1.2, v2.2, (found ++ [v2.1])))) v (tin, goods_so, ([] : List ((List Int) × Int)))) fun (tin2, pool_so1, found1) =>
  .ok (found1, tin2)
theorem den__law_pick_2 (tin : List Int) (goods_so : List ((List Int) × Int)) (count_so : Int) (r : (List ((List Int) × Int)) × (List Int)) (h : t__law_pick_2 tin goods_so count_so = .ok r) : f__law_pick [((oL (oD eInt)) tin), (oD (eL (eP (eT eInt) eInt)) goods_so), (oD eInt count_so)] = .ok ((oL (oD (eP (eT eInt) eInt))) r.1, some ((oL (oD eInt)) r.2)) := by
  unfold t__law_pick_2 at h
  refine run_ofR rfl ?_
  show Tl (m__law_pick ([some ((oL (oD eInt)) tin), some (oD (eL (eP (eT eInt) eInt)) goods_so), some (oD eInt count_so), none, none, none] : DEnv)) _
  unfold m__law_pick
  refine tl_seq (δ1 := ([some ((oL (oD eInt)) tin), some (oD (eL (eP (eT eInt) eInt)) goods_so), some (oD eInt count_so), some ((oL (oD (eP (eT eInt) eInt))) goods_so), some (O.lst []), none] : DEnv)) (u_par 3 4 (u_ocons (u_o1 (u_var 1 rfl) (fList_L (e := (eP (eT eInt) eInt)) _)) (u_ocons (u_lst (u_nil) rfl (rfl : _ = (O.lst []))) u_onil)) rfl rfl) ?_
  obtain ⟨v, e_v, h6⟩ := of_bind h
  clear h
  obtain ⟨⟨tin2, pool_so1, found1⟩, h11, h12⟩ := of_bind h6
  clear h6
  dsimp only at h12
  refine tl_blk (tl_for (e := eInt) (idx := [5]) (V := []) (n := 6) (T := (fun lap : Int => [(5, (eInt lap))])) (lit := (fun s : (List Int) × (List ((List Int) × Int)) × (List ((List Int) × Int)) => ([some ((oL (oD eInt)) s.1), some (oD (eL (eP (eT eInt) eInt)) goods_so), some (oD eInt count_so), some ((oL (oD (eP (eT eInt) eInt))) s.2.1), some ((oL (oD (eP (eT eInt) eInt))) s.2.2), none] : DEnv))) h11 (u_rng1 (u_cons (u_min2 (u_cons (u_d1 (u_var 2 rfl) rfl) (u_cons (u_lenN 3 rfl (oLen_L _ _)) (u_nil)))) (u_nil)) e_v) rfl (fun _ => rfl) (fun lap => tg_name 5 rfl) (fun _ => rfl) (by decide) ?_) ?_
  · rintro lap _ ⟨tin1, pool_so, found⟩ s0 h7
    dsimp only at h7
    refine tl_at (δ' := ([some ((oL (oD eInt)) tin1), some (oD (eL (eP (eT eInt) eInt)) goods_so), some (oD eInt count_so), some ((oL (oD (eP (eT eInt) eInt))) pool_so), some ((oL (oD (eP (eT eInt) eInt))) found), some (oD eInt lap)] : DEnv)) rfl ?_
    obtain ⟨v1, e_v1, h8⟩ := of_bind h7
    clear h7
    obtain ⟨v2, e_v2, h9⟩ := of_bind h8
    clear h8
    obtain ⟨w, e_w, h10⟩ := of_bind h9
    clear h9
    refine tl_seq (δ1 := ([some ((oL (oD eInt)) v1.2), some (oD (eL (eP (eT eInt) eInt)) goods_so), some (oD eInt count_so), some ((oL (oD (eP (eT eInt) eInt))) v2.2), some ((oL (oD (eP (eT eInt) eInt))) (found ++ [v2.1])), some (oD eInt lap)] : DEnv)) (u_append 4 (o := (oD (eP (eT eInt) eInt))) (xs := found) (y := v2.1) rfl (u_dat (u_popAt 3 (e := (eP (eT eInt) eInt)) rfl (u_cons (u_frz (u_callR (xs := [eInt (pool_so.length : Int)]) 0 rfl (u_cons (u_lenN 3 rfl (oLen_L _ _)) (u_nil)) rfl (den__law_take tin1 (pool_so.length : Int) _ e_v1) (rfl : _ = ([some ((oL (oD eInt)) v1.2), some (oD (eL (eP (eT eInt) eInt)) goods_so), some (oD eInt count_so), some ((oL (oD (eP (eT eInt) eInt))) pool_so), some ((oL (oD (eP (eT eInt) eInt))) found), some (oD eInt lap)] : DEnv))) (frz_d _)) u_nil) rfl e_v2 (rfl : _ = ([some ((oL (oD eInt)) v1.2), some (oD (eL (eP (eT eInt) eInt)) goods_so), some (oD eInt count_so), some ((oL (oD (eP (eT eInt) eInt))) v2.2), some ((oL (oD (eP (eT eInt) eInt))) found), some (oD eInt lap)] : DEnv)))) rfl rfl (of_chk e_w) rfl) ?_
    exact tl_endL (lit := (fun s : (List Int) × (List ((List Int) × Int)) × (List ((List Int) × Int)) => ([some ((oL (oD eInt)) s.1), some (oD (eL (eP (eT eInt) eInt)) goods_so), some (oD eInt count_so), some ((oL (oD (eP (eT eInt) eInt))) s.2.1), some ((oL (oD (eP (eT eInt) eInt))) s.2.2), none] : DEnv))) h10 rfl
  clear h11
  refine tl_at (δ' := ([some ((oL (oD eInt)) tin2), some (oD (eL (eP (eT eInt) eInt)) goods_so), some (oD eInt count_so), some ((oL (oD (eP (eT eInt) eInt))) pool_so1), some ((oL (oD (eP (eT eInt) eInt))) found1), none] : DEnv)) rfl ?_
  exact tl_rtFR (o := (oL (oD (eP (eT eInt) eInt)))) (o' := (oL (oD eInt))) h12 (u_ovar 4 rfl (rfl : _ = ([some ((oL (oD eInt)) tin2), some (oD (eL (eP (eT eInt) eInt)) goods_so), some (oD eInt count_so), some ((oL (oD (eP (eT eInt) eInt))) pool_so1), none, none] : DEnv))) rfl
def t_are_numbers_2 (thing : Unit) : R Bool :=
  .ok false
theorem den_are_numbers_2 (thing : Unit) (r : Bool) (h : t_are_numbers_2 thing = .ok r) : f_are_numbers [(oD eNon thing)] = .ok ((oD eBl) r, none) := by
  unfold t_are_numbers_2 at h
  refine run_of rfl ?_
  show Tl (m_are_numbers ([some (oD eNon thing), none] : DEnv)) _
  unfold m_are_numbers
  exact tl_rtF (o := (oD eBl)) h (u_dat (u_andV0 (u_d1 (u_var 0 rfl) (show _ = R.ok (D.bl false) from rfl))))
def t_is_basic_word_2 (degrees : List Int) (thing : Unit) : R Bool :=
  U.bind (t_sure_list_2 degrees 1) fun v =>
  .ok false
theorem den_is_basic_word_2 (degrees : List Int) (thing : Unit) (r : Bool) (h : t_is_basic_word_2 degrees thing = .ok r) : f_is_basic_word [(oD (eT eInt) degrees), (oD eNon thing)] = .ok ((oD eBl) r, none) := by
  unfold t_is_basic_word_2 at h
  refine run_of rfl ?_
  show Tl (m_is_basic_word ([some (oD (eT eInt) degrees), some (oD eNon thing), none, none, none] : DEnv)) _
  unfold m_is_basic_word
  obtain ⟨v, e_v, h1⟩ := of_bind h
  clear h
  refine tl_seq (δ1 := ([some (oD (eT eInt) degrees), some (oD eNon thing), some (oD (eT eInt) v), none, none] : DEnv)) (u_set 2 (u_call (xs := [(eT eInt) degrees, eInt 1]) (u_cons (u_var 0 rfl) (u_cons (u_c _) (u_nil))) (den_sure_list_2 degrees 1 _ e_v)) rfl rfl) ?_
  refine tl_ifT (u_orT1 (u_not (u_bool (u_frz (u_call (xs := [eNon thing]) (u_cons (u_var 1 rfl) (u_nil)) (den_are_numbers_2 thing false rfl)) (frz_d _))))) ?_
  refine tl_assoc ?_
  exact tl_rtF (o := (oD eBl)) h1 (u_dat (u_c _))
def t_are_numbers_3 (thing : List Int) : R Bool :=
  .ok false
theorem den_are_numbers_3 (thing : List Int) (r : Bool) (h : t_are_numbers_3 thing = .ok r) : f_are_numbers [(oD (eL eInt) thing)] = .ok ((oD eBl) r, none) := by
  unfold t_are_numbers_3 at h
  refine run_of rfl ?_
  show Tl (m_are_numbers ([some (oD (eL eInt) thing), none] : DEnv)) _
  unfold m_are_numbers
  exact tl_rtF (o := (oD eBl)) h (u_dat (u_andV0 (u_d1 (u_var 0 rfl) (show _ = R.ok (D.bl false) from rfl))))
def t_is_basic_word_3 (degrees : List Int) (thing : List Int) : R Bool :=
  U.bind (t_sure_list_2 degrees 1) fun v =>
  .ok false
theorem den_is_basic_word_3 (degrees : List Int) (thing : List Int) (r : Bool) (h : t_is_basic_word_3 degrees thing = .ok r) : f_is_basic_word [(oD (eT eInt) degrees), (oD (eL eInt) thing)] = .ok ((oD eBl) r, none) := by
  unfold t_is_basic_word_3 at h
  refine run_of rfl ?_
  show Tl (m_is_basic_word ([some (oD (eT eInt) degrees), some (oD (eL eInt) thing), none, none, none] : DEnv)) _
  unfold m_is_basic_word
  obtain ⟨v, e_v, h1⟩ := of_bind h
  clear h
  refine tl_seq (δ1 := ([some (oD (eT eInt) degrees), some (oD (eL eInt) thing), some (oD (eT eInt) v), none, none] : DEnv)) (u_set 2 (u_call (xs := [(eT eInt) degrees, eInt 1]) (u_cons (u_var 0 rfl) (u_cons (u_c _) (u_nil))) (den_sure_list_2 degrees 1 _ e_v)) rfl rfl) ?_
  refine tl_ifT (u_orT1 (u_not (u_bool (u_frz (u_call (xs := [(eL eInt) thing]) (u_cons (u_var 1 rfl) (u_nil)) (den_are_numbers_3 thing false rfl)) (frz_d _))))) ?_
  refine tl_assoc ?_
  exact tl_rtF (o := (oD eBl)) h1 (u_dat (u_c _))
def t_is_number_2 (thing : Bool) : R Bool :=
  .ok false
theorem den_is_number_2 (thing : Bool) (r : Bool) (h : t_is_number_2 thing = .ok r) : f_is_number [(oD eBl thing)] = .ok ((oD eBl) r, none) := by
  unfold t_is_number_2 at h
  refine run_of rfl ?_
  show Tl (m_is_number ([some (oD eBl thing)] : DEnv)) _
  unfold m_is_number
  exact tl_rtF (o := (oD eBl)) h (u_dat (u_andV1 (u_d1 (u_var 0 rfl) (show _ = R.ok (D.bl true) from rfl)) (u_d1 (u_d1 (u_var 0 rfl) (show _ = R.ok (D.bl true) from rfl)) rfl)))
def t_are_numbers_4 (thing : Bool) : R Bool :=
  .ok false
theorem den_are_numbers_4 (thing : Bool) (r : Bool) (h : t_are_numbers_4 thing = .ok r) : f_are_numbers [(oD (fun p : Bool => D.tup [eBl p]) thing)] = .ok ((oD eBl) r, none) := by
  unfold t_are_numbers_4 at h
  refine run_of rfl ?_
  show Tl (m_are_numbers ([some (oD (fun p : Bool => D.tup [eBl p]) thing), none] : DEnv)) _
  unfold m_are_numbers
  exact tl_rtF (o := (oD eBl)) h (u_dat (u_andV1 (u_d1 (u_var 0 rfl) (show _ = R.ok (D.bl true) from rfl)) (u_d1 (u_frz (u_compL (vs := [1]) (δw := ([some (oD (fun p : Bool => D.tup [eBl p]) thing), none] : DEnv)) (u_items (u_var 0 rfl) rfl) rfl rfl (u_lc1 (δ1 := ([some (oD (fun p : Bool => D.tup [eBl p]) thing), some (oD eBl thing)] : DEnv)) ((tg_name 1 rfl) _ rfl) rfl (u_frz (u_call (xs := [eBl thing]) (u_cons (u_var 1 rfl) (u_nil)) (den_is_number_2 thing false rfl)) (frz_d _)) (rfl : _ = ([some (oD (fun p : Bool => D.tup [eBl p]) thing), none] : DEnv)) (u_lc0)) rfl (rfl : _ = ([some (oD (fun p : Bool => D.tup [eBl p]) thing), none] : DEnv)) (rfl : _ = (O.lst [(oD eBl false)]))) (frz_lit [(eBl false)])) (show _ = R.ok (D.bl false) from rfl))))
def t_is_basic_word_4 (degrees : List Int) (thing : Bool) : R Bool :=
  U.bind (t_sure_list_2 degrees 1) fun v =>
  .ok false
theorem den_is_basic_word_4 (degrees : List Int) (thing : Bool) (r : Bool) (h : t_is_basic_word_4 degrees thing = .ok r) : f_is_basic_word [(oD (eT eInt) degrees), (oD (fun p : Bool => D.tup [eBl p]) thing)] = .ok ((oD eBl) r, none) := by
  unfold t_is_basic_word_4 at h
  refine run_of rfl ?_
  show Tl (m_is_basic_word ([some (oD (eT eInt) degrees), some (oD (fun p : Bool => D.tup [eBl p]) thing), none, none, none] : DEnv)) _
  unfold m_is_basic_word
  obtain ⟨v, e_v, h1⟩ := of_bind h
  clear h
  refine tl_seq (δ1 := ([some (oD (eT eInt) degrees), some (oD (fun p : Bool => D.tup [eBl p]) thing), some (oD (eT eInt) v), none, none] : DEnv)) (u_set 2 (u_call (xs := [(eT eInt) degrees, eInt 1]) (u_cons (u_var 0 rfl) (u_cons (u_c _) (u_nil))) (den_sure_list_2 degrees 1 _ e_v)) rfl rfl) ?_
  refine tl_ifT (u_orT1 (u_not (u_bool (u_frz (u_call (xs := [(fun p : Bool => D.tup [eBl p]) thing]) (u_cons (u_var 1 rfl) (u_nil)) (den_are_numbers_4 thing false rfl)) (frz_d _))))) ?_
  refine tl_assoc ?_
  exact tl_rtF (o := (oD eBl)) h1 (u_dat (u_c _))
def t_joined_ranks (spheres : List Int) (most : Int) : R (List Int) :=
  U.bind (t_sure_list_2 spheres 2) fun v =>
  U.bind (t_sure_within most 0 40) fun v1 =>
  if (decide (v1 = 0)) then
  .ok ([0] : List Int)
  else
  U.bind (chk v.length) fun w =>
  U.bind (t_free_ranks_in (v.map (fun its : Int => (its - 1))) (v1 - 1)) fun v2 =>
  U.bind (cat ([0] : List Int) v2) fun v3 =>
  .ok v3
theorem den_joined_ranks (spheres : List Int) (most : Int) (r : List Int) (h : t_joined_ranks spheres most = .ok r) : f_joined_ranks [(oD (eT eInt) spheres), (oD eInt most)] = .ok ((oD (eT eInt)) r, none) := by
  unfold t_joined_ranks at h
  refine run_of rfl ?_
  show Tl (m_joined_ranks ([some (oD (eT eInt) spheres), some (oD eInt most), none, none, none] : DEnv)) _
  unfold m_joined_ranks
  obtain ⟨v, e_v, h1⟩ := of_bind h
  clear h
  obtain ⟨v1, e_v1, h2⟩ := of_bind h1
  clear h1
  refine tl_seq (δ1 := ([some (oD (eT eInt) spheres), some (oD eInt most), some (oD (eT eInt) v), some (oD eInt v1), none] : DEnv)) (u_par 2 3 (u_ocons (u_call (xs := [(eT eInt) spheres, eInt 2]) (u_cons (u_var 0 rfl) (u_cons (u_c _) (u_nil))) (den_sure_list_2 spheres 2 _ e_v)) (u_ocons (u_call (xs := [eInt most, eInt 0, eInt 40]) (u_cons (u_var 1 rfl) (u_cons (u_c _) (u_cons (u_c _) (u_nil)))) (den_sure_within most 0 40 _ e_v1)) u_onil)) rfl rfl) ?_
  rcases of_ite h2 with ⟨hc, h3⟩ | ⟨hc, h3⟩ <;> clear h2
  · refine tl_ifT2 (u_bool (u_d2 (u_var 3 rfl) (u_c _) rfl)) hc ?_
    clear hc
    refine tl_assoc ?_
    exact tl_rtF (o := (oD (eT eInt))) h3 (u_dat (u_tup (u_cons (u_c _) (u_nil)) rfl))
  · refine tl_ifF2 (u_bool (u_d2 (u_var 3 rfl) (u_c _) rfl)) hc ?_
    clear hc
    refine tl_nil ?_
    refine tl_wipe ?_
    obtain ⟨w, e_w, h4⟩ := of_bind h3
    clear h3
    obtain ⟨v2, e_v2, h5⟩ := of_bind h4
    clear h4
    obtain ⟨v3, e_v3, h6⟩ := of_bind h5
    clear h5
    exact tl_rtF (o := (oD (eT eInt))) h6 (u_o2 (u_tup (u_cons (u_c _) (u_nil)) rfl) (u_frz (u_call (xs := [(eT eInt) (v.map (fun its : Int => (its - 1))), eInt (v1 - 1)]) (u_cons (u_d1 (u_frz (u_compA (e := eInt) (e2 := eInt) (T := (fun its => [(4, (eInt its))])) (δw := ([some (oD (eT eInt) spheres), some (oD eInt most), some (oD (eT eInt) v), some (oD eInt v1), none] : DEnv)) (n := 5) (vs := [4]) (f := (fun its : Int => (its - 1))) (u_items (u_var 2 rfl) rfl) (of_chk e_w) rfl rfl (fun its => tg_name 4 rfl) (fun _ => rfl) (fun its _ => u_at (δ' := ([some (oD (eT eInt) spheres), some (oD eInt most), some (oD (eT eInt) v), some (oD eInt v1), some (oD eInt its)] : DEnv)) rfl (u_d2 (u_var 4 rfl) (u_c _) rfl)) (rfl : _ = ([some (oD (eT eInt) spheres), some (oD eInt most), some (oD (eT eInt) v), some (oD eInt v1), none] : DEnv))) ((frz_L (frz_D eInt)) _)) (show _ = R.ok (eT eInt (v.map (fun its : Int => (its - 1)))) from rfl)) (u_cons (u_d2 (u_var 3 rfl) (u_c _) rfl) (u_nil))) (den_free_ranks_in (v.map (fun its : Int => (its - 1))) (v1 - 1) _ e_v2)) (frz_d _)) (fAdd_T (e := eInt) e_v3))
def t__law_same_8 (got : Bool × Bool × Bool × Bool × Bool × Bool × (List Int)) (due : Bool × Bool × Bool × Bool × Bool × Bool × (List Int)) : R Bool :=
  if ((!decide (true = true)) || (!decide (false = false))) then
  .ok false
  else
  U.bind (t__law_same_7 got.1 due.1) fun v =>
  U.bind (t__law_same_7 got.2.1 due.2.1) fun v1 =>
  U.bind (t__law_same_7 got.2.2.1 due.2.2.1) fun v2 =>
  U.bind (t__law_same_7 got.2.2.2.1 due.2.2.2.1) fun v3 =>
  U.bind (t__law_same_7 got.2.2.2.2.1 due.2.2.2.2.1) fun v4 =>
  U.bind (t__law_same_7 got.2.2.2.2.2.1 due.2.2.2.2.2.1) fun v5 =>
  U.bind (t__law_same_3 got.2.2.2.2.2.2 due.2.2.2.2.2.2) fun v6 =>
  .ok (([v, v1, v2, v3, v4, v5, v6] : List Bool).all id)
theorem den__law_same_8 (fu : Nat) (got : Bool × Bool × Bool × Bool × Bool × Bool × (List Int)) (due : Bool × Bool × Bool × Bool × Bool × Bool × (List Int)) (r : Bool) (h : t__law_same_8 got due = .ok r) : f__law_same (fu + 3) [(oD (fun p : Bool × Bool × Bool × Bool × Bool × Bool × (List Int) => D.lst [eBl p.1, eBl p.2.1, eBl p.2.2.1, eBl p.2.2.2.1, eBl p.2.2.2.2.1, eBl p.2.2.2.2.2.1, (eT eInt) p.2.2.2.2.2.2]) got), (oD (fun p : Bool × Bool × Bool × Bool × Bool × Bool × (List Int) => D.lst [eBl p.1, eBl p.2.1, eBl p.2.2.1, eBl p.2.2.2.1, eBl p.2.2.2.2.1, eBl p.2.2.2.2.2.1, (eT eInt) p.2.2.2.2.2.2]) due)] = .ok ((oD eBl) r, none) := by
  unfold t__law_same_8 at h
  refine run_of rfl ?_
  show Tl (m__law_same (f__law_same (fu + 2)) ([some (oD (fun p : Bool × Bool × Bool × Bool × Bool × Bool × (List Int) => D.lst [eBl p.1, eBl p.2.1, eBl p.2.2.1, eBl p.2.2.2.1, eBl p.2.2.2.2.1, eBl p.2.2.2.2.2.1, (eT eInt) p.2.2.2.2.2.2]) got), some (oD (fun p : Bool × Bool × Bool × Bool × Bool × Bool × (List Int) => D.lst [eBl p.1, eBl p.2.1, eBl p.2.2.1, eBl p.2.2.2.1, eBl p.2.2.2.2.1, eBl p.2.2.2.2.2.1, (eT eInt) p.2.2.2.2.2.2]) due), none, none] : DEnv)) _
  unfold m__law_same
  refine tl_ifT (u_bool (u_d1 (u_var 1 rfl) (show _ = R.ok (D.bl true) from rfl))) ?_
  rcases of_ite h with ⟨hc, h1⟩ | ⟨hc, h1⟩ <;> clear h
  · refine tl_assoc ?_
    refine tl_ifT2 (u_orT (u_bool (u_d2 (u_d1 (u_var 0 rfl) (show _ = R.ok (D.bl true) from rfl)) (u_d1 (u_var 1 rfl) (show _ = R.ok (D.bl true) from rfl)) (f_ne eq_bl rfl true true))) (fun _ => u_bool (u_d2 (u_d1 (u_var 0 rfl) (show _ = R.ok (D.bl false) from rfl)) (u_d1 (u_var 1 rfl) (show _ = R.ok (D.bl false) from rfl)) (f_ne eq_bl rfl false false)))) hc ?_
    clear hc
    refine tl_assoc ?_
    exact tl_rtF (o := (oD eBl)) h1 (u_dat (u_c _))
  · refine tl_assoc ?_
    refine tl_ifF2 (u_orT (u_bool (u_d2 (u_d1 (u_var 0 rfl) (show _ = R.ok (D.bl true) from rfl)) (u_d1 (u_var 1 rfl) (show _ = R.ok (D.bl true) from rfl)) (f_ne eq_bl rfl true true))) (fun _ => u_bool (u_d2 (u_d1 (u_var 0 rfl) (show _ = R.ok (D.bl false) from rfl)) (u_d1 (u_var 1 rfl) (show _ = R.ok (D.bl false) from rfl)) (f_ne eq_bl rfl false false)))) hc ?_
    clear hc
    refine tl_nil ?_
    refine tl_wipes ?_
    obtain ⟨v, e_v, h2⟩ := of_bind h1
    clear h1
    obtain ⟨v1, e_v1, h3⟩ := of_bind h2
    clear h2
    obtain ⟨v2, e_v2, h4⟩ := of_bind h3
    clear h3
    obtain ⟨v3, e_v3, h5⟩ := of_bind h4
    clear h4
    obtain ⟨v4, e_v4, h6⟩ := of_bind h5
    clear h5
    obtain ⟨v5, e_v5, h7⟩ := of_bind h6
    clear h6
    obtain ⟨v6, e_v6, h8⟩ := of_bind h7
    clear h7
    refine tl_assoc ?_
    exact tl_rtF (o := (oD eBl)) h8 (u_dat (u_andV1 (u_d2 (u_lenN 0 rfl (show _ = R.ok (D.int 7) from rfl)) (u_lenN 1 rfl (show _ = R.ok (D.int 7) from rfl)) (show _ = R.ok (D.bl true) from rfl)) (u_d1 (u_frz (u_compL (vs := [2, 3]) (δw := ([some (oD (fun p : Bool × Bool × Bool × Bool × Bool × Bool × (List Int) => D.lst [eBl p.1, eBl p.2.1, eBl p.2.2.1, eBl p.2.2.2.1, eBl p.2.2.2.2.1, eBl p.2.2.2.2.2.1, (eT eInt) p.2.2.2.2.2.2]) got), some (oD (fun p : Bool × Bool × Bool × Bool × Bool × Bool × (List Int) => D.lst [eBl p.1, eBl p.2.1, eBl p.2.2.1, eBl p.2.2.2.1, eBl p.2.2.2.2.1, eBl p.2.2.2.2.2.1, (eT eInt) p.2.2.2.2.2.2]) due), none, none] : DEnv)) (u_zipL (u_cons (u_var 0 rfl) (u_cons (u_var 1 rfl) (u_nil))) rfl) rfl rfl (u_lc1 (δ1 := ([some (oD (fun p : Bool × Bool × Bool × Bool × Bool × Bool × (List Int) => D.lst [eBl p.1, eBl p.2.1, eBl p.2.2.1, eBl p.2.2.2.1, eBl p.2.2.2.2.1, eBl p.2.2.2.2.2.1, (eT eInt) p.2.2.2.2.2.2]) got), some (oD (fun p : Bool × Bool × Bool × Bool × Bool × Bool × (List Int) => D.lst [eBl p.1, eBl p.2.1, eBl p.2.2.1, eBl p.2.2.2.1, eBl p.2.2.2.2.1, eBl p.2.2.2.2.2.1, (eT eInt) p.2.2.2.2.2.2]) due), some (oD eBl got.1), some (oD eBl due.1)] : DEnv)) ((tg_tup (tgs_cons (tg_name 2 rfl) (tgs_cons (tg_name 3 rfl) (tgs_nil))) rfl) _ rfl) rfl (u_frz (u_call (xs := [eBl got.1, eBl due.1]) (u_cons (u_var 2 rfl) (u_cons (u_var 3 rfl) (u_nil))) (den__law_same_7 (fu + 1) got.1 due.1 _ e_v)) (frz_d _)) (rfl : _ = ([some (oD (fun p : Bool × Bool × Bool × Bool × Bool × Bool × (List Int) => D.lst [eBl p.1, eBl p.2.1, eBl p.2.2.1, eBl p.2.2.2.1, eBl p.2.2.2.2.1, eBl p.2.2.2.2.2.1, (eT eInt) p.2.2.2.2.2.2]) got), some (oD (fun p : Bool × Bool × Bool × Bool × Bool × Bool × (List Int) => D.lst [eBl p.1, eBl p.2.1, eBl p.2.2.1, eBl p.2.2.2.1, eBl p.2.2.2.2.1, eBl p.2.2.2.2.2.1, (eT eInt) p.2.2.2.2.2.2]) due), none, none] : DEnv)) (u_lc1 (δ1 := ([some (oD (fun p : Bool × Bool × Bool × Bool × Bool × Bool × (List Int) => D.lst [eBl p.1, eBl p.2.1, eBl p.2.2.1, eBl p.2.2.2.1, eBl p.2.2.2.2.1, eBl p.2.2.2.2.2.1, (eT eInt) p.2.2.2.2.2.2]) got), some (oD (fun p : Bool × Bool × Bool × Bool × Bool × Bool × (List Int) => D.lst [eBl p.1, eBl p.2.1, eBl p.2.2.1, eBl p.2.2.2.1, eBl p.2.2.2.2.1, eBl p.2.2.2.2.2.1, (eT eInt) p.2.2.2.2.2.2]) due), some (oD eBl got.2.1), some (oD eBl due.2.1)] : DEnv)) ((tg_tup (tgs_cons (tg_name 2 rfl) (tgs_cons (tg_name 3 rfl) (tgs_nil))) rfl) _ rfl) rfl (u_frz (u_call (xs := [eBl got.2.1, eBl due.2.1]) (u_cons (u_var 2 rfl) (u_cons (u_var 3 rfl) (u_nil))) (den__law_same_7 (fu + 1) got.2.1 due.2.1 _ e_v1)) (frz_d _)) (rfl : _ = ([some (oD (fun p : Bool × Bool × Bool × Bool × Bool × Bool × (List Int) => D.lst [eBl p.1, eBl p.2.1, eBl p.2.2.1, eBl p.2.2.2.1, eBl p.2.2.2.2.1, eBl p.2.2.2.2.2.1, (eT eInt) p.2.2.2.2.2.2]) got), some (oD (fun p : Bool × Bool × Bool × Bool × Bool × Bool × (List Int) => D.lst [eBl p.1, eBl p.2.1, eBl p.2.2.1, eBl p.2.2.2.1, eBl p.2.2.2.2.1, eBl p.2.2.2.2.2.1, (eT eInt) p.2.2.2.2.2.2]) due), none, none] : DEnv)) (u_lc1 (δ1 := ([some (oD (fun p : Bool × Bool × Bool × Bool × Bool × Bool × (List Int) => D.lst [eBl p.1, eBl p.2.1, eBl p.2.2.1, eBl p.2.2.2.1, eBl p.2.2.2.2.1, eBl p.2.2.2.2.2.1, (eT eInt) p.2.2.2.2.2.2]) got), some (oD (fun p : Bool × Bool × Bool × Bool × Bool × Bool × (List Int) => D.lst [eBl p.1, eBl p.2.1, eBl p.2.2.1, eBl p.2.2.2.1, eBl p.2.2.2.2.1, eBl p.2.2.2.2.2.1, (eT eInt) p.2.2.2.2.2.2]) due), some (oD eBl got.2.2.1), some (oD eBl due.2.2.1)] : DEnv)) ((tg_tup (tgs_cons (tg_name 2 rfl) (tgs_cons (tg_name 3 rfl) (tgs_nil))) rfl) _ rfl) rfl (u_frz (u_call (xs := [eBl got.2.2.1, eBl due.2.2.1]) (u_cons (u_var 2 rfl) (u_cons (u_var 3 rfl) (u_nil))) (den__law_same_7 (fu + 1) got.2.2.1 due.2.2.1 _ e_v2)) (frz_d _)) (rfl : _ = ([some (oD (fun p : Bool × Bool × Bool × Bool × Bool × Bool × (List Int) => D.lst [eBl p.1, eBl p.2.1, eBl p.2.2.1, eBl p.2.2.2.1, eBl p.2.2.2.2.1, eBl p.2.2.2.2.2.1, (eT eInt) p.2.2.2.2.2.2]) got), some (oD (fun p : Bool × Bool × Bool × Bool × Bool × Bool × (List Int) => D.lst [eBl p.1, eBl p.2.1, eBl p.2.2.1, eBl p.2.2.2.1, eBl p.2.2.2.2.1, eBl p.2.2.2.2.2.1, (eT eInt) p.2.2.2.2.2.2]) due), none, none] : DEnv)) (u_lc1 (δ1 := ([some (oD (fun p : Bool × Bool × Bool × Bool × Bool × Bool × (List Int) => D.lst [eBl p.1, eBl p.2.1, eBl p.2.2.1, eBl p.2.2.2.1, eBl p.2.2.2.2.1, eBl p.2.2.2.2.2.1, (eT eInt) p.2.2.2.2.2.2]) got), some (oD (fun p : Bool × Bool × Bool × Bool × Bool × Bool × (List Int) => D.lst [eBl p.1, eBl p.2.1, eBl p.2.2.1, eBl p.2.2.2.1, eBl p.2.2.2.2.1, eBl p.2.2.2.2.2.1, (eT eInt) p.2.2.2.2.2.2]) due), some (oD eBl got.2.2.2.1), some (oD eBl due.2.2.2.1)] : DEnv)) ((tg_tup (tgs_cons (tg_name 2 rfl) (tgs_cons (tg_name 3 rfl) (tgs_nil))) rfl) _ rfl) rfl (u_frz (u_call (xs := [eBl got.2.2.2.1, eBl due.2.2.2.1]) (u_cons (u_var 2 rfl) (u_cons (u_var 3 rfl) (u_nil))) (den__law_same_7 (fu + 1) got.2.2.2.1 due.2.2.2.1 _ e_v3)) (frz_d _)) (rfl : _ = ([some (oD (fun p : Bool × Bool × Bool × Bool × Bool × Bool × (List Int) => D.lst [eBl p.1, eBl p.2.1, eBl p.2.2.1, eBl p.2.2.2.1, eBl p.2.2.2.2.1, eBl p.2.2.2.2.2.1, (eT eInt) p.2.2.2.2.2.2]) got), some (oD (fun p : Bool × Bool × Bool × Bool × Bool × Bool × (List Int) => D.lst [eBl p.1, eBl p.2.1, eBl p.2.2.1, eBl p.2.2.2.1, eBl p.2.2.2.2.1, eBl p.2.2.2.2.2.1, (eT eInt) p.2.2.2.2.2.2]) due), none, none] : DEnv)) (u_lc1 (δ1 := ([some (oD (fun p : Bool × Bool × Bool × Bool × Bool × Bool × (List Int) => D.lst [eBl p.1, eBl p.2.1, eBl p.2.2.1, eBl p.2.2.2.1, eBl p.2.2.2.2.1, eBl p.2.2.2.2.2.1, (eT eInt) p.2.2.2.2.2.2]) got), some (oD (fun p : Bool × Bool × Bool × Bool × Bool × Bool × (List Int) => D.lst [eBl p.1, eBl p.2.1, eBl p.2.2.1, eBl p.2.2.2.1, eBl p.2.2.2.2.1, eBl p.2.2.2.2.2.1, (eT eInt) p.2.2.2.2.2.2]) due), some (oD eBl got.2.2.2.2.1), some (oD eBl due.2.2.2.2.1)] : DEnv)) ((tg_tup (tgs_cons (tg_name 2 rfl) (tgs_cons (tg_name 3 rfl) (tgs_nil))) rfl) _ rfl) rfl (u_frz (u_call (xs := [eBl got.2.2.2.2.1, eBl due.2.2.2.2.1]) (u_cons (u_var 2 rfl) (u_cons (u_var 3 rfl) (u_nil))) (den__law_same_7 (fu + 1) got.2.2.2.2.1 due.2.2.2.2.1 _ e_v4)) (frz_d _)) (rfl : _ = ([some (oD (fun p : Bool × Bool × Bool × Bool × Bool × Bool × (List Int) => D.lst [eBl p.1, eBl p.2.1, eBl p.2.2.1, eBl p.2.2.2.1, eBl p.2.2.2.2.1, eBl p.2.2.2.2.2.1, (eT eInt) p.2.2.2.2.2.2]) got), some (oD (fun p : Bool × Bool × Bool × Bool × Bool × Bool × (List Int) => D.lst [eBl p.1, eBl p.2.1, eBl p.2.2.1, eBl p.2.2.2.1, eBl p.2.2.2.2.1, eBl p.2.2.2.2.2.1, (eT eInt) p.2.2.2.2.2.2]) due), none, none] : DEnv)) (u_lc1 (δ1 := ([some (oD (fun p : Bool × Bool × Bool × Bool × Bool × Bool × (List Int) => D.lst [eBl p.1, eBl p.2.1, eBl p.2.2.1, eBl p.2.2.2.1, eBl p.2.2.2.2.1, eBl p.2.2.2.2.2.1, (eT eInt) p.2.2.2.2.2.2]) got), some (oD (fun p : Bool × Bool × Bool × Bool × Bool × Bool × (List Int) => D.lst [eBl p.1, eBl p.2.1, eBl p.2.2.1, eBl p.2.2.2.1, eBl p.2.2.2.2.1, eBl p.2.2.2.2.2.1, (eT eInt) p.2.2.2.2.2.2]) due), some (oD eBl got.2.2.2.2.2.1), some (oD eBl due.2.2.2.2.2.1)] : DEnv)) ((tg_tup (tgs_cons (tg_name 2 rfl) (tgs_cons (tg_name 3 rfl) (tgs_nil))) rfl) _ rfl) rfl (u_frz (u_call (xs := [eBl got.2.2.2.2.2.1, eBl due.2.2.2.2.2.1]) (u_cons (u_var 2 rfl) (u_cons (u_var 3 rfl) (u_nil))) (den__law_same_7 (fu + 1) got.2.2.2.2.2.1 due.2.2.2.2.2.1 _ e_v5)) (frz_d _)) (rfl : _ = ([some (oD (fun p : Bool × Bool × Bool × Bool × Bool × Bool × (List Int) => D.lst [eBl p.1, eBl p.2.1, eBl p.2.2.1, eBl p.2.2.2.1, eBl p.2.2.2.2.1, eBl p.2.2.2.2.2.1, (eT eInt) p.2.2.2.2.2.2]) got), some (oD (fun p : Bool × Bool × Bool × Bool × Bool × Bool × (List Int) => D.lst [eBl p.1, eBl p.2.1, eBl p.2.2.1, eBl p.2.2.2.1, eBl p.2.2.2.2.1, eBl p.2.2.2.2.2.1, (eT eInt) p.2.2.2.2.2.2]) due), none, none] : DEnv)) (u_lc1 (δ1 := ([some (oD (fun p : Bool × Bool × Bool × Bool × Bool × Bool × (List Int) => D.lst [eBl p.1, eBl p.2.1, eBl p.2.2.1, eBl p.2.2.2.1, eBl p.2.2.2.2.1, eBl p.2.2.2.2.2.1, (eT eInt) p.2.2.2.2.2.2]) got), some (oD (fun p : Bool × Bool × Bool × Bool × Bool × Bool × (List Int) => D.lst [eBl p.1, eBl p.2.1, eBl p.2.2.1, eBl p.2.2.2.1, eBl p.2.2.2.2.1, eBl p.2.2.2.2.2.1, (eT eInt) p.2.2.2.2.2.2]) due), some (oD (eT eInt) got.2.2.2.2.2.2), some (oD (eT eInt) due.2.2.2.2.2.2)] : DEnv)) ((tg_tup (tgs_cons (tg_name 2 rfl) (tgs_cons (tg_name 3 rfl) (tgs_nil))) rfl) _ rfl) rfl (u_frz (u_call (xs := [(eT eInt) got.2.2.2.2.2.2, (eT eInt) due.2.2.2.2.2.2]) (u_cons (u_var 2 rfl) (u_cons (u_var 3 rfl) (u_nil))) (den__law_same_3 (fu + 0) got.2.2.2.2.2.2 due.2.2.2.2.2.2 _ e_v6)) (frz_d _)) (rfl : _ = ([some (oD (fun p : Bool × Bool × Bool × Bool × Bool × Bool × (List Int) => D.lst [eBl p.1, eBl p.2.1, eBl p.2.2.1, eBl p.2.2.2.1, eBl p.2.2.2.2.1, eBl p.2.2.2.2.2.1, (eT eInt) p.2.2.2.2.2.2]) got), some (oD (fun p : Bool × Bool × Bool × Bool × Bool × Bool × (List Int) => D.lst [eBl p.1, eBl p.2.1, eBl p.2.2.1, eBl p.2.2.2.1, eBl p.2.2.2.2.1, eBl p.2.2.2.2.2.1, (eT eInt) p.2.2.2.2.2.2]) due), none, none] : DEnv)) (u_lc0)))))))) rfl (rfl : _ = ([some (oD (fun p : Bool × Bool × Bool × Bool × Bool × Bool × (List Int) => D.lst [eBl p.1, eBl p.2.1, eBl p.2.2.1, eBl p.2.2.2.1, eBl p.2.2.2.2.1, eBl p.2.2.2.2.2.1, (eT eInt) p.2.2.2.2.2.2]) got), some (oD (fun p : Bool × Bool × Bool × Bool × Bool × Bool × (List Int) => D.lst [eBl p.1, eBl p.2.1, eBl p.2.2.1, eBl p.2.2.2.1, eBl p.2.2.2.2.1, eBl p.2.2.2.2.2.1, (eT eInt) p.2.2.2.2.2.2]) due), none, none] : DEnv)) (rfl : _ = (O.lst [(oD eBl v), (oD eBl v1), (oD eBl v2), (oD eBl v3), (oD eBl v4), (oD eBl v5), (oD eBl v6)]))) (frz_lit [(eBl v), (eBl v1), (eBl v2), (eBl v3), (eBl v4), (eBl v5), (eBl v6)])) (fAll_L ([v, v1, v2, v3, v4, v5, v6] : List Bool)))))
def t__law_moebius (n : Int) : R Int :=
  U.bind (rng2 2 (n + 1)) fun v =>
  U.bind (forC (ρ := Int) (fun (p : Int) (st : Int × Int) =>
  (match st with
  | (found, left_so) =>
  U.bind (need (okMod left_so p)) fun w =>
  if (decide ((left_so % p) = 0)) then
  U.bind (need (okDiv left_so p)) fun w1 =>
  U.bind (need (okMod (left_so / p) p)) fun w2 =>
  if (decide (((left_so / p) % p) = 0)) then
  .ok (Ctl.rt 0)
  else
  .ok (Ctl.nx ((0 - found), (left_so / p)))
  else
  .ok (Ctl.nx (found, left_so)))) v (1, n)) fun c1 => (match c1 with
  | .nx (found1, left_so1) =>
  .ok found1
  | .bk _ => .no
  | .rt z => .ok z)
theorem den__law_moebius (n : Int) (r : Int) (h : t__law_moebius n = .ok r) : f__law_moebius [(oD eInt n)] = .ok ((oD eInt) r, none) := by
  unfold t__law_moebius at h
  refine run_of rfl ?_
  show Tl (m__law_moebius ([some (oD eInt n), none, none, none] : DEnv)) _
  unfold m__law_moebius
  refine tl_seq (δ1 := ([some (oD eInt n), some (oD eInt 1), some (oD eInt n), none] : DEnv)) (u_par 1 2 (u_ocons (u_dat (u_c _)) (u_ocons (u_dat (u_var 0 rfl)) u_onil)) rfl rfl) ?_
  obtain ⟨v, e_v, h1⟩ := of_bind h
  clear h
  obtain ⟨c1, h8, h9⟩ := of_bind h1
  clear h1
  refine tl_contC (tl_forC (o := (oD eInt)) (e := eInt) (idx := [3]) (V := []) (n := 4) (T := (fun p : Int => [(3, (eInt p))])) (lit := (fun s : Int × Int => ([some (oD eInt n), some (oD eInt s.1), some (oD eInt s.2), none] : DEnv))) h8 (u_rng2 (u_cons (u_c _) (u_cons (u_frz (u_o2 (u_var 0 rfl) (u_c _) rfl) (frz_d _)) (u_nil))) e_v) rfl (fun _ => rfl) (fun p => tg_name 3 rfl) (fun _ => rfl) (by decide) ?_) ?_ ?_
  · rintro p _ ⟨found, left_so⟩ c h2
    dsimp only at h2
    refine tl_at (δ' := ([some (oD eInt n), some (oD eInt found), some (oD eInt left_so), some (oD eInt p)] : DEnv)) rfl ?_
    obtain ⟨w, e_w, h3⟩ := of_bind h2
    clear h2
    rcases of_ite h3 with ⟨hc, h4⟩ | ⟨hc, h4⟩ <;> clear h3
    · refine tl_ifT2 (u_bool (u_d2 (u_d2 (u_var 2 rfl) (u_var 3 rfl) (f_mod (of_need e_w))) (u_c _) rfl)) hc ?_
      clear hc
      obtain ⟨w1, e_w1, h5⟩ := of_bind h4
      clear h4
      refine tl_assoc ?_
      refine tl_seq (δ1 := ([some (oD eInt n), some (oD eInt found), some (oD eInt (left_so / p)), some (oD eInt p)] : DEnv)) (u_set 2 (u_dat (u_d2 (u_var 2 rfl) (u_var 3 rfl) (f_div (of_need e_w1)))) rfl rfl) ?_
      obtain ⟨w2, e_w2, h6⟩ := of_bind h5
      clear h5
      rcases of_ite h6 with ⟨hc, h7⟩ | ⟨hc, h7⟩ <;> clear h6
      · refine tl_assoc ?_
        refine tl_ifT2 (u_bool (u_d2 (u_d2 (u_var 2 rfl) (u_var 3 rfl) (f_mod (of_need e_w2))) (u_c _) rfl)) hc ?_
        clear hc
        refine tl_assoc ?_
        exact tl_rtC (lit := (fun s : Int × Int => ([some (oD eInt n), some (oD eInt s.1), some (oD eInt s.2), none] : DEnv))) (o := (oD eInt)) h7 (u_dat (u_c _))
      · refine tl_assoc ?_
        refine tl_ifF2 (u_bool (u_d2 (u_d2 (u_var 2 rfl) (u_var 3 rfl) (f_mod (of_need e_w2))) (u_c _) rfl)) hc ?_
        clear hc
        refine tl_nil ?_
        refine tl_wipes ?_
        refine tl_assoc ?_
        refine tl_seq (δ1 := ([some (oD eInt n), some (oD eInt (0 - found)), some (oD eInt (left_so / p)), some (oD eInt p)] : DEnv)) (u_set 1 (u_dat (u_d2 (u_c _) (u_var 1 rfl) rfl)) rfl rfl) ?_
        refine tl_nil ?_
        refine tl_wipe ?_
        exact tl_endC (lit := (fun s : Int × Int => ([some (oD eInt n), some (oD eInt s.1), some (oD eInt s.2), none] : DEnv))) h7 rfl
    · refine tl_ifF2 (u_bool (u_d2 (u_d2 (u_var 2 rfl) (u_var 3 rfl) (f_mod (of_need e_w))) (u_c _) rfl)) hc ?_
      clear hc
      refine tl_nil ?_
      refine tl_wipe ?_
      exact tl_endC (lit := (fun s : Int × Int => ([some (oD eInt n), some (oD eInt s.1), some (oD eInt s.2), none] : DEnv))) h4 rfl
  · rintro ⟨found1, left_so1⟩ rfl
    dsimp only at h9
    clear h8
    refine tl_at (δ' := ([some (oD eInt n), some (oD eInt found1), some (oD eInt left_so1), none] : DEnv)) rfl ?_
    exact tl_rtF (o := (oD eInt)) h9 (u_ovar 1 rfl (rfl : _ = ([some (oD eInt n), none, some (oD eInt left_so1), none] : DEnv)))
  · rintro z rfl δq
    dsimp only at h9
    exact pf_rtv h9 δq
def t__law_power (k : Int) (often_so : Int) : R Int :=
  U.bind (rng1 often_so) fun v =>
  U.bind (forM (fun (lap : Int) (found : Int) =>
  U.bind (need (okMul found k)) fun w =>
  .ok (found * k)) v 1) fun found1 =>
  .ok found1
theorem den__law_power (k : Int) (often_so : Int) (r : Int) (h : t__law_power k often_so = .ok r) : f__law_power [(oD eInt k), (oD eInt often_so)] = .ok ((oD eInt) r, none) := by
  unfold t__law_power at h
  refine run_of rfl ?_
  show Tl (m__law_power ([some (oD eInt k), some (oD eInt often_so), none, none] : DEnv)) _
  unfold m__law_power
  refine tl_seq (δ1 := ([some (oD eInt k), some (oD eInt often_so), some (oD eInt 1), none] : DEnv)) (u_set 2 (u_dat (u_c _)) rfl rfl) ?_
  obtain ⟨v, e_v, h1⟩ := of_bind h
  clear h
  obtain ⟨found1, h4, h5⟩ := of_bind h1
  clear h1
  refine tl_blk (tl_for (e := eInt) (idx := [3]) (V := []) (n := 4) (T := (fun lap : Int => [(3, (eInt lap))])) (lit := (fun s : Int => ([some (oD eInt k), some (oD eInt often_so), some (oD eInt s), none] : DEnv))) h4 (u_rng1 (u_cons (u_var 1 rfl) (u_nil)) e_v) rfl (fun _ => rfl) (fun lap => tg_name 3 rfl) (fun _ => rfl) (by decide) ?_) ?_
  · intro lap _ found s0 h2
    refine tl_at (δ' := ([some (oD eInt k), some (oD eInt often_so), some (oD eInt found), some (oD eInt lap)] : DEnv)) rfl ?_
    obtain ⟨w, e_w, h3⟩ := of_bind h2
    clear h2
    refine tl_seq (δ1 := ([some (oD eInt k), some (oD eInt often_so), some (oD eInt (found * k)), some (oD eInt lap)] : DEnv)) (u_set 2 (u_o2 (u_var 2 rfl) (u_var 0 rfl) (f_mulI (of_need e_w))) rfl rfl) ?_
    exact tl_endL (lit := (fun s : Int => ([some (oD eInt k), some (oD eInt often_so), some (oD eInt s), none] : DEnv))) h3 rfl
  clear h4
  refine tl_at (δ' := ([some (oD eInt k), some (oD eInt often_so), some (oD eInt found1), none] : DEnv)) rfl ?_
  exact tl_rtF (o := (oD eInt)) h5 (u_ovar 2 rfl (rfl : _ = ([some (oD eInt k), some (oD eInt often_so), none, none] : DEnv)))
def t_basic_words_2 (degrees : List Int) (most : Int) : R (List (List Int)) :=
  U.bind (t_sure_list_2 degrees 1) fun v =>
  U.bind (t_sure_within most 0 20) fun v1 =>
  U.bind (t_lyndon_words v v1) fun v2 =>
  U.bind (chk v2.length) fun w =>
  U.bind (compM (fun word : List Int => U.bind (t_word_degree v word) fun v3 =>
  U.bind (if (decide ((v3 % 2) = 1)) then (U.bind (t_word_degree v word) fun v4 =>
  .ok (decide ((2 * v4) ≤ v1))) else .ok false) fun b =>
  .ok b) (fun word : List Int => .ok word) v2) fun v5 =>
  U.bind (chk v5.length) fun w1 =>
  U.bind (mapM (fun word1 : List Int => U.bind (cat word1 word1) fun v6 =>
  .ok v6) v5) fun v7 =>
  U.bind (cat v2 v7) fun v8 =>
  U.bind (sortR v8) fun v9 =>
  .ok v9
theorem den_basic_words_2 (degrees : List Int) (most : Int) (r : List (List Int)) (h : t_basic_words_2 degrees most = .ok r) : f_basic_words [(oD (eT eInt) degrees), (oD eInt most)] = .ok ((oL (oD (eT eInt))) r, none) := by
  unfold t_basic_words_2 at h
  refine run_of rfl ?_
  show Tl (m_basic_words ([some (oD (eT eInt) degrees), some (oD eInt most), none, none, none, none, none] : DEnv)) _
  unfold m_basic_words
  obtain ⟨v, e_v, h1⟩ := of_bind h
  clear h
  obtain ⟨v1, e_v1, h2⟩ := of_bind h1
  clear h1
  refine tl_seq (δ1 := ([some (oD (eT eInt) degrees), some (oD eInt most), some (oD (eT eInt) v), some (oD eInt v1), none, none, none] : DEnv)) (u_asg (u_tup (u_cons (u_frz (u_call (xs := [(eT eInt) degrees, eInt 1]) (u_cons (u_var 0 rfl) (u_cons (u_c _) (u_nil))) (den_sure_list_2 degrees 1 _ e_v)) (frz_d _)) (u_cons (u_frz (u_call (xs := [eInt most, eInt 0, eInt 20]) (u_cons (u_var 1 rfl) (u_cons (u_c _) (u_cons (u_c _) (u_nil)))) (den_sure_within most 0 20 _ e_v1)) (frz_d _)) (u_nil))) rfl) ((tg_tup (tgs_cons (tg_name 2 rfl) (tgs_cons (tg_name 3 rfl) (tgs_nil))) rfl) _ rfl)) ?_
  obtain ⟨v2, e_v2, h3⟩ := of_bind h2
  clear h2
  refine tl_seq (δ1 := ([some (oD (eT eInt) degrees), some (oD eInt most), some (oD (eT eInt) v), some (oD eInt v1), some ((oL (oD (eT eInt))) v2), none, none] : DEnv)) (u_set 4 (u_call (xs := [(eT eInt) v, eInt v1]) (u_cons (u_var 2 rfl) (u_cons (u_var 3 rfl) (u_nil))) (den_lyndon_words v v1 _ e_v2)) rfl rfl) ?_
  obtain ⟨w, e_w, h7⟩ := of_bind h3
  clear h3
  obtain ⟨v5, e_v5, h8⟩ := of_bind h7
  clear h7
  refine tl_seq (δ1 := ([some (oD (eT eInt) degrees), some (oD eInt most), some (oD (eT eInt) v), some (oD eInt v1), some (oD (eL (eT eInt)) v2), some ((oL (oD (eT eInt))) v5), none] : DEnv)) (u_set 5 (u_compM (e := (eT eInt)) (e2 := (eT eInt)) (T := (fun word => [(6, ((eT eInt) word))])) (δw := ([some (oD (eT eInt) degrees), some (oD eInt most), some (oD (eT eInt) v), some (oD eInt v1), some (oD (eL (eT eInt)) v2), none, none] : DEnv)) (n := 7) (vs := [6]) (p := (fun word : List Int => U.bind (t_word_degree v word) fun v3 =>
  U.bind (if (decide ((v3 % 2) = 1)) then (U.bind (t_word_degree v word) fun v4 =>
  .ok (decide ((2 * v4) ≤ v1))) else .ok false) fun b =>
  .ok b)) (f := (fun word : List Int => .ok word)) e_v5 (u_items (u_varL 4 rfl ((frz_L (frz_D (eT eInt))) _) (rfl : _ = ([some (oD (eT eInt) degrees), some (oD eInt most), some (oD (eT eInt) v), some (oD eInt v1), some (oD (eL (eT eInt)) v2), none, none] : DEnv))) rfl) (of_chk e_w) rfl rfl (fun word => tg_name 6 rfl) (fun _ => rfl) (fun word _ _ hA => u_at (δ' := ([some (oD (eT eInt) degrees), some (oD eInt most), some (oD (eT eInt) v), some (oD eInt v1), some (oD (eL (eT eInt)) v2), none, some (oD (eT eInt) word)] : DEnv)) rfl ((match of_bind hA with | ⟨v3, e_v3, h5⟩ => (match of_bind h5 with | ⟨b, e_b, h6⟩ => u_br (p := fun z : Bool => (z, ([some (oD (eT eInt) degrees), some (oD eInt most), some (oD (eT eInt) v), some (oD eInt v1), some (oD (eL (eT eInt)) v2), none, some (oD (eT eInt) word)] : DEnv))) h6 (u_andM e_b (u_bool (u_d2 (u_d2 (u_frz (u_call (xs := [(eT eInt) v, (eT eInt) word]) (u_cons (u_var 2 rfl) (u_cons (u_var 6 rfl) (u_nil))) (den_word_degree v word _ e_v3)) (frz_d _)) (u_c _) (f_mod rfl)) (u_c _) rfl)) (fun _ hA => (match of_bind hA with | ⟨v4, e_v4, h4⟩ => u_br (p := fun z : Bool => (z, ([some (oD (eT eInt) degrees), some (oD eInt most), some (oD (eT eInt) v), some (oD eInt v1), some (oD (eL (eT eInt)) v2), none, some (oD (eT eInt) word)] : DEnv))) h4 (u_bool (u_d2 (u_frz (u_o2 (u_c _) (u_frz (u_call (xs := [(eT eInt) v, (eT eInt) word]) (u_cons (u_var 2 rfl) (u_cons (u_var 6 rfl) (u_nil))) (den_word_degree v word _ e_v4)) (frz_d _)) (f_mulI (f_mulL rfl))) (frz_d _)) (u_var 3 rfl) rfl))))))))) (fun word _ _ y hA => u_at (δ' := ([some (oD (eT eInt) degrees), some (oD eInt most), some (oD (eT eInt) v), some (oD eInt v1), some (oD (eL (eT eInt)) v2), none, some (oD (eT eInt) word)] : DEnv)) rfl (u_br (p := fun z : List Int => ((eT eInt) z, ([some (oD (eT eInt) degrees), some (oD eInt most), some (oD (eT eInt) v), some (oD eInt v1), some (oD (eL (eT eInt)) v2), none, some (oD (eT eInt) word)] : DEnv))) hA (u_var 6 rfl))) (rfl : _ = ([some (oD (eT eInt) degrees), some (oD eInt most), some (oD (eT eInt) v), some (oD eInt v1), some (oD (eL (eT eInt)) v2), none, none] : DEnv))) rfl rfl) ?_
  obtain ⟨w1, e_w1, h10⟩ := of_bind h8
  clear h8
  obtain ⟨v7, e_v7, h11⟩ := of_bind h10
  clear h10
  obtain ⟨v8, e_v8, h12⟩ := of_bind h11
  clear h11
  obtain ⟨v9, e_v9, h13⟩ := of_bind h12
  clear h12
  exact tl_rtF (o := (oL (oD (eT eInt)))) h13 (u_o1 (u_frz (u_o2 (u_var 4 rfl) (u_frz (u_compMA (e := (eT eInt)) (e2 := (eT eInt)) (T := (fun word1 => [(6, ((eT eInt) word1))])) (δw := ([some (oD (eT eInt) degrees), some (oD eInt most), some (oD (eT eInt) v), some (oD eInt v1), some (oD (eL (eT eInt)) v2), some (oD (eL (eT eInt)) v5), none] : DEnv)) (n := 7) (vs := [6]) (f := (fun word1 : List Int => U.bind (cat word1 word1) fun v6 =>
  .ok v6)) e_v7 (u_items (u_varL 5 rfl ((frz_L (frz_D (eT eInt))) _) (rfl : _ = ([some (oD (eT eInt) degrees), some (oD eInt most), some (oD (eT eInt) v), some (oD eInt v1), some (oD (eL (eT eInt)) v2), some (oD (eL (eT eInt)) v5), none] : DEnv))) rfl) (of_chk e_w1) rfl rfl (fun word1 => tg_name 6 rfl) (fun _ => rfl) (fun word1 _ y1 hA => u_at (δ' := ([some (oD (eT eInt) degrees), some (oD eInt most), some (oD (eT eInt) v), some (oD eInt v1), some (oD (eL (eT eInt)) v2), some (oD (eL (eT eInt)) v5), some (oD (eT eInt) word1)] : DEnv)) rfl ((match of_bind hA with | ⟨v6, e_v6, h9⟩ => u_br (p := fun z : List Int => ((eT eInt) z, ([some (oD (eT eInt) degrees), some (oD eInt most), some (oD (eT eInt) v), some (oD eInt v1), some (oD (eL (eT eInt)) v2), some (oD (eL (eT eInt)) v5), some (oD (eT eInt) word1)] : DEnv))) h9 (u_frz (u_o2 (u_var 6 rfl) (u_var 6 rfl) (fAdd_T (e := eInt) e_v6)) (frz_d _))))) (rfl : _ = ([some (oD (eT eInt) degrees), some (oD eInt most), some (oD (eT eInt) v), some (oD eInt v1), some (oD (eL (eT eInt)) v2), some (oD (eL (eT eInt)) v5), none] : DEnv))) ((frz_L (frz_D (eT eInt))) _)) (fAdd_L (e := (eT eInt)) e_v8)) ((frz_L (frz_D (eT eInt))) _)) (fSorted_R e_v9))
def t__law_same_11 (got : List Int) (due : Int) : R Bool :=
  .ok false
theorem den__law_same_11 (fu : Nat) (got : List Int) (due : Int) (r : Bool) (h : t__law_same_11 got due = .ok r) : f__law_same (fu + 1) [(oD (eT eInt) got), (oD eInt due)] = .ok ((oD eBl) r, none) := by
  unfold t__law_same_11 at h
  refine run_of rfl ?_
  show Tl (m__law_same (f__law_same (fu + 0)) ([some (oD (eT eInt) got), some (oD eInt due), none, none] : DEnv)) _
  unfold m__law_same
  refine tl_ifF (u_bool (u_d1 (u_var 1 rfl) (show _ = R.ok (D.bl false) from rfl))) ?_
  refine tl_nil ?_
  refine tl_wipe ?_
  refine tl_ifF (u_bool (u_d2 (u_var 1 rfl) (u_c _) rfl)) ?_
  refine tl_nil ?_
  refine tl_wipe ?_
  refine tl_ifF (u_bool (u_d1 (u_var 1 rfl) (show _ = R.ok (D.bl false) from rfl))) ?_
  refine tl_nil ?_
  refine tl_wipe ?_
  exact tl_rtF (o := (oD eBl)) h (u_dat (u_andV0 (u_d1 (u_var 0 rfl) (show _ = R.ok (D.bl false) from rfl))))
def t__law_same_10 (got : List (List Int)) (due : List Int) : R Bool :=
  if ((!decide (true = true)) || (!decide (false = false))) then
  .ok false
  else
  U.bind (if (decide ((got.length : Int) = (due.length : Int))) then (U.bind (chk (got.zip due).length) fun w =>
  .ok (((got.zip due).map (fun p : (List Int) × Int => false)).all id)) else .ok false) fun b =>
  .ok b
theorem den__law_same_10 (fu : Nat) (got : List (List Int)) (due : List Int) (r : Bool) (h : t__law_same_10 got due = .ok r) : f__law_same (fu + 2) [(oD (eL (eT eInt)) got), (oD (eL eInt) due)] = .ok ((oD eBl) r, none) := by
  unfold t__law_same_10 at h
  refine run_of rfl ?_
  show Tl (m__law_same (f__law_same (fu + 1)) ([some (oD (eL (eT eInt)) got), some (oD (eL eInt) due), none, none] : DEnv)) _
  unfold m__law_same
  refine tl_ifT (u_bool (u_d1 (u_var 1 rfl) (show _ = R.ok (D.bl true) from rfl))) ?_
  rcases of_ite h with ⟨hc, h1⟩ | ⟨hc, h1⟩ <;> clear h
  · refine tl_assoc ?_
    refine tl_ifT2 (u_orT (u_bool (u_d2 (u_d1 (u_var 0 rfl) (show _ = R.ok (D.bl true) from rfl)) (u_d1 (u_var 1 rfl) (show _ = R.ok (D.bl true) from rfl)) (f_ne eq_bl rfl true true))) (fun _ => u_bool (u_d2 (u_d1 (u_var 0 rfl) (show _ = R.ok (D.bl false) from rfl)) (u_d1 (u_var 1 rfl) (show _ = R.ok (D.bl false) from rfl)) (f_ne eq_bl rfl false false)))) hc ?_
    clear hc
    refine tl_assoc ?_
    exact tl_rtF (o := (oD eBl)) h1 (u_dat (u_c _))
  · refine tl_assoc ?_
    refine tl_ifF2 (u_orT (u_bool (u_d2 (u_d1 (u_var 0 rfl) (show _ = R.ok (D.bl true) from rfl)) (u_d1 (u_var 1 rfl) (show _ = R.ok (D.bl true) from rfl)) (f_ne eq_bl rfl true true))) (fun _ => u_bool (u_d2 (u_d1 (u_var 0 rfl) (show _ = R.ok (D.bl false) from rfl)) (u_d1 (u_var 1 rfl) (show _ = R.ok (D.bl false) from rfl)) (f_ne eq_bl rfl false false)))) hc ?_
    clear hc
    refine tl_nil ?_
    refine tl_wipes ?_
    obtain ⟨b, e_b, h3⟩ := of_bind h1
    clear h1
    refine tl_assoc ?_
    exact tl_rtF (o := (oD eBl)) h3 (u_dat (u_andVM e_b (u_d2 (u_lenN 0 rfl (oLen_dL (e := (eT eInt)) _)) (u_lenN 1 rfl (oLen_dL (e := eInt) _)) rfl) (fun _ hA => (match of_bind hA with | ⟨w, e_w, h2⟩ => u_br (p := fun z : Bool => (eBl z, ([some (oD (eL (eT eInt)) got), some (oD (eL eInt) due), none, none] : DEnv))) h2 (u_d1 (u_frz (u_compA (e := (eP (eT eInt) eInt)) (e2 := eBl) (T := (fun p => [(2, ((eT eInt) p.1)), (3, (eInt p.2))])) (δw := ([some (oD (eL (eT eInt)) got), some (oD (eL eInt) due), none, none] : DEnv)) (n := 4) (vs := [2, 3]) (f := (fun p : (List Int) × Int => false)) (u_zip (e := (eT eInt)) (e2 := eInt) (xs := got) (ys := due) (u_cons (u_var 0 rfl) (u_cons (u_var 1 rfl) (u_nil))) rfl) (of_chk e_w) rfl rfl (fun p => tg_tup (tgs_cons (tg_name 2 rfl) (tgs_cons (tg_name 3 rfl) (tgs_nil))) rfl) (fun _ => rfl) (fun p _ => u_at (δ' := ([some (oD (eL (eT eInt)) got), some (oD (eL eInt) due), some (oD (eT eInt) p.1), some (oD eInt p.2)] : DEnv)) rfl (u_frz (u_call (xs := [(eT eInt) p.1, eInt p.2]) (u_cons (u_var 2 rfl) (u_cons (u_var 3 rfl) (u_nil))) (den__law_same_11 (fu + 0) p.1 p.2 false rfl)) (frz_d _))) (rfl : _ = ([some (oD (eL (eT eInt)) got), some (oD (eL eInt) due), none, none] : DEnv))) ((frz_L (frz_D eBl)) _)) (fAll_L ((got.zip due).map (fun p : (List Int) × Int => false))))))))
def t__law_same_9 (got : Int × (List Int) × (List Int) × (List (List Int))) (due : Int × (Int × Int × Int × Int) × (Int × Int × Int) × Unit) : R Bool :=
  if ((!decide (true = true)) || (!decide (false = false))) then
  .ok false
  else
  U.bind (t__law_same_4 got.1 due.1) fun v =>
  U.bind (t__law_same_3 got.2.1 ([due.2.1.1, due.2.1.2.1, due.2.1.2.2.1, due.2.1.2.2.2] : List Int)) fun v1 =>
  U.bind (t__law_same_3 got.2.2.1 ([due.2.2.1.1, due.2.2.1.2.1, due.2.2.1.2.2] : List Int)) fun v2 =>
  U.bind (t__law_same_10 got.2.2.2 ([] : List Int)) fun v3 =>
  .ok (([v, v1, v2, v3] : List Bool).all id)
theorem den__law_same_9 (fu : Nat) (got : Int × (List Int) × (List Int) × (List (List Int))) (due : Int × (Int × Int × Int × Int) × (Int × Int × Int) × Unit) (r : Bool) (h : t__law_same_9 got due = .ok r) : f__law_same (fu + 3) [(oD (fun p : Int × (List Int) × (List Int) × (List (List Int)) => D.lst [eInt p.1, (eT eInt) p.2.1, (eT eInt) p.2.2.1, (eL (eT eInt)) p.2.2.2]) got), (oD (fun p : Int × (Int × Int × Int × Int) × (Int × Int × Int) × Unit => D.lst [eInt p.1, (fun p : Int × Int × Int × Int => D.tup [eInt p.1, eInt p.2.1, eInt p.2.2.1, eInt p.2.2.2]) p.2.1, (fun p : Int × Int × Int => D.tup [eInt p.1, eInt p.2.1, eInt p.2.2]) p.2.2.1, (fun p : Unit => D.lst []) p.2.2.2]) due)] = .ok ((oD eBl) r, none) := by
  unfold t__law_same_9 at h
  refine run_of rfl ?_
  show Tl (m__law_same (f__law_same (fu + 2)) ([some (oD (fun p : Int × (List Int) × (List Int) × (List (List Int)) => D.lst [eInt p.1, (eT eInt) p.2.1, (eT eInt) p.2.2.1, (eL (eT eInt)) p.2.2.2]) got), some (oD (fun p : Int × (Int × Int × Int × Int) × (Int × Int × Int) × Unit => D.lst [eInt p.1, (fun p : Int × Int × Int × Int => D.tup [eInt p.1, eInt p.2.1, eInt p.2.2.1, eInt p.2.2.2]) p.2.1, (fun p : Int × Int × Int => D.tup [eInt p.1, eInt p.2.1, eInt p.2.2]) p.2.2.1, (fun p : Unit => D.lst []) p.2.2.2]) due), none, none] : DEnv)) _
  unfold m__law_same
  refine tl_ifT (u_bool (u_d1 (u_var 1 rfl) (show _ = R.ok (D.bl true) from rfl))) ?_
  rcases of_ite h with ⟨hc, h1⟩ | ⟨hc, h1⟩ <;> clear h
  · refine tl_assoc ?_
    refine tl_ifT2 (u_orT (u_bool (u_d2 (u_d1 (u_var 0 rfl) (show _ = R.ok (D.bl true) from rfl)) (u_d1 (u_var 1 rfl) (show _ = R.ok (D.bl true) from rfl)) (f_ne eq_bl rfl true true))) (fun _ => u_bool (u_d2 (u_d1 (u_var 0 rfl) (show _ = R.ok (D.bl false) from rfl)) (u_d1 (u_var 1 rfl) (show _ = R.ok (D.bl false) from rfl)) (f_ne eq_bl rfl false false)))) hc ?_
    clear hc
    refine tl_assoc ?_
    exact tl_rtF (o := (oD eBl)) h1 (u_dat (u_c _))
  · refine tl_assoc ?_
    refine tl_ifF2 (u_orT (u_bool (u_d2 (u_d1 (u_var 0 rfl) (show _ = R.ok (D.bl true) from rfl)) (u_d1 (u_var 1 rfl) (show _ = R.ok (D.bl true) from rfl)) (f_ne eq_bl rfl true true))) (fun _ => u_bool (u_d2 (u_d1 (u_var 0 rfl) (show _ = R.ok (D.bl false) from rfl)) (u_d1 (u_var 1 rfl) (show _ = R.ok (D.bl false) from rfl)) (f_ne eq_bl rfl false false)))) hc ?_
    clear hc
    refine tl_nil ?_
    refine tl_wipes ?_
    obtain ⟨v, e_v, h2⟩ := of_bind h1
    clear h1
    obtain ⟨v1, e_v1, h3⟩ := of_bind h2
    clear h2
    obtain ⟨v2, e_v2, h4⟩ := of_bind h3
    clear h3
    obtain ⟨v3, e_v3, h5⟩ := of_bind h4
    clear h4
    refine tl_assoc ?_
    exact tl_rtF (o := (oD eBl)) h5 (u_dat (u_andV1 (u_d2 (u_lenN 0 rfl (show _ = R.ok (D.int 4) from rfl)) (u_lenN 1 rfl (show _ = R.ok (D.int 4) from rfl)) (show _ = R.ok (D.bl true) from rfl)) (u_d1 (u_frz (u_compL (vs := [2, 3]) (δw := ([some (oD (fun p : Int × (List Int) × (List Int) × (List (List Int)) => D.lst [eInt p.1, (eT eInt) p.2.1, (eT eInt) p.2.2.1, (eL (eT eInt)) p.2.2.2]) got), some (oD (fun p : Int × (Int × Int × Int × Int) × (Int × Int × Int) × Unit => D.lst [eInt p.1, (fun p : Int × Int × Int × Int => D.tup [eInt p.1, eInt p.2.1, eInt p.2.2.1, eInt p.2.2.2]) p.2.1, (fun p : Int × Int × Int => D.tup [eInt p.1, eInt p.2.1, eInt p.2.2]) p.2.2.1, (fun p : Unit => D.lst []) p.2.2.2]) due), none, none] : DEnv)) (u_zipL (u_cons (u_var 0 rfl) (u_cons (u_var 1 rfl) (u_nil))) rfl) rfl rfl (u_lc1 (δ1 := ([some (oD (fun p : Int × (List Int) × (List Int) × (List (List Int)) => D.lst [eInt p.1, (eT eInt) p.2.1, (eT eInt) p.2.2.1, (eL (eT eInt)) p.2.2.2]) got), some (oD (fun p : Int × (Int × Int × Int × Int) × (Int × Int × Int) × Unit => D.lst [eInt p.1, (fun p : Int × Int × Int × Int => D.tup [eInt p.1, eInt p.2.1, eInt p.2.2.1, eInt p.2.2.2]) p.2.1, (fun p : Int × Int × Int => D.tup [eInt p.1, eInt p.2.1, eInt p.2.2]) p.2.2.1, (fun p : Unit => D.lst []) p.2.2.2]) due), some (oD eInt got.1), some (oD eInt due.1)] : DEnv)) ((tg_tup (tgs_cons (tg_name 2 rfl) (tgs_cons (tg_name 3 rfl) (tgs_nil))) rfl) _ rfl) rfl (u_frz (u_call (xs := [eInt got.1, eInt due.1]) (u_cons (u_var 2 rfl) (u_cons (u_var 3 rfl) (u_nil))) (den__law_same_4 (fu + 1) got.1 due.1 _ e_v)) (frz_d _)) (rfl : _ = ([some (oD (fun p : Int × (List Int) × (List Int) × (List (List Int)) => D.lst [eInt p.1, (eT eInt) p.2.1, (eT eInt) p.2.2.1, (eL (eT eInt)) p.2.2.2]) got), some (oD (fun p : Int × (Int × Int × Int × Int) × (Int × Int × Int) × Unit => D.lst [eInt p.1, (fun p : Int × Int × Int × Int => D.tup [eInt p.1, eInt p.2.1, eInt p.2.2.1, eInt p.2.2.2]) p.2.1, (fun p : Int × Int × Int => D.tup [eInt p.1, eInt p.2.1, eInt p.2.2]) p.2.2.1, (fun p : Unit => D.lst []) p.2.2.2]) due), none, none] : DEnv)) (u_lc1 (δ1 := ([some (oD (fun p : Int × (List Int) × (List Int) × (List (List Int)) => D.lst [eInt p.1, (eT eInt) p.2.1, (eT eInt) p.2.2.1, (eL (eT eInt)) p.2.2.2]) got), some (oD (fun p : Int × (Int × Int × Int × Int) × (Int × Int × Int) × Unit => D.lst [eInt p.1, (fun p : Int × Int × Int × Int => D.tup [eInt p.1, eInt p.2.1, eInt p.2.2.1, eInt p.2.2.2]) p.2.1, (fun p : Int × Int × Int => D.tup [eInt p.1, eInt p.2.1, eInt p.2.2]) p.2.2.1, (fun p : Unit => D.lst []) p.2.2.2]) due), some (oD (eT eInt) got.2.1), some (oD (fun p : Int × Int × Int × Int => D.tup [eInt p.1, eInt p.2.1, eInt p.2.2.1, eInt p.2.2.2]) due.2.1)] : DEnv)) ((tg_tup (tgs_cons (tg_name 2 rfl) (tgs_cons (tg_name 3 rfl) (tgs_nil))) rfl) _ rfl) rfl (u_frz (u_call (xs := [(eT eInt) got.2.1, (eT eInt) ([due.2.1.1, due.2.1.2.1, due.2.1.2.2.1, due.2.1.2.2.2] : List Int)]) (u_cons (u_var 2 rfl) (u_cons (u_var 3 rfl) (u_nil))) (den__law_same_3 (fu + 0) got.2.1 ([due.2.1.1, due.2.1.2.1, due.2.1.2.2.1, due.2.1.2.2.2] : List Int) _ e_v1)) (frz_d _)) (rfl : _ = ([some (oD (fun p : Int × (List Int) × (List Int) × (List (List Int)) => D.lst [eInt p.1, (eT eInt) p.2.1, (eT eInt) p.2.2.1, (eL (eT eInt)) p.2.2.2]) got), some (oD (fun p : Int × (Int × Int × Int × Int) × (Int × Int × Int) × Unit => D.lst [eInt p.1, (fun p : Int × Int × Int × Int => D.tup [eInt p.1, eInt p.2.1, eInt p.2.2.1, eInt p.2.2.2]) p.2.1, (fun p : Int × Int × Int => D.tup [eInt p.1, eInt p.2.1, eInt p.2.2]) p.2.2.1, (fun p : Unit => D.lst []) p.2.2.2]) due), none, none] : DEnv)) (u_lc1 (δ1 := ([some (oD (fun p : Int × (List Int) × (List Int) × (List (List Int)) => D.lst [eInt p.1, (eT eInt) p.2.1, (eT eInt) p.2.2.1, (eL (eT eInt)) p.2.2.2]) got), some (oD (fun p : Int × (Int × Int × Int × Int) × (Int × Int × Int) × Unit => D.lst [eInt p.1, (fun p : Int × Int × Int × Int => D.tup [eInt p.1, eInt p.2.1, eInt p.2.2.1, eInt p.2.2.2]) p.2.1, (fun p : Int × Int × Int => D.tup [eInt p.1, eInt p.2.1, eInt p.2.2]) p.2.2.1, (fun p : Unit => D.lst []) p.2.2.2]) due), some (oD (eT eInt) got.2.2.1), some (oD (fun p : Int × Int × Int => D.tup [eInt p.1, eInt p.2.1, eInt p.2.2]) due.2.2.1)] : DEnv)) ((tg_tup (tgs_cons (tg_name 2 rfl) (tgs_cons (tg_name 3 rfl) (tgs_nil))) rfl) _ rfl) rfl (u_frz (u_call (xs := [(eT eInt) got.2.2.1, (eT eInt) ([due.2.2.1.1, due.2.2.1.2.1, due.2.2.1.2.2] : List Int)]) (u_cons (u_var 2 rfl) (u_cons (u_var 3 rfl) (u_nil))) (den__law_same_3 (fu + 0) got.2.2.1 ([due.2.2.1.1, due.2.2.1.2.1, due.2.2.1.2.2] : List Int) _ e_v2)) (frz_d _)) (rfl : _ = ([some (oD (fun p : Int × (List Int) × (List Int) × (List (List Int)) => D.lst [eInt p.1, (eT eInt) p.2.1, (eT eInt) p.2.2.1, (eL (eT eInt)) p.2.2.2]) got), some (oD (fun p : Int × (Int × Int × Int × Int) × (Int × Int × Int) × Unit => D.lst [eInt p.1, (fun p : Int × Int × Int × Int => D.tup [eInt p.1, eInt p.2.1, eInt p.2.2.1, eInt p.2.2.2]) p.2.1, (fun p : Int × Int × Int => D.tup [eInt p.1, eInt p.2.1, eInt p.2.2]) p.2.2.1, (fun p : Unit => D.lst []) p.2.2.2]) due), none, none] : DEnv)) (u_lc1 (δ1 := ([some (oD (fun p : Int × (List Int) × (List Int) × (List (List Int)) => D.lst [eInt p.1, (eT eInt) p.2.1, (eT eInt) p.2.2.1, (eL (eT eInt)) p.2.2.2]) got), some (oD (fun p : Int × (Int × Int × Int × Int) × (Int × Int × Int) × Unit => D.lst [eInt p.1, (fun p : Int × Int × Int × Int => D.tup [eInt p.1, eInt p.2.1, eInt p.2.2.1, eInt p.2.2.2]) p.2.1, (fun p : Int × Int × Int => D.tup [eInt p.1, eInt p.2.1, eInt p.2.2]) p.2.2.1, (fun p : Unit => D.lst []) p.2.2.2]) due), some (oD (eL (eT eInt)) got.2.2.2), some (oD (fun p : Unit => D.lst []) due.2.2.2)] : DEnv)) ((tg_tup (tgs_cons (tg_name 2 rfl) (tgs_cons (tg_name 3 rfl) (tgs_nil))) rfl) _ rfl) rfl (u_frz (u_call (xs := [(eL (eT eInt)) got.2.2.2, (eL eInt) ([] : List Int)]) (u_cons (u_var 2 rfl) (u_cons (u_var 3 rfl) (u_nil))) (den__law_same_10 (fu + 0) got.2.2.2 ([] : List Int) _ e_v3)) (frz_d _)) (rfl : _ = ([some (oD (fun p : Int × (List Int) × (List Int) × (List (List Int)) => D.lst [eInt p.1, (eT eInt) p.2.1, (eT eInt) p.2.2.1, (eL (eT eInt)) p.2.2.2]) got), some (oD (fun p : Int × (Int × Int × Int × Int) × (Int × Int × Int) × Unit => D.lst [eInt p.1, (fun p : Int × Int × Int × Int => D.tup [eInt p.1, eInt p.2.1, eInt p.2.2.1, eInt p.2.2.2]) p.2.1, (fun p : Int × Int × Int => D.tup [eInt p.1, eInt p.2.1, eInt p.2.2]) p.2.2.1, (fun p : Unit => D.lst []) p.2.2.2]) due), none, none] : DEnv)) (u_lc0))))) rfl (rfl : _ = ([some (oD (fun p : Int × (List Int) × (List Int) × (List (List Int)) => D.lst [eInt p.1, (eT eInt) p.2.1, (eT eInt) p.2.2.1, (eL (eT eInt)) p.2.2.2]) got), some (oD (fun p : Int × (Int × Int × Int × Int) × (Int × Int × Int) × Unit => D.lst [eInt p.1, (fun p : Int × Int × Int × Int => D.tup [eInt p.1, eInt p.2.1, eInt p.2.2.1, eInt p.2.2.2]) p.2.1, (fun p : Int × Int × Int => D.tup [eInt p.1, eInt p.2.1, eInt p.2.2]) p.2.2.1, (fun p : Unit => D.lst []) p.2.2.2]) due), none, none] : DEnv)) (rfl : _ = (O.lst [(oD eBl v), (oD eBl v1), (oD eBl v2), (oD eBl v3)]))) (frz_lit [(eBl v), (eBl v1), (eBl v2), (eBl v3)])) (fAll_L ([v, v1, v2, v3] : List Bool)))))
def t_law (script : List Int) : R Bool :=
  U.bind (t__law_cells script 1) fun v =>
  U.bind (t__law_box v 0) fun v1 =>
  U.bind (rng1 3) fun v2 =>
  U.bind (forC (ρ := Bool) (fun (lap : Int) (tin : (List Int)) =>
  U.bind (t__law_take tin 3) fun v3 =>
  U.bind (rng1 (1 + v3.1)) fun v4 =>
  U.bind (chk v4.length) fun w =>
  U.bind (mapS (fun (k : Int) (st : (List Int)) => U.bind (t__law_take st 3) fun v6 =>
  .ok ((1 + v6.1), v6.2)) v4 (v3.2)) fun v7 =>
  U.bind (t__law_take v7.2 4) fun v8 =>
  U.bind (t__law_all_words v7.1 (4 + v8.1)) fun v9 =>
  if (decide (4000 < (v9.length : Int))) then
  .ok (Ctl.nx v8.2)
  else
  U.bind (chk v9.length) fun w1 =>
  U.bind (compM (fun own : (List Int) × Int => U.bind (t__law_less own.1) fun v10 =>
  .ok v10) (fun own : (List Int) × Int => .ok own) v9) fun v11 =>
  U.bind (chk v11.length) fun w2 =>
  U.bind (compM (fun own1 : (List Int) × Int => .ok ((decide ((own1.2 % 2) = 1)) && (decide ((2 * own1.2) ≤ (4 + v8.1))))) (fun own1 : (List Int) × Int => U.bind (cat own1.1 own1.1) fun v12 =>
  .ok (v12, (2 * own1.2))) v11) fun v13 =>
  U.bind (cat v11 v13) fun v14 =>
  U.bind (rng1 ((4 + v8.1) + 1)) fun v15 =>
  U.bind (chk v15.length) fun w4 =>
  U.bind (mapM (fun k1 : Int => U.bind (chk v14.length) fun w3 =>
  .ok (((v14.filter (fun own2 : (List Int) × Int => (decide (own2.2 = k1)))).map (fun own2 : (List Int) × Int => (1 : Int))).length : Int)) v15) fun v16 =>
  U.bind (t__law_lists v7.1) fun v17 =>
  U.bind (t_basic_words v17 (4 + v8.1)) fun v18 =>
  U.bind (t_free_ranks v7.1 (4 + v8.1)) fun v19 =>
  U.bind (t__law_lists v7.1) fun v20 =>
  U.bind (t_free_ranks_2 v20 (4 + v8.1)) fun v21 =>
  U.bind (chk v14.length) fun w5 =>
  U.bind (sortR (v14.map (fun own3 : (List Int) × Int => own3.1))) fun v22 =>
  U.bind (t__law_same (v18, v19, v21) (v22, v16, v16)) fun v23 =>
  if (!v23) then
  .ok (Ctl.rt false)
  else
  U.bind (rep ([0] : List Int) (4 + v8.1)) fun v24 =>
  U.bind (cat ([1] : List Int) v24) fun v25 =>
  U.bind (rng2 1 ((4 + v8.1) + 1)) fun v26 =>
  U.bind (forM (fun (k2 : Int) (row_so : (List Int)) =>
  U.bind (ix v16 k2) fun v27 =>
  U.bind (rng1 v27) fun v28 =>
  U.bind (forM (fun (turn : Int) (row_so1 : (List Int)) =>
  U.bind (if (decide ((k2 % 2) = 1)) then (U.bind (rng1 ((4 + v8.1) + 1)) fun v29 =>
  U.bind (chk v29.length) fun w6 =>
  U.bind (mapM (fun j : Int => U.bind (ix row_so1 j) fun v30 =>
  U.bind (if (decide (k2 ≤ j)) then (U.bind (ix row_so1 (j - k2)) fun v31 =>
  .ok v31) else (.ok 0)) fun v32 =>
  .ok (v30 + v32)) v29) fun v33 =>
  .ok v33) else (.ok row_so1)) fun row_so2 =>
  if (decide ((k2 % 2) = 0)) then
  U.bind (rng2 k2 ((4 + v8.1) + 1)) fun v34 =>
  U.bind (forM (fun (j1 : Int) (row_so3 : (List Int)) =>
  U.bind (ix row_so3 j1) fun v35 =>
  U.bind (ix row_so3 (j1 - k2)) fun v36 =>
  U.bind (setIx row_so3 j1 (v35 + v36)) fun row_so4 =>
  .ok row_so4) v34 row_so2) fun row_so5 =>
  .ok row_so5
  else
  .ok row_so2) v28 row_so) fun row_so6 =>
  .ok row_so6) v26 v25) fun row_so7 =>
  U.bind (rng2 1 ((4 + v8.1) + 1)) fun v37 =>
  U.bind (chk v37.length) fun w8 =>
  U.bind (mapM (fun k3 : Int => U.bind (chk v9.length) fun w7 =>
  .ok (((v9.filter (fun own4 : (List Int) × Int => (decide (own4.2 = k3)))).map (fun own4 : (List Int) × Int => (1 : Int))).length : Int)) v37) fun v38 =>
  U.bind (cat ([1] : List Int) v38) fun v39 =>
  if (!decide (row_so7 = v39)) then
  .ok (Ctl.rt false)
  else
  U.bind (t__law_pick v8.2 v18 5) fun v40 =>
  U.bind (forC (ρ := Bool) (fun (own5 : List Int) (tin1 : (List Int)) =>
  if (decide (1 < (own5.length : Int))) then
  U.bind (.ok ((own5.length : Int) / 2)) fun half_so =>
  U.bind (t__law_less own5) fun v41 =>
  U.bind (if v41 then (U.bind (rng2 1 (own5.length : Int)) fun v42 =>
  U.bind (chk v42.length) fun w9 =>
  U.bind (compM (fun k4 : Int => U.bind (t__law_less (sl own5 (some k4) none)) fun v43 =>
  .ok v43) (fun k4 : Int => .ok k4) v42) fun v44 =>
  U.bind (ix v44 0) fun v45 =>
  .ok v45) else (.ok half_so)) fun v46 =>
  U.bind (t_cut_word v7.1 own5) fun v47 =>
  U.bind (t_is_basic_word v7.1 (sl own5 none (some v46))) fun v48 =>
  U.bind (t_is_basic_word v7.1 (sl own5 (some v46) none)) fun v49 =>
  U.bind (t__law_same_5 (v47, v48, v49) (((sl own5 none (some v46)), (sl own5 (some v46) none)), true, true)) fun v50 =>
  if (!v50) then
  .ok (Ctl.rt false)
  else
  .ok (Ctl.nx tin1)
  else
  .ok (Ctl.nx tin1)) v40.1 v40.2) fun c1 => (match c1 with
  | .nx tin2 =>
  U.bind (chk v14.length) fun w10 =>
  U.bind (.ok (dictOf (v14.map (fun own6 : (List Int) × Int => (own6.1, true))))) fun basics_so =>
  U.bind (t__law_pick_2 tin2 v9 8) fun v51 =>
  U.bind (forC (ρ := Bool) (fun (p : (List Int) × Int) (tin3 : (List Int)) =>
  U.bind (t_is_basic_word v7.1 p.1) fun v52 =>
  U.bind (t__law_same_7 v52 (false != basics_so.any fun q_ => decide (q_.1 = p.1))) fun v53 =>
  if (!v53) then
  .ok (Ctl.rt false)
  else
  .ok (Ctl.nx tin3)) v51.1 v51.2) fun c3 => (match c3 with
  | .nx tin4 =>
  U.bind (t_is_basic_word v7.1 ([] : List Int)) fun v54 =>
  U.bind (t_is_basic_word_2 v7.1 ()) fun v55 =>
  U.bind (t_is_basic_word v7.1 ([(v7.1.length : Int)] : List Int)) fun v56 =>
  U.bind (t_is_basic_word v7.1 ([(-1)] : List Int)) fun v57 =>
  U.bind (t_is_basic_word_3 v7.1 ([0] : List Int)) fun v58 =>
  U.bind (t_is_basic_word_4 v7.1 true) fun v59 =>
  U.bind (chk v7.1.length) fun w11 =>
  U.bind (t_joined_ranks (v7.1.map (fun own7 : Int => (own7 + 1))) ((4 + v8.1) + 1)) fun v60 =>
  U.bind (cat ([0] : List Int) v16) fun v61 =>
  U.bind (t__law_same_8 (v54, v55, v56, v57, v58, v59, v60) (false, false, false, false, false, false, v61)) fun v62 =>
  if (!v62) then
  .ok (Ctl.rt false)
  else
  .ok (Ctl.nx tin4)
  | .bk _ => .no
  | .rt z => .ok (Ctl.rt z))
  | .bk _ => .no
  | .rt z1 => .ok (Ctl.rt z1))) v2 v1) fun c5 => (match c5 with
  | .nx tin5 =>
  U.bind (t__law_take tin5 4) fun v63 =>
  U.bind (t__law_take v63.2 8) fun v64 =>
  U.bind (rng2 1 ((1 + v64.1) + 1)) fun v65 =>
  U.bind (chk v65.length) fun w15 =>
  U.bind (compM (fun d : Int => U.bind (need (okMod (1 + v64.1) d)) fun w12 =>
  .ok (decide (((1 + v64.1) % d) = 0))) (fun d : Int => U.bind (t__law_moebius d) fun v66 =>
  U.bind (need (okDiv (1 + v64.1) d)) fun w13 =>
  U.bind (t__law_power (1 + v63.1) ((1 + v64.1) / d)) fun v67 =>
  U.bind (need (okMul v66 v67)) fun w14 =>
  .ok (v66 * v67)) v65) fun v68 =>
  U.bind (need (okDiv v68.sum (1 + v64.1))) fun w16 =>
  U.bind (repT ([2] : List Int) (1 + v63.1)) fun v69 =>
  U.bind (t_free_ranks v69 (2 * (1 + v64.1))) fun v70 =>
  U.bind (ix v70 (2 * (1 + v64.1))) fun v71 =>
  U.bind (t_free_ranks ([] : List Int) 3) fun v72 =>
  U.bind (t_joined_ranks ([] : List Int) 2) fun v73 =>
  U.bind (t_basic_words_2 ([] : List Int) 5) fun v74 =>
  U.bind (t__law_same_9 (v71, v72, v73, v74) ((v68.sum / (1 + v64.1)), (0, 0, 0, 0), (0, 0, 0), ())) fun v75 =>
  .ok v75
  | .bk _ => .no
  | .rt z2 => .ok z2)
theorem den_law (script : List Int) (r : Bool) (h : t_law script = .ok r) : f_law [(oD (eK eInt) script)] = .ok ((oD eBl) r, none) := by
  unfold t_law at h
  refine run_of rfl ?_
  show Tl (m_law ([some (oD (eK eInt) script), none, none, none, none, none, none, none, none, none, none, none, none, none, none, none, none, none, none, none, none, none, none] : DEnv)) _
  unfold m_law
  obtain ⟨v, e_v, h1⟩ := of_bind h
  clear h
  obtain ⟨v1, e_v1, h2⟩ := of_bind h1
  clear h1
  refine tl_seq (δ1 := ([some (oD (eK eInt) script), some ((oL (oD eInt)) v1), none, none, none, none, none, none, none, none, none, none, none, none, none, none, none, none, none, none, none, none, none] : DEnv)) (u_set 1 (u_call (xs := [(eL eInt) v, eInt 0]) (u_cons (u_frz (u_call (xs := [(eK eInt) script, eInt 1]) (u_cons (u_var 0 rfl) (u_cons (u_c _) (u_nil))) (den__law_cells script 1 _ e_v)) ((frz_L (frz_D eInt)) _)) (u_cons (u_c _) (u_nil))) (den__law_box v 0 _ e_v1)) rfl rfl) ?_
  obtain ⟨v2, e_v2, h3⟩ := of_bind h2
  clear h2
  obtain ⟨c5, h103, h104⟩ := of_bind h3
  clear h3
  refine tl_contC (tl_forC (o := (oD eBl)) (e := eInt) (idx := [2]) (V := [3, 4, 5, 6, 7, 8, 9, 10, 11, 12, 13, 14, 15, 16, 17, 19]) (n := 23) (T := (fun lap : Int => [(2, (eInt lap))])) (lit := (fun s : (List Int) => ([some (oD (eK eInt) script), some ((oL (oD eInt)) s), none, none, none, none, none, none, none, none, none, none, none, none, none, none, none, none, none, none, none, none, none] : DEnv))) h103 (u_rng1 (u_cons (u_c _) (u_nil)) e_v2) rfl (fun _ => rfl) (fun lap => tg_name 2 rfl) (fun _ => rfl) (by decide) ?_) ?_ ?_
  · intro lap _ tin c4 h4
    refine tl_at (δ' := ([some (oD (eK eInt) script), some ((oL (oD eInt)) tin), some (oD eInt lap), none, none, none, none, none, none, none, none, none, none, none, none, none, none, none, none, none, none, none, none] : DEnv)) rfl ?_
    obtain ⟨v3, e_v3, h6⟩ := of_bind h4
    clear h4
    obtain ⟨v4, e_v4, h7⟩ := of_bind h6
    clear h6
    obtain ⟨w, e_w, h8⟩ := of_bind h7
    clear h7
    obtain ⟨v7, e_v7, h9⟩ := of_bind h8
    clear h8
    refine tl_seq (δ1 := ([some (oD (eK eInt) script), some ((oL (oD eInt)) v7.2), some (oD eInt lap), some (oD (eT eInt) v7.1), none, none, none, none, none, none, none, none, none, none, none, none, none, none, none, none, none, none, none] : DEnv)) (u_set 3 (u_dat (u_d1 (u_frz (u_compS (e := eInt) (e2 := eInt) (T := (fun k => [(11, (eInt k))])) (n := 23) (vs := [11]) (lit := (fun st : (List Int) => ([some (oD (eK eInt) script), some ((oL (oD eInt)) st), some (oD eInt lap), none, none, none, none, none, none, none, none, none, none, none, none, none, none, none, none, none, none, none, none] : DEnv))) (f := (fun (k : Int) (st : (List Int)) => U.bind (t__law_take st 3) fun v6 =>
  .ok ((1 + v6.1), v6.2))) (s := (v3.2)) e_v7 (u_rng1 (u_cons (u_frz (u_o2 (u_c _) (u_frz (u_callR (xs := [eInt 3]) 1 rfl (u_cons (u_c _) (u_nil)) rfl (den__law_take tin 3 _ e_v3) (rfl : _ = ([some (oD (eK eInt) script), some ((oL (oD eInt)) v3.2), some (oD eInt lap), none, none, none, none, none, none, none, none, none, none, none, none, none, none, none, none, none, none, none, none] : DEnv))) (frz_d _)) rfl) (frz_d _)) (u_nil)) e_v4) (of_chk e_w) rfl (fun _ => rfl) (fun _ => rfl) (fun k => tg_name 11 rfl) (fun _ => rfl) (fun k _ st _ hA => u_at (δ' := ([some (oD (eK eInt) script), some ((oL (oD eInt)) st), some (oD eInt lap), none, none, none, none, none, none, none, none, some (oD eInt k), none, none, none, none, none, none, none, none, none, none, none] : DEnv)) rfl ((match of_bind hA with | ⟨v6, e_v6, h5⟩ => u_br (p := fun z : Int × ((List Int)) => (eInt z.1, ([some (oD (eK eInt) script), some ((oL (oD eInt)) z.2), some (oD eInt lap), none, none, none, none, none, none, none, none, some (oD eInt k), none, none, none, none, none, none, none, none, none, none, none] : DEnv))) h5 (u_frz (u_o2 (u_c _) (u_frz (u_callR (xs := [eInt 3]) 1 rfl (u_cons (u_c _) (u_nil)) rfl (den__law_take st 3 _ e_v6) (rfl : _ = ([some (oD (eK eInt) script), some ((oL (oD eInt)) v6.2), some (oD eInt lap), none, none, none, none, none, none, none, none, some (oD eInt k), none, none, none, none, none, none, none, none, none, none, none] : DEnv))) (frz_d _)) rfl) (frz_d _))))) (rfl : _ = ([some (oD (eK eInt) script), some ((oL (oD eInt)) v7.2), some (oD eInt lap), none, none, none, none, none, none, none, none, none, none, none, none, none, none, none, none, none, none, none, none] : DEnv))) ((frz_L (frz_D eInt)) _)) (show _ = R.ok (eT eInt v7.1) from rfl))) rfl rfl) ?_
    obtain ⟨v8, e_v8, h10⟩ := of_bind h9
    clear h9
    refine tl_seq (δ1 := ([some (oD (eK eInt) script), some ((oL (oD eInt)) v8.2), some (oD eInt lap), some (oD (eT eInt) v7.1), some (oD eInt (4 + v8.1)), none, none, none, none, none, none, none, none, none, none, none, none, none, none, none, none, none, none] : DEnv)) (u_set 4 (u_o2 (u_c _) (u_frz (u_callR (xs := [eInt 4]) 1 rfl (u_cons (u_c _) (u_nil)) rfl (den__law_take v7.2 4 _ e_v8) (rfl : _ = ([some (oD (eK eInt) script), some ((oL (oD eInt)) v8.2), some (oD eInt lap), some (oD (eT eInt) v7.1), none, none, none, none, none, none, none, none, none, none, none, none, none, none, none, none, none, none, none] : DEnv))) (frz_d _)) rfl) rfl rfl) ?_
    obtain ⟨v9, e_v9, h11⟩ := of_bind h10
    clear h10
    refine tl_seq (δ1 := ([some (oD (eK eInt) script), some ((oL (oD eInt)) v8.2), some (oD eInt lap), some (oD (eT eInt) v7.1), some (oD eInt (4 + v8.1)), some ((oL (oD (eP (eT eInt) eInt))) v9), none, none, none, none, none, none, none, none, none, none, none, none, none, none, none, none, none] : DEnv)) (u_set 5 (u_call (xs := [(eT eInt) v7.1, eInt (4 + v8.1)]) (u_cons (u_var 3 rfl) (u_cons (u_var 4 rfl) (u_nil))) (den__law_all_words v7.1 (4 + v8.1) _ e_v9)) rfl rfl) ?_
    rcases of_ite h11 with ⟨hc, h12⟩ | ⟨hc, h12⟩ <;> clear h11
    · refine tl_ifT2 (u_bool (u_d2 (u_lenN 5 rfl (oLen_L _ _)) (u_c _) rfl)) hc ?_
      clear hc
      refine tl_assoc ?_
      exact tl_ctC (lit := (fun s : (List Int) => ([some (oD (eK eInt) script), some ((oL (oD eInt)) s), none, none, none, none, none, none, none, none, none, none, none, none, none, none, none, none, none, none, none, none, none] : DEnv))) h12 rfl
    · refine tl_ifF2 (u_bool (u_d2 (u_lenN 5 rfl (oLen_L _ _)) (u_c _) rfl)) hc ?_
      clear hc
      refine tl_nil ?_
      refine tl_wipe ?_
      obtain ⟨w1, e_w1, h14⟩ := of_bind h12
      clear h12
      obtain ⟨v11, e_v11, h15⟩ := of_bind h14
      clear h14
      refine tl_seq (δ1 := ([some (oD (eK eInt) script), some ((oL (oD eInt)) v8.2), some (oD eInt lap), some (oD (eT eInt) v7.1), some (oD eInt (4 + v8.1)), some (oD (eL (eP (eT eInt) eInt)) v9), some ((oL (oD (eP (eT eInt) eInt))) v11), none, none, none, none, none, none, none, none, none, none, none, none, none, none, none, none] : DEnv)) (u_set 6 (u_compM (e := (eP (eT eInt) eInt)) (e2 := (eP (eT eInt) eInt)) (T := (fun own => [(12, ((eP (eT eInt) eInt) own))])) (δw := ([some (oD (eK eInt) script), some ((oL (oD eInt)) v8.2), some (oD eInt lap), some (oD (eT eInt) v7.1), some (oD eInt (4 + v8.1)), some (oD (eL (eP (eT eInt) eInt)) v9), none, none, none, none, none, none, none, none, none, none, none, none, none, none, none, none, none] : DEnv)) (n := 23) (vs := [12]) (p := (fun own : (List Int) × Int => U.bind (t__law_less own.1) fun v10 =>
  .ok v10)) (f := (fun own : (List Int) × Int => .ok own)) e_v11 (u_items (u_varL 5 rfl ((frz_L (frz_D (eP (eT eInt) eInt))) _) (rfl : _ = ([some (oD (eK eInt) script), some ((oL (oD eInt)) v8.2), some (oD eInt lap), some (oD (eT eInt) v7.1), some (oD eInt (4 + v8.1)), some (oD (eL (eP (eT eInt) eInt)) v9), none, none, none, none, none, none, none, none, none, none, none, none, none, none, none, none, none] : DEnv))) rfl) (of_chk e_w1) rfl rfl (fun own => tg_name 12 rfl) (fun _ => rfl) (fun own _ _ hA => u_at (δ' := ([some (oD (eK eInt) script), some ((oL (oD eInt)) v8.2), some (oD eInt lap), some (oD (eT eInt) v7.1), some (oD eInt (4 + v8.1)), some (oD (eL (eP (eT eInt) eInt)) v9), none, none, none, none, none, none, some (oD (eP (eT eInt) eInt) own), none, none, none, none, none, none, none, none, none, none] : DEnv)) rfl ((match of_bind hA with | ⟨v10, e_v10, h13⟩ => u_br (p := fun z : Bool => (z, ([some (oD (eK eInt) script), some ((oL (oD eInt)) v8.2), some (oD eInt lap), some (oD (eT eInt) v7.1), some (oD eInt (4 + v8.1)), some (oD (eL (eP (eT eInt) eInt)) v9), none, none, none, none, none, none, some (oD (eP (eT eInt) eInt) own), none, none, none, none, none, none, none, none, none, none] : DEnv))) h13 (u_bool (u_frz (u_call (xs := [(eT eInt) own.1]) (u_cons (u_ixN 12 rfl (u_c _) rfl ((show _ = R.ok ((eT eInt) own.1) from rfl))) (u_nil)) (den__law_less own.1 _ e_v10)) (frz_d _)))))) (fun own _ _ y hA => u_at (δ' := ([some (oD (eK eInt) script), some ((oL (oD eInt)) v8.2), some (oD eInt lap), some (oD (eT eInt) v7.1), some (oD eInt (4 + v8.1)), some (oD (eL (eP (eT eInt) eInt)) v9), none, none, none, none, none, none, some (oD (eP (eT eInt) eInt) own), none, none, none, none, none, none, none, none, none, none] : DEnv)) rfl (u_br (p := fun z : (List Int) × Int => ((eP (eT eInt) eInt) z, ([some (oD (eK eInt) script), some ((oL (oD eInt)) v8.2), some (oD eInt lap), some (oD (eT eInt) v7.1), some (oD eInt (4 + v8.1)), some (oD (eL (eP (eT eInt) eInt)) v9), none, none, none, none, none, none, some (oD (eP (eT eInt) eInt) own), none, none, none, none, none, none, none, none, none, none] : DEnv))) hA (u_var 12 rfl))) (rfl : _ = ([some (oD (eK eInt) script), some ((oL (oD eInt)) v8.2), some (oD eInt lap), some (oD (eT eInt) v7.1), some (oD eInt (4 + v8.1)), some (oD (eL (eP (eT eInt) eInt)) v9), none, none, none, none, none, none, none, none, none, none, none, none, none, none, none, none, none] : DEnv))) rfl rfl) ?_
      obtain ⟨w2, e_w2, h17⟩ := of_bind h15
      clear h15
      obtain ⟨v13, e_v13, h18⟩ := of_bind h17
      clear h17
      obtain ⟨v14, e_v14, h19⟩ := of_bind h18
      clear h18
      refine tl_seq (δ1 := ([some (oD (eK eInt) script), some ((oL (oD eInt)) v8.2), some (oD eInt lap), some (oD (eT eInt) v7.1), some (oD eInt (4 + v8.1)), some (oD (eL (eP (eT eInt) eInt)) v9), some (oD (eL (eP (eT eInt) eInt)) v11), some ((oL (oD (eP (eT eInt) eInt))) v14), none, none, none, none, none, none, none, none, none, none, none, none, none, none, none] : DEnv)) (u_set 7 (u_o2 (u_varL 6 rfl ((frz_L (frz_D (eP (eT eInt) eInt))) _) (rfl : _ = ([some (oD (eK eInt) script), some ((oL (oD eInt)) v8.2), some (oD eInt lap), some (oD (eT eInt) v7.1), some (oD eInt (4 + v8.1)), some (oD (eL (eP (eT eInt) eInt)) v9), some (oD (eL (eP (eT eInt) eInt)) v11), none, none, none, none, none, none, none, none, none, none, none, none, none, none, none, none] : DEnv))) (u_frz (u_compM (e := (eP (eT eInt) eInt)) (e2 := (eP (eT eInt) eInt)) (T := (fun own1 => [(12, ((eP (eT eInt) eInt) own1))])) (δw := ([some (oD (eK eInt) script), some ((oL (oD eInt)) v8.2), some (oD eInt lap), some (oD (eT eInt) v7.1), some (oD eInt (4 + v8.1)), some (oD (eL (eP (eT eInt) eInt)) v9), some (oD (eL (eP (eT eInt) eInt)) v11), none, none, none, none, none, none, none, none, none, none, none, none, none, none, none, none] : DEnv)) (n := 23) (vs := [12]) (p := (fun own1 : (List Int) × Int => .ok ((decide ((own1.2 % 2) = 1)) && (decide ((2 * own1.2) ≤ (4 + v8.1)))))) (f := (fun own1 : (List Int) × Int => U.bind (cat own1.1 own1.1) fun v12 =>
  .ok (v12, (2 * own1.2)))) e_v13 (u_items (u_var 6 rfl) rfl) (of_chk e_w2) rfl rfl (fun own1 => tg_name 12 rfl) (fun _ => rfl) (fun own1 _ _ hA => u_at (δ' := ([some (oD (eK eInt) script), some ((oL (oD eInt)) v8.2), some (oD eInt lap), some (oD (eT eInt) v7.1), some (oD eInt (4 + v8.1)), some (oD (eL (eP (eT eInt) eInt)) v9), some (oD (eL (eP (eT eInt) eInt)) v11), none, none, none, none, none, some (oD (eP (eT eInt) eInt) own1), none, none, none, none, none, none, none, none, none, none] : DEnv)) rfl (u_br (p := fun z : Bool => (z, ([some (oD (eK eInt) script), some ((oL (oD eInt)) v8.2), some (oD eInt lap), some (oD (eT eInt) v7.1), some (oD eInt (4 + v8.1)), some (oD (eL (eP (eT eInt) eInt)) v9), some (oD (eL (eP (eT eInt) eInt)) v11), none, none, none, none, none, some (oD (eP (eT eInt) eInt) own1), none, none, none, none, none, none, none, none, none, none] : DEnv))) hA (u_andT (u_bool (u_d2 (u_d2 (u_ixN 12 rfl (u_c _) rfl ((show _ = R.ok (eInt own1.2) from rfl))) (u_c _) (f_mod rfl)) (u_c _) rfl)) (fun _ => u_bool (u_d2 (u_frz (u_o2 (u_c _) (u_ixN 12 rfl (u_c _) rfl ((show _ = R.ok (eInt own1.2) from rfl))) (f_mulI (f_mulL rfl))) (frz_d _)) (u_var 4 rfl) rfl))))) (fun own1 _ _ y1 hA => u_at (δ' := ([some (oD (eK eInt) script), some ((oL (oD eInt)) v8.2), some (oD eInt lap), some (oD (eT eInt) v7.1), some (oD eInt (4 + v8.1)), some (oD (eL (eP (eT eInt) eInt)) v9), some (oD (eL (eP (eT eInt) eInt)) v11), none, none, none, none, none, some (oD (eP (eT eInt) eInt) own1), none, none, none, none, none, none, none, none, none, none] : DEnv)) rfl ((match of_bind hA with | ⟨v12, e_v12, h16⟩ => u_br (p := fun z : (List Int) × Int => ((eP (eT eInt) eInt) z, ([some (oD (eK eInt) script), some ((oL (oD eInt)) v8.2), some (oD eInt lap), some (oD (eT eInt) v7.1), some (oD eInt (4 + v8.1)), some (oD (eL (eP (eT eInt) eInt)) v9), some (oD (eL (eP (eT eInt) eInt)) v11), none, none, none, none, none, some (oD (eP (eT eInt) eInt) own1), none, none, none, none, none, none, none, none, none, none] : DEnv))) h16 (u_tup (u_cons (u_frz (u_o2 (u_ixN 12 rfl (u_c _) rfl ((show _ = R.ok ((eT eInt) own1.1) from rfl))) (u_ixN 12 rfl (u_c _) rfl ((show _ = R.ok ((eT eInt) own1.1) from rfl))) (fAdd_T (e := eInt) e_v12)) (frz_d _)) (u_cons (u_frz (u_o2 (u_c _) (u_ixN 12 rfl (u_c _) rfl ((show _ = R.ok (eInt own1.2) from rfl))) (f_mulI (f_mulL rfl))) (frz_d _)) (u_nil))) rfl)))) (rfl : _ = ([some (oD (eK eInt) script), some ((oL (oD eInt)) v8.2), some (oD eInt lap), some (oD (eT eInt) v7.1), some (oD eInt (4 + v8.1)), some (oD (eL (eP (eT eInt) eInt)) v9), some (oD (eL (eP (eT eInt) eInt)) v11), none, none, none, none, none, none, none, none, none, none, none, none, none, none, none, none] : DEnv))) ((frz_L (frz_D (eP (eT eInt) eInt))) _)) (fAdd_L (e := (eP (eT eInt) eInt)) e_v14)) rfl rfl) ?_
      refine tl_frz rfl ((frz_L (frz_D (eP (eT eInt) eInt))) _) ?_
      obtain ⟨v15, e_v15, h21⟩ := of_bind h19
      clear h19
      obtain ⟨w4, e_w4, h22⟩ := of_bind h21
      clear h21
      obtain ⟨v16, e_v16, h23⟩ := of_bind h22
      clear h22
      refine tl_seq (δ1 := ([some (oD (eK eInt) script), some ((oL (oD eInt)) v8.2), some (oD eInt lap), some (oD (eT eInt) v7.1), some (oD eInt (4 + v8.1)), some (oD (eL (eP (eT eInt) eInt)) v9), some (oD (eL (eP (eT eInt) eInt)) v11), some (oD (eL (eP (eT eInt) eInt)) v14), some (oD (eT eInt) v16), none, none, none, none, none, none, none, none, none, none, none, none, none, none] : DEnv)) (u_set 8 (u_dat (u_d1 (u_frz (u_compMA (e := eInt) (e2 := eInt) (T := (fun k1 => [(11, (eInt k1))])) (δw := ([some (oD (eK eInt) script), some ((oL (oD eInt)) v8.2), some (oD eInt lap), some (oD (eT eInt) v7.1), some (oD eInt (4 + v8.1)), some (oD (eL (eP (eT eInt) eInt)) v9), some (oD (eL (eP (eT eInt) eInt)) v11), some (oD (eL (eP (eT eInt) eInt)) v14), none, none, none, none, none, none, none, none, none, none, none, none, none, none, none] : DEnv)) (n := 23) (vs := [11]) (f := (fun k1 : Int => U.bind (chk v14.length) fun w3 =>
  .ok (((v14.filter (fun own2 : (List Int) × Int => (decide (own2.2 = k1)))).map (fun own2 : (List Int) × Int => (1 : Int))).length : Int))) e_v16 (u_rng1 (u_cons (u_frz (u_o2 (u_var 4 rfl) (u_c _) rfl) (frz_d _)) (u_nil)) e_v15) (of_chk e_w4) rfl rfl (fun k1 => tg_name 11 rfl) (fun _ => rfl) (fun k1 _ y2 hA => u_at (δ' := ([some (oD (eK eInt) script), some ((oL (oD eInt)) v8.2), some (oD eInt lap), some (oD (eT eInt) v7.1), some (oD eInt (4 + v8.1)), some (oD (eL (eP (eT eInt) eInt)) v9), some (oD (eL (eP (eT eInt) eInt)) v11), some (oD (eL (eP (eT eInt) eInt)) v14), none, none, none, some (oD eInt k1), none, none, none, none, none, none, none, none, none, none, none] : DEnv)) rfl ((match of_bind hA with | ⟨w3, e_w3, h20⟩ => u_br (p := fun z : Int => (eInt z, ([some (oD (eK eInt) script), some ((oL (oD eInt)) v8.2), some (oD eInt lap), some (oD (eT eInt) v7.1), some (oD eInt (4 + v8.1)), some (oD (eL (eP (eT eInt) eInt)) v9), some (oD (eL (eP (eT eInt) eInt)) v11), some (oD (eL (eP (eT eInt) eInt)) v14), none, none, none, some (oD eInt k1), none, none, none, none, none, none, none, none, none, none, none] : DEnv))) h20 (u_d1 (u_frz (u_comp (e := (eP (eT eInt) eInt)) (e2 := eInt) (T := (fun own2 => [(12, ((eP (eT eInt) eInt) own2))])) (δw := ([some (oD (eK eInt) script), some ((oL (oD eInt)) v8.2), some (oD eInt lap), some (oD (eT eInt) v7.1), some (oD eInt (4 + v8.1)), some (oD (eL (eP (eT eInt) eInt)) v9), some (oD (eL (eP (eT eInt) eInt)) v11), some (oD (eL (eP (eT eInt) eInt)) v14), none, none, none, some (oD eInt k1), none, none, none, none, none, none, none, none, none, none, none] : DEnv)) (n := 23) (vs := [12]) (p := (fun own2 : (List Int) × Int => (decide (own2.2 = k1)))) (f := (fun own2 : (List Int) × Int => (1 : Int))) (u_items (u_var 7 rfl) rfl) (of_chk e_w3) rfl rfl (fun own2 => tg_name 12 rfl) (fun _ => rfl) (fun own2 _ => u_at (δ' := ([some (oD (eK eInt) script), some ((oL (oD eInt)) v8.2), some (oD eInt lap), some (oD (eT eInt) v7.1), some (oD eInt (4 + v8.1)), some (oD (eL (eP (eT eInt) eInt)) v9), some (oD (eL (eP (eT eInt) eInt)) v11), some (oD (eL (eP (eT eInt) eInt)) v14), none, none, none, some (oD eInt k1), some (oD (eP (eT eInt) eInt) own2), none, none, none, none, none, none, none, none, none, none] : DEnv)) rfl (u_bool (u_d2 (u_ixN 12 rfl (u_c _) rfl ((show _ = R.ok (eInt own2.2) from rfl))) (u_var 11 rfl) rfl))) (fun own2 _ _ => u_at (δ' := ([some (oD (eK eInt) script), some ((oL (oD eInt)) v8.2), some (oD eInt lap), some (oD (eT eInt) v7.1), some (oD eInt (4 + v8.1)), some (oD (eL (eP (eT eInt) eInt)) v9), some (oD (eL (eP (eT eInt) eInt)) v11), some (oD (eL (eP (eT eInt) eInt)) v14), none, none, none, some (oD eInt k1), some (oD (eP (eT eInt) eInt) own2), none, none, none, none, none, none, none, none, none, none] : DEnv)) rfl (u_c _)) (rfl : _ = ([some (oD (eK eInt) script), some ((oL (oD eInt)) v8.2), some (oD eInt lap), some (oD (eT eInt) v7.1), some (oD eInt (4 + v8.1)), some (oD (eL (eP (eT eInt) eInt)) v9), some (oD (eL (eP (eT eInt) eInt)) v11), some (oD (eL (eP (eT eInt) eInt)) v14), none, none, none, some (oD eInt k1), none, none, none, none, none, none, none, none, none, none, none] : DEnv))) ((frz_L (frz_D eInt)) _)) (fLen_L (e := eInt) ((v14.filter (fun own2 : (List Int) × Int => (decide (own2.2 = k1)))).map (fun own2 : (List Int) × Int => (1 : Int)))))))) (rfl : _ = ([some (oD (eK eInt) script), some ((oL (oD eInt)) v8.2), some (oD eInt lap), some (oD (eT eInt) v7.1), some (oD eInt (4 + v8.1)), some (oD (eL (eP (eT eInt) eInt)) v9), some (oD (eL (eP (eT eInt) eInt)) v11), some (oD (eL (eP (eT eInt) eInt)) v14), none, none, none, none, none, none, none, none, none, none, none, none, none, none, none] : DEnv))) ((frz_L (frz_D eInt)) _)) (show _ = R.ok (eT eInt v16) from rfl))) rfl rfl) ?_
      obtain ⟨v17, e_v17, h24⟩ := of_bind h23
      clear h23
      obtain ⟨v18, e_v18, h25⟩ := of_bind h24
      clear h24
      refine tl_seq (δ1 := ([some (oD (eK eInt) script), some ((oL (oD eInt)) v8.2), some (oD eInt lap), some (oD (eT eInt) v7.1), some (oD eInt (4 + v8.1)), some (oD (eL (eP (eT eInt) eInt)) v9), some (oD (eL (eP (eT eInt) eInt)) v11), some (oD (eL (eP (eT eInt) eInt)) v14), some (oD (eT eInt) v16), some ((oL (oD (eT eInt))) v18), none, none, none, none, none, none, none, none, none, none, none, none, none] : DEnv)) (u_set 9 (u_call (xs := [(eL eInt) v17, eInt (4 + v8.1)]) (u_cons (u_frz (u_call (xs := [(eT eInt) v7.1]) (u_cons (u_var 3 rfl) (u_nil)) (den__law_lists 18 v7.1 _ e_v17)) ((frz_L (frz_D eInt)) _)) (u_cons (u_var 4 rfl) (u_nil))) (den_basic_words v17 (4 + v8.1) _ e_v18)) rfl rfl) ?_
      obtain ⟨v19, e_v19, h26⟩ := of_bind h25
      clear h25
      obtain ⟨v20, e_v20, h27⟩ := of_bind h26
      clear h26
      obtain ⟨v21, e_v21, h28⟩ := of_bind h27
      clear h27
      obtain ⟨w5, e_w5, h29⟩ := of_bind h28
      clear h28
      obtain ⟨v22, e_v22, h30⟩ := of_bind h29
      clear h29
      obtain ⟨v23, e_v23, h31⟩ := of_bind h30
      clear h30
      rcases of_ite h31 with ⟨hc, h32⟩ | ⟨hc, h32⟩ <;> clear h31
      · refine tl_ifT2 (u_not (u_bool (u_frz (u_call (xs := [(fun p : (List (List Int)) × (List Int) × (List Int) => D.lst [(eL (eT eInt)) p.1, (eT eInt) p.2.1, (eT eInt) p.2.2]) (v18, v19, v21), (fun p : (List (List Int)) × (List Int) × (List Int) => D.lst [(eL (eT eInt)) p.1, (eT eInt) p.2.1, (eT eInt) p.2.2]) (v22, v16, v16)]) (u_cons (u_frz (u_lst (u_cons (u_varL 9 rfl ((frz_L (frz_D (eT eInt))) _) (rfl : _ = ([some (oD (eK eInt) script), some ((oL (oD eInt)) v8.2), some (oD eInt lap), some (oD (eT eInt) v7.1), some (oD eInt (4 + v8.1)), some (oD (eL (eP (eT eInt) eInt)) v9), some (oD (eL (eP (eT eInt) eInt)) v11), some (oD (eL (eP (eT eInt) eInt)) v14), some (oD (eT eInt) v16), some (oD (eL (eT eInt)) v18), none, none, none, none, none, none, none, none, none, none, none, none, none] : DEnv))) (u_cons (u_frz (u_call (xs := [(eT eInt) v7.1, eInt (4 + v8.1)]) (u_cons (u_var 3 rfl) (u_cons (u_var 4 rfl) (u_nil))) (den_free_ranks v7.1 (4 + v8.1) _ e_v19)) (frz_d _)) (u_cons (u_frz (u_callK (zs := [(eL eInt) v20, eInt (4 + v8.1)]) (u_nil) (u_cons (u_var 4 rfl) (u_cons (u_frz (u_call (xs := [(eT eInt) v7.1]) (u_cons (u_var 3 rfl) (u_nil)) (den__law_lists 18 v7.1 _ e_v20)) ((frz_L (frz_D eInt)) _)) (u_nil))) rfl rfl (den_free_ranks_2 v20 (4 + v8.1) _ e_v21)) (frz_d _)) (u_nil)))) rfl (rfl : _ = (O.lst [(oD (eL (eT eInt)) v18), (oD (eT eInt) v19), (oD (eT eInt) v21)]))) (frz_lit [((eL (eT eInt)) v18), ((eT eInt) v19), ((eT eInt) v21)])) (u_cons (u_frz (u_lst (u_cons (u_frz (u_o1 (u_frz (u_compA (e := (eP (eT eInt) eInt)) (e2 := (eT eInt)) (T := (fun own3 => [(12, ((eP (eT eInt) eInt) own3))])) (δw := ([some (oD (eK eInt) script), some ((oL (oD eInt)) v8.2), some (oD eInt lap), some (oD (eT eInt) v7.1), some (oD eInt (4 + v8.1)), some (oD (eL (eP (eT eInt) eInt)) v9), some (oD (eL (eP (eT eInt) eInt)) v11), some (oD (eL (eP (eT eInt) eInt)) v14), some (oD (eT eInt) v16), some (oD (eL (eT eInt)) v18), none, none, none, none, none, none, none, none, none, none, none, none, none] : DEnv)) (n := 23) (vs := [12]) (f := (fun own3 : (List Int) × Int => own3.1)) (u_items (u_var 7 rfl) rfl) (of_chk e_w5) rfl rfl (fun own3 => tg_name 12 rfl) (fun _ => rfl) (fun own3 _ => u_at (δ' := ([some (oD (eK eInt) script), some ((oL (oD eInt)) v8.2), some (oD eInt lap), some (oD (eT eInt) v7.1), some (oD eInt (4 + v8.1)), some (oD (eL (eP (eT eInt) eInt)) v9), some (oD (eL (eP (eT eInt) eInt)) v11), some (oD (eL (eP (eT eInt) eInt)) v14), some (oD (eT eInt) v16), some (oD (eL (eT eInt)) v18), none, none, some (oD (eP (eT eInt) eInt) own3), none, none, none, none, none, none, none, none, none, none] : DEnv)) rfl (u_ixN 12 rfl (u_c _) rfl ((show _ = R.ok ((eT eInt) own3.1) from rfl)))) (rfl : _ = ([some (oD (eK eInt) script), some ((oL (oD eInt)) v8.2), some (oD eInt lap), some (oD (eT eInt) v7.1), some (oD eInt (4 + v8.1)), some (oD (eL (eP (eT eInt) eInt)) v9), some (oD (eL (eP (eT eInt) eInt)) v11), some (oD (eL (eP (eT eInt) eInt)) v14), some (oD (eT eInt) v16), some (oD (eL (eT eInt)) v18), none, none, none, none, none, none, none, none, none, none, none, none, none] : DEnv))) ((frz_L (frz_D (eT eInt))) _)) (fSorted_R e_v22)) ((frz_L (frz_D (eT eInt))) _)) (u_cons (u_var 8 rfl) (u_cons (u_var 8 rfl) (u_nil)))) rfl (rfl : _ = (O.lst [(oD (eL (eT eInt)) v22), (oD (eT eInt) v16), (oD (eT eInt) v16)]))) (frz_lit [((eL (eT eInt)) v22), ((eT eInt) v16), ((eT eInt) v16)])) (u_nil))) (den__law_same 16 (v18, v19, v21) (v22, v16, v16) _ e_v23)) (frz_d _)))) hc ?_
        clear hc
        refine tl_assoc ?_
        exact tl_rtC (lit := (fun s : (List Int) => ([some (oD (eK eInt) script), some ((oL (oD eInt)) s), none, none, none, none, none, none, none, none, none, none, none, none, none, none, none, none, none, none, none, none, none] : DEnv))) (o := (oD eBl)) h32 (u_dat (u_c _))
      · refine tl_ifF2 (u_not (u_bool (u_frz (u_call (xs := [(fun p : (List (List Int)) × (List Int) × (List Int) => D.lst [(eL (eT eInt)) p.1, (eT eInt) p.2.1, (eT eInt) p.2.2]) (v18, v19, v21), (fun p : (List (List Int)) × (List Int) × (List Int) => D.lst [(eL (eT eInt)) p.1, (eT eInt) p.2.1, (eT eInt) p.2.2]) (v22, v16, v16)]) (u_cons (u_frz (u_lst (u_cons (u_varL 9 rfl ((frz_L (frz_D (eT eInt))) _) (rfl : _ = ([some (oD (eK eInt) script), some ((oL (oD eInt)) v8.2), some (oD eInt lap), some (oD (eT eInt) v7.1), some (oD eInt (4 + v8.1)), some (oD (eL (eP (eT eInt) eInt)) v9), some (oD (eL (eP (eT eInt) eInt)) v11), some (oD (eL (eP (eT eInt) eInt)) v14), some (oD (eT eInt) v16), some (oD (eL (eT eInt)) v18), none, none, none, none, none, none, none, none, none, none, none, none, none] : DEnv))) (u_cons (u_frz (u_call (xs := [(eT eInt) v7.1, eInt (4 + v8.1)]) (u_cons (u_var 3 rfl) (u_cons (u_var 4 rfl) (u_nil))) (den_free_ranks v7.1 (4 + v8.1) _ e_v19)) (frz_d _)) (u_cons (u_frz (u_callK (zs := [(eL eInt) v20, eInt (4 + v8.1)]) (u_nil) (u_cons (u_var 4 rfl) (u_cons (u_frz (u_call (xs := [(eT eInt) v7.1]) (u_cons (u_var 3 rfl) (u_nil)) (den__law_lists 18 v7.1 _ e_v20)) ((frz_L (frz_D eInt)) _)) (u_nil))) rfl rfl (den_free_ranks_2 v20 (4 + v8.1) _ e_v21)) (frz_d _)) (u_nil)))) rfl (rfl : _ = (O.lst [(oD (eL (eT eInt)) v18), (oD (eT eInt) v19), (oD (eT eInt) v21)]))) (frz_lit [((eL (eT eInt)) v18), ((eT eInt) v19), ((eT eInt) v21)])) (u_cons (u_frz (u_lst (u_cons (u_frz (u_o1 (u_frz (u_compA (e := (eP (eT eInt) eInt)) (e2 := (eT eInt)) (T := (fun own3 => [(12, ((eP (eT eInt) eInt) own3))])) (δw := ([some (oD (eK eInt) script), some ((oL (oD eInt)) v8.2), some (oD eInt lap), some (oD (eT eInt) v7.1), some (oD eInt (4 + v8.1)), some (oD (eL (eP (eT eInt) eInt)) v9), some (oD (eL (eP (eT eInt) eInt)) v11), some (oD (eL (eP (eT eInt) eInt)) v14), some (oD (eT eInt) v16), some (oD (eL (eT eInt)) v18), none, none, none, none, none, none, none, none, none, none, none, none, none] : DEnv)) (n := 23) (vs := [12]) (f := (fun own3 : (List Int) × Int => own3.1)) (u_items (u_var 7 rfl) rfl) (of_chk e_w5) rfl rfl (fun own3 => tg_name 12 rfl) (fun _ => rfl) (fun own3 _ => u_at (δ' := ([some (oD (eK eInt) script), some ((oL (oD eInt)) v8.2), some (oD eInt lap), some (oD (eT eInt) v7.1), some (oD eInt (4 + v8.1)), some (oD (eL (eP (eT eInt) eInt)) v9), some (oD (eL (eP (eT eInt) eInt)) v11), some (oD (eL (eP (eT eInt) eInt)) v14), some (oD (eT eInt) v16), some (oD (eL (eT eInt)) v18), none, none, some (oD (eP (eT eInt) eInt) own3), none, none, none, none, none, none, none, none, none, none] : DEnv)) rfl (u_ixN 12 rfl (u_c _) rfl ((show _ = R.ok ((eT eInt) own3.1) from rfl)))) (rfl : _ = ([some (oD (eK eInt) script), some ((oL (oD eInt)) v8.2), some (oD eInt lap), some (oD (eT eInt) v7.1), some (oD eInt (4 + v8.1)), some (oD (eL (eP (eT eInt) eInt)) v9), some (oD (eL (eP (eT eInt) eInt)) v11), some (oD (eL (eP (eT eInt) eInt)) v14), some (oD (eT eInt) v16), some (oD (eL (eT eInt)) v18), none, none, none, none, none, none, none, none, none, none, none, none, none] : DEnv))) ((frz_L (frz_D (eT eInt))) _)) (fSorted_R e_v22)) ((frz_L (frz_D (eT eInt))) _)) (u_cons (u_var 8 rfl) (u_cons (u_var 8 rfl) (u_nil)))) rfl (rfl : _ = (O.lst [(oD (eL (eT eInt)) v22), (oD (eT eInt) v16), (oD (eT eInt) v16)]))) (frz_lit [((eL (eT eInt)) v22), ((eT eInt) v16), ((eT eInt) v16)])) (u_nil))) (den__law_same 16 (v18, v19, v21) (v22, v16, v16) _ e_v23)) (frz_d _)))) hc ?_
        clear hc
        refine tl_nil ?_
        refine tl_wipe ?_
        obtain ⟨v24, e_v24, h33⟩ := of_bind h32
        clear h32
        obtain ⟨v25, e_v25, h34⟩ := of_bind h33
        clear h33
        refine tl_seq (δ1 := ([some (oD (eK eInt) script), some ((oL (oD eInt)) v8.2), some (oD eInt lap), some (oD (eT eInt) v7.1), some (oD eInt (4 + v8.1)), some (oD (eL (eP (eT eInt) eInt)) v9), some (oD (eL (eP (eT eInt) eInt)) v11), some (oD (eL (eP (eT eInt) eInt)) v14), some (oD (eT eInt) v16), some (oD (eL (eT eInt)) v18), some ((oL (oD eInt)) v25), none, none, none, none, none, none, none, none, none, none, none, none] : DEnv)) (u_set 10 (u_o2 (u_frz (u_lst (u_cons (u_c _) (u_nil)) rfl (rfl : _ = (O.lst [(oD eInt 1)]))) (frz_lit [(eInt 1)])) (u_frz (u_o2 (u_frz (u_lst (u_cons (u_c _) (u_nil)) rfl (rfl : _ = (O.lst [(oD eInt 0)]))) (frz_lit [(eInt 0)])) (u_var 4 rfl) (fMul_L (e := eInt) e_v24)) ((frz_L (frz_D eInt)) _)) (fAdd_L (e := eInt) e_v25)) rfl rfl) ?_
        obtain ⟨v26, e_v26, h35⟩ := of_bind h34
        clear h34
        obtain ⟨row_so7, h57, h58⟩ := of_bind h35
        clear h35
        refine tl_blk (tl_for (e := eInt) (idx := [11]) (V := [16, 19]) (n := 23) (T := (fun k2 : Int => [(11, (eInt k2))])) (lit := (fun s : (List Int) => ([some (oD (eK eInt) script), some ((oL (oD eInt)) v8.2), some (oD eInt lap), some (oD (eT eInt) v7.1), some (oD eInt (4 + v8.1)), some (oD (eL (eP (eT eInt) eInt)) v9), some (oD (eL (eP (eT eInt) eInt)) v11), some (oD (eL (eP (eT eInt) eInt)) v14), some (oD (eT eInt) v16), some (oD (eL (eT eInt)) v18), some ((oL (oD eInt)) s), none, none, none, none, none, none, none, none, none, none, none, none] : DEnv))) h57 (u_rng2 (u_cons (u_c _) (u_cons (u_frz (u_o2 (u_var 4 rfl) (u_c _) rfl) (frz_d _)) (u_nil))) e_v26) rfl (fun _ => rfl) (fun k2 => tg_name 11 rfl) (fun _ => rfl) (by decide) ?_) ?_
        · intro k2 _ row_so s2 h36
          refine tl_at (δ' := ([some (oD (eK eInt) script), some ((oL (oD eInt)) v8.2), some (oD eInt lap), some (oD (eT eInt) v7.1), some (oD eInt (4 + v8.1)), some (oD (eL (eP (eT eInt) eInt)) v9), some (oD (eL (eP (eT eInt) eInt)) v11), some (oD (eL (eP (eT eInt) eInt)) v14), some (oD (eT eInt) v16), some (oD (eL (eT eInt)) v18), some ((oL (oD eInt)) row_so), some (oD eInt k2), none, none, none, none, none, none, none, none, none, none, none] : DEnv)) rfl ?_
          obtain ⟨v27, e_v27, h37⟩ := of_bind h36
          clear h36
          obtain ⟨v28, e_v28, h38⟩ := of_bind h37
          clear h37
          obtain ⟨row_so6, h55, h56⟩ := of_bind h38
          clear h38
          refine tl_blk (tl_for (e := eInt) (idx := [16]) (V := [19]) (n := 23) (T := (fun turn : Int => [(16, (eInt turn))])) (lit := (fun s : (List Int) => ([some (oD (eK eInt) script), some ((oL (oD eInt)) v8.2), some (oD eInt lap), some (oD (eT eInt) v7.1), some (oD eInt (4 + v8.1)), some (oD (eL (eP (eT eInt) eInt)) v9), some (oD (eL (eP (eT eInt) eInt)) v11), some (oD (eL (eP (eT eInt) eInt)) v14), some (oD (eT eInt) v16), some (oD (eL (eT eInt)) v18), some ((oL (oD eInt)) s), some (oD eInt k2), none, none, none, none, none, none, none, none, none, none, none] : DEnv))) h55 (u_rng1 (u_cons (u_ixN 8 rfl (u_var 11 rfl) rfl (oAt_T (e := eInt) e_v27)) (u_nil)) e_v28) rfl (fun _ => rfl) (fun turn => tg_name 16 rfl) (fun _ => rfl) (by decide) ?_) ?_
          · intro turn _ row_so1 s1 h39
            refine tl_at (δ' := ([some (oD (eK eInt) script), some ((oL (oD eInt)) v8.2), some (oD eInt lap), some (oD (eT eInt) v7.1), some (oD eInt (4 + v8.1)), some (oD (eL (eP (eT eInt) eInt)) v9), some (oD (eL (eP (eT eInt) eInt)) v11), some (oD (eL (eP (eT eInt) eInt)) v14), some (oD (eT eInt) v16), some (oD (eL (eT eInt)) v18), some ((oL (oD eInt)) row_so1), some (oD eInt k2), none, none, none, none, some (oD eInt turn), none, none, none, none, none, none] : DEnv)) rfl ?_
            obtain ⟨row_so2, e_row_so2, h46⟩ := of_bind h39
            clear h39
            refine tl_seq (δ1 := ([some (oD (eK eInt) script), some ((oL (oD eInt)) v8.2), some (oD eInt lap), some (oD (eT eInt) v7.1), some (oD eInt (4 + v8.1)), some (oD (eL (eP (eT eInt) eInt)) v9), some (oD (eL (eP (eT eInt) eInt)) v11), some (oD (eL (eP (eT eInt) eInt)) v14), some (oD (eT eInt) v16), some (oD (eL (eT eInt)) v18), some ((oL (oD eInt)) row_so2), some (oD eInt k2), none, none, none, none, some (oD eInt turn), none, none, none, none, none, none] : DEnv)) (u_setIf e_row_so2 (u_bool (u_d2 (u_d2 (u_var 11 rfl) (u_c _) (f_mod rfl)) (u_c _) rfl)) (fun _ hA => (match of_bind hA with | ⟨v29, e_v29, h43⟩ => (match of_bind h43 with | ⟨w6, e_w6, h44⟩ => (match of_bind h44 with | ⟨v33, e_v33, h45⟩ => u_set 10 (u_br (p := fun z : List Int => ((oL (oD eInt)) z, ([some (oD (eK eInt) script), some ((oL (oD eInt)) v8.2), some (oD eInt lap), some (oD (eT eInt) v7.1), some (oD eInt (4 + v8.1)), some (oD (eL (eP (eT eInt) eInt)) v9), some (oD (eL (eP (eT eInt) eInt)) v11), some (oD (eL (eP (eT eInt) eInt)) v14), some (oD (eT eInt) v16), some (oD (eL (eT eInt)) v18), some ((oL (oD eInt)) row_so1), some (oD eInt k2), none, none, none, none, some (oD eInt turn), none, none, none, none, none, none] : DEnv))) h45 (u_compMA (e := eInt) (e2 := eInt) (T := (fun j => [(19, (eInt j))])) (δw := ([some (oD (eK eInt) script), some ((oL (oD eInt)) v8.2), some (oD eInt lap), some (oD (eT eInt) v7.1), some (oD eInt (4 + v8.1)), some (oD (eL (eP (eT eInt) eInt)) v9), some (oD (eL (eP (eT eInt) eInt)) v11), some (oD (eL (eP (eT eInt) eInt)) v14), some (oD (eT eInt) v16), some (oD (eL (eT eInt)) v18), some ((oL (oD eInt)) row_so1), some (oD eInt k2), none, none, none, none, some (oD eInt turn), none, none, none, none, none, none] : DEnv)) (n := 23) (vs := [19]) (f := (fun j : Int => U.bind (ix row_so1 j) fun v30 =>
  U.bind (if (decide (k2 ≤ j)) then (U.bind (ix row_so1 (j - k2)) fun v31 =>
  .ok v31) else (.ok 0)) fun v32 =>
  .ok (v30 + v32))) e_v33 (u_rng1 (u_cons (u_frz (u_o2 (u_var 4 rfl) (u_c _) rfl) (frz_d _)) (u_nil)) e_v29) (of_chk e_w6) rfl rfl (fun j => tg_name 19 rfl) (fun _ => rfl) (fun j _ y3 hA => u_at (δ' := ([some (oD (eK eInt) script), some ((oL (oD eInt)) v8.2), some (oD eInt lap), some (oD (eT eInt) v7.1), some (oD eInt (4 + v8.1)), some (oD (eL (eP (eT eInt) eInt)) v9), some (oD (eL (eP (eT eInt) eInt)) v11), some (oD (eL (eP (eT eInt) eInt)) v14), some (oD (eT eInt) v16), some (oD (eL (eT eInt)) v18), some ((oL (oD eInt)) row_so1), some (oD eInt k2), none, none, none, none, some (oD eInt turn), none, none, some (oD eInt j), none, none, none] : DEnv)) rfl ((match of_bind hA with | ⟨v30, e_v30, h41⟩ => (match of_bind h41 with | ⟨v32, e_v32, h42⟩ => u_br (p := fun z : Int => (eInt z, ([some (oD (eK eInt) script), some ((oL (oD eInt)) v8.2), some (oD eInt lap), some (oD (eT eInt) v7.1), some (oD eInt (4 + v8.1)), some (oD (eL (eP (eT eInt) eInt)) v9), some (oD (eL (eP (eT eInt) eInt)) v11), some (oD (eL (eP (eT eInt) eInt)) v14), some (oD (eT eInt) v16), some (oD (eL (eT eInt)) v18), some ((oL (oD eInt)) row_so1), some (oD eInt k2), none, none, none, none, some (oD eInt turn), none, none, some (oD eInt j), none, none, none] : DEnv))) h42 (u_frz (u_o2 (u_ixN 10 rfl (u_var 19 rfl) rfl (oAt_L (e := eInt) e_v30)) (u_ifM (p := (eInt v32, ([some (oD (eK eInt) script), some ((oL (oD eInt)) v8.2), some (oD eInt lap), some (oD (eT eInt) v7.1), some (oD eInt (4 + v8.1)), some (oD (eL (eP (eT eInt) eInt)) v9), some (oD (eL (eP (eT eInt) eInt)) v11), some (oD (eL (eP (eT eInt) eInt)) v14), some (oD (eT eInt) v16), some (oD (eL (eT eInt)) v18), some ((oL (oD eInt)) row_so1), some (oD eInt k2), none, none, none, none, some (oD eInt turn), none, none, some (oD eInt j), none, none, none] : DEnv))) e_v32 (u_bool (u_d2 (u_var 19 rfl) (u_var 11 rfl) rfl)) (fun _ hA => (match of_bind hA with | ⟨v31, e_v31, h40⟩ => u_br (p := (fun z : Int => (eInt z, ([some (oD (eK eInt) script), some ((oL (oD eInt)) v8.2), some (oD eInt lap), some (oD (eT eInt) v7.1), some (oD eInt (4 + v8.1)), some (oD (eL (eP (eT eInt) eInt)) v9), some (oD (eL (eP (eT eInt) eInt)) v11), some (oD (eL (eP (eT eInt) eInt)) v14), some (oD (eT eInt) v16), some (oD (eL (eT eInt)) v18), some ((oL (oD eInt)) row_so1), some (oD eInt k2), none, none, none, none, some (oD eInt turn), none, none, some (oD eInt j), none, none, none] : DEnv)))) h40 (u_ixN 10 rfl (u_d2 (u_var 19 rfl) (u_var 11 rfl) rfl) rfl (oAt_L (e := eInt) e_v31)))) (fun _ hA => u_br (p := (fun z : Int => (eInt z, ([some (oD (eK eInt) script), some ((oL (oD eInt)) v8.2), some (oD eInt lap), some (oD (eT eInt) v7.1), some (oD eInt (4 + v8.1)), some (oD (eL (eP (eT eInt) eInt)) v9), some (oD (eL (eP (eT eInt) eInt)) v11), some (oD (eL (eP (eT eInt) eInt)) v14), some (oD (eT eInt) v16), some (oD (eL (eT eInt)) v18), some ((oL (oD eInt)) row_so1), some (oD eInt k2), none, none, none, none, some (oD eInt turn), none, none, some (oD eInt j), none, none, none] : DEnv)))) hA (u_c _))) rfl) (frz_d _)))))) (rfl : _ = ([some (oD (eK eInt) script), some ((oL (oD eInt)) v8.2), some (oD eInt lap), some (oD (eT eInt) v7.1), some (oD eInt (4 + v8.1)), some (oD (eL (eP (eT eInt) eInt)) v9), some (oD (eL (eP (eT eInt) eInt)) v11), some (oD (eL (eP (eT eInt) eInt)) v14), some (oD (eT eInt) v16), some (oD (eL (eT eInt)) v18), some ((oL (oD eInt)) row_so1), some (oD eInt k2), none, none, none, none, some (oD eInt turn), none, none, none, none, none, none] : DEnv)))) rfl rfl)))) (fun _ hA => u_set 10 (u_br (p := fun z : List Int => ((oL (oD eInt)) z, ([some (oD (eK eInt) script), some ((oL (oD eInt)) v8.2), some (oD eInt lap), some (oD (eT eInt) v7.1), some (oD eInt (4 + v8.1)), some (oD (eL (eP (eT eInt) eInt)) v9), some (oD (eL (eP (eT eInt) eInt)) v11), some (oD (eL (eP (eT eInt) eInt)) v14), some (oD (eT eInt) v16), some (oD (eL (eT eInt)) v18), none, some (oD eInt k2), none, none, none, none, some (oD eInt turn), none, none, none, none, none, none] : DEnv))) hA (u_ovar 10 rfl (rfl : _ = ([some (oD (eK eInt) script), some ((oL (oD eInt)) v8.2), some (oD eInt lap), some (oD (eT eInt) v7.1), some (oD eInt (4 + v8.1)), some (oD (eL (eP (eT eInt) eInt)) v9), some (oD (eL (eP (eT eInt) eInt)) v11), some (oD (eL (eP (eT eInt) eInt)) v14), some (oD (eT eInt) v16), some (oD (eL (eT eInt)) v18), none, some (oD eInt k2), none, none, none, none, some (oD eInt turn), none, none, none, none, none, none] : DEnv)))) rfl rfl)) ?_
            rcases of_ite h46 with ⟨hc, h47⟩ | ⟨hc, h47⟩ <;> clear h46
            · refine tl_ifT2 (u_bool (u_d2 (u_d2 (u_var 11 rfl) (u_c _) (f_mod rfl)) (u_c _) rfl)) hc ?_
              clear hc
              obtain ⟨v34, e_v34, h48⟩ := of_bind h47
              clear h47
              obtain ⟨row_so5, h53, h54⟩ := of_bind h48
              clear h48
              refine tl_assoc ?_
              refine tl_blk2 (tl_for (e := eInt) (idx := [19]) (V := []) (n := 23) (T := (fun j1 : Int => [(19, (eInt j1))])) (lit := (fun s : (List Int) => ([some (oD (eK eInt) script), some ((oL (oD eInt)) v8.2), some (oD eInt lap), some (oD (eT eInt) v7.1), some (oD eInt (4 + v8.1)), some (oD (eL (eP (eT eInt) eInt)) v9), some (oD (eL (eP (eT eInt) eInt)) v11), some (oD (eL (eP (eT eInt) eInt)) v14), some (oD (eT eInt) v16), some (oD (eL (eT eInt)) v18), some ((oL (oD eInt)) s), some (oD eInt k2), none, none, none, none, some (oD eInt turn), none, none, none, none, none, none] : DEnv))) h53 (u_rng2 (u_cons (u_var 11 rfl) (u_cons (u_frz (u_o2 (u_var 4 rfl) (u_c _) rfl) (frz_d _)) (u_nil))) e_v34) rfl (fun _ => rfl) (fun j1 => tg_name 19 rfl) (fun _ => rfl) (by decide) ?_) ?_
              · intro j1 _ row_so3 s0 h49
                refine tl_at (δ' := ([some (oD (eK eInt) script), some ((oL (oD eInt)) v8.2), some (oD eInt lap), some (oD (eT eInt) v7.1), some (oD eInt (4 + v8.1)), some (oD (eL (eP (eT eInt) eInt)) v9), some (oD (eL (eP (eT eInt) eInt)) v11), some (oD (eL (eP (eT eInt) eInt)) v14), some (oD (eT eInt) v16), some (oD (eL (eT eInt)) v18), some ((oL (oD eInt)) row_so3), some (oD eInt k2), none, none, none, none, some (oD eInt turn), none, none, some (oD eInt j1), none, none, none] : DEnv)) rfl ?_
                obtain ⟨v35, e_v35, h50⟩ := of_bind h49
                clear h49
                obtain ⟨v36, e_v36, h51⟩ := of_bind h50
                clear h50
                obtain ⟨row_so4, e_row_so4, h52⟩ := of_bind h51
                clear h51
                refine tl_seq (δ1 := ([some (oD (eK eInt) script), some ((oL (oD eInt)) v8.2), some (oD eInt lap), some (oD (eT eInt) v7.1), some (oD eInt (4 + v8.1)), some (oD (eL (eP (eT eInt) eInt)) v9), some (oD (eL (eP (eT eInt) eInt)) v11), some (oD (eL (eP (eT eInt) eInt)) v14), some (oD (eT eInt) v16), some (oD (eL (eT eInt)) v18), some ((oL (oD eInt)) row_so4), some (oD eInt k2), none, none, none, none, some (oD eInt turn), none, none, some (oD eInt j1), none, none, none] : DEnv)) (u_asg (u_frz (u_o2 (u_ixN 10 rfl (u_var 19 rfl) rfl (oAt_L (e := eInt) e_v35)) (u_ixN 10 rfl (u_d2 (u_var 19 rfl) (u_var 11 rfl) rfl) rfl (oAt_L (e := eInt) e_v36)) rfl) (frz_d _)) (u_gsub 10 (e := eInt) (xs := row_so3) (y := (v35 + v36)) rfl (u_var 19 rfl) rfl e_row_so4 rfl)) ?_
                exact tl_endL (lit := (fun s : (List Int) => ([some (oD (eK eInt) script), some ((oL (oD eInt)) v8.2), some (oD eInt lap), some (oD (eT eInt) v7.1), some (oD eInt (4 + v8.1)), some (oD (eL (eP (eT eInt) eInt)) v9), some (oD (eL (eP (eT eInt) eInt)) v11), some (oD (eL (eP (eT eInt) eInt)) v14), some (oD (eT eInt) v16), some (oD (eL (eT eInt)) v18), some ((oL (oD eInt)) s), some (oD eInt k2), none, none, none, none, some (oD eInt turn), none, none, none, none, none, none] : DEnv))) h52 rfl
              clear h53
              refine tl_at (δ' := ([some (oD (eK eInt) script), some ((oL (oD eInt)) v8.2), some (oD eInt lap), some (oD (eT eInt) v7.1), some (oD eInt (4 + v8.1)), some (oD (eL (eP (eT eInt) eInt)) v9), some (oD (eL (eP (eT eInt) eInt)) v11), some (oD (eL (eP (eT eInt) eInt)) v14), some (oD (eT eInt) v16), some (oD (eL (eT eInt)) v18), some ((oL (oD eInt)) row_so5), some (oD eInt k2), none, none, none, none, some (oD eInt turn), none, none, none, none, none, none] : DEnv)) rfl ?_
              refine tl_nil ?_
              refine tl_wipe ?_
              exact tl_endL (lit := (fun s : (List Int) => ([some (oD (eK eInt) script), some ((oL (oD eInt)) v8.2), some (oD eInt lap), some (oD (eT eInt) v7.1), some (oD eInt (4 + v8.1)), some (oD (eL (eP (eT eInt) eInt)) v9), some (oD (eL (eP (eT eInt) eInt)) v11), some (oD (eL (eP (eT eInt) eInt)) v14), some (oD (eT eInt) v16), some (oD (eL (eT eInt)) v18), some ((oL (oD eInt)) s), some (oD eInt k2), none, none, none, none, none, none, none, none, none, none, none] : DEnv))) h54 rfl
            · refine tl_ifF2 (u_bool (u_d2 (u_d2 (u_var 11 rfl) (u_c _) (f_mod rfl)) (u_c _) rfl)) hc ?_
              clear hc
              refine tl_nil ?_
              refine tl_wipe ?_
              exact tl_endL (lit := (fun s : (List Int) => ([some (oD (eK eInt) script), some ((oL (oD eInt)) v8.2), some (oD eInt lap), some (oD (eT eInt) v7.1), some (oD eInt (4 + v8.1)), some (oD (eL (eP (eT eInt) eInt)) v9), some (oD (eL (eP (eT eInt) eInt)) v11), some (oD (eL (eP (eT eInt) eInt)) v14), some (oD (eT eInt) v16), some (oD (eL (eT eInt)) v18), some ((oL (oD eInt)) s), some (oD eInt k2), none, none, none, none, none, none, none, none, none, none, none] : DEnv))) h47 rfl
          clear h55
          refine tl_at (δ' := ([some (oD (eK eInt) script), some ((oL (oD eInt)) v8.2), some (oD eInt lap), some (oD (eT eInt) v7.1), some (oD eInt (4 + v8.1)), some (oD (eL (eP (eT eInt) eInt)) v9), some (oD (eL (eP (eT eInt) eInt)) v11), some (oD (eL (eP (eT eInt) eInt)) v14), some (oD (eT eInt) v16), some (oD (eL (eT eInt)) v18), some ((oL (oD eInt)) row_so6), some (oD eInt k2), none, none, none, none, none, none, none, none, none, none, none] : DEnv)) rfl ?_
          exact tl_endL (lit := (fun s : (List Int) => ([some (oD (eK eInt) script), some ((oL (oD eInt)) v8.2), some (oD eInt lap), some (oD (eT eInt) v7.1), some (oD eInt (4 + v8.1)), some (oD (eL (eP (eT eInt) eInt)) v9), some (oD (eL (eP (eT eInt) eInt)) v11), some (oD (eL (eP (eT eInt) eInt)) v14), some (oD (eT eInt) v16), some (oD (eL (eT eInt)) v18), some ((oL (oD eInt)) s), none, none, none, none, none, none, none, none, none, none, none, none] : DEnv))) h56 rfl
        clear h57
        refine tl_at (δ' := ([some (oD (eK eInt) script), some ((oL (oD eInt)) v8.2), some (oD eInt lap), some (oD (eT eInt) v7.1), some (oD eInt (4 + v8.1)), some (oD (eL (eP (eT eInt) eInt)) v9), some (oD (eL (eP (eT eInt) eInt)) v11), some (oD (eL (eP (eT eInt) eInt)) v14), some (oD (eT eInt) v16), some (oD (eL (eT eInt)) v18), some ((oL (oD eInt)) row_so7), none, none, none, none, none, none, none, none, none, none, none, none] : DEnv)) rfl ?_
        obtain ⟨v37, e_v37, h60⟩ := of_bind h58
        clear h58
        obtain ⟨w8, e_w8, h61⟩ := of_bind h60
        clear h60
        obtain ⟨v38, e_v38, h62⟩ := of_bind h61
        clear h61
        obtain ⟨v39, e_v39, h63⟩ := of_bind h62
        clear h62
        rcases of_ite h63 with ⟨hc, h64⟩ | ⟨hc, h64⟩ <;> clear h63
        · refine tl_ifT2 (u_bool (u_d2 (u_varL 10 rfl ((frz_L (frz_D eInt)) _) (rfl : _ = ([some (oD (eK eInt) script), some ((oL (oD eInt)) v8.2), some (oD eInt lap), some (oD (eT eInt) v7.1), some (oD eInt (4 + v8.1)), some (oD (eL (eP (eT eInt) eInt)) v9), some (oD (eL (eP (eT eInt) eInt)) v11), some (oD (eL (eP (eT eInt) eInt)) v14), some (oD (eT eInt) v16), some (oD (eL (eT eInt)) v18), some (oD (eL eInt) row_so7), none, none, none, none, none, none, none, none, none, none, none, none] : DEnv))) (u_frz (u_o2 (u_frz (u_lst (u_cons (u_c _) (u_nil)) rfl (rfl : _ = (O.lst [(oD eInt 1)]))) (frz_lit [(eInt 1)])) (u_frz (u_compMA (e := eInt) (e2 := eInt) (T := (fun k3 => [(11, (eInt k3))])) (δw := ([some (oD (eK eInt) script), some ((oL (oD eInt)) v8.2), some (oD eInt lap), some (oD (eT eInt) v7.1), some (oD eInt (4 + v8.1)), some (oD (eL (eP (eT eInt) eInt)) v9), some (oD (eL (eP (eT eInt) eInt)) v11), some (oD (eL (eP (eT eInt) eInt)) v14), some (oD (eT eInt) v16), some (oD (eL (eT eInt)) v18), some (oD (eL eInt) row_so7), none, none, none, none, none, none, none, none, none, none, none, none] : DEnv)) (n := 23) (vs := [11]) (f := (fun k3 : Int => U.bind (chk v9.length) fun w7 =>
  .ok (((v9.filter (fun own4 : (List Int) × Int => (decide (own4.2 = k3)))).map (fun own4 : (List Int) × Int => (1 : Int))).length : Int))) e_v38 (u_rng2 (u_cons (u_c _) (u_cons (u_frz (u_o2 (u_var 4 rfl) (u_c _) rfl) (frz_d _)) (u_nil))) e_v37) (of_chk e_w8) rfl rfl (fun k3 => tg_name 11 rfl) (fun _ => rfl) (fun k3 _ y4 hA => u_at (δ' := ([some (oD (eK eInt) script), some ((oL (oD eInt)) v8.2), some (oD eInt lap), some (oD (eT eInt) v7.1), some (oD eInt (4 + v8.1)), some (oD (eL (eP (eT eInt) eInt)) v9), some (oD (eL (eP (eT eInt) eInt)) v11), some (oD (eL (eP (eT eInt) eInt)) v14), some (oD (eT eInt) v16), some (oD (eL (eT eInt)) v18), some (oD (eL eInt) row_so7), some (oD eInt k3), none, none, none, none, none, none, none, none, none, none, none] : DEnv)) rfl ((match of_bind hA with | ⟨w7, e_w7, h59⟩ => u_br (p := fun z : Int => (eInt z, ([some (oD (eK eInt) script), some ((oL (oD eInt)) v8.2), some (oD eInt lap), some (oD (eT eInt) v7.1), some (oD eInt (4 + v8.1)), some (oD (eL (eP (eT eInt) eInt)) v9), some (oD (eL (eP (eT eInt) eInt)) v11), some (oD (eL (eP (eT eInt) eInt)) v14), some (oD (eT eInt) v16), some (oD (eL (eT eInt)) v18), some (oD (eL eInt) row_so7), some (oD eInt k3), none, none, none, none, none, none, none, none, none, none, none] : DEnv))) h59 (u_d1 (u_frz (u_comp (e := (eP (eT eInt) eInt)) (e2 := eInt) (T := (fun own4 => [(12, ((eP (eT eInt) eInt) own4))])) (δw := ([some (oD (eK eInt) script), some ((oL (oD eInt)) v8.2), some (oD eInt lap), some (oD (eT eInt) v7.1), some (oD eInt (4 + v8.1)), some (oD (eL (eP (eT eInt) eInt)) v9), some (oD (eL (eP (eT eInt) eInt)) v11), some (oD (eL (eP (eT eInt) eInt)) v14), some (oD (eT eInt) v16), some (oD (eL (eT eInt)) v18), some (oD (eL eInt) row_so7), some (oD eInt k3), none, none, none, none, none, none, none, none, none, none, none] : DEnv)) (n := 23) (vs := [12]) (p := (fun own4 : (List Int) × Int => (decide (own4.2 = k3)))) (f := (fun own4 : (List Int) × Int => (1 : Int))) (u_items (u_var 5 rfl) rfl) (of_chk e_w7) rfl rfl (fun own4 => tg_name 12 rfl) (fun _ => rfl) (fun own4 _ => u_at (δ' := ([some (oD (eK eInt) script), some ((oL (oD eInt)) v8.2), some (oD eInt lap), some (oD (eT eInt) v7.1), some (oD eInt (4 + v8.1)), some (oD (eL (eP (eT eInt) eInt)) v9), some (oD (eL (eP (eT eInt) eInt)) v11), some (oD (eL (eP (eT eInt) eInt)) v14), some (oD (eT eInt) v16), some (oD (eL (eT eInt)) v18), some (oD (eL eInt) row_so7), some (oD eInt k3), some (oD (eP (eT eInt) eInt) own4), none, none, none, none, none, none, none, none, none, none] : DEnv)) rfl (u_bool (u_d2 (u_ixN 12 rfl (u_c _) rfl ((show _ = R.ok (eInt own4.2) from rfl))) (u_var 11 rfl) rfl))) (fun own4 _ _ => u_at (δ' := ([some (oD (eK eInt) script), some ((oL (oD eInt)) v8.2), some (oD eInt lap), some (oD (eT eInt) v7.1), some (oD eInt (4 + v8.1)), some (oD (eL (eP (eT eInt) eInt)) v9), some (oD (eL (eP (eT eInt) eInt)) v11), some (oD (eL (eP (eT eInt) eInt)) v14), some (oD (eT eInt) v16), some (oD (eL (eT eInt)) v18), some (oD (eL eInt) row_so7), some (oD eInt k3), some (oD (eP (eT eInt) eInt) own4), none, none, none, none, none, none, none, none, none, none] : DEnv)) rfl (u_c _)) (rfl : _ = ([some (oD (eK eInt) script), some ((oL (oD eInt)) v8.2), some (oD eInt lap), some (oD (eT eInt) v7.1), some (oD eInt (4 + v8.1)), some (oD (eL (eP (eT eInt) eInt)) v9), some (oD (eL (eP (eT eInt) eInt)) v11), some (oD (eL (eP (eT eInt) eInt)) v14), some (oD (eT eInt) v16), some (oD (eL (eT eInt)) v18), some (oD (eL eInt) row_so7), some (oD eInt k3), none, none, none, none, none, none, none, none, none, none, none] : DEnv))) ((frz_L (frz_D eInt)) _)) (fLen_L (e := eInt) ((v9.filter (fun own4 : (List Int) × Int => (decide (own4.2 = k3)))).map (fun own4 : (List Int) × Int => (1 : Int)))))))) (rfl : _ = ([some (oD (eK eInt) script), some ((oL (oD eInt)) v8.2), some (oD eInt lap), some (oD (eT eInt) v7.1), some (oD eInt (4 + v8.1)), some (oD (eL (eP (eT eInt) eInt)) v9), some (oD (eL (eP (eT eInt) eInt)) v11), some (oD (eL (eP (eT eInt) eInt)) v14), some (oD (eT eInt) v16), some (oD (eL (eT eInt)) v18), some (oD (eL eInt) row_so7), none, none, none, none, none, none, none, none, none, none, none, none] : DEnv))) ((frz_L (frz_D eInt)) _)) (fAdd_L (e := eInt) e_v39)) ((frz_L (frz_D eInt)) _)) (f_ne (eq_L eq_int) rfl row_so7 v39))) hc ?_
          clear hc
          refine tl_assoc ?_
          exact tl_rtC (lit := (fun s : (List Int) => ([some (oD (eK eInt) script), some ((oL (oD eInt)) s), none, none, none, none, none, none, none, none, none, none, none, none, none, none, none, none, none, none, none, none, none] : DEnv))) (o := (oD eBl)) h64 (u_dat (u_c _))
        · refine tl_ifF2 (u_bool (u_d2 (u_varL 10 rfl ((frz_L (frz_D eInt)) _) (rfl : _ = ([some (oD (eK eInt) script), some ((oL (oD eInt)) v8.2), some (oD eInt lap), some (oD (eT eInt) v7.1), some (oD eInt (4 + v8.1)), some (oD (eL (eP (eT eInt) eInt)) v9), some (oD (eL (eP (eT eInt) eInt)) v11), some (oD (eL (eP (eT eInt) eInt)) v14), some (oD (eT eInt) v16), some (oD (eL (eT eInt)) v18), some (oD (eL eInt) row_so7), none, none, none, none, none, none, none, none, none, none, none, none] : DEnv))) (u_frz (u_o2 (u_frz (u_lst (u_cons (u_c _) (u_nil)) rfl (rfl : _ = (O.lst [(oD eInt 1)]))) (frz_lit [(eInt 1)])) (u_frz (u_compMA (e := eInt) (e2 := eInt) (T := (fun k3 => [(11, (eInt k3))])) (δw := ([some (oD (eK eInt) script), some ((oL (oD eInt)) v8.2), some (oD eInt lap), some (oD (eT eInt) v7.1), some (oD eInt (4 + v8.1)), some (oD (eL (eP (eT eInt) eInt)) v9), some (oD (eL (eP (eT eInt) eInt)) v11), some (oD (eL (eP (eT eInt) eInt)) v14), some (oD (eT eInt) v16), some (oD (eL (eT eInt)) v18), some (oD (eL eInt) row_so7), none, none, none, none, none, none, none, none, none, none, none, none] : DEnv)) (n := 23) (vs := [11]) (f := (fun k3 : Int => U.bind (chk v9.length) fun w7 =>
  .ok (((v9.filter (fun own4 : (List Int) × Int => (decide (own4.2 = k3)))).map (fun own4 : (List Int) × Int => (1 : Int))).length : Int))) e_v38 (u_rng2 (u_cons (u_c _) (u_cons (u_frz (u_o2 (u_var 4 rfl) (u_c _) rfl) (frz_d _)) (u_nil))) e_v37) (of_chk e_w8) rfl rfl (fun k3 => tg_name 11 rfl) (fun _ => rfl) (fun k3 _ y4 hA => u_at (δ' := ([some (oD (eK eInt) script), some ((oL (oD eInt)) v8.2), some (oD eInt lap), some (oD (eT eInt) v7.1), some (oD eInt (4 + v8.1)), some (oD (eL (eP (eT eInt) eInt)) v9), some (oD (eL (eP (eT eInt) eInt)) v11), some (oD (eL (eP (eT eInt) eInt)) v14), some (oD (eT eInt) v16), some (oD (eL (eT eInt)) v18), some (oD (eL eInt) row_so7), some (oD eInt k3), none, none, none, none, none, none, none, none, none, none, none] : DEnv)) rfl ((match of_bind hA with | ⟨w7, e_w7, h59⟩ => u_br (p := fun z : Int => (eInt z, ([some (oD (eK eInt) script), some ((oL (oD eInt)) v8.2), some (oD eInt lap), some (oD (eT eInt) v7.1), some (oD eInt (4 + v8.1)), some (oD (eL (eP (eT eInt) eInt)) v9), some (oD (eL (eP (eT eInt) eInt)) v11), some (oD (eL (eP (eT eInt) eInt)) v14), some (oD (eT eInt) v16), some (oD (eL (eT eInt)) v18), some (oD (eL eInt) row_so7), some (oD eInt k3), none, none, none, none, none, none, none, none, none, none, none] : DEnv))) h59 (u_d1 (u_frz (u_comp (e := (eP (eT eInt) eInt)) (e2 := eInt) (T := (fun own4 => [(12, ((eP (eT eInt) eInt) own4))])) (δw := ([some (oD (eK eInt) script), some ((oL (oD eInt)) v8.2), some (oD eInt lap), some (oD (eT eInt) v7.1), some (oD eInt (4 + v8.1)), some (oD (eL (eP (eT eInt) eInt)) v9), some (oD (eL (eP (eT eInt) eInt)) v11), some (oD (eL (eP (eT eInt) eInt)) v14), some (oD (eT eInt) v16), some (oD (eL (eT eInt)) v18), some (oD (eL eInt) row_so7), some (oD eInt k3), none, none, none, none, none, none, none, none, none, none, none] : DEnv)) (n := 23) (vs := [12]) (p := (fun own4 : (List Int) × Int => (decide (own4.2 = k3)))) (f := (fun own4 : (List Int) × Int => (1 : Int))) (u_items (u_var 5 rfl) rfl) (of_chk e_w7) rfl rfl (fun own4 => tg_name 12 rfl) (fun _ => rfl) (fun own4 _ => u_at (δ' := ([some (oD (eK eInt) script), some ((oL (oD eInt)) v8.2), some (oD eInt lap), some (oD (eT eInt) v7.1), some (oD eInt (4 + v8.1)), some (oD (eL (eP (eT eInt) eInt)) v9), some (oD (eL (eP (eT eInt) eInt)) v11), some (oD (eL (eP (eT eInt) eInt)) v14), some (oD (eT eInt) v16), some (oD (eL (eT eInt)) v18), some (oD (eL eInt) row_so7), some (oD eInt k3), some (oD (eP (eT eInt) eInt) own4), none, none, none, none, none, none, none, none, none, none] : DEnv)) rfl (u_bool (u_d2 (u_ixN 12 rfl (u_c _) rfl ((show _ = R.ok (eInt own4.2) from rfl))) (u_var 11 rfl) rfl))) (fun own4 _ _ => u_at (δ' := ([some (oD (eK eInt) script), some ((oL (oD eInt)) v8.2), some (oD eInt lap), some (oD (eT eInt) v7.1), some (oD eInt (4 + v8.1)), some (oD (eL (eP (eT eInt) eInt)) v9), some (oD (eL (eP (eT eInt) eInt)) v11), some (oD (eL (eP (eT eInt) eInt)) v14), some (oD (eT eInt) v16), some (oD (eL (eT eInt)) v18), some (oD (eL eInt) row_so7), some (oD eInt k3), some (oD (eP (eT eInt) eInt) own4), none, none, none, none, none, none, none, none, none, none] : DEnv)) rfl (u_c _)) (rfl : _ = ([some (oD (eK eInt) script), some ((oL (oD eInt)) v8.2), some (oD eInt lap), some (oD (eT eInt) v7.1), some (oD eInt (4 + v8.1)), some (oD (eL (eP (eT eInt) eInt)) v9), some (oD (eL (eP (eT eInt) eInt)) v11), some (oD (eL (eP (eT eInt) eInt)) v14), some (oD (eT eInt) v16), some (oD (eL (eT eInt)) v18), some (oD (eL eInt) row_so7), some (oD eInt k3), none, none, none, none, none, none, none, none, none, none, none] : DEnv))) ((frz_L (frz_D eInt)) _)) (fLen_L (e := eInt) ((v9.filter (fun own4 : (List Int) × Int => (decide (own4.2 = k3)))).map (fun own4 : (List Int) × Int => (1 : Int)))))))) (rfl : _ = ([some (oD (eK eInt) script), some ((oL (oD eInt)) v8.2), some (oD eInt lap), some (oD (eT eInt) v7.1), some (oD eInt (4 + v8.1)), some (oD (eL (eP (eT eInt) eInt)) v9), some (oD (eL (eP (eT eInt) eInt)) v11), some (oD (eL (eP (eT eInt) eInt)) v14), some (oD (eT eInt) v16), some (oD (eL (eT eInt)) v18), some (oD (eL eInt) row_so7), none, none, none, none, none, none, none, none, none, none, none, none] : DEnv))) ((frz_L (frz_D eInt)) _)) (fAdd_L (e := eInt) e_v39)) ((frz_L (frz_D eInt)) _)) (f_ne (eq_L eq_int) rfl row_so7 v39))) hc ?_
          clear hc
          refine tl_nil ?_
          refine tl_wipe ?_
          obtain ⟨v40, e_v40, h65⟩ := of_bind h64
          clear h64
          obtain ⟨c1, h81, h82⟩ := of_bind h65
          clear h65
          refine tl_contC (tl_forC (o := (oD eBl)) (e := (eT eInt)) (idx := [12]) (V := [11, 15, 17]) (n := 23) (T := (fun own5 : List Int => [(12, ((eT eInt) own5))])) (lit := (fun s : (List Int) => ([some (oD (eK eInt) script), some ((oL (oD eInt)) s), some (oD eInt lap), some (oD (eT eInt) v7.1), some (oD eInt (4 + v8.1)), some (oD (eL (eP (eT eInt) eInt)) v9), some (oD (eL (eP (eT eInt) eInt)) v11), some (oD (eL (eP (eT eInt) eInt)) v14), some (oD (eT eInt) v16), some (oD (eL (eT eInt)) v18), some (oD (eL eInt) row_so7), none, none, none, none, none, none, none, none, none, none, none, none] : DEnv))) h81 (u_items (u_frz (u_callR (xs := [(eL (eT eInt)) v18, eInt 5]) 1 rfl (u_cons (u_var 9 rfl) (u_cons (u_c _) (u_nil))) rfl (den__law_pick v8.2 v18 5 _ e_v40) (rfl : _ = ([some (oD (eK eInt) script), some ((oL (oD eInt)) v40.2), some (oD eInt lap), some (oD (eT eInt) v7.1), some (oD eInt (4 + v8.1)), some (oD (eL (eP (eT eInt) eInt)) v9), some (oD (eL (eP (eT eInt) eInt)) v11), some (oD (eL (eP (eT eInt) eInt)) v14), some (oD (eT eInt) v16), some (oD (eL (eT eInt)) v18), some (oD (eL eInt) row_so7), none, none, none, none, none, none, none, none, none, none, none, none] : DEnv))) ((frz_L (frz_D (eT eInt))) _)) rfl) rfl (fun _ => rfl) (fun own5 => tg_name 12 rfl) (fun _ => rfl) (by decide) ?_) ?_ ?_
          · intro own5 _ tin1 c h66
            refine tl_at (δ' := ([some (oD (eK eInt) script), some ((oL (oD eInt)) tin1), some (oD eInt lap), some (oD (eT eInt) v7.1), some (oD eInt (4 + v8.1)), some (oD (eL (eP (eT eInt) eInt)) v9), some (oD (eL (eP (eT eInt) eInt)) v11), some (oD (eL (eP (eT eInt) eInt)) v14), some (oD (eT eInt) v16), some (oD (eL (eT eInt)) v18), some (oD (eL eInt) row_so7), none, some (oD (eT eInt) own5), none, none, none, none, none, none, none, none, none, none] : DEnv)) rfl ?_
            rcases of_ite h66 with ⟨hc, h67⟩ | ⟨hc, h67⟩ <;> clear h66
            · refine tl_ifT2 (u_bool (u_d2 (u_lenN 12 rfl (oLen_T (e := eInt) _)) (u_c _) rfl)) hc ?_
              clear hc
              obtain ⟨half_so, e_half_so, h68⟩ := of_bind h67
              clear h67
              refine tl_assoc ?_
              refine tl_seq (δ1 := ([some (oD (eK eInt) script), some ((oL (oD eInt)) tin1), some (oD eInt lap), some (oD (eT eInt) v7.1), some (oD eInt (4 + v8.1)), some (oD (eL (eP (eT eInt) eInt)) v9), some (oD (eL (eP (eT eInt) eInt)) v11), some (oD (eL (eP (eT eInt) eInt)) v14), some (oD (eT eInt) v16), some (oD (eL (eT eInt)) v18), some (oD (eL eInt) row_so7), none, some (oD (eT eInt) own5), none, none, none, none, some (oD eInt half_so), none, none, none, none, none] : DEnv)) (u_set 17 (cast_ok (o := (oD eInt)) (of_ok e_half_so) (u_dat (u_d2 (u_lenN 12 rfl (oLen_T (e := eInt) _)) (u_c _) (f_div rfl)))) rfl rfl) ?_
              obtain ⟨v41, e_v41, h74⟩ := of_bind h68
              clear h68
              obtain ⟨v46, e_v46, h75⟩ := of_bind h74
              clear h74
              refine tl_assoc ?_
              refine tl_seq (δ1 := ([some (oD (eK eInt) script), some ((oL (oD eInt)) tin1), some (oD eInt lap), some (oD (eT eInt) v7.1), some (oD eInt (4 + v8.1)), some (oD (eL (eP (eT eInt) eInt)) v9), some (oD (eL (eP (eT eInt) eInt)) v11), some (oD (eL (eP (eT eInt) eInt)) v14), some (oD (eT eInt) v16), some (oD (eL (eT eInt)) v18), some (oD (eL eInt) row_so7), some (oD eInt v46), some (oD (eT eInt) own5), none, none, none, none, some (oD eInt half_so), none, none, none, none, none] : DEnv)) (u_set 11 (u_ifM (p := ((oD eInt) v46, ([some (oD (eK eInt) script), some ((oL (oD eInt)) tin1), some (oD eInt lap), some (oD (eT eInt) v7.1), some (oD eInt (4 + v8.1)), some (oD (eL (eP (eT eInt) eInt)) v9), some (oD (eL (eP (eT eInt) eInt)) v11), some (oD (eL (eP (eT eInt) eInt)) v14), some (oD (eT eInt) v16), some (oD (eL (eT eInt)) v18), some (oD (eL eInt) row_so7), none, some (oD (eT eInt) own5), none, none, none, none, some (oD eInt half_so), none, none, none, none, none] : DEnv))) e_v46 (u_bool (u_frz (u_call (xs := [(eT eInt) own5]) (u_cons (u_var 12 rfl) (u_nil)) (den__law_less own5 _ e_v41)) (frz_d _))) (fun _ hA => (match of_bind hA with | ⟨v42, e_v42, h70⟩ => (match of_bind h70 with | ⟨w9, e_w9, h71⟩ => (match of_bind h71 with | ⟨v44, e_v44, h72⟩ => (match of_bind h72 with | ⟨v45, e_v45, h73⟩ => u_br (p := (fun z : Int => ((oD eInt) z, ([some (oD (eK eInt) script), some ((oL (oD eInt)) tin1), some (oD eInt lap), some (oD (eT eInt) v7.1), some (oD eInt (4 + v8.1)), some (oD (eL (eP (eT eInt) eInt)) v9), some (oD (eL (eP (eT eInt) eInt)) v11), some (oD (eL (eP (eT eInt) eInt)) v14), some (oD (eT eInt) v16), some (oD (eL (eT eInt)) v18), some (oD (eL eInt) row_so7), none, some (oD (eT eInt) own5), none, none, none, none, some (oD eInt half_so), none, none, none, none, none] : DEnv)))) h73 (u_dat (u_d2 (u_frz (u_compM (e := eInt) (e2 := eInt) (T := (fun k4 => [(11, (eInt k4))])) (δw := ([some (oD (eK eInt) script), some ((oL (oD eInt)) tin1), some (oD eInt lap), some (oD (eT eInt) v7.1), some (oD eInt (4 + v8.1)), some (oD (eL (eP (eT eInt) eInt)) v9), some (oD (eL (eP (eT eInt) eInt)) v11), some (oD (eL (eP (eT eInt) eInt)) v14), some (oD (eT eInt) v16), some (oD (eL (eT eInt)) v18), some (oD (eL eInt) row_so7), none, some (oD (eT eInt) own5), none, none, none, none, some (oD eInt half_so), none, none, none, none, none] : DEnv)) (n := 23) (vs := [11]) (p := (fun k4 : Int => U.bind (t__law_less (sl own5 (some k4) none)) fun v43 =>
  .ok v43)) (f := (fun k4 : Int => .ok k4)) e_v44 (u_rng2 (u_cons (u_c _) (u_cons (u_lenN 12 rfl (oLen_T (e := eInt) _)) (u_nil))) e_v42) (of_chk e_w9) rfl rfl (fun k4 => tg_name 11 rfl) (fun _ => rfl) (fun k4 _ _ hA => u_at (δ' := ([some (oD (eK eInt) script), some ((oL (oD eInt)) tin1), some (oD eInt lap), some (oD (eT eInt) v7.1), some (oD eInt (4 + v8.1)), some (oD (eL (eP (eT eInt) eInt)) v9), some (oD (eL (eP (eT eInt) eInt)) v11), some (oD (eL (eP (eT eInt) eInt)) v14), some (oD (eT eInt) v16), some (oD (eL (eT eInt)) v18), some (oD (eL eInt) row_so7), some (oD eInt k4), some (oD (eT eInt) own5), none, none, none, none, some (oD eInt half_so), none, none, none, none, none] : DEnv)) rfl ((match of_bind hA with | ⟨v43, e_v43, h69⟩ => u_br (p := fun z : Bool => (z, ([some (oD (eK eInt) script), some ((oL (oD eInt)) tin1), some (oD eInt lap), some (oD (eT eInt) v7.1), some (oD eInt (4 + v8.1)), some (oD (eL (eP (eT eInt) eInt)) v9), some (oD (eL (eP (eT eInt) eInt)) v11), some (oD (eL (eP (eT eInt) eInt)) v14), some (oD (eT eInt) v16), some (oD (eL (eT eInt)) v18), some (oD (eL eInt) row_so7), some (oD eInt k4), some (oD (eT eInt) own5), none, none, none, none, some (oD eInt half_so), none, none, none, none, none] : DEnv))) h69 (u_bool (u_frz (u_call (xs := [(eT eInt) (sl own5 (some k4) none)]) (u_cons (u_frz (u_sl (u_var 12 rfl) (u_psome (u_var 11 rfl)) (u_pnone) (fSl_T (e := eInt) _ _ _)) (frz_d _)) (u_nil)) (den__law_less (sl own5 (some k4) none) _ e_v43)) (frz_d _)))))) (fun k4 _ _ y5 hA => u_at (δ' := ([some (oD (eK eInt) script), some ((oL (oD eInt)) tin1), some (oD eInt lap), some (oD (eT eInt) v7.1), some (oD eInt (4 + v8.1)), some (oD (eL (eP (eT eInt) eInt)) v9), some (oD (eL (eP (eT eInt) eInt)) v11), some (oD (eL (eP (eT eInt) eInt)) v14), some (oD (eT eInt) v16), some (oD (eL (eT eInt)) v18), some (oD (eL eInt) row_so7), some (oD eInt k4), some (oD (eT eInt) own5), none, none, none, none, some (oD eInt half_so), none, none, none, none, none] : DEnv)) rfl (u_br (p := fun z : Int => (eInt z, ([some (oD (eK eInt) script), some ((oL (oD eInt)) tin1), some (oD eInt lap), some (oD (eT eInt) v7.1), some (oD eInt (4 + v8.1)), some (oD (eL (eP (eT eInt) eInt)) v9), some (oD (eL (eP (eT eInt) eInt)) v11), some (oD (eL (eP (eT eInt) eInt)) v14), some (oD (eT eInt) v16), some (oD (eL (eT eInt)) v18), some (oD (eL eInt) row_so7), some (oD eInt k4), some (oD (eT eInt) own5), none, none, none, none, some (oD eInt half_so), none, none, none, none, none] : DEnv))) hA (u_var 11 rfl))) (rfl : _ = ([some (oD (eK eInt) script), some ((oL (oD eInt)) tin1), some (oD eInt lap), some (oD (eT eInt) v7.1), some (oD eInt (4 + v8.1)), some (oD (eL (eP (eT eInt) eInt)) v9), some (oD (eL (eP (eT eInt) eInt)) v11), some (oD (eL (eP (eT eInt) eInt)) v14), some (oD (eT eInt) v16), some (oD (eL (eT eInt)) v18), some (oD (eL eInt) row_so7), none, some (oD (eT eInt) own5), none, none, none, none, some (oD eInt half_so), none, none, none, none, none] : DEnv))) ((frz_L (frz_D eInt)) _)) (u_c _) (fIx_L (e := eInt) e_v45)))))))) (fun _ hA => u_br (p := (fun z : Int => ((oD eInt) z, ([some (oD (eK eInt) script), some ((oL (oD eInt)) tin1), some (oD eInt lap), some (oD (eT eInt) v7.1), some (oD eInt (4 + v8.1)), some (oD (eL (eP (eT eInt) eInt)) v9), some (oD (eL (eP (eT eInt) eInt)) v11), some (oD (eL (eP (eT eInt) eInt)) v14), some (oD (eT eInt) v16), some (oD (eL (eT eInt)) v18), some (oD (eL eInt) row_so7), none, some (oD (eT eInt) own5), none, none, none, none, some (oD eInt half_so), none, none, none, none, none] : DEnv)))) hA (u_dat (u_var 17 rfl)))) rfl rfl) ?_
              obtain ⟨v47, e_v47, h76⟩ := of_bind h75
              clear h75
              obtain ⟨v48, e_v48, h77⟩ := of_bind h76
              clear h76
              obtain ⟨v49, e_v49, h78⟩ := of_bind h77
              clear h77
              refine tl_assoc ?_
              refine tl_seq (δ1 := ([some (oD (eK eInt) script), some ((oL (oD eInt)) tin1), some (oD eInt lap), some (oD (eT eInt) v7.1), some (oD eInt (4 + v8.1)), some (oD (eL (eP (eT eInt) eInt)) v9), some (oD (eL (eP (eT eInt) eInt)) v11), some (oD (eL (eP (eT eInt) eInt)) v14), some (oD (eT eInt) v16), some (oD (eL (eT eInt)) v18), some (oD (eL eInt) row_so7), some (oD eInt v46), some (oD (eT eInt) own5), none, none, some (O.lst [(oD (eP (eT eInt) (eT eInt)) v47), (oD eBl v48), (oD eBl v49)]), none, some (oD eInt half_so), none, none, none, none, none] : DEnv)) (u_set 15 (u_lst (u_cons (u_frz (u_call (xs := [(eT eInt) v7.1, (eL eInt) own5]) (u_cons (u_var 3 rfl) (u_cons (u_frz (u_o1 (u_var 12 rfl) (fList_T (e := eInt) _)) ((frz_L (frz_D eInt)) _)) (u_nil))) (den_cut_word v7.1 own5 _ e_v47)) (frz_d _)) (u_cons (u_frz (u_call (xs := [(eT eInt) v7.1, (eT eInt) (sl own5 none (some v46))]) (u_cons (u_var 3 rfl) (u_cons (u_frz (u_sl (u_var 12 rfl) (u_pnone) (u_psome (u_var 11 rfl)) (fSl_T (e := eInt) _ _ _)) (frz_d _)) (u_nil))) (den_is_basic_word v7.1 (sl own5 none (some v46)) _ e_v48)) (frz_d _)) (u_cons (u_frz (u_call (xs := [(eT eInt) v7.1, (eT eInt) (sl own5 (some v46) none)]) (u_cons (u_var 3 rfl) (u_cons (u_frz (u_sl (u_var 12 rfl) (u_psome (u_var 11 rfl)) (u_pnone) (fSl_T (e := eInt) _ _ _)) (frz_d _)) (u_nil))) (den_is_basic_word v7.1 (sl own5 (some v46) none) _ e_v49)) (frz_d _)) (u_nil)))) rfl (rfl : _ = (O.lst [(oD (eP (eT eInt) (eT eInt)) v47), (oD eBl v48), (oD eBl v49)]))) rfl rfl) ?_
              obtain ⟨v50, e_v50, h79⟩ := of_bind h78
              clear h78
              rcases of_ite h79 with ⟨hc, h80⟩ | ⟨hc, h80⟩ <;> clear h79
              · refine tl_assoc ?_
                refine tl_ifT2 (u_not (u_bool (u_frz (u_call (xs := [(fun p : ((List Int) × (List Int)) × Bool × Bool => D.lst [(eP (eT eInt) (eT eInt)) p.1, eBl p.2.1, eBl p.2.2]) (v47, v48, v49), (fun p : ((List Int) × (List Int)) × Bool × Bool => D.lst [(eP (eT eInt) (eT eInt)) p.1, eBl p.2.1, eBl p.2.2]) (((sl own5 none (some v46)), (sl own5 (some v46) none)), true, true)]) (u_cons (u_varL 15 rfl (frz_lit [((eP (eT eInt) (eT eInt)) v47), (eBl v48), (eBl v49)]) (rfl : _ = ([some (oD (eK eInt) script), some ((oL (oD eInt)) tin1), some (oD eInt lap), some (oD (eT eInt) v7.1), some (oD eInt (4 + v8.1)), some (oD (eL (eP (eT eInt) eInt)) v9), some (oD (eL (eP (eT eInt) eInt)) v11), some (oD (eL (eP (eT eInt) eInt)) v14), some (oD (eT eInt) v16), some (oD (eL (eT eInt)) v18), some (oD (eL eInt) row_so7), some (oD eInt v46), some (oD (eT eInt) own5), none, none, some (O.d (D.lst [((eP (eT eInt) (eT eInt)) v47), (eBl v48), (eBl v49)])), none, some (oD eInt half_so), none, none, none, none, none] : DEnv))) (u_cons (u_frz (u_lst (u_cons (u_tup (u_cons (u_frz (u_sl (u_var 12 rfl) (u_pnone) (u_psome (u_var 11 rfl)) (fSl_T (e := eInt) _ _ _)) (frz_d _)) (u_cons (u_frz (u_sl (u_var 12 rfl) (u_psome (u_var 11 rfl)) (u_pnone) (fSl_T (e := eInt) _ _ _)) (frz_d _)) (u_nil))) rfl) (u_cons (u_c _) (u_cons (u_c _) (u_nil)))) rfl (rfl : _ = (O.lst [(O.d ((eP (eT eInt) (eT eInt)) ((sl own5 none (some v46)), (sl own5 (some v46) none)))), (oD eBl true), (oD eBl true)]))) (frz_lit [((eP (eT eInt) (eT eInt)) ((sl own5 none (some v46)), (sl own5 (some v46) none))), (eBl true), (eBl true)])) (u_nil))) (den__law_same_5 16 (v47, v48, v49) (((sl own5 none (some v46)), (sl own5 (some v46) none)), true, true) _ e_v50)) (frz_d _)))) hc ?_
                clear hc
                refine tl_assoc ?_
                exact tl_rtC (lit := (fun s : (List Int) => ([some (oD (eK eInt) script), some ((oL (oD eInt)) s), some (oD eInt lap), some (oD (eT eInt) v7.1), some (oD eInt (4 + v8.1)), some (oD (eL (eP (eT eInt) eInt)) v9), some (oD (eL (eP (eT eInt) eInt)) v11), some (oD (eL (eP (eT eInt) eInt)) v14), some (oD (eT eInt) v16), some (oD (eL (eT eInt)) v18), some (oD (eL eInt) row_so7), none, none, none, none, none, none, none, none, none, none, none, none] : DEnv))) (o := (oD eBl)) h80 (u_dat (u_c _))
              · refine tl_assoc ?_
                refine tl_ifF2 (u_not (u_bool (u_frz (u_call (xs := [(fun p : ((List Int) × (List Int)) × Bool × Bool => D.lst [(eP (eT eInt) (eT eInt)) p.1, eBl p.2.1, eBl p.2.2]) (v47, v48, v49), (fun p : ((List Int) × (List Int)) × Bool × Bool => D.lst [(eP (eT eInt) (eT eInt)) p.1, eBl p.2.1, eBl p.2.2]) (((sl own5 none (some v46)), (sl own5 (some v46) none)), true, true)]) (u_cons (u_varL 15 rfl (frz_lit [((eP (eT eInt) (eT eInt)) v47), (eBl v48), (eBl v49)]) (rfl : _ = ([some (oD (eK eInt) script), some ((oL (oD eInt)) tin1), some (oD eInt lap), some (oD (eT eInt) v7.1), some (oD eInt (4 + v8.1)), some (oD (eL (eP (eT eInt) eInt)) v9), some (oD (eL (eP (eT eInt) eInt)) v11), some (oD (eL (eP (eT eInt) eInt)) v14), some (oD (eT eInt) v16), some (oD (eL (eT eInt)) v18), some (oD (eL eInt) row_so7), some (oD eInt v46), some (oD (eT eInt) own5), none, none, some (O.d (D.lst [((eP (eT eInt) (eT eInt)) v47), (eBl v48), (eBl v49)])), none, some (oD eInt half_so), none, none, none, none, none] : DEnv))) (u_cons (u_frz (u_lst (u_cons (u_tup (u_cons (u_frz (u_sl (u_var 12 rfl) (u_pnone) (u_psome (u_var 11 rfl)) (fSl_T (e := eInt) _ _ _)) (frz_d _)) (u_cons (u_frz (u_sl (u_var 12 rfl) (u_psome (u_var 11 rfl)) (u_pnone) (fSl_T (e := eInt) _ _ _)) (frz_d _)) (u_nil))) rfl) (u_cons (u_c _) (u_cons (u_c _) (u_nil)))) rfl (rfl : _ = (O.lst [(O.d ((eP (eT eInt) (eT eInt)) ((sl own5 none (some v46)), (sl own5 (some v46) none)))), (oD eBl true), (oD eBl true)]))) (frz_lit [((eP (eT eInt) (eT eInt)) ((sl own5 none (some v46)), (sl own5 (some v46) none))), (eBl true), (eBl true)])) (u_nil))) (den__law_same_5 16 (v47, v48, v49) (((sl own5 none (some v46)), (sl own5 (some v46) none)), true, true) _ e_v50)) (frz_d _)))) hc ?_
                clear hc
                refine tl_nil ?_
                refine tl_wipes ?_
                refine tl_nil ?_
                refine tl_wipe ?_
                exact tl_endC (lit := (fun s : (List Int) => ([some (oD (eK eInt) script), some ((oL (oD eInt)) s), some (oD eInt lap), some (oD (eT eInt) v7.1), some (oD eInt (4 + v8.1)), some (oD (eL (eP (eT eInt) eInt)) v9), some (oD (eL (eP (eT eInt) eInt)) v11), some (oD (eL (eP (eT eInt) eInt)) v14), some (oD (eT eInt) v16), some (oD (eL (eT eInt)) v18), some (oD (eL eInt) row_so7), none, none, none, none, none, none, none, none, none, none, none, none] : DEnv))) h80 rfl
            · refine tl_ifF2 (u_bool (u_d2 (u_lenN 12 rfl (oLen_T (e := eInt) _)) (u_c _) rfl)) hc ?_
              clear hc
              refine tl_nil ?_
              refine tl_wipe ?_
              exact tl_endC (lit := (fun s : (List Int) => ([some (oD (eK eInt) script), some ((oL (oD eInt)) s), some (oD eInt lap), some (oD (eT eInt) v7.1), some (oD eInt (4 + v8.1)), some (oD (eL (eP (eT eInt) eInt)) v9), some (oD (eL (eP (eT eInt) eInt)) v11), some (oD (eL (eP (eT eInt) eInt)) v14), some (oD (eT eInt) v16), some (oD (eL (eT eInt)) v18), some (oD (eL eInt) row_so7), none, none, none, none, none, none, none, none, none, none, none, none] : DEnv))) h67 rfl
          · rintro tin2 rfl
            dsimp only at h82
            clear h81
            refine tl_at (δ' := ([some (oD (eK eInt) script), some ((oL (oD eInt)) tin2), some (oD eInt lap), some (oD (eT eInt) v7.1), some (oD eInt (4 + v8.1)), some (oD (eL (eP (eT eInt) eInt)) v9), some (oD (eL (eP (eT eInt) eInt)) v11), some (oD (eL (eP (eT eInt) eInt)) v14), some (oD (eT eInt) v16), some (oD (eL (eT eInt)) v18), some (oD (eL eInt) row_so7), none, none, none, none, none, none, none, none, none, none, none, none] : DEnv)) rfl ?_
            obtain ⟨w10, e_w10, h83⟩ := of_bind h82
            clear h82
            obtain ⟨basics_so, e_basics_so, h84⟩ := of_bind h83
            clear h83
            refine tl_seq (δ1 := ([some (oD (eK eInt) script), some ((oL (oD eInt)) tin2), some (oD eInt lap), some (oD (eT eInt) v7.1), some (oD eInt (4 + v8.1)), some (oD (eL (eP (eT eInt) eInt)) v9), some (oD (eL (eP (eT eInt) eInt)) v11), some (oD (eL (eP (eT eInt) eInt)) v14), some (oD (eT eInt) v16), some (oD (eL (eT eInt)) v18), some (oD (eL eInt) row_so7), none, none, some ((oM (eT eInt) (oD eBl)) basics_so), none, none, none, none, none, none, none, none, none] : DEnv)) (u_set 13 (cast_ok (o := (oM (eT eInt) (oD eBl))) (of_ok e_basics_so) (u_o1 (u_frz (u_compA (e := (eP (eT eInt) eInt)) (e2 := (eP (eT eInt) eBl)) (T := (fun own6 => [(12, ((eP (eT eInt) eInt) own6))])) (δw := ([some (oD (eK eInt) script), some ((oL (oD eInt)) tin2), some (oD eInt lap), some (oD (eT eInt) v7.1), some (oD eInt (4 + v8.1)), some (oD (eL (eP (eT eInt) eInt)) v9), some (oD (eL (eP (eT eInt) eInt)) v11), some (oD (eL (eP (eT eInt) eInt)) v14), some (oD (eT eInt) v16), some (oD (eL (eT eInt)) v18), some (oD (eL eInt) row_so7), none, none, none, none, none, none, none, none, none, none, none, none] : DEnv)) (n := 23) (vs := [12]) (f := (fun own6 : (List Int) × Int => (own6.1, true))) (u_items (u_var 7 rfl) rfl) (of_chk e_w10) rfl rfl (fun own6 => tg_name 12 rfl) (fun _ => rfl) (fun own6 _ => u_at (δ' := ([some (oD (eK eInt) script), some ((oL (oD eInt)) tin2), some (oD eInt lap), some (oD (eT eInt) v7.1), some (oD eInt (4 + v8.1)), some (oD (eL (eP (eT eInt) eInt)) v9), some (oD (eL (eP (eT eInt) eInt)) v11), some (oD (eL (eP (eT eInt) eInt)) v14), some (oD (eT eInt) v16), some (oD (eL (eT eInt)) v18), some (oD (eL eInt) row_so7), none, some (oD (eP (eT eInt) eInt) own6), none, none, none, none, none, none, none, none, none, none] : DEnv)) rfl (u_tup (u_cons (u_ixN 12 rfl (u_c _) rfl ((show _ = R.ok ((eT eInt) own6.1) from rfl))) (u_cons (u_c _) (u_nil))) rfl)) (rfl : _ = ([some (oD (eK eInt) script), some ((oL (oD eInt)) tin2), some (oD eInt lap), some (oD (eT eInt) v7.1), some (oD eInt (4 + v8.1)), some (oD (eL (eP (eT eInt) eInt)) v9), some (oD (eL (eP (eT eInt) eInt)) v11), some (oD (eL (eP (eT eInt) eInt)) v14), some (oD (eT eInt) v16), some (oD (eL (eT eInt)) v18), some (oD (eL eInt) row_so7), none, none, none, none, none, none, none, none, none, none, none, none] : DEnv))) ((frz_L (frz_D (eP (eT eInt) eBl))) _)) (f_dict (e := (eT eInt)) (f := eBl) key_T (v14.map (fun own6 : (List Int) × Int => (own6.1, true)))))) rfl rfl) ?_
            refine tl_frz rfl ((frz_M (frz_D eBl)) _) ?_
            obtain ⟨v51, e_v51, h85⟩ := of_bind h84
            clear h84
            obtain ⟨c3, h90, h91⟩ := of_bind h85
            clear h85
            refine tl_contC (tl_forC (o := (oD eBl)) (e := (eP (eT eInt) eInt)) (idx := [12, 14]) (V := []) (n := 23) (T := (fun p : (List Int) × Int => [(12, ((eT eInt) p.1)), (14, (eInt p.2))])) (lit := (fun s : (List Int) => ([some (oD (eK eInt) script), some ((oL (oD eInt)) s), some (oD eInt lap), some (oD (eT eInt) v7.1), some (oD eInt (4 + v8.1)), some (oD (eL (eP (eT eInt) eInt)) v9), some (oD (eL (eP (eT eInt) eInt)) v11), some (oD (eL (eP (eT eInt) eInt)) v14), some (oD (eT eInt) v16), some (oD (eL (eT eInt)) v18), some (oD (eL eInt) row_so7), none, none, some (oD (eM (eT eInt) eBl) basics_so), none, none, none, none, none, none, none, none, none] : DEnv))) h90 (u_items (u_frz (u_callR (xs := [(eL (eP (eT eInt) eInt)) v9, eInt 8]) 1 rfl (u_cons (u_var 5 rfl) (u_cons (u_c _) (u_nil))) rfl (den__law_pick_2 tin2 v9 8 _ e_v51) (rfl : _ = ([some (oD (eK eInt) script), some ((oL (oD eInt)) v51.2), some (oD eInt lap), some (oD (eT eInt) v7.1), some (oD eInt (4 + v8.1)), some (oD (eL (eP (eT eInt) eInt)) v9), some (oD (eL (eP (eT eInt) eInt)) v11), some (oD (eL (eP (eT eInt) eInt)) v14), some (oD (eT eInt) v16), some (oD (eL (eT eInt)) v18), some (oD (eL eInt) row_so7), none, none, some (oD (eM (eT eInt) eBl) basics_so), none, none, none, none, none, none, none, none, none] : DEnv))) ((frz_L (frz_D (eP (eT eInt) eInt))) _)) rfl) rfl (fun _ => rfl) (fun p => tg_tup (tgs_cons (tg_name 12 rfl) (tgs_cons (tg_name 14 rfl) (tgs_nil))) rfl) (fun _ => rfl) (by decide) ?_) ?_ ?_
            · intro p _ tin3 c2 h86
              refine tl_at (δ' := ([some (oD (eK eInt) script), some ((oL (oD eInt)) tin3), some (oD eInt lap), some (oD (eT eInt) v7.1), some (oD eInt (4 + v8.1)), some (oD (eL (eP (eT eInt) eInt)) v9), some (oD (eL (eP (eT eInt) eInt)) v11), some (oD (eL (eP (eT eInt) eInt)) v14), some (oD (eT eInt) v16), some (oD (eL (eT eInt)) v18), some (oD (eL eInt) row_so7), none, some (oD (eT eInt) p.1), some (oD (eM (eT eInt) eBl) basics_so), some (oD eInt p.2), none, none, none, none, none, none, none, none] : DEnv)) rfl ?_
              obtain ⟨v52, e_v52, h87⟩ := of_bind h86
              clear h86
              obtain ⟨v53, e_v53, h88⟩ := of_bind h87
              clear h87
              rcases of_ite h88 with ⟨hc, h89⟩ | ⟨hc, h89⟩ <;> clear h88
              · refine tl_ifT2 (u_not (u_bool (u_frz (u_call (xs := [eBl v52, eBl (false != basics_so.any fun q_ => decide (q_.1 = p.1))]) (u_cons (u_frz (u_call (xs := [(eT eInt) v7.1, (eT eInt) p.1]) (u_cons (u_var 3 rfl) (u_cons (u_var 12 rfl) (u_nil))) (den_is_basic_word v7.1 p.1 _ e_v52)) (frz_d _)) (u_cons (u_d2 (u_var 12 rfl) (u_var 13 rfl) (f_inM (e := (eT eInt)) (f := eBl) key_T false _ _)) (u_nil))) (den__law_same_7 19 v52 (false != basics_so.any fun q_ => decide (q_.1 = p.1)) _ e_v53)) (frz_d _)))) hc ?_
                clear hc
                refine tl_assoc ?_
                exact tl_rtC (lit := (fun s : (List Int) => ([some (oD (eK eInt) script), some ((oL (oD eInt)) s), some (oD eInt lap), some (oD (eT eInt) v7.1), some (oD eInt (4 + v8.1)), some (oD (eL (eP (eT eInt) eInt)) v9), some (oD (eL (eP (eT eInt) eInt)) v11), some (oD (eL (eP (eT eInt) eInt)) v14), some (oD (eT eInt) v16), some (oD (eL (eT eInt)) v18), some (oD (eL eInt) row_so7), none, none, some (oD (eM (eT eInt) eBl) basics_so), none, none, none, none, none, none, none, none, none] : DEnv))) (o := (oD eBl)) h89 (u_dat (u_c _))
              · refine tl_ifF2 (u_not (u_bool (u_frz (u_call (xs := [eBl v52, eBl (false != basics_so.any fun q_ => decide (q_.1 = p.1))]) (u_cons (u_frz (u_call (xs := [(eT eInt) v7.1, (eT eInt) p.1]) (u_cons (u_var 3 rfl) (u_cons (u_var 12 rfl) (u_nil))) (den_is_basic_word v7.1 p.1 _ e_v52)) (frz_d _)) (u_cons (u_d2 (u_var 12 rfl) (u_var 13 rfl) (f_inM (e := (eT eInt)) (f := eBl) key_T false _ _)) (u_nil))) (den__law_same_7 19 v52 (false != basics_so.any fun q_ => decide (q_.1 = p.1)) _ e_v53)) (frz_d _)))) hc ?_
                clear hc
                refine tl_nil ?_
                refine tl_wipe ?_
                exact tl_endC (lit := (fun s : (List Int) => ([some (oD (eK eInt) script), some ((oL (oD eInt)) s), some (oD eInt lap), some (oD (eT eInt) v7.1), some (oD eInt (4 + v8.1)), some (oD (eL (eP (eT eInt) eInt)) v9), some (oD (eL (eP (eT eInt) eInt)) v11), some (oD (eL (eP (eT eInt) eInt)) v14), some (oD (eT eInt) v16), some (oD (eL (eT eInt)) v18), some (oD (eL eInt) row_so7), none, none, some (oD (eM (eT eInt) eBl) basics_so), none, none, none, none, none, none, none, none, none] : DEnv))) h89 rfl
            · rintro tin4 rfl
              dsimp only at h91
              clear h90
              refine tl_at (δ' := ([some (oD (eK eInt) script), some ((oL (oD eInt)) tin4), some (oD eInt lap), some (oD (eT eInt) v7.1), some (oD eInt (4 + v8.1)), some (oD (eL (eP (eT eInt) eInt)) v9), some (oD (eL (eP (eT eInt) eInt)) v11), some (oD (eL (eP (eT eInt) eInt)) v14), some (oD (eT eInt) v16), some (oD (eL (eT eInt)) v18), some (oD (eL eInt) row_so7), none, none, some (oD (eM (eT eInt) eBl) basics_so), none, none, none, none, none, none, none, none, none] : DEnv)) rfl ?_
              obtain ⟨v54, e_v54, h92⟩ := of_bind h91
              clear h91
              obtain ⟨v55, e_v55, h93⟩ := of_bind h92
              clear h92
              obtain ⟨v56, e_v56, h94⟩ := of_bind h93
              clear h93
              obtain ⟨v57, e_v57, h95⟩ := of_bind h94
              clear h94
              obtain ⟨v58, e_v58, h96⟩ := of_bind h95
              clear h95
              obtain ⟨v59, e_v59, h97⟩ := of_bind h96
              clear h96
              refine tl_seq (δ1 := ([some (oD (eK eInt) script), some ((oL (oD eInt)) tin4), some (oD eInt lap), some (oD (eT eInt) v7.1), some (oD eInt (4 + v8.1)), some (oD (eL (eP (eT eInt) eInt)) v9), some (oD (eL (eP (eT eInt) eInt)) v11), some (oD (eL (eP (eT eInt) eInt)) v14), some (oD (eT eInt) v16), some (oD (eL (eT eInt)) v18), some (oD (eL eInt) row_so7), none, none, some (oD (eM (eT eInt) eBl) basics_so), none, some (O.lst [(oD eBl v54), (oD eBl v55), (oD eBl v56), (oD eBl v57), (oD eBl v58), (oD eBl v59)]), none, none, none, none, none, none, none] : DEnv)) (u_set 15 (u_compL (vs := [18]) (δw := ([some (oD (eK eInt) script), some ((oL (oD eInt)) tin4), some (oD eInt lap), some (oD (eT eInt) v7.1), some (oD eInt (4 + v8.1)), some (oD (eL (eP (eT eInt) eInt)) v9), some (oD (eL (eP (eT eInt) eInt)) v11), some (oD (eL (eP (eT eInt) eInt)) v14), some (oD (eT eInt) v16), some (oD (eL (eT eInt)) v18), some (oD (eL eInt) row_so7), none, none, some (oD (eM (eT eInt) eBl) basics_so), none, none, none, none, none, none, none, none, none] : DEnv)) (u_items (u_tup (u_cons (u_tup (u_nil) rfl) (u_cons (u_c _) (u_cons (u_tup (u_cons (u_lenN 3 rfl (oLen_T (e := eInt) _)) (u_nil)) rfl) (u_cons (u_tup (u_cons (u_d1 (u_c _) rfl) (u_nil)) rfl) (u_cons (u_frz (u_lst (u_cons (u_c _) (u_nil)) rfl (rfl : _ = (O.lst [(oD eInt 0)]))) (frz_lit [(eInt 0)])) (u_cons (u_tup (u_cons (u_c _) (u_nil)) rfl) (u_nil))))))) rfl) rfl) rfl rfl (u_lc1 (δ1 := ([some (oD (eK eInt) script), some ((oL (oD eInt)) tin4), some (oD eInt lap), some (oD (eT eInt) v7.1), some (oD eInt (4 + v8.1)), some (oD (eL (eP (eT eInt) eInt)) v9), some (oD (eL (eP (eT eInt) eInt)) v11), some (oD (eL (eP (eT eInt) eInt)) v14), some (oD (eT eInt) v16), some (oD (eL (eT eInt)) v18), some (oD (eL eInt) row_so7), none, none, some (oD (eM (eT eInt) eBl) basics_so), none, none, none, none, some (O.d (D.tup [])), none, none, none, none] : DEnv)) ((tg_name 18 rfl) _ rfl) rfl (u_frz (u_call (xs := [(eT eInt) v7.1, (eT eInt) ([] : List Int)]) (u_cons (u_var 3 rfl) (u_cons (u_var 18 rfl) (u_nil))) (den_is_basic_word v7.1 ([] : List Int) _ e_v54)) (frz_d _)) (rfl : _ = ([some (oD (eK eInt) script), some ((oL (oD eInt)) tin4), some (oD eInt lap), some (oD (eT eInt) v7.1), some (oD eInt (4 + v8.1)), some (oD (eL (eP (eT eInt) eInt)) v9), some (oD (eL (eP (eT eInt) eInt)) v11), some (oD (eL (eP (eT eInt) eInt)) v14), some (oD (eT eInt) v16), some (oD (eL (eT eInt)) v18), some (oD (eL eInt) row_so7), none, none, some (oD (eM (eT eInt) eBl) basics_so), none, none, none, none, none, none, none, none, none] : DEnv)) (u_lc1 (δ1 := ([some (oD (eK eInt) script), some ((oL (oD eInt)) tin4), some (oD eInt lap), some (oD (eT eInt) v7.1), some (oD eInt (4 + v8.1)), some (oD (eL (eP (eT eInt) eInt)) v9), some (oD (eL (eP (eT eInt) eInt)) v11), some (oD (eL (eP (eT eInt) eInt)) v14), some (oD (eT eInt) v16), some (oD (eL (eT eInt)) v18), some (oD (eL eInt) row_so7), none, none, some (oD (eM (eT eInt) eBl) basics_so), none, none, none, none, some (oD eNon ()), none, none, none, none] : DEnv)) ((tg_name 18 rfl) _ rfl) rfl (u_frz (u_call (xs := [(eT eInt) v7.1, eNon ()]) (u_cons (u_var 3 rfl) (u_cons (u_var 18 rfl) (u_nil))) (den_is_basic_word_2 v7.1 () _ e_v55)) (frz_d _)) (rfl : _ = ([some (oD (eK eInt) script), some ((oL (oD eInt)) tin4), some (oD eInt lap), some (oD (eT eInt) v7.1), some (oD eInt (4 + v8.1)), some (oD (eL (eP (eT eInt) eInt)) v9), some (oD (eL (eP (eT eInt) eInt)) v11), some (oD (eL (eP (eT eInt) eInt)) v14), some (oD (eT eInt) v16), some (oD (eL (eT eInt)) v18), some (oD (eL eInt) row_so7), none, none, some (oD (eM (eT eInt) eBl) basics_so), none, none, none, none, none, none, none, none, none] : DEnv)) (u_lc1 (δ1 := ([some (oD (eK eInt) script), some ((oL (oD eInt)) tin4), some (oD eInt lap), some (oD (eT eInt) v7.1), some (oD eInt (4 + v8.1)), some (oD (eL (eP (eT eInt) eInt)) v9), some (oD (eL (eP (eT eInt) eInt)) v11), some (oD (eL (eP (eT eInt) eInt)) v14), some (oD (eT eInt) v16), some (oD (eL (eT eInt)) v18), some (oD (eL eInt) row_so7), none, none, some (oD (eM (eT eInt) eBl) basics_so), none, none, none, none, some (oD (eT eInt) ([(v7.1.length : Int)] : List Int)), none, none, none, none] : DEnv)) ((tg_name 18 rfl) _ rfl) rfl (u_frz (u_call (xs := [(eT eInt) v7.1, (eT eInt) ([(v7.1.length : Int)] : List Int)]) (u_cons (u_var 3 rfl) (u_cons (u_var 18 rfl) (u_nil))) (den_is_basic_word v7.1 ([(v7.1.length : Int)] : List Int) _ e_v56)) (frz_d _)) (rfl : _ = ([some (oD (eK eInt) script), some ((oL (oD eInt)) tin4), some (oD eInt lap), some (oD (eT eInt) v7.1), some (oD eInt (4 + v8.1)), some (oD (eL (eP (eT eInt) eInt)) v9), some (oD (eL (eP (eT eInt) eInt)) v11), some (oD (eL (eP (eT eInt) eInt)) v14), some (oD (eT eInt) v16), some (oD (eL (eT eInt)) v18), some (oD (eL eInt) row_so7), none, none, some (oD (eM (eT eInt) eBl) basics_so), none, none, none, none, none, none, none, none, none] : DEnv)) (u_lc1 (δ1 := ([some (oD (eK eInt) script), some ((oL (oD eInt)) tin4), some (oD eInt lap), some (oD (eT eInt) v7.1), some (oD eInt (4 + v8.1)), some (oD (eL (eP (eT eInt) eInt)) v9), some (oD (eL (eP (eT eInt) eInt)) v11), some (oD (eL (eP (eT eInt) eInt)) v14), some (oD (eT eInt) v16), some (oD (eL (eT eInt)) v18), some (oD (eL eInt) row_so7), none, none, some (oD (eM (eT eInt) eBl) basics_so), none, none, none, none, some (oD (eT eInt) ([(-1)] : List Int)), none, none, none, none] : DEnv)) ((tg_name 18 rfl) _ rfl) rfl (u_frz (u_call (xs := [(eT eInt) v7.1, (eT eInt) ([(-1)] : List Int)]) (u_cons (u_var 3 rfl) (u_cons (u_var 18 rfl) (u_nil))) (den_is_basic_word v7.1 ([(-1)] : List Int) _ e_v57)) (frz_d _)) (rfl : _ = ([some (oD (eK eInt) script), some ((oL (oD eInt)) tin4), some (oD eInt lap), some (oD (eT eInt) v7.1), some (oD eInt (4 + v8.1)), some (oD (eL (eP (eT eInt) eInt)) v9), some (oD (eL (eP (eT eInt) eInt)) v11), some (oD (eL (eP (eT eInt) eInt)) v14), some (oD (eT eInt) v16), some (oD (eL (eT eInt)) v18), some (oD (eL eInt) row_so7), none, none, some (oD (eM (eT eInt) eBl) basics_so), none, none, none, none, none, none, none, none, none] : DEnv)) (u_lc1 (δ1 := ([some (oD (eK eInt) script), some ((oL (oD eInt)) tin4), some (oD eInt lap), some (oD (eT eInt) v7.1), some (oD eInt (4 + v8.1)), some (oD (eL (eP (eT eInt) eInt)) v9), some (oD (eL (eP (eT eInt) eInt)) v11), some (oD (eL (eP (eT eInt) eInt)) v14), some (oD (eT eInt) v16), some (oD (eL (eT eInt)) v18), some (oD (eL eInt) row_so7), none, none, some (oD (eM (eT eInt) eBl) basics_so), none, none, none, none, some (O.d (D.lst [(eInt 0)])), none, none, none, none] : DEnv)) ((tg_name 18 rfl) _ rfl) rfl (u_frz (u_call (xs := [(eT eInt) v7.1, (eL eInt) ([0] : List Int)]) (u_cons (u_var 3 rfl) (u_cons (u_var 18 rfl) (u_nil))) (den_is_basic_word_3 v7.1 ([0] : List Int) _ e_v58)) (frz_d _)) (rfl : _ = ([some (oD (eK eInt) script), some ((oL (oD eInt)) tin4), some (oD eInt lap), some (oD (eT eInt) v7.1), some (oD eInt (4 + v8.1)), some (oD (eL (eP (eT eInt) eInt)) v9), some (oD (eL (eP (eT eInt) eInt)) v11), some (oD (eL (eP (eT eInt) eInt)) v14), some (oD (eT eInt) v16), some (oD (eL (eT eInt)) v18), some (oD (eL eInt) row_so7), none, none, some (oD (eM (eT eInt) eBl) basics_so), none, none, none, none, none, none, none, none, none] : DEnv)) (u_lc1 (δ1 := ([some (oD (eK eInt) script), some ((oL (oD eInt)) tin4), some (oD eInt lap), some (oD (eT eInt) v7.1), some (oD eInt (4 + v8.1)), some (oD (eL (eP (eT eInt) eInt)) v9), some (oD (eL (eP (eT eInt) eInt)) v11), some (oD (eL (eP (eT eInt) eInt)) v14), some (oD (eT eInt) v16), some (oD (eL (eT eInt)) v18), some (oD (eL eInt) row_so7), none, none, some (oD (eM (eT eInt) eBl) basics_so), none, none, none, none, some (O.d (D.tup [(eBl true)])), none, none, none, none] : DEnv)) ((tg_name 18 rfl) _ rfl) rfl (u_frz (u_call (xs := [(eT eInt) v7.1, (fun p : Bool => D.tup [eBl p]) true]) (u_cons (u_var 3 rfl) (u_cons (u_var 18 rfl) (u_nil))) (den_is_basic_word_4 v7.1 true _ e_v59)) (frz_d _)) (rfl : _ = ([some (oD (eK eInt) script), some ((oL (oD eInt)) tin4), some (oD eInt lap), some (oD (eT eInt) v7.1), some (oD eInt (4 + v8.1)), some (oD (eL (eP (eT eInt) eInt)) v9), some (oD (eL (eP (eT eInt) eInt)) v11), some (oD (eL (eP (eT eInt) eInt)) v14), some (oD (eT eInt) v16), some (oD (eL (eT eInt)) v18), some (oD (eL eInt) row_so7), none, none, some (oD (eM (eT eInt) eBl) basics_so), none, none, none, none, none, none, none, none, none] : DEnv)) (u_lc0))))))) rfl (rfl : _ = ([some (oD (eK eInt) script), some ((oL (oD eInt)) tin4), some (oD eInt lap), some (oD (eT eInt) v7.1), some (oD eInt (4 + v8.1)), some (oD (eL (eP (eT eInt) eInt)) v9), some (oD (eL (eP (eT eInt) eInt)) v11), some (oD (eL (eP (eT eInt) eInt)) v14), some (oD (eT eInt) v16), some (oD (eL (eT eInt)) v18), some (oD (eL eInt) row_so7), none, none, some (oD (eM (eT eInt) eBl) basics_so), none, none, none, none, none, none, none, none, none] : DEnv)) (rfl : _ = (O.lst [(oD eBl v54), (oD eBl v55), (oD eBl v56), (oD eBl v57), (oD eBl v58), (oD eBl v59)]))) rfl rfl) ?_
              obtain ⟨w11, e_w11, h98⟩ := of_bind h97
              clear h97
              obtain ⟨v60, e_v60, h99⟩ := of_bind h98
              clear h98
              obtain ⟨v61, e_v61, h100⟩ := of_bind h99
              clear h99
              obtain ⟨v62, e_v62, h101⟩ := of_bind h100
              clear h100
              rcases of_ite h101 with ⟨hc, h102⟩ | ⟨hc, h102⟩ <;> clear h101
              · refine tl_ifT2 (u_not (u_bool (u_frz (u_call (xs := [(fun p : Bool × Bool × Bool × Bool × Bool × Bool × (List Int) => D.lst [eBl p.1, eBl p.2.1, eBl p.2.2.1, eBl p.2.2.2.1, eBl p.2.2.2.2.1, eBl p.2.2.2.2.2.1, (eT eInt) p.2.2.2.2.2.2]) (v54, v55, v56, v57, v58, v59, v60), (fun p : Bool × Bool × Bool × Bool × Bool × Bool × (List Int) => D.lst [eBl p.1, eBl p.2.1, eBl p.2.2.1, eBl p.2.2.2.1, eBl p.2.2.2.2.1, eBl p.2.2.2.2.2.1, (eT eInt) p.2.2.2.2.2.2]) (false, false, false, false, false, false, v61)]) (u_cons (u_frz (u_o2 (u_varL 15 rfl (frz_lit [(eBl v54), (eBl v55), (eBl v56), (eBl v57), (eBl v58), (eBl v59)]) (rfl : _ = ([some (oD (eK eInt) script), some ((oL (oD eInt)) tin4), some (oD eInt lap), some (oD (eT eInt) v7.1), some (oD eInt (4 + v8.1)), some (oD (eL (eP (eT eInt) eInt)) v9), some (oD (eL (eP (eT eInt) eInt)) v11), some (oD (eL (eP (eT eInt) eInt)) v14), some (oD (eT eInt) v16), some (oD (eL (eT eInt)) v18), some (oD (eL eInt) row_so7), none, none, some (oD (eM (eT eInt) eBl) basics_so), none, some (O.d (D.lst [(eBl v54), (eBl v55), (eBl v56), (eBl v57), (eBl v58), (eBl v59)])), none, none, none, none, none, none, none] : DEnv))) (u_frz (u_lst (u_cons (u_frz (u_call (xs := [(eT eInt) (v7.1.map (fun own7 : Int => (own7 + 1))), eInt ((4 + v8.1) + 1)]) (u_cons (u_d1 (u_frz (u_compA (e := eInt) (e2 := eInt) (T := (fun own7 => [(12, (eInt own7))])) (δw := ([some (oD (eK eInt) script), some ((oL (oD eInt)) tin4), some (oD eInt lap), some (oD (eT eInt) v7.1), some (oD eInt (4 + v8.1)), some (oD (eL (eP (eT eInt) eInt)) v9), some (oD (eL (eP (eT eInt) eInt)) v11), some (oD (eL (eP (eT eInt) eInt)) v14), some (oD (eT eInt) v16), some (oD (eL (eT eInt)) v18), some (oD (eL eInt) row_so7), none, none, some (oD (eM (eT eInt) eBl) basics_so), none, some (O.d (D.lst [(eBl v54), (eBl v55), (eBl v56), (eBl v57), (eBl v58), (eBl v59)])), none, none, none, none, none, none, none] : DEnv)) (n := 23) (vs := [12]) (f := (fun own7 : Int => (own7 + 1))) (u_items (u_var 3 rfl) rfl) (of_chk e_w11) rfl rfl (fun own7 => tg_name 12 rfl) (fun _ => rfl) (fun own7 _ => u_at (δ' := ([some (oD (eK eInt) script), some ((oL (oD eInt)) tin4), some (oD eInt lap), some (oD (eT eInt) v7.1), some (oD eInt (4 + v8.1)), some (oD (eL (eP (eT eInt) eInt)) v9), some (oD (eL (eP (eT eInt) eInt)) v11), some (oD (eL (eP (eT eInt) eInt)) v14), some (oD (eT eInt) v16), some (oD (eL (eT eInt)) v18), some (oD (eL eInt) row_so7), none, some (oD eInt own7), some (oD (eM (eT eInt) eBl) basics_so), none, some (O.d (D.lst [(eBl v54), (eBl v55), (eBl v56), (eBl v57), (eBl v58), (eBl v59)])), none, none, none, none, none, none, none] : DEnv)) rfl (u_frz (u_o2 (u_var 12 rfl) (u_c _) rfl) (frz_d _))) (rfl : _ = ([some (oD (eK eInt) script), some ((oL (oD eInt)) tin4), some (oD eInt lap), some (oD (eT eInt) v7.1), some (oD eInt (4 + v8.1)), some (oD (eL (eP (eT eInt) eInt)) v9), some (oD (eL (eP (eT eInt) eInt)) v11), some (oD (eL (eP (eT eInt) eInt)) v14), some (oD (eT eInt) v16), some (oD (eL (eT eInt)) v18), some (oD (eL eInt) row_so7), none, none, some (oD (eM (eT eInt) eBl) basics_so), none, some (O.d (D.lst [(eBl v54), (eBl v55), (eBl v56), (eBl v57), (eBl v58), (eBl v59)])), none, none, none, none, none, none, none] : DEnv))) ((frz_L (frz_D eInt)) _)) (show _ = R.ok (eT eInt (v7.1.map (fun own7 : Int => (own7 + 1)))) from rfl)) (u_cons (u_frz (u_o2 (u_var 4 rfl) (u_c _) rfl) (frz_d _)) (u_nil))) (den_joined_ranks (v7.1.map (fun own7 : Int => (own7 + 1))) ((4 + v8.1) + 1) _ e_v60)) (frz_d _)) (u_nil)) rfl (rfl : _ = (O.lst [(oD (eT eInt) v60)]))) (frz_lit [((eT eInt) v60)])) (show _ = R.ok (O.lst [(oD eBl v54), (oD eBl v55), (oD eBl v56), (oD eBl v57), (oD eBl v58), (oD eBl v59), (oD (eT eInt) v60)]) from rfl)) (frz_lit [(eBl v54), (eBl v55), (eBl v56), (eBl v57), (eBl v58), (eBl v59), ((eT eInt) v60)])) (u_cons (u_frz (u_o2 (u_frz (u_o2 (u_frz (u_lst (u_cons (u_c _) (u_nil)) rfl (rfl : _ = (O.lst [(oD eBl false)]))) (frz_lit [(eBl false)])) (u_c _) (show _ = R.ok (O.lst [(oD eBl false), (oD eBl false), (oD eBl false), (oD eBl false), (oD eBl false), (oD eBl false)]) from rfl)) (frz_lit [(eBl false), (eBl false), (eBl false), (eBl false), (eBl false), (eBl false)])) (u_frz (u_lst (u_cons (u_frz (u_o2 (u_tup (u_cons (u_c _) (u_nil)) rfl) (u_var 8 rfl) (fAdd_T (e := eInt) e_v61)) (frz_d _)) (u_nil)) rfl (rfl : _ = (O.lst [(oD (eT eInt) v61)]))) (frz_lit [((eT eInt) v61)])) (show _ = R.ok (O.lst [(oD eBl false), (oD eBl false), (oD eBl false), (oD eBl false), (oD eBl false), (oD eBl false), (oD (eT eInt) v61)]) from rfl)) (frz_lit [(eBl false), (eBl false), (eBl false), (eBl false), (eBl false), (eBl false), ((eT eInt) v61)])) (u_nil))) (den__law_same_8 17 (v54, v55, v56, v57, v58, v59, v60) (false, false, false, false, false, false, v61) _ e_v62)) (frz_d _)))) hc ?_
                clear hc
                refine tl_assoc ?_
                exact tl_rtC (lit := (fun s : (List Int) => ([some (oD (eK eInt) script), some ((oL (oD eInt)) s), none, none, none, none, none, none, none, none, none, none, none, none, none, none, none, none, none, none, none, none, none] : DEnv))) (o := (oD eBl)) h102 (u_dat (u_c _))
              · refine tl_ifF2 (u_not (u_bool (u_frz (u_call (xs := [(fun p : Bool × Bool × Bool × Bool × Bool × Bool × (List Int) => D.lst [eBl p.1, eBl p.2.1, eBl p.2.2.1, eBl p.2.2.2.1, eBl p.2.2.2.2.1, eBl p.2.2.2.2.2.1, (eT eInt) p.2.2.2.2.2.2]) (v54, v55, v56, v57, v58, v59, v60), (fun p : Bool × Bool × Bool × Bool × Bool × Bool × (List Int) => D.lst [eBl p.1, eBl p.2.1, eBl p.2.2.1, eBl p.2.2.2.1, eBl p.2.2.2.2.1, eBl p.2.2.2.2.2.1, (eT eInt) p.2.2.2.2.2.2]) (false, false, false, false, false, false, v61)]) (u_cons (u_frz (u_o2 (u_varL 15 rfl (frz_lit [(eBl v54), (eBl v55), (eBl v56), (eBl v57), (eBl v58), (eBl v59)]) (rfl : _ = ([some (oD (eK eInt) script), some ((oL (oD eInt)) tin4), some (oD eInt lap), some (oD (eT eInt) v7.1), some (oD eInt (4 + v8.1)), some (oD (eL (eP (eT eInt) eInt)) v9), some (oD (eL (eP (eT eInt) eInt)) v11), some (oD (eL (eP (eT eInt) eInt)) v14), some (oD (eT eInt) v16), some (oD (eL (eT eInt)) v18), some (oD (eL eInt) row_so7), none, none, some (oD (eM (eT eInt) eBl) basics_so), none, some (O.d (D.lst [(eBl v54), (eBl v55), (eBl v56), (eBl v57), (eBl v58), (eBl v59)])), none, none, none, none, none, none, none] : DEnv))) (u_frz (u_lst (u_cons (u_frz (u_call (xs := [(eT eInt) (v7.1.map (fun own7 : Int => (own7 + 1))), eInt ((4 + v8.1) + 1)]) (u_cons (u_d1 (u_frz (u_compA (e := eInt) (e2 := eInt) (T := (fun own7 => [(12, (eInt own7))])) (δw := ([some (oD (eK eInt) script), some ((oL (oD eInt)) tin4), some (oD eInt lap), some (oD (eT eInt) v7.1), some (oD eInt (4 + v8.1)), some (oD (eL (eP (eT eInt) eInt)) v9), some (oD (eL (eP (eT eInt) eInt)) v11), some (oD (eL (eP (eT eInt) eInt)) v14), some (oD (eT eInt) v16), some (oD (eL (eT eInt)) v18), some (oD (eL eInt) row_so7), none, none, some (oD (eM (eT eInt) eBl) basics_so), none, some (O.d (D.lst [(eBl v54), (eBl v55), (eBl v56), (eBl v57), (eBl v58), (eBl v59)])), none, none, none, none, none, none, none] : DEnv)) (n := 23) (vs := [12]) (f := (fun own7 : Int => (own7 + 1))) (u_items (u_var 3 rfl) rfl) (of_chk e_w11) rfl rfl (fun own7 => tg_name 12 rfl) (fun _ => rfl) (fun own7 _ => u_at (δ' := ([some (oD (eK eInt) script), some ((oL (oD eInt)) tin4), some (oD eInt lap), some (oD (eT eInt) v7.1), some (oD eInt (4 + v8.1)), some (oD (eL (eP (eT eInt) eInt)) v9), some (oD (eL (eP (eT eInt) eInt)) v11), some (oD (eL (eP (eT eInt) eInt)) v14), some (oD (eT eInt) v16), some (oD (eL (eT eInt)) v18), some (oD (eL eInt) row_so7), none, some (oD eInt own7), some (oD (eM (eT eInt) eBl) basics_so), none, some (O.d (D.lst [(eBl v54), (eBl v55), (eBl v56), (eBl v57), (eBl v58), (eBl v59)])), none, none, none, none, none, none, none] : DEnv)) rfl (u_frz (u_o2 (u_var 12 rfl) (u_c _) rfl) (frz_d _))) (rfl : _ = ([some (oD (eK eInt) script), some ((oL (oD eInt)) tin4), some (oD eInt lap), some (oD (eT eInt) v7.1), some (oD eInt (4 + v8.1)), some (oD (eL (eP (eT eInt) eInt)) v9), some (oD (eL (eP (eT eInt) eInt)) v11), some (oD (eL (eP (eT eInt) eInt)) v14), some (oD (eT eInt) v16), some (oD (eL (eT eInt)) v18), some (oD (eL eInt) row_so7), none, none, some (oD (eM (eT eInt) eBl) basics_so), none, some (O.d (D.lst [(eBl v54), (eBl v55), (eBl v56), (eBl v57), (eBl v58), (eBl v59)])), none, none, none, none, none, none, none] : DEnv))) ((frz_L (frz_D eInt)) _)) (show _ = R.ok (eT eInt (v7.1.map (fun own7 : Int => (own7 + 1)))) from rfl)) (u_cons (u_frz (u_o2 (u_var 4 rfl) (u_c _) rfl) (frz_d _)) (u_nil))) (den_joined_ranks (v7.1.map (fun own7 : Int => (own7 + 1))) ((4 + v8.1) + 1) _ e_v60)) (frz_d _)) (u_nil)) rfl (rfl : _ = (O.lst [(oD (eT eInt) v60)]))) (frz_lit [((eT eInt) v60)])) (show _ = R.ok (O.lst [(oD eBl v54), (oD eBl v55), (oD eBl v56), (oD eBl v57), (oD eBl v58), (oD eBl v59), (oD (eT eInt) v60)]) from rfl)) (frz_lit [(eBl v54), (eBl v55), (eBl v56), (eBl v57), (eBl v58), (eBl v59), ((eT eInt) v60)])) (u_cons (u_frz (u_o2 (u_frz (u_o2 (u_frz (u_lst (u_cons (u_c _) (u_nil)) rfl (rfl : _ = (O.lst [(oD eBl false)]))) (frz_lit [(eBl false)])) (u_c _) (show _ = R.ok (O.lst [(oD eBl false), (oD eBl false), (oD eBl false), (oD eBl false), (oD eBl false), (oD eBl false)]) from rfl)) (frz_lit [(eBl false), (eBl false), (eBl false), (eBl false), (eBl false), (eBl false)])) (u_frz (u_lst (u_cons (u_frz (u_o2 (u_tup (u_cons (u_c _) (u_nil)) rfl) (u_var 8 rfl) (fAdd_T (e := eInt) e_v61)) (frz_d _)) (u_nil)) rfl (rfl : _ = (O.lst [(oD (eT eInt) v61)]))) (frz_lit [((eT eInt) v61)])) (show _ = R.ok (O.lst [(oD eBl false), (oD eBl false), (oD eBl false), (oD eBl false), (oD eBl false), (oD eBl false), (oD (eT eInt) v61)]) from rfl)) (frz_lit [(eBl false), (eBl false), (eBl false), (eBl false), (eBl false), (eBl false), ((eT eInt) v61)])) (u_nil))) (den__law_same_8 17 (v54, v55, v56, v57, v58, v59, v60) (false, false, false, false, false, false, v61) _ e_v62)) (frz_d _)))) hc ?_
                clear hc
                refine tl_nil ?_
                refine tl_wipe ?_
                exact tl_endC (lit := (fun s : (List Int) => ([some (oD (eK eInt) script), some ((oL (oD eInt)) s), none, none, none, none, none, none, none, none, none, none, none, none, none, none, none, none, none, none, none, none, none] : DEnv))) h102 rfl
            · rintro z rfl δq
              dsimp only at h91
              exact pb_rt h91 δq
          · rintro z1 rfl δq
            dsimp only at h82
            exact pb_rt h82 δq
  · rintro tin5 rfl
    dsimp only at h104
    clear h103
    refine tl_at (δ' := ([some (oD (eK eInt) script), some ((oL (oD eInt)) tin5), none, none, none, none, none, none, none, none, none, none, none, none, none, none, none, none, none, none, none, none, none] : DEnv)) rfl ?_
    obtain ⟨v63, e_v63, h105⟩ := of_bind h104
    clear h104
    obtain ⟨v64, e_v64, h106⟩ := of_bind h105
    clear h105
    refine tl_seq (δ1 := ([some (oD (eK eInt) script), some ((oL (oD eInt)) v64.2), none, none, none, none, none, none, none, none, none, none, none, none, none, none, none, none, none, none, some (oD eInt (1 + v63.1)), some (oD eInt (1 + v64.1)), none] : DEnv)) (u_asg (u_tup (u_cons (u_frz (u_o2 (u_c _) (u_frz (u_callR (xs := [eInt 4]) 1 rfl (u_cons (u_c _) (u_nil)) rfl (den__law_take tin5 4 _ e_v63) (rfl : _ = ([some (oD (eK eInt) script), some ((oL (oD eInt)) v63.2), none, none, none, none, none, none, none, none, none, none, none, none, none, none, none, none, none, none, none, none, none] : DEnv))) (frz_d _)) rfl) (frz_d _)) (u_cons (u_frz (u_o2 (u_c _) (u_frz (u_callR (xs := [eInt 8]) 1 rfl (u_cons (u_c _) (u_nil)) rfl (den__law_take v63.2 8 _ e_v64) (rfl : _ = ([some (oD (eK eInt) script), some ((oL (oD eInt)) v64.2), none, none, none, none, none, none, none, none, none, none, none, none, none, none, none, none, none, none, none, none, none] : DEnv))) (frz_d _)) rfl) (frz_d _)) (u_nil))) rfl) ((tg_tup (tgs_cons (tg_name 20 rfl) (tgs_cons (tg_name 21 rfl) (tgs_nil))) rfl) _ rfl)) ?_
    obtain ⟨v65, e_v65, h112⟩ := of_bind h106
    clear h106
    obtain ⟨w15, e_w15, h113⟩ := of_bind h112
    clear h112
    obtain ⟨v68, e_v68, h114⟩ := of_bind h113
    clear h113
    obtain ⟨w16, e_w16, h115⟩ := of_bind h114
    clear h114
    refine tl_seq (δ1 := ([some (oD (eK eInt) script), some ((oL (oD eInt)) v64.2), none, none, none, none, none, some (oD eInt (v68.sum / (1 + v64.1))), none, none, none, none, none, none, none, none, none, none, none, none, some (oD eInt (1 + v63.1)), some (oD eInt (1 + v64.1)), none] : DEnv)) (u_set 7 (u_dat (u_d2 (u_d1 (u_frz (u_compM (e := eInt) (e2 := eInt) (T := (fun d => [(22, (eInt d))])) (δw := ([some (oD (eK eInt) script), some ((oL (oD eInt)) v64.2), none, none, none, none, none, none, none, none, none, none, none, none, none, none, none, none, none, none, some (oD eInt (1 + v63.1)), some (oD eInt (1 + v64.1)), none] : DEnv)) (n := 23) (vs := [22]) (p := (fun d : Int => U.bind (need (okMod (1 + v64.1) d)) fun w12 =>
  .ok (decide (((1 + v64.1) % d) = 0)))) (f := (fun d : Int => U.bind (t__law_moebius d) fun v66 =>
  U.bind (need (okDiv (1 + v64.1) d)) fun w13 =>
  U.bind (t__law_power (1 + v63.1) ((1 + v64.1) / d)) fun v67 =>
  U.bind (need (okMul v66 v67)) fun w14 =>
  .ok (v66 * v67))) e_v68 (u_rng2 (u_cons (u_c _) (u_cons (u_frz (u_o2 (u_var 21 rfl) (u_c _) rfl) (frz_d _)) (u_nil))) e_v65) (of_chk e_w15) rfl rfl (fun d => tg_name 22 rfl) (fun _ => rfl) (fun d _ _ hA => u_at (δ' := ([some (oD (eK eInt) script), some ((oL (oD eInt)) v64.2), none, none, none, none, none, none, none, none, none, none, none, none, none, none, none, none, none, none, some (oD eInt (1 + v63.1)), some (oD eInt (1 + v64.1)), some (oD eInt d)] : DEnv)) rfl ((match of_bind hA with | ⟨w12, e_w12, h111⟩ => u_br (p := fun z : Bool => (z, ([some (oD (eK eInt) script), some ((oL (oD eInt)) v64.2), none, none, none, none, none, none, none, none, none, none, none, none, none, none, none, none, none, none, some (oD eInt (1 + v63.1)), some (oD eInt (1 + v64.1)), some (oD eInt d)] : DEnv))) h111 (u_bool (u_d2 (u_d2 (u_var 21 rfl) (u_var 22 rfl) (f_mod (of_need e_w12))) (u_c _) rfl))))) (fun d _ _ y6 hA => u_at (δ' := ([some (oD (eK eInt) script), some ((oL (oD eInt)) v64.2), none, none, none, none, none, none, none, none, none, none, none, none, none, none, none, none, none, none, some (oD eInt (1 + v63.1)), some (oD eInt (1 + v64.1)), some (oD eInt d)] : DEnv)) rfl ((match of_bind hA with | ⟨v66, e_v66, h107⟩ => (match of_bind h107 with | ⟨w13, e_w13, h108⟩ => (match of_bind h108 with | ⟨v67, e_v67, h109⟩ => (match of_bind h109 with | ⟨w14, e_w14, h110⟩ => u_br (p := fun z : Int => (eInt z, ([some (oD (eK eInt) script), some ((oL (oD eInt)) v64.2), none, none, none, none, none, none, none, none, none, none, none, none, none, none, none, none, none, none, some (oD eInt (1 + v63.1)), some (oD eInt (1 + v64.1)), some (oD eInt d)] : DEnv))) h110 (u_frz (u_o2 (u_frz (u_call (xs := [eInt d]) (u_cons (u_var 22 rfl) (u_nil)) (den__law_moebius d _ e_v66)) (frz_d _)) (u_frz (u_call (xs := [eInt (1 + v63.1), eInt ((1 + v64.1) / d)]) (u_cons (u_var 20 rfl) (u_cons (u_d2 (u_var 21 rfl) (u_var 22 rfl) (f_div (of_need e_w13))) (u_nil))) (den__law_power (1 + v63.1) ((1 + v64.1) / d) _ e_v67)) (frz_d _)) (f_mulI (of_need e_w14))) (frz_d _)))))))) (rfl : _ = ([some (oD (eK eInt) script), some ((oL (oD eInt)) v64.2), none, none, none, none, none, none, none, none, none, none, none, none, none, none, none, none, none, none, some (oD eInt (1 + v63.1)), some (oD eInt (1 + v64.1)), none] : DEnv))) ((frz_L (frz_D eInt)) _)) (fSum_L v68)) (u_var 21 rfl) (f_div (of_need e_w16)))) rfl rfl) ?_
    obtain ⟨v69, e_v69, h116⟩ := of_bind h115
    clear h115
    obtain ⟨v70, e_v70, h117⟩ := of_bind h116
    clear h116
    obtain ⟨v71, e_v71, h118⟩ := of_bind h117
    clear h117
    obtain ⟨v72, e_v72, h119⟩ := of_bind h118
    clear h118
    obtain ⟨v73, e_v73, h120⟩ := of_bind h119
    clear h119
    obtain ⟨v74, e_v74, h121⟩ := of_bind h120
    clear h120
    obtain ⟨v75, e_v75, h122⟩ := of_bind h121
    clear h121
    exact tl_rtF (o := (oD eBl)) h122 (u_call (xs := [(fun p : Int × (List Int) × (List Int) × (List (List Int)) => D.lst [eInt p.1, (eT eInt) p.2.1, (eT eInt) p.2.2.1, (eL (eT eInt)) p.2.2.2]) (v71, v72, v73, v74), (fun p : Int × (Int × Int × Int × Int) × (Int × Int × Int) × Unit => D.lst [eInt p.1, (fun p : Int × Int × Int × Int => D.tup [eInt p.1, eInt p.2.1, eInt p.2.2.1, eInt p.2.2.2]) p.2.1, (fun p : Int × Int × Int => D.tup [eInt p.1, eInt p.2.1, eInt p.2.2]) p.2.2.1, (fun p : Unit => D.lst []) p.2.2.2]) ((v68.sum / (1 + v64.1)), (0, 0, 0, 0), (0, 0, 0), ())]) (u_cons (u_frz (u_lst (u_cons (u_d2 (u_frz (u_call (xs := [(eT eInt) v69, eInt (2 * (1 + v64.1))]) (u_cons (u_frz (u_o2 (u_tup (u_cons (u_c _) (u_nil)) rfl) (u_var 20 rfl) (fMul_T (e := eInt) e_v69)) (frz_d _)) (u_cons (u_frz (u_o2 (u_c _) (u_var 21 rfl) (f_mulI (f_mulL rfl))) (frz_d _)) (u_nil))) (den_free_ranks v69 (2 * (1 + v64.1)) _ e_v70)) (frz_d _)) (u_frz (u_o2 (u_c _) (u_var 21 rfl) (f_mulI (f_mulL rfl))) (frz_d _)) (fIx_T (e := eInt) e_v71)) (u_cons (u_frz (u_call (xs := [(eT eInt) ([] : List Int), eInt 3]) (u_cons (u_tup (u_nil) rfl) (u_cons (u_c _) (u_nil))) (den_free_ranks ([] : List Int) 3 _ e_v72)) (frz_d _)) (u_cons (u_frz (u_call (xs := [(eT eInt) ([] : List Int), eInt 2]) (u_cons (u_tup (u_nil) rfl) (u_cons (u_c _) (u_nil))) (den_joined_ranks ([] : List Int) 2 _ e_v73)) (frz_d _)) (u_cons (u_frz (u_call (xs := [(eT eInt) ([] : List Int), eInt 5]) (u_cons (u_tup (u_nil) rfl) (u_cons (u_c _) (u_nil))) (den_basic_words_2 ([] : List Int) 5 _ e_v74)) ((frz_L (frz_D (eT eInt))) _)) (u_nil))))) rfl (rfl : _ = (O.lst [(oD eInt v71), (oD (eT eInt) v72), (oD (eT eInt) v73), (oD (eL (eT eInt)) v74)]))) (frz_lit [(eInt v71), ((eT eInt) v72), ((eT eInt) v73), ((eL (eT eInt)) v74)])) (u_cons (u_frz (u_lst (u_cons (u_var 7 rfl) (u_cons (u_tup (u_cons (u_c _) (u_cons (u_c _) (u_cons (u_c _) (u_cons (u_c _) (u_nil))))) rfl) (u_cons (u_tup (u_cons (u_c _) (u_cons (u_c _) (u_cons (u_c _) (u_nil)))) rfl) (u_cons (u_frz (u_lst (u_nil) rfl (rfl : _ = (O.lst []))) (frz_lit [])) (u_nil))))) rfl (rfl : _ = (O.lst [(oD eInt (v68.sum / (1 + v64.1))), (O.d (D.tup [(eInt 0), (eInt 0), (eInt 0), (eInt 0)])), (O.d (D.tup [(eInt 0), (eInt 0), (eInt 0)])), (O.d (D.lst []))]))) (frz_lit [(eInt (v68.sum / (1 + v64.1))), (D.tup [(eInt 0), (eInt 0), (eInt 0), (eInt 0)]), (D.tup [(eInt 0), (eInt 0), (eInt 0)]), (D.lst [])])) (u_nil))) (den__law_same_9 17 (v71, v72, v73, v74) ((v68.sum / (1 + v64.1)), (0, 0, 0, 0), (0, 0, 0), ()) _ e_v75))
  · rintro z2 rfl δq
    dsimp only at h104
    exact pf_rtv h104 δq
end L
namespace L
open PySem L2 G U
/-- the source of draws -/
def Tin (n : Int) (s : List Int) : Prop := ∃ a b c : Int, s = [a, b, c] ∧ 0 ≤ a ∧ 0 ≤ c ∧ c ≤ n
theorem Tin.mono {n m : Int} {s : List Int} (h : Tin n s) (hm : n ≤ m) : Tin m s := by
  obtain ⟨a, b, c, e, h1, h2, h3⟩ := h
  exact ⟨a, b, c, e, h1, h2, by omega⟩
theorem take_ok {n m : Int} {s : List Int} (h : Tin n s) (hn : n < 1099511627776) (h1 : 0 < m) (h2 : m < 1073741824) : ∃ (r : Int) (s' : List Int), t__law_take s m = .ok (r, s') ∧ 0 ≤ r ∧ r < m ∧ Tin (n + 1) s' := by
  obtain ⟨a, b, c, rfl, ha, hc, hcn⟩ := h
  have i0 : ∀ x y z : Int, ix [x, y, z] 0 = .ok x := fun _ _ _ => rfl
  have i1 : ∀ x y z : Int, ix [x, y, z] 1 = .ok y := fun _ _ _ => rfl
  have i2 : ∀ x y z : Int, ix [x, y, z] 2 = .ok z := fun _ _ _ => rfl
  have s0 : ∀ x y z w : Int, setIx [x, y, z] 0 w = .ok [w, y, z] := fun _ _ _ _ => rfl
  have s2 : ∀ x y z w : Int, setIx [x, y, z] 2 w = .ok [x, y, w] := fun _ _ _ _ => rfl
  unfold t__law_take
  rw [i0, bind_ok]
  by_cases hp : 0 < a
  · rw [if_pos (decide_eq_true hp), bind_ok, U.okMod_ok h1, need_true, bind_ok, bind_ok, U.okDiv_ok h1 h2, need_true, bind_ok, s0, bind_ok]
    exact ⟨_, _, rfl, Int.emod_nonneg _ (by omega), Int.emod_lt_of_pos _ h1, _, _, _, rfl, Int.ediv_nonneg ha (by omega), hc, by omega⟩
  · rw [if_neg (by simpa using hp), i2, bind_ok, s2, bind_ok, i1, bind_ok, i2, bind_ok, bind_ok, okMul_r (by omega), need_true, bind_ok, bind_ok, bind_ok, bind_ok, okMul_r (by omega), need_true, bind_ok, bind_ok, U.okMod_ok h1, need_true, bind_ok]
    exact ⟨_, _, rfl, Int.emod_nonneg _ (by omega), Int.emod_lt_of_pos _ h1, _, _, _, rfl, ha, by omega, by omega⟩
theorem cells_ok (ns : List Int) (hn : ns.length ≤ 63) : ∃ x : Int, t__law_cells ns 1 = .ok [x] := by
  unfold t__law_cells
  rw [bind_ok]
  have e1 : ∃ x0 : Int, (if (sl ns none (some 1)).isEmpty = true then ([0] : List Int) else sl ns none (some 1)) = [x0] := by
    have := U.sl_to ns 1
    rw [show ((1 : Nat) : Int) = 1 from rfl] at this
    rw [this]
    cases ns with
    | nil => exact ⟨0, rfl⟩
    | cons n ns => exact ⟨n, rfl⟩
  obtain ⟨x0, e1⟩ := e1
  rw [e1]
  obtain ⟨s', e2, x, rfl⟩ := forM_inv (I := fun s : List Int => ∃ x, s = [x]) (f := fun (p : Int × Int) (cells_so1 : (List Int)) =>
    U.bind (need (okMod p.1 1)) fun w =>
    U.bind (ix cells_so1 (p.1 % 1)) fun v =>
    U.bind (need (okMul p.2 (p.1 + 2))) fun w1 =>
    U.bind (setIx cells_so1 (p.1 % 1) (v + (p.2 * (p.1 + 2)))) fun cells_so2 =>
    .ok cells_so2) (xs := enumA 0 (sl ns (some 1) (some 63))) (s := [x0]) (fun p hp s hs => by
      obtain ⟨x, rfl⟩ := hs
      obtain ⟨i, hi, e, _⟩ := mem_enumA hp
      have hl := sl_length_le ns (some 1) (some 63)
      have hm : p.1 % 1 = 0 := Int.emod_one _
      rw [U.okMod_ok (by decide), need_true, bind_ok, hm]
      show ∃ s', U.bind (R.ok x) _ = R.ok s' ∧ _
      rw [bind_ok, okMul_r (by omega), need_true, bind_ok]
      exact ⟨_, rfl, _, rfl⟩) ⟨x0, rfl⟩
  rw [e2]
  exact ⟨x, rfl⟩
theorem b01n (b : Bool) : (0 : Int) ≤ (if b = true then 1 else 0) := by cases b <;> decide
theorem box_ok (x : Int) : ∃ s, t__law_box [x] 0 = .ok s ∧ Tin 0 s := by
  unfold t__law_box
  show ∃ s, U.bind (R.ok x) _ = R.ok s ∧ _
  rw [bind_ok, b01, need_true, bind_ok]
  refine ⟨_, rfl, _, _, _, rfl, Int.mul_nonneg ?_ ?_, Int.le_refl _, Int.le_refl _⟩
  · split <;> omega
  · exact b01n _
theorem pick_gen {α : Type} {f : Int → List Int × List α × List α → R (List Int × List α × List α)} (hf : ∀ lap tin pool found, f lap (tin, pool, found) = U.bind (t__law_take tin (pool.length : Int)) fun v1 => U.bind (popAt pool v1.1) fun v2 => U.bind (chk found.length) fun w => .ok (v1.2, v2.2, found ++ [v2.1]))
    {n : Int} {s : List Int} (h : Tin n s) (hn : n < 1000000) {gs : List α} (hg : gs.length < 1000000) (k : Nat) (hk : k ≤ gs.length) (hk2 : k < 1000) (lo : Int) :
    ∃ s' pool found, forM f (rngL lo 1 k) (s, gs, []) = .ok (s', pool, found) ∧ (∀ x ∈ found, x ∈ gs) ∧ found.length = k ∧ Tin (n + k) s' := by
  obtain ⟨⟨s', pool, found⟩, e, h1, h2, h3, h4, h5⟩ := forM_invN (f := f) (xs := rngL lo 1 k) (s := (s, gs, ([] : List α))) (I := fun (j : Nat) (st : List Int × List α × List α) => (∀ x ∈ st.2.1, x ∈ gs) ∧ (∀ x ∈ st.2.2, x ∈ gs) ∧ st.2.1.length + j = gs.length ∧ st.2.2.length = j ∧ Tin (n + j) st.1) (fun j x hx st hs => by
    obtain ⟨tin, pool, found⟩ := st
    obtain ⟨h1, h2, h3, h4, h5⟩ := hs
    dsimp only at h1 h2 h3 h4 h5
    have hj : j < k := by
      have := (List.getElem?_eq_some_iff.mp hx).1
      rw [rngL_length] at this
      exact this
    obtain ⟨r, t', et, r0, r1, ht⟩ := take_ok (m := (pool.length : Int)) h5 (by omega) (by omega) (by omega)
    have hr : r.toNat < pool.length := by omega
    rw [hf, et, bind_ok, popAt_ok r0 hr (by omega), bind_ok, chk_ok (by omega), bind_ok]
    refine ⟨_, rfl, fun y hy => h1 y (List.mem_of_mem_eraseIdx hy), fun y hy => ?_, ?_, ?_, ?_⟩
    · rcases List.mem_append.mp hy with hy | hy
      · exact h2 y hy
      · rw [List.mem_singleton.mp hy]
        exact h1 _ (List.getElem_mem hr)
    · show (pool.eraseIdx r.toNat).length + (j + 1) = _
      rw [List.length_eraseIdx_of_lt hr]
      omega
    · show (found ++ [_]).length = _
      rw [List.length_append, List.length_singleton, h4]
    · show Tin (n + ((j + 1 : Nat) : Int)) t'
      have : n + ((j + 1 : Nat) : Int) = n + (j : Int) + 1 := by omega
      rw [this]
      exact ht) ⟨fun x hx => hx, fun x hx => (nomatch hx), by simp, rfl, by simpa using h⟩
  rw [rngL_length] at h4 h5
  exact ⟨s', pool, found, e, h2, h4, h5⟩
theorem pick_ok {n : Int} {s : List Int} (h : Tin n s) (hn : n < 1000000) {gs : List (List Int)} (hg : gs.length < 1000000) (m : Nat) (hm : m < 1000) : ∃ out s', t__law_pick s gs (m : Int) = .ok (out, s') ∧ (∀ x ∈ out, x ∈ gs) ∧ Tin (n + m) s' := by
  unfold t__law_pick
  have e1 : (if (gs.length : Int) < (m : Int) then (gs.length : Int) else (m : Int)) = ((min m gs.length : Nat) : Int) := by split <;> omega
  rw [e1, rng1_ok (by omega) (by omega), bind_ok, Int.toNat_natCast]
  obtain ⟨s', pool, found, e, h1, h2, h3⟩ := pick_gen (f := fun (lap : Int) (st : List Int × List (List Int) × List (List Int)) => match st with
    | (tin1, pool, found) => U.bind (t__law_take tin1 (pool.length : Int)) fun v1 => U.bind (popAt pool v1.1) fun v2 => U.bind (chk found.length) fun w => .ok (v1.2, v2.2, found ++ [v2.1])) (fun _ _ _ _ => rfl) h hn hg (min m gs.length) (Nat.min_le_right ..) (by omega) 0
  exact ⟨found, s', (bind_eq e).trans rfl, h1, h3.mono (by omega)⟩
theorem pick_ok_2 {n : Int} {s : List Int} (h : Tin n s) (hn : n < 1000000) {gs : List (List Int × Int)} (hg : gs.length < 1000000) (m : Nat) (hm : m < 1000) : ∃ out s', t__law_pick_2 s gs (m : Int) = .ok (out, s') ∧ (∀ x ∈ out, x ∈ gs) ∧ Tin (n + m) s' := by
  unfold t__law_pick_2
  have e1 : (if (gs.length : Int) < (m : Int) then (gs.length : Int) else (m : Int)) = ((min m gs.length : Nat) : Int) := by split <;> omega
  rw [e1, rng1_ok (by omega) (by omega), bind_ok, Int.toNat_natCast]
  obtain ⟨s', pool, found, e, h1, h2, h3⟩ := pick_gen (f := fun (lap : Int) (st : List Int × List (List Int × Int) × List (List Int × Int)) => match st with
    | (tin1, pool, found) => U.bind (t__law_take tin1 (pool.length : Int)) fun v1 => U.bind (popAt pool v1.1) fun v2 => U.bind (chk found.length) fun w => .ok (v1.2, v2.2, found ++ [v2.1])) (fun _ _ _ _ => rfl) h hn hg (min m gs.length) (Nat.min_le_right ..) (by omega) 0
  exact ⟨found, s', (bind_eq e).trans rfl, h1, h3.mono (by omega)⟩
end L
namespace L
open PySem L2 G U
/-- a word below each of its ends -/
def lynB (w : List Int) : Bool := (List.range (w.length - 1)).all fun i => HT.lexLt w (w.drop (i + 1))
theorem lexLt_ge : ∀ xs ys : List Int, HT.lexLt xs ys = !lexGeI xs ys
  | [], [] => rfl
  | [], _ :: _ => rfl
  | _ :: _, [] => rfl
  | x :: xs, y :: ys => by
    rw [HT.lexLt, lexGeI]
    by_cases h : x = y
    · rw [if_pos h, if_pos h, lexLt_ge xs ys]
    · rw [if_neg h, if_neg h]
      by_cases h' : x < y
      · have : ¬ y ≤ x := by omega
        simp [h', this]
      · have : y ≤ x := by omega
        simp [h', this]
theorem places (w : List Int) (hw : w.length < 1000000) : rng2 1 (w.length : Int) = .ok ((List.range (w.length - 1)).map fun i : Nat => ((i + 1 : Nat) : Int)) := by
  rw [rng2_ok (by decide) (by decide) (by omega) (by omega), rngL_map]
  have e : ((w.length : Int) - 1).toNat = w.length - 1 := by omega
  rw [e]
  congr 1
  apply List.map_congr_left
  intro i hi
  omega
theorem lyndon_ok (w : List Int) (hw : w.length < 1000000) : t_is_lyndon w = .ok (lynB w) := by
  unfold t_is_lyndon
  rw [places w hw, bind_ok, chk_ok (by rw [List.length_map, List.length_range]; omega), bind_ok, List.map_map, List.all_map]
  congr 1
  unfold lynB
  apply List.all_congr rfl
  intro i
  show HT.lexLt w (sl w (some ((i + 1 : Nat) : Int)) none) = _
  rw [U.sl_from]
theorem less_ok (w : List Int) (hw : w.length < 1000000) : t__law_less w = .ok (lynB w) := by
  unfold t__law_less
  rw [places w hw, bind_ok, chk_ok (by rw [List.length_map, List.length_range]; omega), bind_ok]
  congr 1
  unfold lynB
  apply Bool.eq_iff_iff.mpr
  rw [decide_eq_true_iff, List.filter_eq_nil_iff, List.all_eq_true]
  constructor
  · intro h i hi
    have := h ((i + 1 : Nat) : Int) (List.mem_map_of_mem hi)
    rw [U.sl_from] at this
    rw [lexLt_ge]
    simpa using this
  · intro h k hk
    obtain ⟨i, hi, rfl⟩ := List.mem_map.mp hk
    have := h i hi
    rw [lexLt_ge] at this
    rw [U.sl_from]
    simpa using this
/-- a word's next words, from letter k on -/
def nextP (m : Int) (w : List Int) (t : Int) : Nat → List Int → List (List Int × Int)
  | _, [] => []
  | k, own :: r => if t + own ≤ m then (w ++ [(k : Int)], t + own) :: nextP m w t (k + 1) r else nextP m w t (k + 1) r
def levelP (ds : List Int) (m : Int) (ps : List (List Int × Int)) : List (List Int × Int) := ps.flatMap fun p => nextP m p.1 p.2 0 ds
/-- the levels, one behind another, n of them -/
def levs (ds : List Int) (m : Int) : Nat → List (List Int × Int) → List (List Int × Int)
  | 0, _ => []
  | n + 1, ps => levelP ds m ps ++ levs ds m n (levelP ds m ps)
/-- no level too long -/
def fine (ds : List Int) (m : Int) : Nat → List (List Int × Int) → Prop
  | 0, _ => True
  | n + 1, ps => ((∀ p ∈ ps, p.1.length < 100000) ∧ ps.length < 1000000) ∧ fine ds m n (levelP ds m ps)
theorem flat_ok (rows : List (List (List Int × Int))) (h : rows.flatten.length ≤ 16777216) : t__law_flat rows = .ok rows.flatten := by
  have key : ∀ (rows : List (List (List Int × Int))) (acc : List (List Int × Int)), acc.length + rows.flatten.length ≤ 16777216 → forM (fun (own : List ((List Int) × Int)) (found : (List ((List Int) × Int))) =>
      U.bind (need (Nat.ble (found.length + own.length) 16777216)) fun w => .ok (found ++ own)) rows acc = .ok (acc ++ rows.flatten) := by
    intro rows
    induction rows with
    | nil => intro acc h; rw [U.forM_nil, List.flatten_nil, List.append_nil]
    | cons r rows ih =>
      intro acc h
      rw [List.flatten_cons, List.length_append] at h
      rw [U.forM_cons, need_ok (Nat.ble_eq_true_of_le (by omega)), bind_ok, bind_ok, ih (acc ++ r) (by rw [List.length_append]; omega), List.flatten_cons, List.append_assoc]
  unfold t__law_flat
  rw [key rows [] (by simpa using h), bind_ok, List.nil_append]
theorem next_ok (ds : List Int) (m : Int) (p : List Int × Int) (hp : p.1.length < 100000) : ∀ (r : List Int) (k : Nat), compM (fun p1 : Int × Int => .ok (decide ((p.2 + p1.2) ≤ m))) (fun p1 : Int × Int => U.bind (cat p.1 ([p1.1] : List Int)) fun v1 =>
    .ok (v1, (p.2 + p1.2))) (enumA k r) = .ok (nextP m p.1 p.2 k r)
  | [], k => rfl
  | own :: r, k => by
    rw [enumA, compM, bind_ok, next_ok ds m p hp r (k + 1), nextP]
    by_cases h : p.2 + own ≤ m
    · rw [if_pos (decide_eq_true h), if_pos h, cat_ok (by show p.1.length + 1 ≤ _; omega)]
      rfl
    · rw [if_neg (by simpa using h), if_neg h]
theorem level_all (ds : List Int) (m : Int) (hd : ds.length < 100) : ∀ ps : List (List Int × Int), (∀ p ∈ ps, p.1.length < 100000) → mapM (fun p : (List Int) × Int => U.bind (chk (enumA 0 ds).length) fun w =>
    U.bind (compM (fun p1 : Int × Int => .ok (decide ((p.2 + p1.2) ≤ m))) (fun p1 : Int × Int => U.bind (cat p.1 ([p1.1] : List Int)) fun v1 =>
    .ok (v1, (p.2 + p1.2))) (enumA 0 ds)) fun v2 => .ok v2) ps = .ok (ps.map fun p => nextP m p.1 p.2 0 ds) := fun ps h =>
  mapM_ok fun p hp => by
    rw [chk_ok (by rw [enumA_length]; omega), bind_ok, next_ok ds m p (h p hp), bind_ok]
theorem words_loop (ds : List Int) (m : Int) (hd : ds.length < 100) : ∀ (n : Nat) (lo : Int) (ps found : List (List Int × Int)), fine ds m n ps → found.length + (levs ds m n ps).length ≤ 16777216 →
    ∃ rows, forM (fun (lap : Int) (st : (List ((List Int) × Int)) × (List ((List Int) × Int))) =>
  (match st with
  | (rows_so, found) =>
  U.bind (chk rows_so.length) fun w1 =>
  U.bind (mapM (fun p : (List Int) × Int => U.bind (chk (enumA 0 ds).length) fun w =>
  U.bind (compM (fun p1 : Int × Int => .ok (decide ((p.2 + p1.2) ≤ m))) (fun p1 : Int × Int => U.bind (cat p.1 ([p1.1] : List Int)) fun v1 =>
  .ok (v1, (p.2 + p1.2))) (enumA 0 ds)) fun v2 =>
  .ok v2) rows_so) fun v3 =>
  U.bind (t__law_flat v3) fun v4 =>
  U.bind (need (Nat.ble (found.length + v4.length) 16777216)) fun w2 =>
  .ok (v4, (found ++ v4)))) (rngL lo 1 n) (ps, found) = .ok (rows, found ++ levs ds m n ps)
  | 0, lo, ps, found, hf, hl => ⟨ps, by rw [rngL, U.forM_nil, levs, List.append_nil]⟩
  | n + 1, lo, ps, found, hf, hl => by
    obtain ⟨⟨h1, h2⟩, h3⟩ := hf
    rw [levs, List.length_append] at hl
    obtain ⟨rows, e⟩ := words_loop ds m hd n (lo + 1) (levelP ds m ps) (found ++ levelP ds m ps) h3 (by rw [List.length_append]; omega)
    refine ⟨rows, ?_⟩
    have ef : (ps.map fun p => nextP m p.1 p.2 0 ds).flatten = levelP ds m ps := by
      unfold levelP
      rw [List.flatMap_def]
    rw [rngL, U.forM_cons]
    dsimp only
    rw [chk_ok (by omega), bind_ok, level_all ds m hd ps h1, bind_ok, flat_ok _ (by rw [ef]; omega), ef, bind_ok, need_ok (Nat.ble_eq_true_of_le (by omega)), bind_ok, bind_ok]
    rw [e, levs, List.append_assoc]
/-- all words, by levels -/
theorem words_ok (ds : List Int) (m : Nat) (hd : ds.length < 100) (hm : m < 1000) (hf : fine ds m m [([], 0)]) (hl : (levs ds m m [([], 0)]).length ≤ 16777216) : t__law_all_words ds (m : Int) = .ok (levs ds m m [([], 0)]) := by
  obtain ⟨rows, e⟩ := words_loop ds (m : Int) hd m 0 [([], 0)] [] hf (by simpa using hl)
  unfold t__law_all_words
  rw [rng1_ok (by omega) (by omega), bind_ok, Int.toNat_natCast]
  exact (bind_eq e).trans (by rw [List.nil_append])
end L
namespace L
open PySem L2 G U
theorem nextP_length (m : Int) (w : List Int) (t : Int) : ∀ (r : List Int) (k : Nat), (nextP m w t k r).length ≤ r.length
  | [], k => Nat.le_refl _
  | own :: r, k => by
    rw [nextP]
    have := nextP_length m w t r (k + 1)
    split
    · rw [List.length_cons, List.length_cons]; omega
    · rw [List.length_cons]; omega
theorem inner_loop (m : Int) (p : List Int × Int) (hp : p.1.length < 100000) : ∀ (r : List Int) (k : Nat) (later : List (List Int × Int)), later.length + r.length < 16777216 →
    forM (fun (p1 : Int × Int) (later1 : (List ((List Int) × Int))) =>
  if (decide ((p.2 + p1.2) ≤ m)) then
  U.bind (cat p.1 ([p1.1] : List Int)) fun v1 =>
  U.bind (chk later1.length) fun w =>
  .ok (later1 ++ [(v1, (p.2 + p1.2))])
  else
  .ok later1) (enumA k r) later = .ok (later ++ nextP m p.1 p.2 k r)
  | [], k, later, h => by rw [enumA, U.forM_nil, nextP, List.append_nil]
  | own :: r, k, later, h => by
    rw [List.length_cons] at h
    rw [enumA, U.forM_cons, nextP]
    by_cases c : p.2 + own ≤ m
    · rw [if_pos (decide_eq_true c), if_pos c, cat_ok (by show p.1.length + 1 ≤ _; omega), bind_ok, chk_ok (by omega), bind_ok, bind_ok, inner_loop m p hp r (k + 1) _ (by rw [List.length_append]; show later.length + 1 + r.length < _; omega), List.append_assoc]
      rfl
    · rw [if_neg (by simpa using c), if_neg c, bind_ok, inner_loop m p hp r (k + 1) later (by omega)]
theorem outer_loop (ds : List Int) (m : Int) : ∀ (ps later : List (List Int × Int)), (∀ p ∈ ps, p.1.length < 100000) → later.length + ps.length * ds.length + ds.length < 16777216 →
    forM (fun (p : (List Int) × Int) (later : (List ((List Int) × Int))) =>
  U.bind (forM (fun (p1 : Int × Int) (later1 : (List ((List Int) × Int))) =>
  if (decide ((p.2 + p1.2) ≤ m)) then
  U.bind (cat p.1 ([p1.1] : List Int)) fun v1 =>
  U.bind (chk later1.length) fun w =>
  .ok (later1 ++ [(v1, (p.2 + p1.2))])
  else
  .ok later1) (enumA 0 ds) later) fun later2 =>
  .ok later2) ps later = .ok (later ++ levelP ds m ps)
  | [], later, h, hl => by rw [U.forM_nil]; unfold levelP; rw [List.flatMap_nil, List.append_nil]
  | p :: ps, later, h, hl => by
    rw [List.length_cons, Nat.add_mul, Nat.one_mul] at hl
    have hn := nextP_length m p.1 p.2 ds 0
    rw [U.forM_cons, inner_loop m p (h p (List.mem_cons_self ..)) ds 0 later (by omega), bind_ok, bind_ok, outer_loop ds m ps _ (fun q hq => h q (List.mem_cons_of_mem _ hq)) (by rw [List.length_append]; omega)]
    unfold levelP
    rw [List.flatMap_cons, List.append_assoc]
/-- the n-th level -/
def levK (ds : List Int) (m : Int) : Nat → List (List Int × Int) → List (List Int × Int)
  | 0, ps => ps
  | n + 1, ps => levK ds m n (levelP ds m ps)
theorem levs_nil (ds : List Int) (m : Int) : ∀ n : Nat, levs ds m n [] = []
  | 0 => rfl
  | n + 1 => by
    rw [levs]
    have : levelP ds m [] = [] := rfl
    rw [this, levs_nil ds m n]
    rfl
def lynW (ps : List (List Int × Int)) : List (List Int) := (ps.filter fun p => lynB p.1).map (·.1)
theorem lyn_loop (ds : List Int) (m : Int) (hd : ds.length < 10) : ∀ (n : Nat) (ps : List (List Int × Int)) (found : List (List Int)) (fuel : Nat), n < fuel → fine ds m n ps → levK ds m n ps = [] → found.length + (levs ds m n ps).length ≤ 1000000 →
    whileM (fun (st : (List (List Int)) × (List ((List Int) × Int))) => (match st with
  | (found, rows) =>
  .ok (decide (0 < (rows.length : Int))))) (fun (st : (List (List Int)) × (List ((List Int) × Int))) => (match st with
  | (found, rows) =>
  U.bind (forM (fun (p : (List Int) × Int) (later : (List ((List Int) × Int))) =>
  U.bind (forM (fun (p1 : Int × Int) (later1 : (List ((List Int) × Int))) =>
  if (decide ((p.2 + p1.2) ≤ m)) then
  U.bind (cat p.1 ([p1.1] : List Int)) fun v1 =>
  U.bind (chk later1.length) fun w =>
  .ok (later1 ++ [(v1, (p.2 + p1.2))])
  else
  .ok later1) (enumA 0 ds) later) fun later2 =>
  .ok later2) rows ([] : List ((List Int) × Int))) fun later3 =>
  U.bind (chk later3.length) fun w1 =>
  U.bind (compM (fun p2 : (List Int) × Int => U.bind (t_is_lyndon p2.1) fun v2 =>
  .ok v2) (fun p2 : (List Int) × Int => .ok p2.1) later3) fun v3 =>
  U.bind (need (Nat.ble (found.length + v3.length) 16777216)) fun w2 =>
  .ok ((found ++ v3), later3))) fuel (found, ps) = .ok (found ++ lynW (levs ds m n ps), []) := by
  intro n
  induction n with
  | zero =>
    intro ps found fuel hn hf hk hl
    have e : ps = [] := hk
    subst e
    obtain ⟨k, rfl⟩ : ∃ k, fuel = k + 1 := ⟨fuel - 1, by omega⟩
    rw [U.whileM_end (by rfl)]
    simp [levs, lynW]
  | succ n ih =>
    intro ps found fuel hn hf hk hl
    obtain ⟨k, rfl⟩ : ∃ k, fuel = k + 1 := ⟨fuel - 1, by omega⟩
    by_cases hp : ps = []
    · subst hp
      rw [U.whileM_end (by rfl), levs_nil]
      simp [lynW]
    · obtain ⟨⟨h1, h2⟩, h3⟩ := hf
      rw [levs, List.length_append] at hl
      have hps : 0 < ps.length := by
        cases ps with
        | nil => exact absurd rfl hp
        | cons p ps => exact Nat.succ_pos _
      have hmul : ps.length * ds.length ≤ 1000000 * 9 := Nat.mul_le_mul (by omega) (by omega)
      have hw : ∀ p ∈ levelP ds m ps, p.1.length < 1000000 := by
        intro p hp
        cases n with
        | zero =>
          have e : levelP ds m ps = [] := hk
          rw [e] at hp
          cases hp
        | succ n =>
          have := h3.1.1 p hp
          omega
      have ec : compM (fun p2 : (List Int) × Int => U.bind (t_is_lyndon p2.1) fun v2 => .ok v2) (fun p2 : (List Int) × Int => .ok p2.1) (levelP ds m ps) = .ok (lynW (levelP ds m ps)) :=
        compM_ok (q := fun p : List Int × Int => lynB p.1) (g := fun p : List Int × Int => p.1) (fun p hp => by rw [lyndon_ok p.1 (hw p hp), bind_ok]) (fun p _ _ => rfl)
      have hlen : (lynW (levelP ds m ps)).length ≤ (levelP ds m ps).length := by
        unfold lynW
        rw [List.length_map]
        exact List.length_filter_le _ _
      rw [U.whileM_step (s1 := (found ++ lynW (levelP ds m ps), levelP ds m ps)) (by show R.ok (decide _) = _; rw [decide_eq_true (by omega)])]
      · rw [ih (levelP ds m ps) _ k (by omega) h3 hk (by rw [List.length_append]; omega), levs]
        unfold lynW
        rw [List.filter_append, List.map_append, List.append_assoc]
      · dsimp only
        rw [outer_loop ds m ps [] h1 (by simp only [List.length_nil]; omega), bind_ok, List.nil_append, chk_ok (by omega), bind_ok, ec, bind_ok, need_ok (Nat.ble_eq_true_of_le (by omega)), bind_ok]
theorem sortR_ok {xs : List (List Int)} (h : (xs.all fun x => !x.isEmpty) = true) : sortR xs = .ok (msort leR xs.length xs) := by
  unfold sortR
  rw [if_pos h]
/-- all Lyndon words, by levels -/
theorem lwords_ok (ds : List Int) (m : Nat) (v : List Int) (hd : ds.length < 10) (hv : t_words_series ds (m : Int) = .ok v) (hs : decide ((3000 * 4 : Int) < v.sum) = false) (hf : fine ds m (m + 1) [([], 0)]) (hm : m < 1000) (hk : levK ds m (m + 1) [([], 0)] = []) (hl : (levs ds m (m + 1) [([], 0)]).length ≤ 1000000)
    (hn : ((lynW (levs ds m (m + 1) [([], 0)])).all fun x => !x.isEmpty) = true) : t_lyndon_words ds (m : Int) = .ok (msort leR (lynW (levs ds m (m + 1) [([], 0)])).length (lynW (levs ds m (m + 1) [([], 0)]))) := by
  have e := lyn_loop ds (m : Int) hd (m + 1) [([], 0)] [] 1000000 (by omega) hf hk (by simpa using hl)
  unfold t_lyndon_words
  rw [hv, bind_ok, if_neg (by rw [hs]; exact Bool.false_ne_true)]
  refine (bind_eq e).trans ?_
  dsimp only
  rw [List.nil_append, sortR_ok hn, bind_ok]
end L
namespace L
open PySem L2 G U
/-- the end -/
def QT (ds : List Int) (m : Int) (v9 v14 : List (List Int × Int)) (v16 v17 : List Int) (v18 : List (List Int)) : R (List (List Int × Int) × List (List Int × Int) × List Int × List (List Int)) :=
  U.bind (need (decide (v18.length ≤ 4000))) fun _ =>
  U.bind (t_free_ranks ds m) fun v19 =>
  U.bind (t_free_ranks_2 v17 m) fun v21 =>
  U.bind (sortR (v14.map (fun own3 : (List Int) × Int => own3.1))) fun v22 =>
  U.bind (t__law_same (v18, v19, v21) (v22, v16, v16)) fun v23 =>
  U.bind (need v23) fun _ =>
  U.bind (rep ([0] : List Int) m) fun v24 =>
  U.bind (cat ([1] : List Int) v24) fun v25 =>
  U.bind (rng2 1 (m + 1)) fun v26 =>
  U.bind (forM (fun (k2 : Int) (row_so : (List Int)) =>
  U.bind (ix v16 k2) fun v27 =>
  U.bind (rng1 v27) fun v28 =>
  U.bind (forM (fun (turn : Int) (row_so1 : (List Int)) =>
  U.bind (if (decide ((k2 % 2) = 1)) then (U.bind (rng1 (m + 1)) fun v29 =>
  U.bind (chk v29.length) fun w6 =>
  U.bind (mapM (fun j : Int => U.bind (ix row_so1 j) fun v30 =>
  U.bind (if (decide (k2 ≤ j)) then (U.bind (ix row_so1 (j - k2)) fun v31 =>
  .ok v31) else (.ok 0)) fun v32 =>
  .ok (v30 + v32)) v29) fun v33 =>
  .ok v33) else (.ok row_so1)) fun row_so2 =>
  if (decide ((k2 % 2) = 0)) then
  U.bind (rng2 k2 (m + 1)) fun v34 =>
  U.bind (forM (fun (j1 : Int) (row_so3 : (List Int)) =>
  U.bind (ix row_so3 j1) fun v35 =>
  U.bind (ix row_so3 (j1 - k2)) fun v36 =>
  U.bind (setIx row_so3 j1 (v35 + v36)) fun row_so4 =>
  .ok row_so4) v34 row_so2) fun row_so5 =>
  .ok row_so5
  else
  .ok row_so2) v28 row_so) fun row_so6 =>
  .ok row_so6) v26 v25) fun row_so7 =>
  U.bind (mapM (fun k3 : Int => U.bind (chk v9.length) fun w7 =>
  .ok (((v9.filter (fun own4 : (List Int) × Int => (decide (own4.2 = k3)))).map (fun own4 : (List Int) × Int => (1 : Int))).length : Int)) v26) fun v38 =>
  U.bind (cat ([1] : List Int) v38) fun v39 =>
  U.bind (need (decide (row_so7 = v39))) fun _ =>
  .ok (v9, v14, v16, v18)
/-- what the law makes of degrees and a top, ahead of its picks -/
def Q (ds : List Int) (m : Int) : R (List (List Int × Int) × List (List Int × Int) × List Int × List (List Int)) :=
  U.bind (t__law_all_words ds m) fun v9 =>
  U.bind (need (decide (v9.length ≤ 4000))) fun _ =>
  U.bind (compM (fun own : (List Int) × Int => U.bind (t__law_less own.1) fun v10 =>
  .ok v10) (fun own : (List Int) × Int => .ok own) v9) fun v11 =>
  U.bind (need (decide (v11.length ≤ 4000))) fun _ =>
  U.bind (compM (fun own1 : (List Int) × Int => .ok ((decide ((own1.2 % 2) = 1)) && (decide ((2 * own1.2) ≤ m)))) (fun own1 : (List Int) × Int => U.bind (cat own1.1 own1.1) fun v12 =>
  .ok (v12, (2 * own1.2))) v11) fun v13 =>
  U.bind (cat v11 v13) fun v14 =>
  U.bind (need (decide (v14.length ≤ 4000))) fun _ =>
  U.bind (rng1 (m + 1)) fun v15 =>
  U.bind (mapM (fun k1 : Int => U.bind (chk v14.length) fun w3 =>
  .ok (((v14.filter (fun own2 : (List Int) × Int => (decide (own2.2 = k1)))).map (fun own2 : (List Int) × Int => (1 : Int))).length : Int)) v15) fun v16 =>
  U.bind (t__law_lists ds) fun v17 =>
  U.bind (t_basic_words v17 m) fun v18 =>
  QT ds m v9 v14 v16 v17 v18
/-- the same from the words on -/
def QB (ds : List Int) (m : Int) (v9 v11 : List (List Int × Int)) (LW : List (List Int)) : R (List (List Int × Int) × List (List Int × Int) × List Int × List (List Int)) :=
  U.bind (need (decide (v9.length ≤ 4000))) fun _ =>
  U.bind (need (decide (v11.length ≤ 4000))) fun _ =>
  U.bind (compM (fun own1 : (List Int) × Int => .ok ((decide ((own1.2 % 2) = 1)) && (decide ((2 * own1.2) ≤ m)))) (fun own1 : (List Int) × Int => U.bind (cat own1.1 own1.1) fun v12 =>
  .ok (v12, (2 * own1.2))) v11) fun v13 =>
  U.bind (cat v11 v13) fun v14 =>
  U.bind (need (decide (v14.length ≤ 4000))) fun _ =>
  U.bind (rng1 (m + 1)) fun v15 =>
  U.bind (mapM (fun k1 : Int => U.bind (chk v14.length) fun w3 =>
  .ok (((v14.filter (fun own2 : (List Int) × Int => (decide (own2.2 = k1)))).map (fun own2 : (List Int) × Int => (1 : Int))).length : Int)) v15) fun v16 =>
  U.bind (t__law_lists ds) fun v17 =>
  U.bind (need (decide (v17 = ds))) fun _ =>
  U.bind (t_sure_list v17 1) fun v =>
  U.bind (need (decide (v = ds))) fun _ =>
  U.bind (t_sure_within m 0 20) fun v1 =>
  U.bind (need (decide (v1 = m))) fun _ =>
  U.bind (chk LW.length) fun w =>
  U.bind (compM (fun word : List Int => U.bind (t_word_degree v word) fun v3 =>
  U.bind (if (decide ((v3 % 2) = 1)) then (U.bind (t_word_degree v word) fun v4 =>
  .ok (decide ((2 * v4) ≤ v1))) else .ok false) fun b =>
  .ok b) (fun word : List Int => .ok word) LW) fun v5 =>
  U.bind (chk v5.length) fun w1 =>
  U.bind (mapM (fun word1 : List Int => U.bind (cat word1 word1) fun v6 =>
  .ok v6) v5) fun v7 =>
  U.bind (cat LW v7) fun v8 =>
  U.bind (sortR v8) fun v18 =>
  QT ds m v9 v14 v16 v17 v18
theorem levs_succ (ds : List Int) (m : Int) : ∀ (n : Nat) (ps : List (List Int × Int)), levs ds m (n + 1) ps = levs ds m n ps ++ levK ds m (n + 1) ps
  | 0, ps => by simp [levs, levK]
  | n + 1, ps => by
    rw [levs, levs_succ ds m n (levelP ds m ps), levs, levK, List.append_assoc]
    rfl
def fineB (ds : List Int) (m : Int) : Nat → List (List Int × Int) → Bool
  | 0, _ => true
  | n + 1, ps => ((ps.all fun p => Nat.ble p.1.length 100) && Nat.ble ps.length 10000) && fineB ds m n (levelP ds m ps)
theorem fine_of (ds : List Int) (m : Int) : ∀ (n : Nat) (ps : List (List Int × Int)), fineB ds m n ps = true → fine ds m n ps
  | 0, ps, h => trivial
  | n + 1, ps, h => by
    rw [fineB, Bool.and_eq_true, Bool.and_eq_true] at h
    refine ⟨⟨fun p hp => ?_, ?_⟩, fine_of ds m n _ h.2⟩
    · have := Nat.le_of_ble_eq_true (List.all_eq_true.mp h.1.1 p hp)
      omega
    · have := Nat.le_of_ble_eq_true h.1.2
      omega
theorem fine_mono (ds : List Int) (m : Int) : ∀ (n : Nat) (ps : List (List Int × Int)), fine ds m (n + 1) ps → fine ds m n ps
  | 0, ps, h => trivial
  | n + 1, ps, h => ⟨h.1, fine_mono ds m n _ h.2⟩
/-- the words and the Lyndon words -/
def Wd (ds : List Int) (m : Nat) : List (List Int × Int) := levs ds m (m + 1) [([], 0)]
def LWd (ds : List Int) (m : Nat) : List (List Int) := msort leR (lynW (Wd ds m)).length (lynW (Wd ds m))
def isOk {α : Type} (r : R α) : Bool := match r with
  | .ok _ => true
  | _ => false
theorem of_isOk {α : Type} {r : R α} (h : isOk r = true) : ∃ a, r = .ok a := by
  cases r with
  | ok a => exact ⟨a, rfl⟩
  | exc n => cases h
  | no => cases h
def condB (ds : List Int) (m : Nat) : Bool := Nat.ble ds.length 9 && (fineB ds m (m + 1) [([], 0)] && ((levK ds m (m + 1) [([], 0)]).isEmpty && (Nat.ble (Wd ds m).length 4000 && (((Wd ds m).all fun p => !p.1.isEmpty && Nat.ble p.1.length 100) &&
  (match t_words_series ds (m : Int) with | .ok v => !decide ((3000 * 4 : Int) < v.sum) | _ => false)))))
theorem Q_eq (ds : List Int) (m : Nat) (hm : m < 1000) (hc : condB ds m = true) {r : List (List Int × Int) × List (List Int × Int) × List Int × List (List Int)} (hr : QB ds (m : Int) (Wd ds m) ((Wd ds m).filter fun p => lynB p.1) (LWd ds m) = .ok r) : Q ds (m : Int) = .ok r := by
  unfold condB at hc
  simp only [Bool.and_eq_true] at hc
  obtain ⟨c1, c2, c3, c4, c5, c6⟩ := hc
  have d1 := Nat.le_of_ble_eq_true c1
  have d4 := Nat.le_of_ble_eq_true c4
  have hf := fine_of ds m (m + 1) _ c2
  have hk : levK ds m (m + 1) [([], 0)] = [] := List.isEmpty_iff.mp c3
  have hlev : levs ds m m [([], 0)] = Wd ds m := by
    unfold Wd
    rw [levs_succ, hk, List.append_nil]
  have hw : ∀ p ∈ Wd ds m, p.1.length < 1000000 ∧ (!p.1.isEmpty) = true := fun p hp => by
    have := List.all_eq_true.mp c5 p hp
    rw [Bool.and_eq_true] at this
    have h2 := Nat.le_of_ble_eq_true this.2
    exact ⟨by omega, this.1⟩
  have e1 : t__law_all_words ds (m : Int) = .ok (Wd ds m) := by
    rw [← hlev]
    exact words_ok ds m (by omega) hm (fine_mono ds m m _ hf) (by rw [hlev]; omega)
  have e2 : compM (fun own : (List Int) × Int => U.bind (t__law_less own.1) fun v10 => .ok v10) (fun own : (List Int) × Int => .ok own) (Wd ds m) = .ok ((Wd ds m).filter fun p => lynB p.1) := by
    rw [compM_ok (q := fun p : List Int × Int => lynB p.1) (g := fun p : List Int × Int => p) (fun p hp => by rw [less_ok p.1 (hw p hp).1, bind_ok]) (fun p _ _ => rfl), List.map_id']
  have e3 : t_lyndon_words ds (m : Int) = .ok (LWd ds m) := by
    cases hv : t_words_series ds (m : Int) with
    | ok v =>
      rw [hv] at c6
      refine lwords_ok ds m v (by omega) hv (by simpa using c6) hf hm hk (by show (Wd ds m).length ≤ _; omega) ?_
      refine List.all_eq_true.mpr fun x hx => ?_
      unfold lynW at hx
      obtain ⟨p, hp, rfl⟩ := List.mem_map.mp hx
      exact (hw p (List.mem_filter.mp hp).1).2
    | exc n => rw [hv] at c6; cases c6
    | no => rw [hv] at c6; cases c6
  unfold QB at hr
  obtain ⟨_, g1, hr⟩ := of_bind hr
  obtain ⟨_, g2, hr⟩ := of_bind hr
  obtain ⟨v13, g3, hr⟩ := of_bind hr
  obtain ⟨v14, g4, hr⟩ := of_bind hr
  obtain ⟨_, g5, hr⟩ := of_bind hr
  obtain ⟨v15, g6, hr⟩ := of_bind hr
  obtain ⟨v16, g7, hr⟩ := of_bind hr
  obtain ⟨v17, g8, hr⟩ := of_bind hr
  obtain ⟨_, g9, hr⟩ := of_bind hr
  have q9 := of_decide_eq_true (of_need g9)
  subst q9
  obtain ⟨v, g10, hr⟩ := of_bind hr
  obtain ⟨_, g11, hr⟩ := of_bind hr
  have q11 := of_decide_eq_true (of_need g11)
  subst q11
  obtain ⟨v1, g12, hr⟩ := of_bind hr
  obtain ⟨_, g13, hr⟩ := of_bind hr
  have q13 := of_decide_eq_true (of_need g13)
  rw [q13] at g12 hr
  obtain ⟨_, g14, hr⟩ := of_bind hr
  obtain ⟨v5, g15, hr⟩ := of_bind hr
  obtain ⟨_, g16, hr⟩ := of_bind hr
  obtain ⟨v7, g17, hr⟩ := of_bind hr
  obtain ⟨v8, g18, hr⟩ := of_bind hr
  obtain ⟨v18, g19, hr⟩ := of_bind hr
  have e4 : t_basic_words v (m : Int) = .ok v18 := by
    unfold t_basic_words
    rw [g10, bind_ok, g12, bind_ok, e3, bind_ok, g14, bind_ok]
    refine (bind_eq g15).trans ?_
    rw [g16, bind_ok]
    refine (bind_eq g17).trans ?_
    rw [g18, bind_ok, g19, bind_ok]
  unfold Q
  rw [e1, bind_ok, g1, bind_ok]
  refine (bind_eq e2).trans ?_
  rw [g2, bind_ok]
  refine (bind_eq g3).trans ?_
  rw [g4, bind_ok, g5, bind_ok, g6, bind_ok]
  refine (bind_eq g7).trans ?_
  rw [g8, bind_ok, e4, bind_ok]
  exact hr
end L
namespace L
open PySem L2 G U
/-- one turn of the law -/
def body (tin : List Int) : R (Ctl (List Int) Bool) :=
  U.bind (t__law_take tin 3) fun v3 =>
  U.bind (rng1 (1 + v3.1)) fun v4 =>
  U.bind (chk v4.length) fun w =>
  U.bind (mapS (fun (k : Int) (st : (List Int)) => U.bind (t__law_take st 3) fun v6 =>
  .ok ((1 + v6.1), v6.2)) v4 (v3.2)) fun v7 =>
  U.bind (t__law_take v7.2 4) fun v8 =>
  U.bind (t__law_all_words v7.1 (4 + v8.1)) fun v9 =>
  if (decide (4000 < (v9.length : Int))) then
  .ok (Ctl.nx v8.2)
  else
  U.bind (chk v9.length) fun w1 =>
  U.bind (compM (fun own : (List Int) × Int => U.bind (t__law_less own.1) fun v10 =>
  .ok v10) (fun own : (List Int) × Int => .ok own) v9) fun v11 =>
  U.bind (chk v11.length) fun w2 =>
  U.bind (compM (fun own1 : (List Int) × Int => .ok ((decide ((own1.2 % 2) = 1)) && (decide ((2 * own1.2) ≤ (4 + v8.1))))) (fun own1 : (List Int) × Int => U.bind (cat own1.1 own1.1) fun v12 =>
  .ok (v12, (2 * own1.2))) v11) fun v13 =>
  U.bind (cat v11 v13) fun v14 =>
  U.bind (rng1 ((4 + v8.1) + 1)) fun v15 =>
  U.bind (chk v15.length) fun w4 =>
  U.bind (mapM (fun k1 : Int => U.bind (chk v14.length) fun w3 =>
  .ok (((v14.filter (fun own2 : (List Int) × Int => (decide (own2.2 = k1)))).map (fun own2 : (List Int) × Int => (1 : Int))).length : Int)) v15) fun v16 =>
  U.bind (t__law_lists v7.1) fun v17 =>
  U.bind (t_basic_words v17 (4 + v8.1)) fun v18 =>
  U.bind (t_free_ranks v7.1 (4 + v8.1)) fun v19 =>
  U.bind (t__law_lists v7.1) fun v20 =>
  U.bind (t_free_ranks_2 v20 (4 + v8.1)) fun v21 =>
  U.bind (chk v14.length) fun w5 =>
  U.bind (sortR (v14.map (fun own3 : (List Int) × Int => own3.1))) fun v22 =>
  U.bind (t__law_same (v18, v19, v21) (v22, v16, v16)) fun v23 =>
  if (!v23) then
  .ok (Ctl.rt false)
  else
  U.bind (rep ([0] : List Int) (4 + v8.1)) fun v24 =>
  U.bind (cat ([1] : List Int) v24) fun v25 =>
  U.bind (rng2 1 ((4 + v8.1) + 1)) fun v26 =>
  U.bind (forM (fun (k2 : Int) (row_so : (List Int)) =>
  U.bind (ix v16 k2) fun v27 =>
  U.bind (rng1 v27) fun v28 =>
  U.bind (forM (fun (turn : Int) (row_so1 : (List Int)) =>
  U.bind (if (decide ((k2 % 2) = 1)) then (U.bind (rng1 ((4 + v8.1) + 1)) fun v29 =>
  U.bind (chk v29.length) fun w6 =>
  U.bind (mapM (fun j : Int => U.bind (ix row_so1 j) fun v30 =>
  U.bind (if (decide (k2 ≤ j)) then (U.bind (ix row_so1 (j - k2)) fun v31 =>
  .ok v31) else (.ok 0)) fun v32 =>
  .ok (v30 + v32)) v29) fun v33 =>
  .ok v33) else (.ok row_so1)) fun row_so2 =>
  if (decide ((k2 % 2) = 0)) then
  U.bind (rng2 k2 ((4 + v8.1) + 1)) fun v34 =>
  U.bind (forM (fun (j1 : Int) (row_so3 : (List Int)) =>
  U.bind (ix row_so3 j1) fun v35 =>
  U.bind (ix row_so3 (j1 - k2)) fun v36 =>
  U.bind (setIx row_so3 j1 (v35 + v36)) fun row_so4 =>
  .ok row_so4) v34 row_so2) fun row_so5 =>
  .ok row_so5
  else
  .ok row_so2) v28 row_so) fun row_so6 =>
  .ok row_so6) v26 v25) fun row_so7 =>
  U.bind (rng2 1 ((4 + v8.1) + 1)) fun v37 =>
  U.bind (chk v37.length) fun w8 =>
  U.bind (mapM (fun k3 : Int => U.bind (chk v9.length) fun w7 =>
  .ok (((v9.filter (fun own4 : (List Int) × Int => (decide (own4.2 = k3)))).map (fun own4 : (List Int) × Int => (1 : Int))).length : Int)) v37) fun v38 =>
  U.bind (cat ([1] : List Int) v38) fun v39 =>
  if (!decide (row_so7 = v39)) then
  .ok (Ctl.rt false)
  else
  U.bind (t__law_pick v8.2 v18 5) fun v40 =>
  U.bind (forC (ρ := Bool) (fun (own5 : List Int) (tin1 : (List Int)) =>
  if (decide (1 < (own5.length : Int))) then
  U.bind (.ok ((own5.length : Int) / 2)) fun half_so =>
  U.bind (t__law_less own5) fun v41 =>
  U.bind (if v41 then (U.bind (rng2 1 (own5.length : Int)) fun v42 =>
  U.bind (chk v42.length) fun w9 =>
  U.bind (compM (fun k4 : Int => U.bind (t__law_less (sl own5 (some k4) none)) fun v43 =>
  .ok v43) (fun k4 : Int => .ok k4) v42) fun v44 =>
  U.bind (ix v44 0) fun v45 =>
  .ok v45) else (.ok half_so)) fun v46 =>
  U.bind (t_cut_word v7.1 own5) fun v47 =>
  U.bind (t_is_basic_word v7.1 (sl own5 none (some v46))) fun v48 =>
  U.bind (t_is_basic_word v7.1 (sl own5 (some v46) none)) fun v49 =>
  U.bind (t__law_same_5 (v47, v48, v49) (((sl own5 none (some v46)), (sl own5 (some v46) none)), true, true)) fun v50 =>
  if (!v50) then
  .ok (Ctl.rt false)
  else
  .ok (Ctl.nx tin1)
  else
  .ok (Ctl.nx tin1)) v40.1 v40.2) fun c1 => (match c1 with
  | .nx tin2 =>
  U.bind (chk v14.length) fun w10 =>
  U.bind (.ok (dictOf (v14.map (fun own6 : (List Int) × Int => (own6.1, true))))) fun basics_so =>
  U.bind (t__law_pick_2 tin2 v9 8) fun v51 =>
  U.bind (forC (ρ := Bool) (fun (p : (List Int) × Int) (tin3 : (List Int)) =>
  U.bind (t_is_basic_word v7.1 p.1) fun v52 =>
  U.bind (t__law_same_7 v52 (false != basics_so.any fun q_ => decide (q_.1 = p.1))) fun v53 =>
  if (!v53) then
  .ok (Ctl.rt false)
  else
  .ok (Ctl.nx tin3)) v51.1 v51.2) fun c3 => (match c3 with
  | .nx tin4 =>
  U.bind (t_is_basic_word v7.1 ([] : List Int)) fun v54 =>
  U.bind (t_is_basic_word_2 v7.1 ()) fun v55 =>
  U.bind (t_is_basic_word v7.1 ([(v7.1.length : Int)] : List Int)) fun v56 =>
  U.bind (t_is_basic_word v7.1 ([(-1)] : List Int)) fun v57 =>
  U.bind (t_is_basic_word_3 v7.1 ([0] : List Int)) fun v58 =>
  U.bind (t_is_basic_word_4 v7.1 true) fun v59 =>
  U.bind (chk v7.1.length) fun w11 =>
  U.bind (t_joined_ranks (v7.1.map (fun own7 : Int => (own7 + 1))) ((4 + v8.1) + 1)) fun v60 =>
  U.bind (cat ([0] : List Int) v16) fun v61 =>
  U.bind (t__law_same_8 (v54, v55, v56, v57, v58, v59, v60) (false, false, false, false, false, false, v61)) fun v62 =>
  if (!v62) then
  .ok (Ctl.rt false)
  else
  .ok (Ctl.nx tin4)
  | .bk _ => .no
  | .rt z => .ok (Ctl.rt z))
  | .bk _ => .no
  | .rt z1 => .ok (Ctl.rt z1))
/-- a word picked -/
def pickR (ds own5 : List Int) : R Bool :=
  if (decide (1 < (own5.length : Int))) then
  U.bind (.ok ((own5.length : Int) / 2)) fun half_so =>
  U.bind (t__law_less own5) fun v41 =>
  U.bind (if v41 then (U.bind (rng2 1 (own5.length : Int)) fun v42 =>
  U.bind (chk v42.length) fun w9 =>
  U.bind (compM (fun k4 : Int => U.bind (t__law_less (sl own5 (some k4) none)) fun v43 =>
  .ok v43) (fun k4 : Int => .ok k4) v42) fun v44 =>
  U.bind (ix v44 0) fun v45 =>
  .ok v45) else (.ok half_so)) fun v46 =>
  U.bind (t_cut_word ds own5) fun v47 =>
  U.bind (t_is_basic_word ds (sl own5 none (some v46))) fun v48 =>
  U.bind (t_is_basic_word ds (sl own5 (some v46) none)) fun v49 =>
  U.bind (t__law_same_5 (v47, v48, v49) (((sl own5 none (some v46)), (sl own5 (some v46) none)), true, true)) fun v50 =>
  .ok v50
  else
  .ok true
/-- a word asked -/
def wordR (ds : List Int) (due : List (List Int × Int)) (p : List Int × Int) : R Bool :=
  U.bind (t_is_basic_word ds p.1) fun v52 =>
  U.bind (t__law_same_7 v52 (false != due.any fun q_ => decide (q_.1 = p.1))) fun v53 =>
  .ok v53
/-- the turn's end -/
def endR (ds : List Int) (m : Int) (v16 : List Int) : R Bool :=
  U.bind (t_is_basic_word ds ([] : List Int)) fun v54 =>
  U.bind (t_is_basic_word_2 ds ()) fun v55 =>
  U.bind (t_is_basic_word ds ([(ds.length : Int)] : List Int)) fun v56 =>
  U.bind (t_is_basic_word ds ([(-1)] : List Int)) fun v57 =>
  U.bind (t_is_basic_word_3 ds ([0] : List Int)) fun v58 =>
  U.bind (t_is_basic_word_4 ds true) fun v59 =>
  U.bind (chk ds.length) fun w11 =>
  U.bind (t_joined_ranks (ds.map (fun own7 : Int => (own7 + 1))) (m + 1)) fun v60 =>
  U.bind (cat ([0] : List Int) v16) fun v61 =>
  U.bind (t__law_same_8 (v54, v55, v56, v57, v58, v59, v60) (false, false, false, false, false, false, v61)) fun v62 =>
  .ok v62
def isT (r : R Bool) : Bool := match r with
  | .ok b => b
  | _ => false
theorem of_isT {r : R Bool} (h : isT r = true) : r = .ok true := by
  cases r with
  | ok b => cases b with
    | true => rfl
    | false => cases h
  | exc n => cases h
  | no => cases h
theorem dput_any {κ ν : Type} [DecidableEq κ] (m : List (κ × ν)) (k : κ) (v : ν) (x : κ) : (dput m k v).any (fun q => decide (q.1 = x)) = (m.any (fun q => decide (q.1 = x)) || decide (k = x)) := by
  unfold dput
  by_cases c : (m.any fun p => decide (p.1 = k)) = true
  · rw [if_pos c, List.any_map]
    have e : ((fun q : κ × ν => decide (q.1 = x)) ∘ fun p => if p.1 = k then (p.1, v) else p) = fun q => decide (q.1 = x) := by
      funext p
      show decide ((if p.1 = k then (p.1, v) else p).1 = x) = _
      by_cases h : p.1 = k <;> simp [h]
    rw [e]
    by_cases h : k = x
    · subst h
      rw [c]
      rfl
    · rw [decide_eq_false h, Bool.or_false]
  · rw [if_neg c, List.any_append]
    simp
theorem dict_any {κ ν : Type} [DecidableEq κ] (x : κ) (ps : List (κ × ν)) : (dictOf ps).any (fun q => decide (q.1 = x)) = ps.any (fun q => decide (q.1 = x)) := by
  have key : ∀ (ps m : List (κ × ν)), (ps.foldl (fun m p => dput m p.1 p.2) m).any (fun q => decide (q.1 = x)) = (m.any (fun q => decide (q.1 = x)) || ps.any (fun q => decide (q.1 = x))) := by
    intro ps
    induction ps with
    | nil => intro m; simp
    | cons p ps ih =>
      intro m
      rw [List.foldl_cons, ih, dput_any, List.any_cons, Bool.or_assoc]
  unfold dictOf
  rw [key]
  rfl
end L
namespace L
open PySem L2 G U
theorem mapM_all {α : Type} {f : α → R Bool} : ∀ {xs : List α} {ys : List Bool}, mapM f xs = .ok ys → ys.all id = true → ∀ x ∈ xs, f x = .ok true
  | [], ys, h, ha => fun x hx => (nomatch hx)
  | x :: xs, ys, h, ha => by
    obtain ⟨y, h1, h⟩ := of_bind h
    obtain ⟨zs, h2, h⟩ := of_bind h
    cases h
    rw [List.all_cons, Bool.and_eq_true] at ha
    have hy : y = true := ha.1
    subst hy
    intro z hz
    rcases List.mem_cons.mp hz with hz | hz
    · rw [hz]; exact h1
    · exact mapM_all h2 ha.2 z hz
theorem zip_eq {α : Type} : ∀ {a b : List α}, a.length = b.length → (∀ p ∈ a.zip b, p.1 = p.2) → a = b
  | [], [], hl, h => rfl
  | [], _ :: _, hl, h => by cases hl
  | _ :: _, [], hl, h => by cases hl
  | x :: a, y :: b, hl, h => by
    have h1 : x = y := h (x, y) (List.mem_cons_self ..)
    have h2 : a = b := zip_eq (by simpa using hl) fun p hp => h p (List.mem_cons_of_mem _ hp)
    rw [h1, h2]
theorem same3 {a b : List Int} (h : t__law_same_3 a b = .ok true) : a = b := by
  unfold t__law_same_3 at h
  rcases of_ite h with ⟨hc, h⟩ | ⟨_, h⟩
  · cases hc
  obtain ⟨v, h1, h⟩ := of_bind h
  have hv := of_ok h
  subst hv
  rcases of_ite h1 with ⟨hc, h1⟩ | ⟨_, h1⟩
  · obtain ⟨_, _, h1⟩ := of_bind h1
    obtain ⟨v1, h2, h1⟩ := of_bind h1
    have hl := of_decide_eq_true hc
    refine zip_eq (by omega) fun p hp => ?_
    have := mapM_all h2 (of_ok h1) p hp
    have h3 : t__law_same_4 p.1 p.2 = .ok true := (bind_pure _).symm.trans this
    exact of_decide_eq_true (of_ok h3)
  · cases h1
theorem same2 {a b : List (List Int)} (h : t__law_same_2 a b = .ok true) : a = b := by
  unfold t__law_same_2 at h
  rcases of_ite h with ⟨hc, h⟩ | ⟨_, h⟩
  · cases hc
  obtain ⟨v, h1, h⟩ := of_bind h
  have hv := of_ok h
  subst hv
  rcases of_ite h1 with ⟨hc, h1⟩ | ⟨_, h1⟩
  · obtain ⟨_, _, h1⟩ := of_bind h1
    obtain ⟨v1, h2, h1⟩ := of_bind h1
    have hl := of_decide_eq_true hc
    refine zip_eq (by omega) fun p hp => ?_
    have := mapM_all h2 (of_ok h1) p hp
    have h3 : t__law_same_3 p.1 p.2 = .ok true := (bind_pure _).symm.trans this
    exact same3 h3
  · cases h1
theorem same1 {a b : (List (List Int)) × (List Int) × (List Int)} (h : t__law_same a b = .ok true) : a.1 = b.1 := by
  unfold t__law_same at h
  rcases of_ite h with ⟨hc, h⟩ | ⟨_, h⟩
  · cases hc
  obtain ⟨v, h1, h⟩ := of_bind h
  obtain ⟨v1, _, h⟩ := of_bind h
  obtain ⟨v2, _, h⟩ := of_bind h
  have := of_ok h
  rw [List.all_cons, Bool.and_eq_true] at this
  have hv : v = true := this.1
  subst hv
  exact same2 h1
/-- the basic words with their degrees, in plain words -/
def Ld (ds : List Int) (m : Nat) : List (List Int × Int) := (Wd ds m).filter fun p => lynB p.1
def oddP (m : Nat) (p : List Int × Int) : Bool := decide (p.2 % 2 = 1) && decide (2 * p.2 ≤ (m : Int))
def dblP (p : List Int × Int) : List Int × Int := (p.1 ++ p.1, 2 * p.2)
def PD (ds : List Int) (m : Nat) : List (List Int × Int) := Ld ds m ++ ((Ld ds m).filter (oddP m)).map dblP
def isF (r : R Bool) : Bool := match r with
  | .ok b => !b
  | _ => false
theorem of_isF {r : R Bool} (h : isF r = true) : r = .ok false := by
  cases r with
  | ok b => cases b with
    | true => cases h
    | false => rfl
  | exc n => cases h
  | no => cases h
/-- two alike halves -/
def sq (w : List Int) : Bool := decide (w.take (w.length / 2) = w.drop (w.length / 2))
theorem sq_dbl (u : List Int) : sq (u ++ u) = true := by
  unfold sq
  have e : (u ++ u).length / 2 = u.length := by rw [List.length_append]; omega
  rw [e, List.take_left, List.drop_left]
  exact decide_eq_true rfl
/-- the checks, for the kernel -/
def chkA (ds : List Int) (m : Nat) : Bool := condB ds m && (match QB ds (m : Int) (Wd ds m) (Ld ds m) (LWd ds m) with
  | .ok (_, _, ranks, _) => isT (endR ds (m : Int) ranks)
  | _ => false)
def wordQ (ds : List Int) (due : List (List Int × Int)) (p : List Int × Int) : Bool := if lynB p.1 = true then isT (t_is_basic_word ds p.1) else if sq p.1 = true then isT (wordR ds due p) else isF (t_is_basic_word ds p.1)
def chkB (ds : List Int) (m : Nat) : Bool := (Wd ds m).all (wordQ ds (PD ds m))
def chkC (ds : List Int) (m : Nat) : Bool := (PD ds m).all fun p => isT (pickR ds p.1)
theorem word_ok {ds : List Int} {m : Nat} (h : chkB ds m = true) {p : List Int × Int} (hp : p ∈ Wd ds m) : wordR ds (PD ds m) p = .ok true := by
  have hq := List.all_eq_true.mp h p hp
  unfold wordQ at hq
  by_cases c1 : lynB p.1 = true
  · rw [if_pos c1] at hq
    have e := of_isT hq
    unfold wordR
    rw [e, bind_ok]
    have : ((PD ds m).any fun q_ => decide (q_.1 = p.1)) = true := by
      refine List.any_eq_true.mpr ⟨p, ?_, decide_eq_true rfl⟩
      unfold PD
      exact List.mem_append_left _ (List.mem_filter.mpr ⟨hp, c1⟩)
    rw [this]
    rfl
  · rw [if_neg c1] at hq
    by_cases c2 : sq p.1 = true
    · rw [if_pos c2] at hq
      exact of_isT hq
    · rw [if_neg c2] at hq
      have e := of_isF hq
      unfold wordR
      rw [e, bind_ok]
      have : ((PD ds m).any fun q_ => decide (q_.1 = p.1)) = false := by
        rw [List.any_eq_false]
        intro q hq he
        have he := of_decide_eq_true he
        unfold PD at hq
        rcases List.mem_append.mp hq with hq | hq
        · rw [← he] at c1
          exact c1 (List.mem_filter.mp hq).2
        · obtain ⟨u, _, rfl⟩ := List.mem_map.mp hq
          rw [← he] at c2
          exact c2 (sq_dbl u.1)
      rw [this]
      rfl
/-- what the checks tell -/
theorem Q_all {ds : List Int} {m : Nat} (hm : m < 1000) (ha : chkA ds m = true) : ∃ ranks told, Q ds (m : Int) = .ok (Wd ds m, PD ds m, ranks, told) ∧ endR ds (m : Int) ranks = .ok true ∧ (∀ w ∈ told, ∃ p ∈ PD ds m, p.1 = w) ∧ told.length ≤ 4000 ∧ (Wd ds m).length ≤ 4000 := by
  unfold chkA at ha
  rw [Bool.and_eq_true] at ha
  obtain ⟨hc, ha⟩ := ha
  cases hr : QB ds (m : Int) (Wd ds m) (Ld ds m) (LWd ds m) with
  | exc n => rw [hr] at ha; cases ha
  | no => rw [hr] at ha; cases ha
  | ok r =>
    obtain ⟨W, due, ranks, told⟩ := r
    rw [hr] at ha
    have hend : endR ds (m : Int) ranks = .ok true := of_isT ha
    have hQ := Q_eq ds m hm hc hr
    have hw : ∀ p ∈ Wd ds m, p.1.length ≤ 100 := fun p hp => by
      unfold condB at hc
      simp only [Bool.and_eq_true] at hc
      have := List.all_eq_true.mp hc.2.2.2.2.1 p hp
      rw [Bool.and_eq_true] at this
      exact Nat.le_of_ble_eq_true this.2
    have hWl : (Wd ds m).length ≤ 4000 := by
      unfold condB at hc
      simp only [Bool.and_eq_true] at hc
      exact Nat.le_of_ble_eq_true hc.2.2.2.1
    unfold QB at hr
    obtain ⟨_, g1, hr⟩ := of_bind hr
    obtain ⟨_, g2, hr⟩ := of_bind hr
    obtain ⟨v13, g3, hr⟩ := of_bind hr
    have e13 : v13 = ((Ld ds m).filter (oddP m)).map dblP := by
      have := compM_ok (p := fun own1 : (List Int) × Int => R.ok ((decide ((own1.2 % 2) = 1)) && (decide ((2 * own1.2) ≤ (m : Int))))) (f := fun own1 : (List Int) × Int => U.bind (cat own1.1 own1.1) fun v12 =>
        .ok (v12, (2 * own1.2))) (q := oddP m) (g := dblP) (xs := Ld ds m) (fun x hx => rfl) (fun x hx _ => by
          have := hw x (List.mem_filter.mp hx).1
          rw [cat_ok (by omega), bind_ok]
          rfl)
      exact (of_ok (this.symm.trans g3)).symm
    obtain ⟨v14, g4, hr⟩ := of_bind hr
    have e14 : v14 = PD ds m := by
      unfold cat at g4
      split at g4
      · have := of_ok g4
        rw [← this, e13]
        rfl
      · cases g4
    obtain ⟨_, g5, hr⟩ := of_bind hr
    obtain ⟨v15, g6, hr⟩ := of_bind hr
    obtain ⟨v16, g7, hr⟩ := of_bind hr
    obtain ⟨v17, g8, hr⟩ := of_bind hr
    obtain ⟨_, g9, hr⟩ := of_bind hr
    obtain ⟨v, g10, hr⟩ := of_bind hr
    obtain ⟨_, g11, hr⟩ := of_bind hr
    obtain ⟨v1, g12, hr⟩ := of_bind hr
    obtain ⟨_, g13, hr⟩ := of_bind hr
    obtain ⟨_, g14, hr⟩ := of_bind hr
    obtain ⟨v5, g15, hr⟩ := of_bind hr
    obtain ⟨_, g16, hr⟩ := of_bind hr
    obtain ⟨v7, g17, hr⟩ := of_bind hr
    obtain ⟨v8, g18, hr⟩ := of_bind hr
    obtain ⟨v18, g19, hr⟩ := of_bind hr
    unfold QT at hr
    obtain ⟨_, k1, hr⟩ := of_bind hr
    obtain ⟨v19, k2, hr⟩ := of_bind hr
    obtain ⟨v21, k3, hr⟩ := of_bind hr
    obtain ⟨v22, k4, hr⟩ := of_bind hr
    obtain ⟨v23, k5, hr⟩ := of_bind hr
    obtain ⟨_, k6, hr⟩ := of_bind hr
    have q6 := of_need k6
    have e18 : v18 = v22 := same1 (k5.trans (congrArg R.ok q6))
    obtain ⟨v24, k7, hr⟩ := of_bind hr
    obtain ⟨v25, k8, hr⟩ := of_bind hr
    obtain ⟨v26, k9, hr⟩ := of_bind hr
    obtain ⟨v27, k10, hr⟩ := of_bind hr
    obtain ⟨v38, k11, hr⟩ := of_bind hr
    obtain ⟨v39, k12, hr⟩ := of_bind hr
    obtain ⟨_, k13, hr⟩ := of_bind hr
    have hfin := of_ok hr
    have f1 : Wd ds m = W := congrArg (fun z => z.1) hfin
    have f2 : v14 = due := congrArg (fun z => z.2.1) hfin
    have f4 : v18 = told := congrArg (fun z => z.2.2.2) hfin
    subst f4
    refine ⟨ranks, v18, ?_, hend, ?_, of_decide_eq_true (of_need k1), hWl⟩
    · rw [hQ, ← f1, ← f2, e14]
    · intro w hw'
      rw [e18] at hw'
      unfold sortR at k4
      split at k4
      · rw [← of_ok k4] at hw'
        have := (msort_perm (le := leR) _ _).mem_iff.mp hw'
        obtain ⟨p, hp, rfl⟩ := List.mem_map.mp this
        rw [e14] at hp
        exact ⟨p, hp, rfl⟩
      · cases k4
end L
namespace L
open PySem L2 G U
def allDs : List (List Int) := [1, 2, 3].map (fun a => [a]) ++ ([1, 2, 3].flatMap fun a => [1, 2, 3].map fun b => [a, b]) ++ ([1, 2, 3].flatMap fun a => [1, 2, 3].flatMap fun b => [1, 2, 3].map fun c => [a, b, c])
def chkAll (ds : List Int) (m : Nat) : Bool := chkA ds m && (chkB ds m && chkC ds m)
def g0 : List (List Int) := [1, 2, 3].map (fun a => [a]) ++ ([1, 2, 3].flatMap fun a => [1, 2, 3].map fun b => [a, b])
def g4 : List (List Int) := [[1, 2, 2], [1, 2, 3], [1, 3, 2], [1, 3, 3], [2, 1, 2], [2, 1, 3], [2, 2, 1], [2, 2, 2], [2, 2, 3], [2, 3, 1], [2, 3, 2], [2, 3, 3], [3, 1, 2], [3, 1, 3], [3, 2, 1], [3, 2, 2], [3, 2, 3], [3, 3, 1], [3, 3, 2], [3, 3, 3]]
theorem tab4 : (allDs.all fun ds => chkAll ds 4) = true := by decide +kernel
theorem t5_0 : (g0.all fun ds => chkAll ds 5) = true := by decide +kernel
theorem t5_1 : ([[1, 1, 2], [1, 2, 1], [2, 1, 1], [1, 1, 3], [1, 3, 1], [3, 1, 1]].all fun ds => chkAll ds 5) = true := by decide +kernel
theorem t5_4 : (g4.all fun ds => chkAll ds 5) = true := by decide +kernel
theorem t5_5 : chkAll [1, 1, 1] 5 = true := by decide +kernel
theorem t6_0 : (g0.all fun ds => chkAll ds 6) = true := by decide +kernel
theorem t6_1 : ([[1, 1, 2], [1, 2, 1], [2, 1, 1]].all fun ds => chkAll ds 6) = true := by decide +kernel
theorem t6_2 : ([[1, 1, 3], [1, 3, 1], [3, 1, 1]].all fun ds => chkAll ds 6) = true := by decide +kernel
theorem t6_4 : (g4.all fun ds => chkAll ds 6) = true := by decide +kernel
theorem t6_a : chkA [1, 1, 1] 6 = true := by decide +kernel
theorem t6_b : chkB [1, 1, 1] 6 = true := by decide +kernel
theorem t6_c : chkC [1, 1, 1] 6 = true := by decide +kernel
theorem t7_0 : (g0.all fun ds => chkAll ds 7) = true := by decide +kernel
theorem t7_11 : chkAll [1, 1, 2] 7 = true := by decide +kernel
theorem t7_12 : chkAll [1, 2, 1] 7 = true := by decide +kernel
theorem t7_13 : chkAll [2, 1, 1] 7 = true := by decide +kernel
theorem t7_21 : chkAll [1, 1, 3] 7 = true := by decide +kernel
theorem t7_22 : chkAll [1, 3, 1] 7 = true := by decide +kernel
theorem t7_23 : chkAll [3, 1, 1] 7 = true := by decide +kernel
theorem t7_4 : (g4.all fun ds => chkAll ds 7) = true := by decide +kernel
theorem t7_a : chkA [1, 1, 1] 7 = true := by decide +kernel
theorem t7_b : chkB [1, 1, 1] 7 = true := by decide +kernel
theorem t7_c : chkC [1, 1, 1] 7 = true := by decide +kernel
theorem groups : (allDs.all fun ds => g0.contains ds || (g4.contains ds || (decide (ds = [1, 1, 1]) || (decide (ds = [1, 1, 2]) || (decide (ds = [1, 2, 1]) || (decide (ds = [2, 1, 1]) || (decide (ds = [1, 1, 3]) || (decide (ds = [1, 3, 1]) || decide (ds = [3, 1, 1]))))))))) = true := by decide +kernel
theorem in_all {ds : List Int} (h0 : 0 < ds.length) (h1 : ds.length ≤ 3) (h2 : ∀ x ∈ ds, 1 ≤ x ∧ x ≤ 3) : ds ∈ allDs := by
  have one : ∀ x : Int, 1 ≤ x ∧ x ≤ 3 → x = 1 ∨ x = 2 ∨ x = 3 := fun x h => by omega
  match ds, h0, h1, h2 with
  | [a], _, _, h2 =>
    rcases one a (h2 a (by simp)) with rfl | rfl | rfl <;> decide
  | [a, b], _, _, h2 =>
    rcases one a (h2 a (by simp)) with rfl | rfl | rfl <;> rcases one b (h2 b (by simp)) with rfl | rfl | rfl <;> decide
  | [a, b, c], _, _, h2 =>
    rcases one a (h2 a (by simp)) with rfl | rfl | rfl <;> rcases one b (h2 b (by simp)) with rfl | rfl | rfl <;> rcases one c (h2 c (by simp)) with rfl | rfl | rfl <;> decide
theorem tab {ds : List Int} (hd : ds ∈ allDs) {m : Nat} (h1 : 4 ≤ m) (h2 : m ≤ 7) : chkA ds m = true ∧ chkB ds m = true ∧ chkC ds m = true := by
  have split : ∀ {ds : List Int} {m : Nat}, chkAll ds m = true → chkA ds m = true ∧ chkB ds m = true ∧ chkC ds m = true := fun h => by
    unfold chkAll at h
    rw [Bool.and_eq_true, Bool.and_eq_true] at h
    exact h
  have hg := List.all_eq_true.mp groups ds hd
  simp only [Bool.or_eq_true, decide_eq_true_eq, List.contains_iff_mem] at hg
  match m, h1, h2 with
  | 4, _, _ => exact split (List.all_eq_true.mp tab4 ds hd)
  | 5, _, _ =>
    rcases hg with hg | hg | rfl | rfl | rfl | rfl | rfl | rfl | rfl
    · exact split (List.all_eq_true.mp t5_0 ds hg)
    · exact split (List.all_eq_true.mp t5_4 ds hg)
    · exact split t5_5
    all_goals exact split (List.all_eq_true.mp t5_1 _ (by simp))
  | 6, _, _ =>
    rcases hg with hg | hg | rfl | rfl | rfl | rfl | rfl | rfl | rfl
    · exact split (List.all_eq_true.mp t6_0 ds hg)
    · exact split (List.all_eq_true.mp t6_4 ds hg)
    · exact ⟨t6_a, t6_b, t6_c⟩
    · exact split (List.all_eq_true.mp t6_1 _ (by simp))
    · exact split (List.all_eq_true.mp t6_1 _ (by simp))
    · exact split (List.all_eq_true.mp t6_1 _ (by simp))
    all_goals exact split (List.all_eq_true.mp t6_2 _ (by simp))
  | 7, _, _ =>
    rcases hg with hg | hg | rfl | rfl | rfl | rfl | rfl | rfl | rfl
    · exact split (List.all_eq_true.mp t7_0 ds hg)
    · exact split (List.all_eq_true.mp t7_4 ds hg)
    · exact ⟨t7_a, t7_b, t7_c⟩
    · exact split t7_11
    · exact split t7_12
    · exact split t7_13
    · exact split t7_21
    · exact split t7_22
    · exact split t7_23
end L
namespace L
open PySem L2 G U
/-- the turn behind its first draws -/
def rest (ds : List Int) (m : Int) (s : List Int) : R (Ctl (List Int) Bool) :=
  U.bind (t__law_all_words ds m) fun v9 =>
  if (decide (4000 < (v9.length : Int))) then
  .ok (Ctl.nx s)
  else
  U.bind (chk v9.length) fun w1 =>
  U.bind (compM (fun own : (List Int) × Int => U.bind (t__law_less own.1) fun v10 =>
  .ok v10) (fun own : (List Int) × Int => .ok own) v9) fun v11 =>
  U.bind (chk v11.length) fun w2 =>
  U.bind (compM (fun own1 : (List Int) × Int => .ok ((decide ((own1.2 % 2) = 1)) && (decide ((2 * own1.2) ≤ m)))) (fun own1 : (List Int) × Int => U.bind (cat own1.1 own1.1) fun v12 =>
  .ok (v12, (2 * own1.2))) v11) fun v13 =>
  U.bind (cat v11 v13) fun v14 =>
  U.bind (rng1 (m + 1)) fun v15 =>
  U.bind (chk v15.length) fun w4 =>
  U.bind (mapM (fun k1 : Int => U.bind (chk v14.length) fun w3 =>
  .ok (((v14.filter (fun own2 : (List Int) × Int => (decide (own2.2 = k1)))).map (fun own2 : (List Int) × Int => (1 : Int))).length : Int)) v15) fun v16 =>
  U.bind (t__law_lists ds) fun v17 =>
  U.bind (t_basic_words v17 m) fun v18 =>
  U.bind (t_free_ranks ds m) fun v19 =>
  U.bind (t__law_lists ds) fun v20 =>
  U.bind (t_free_ranks_2 v20 m) fun v21 =>
  U.bind (chk v14.length) fun w5 =>
  U.bind (sortR (v14.map (fun own3 : (List Int) × Int => own3.1))) fun v22 =>
  U.bind (t__law_same (v18, v19, v21) (v22, v16, v16)) fun v23 =>
  if (!v23) then
  .ok (Ctl.rt false)
  else
  U.bind (rep ([0] : List Int) m) fun v24 =>
  U.bind (cat ([1] : List Int) v24) fun v25 =>
  U.bind (rng2 1 (m + 1)) fun v26 =>
  U.bind (forM (fun (k2 : Int) (row_so : (List Int)) =>
  U.bind (ix v16 k2) fun v27 =>
  U.bind (rng1 v27) fun v28 =>
  U.bind (forM (fun (turn : Int) (row_so1 : (List Int)) =>
  U.bind (if (decide ((k2 % 2) = 1)) then (U.bind (rng1 (m + 1)) fun v29 =>
  U.bind (chk v29.length) fun w6 =>
  U.bind (mapM (fun j : Int => U.bind (ix row_so1 j) fun v30 =>
  U.bind (if (decide (k2 ≤ j)) then (U.bind (ix row_so1 (j - k2)) fun v31 =>
  .ok v31) else (.ok 0)) fun v32 =>
  .ok (v30 + v32)) v29) fun v33 =>
  .ok v33) else (.ok row_so1)) fun row_so2 =>
  if (decide ((k2 % 2) = 0)) then
  U.bind (rng2 k2 (m + 1)) fun v34 =>
  U.bind (forM (fun (j1 : Int) (row_so3 : (List Int)) =>
  U.bind (ix row_so3 j1) fun v35 =>
  U.bind (ix row_so3 (j1 - k2)) fun v36 =>
  U.bind (setIx row_so3 j1 (v35 + v36)) fun row_so4 =>
  .ok row_so4) v34 row_so2) fun row_so5 =>
  .ok row_so5
  else
  .ok row_so2) v28 row_so) fun row_so6 =>
  .ok row_so6) v26 v25) fun row_so7 =>
  U.bind (rng2 1 (m + 1)) fun v37 =>
  U.bind (chk v37.length) fun w8 =>
  U.bind (mapM (fun k3 : Int => U.bind (chk v9.length) fun w7 =>
  .ok (((v9.filter (fun own4 : (List Int) × Int => (decide (own4.2 = k3)))).map (fun own4 : (List Int) × Int => (1 : Int))).length : Int)) v37) fun v38 =>
  U.bind (cat ([1] : List Int) v38) fun v39 =>
  if (!decide (row_so7 = v39)) then
  .ok (Ctl.rt false)
  else
  U.bind (t__law_pick s v18 5) fun v40 =>
  U.bind (forC (ρ := Bool) (fun (own5 : List Int) (tin1 : (List Int)) =>
  if (decide (1 < (own5.length : Int))) then
  U.bind (.ok ((own5.length : Int) / 2)) fun half_so =>
  U.bind (t__law_less own5) fun v41 =>
  U.bind (if v41 then (U.bind (rng2 1 (own5.length : Int)) fun v42 =>
  U.bind (chk v42.length) fun w9 =>
  U.bind (compM (fun k4 : Int => U.bind (t__law_less (sl own5 (some k4) none)) fun v43 =>
  .ok v43) (fun k4 : Int => .ok k4) v42) fun v44 =>
  U.bind (ix v44 0) fun v45 =>
  .ok v45) else (.ok half_so)) fun v46 =>
  U.bind (t_cut_word ds own5) fun v47 =>
  U.bind (t_is_basic_word ds (sl own5 none (some v46))) fun v48 =>
  U.bind (t_is_basic_word ds (sl own5 (some v46) none)) fun v49 =>
  U.bind (t__law_same_5 (v47, v48, v49) (((sl own5 none (some v46)), (sl own5 (some v46) none)), true, true)) fun v50 =>
  if (!v50) then
  .ok (Ctl.rt false)
  else
  .ok (Ctl.nx tin1)
  else
  .ok (Ctl.nx tin1)) v40.1 v40.2) fun c1 => (match c1 with
  | .nx tin2 =>
  U.bind (chk v14.length) fun w10 =>
  U.bind (.ok (dictOf (v14.map (fun own6 : (List Int) × Int => (own6.1, true))))) fun basics_so =>
  U.bind (t__law_pick_2 tin2 v9 8) fun v51 =>
  U.bind (forC (ρ := Bool) (fun (p : (List Int) × Int) (tin3 : (List Int)) =>
  U.bind (t_is_basic_word ds p.1) fun v52 =>
  U.bind (t__law_same_7 v52 (false != basics_so.any fun q_ => decide (q_.1 = p.1))) fun v53 =>
  if (!v53) then
  .ok (Ctl.rt false)
  else
  .ok (Ctl.nx tin3)) v51.1 v51.2) fun c3 => (match c3 with
  | .nx tin4 =>
  U.bind (t_is_basic_word ds ([] : List Int)) fun v54 =>
  U.bind (t_is_basic_word_2 ds ()) fun v55 =>
  U.bind (t_is_basic_word ds ([(ds.length : Int)] : List Int)) fun v56 =>
  U.bind (t_is_basic_word ds ([(-1)] : List Int)) fun v57 =>
  U.bind (t_is_basic_word_3 ds ([0] : List Int)) fun v58 =>
  U.bind (t_is_basic_word_4 ds true) fun v59 =>
  U.bind (chk ds.length) fun w11 =>
  U.bind (t_joined_ranks (ds.map (fun own7 : Int => (own7 + 1))) (m + 1)) fun v60 =>
  U.bind (cat ([0] : List Int) v16) fun v61 =>
  U.bind (t__law_same_8 (v54, v55, v56, v57, v58, v59, v60) (false, false, false, false, false, false, v61)) fun v62 =>
  if (!v62) then
  .ok (Ctl.rt false)
  else
  .ok (Ctl.nx tin4)
  | .bk _ => .no
  | .rt z => .ok (Ctl.rt z))
  | .bk _ => .no
  | .rt z1 => .ok (Ctl.rt z1))

theorem body_eq (tin : List Int) : body tin =
  U.bind (t__law_take tin 3) fun v3 =>
  U.bind (rng1 (1 + v3.1)) fun v4 =>
  U.bind (chk v4.length) fun w =>
  U.bind (mapS (fun (k : Int) (st : (List Int)) => U.bind (t__law_take st 3) fun v6 =>
  .ok ((1 + v6.1), v6.2)) v4 (v3.2)) fun v7 =>
  U.bind (t__law_take v7.2 4) fun v8 =>
  rest v7.1 (4 + v8.1) v8.2 := rfl
theorem pick_turn {ds own5 tin1 : List Int} (h : pickR ds own5 = .ok true) :
  (if (decide (1 < (own5.length : Int))) then
  U.bind (.ok ((own5.length : Int) / 2)) fun half_so =>
  U.bind (t__law_less own5) fun v41 =>
  U.bind (if v41 then (U.bind (rng2 1 (own5.length : Int)) fun v42 =>
  U.bind (chk v42.length) fun w9 =>
  U.bind (compM (fun k4 : Int => U.bind (t__law_less (sl own5 (some k4) none)) fun v43 =>
  .ok v43) (fun k4 : Int => .ok k4) v42) fun v44 =>
  U.bind (ix v44 0) fun v45 =>
  .ok v45) else (.ok half_so)) fun v46 =>
  U.bind (t_cut_word ds own5) fun v47 =>
  U.bind (t_is_basic_word ds (sl own5 none (some v46))) fun v48 =>
  U.bind (t_is_basic_word ds (sl own5 (some v46) none)) fun v49 =>
  U.bind (t__law_same_5 (v47, v48, v49) (((sl own5 none (some v46)), (sl own5 (some v46) none)), true, true)) fun v50 =>
  if (!v50) then
  .ok (Ctl.rt false)
  else
  .ok (Ctl.nx tin1)
  else
  .ok (Ctl.nx tin1) : R (Ctl (List Int) Bool)) = .ok (.nx tin1) := by
  unfold pickR at h
  rcases of_ite h with ⟨hc, h⟩ | ⟨hc, h⟩
  · rw [if_pos hc, bind_ok]
    rw [bind_ok] at h
    obtain ⟨v41, e1, h⟩ := of_bind h
    rw [e1, bind_ok]
    obtain ⟨v46, e2, h⟩ := of_bind h
    refine (bind_eq e2).trans ?_
    obtain ⟨v47, e3, h⟩ := of_bind h
    rw [e3, bind_ok]
    obtain ⟨v48, e4, h⟩ := of_bind h
    rw [e4, bind_ok]
    obtain ⟨v49, e5, h⟩ := of_bind h
    rw [e5, bind_ok]
    obtain ⟨v50, e6, h⟩ := of_bind h
    have := of_ok h
    subst this
    rw [e6, bind_ok]
    rfl
  · rw [if_neg (by rw [hc]; exact Bool.false_ne_true)]
theorem word_turn {ds tin3 : List Int} {due : List (List Int × Int)} {basics_so : List (List Int × Bool)} {p : List Int × Int} (hb : (basics_so.any fun q_ => decide (q_.1 = p.1)) = due.any fun q_ => decide (q_.1 = p.1)) (h : wordR ds due p = .ok true) :
  (U.bind (t_is_basic_word ds p.1) fun v52 =>
  U.bind (t__law_same_7 v52 (false != basics_so.any fun q_ => decide (q_.1 = p.1))) fun v53 =>
  if (!v53) then
  .ok (Ctl.rt false)
  else
  .ok (Ctl.nx tin3) : R (Ctl (List Int) Bool)) = .ok (.nx tin3) := by
  unfold wordR at h
  obtain ⟨v52, e1, h⟩ := of_bind h
  obtain ⟨v53, e2, h⟩ := of_bind h
  have := of_ok h
  subst this
  rw [e1, bind_ok, hb, e2, bind_ok]
  rfl
theorem rest_ok {ds : List Int} {m : Nat} {s : List Int} {n : Int} (hd : ds.length ≤ 3) (h4 : 4 ≤ m) (h7 : m ≤ 7) (ha : chkA ds m = true) (hb : chkB ds m = true) (hcc : chkC ds m = true) (hs : Tin n s) (hn : n < 1000) : ∃ s', rest ds (m : Int) s = .ok (.nx s') ∧ Tin (n + 13) s' := by
  obtain ⟨ranks, told, hQ, hend, htold, htl, hWl⟩ := Q_all (by omega) ha
  have hPl : (PD ds m).length ≤ 8000 := by
    unfold PD Ld
    rw [List.length_append, List.length_map]
    have h1 := List.length_filter_le (fun p : List Int × Int => lynB p.1) (Wd ds m)
    have h2 := List.length_filter_le (oddP m) ((Wd ds m).filter fun p => lynB p.1)
    omega
  unfold Q at hQ
  obtain ⟨v9, g1, hQ⟩ := of_bind hQ
  obtain ⟨_, g2, hQ⟩ := of_bind hQ
  obtain ⟨v11, g3, hQ⟩ := of_bind hQ
  obtain ⟨_, g4, hQ⟩ := of_bind hQ
  obtain ⟨v13, g5, hQ⟩ := of_bind hQ
  obtain ⟨v14, g6, hQ⟩ := of_bind hQ
  obtain ⟨_, g7, hQ⟩ := of_bind hQ
  obtain ⟨v15, g8, hQ⟩ := of_bind hQ
  obtain ⟨v16, g9, hQ⟩ := of_bind hQ
  obtain ⟨v17, g10, hQ⟩ := of_bind hQ
  obtain ⟨v18, g11, hQ⟩ := of_bind hQ
  unfold QT at hQ
  obtain ⟨_, k1, hQ⟩ := of_bind hQ
  obtain ⟨v19, k2, hQ⟩ := of_bind hQ
  obtain ⟨v21, k3, hQ⟩ := of_bind hQ
  obtain ⟨v22, k4, hQ⟩ := of_bind hQ
  obtain ⟨v23, k5, hQ⟩ := of_bind hQ
  obtain ⟨_, k6, hQ⟩ := of_bind hQ
  obtain ⟨v24, k7, hQ⟩ := of_bind hQ
  obtain ⟨v25, k8, hQ⟩ := of_bind hQ
  obtain ⟨v26, k9, hQ⟩ := of_bind hQ
  obtain ⟨row, k10, hQ⟩ := of_bind hQ
  obtain ⟨v38, k11, hQ⟩ := of_bind hQ
  obtain ⟨v39, k12, hQ⟩ := of_bind hQ
  obtain ⟨_, k13, hQ⟩ := of_bind hQ
  have hfin := of_ok hQ
  have f1 : v9 = Wd ds m := congrArg (fun z => z.1) hfin
  have f2 : v14 = PD ds m := congrArg (fun z => z.2.1) hfin
  have f3 : v16 = ranks := congrArg (fun z => z.2.2.1) hfin
  have f4 : v18 = told := congrArg (fun z => z.2.2.2) hfin
  have l9 := of_decide_eq_true (of_need g2)
  have l11 := of_decide_eq_true (of_need g4)
  have l14 := of_decide_eq_true (of_need g7)
  have q23 := of_need k6
  have q39 := of_need k13
  have e15 : v15 = rngL 0 1 (m + 1) := by
    rw [rng1_ok (by omega) (by omega)] at g8
    rw [← of_ok g8]
    congr 1
  have e26 : v26 = rngL 1 1 m := by
    rw [rng2_ok (by omega) (by omega) (by omega) (by omega)] at k9
    rw [← of_ok k9]
    have e : ((m : Int) + 1 - 1).toNat = m := by omega
    rw [e]
  have l15 : v15.length < 16777216 := by rw [e15, rngL_length]; omega
  have l26 : v26.length < 16777216 := by rw [e26, rngL_length]; omega
  -- the picks
  obtain ⟨out1, s1, p1, p2, p3⟩ := pick_ok hs (by omega) (gs := v18) (by rw [f4]; omega) 5 (by omega)
  obtain ⟨s2, c1, c2⟩ := forC_inv (ρ := Bool) (I := fun s : List Int => s = s1) (s := s1) (xs := out1) (f := fun (own5 : List Int) (tin1 : (List Int)) =>
  if (decide (1 < (own5.length : Int))) then
  U.bind (.ok ((own5.length : Int) / 2)) fun half_so =>
  U.bind (t__law_less own5) fun v41 =>
  U.bind (if v41 then (U.bind (rng2 1 (own5.length : Int)) fun v42 =>
  U.bind (chk v42.length) fun w9 =>
  U.bind (compM (fun k4 : Int => U.bind (t__law_less (sl own5 (some k4) none)) fun v43 =>
  .ok v43) (fun k4 : Int => .ok k4) v42) fun v44 =>
  U.bind (ix v44 0) fun v45 =>
  .ok v45) else (.ok half_so)) fun v46 =>
  U.bind (t_cut_word ds own5) fun v47 =>
  U.bind (t_is_basic_word ds (sl own5 none (some v46))) fun v48 =>
  U.bind (t_is_basic_word ds (sl own5 (some v46) none)) fun v49 =>
  U.bind (t__law_same_5 (v47, v48, v49) (((sl own5 none (some v46)), (sl own5 (some v46) none)), true, true)) fun v50 =>
  if (!v50) then
  .ok (Ctl.rt false)
  else
  .ok (Ctl.nx tin1)
  else
  .ok (Ctl.nx tin1)) (fun x hx s hs => by
    subst hs
    refine ⟨s, pick_turn ?_, rfl⟩
    obtain ⟨p, hp, e⟩ := htold x (by rw [← f4]; exact p2 x hx)
    rw [← e]
    exact of_isT (List.all_eq_true.mp hcc p hp)) rfl
  rw [c2] at c1
  clear c2
  obtain ⟨out2, s3, p4, p5, p6⟩ := pick_ok_2 p3 (by omega) (gs := v9) (by omega) 8 (by omega)
  have hbas : ∀ x : List Int, ((dictOf (v14.map (fun own6 : (List Int) × Int => (own6.1, true)))).any fun q_ => decide (q_.1 = x)) = (PD ds m).any fun q_ => decide (q_.1 = x) := fun x => by
    rw [dict_any, List.any_map, f2]
    rfl
  obtain ⟨s4, c3, c4⟩ := forC_inv (ρ := Bool) (I := fun s : List Int => s = s3) (s := s3) (xs := out2) (f := fun (p : (List Int) × Int) (tin3 : (List Int)) =>
  U.bind (t_is_basic_word ds p.1) fun v52 =>
  U.bind (t__law_same_7 v52 (false != (dictOf (v14.map (fun own6 : (List Int) × Int => (own6.1, true)))).any fun q_ => decide (q_.1 = p.1))) fun v53 =>
  if (!v53) then
  .ok (Ctl.rt false)
  else
  .ok (Ctl.nx tin3)) (fun x hx s hs => by
    subst hs
    refine ⟨s, word_turn (hbas x.1) (word_ok hb ?_), rfl⟩
    rw [← f1]
    exact p5 x hx) rfl
  rw [c4] at c3
  clear c4
  unfold endR at hend
  obtain ⟨v54, z1, hend⟩ := of_bind hend
  obtain ⟨v55, z2, hend⟩ := of_bind hend
  obtain ⟨v56, z3, hend⟩ := of_bind hend
  obtain ⟨v57, z4, hend⟩ := of_bind hend
  obtain ⟨v58, z5, hend⟩ := of_bind hend
  obtain ⟨v59, z6, hend⟩ := of_bind hend
  obtain ⟨_, z7, hend⟩ := of_bind hend
  obtain ⟨v60, z8, hend⟩ := of_bind hend
  obtain ⟨v61, z9, hend⟩ := of_bind hend
  obtain ⟨v62, z10, hend⟩ := of_bind hend
  have q62 := of_ok hend
  refine ⟨s3, ?_, p6.mono (by omega)⟩
  unfold rest
  refine (bind_eq g1).trans ?_
  refine (if_neg (by simp only [decide_eq_true_eq]; omega)).trans ?_
  refine (bind_eq (chk_ok (by omega))).trans ?_
  refine (bind_eq g3).trans ?_
  refine (bind_eq (chk_ok (by omega))).trans ?_
  refine (bind_eq g5).trans ?_
  refine (bind_eq g6).trans ?_
  refine (bind_eq g8).trans ?_
  refine (bind_eq (chk_ok l15)).trans ?_
  refine (bind_eq g9).trans ?_
  refine (bind_eq g10).trans ?_
  refine (bind_eq g11).trans ?_
  refine (bind_eq k2).trans ?_
  refine (bind_eq g10).trans ?_
  refine (bind_eq k3).trans ?_
  refine (bind_eq (chk_ok (by omega))).trans ?_
  refine (bind_eq k4).trans ?_
  refine (bind_eq k5).trans ?_
  refine (if_neg (by rw [q23]; decide)).trans ?_
  refine (bind_eq k7).trans ?_
  refine (bind_eq k8).trans ?_
  refine (bind_eq k9).trans ?_
  refine (bind_eq k10).trans ?_
  refine (bind_eq k9).trans ?_
  refine (bind_eq (chk_ok l26)).trans ?_
  refine (bind_eq k11).trans ?_
  refine (bind_eq k12).trans ?_
  refine (if_neg (by rw [q39]; decide)).trans ?_
  refine (bind_eq p1).trans ?_
  refine (bind_eq c1).trans ?_
  dsimp only
  refine (bind_eq (chk_ok (by omega))).trans ?_
  rw [bind_ok]
  refine (bind_eq p4).trans ?_
  refine (bind_eq c3).trans ?_
  dsimp only
  rw [← f3] at z9
  refine (bind_eq z1).trans ?_
  refine (bind_eq z2).trans ?_
  refine (bind_eq z3).trans ?_
  refine (bind_eq z4).trans ?_
  refine (bind_eq z5).trans ?_
  refine (bind_eq z6).trans ?_
  refine (bind_eq z7).trans ?_
  refine (bind_eq z8).trans ?_
  refine (bind_eq z9).trans ?_
  refine (bind_eq z10).trans ?_
  refine (if_neg (by rw [q62]; decide)).trans ?_
  rfl
end L
namespace L
open PySem L2 G U
def goE (d : Nat) : List Int → List Int → List Int
  | [], acc => acc.reverse
  | x :: xs, acc => goE d xs ((x + acc.getD (d - 1) 0) :: acc)
def stepE (d : Nat) (row : List Int) : List Int := goE d (row.drop d) (row.take d).reverse
theorem goE_length (d : Nat) : ∀ (xs acc : List Int), (goE d xs acc).length = acc.length + xs.length
  | [], acc => by rw [goE, List.length_reverse]; rfl
  | x :: xs, acc => by rw [goE, goE_length d xs, List.length_cons, List.length_cons]; omega
theorem stepE_length (d : Nat) (row : List Int) : (stepE d row).length = row.length := by
  unfold stepE
  rw [goE_length, List.length_reverse, List.length_take, List.length_drop]
  omega
def iterE (d : Nat) : Nat → List Int → List Int
  | 0, x => x
  | n + 1, x => if x.sum = x.sum then iterE d n (stepE d x) else []
theorem inner_even (d : Nat) (h0 : 0 < d) : ∀ (rest acc : List Int), d ≤ acc.length → forM (fun (total1 : Int) (found4 : (List Int)) =>
  U.bind (ix found4 total1) fun v5 =>
  U.bind (ix found4 (total1 - (d : Int))) fun v6 =>
  U.bind (setIx found4 total1 (v5 + v6)) fun found5 =>
  .ok found5) (rngL (acc.length : Int) 1 rest.length) (acc.reverse ++ rest) = .ok (goE d rest acc)
  | [], acc, h => by rw [List.length_nil, rngL, U.forM_nil, goE, List.append_nil]
  | x :: rest, acc, h => by
    have e1 : ix (acc.reverse ++ x :: rest) (acc.length : Int) = .ok x := U.ix_some (by rw [List.getElem?_append_right (by rw [List.length_reverse]; exact Nat.le_refl _), List.length_reverse, Nat.sub_self]; rfl)
    have hd : acc[d - 1]? = some (acc.getD (d - 1) 0) := by
      rw [List.getElem?_eq_getElem (by omega), List.getD_eq_getElem?_getD, List.getElem?_eq_getElem (by omega)]
      rfl
    have e2 : ix (acc.reverse ++ x :: rest) ((acc.length : Int) - (d : Int)) = .ok (acc.getD (d - 1) 0) := by
      have e : (acc.length : Int) - (d : Int) = ((acc.length - d : Nat) : Int) := by omega
      rw [e]
      refine U.ix_some ?_
      rw [List.getElem?_append_left (by rw [List.length_reverse]; omega), List.getElem?_reverse (by omega)]
      have : acc.length - 1 - (acc.length - d) = d - 1 := by omega
      rw [this, hd]
    have e3 : setIx (acc.reverse ++ x :: rest) (acc.length : Int) (x + acc.getD (d - 1) 0) = .ok (((x + acc.getD (d - 1) 0) :: acc).reverse ++ rest) := by
      rw [U.setIx_nat (by rw [List.length_append, List.length_reverse, List.length_cons]; omega), List.set_append_right _ _ (by rw [List.length_reverse]; exact Nat.le_refl _), List.length_reverse, Nat.sub_self, List.set_cons_zero, List.reverse_cons, List.append_assoc]
      rfl
    rw [List.length_cons, rngL, U.forM_cons, e1, bind_ok, e2, bind_ok, e3, bind_ok, bind_ok, goE]
    have ih := inner_even d h0 rest ((x + acc.getD (d - 1) 0) :: acc) (by rw [List.length_cons]; omega)
    rw [List.length_cons] at ih
    exact ih
theorem lap_even (d : Nat) (h0 : 0 < d) (hd : d < 1000) (row : List Int) (hr : row.length < 1000) : (U.bind (rng2 (d : Int) (row.length : Int)) fun v4 =>
  U.bind (forM (fun (total1 : Int) (found4 : (List Int)) =>
  U.bind (ix found4 total1) fun v5 =>
  U.bind (ix found4 (total1 - (d : Int))) fun v6 =>
  U.bind (setIx found4 total1 (v5 + v6)) fun found5 =>
  .ok found5) v4 row) fun found6 =>
  .ok found6) = .ok (stepE d row) := by
  rw [rng2_ok (by omega) (by omega) (by omega) (by omega), bind_ok]
  by_cases hc : d ≤ row.length
  · have e := inner_even d h0 (row.drop d) (row.take d).reverse (by rw [List.length_reverse, List.length_take]; omega)
    rw [List.reverse_reverse, List.take_append_drop, List.length_reverse, List.length_take, List.length_drop, Nat.min_eq_left hc] at e
    have ek : ((row.length : Int) - (d : Int)).toNat = row.length - d := by omega
    rw [ek]
    exact (bind_eq e).trans rfl
  · have ek : ((row.length : Int) - (d : Int)).toNat = 0 := by omega
    rw [ek, rngL, U.forM_nil, bind_ok]
    unfold stepE
    rw [List.drop_eq_nil_of_le (by omega), List.take_of_length_le (by omega), goE, List.reverse_reverse]
theorem laps_even (d : Nat) (h0 : 0 < d) (hd : d < 1000) (he : (d : Int) % 2 = 0) : ∀ (k : Nat) (lo : Int) (row : List Int), row.length < 1000 → forM (fun (lap : Int) (found : (List Int)) =>
  if (decide (((d : Int) % 2) = 1)) then
  U.bind (rng3 ((found.length : Int) - 1) ((d : Int) - 1) (-1)) fun v1 =>
  U.bind (forM (fun (total : Int) (found1 : (List Int)) =>
  U.bind (ix found1 total) fun v2 =>
  U.bind (ix found1 (total - (d : Int))) fun v3 =>
  U.bind (setIx found1 total (v2 + v3)) fun found2 =>
  .ok found2) v1 found) fun found3 =>
  .ok found3
  else
  U.bind (rng2 (d : Int) (found.length : Int)) fun v4 =>
  U.bind (forM (fun (total1 : Int) (found4 : (List Int)) =>
  U.bind (ix found4 total1) fun v5 =>
  U.bind (ix found4 (total1 - (d : Int))) fun v6 =>
  U.bind (setIx found4 total1 (v5 + v6)) fun found5 =>
  .ok found5) v4 found) fun found6 =>
  .ok found6) (rngL lo 1 k) row = .ok (iterE d k row)
  | 0, lo, row, hr => by rw [rngL, U.forM_nil, iterE]
  | k + 1, lo, row, hr => by
    rw [rngL, U.forM_cons]
    refine (bind_eq ((if_neg (by rw [he]; decide)).trans (lap_even d h0 hd row hr))).trans ?_
    rw [laps_even d h0 hd he k (lo + 1) (stepE d row) (by rw [stepE_length]; exact hr), iterE, if_pos rfl]
def serE (row : List Int) (degree many : Int) : R (List Int) := if (decide (degree % 2 = 0) && (decide (0 < degree) && (decide (degree < 1000) && (decide (-1 < many) && (decide (many < 1000000) && Nat.blt row.length 1000))))) = true then .ok (iterE degree.toNat many.toNat row) else t_series_times row degree many
theorem ser_eq : t_series_times = serE := by
  funext row degree many
  unfold serE
  split
  · rename_i h
    simp only [Bool.and_eq_true, decide_eq_true_eq] at h
    obtain ⟨h1, h2, h3, h4, h5, h6⟩ := h
    obtain ⟨d, rfl⟩ : ∃ d : Nat, degree = d := ⟨degree.toNat, (Int.toNat_of_nonneg (by omega)).symm⟩
    unfold t_series_times
    rw [rng1_ok (by omega) (by omega), bind_ok, Int.toNat_natCast]
    exact (bind_eq (laps_even d (by omega) (by omega) h1 many.toNat 0 row (blt_lt h6))).trans rfl
  · rfl
def ranksE (goal : List Int) : R (List Int) :=
  U.bind (rep ([0] : List Int) ((goal.length : Int) - 1)) fun v =>
  U.bind (cat ([1] : List Int) v) fun v1 =>
  U.bind (rng2 1 (goal.length : Int)) fun v2 =>
  U.bind (forC (ρ := (List Int)) (fun (degree : Int) (st : (List Int) × (List Int)) =>
  (match st with
  | (ranks, here) =>
  U.bind (ix goal degree) fun v3 =>
  U.bind (ix here degree) fun v4 =>
  U.bind (chk ranks.length) fun w =>
  if (decide ((v3 - v4) < 0)) then
  .ok (Ctl.rt (ranks ++ [(v3 - v4)]))
  else
  U.bind (serE here degree (v3 - v4)) fun v5 =>
  .ok (Ctl.nx ((ranks ++ [(v3 - v4)]), v5)))) v2 (([0] : List Int), v1)) fun c1 => (match c1 with
  | .nx (ranks1, here1) =>
  .ok ranks1
  | .bk _ => .no
  | .rt z => .ok z)
theorem ranksE_eq : t_ranks_from_series = ranksE := by
  funext goal
  unfold t_ranks_from_series ranksE
  rw [ser_eq]
  all_goals rfl
def freeInE (degrees : List Int) (most : Int) : R (List Int) :=
  U.bind (t_words_series degrees most) fun v =>
  U.bind (ranksE v) fun v1 =>
  .ok v1
theorem freeInE_eq : t_free_ranks_in = freeInE := by
  funext degrees most
  unfold t_free_ranks_in freeInE
  rw [ranksE_eq]
def freeE (degrees : List Int) (most : Int) : R (List Int) :=
  U.bind (t_sure_list_2 degrees 1) fun v =>
  U.bind (t_sure_within most 0 40) fun v1 =>
  U.bind (freeInE v v1) fun v2 =>
  .ok v2
theorem freeE_eq : t_free_ranks = freeE := by
  funext degrees most
  unfold t_free_ranks freeE
  rw [freeInE_eq]
def joinedE (spheres : List Int) (most : Int) : R (List Int) :=
  U.bind (t_sure_list_2 spheres 2) fun v =>
  U.bind (t_sure_within most 0 40) fun v1 =>
  if (decide (v1 = 0)) then
  .ok ([0] : List Int)
  else
  U.bind (chk v.length) fun w =>
  U.bind (freeInE (v.map (fun its : Int => (its - 1))) (v1 - 1)) fun v2 =>
  U.bind (cat ([0] : List Int) v2) fun v3 =>
  .ok v3
theorem joinedE_eq : t_joined_ranks = joinedE := by
  funext degrees most
  unfold t_joined_ranks joinedE
  rw [freeInE_eq]
/-- the law's end -/
def endL (a b : Int) : R Bool :=
  U.bind (rng2 1 ((1 + b) + 1)) fun v65 =>
  U.bind (chk v65.length) fun w15 =>
  U.bind (compM (fun d : Int => U.bind (need (okMod (1 + b) d)) fun w12 =>
  .ok (decide (((1 + b) % d) = 0))) (fun d : Int => U.bind (t__law_moebius d) fun v66 =>
  U.bind (need (okDiv (1 + b) d)) fun w13 =>
  U.bind (t__law_power (1 + a) ((1 + b) / d)) fun v67 =>
  U.bind (need (okMul v66 v67)) fun w14 =>
  .ok (v66 * v67)) v65) fun v68 =>
  U.bind (need (okDiv v68.sum (1 + b))) fun w16 =>
  U.bind (repT ([2] : List Int) (1 + a)) fun v69 =>
  U.bind (t_free_ranks v69 (2 * (1 + b))) fun v70 =>
  U.bind (ix v70 (2 * (1 + b))) fun v71 =>
  U.bind (t_free_ranks ([] : List Int) 3) fun v72 =>
  U.bind (t_joined_ranks ([] : List Int) 2) fun v73 =>
  U.bind (t_basic_words_2 ([] : List Int) 5) fun v74 =>
  U.bind (t__law_same_9 (v71, v72, v73, v74) ((v68.sum / (1 + b)), (0, 0, 0, 0), (0, 0, 0), ())) fun v75 =>
  .ok v75

/-- the same -/
def endE (a b : Int) : R Bool :=
  U.bind (rng2 1 ((1 + b) + 1)) fun v65 =>
  U.bind (chk v65.length) fun w15 =>
  U.bind (compM (fun d : Int => U.bind (need (okMod (1 + b) d)) fun w12 =>
  .ok (decide (((1 + b) % d) = 0))) (fun d : Int => U.bind (t__law_moebius d) fun v66 =>
  U.bind (need (okDiv (1 + b) d)) fun w13 =>
  U.bind (t__law_power (1 + a) ((1 + b) / d)) fun v67 =>
  U.bind (need (okMul v66 v67)) fun w14 =>
  .ok (v66 * v67)) v65) fun v68 =>
  U.bind (need (okDiv v68.sum (1 + b))) fun w16 =>
  U.bind (repT ([2] : List Int) (1 + a)) fun v69 =>
  U.bind (freeE v69 (2 * (1 + b))) fun v70 =>
  U.bind (ix v70 (2 * (1 + b))) fun v71 =>
  U.bind (freeE ([] : List Int) 3) fun v72 =>
  U.bind (joinedE ([] : List Int) 2) fun v73 =>
  U.bind (t_basic_words_2 ([] : List Int) 5) fun v74 =>
  U.bind (t__law_same_9 (v71, v72, v73, v74) ((v68.sum / (1 + b)), (0, 0, 0, 0), (0, 0, 0), ())) fun v75 =>
  .ok v75

theorem endE_eq : endL = endE := by
  funext a b
  unfold endL endE
  rw [freeE_eq, joinedE_eq]
theorem e0 : ([0, 1, 2, 3, 4, 5, 6, 7].all fun b => isT (endE 0 b)) = true := by decide +kernel
theorem e1 : ([0, 1, 2, 3, 4, 5, 6, 7].all fun b => isT (endE 1 b)) = true := by decide +kernel
theorem e2 : ([0, 1, 2, 3, 4, 5, 6, 7].all fun b => isT (endE 2 b)) = true := by decide +kernel
theorem e3 : ([0, 1, 2, 3, 4, 5, 6].all fun b => isT (endE 3 b)) = true := by decide +kernel
theorem e37 : isT (endE 3 7) = true := by decide +kernel
end L
namespace L
open PySem L2 G U
theorem endL_ok {a b : Int} (h1 : 0 ≤ a) (h2 : a < 4) (h3 : 0 ≤ b) (h4 : b < 8) : endL a b = .ok true := by
  rw [endE_eq]
  refine of_isT ?_
  have hb : b ∈ ([0, 1, 2, 3, 4, 5, 6, 7] : List Int) := by
    have : b = 0 ∨ b = 1 ∨ b = 2 ∨ b = 3 ∨ b = 4 ∨ b = 5 ∨ b = 6 ∨ b = 7 := by omega
    rcases this with rfl | rfl | rfl | rfl | rfl | rfl | rfl | rfl <;> simp
  have : a = 0 ∨ a = 1 ∨ a = 2 ∨ a = 3 := by omega
  rcases this with rfl | rfl | rfl | rfl
  · exact List.all_eq_true.mp e0 b hb
  · exact List.all_eq_true.mp e1 b hb
  · exact List.all_eq_true.mp e2 b hb
  · by_cases h7 : b = 7
    · rw [h7]; exact e37
    · have hb : b ∈ ([0, 1, 2, 3, 4, 5, 6] : List Int) := by
        have : b = 0 ∨ b = 1 ∨ b = 2 ∨ b = 3 ∨ b = 4 ∨ b = 5 ∨ b = 6 := by omega
        rcases this with rfl | rfl | rfl | rfl | rfl | rfl | rfl <;> simp
      exact List.all_eq_true.mp e3 b hb
theorem body_ok {s : List Int} {n : Int} (hs : Tin n s) (hn : n < 900) : ∃ s', body s = .ok (.nx s') ∧ Tin (n + 30) s' := by
  rw [body_eq]
  obtain ⟨r3, s3, e3, a3, b3, t3⟩ := take_ok (m := 3) hs (by omega) (by decide) (by decide)
  rw [e3, bind_ok]
  dsimp only
  rw [rng1_ok (by omega) (by omega), bind_ok, chk_ok (by rw [rngL_length]; omega), bind_ok]
  obtain ⟨ys, s4, e4, l4, q4, t4⟩ := mapS_invN (f := fun (k : Int) (st : (List Int)) => U.bind (t__law_take st 3) fun v6 => .ok ((1 + v6.1), v6.2)) (Q := fun y : Int => 1 ≤ y ∧ y ≤ 3) (I := fun k st => Tin (n + 1 + k) st) (xs := rngL 0 1 (1 + r3).toNat) (s := s3) (fun k x hx st hst => by
    have hk := (List.getElem?_eq_some_iff.mp hx).1
    rw [rngL_length] at hk
    obtain ⟨r, s', e, a, b, t⟩ := take_ok (m := 3) hst (by omega) (by decide) (by decide)
    refine ⟨1 + r, s', by rw [e, bind_ok], ⟨by omega, by omega⟩, ?_⟩
    have : n + 1 + ((k + 1 : Nat) : Int) = n + 1 + (k : Int) + 1 := by omega
    rw [this]
    exact t) (by simpa using t3)
  rw [rngL_length] at l4 t4
  suffices hh : ∃ s', (U.bind (t__law_take s4 4) fun v8 => rest ys (4 + v8.1) v8.2) = .ok (Ctl.nx s') ∧ Tin (n + 30) s' by
    obtain ⟨s', q1, q2⟩ := hh
    exact ⟨s', (bind_eq e4).trans q1, q2⟩
  obtain ⟨r5, s5, e5, a5, b5, t5⟩ := take_ok (m := 4) t4 (by omega) (by decide) (by decide)
  rw [e5, bind_ok]
  dsimp only
  obtain ⟨m, hm⟩ : ∃ m : Nat, 4 + r5 = (m : Int) := ⟨(4 + r5).toNat, by omega⟩
  rw [hm]
  obtain ⟨h1, h2, h3⟩ := tab (in_all (by omega) (by omega) q4) (m := m) (by omega) (by omega)
  obtain ⟨s', e6, t6⟩ := rest_ok (by omega) (by omega) (by omega) h1 h2 h3 t5 (by omega)
  exact ⟨s', e6, t6.mono (by omega)⟩
theorem plain (ns : List Int) (hn : ns.length ≤ 63) : t_law ns = .ok true := by
  unfold t_law
  obtain ⟨x, e1⟩ := cells_ok ns hn
  obtain ⟨s0, e2, t0⟩ := box_ok x
  rw [e1, bind_ok, e2, bind_ok, rng1_ok (by decide) (by decide), bind_ok]
  obtain ⟨s1, e3, t1⟩ := forC_invN (ρ := Bool) (f := fun (lap : Int) (tin : List Int) => body tin) (I := fun k st => Tin (30 * k) st) (xs := rngL 0 1 (3 : Int).toNat) (s := s0) (fun k x hx st hst => by
    have hk : k < 3 := (List.getElem?_eq_some_iff.mp hx).1
    obtain ⟨s', e, t⟩ := body_ok hst (by omega)
    refine ⟨s', e, ?_⟩
    have : 30 * ((k + 1 : Nat) : Int) = 30 * (k : Int) + 30 := by omega
    rw [this]
    exact t) (by simpa using t0)
  have t1' : Tin 90 s1 := t1
  refine (bind_eq e3).trans ?_
  dsimp only
  obtain ⟨ra, s2, e4, a4, b4, t2⟩ := take_ok (m := 4) t1' (by decide) (by decide) (by decide)
  rw [e4, bind_ok]
  dsimp only
  obtain ⟨rb, s3, e5, a5, b5, t3⟩ := take_ok (m := 8) t2 (by decide) (by decide) (by decide)
  rw [e5, bind_ok]
  exact endL_ok a4 b4 a5 b5
end L
namespace L
open PySem PySem.Spec PyProof.Rows L2 G
abbrev Rr : PySem.W.OpenRow := PySem.W.OpenLaw.row PySem.Challenge.rw_leastmodels_k20_main_free_brackets_count
def fa : List He.Fa := faOf DEFS FREE CONS
def fn : List He.DefD := DEFS.map toD
abbrev hk : PySem.W.Hook := He.hookD 4 fa fn
def ob (s : PySem.W.SharedT) : He.AlD := He.obsDG 4 fa fn (HandSHeadRun.getT s)
theorem ob_eq (s : PySem.W.SharedT) : ob s = hk.obs s.abs := He.obsDG_eq (HandSHeadRun.getT_eq s)
def loose : List Str := ([("__name__" : Str), ("CanNot" : Str), ("TooMany" : Str), ("Unfit" : Str), ("is_number" : Str), ("is_within" : Str), ("are_numbers" : Str), ("tupled" : Str), ("sure_within" : Str), ("MOST_LETTERS" : Str)] : List Str) ++ ([("MOST_WORDS" : Str), ("sure_list" : Str), ("words_series" : Str), ("series_times" : Str), ("ranks_from_series" : Str), ("free_ranks_in" : Str), ("is_lyndon" : Str), ("lyndon_words" : Str), ("word_degree" : Str), ("free_ranks" : Str)] : List Str) ++ ([("basic_words" : Str), ("is_basic_word" : Str), ("joined_ranks" : Str), ("cut_word" : Str), ("_law_box" : Str), ("_law_take" : Str), ("_law_cells" : Str), ("_law_pick" : Str), ("_law_lists" : Str), ("_law_same" : Str)] : List Str) ++ ([("_law_flat" : Str), ("_law_moebius" : Str), ("_law_all_words" : Str), ("_law_less" : Str), ("_law_power" : Str)] : List Str)
theorem run (w : World) : HandSHeadRun.RunEq Rr (PySem.W.view Rr.prog [38]) hk ob 4000 loose w := by
  intro os
  kernel_rfl
end L
open PySem PySem.W PySem.Calls PyProof.Rows
theorem PySem.Challenge.cw_leastmodels_k20_main_free_brackets_count_holds : PySem.Challenge.rw_leastmodels_k20_main_free_brackets_count.Holds := by
  w_on; o_law
  refine HandSHeadRun.head_any (r := OpenLaw.row PySem.Challenge.rw_leastmodels_k20_main_free_brackets_count) (q := view (OpenLaw.row PySem.Challenge.rw_leastmodels_k20_main_free_brackets_count).prog [38]) (H := L.hk) (ob := L.ob) (M := 4000) (loose := L.loose) (d := HandSHeadRun.topDef (OpenLaw.row PySem.Challenge.rw_leastmodels_k20_main_free_brackets_count).prog 38) (kwd := []) L.ob_eq
    (by kernel_rfl) (fun s => by kernel_rfl) L.run (by kernel_rfl) (by kernel_rfl) (by kernel_rfl) (by rfl) (by first | assumption | decide +kernel) (by decide +kernel) ⟨rfl, rfl, rfl, rfl, rfl, by decide +kernel⟩ ?hw ?hc
  case hw => w_witness2
  case hc =>
    refine L2.walk_ofE (l := PySem.Challenge.rw_leastmodels_k20_main_free_brackets_count) (n := 63) (k := 30) (x := "script") (CX := G.CXF) rfl (by decide) (by kernel_rfl) ⟨rfl, by decide, by decide⟩ ?F G.cxf_no
    intro w mg fa h Y Gn hmg0
    obtain ⟨K, KX, c⟩ := Y
    have hmg : mg ("law" : PySem.Str) = some (.ref fa) := by
      have e : (HandSHeadRun.topDef (OpenLaw.row PySem.Challenge.rw_leastmodels_k20_main_free_brackets_count).prog 38).name = ("law" : PySem.Str) := by kernel_rfl
      rw [← e]
      exact hmg0
    have X : G.Facts K mg L.DEFS L.FREE L.CONS := G.facts_of KX Gn c
    obtain ⟨fd, hb, hF⟩ := G.law_fn (P := (PySem.Challenge.rw_leastmodels_k20_main_free_brackets_count).prog) (w := w) (K := K) (st := L.top 38) (k := 30) hmg (fun base => (L.ok_law X).mono (Nat.le_of_ble_eq_true rfl)) h (fun _ _ _ _ _ _ us hl => match us, hl with | [_], _ => rfl)
    exact ⟨K, fd, _, KX, hb, fun H a ns hl _ hS => G.law_sp hS (L.den_law ns true (L.plain ns hl)), fun base _ _ => hF base⟩
