import PyProof.Rows.All
import Wide.All
import OpenK.AllK
import Wide.FinOn
import HandS.ForMost
import HandS.ForExc
import HandS.Wide
import HandS.IsInst
import HandS.Flow
import HandS.ExcIs
import HandS.Ends
import HandS.More
import HandS.Iter
import HandS.Style
import HandS.Deep
import HandS.TupAny
import HandS.Conv
import HandS.SortRule
import HandS.SortInts
import HandS.TupLe
import HandS.WideBits
import PyProof.ReprRoads
import PyProof.ReprLen
import HandS.RaiseMore
import HandS.SetFor
import KE.SortData
import KE.DataCmp
import HandS.Text
import HandS.Codes
import PySem.Challenge.RW_bestheads_k71_refused_books_and_rules
set_option Elab.async false
set_option linter.all false
set_option maxRecDepth 100000
set_option maxHeartbeats 4000000
set_option exponentiation.threshold 10000
set_option maxHeartbeats 1000000
/-! A layer over HandS: the state as trees in slots. -/
namespace TL
open PySem L2

/-- a value as a tree; lst: a list that no one changes; own: a list that one place alone holds and may change; obj, fob: an instance of an own class with its fields, likewise -/
inductive D where
  | non | bl (b : Bool) | int (i : Int) | str (x : Str)
  | tup (l : List D) | lst (l : List D) | own (l : List D)
  | exc (C : Addr) | scr (ns : List Int) | cls (C : Addr) | ty (n : String)
  | obj (C : Addr) (ns : List Str) (l : List D) | fob (C : Addr) (ns : List Str) (l : List D)
instance : Inhabited D := ⟨.non⟩

mutual
def D.frz : D → D
  | .own l => .lst (D.frzs l)
  | .tup l => .tup (D.frzs l)
  | .obj C ns l => .fob C ns (D.frzs l)
  | d => d
def D.frzs : List D → List D
  | [] => []
  | d :: l => d.frz :: D.frzs l
end

mutual
inductive Rp (K : PySem.W.Frag) (F H : Hp) : D → V → List Addr → Prop
  | non : Rp K F H .non .non []
  | bl (b : Bool) : Rp K F H (.bl b) (.bl b) []
  | int (i : Int) : Rp K F H (.int i) (.int i) []
  | str (x : Str) : Rp K F H (.str x) (.str x) []
  | cls (C : Addr) : Rp K F H (.cls C) (.ref C) []
  | ty (n : String) : Rp K F H (.ty n) (.ty n) []
  | exc {a : Addr} (C : Addr) : (∃ φ, F a = some (.ext φ) ∧ ∀ h, φ h → ∃ ox, PySem.W.InstAt h a ox C none) → Rp K F H (.exc C) (.ref a) []
  | scr {a : Addr} {ns : List Int} : SqL K F a (ns.map V.int) → Rp K F H (.scr ns) (.ref a) []
  | tup {a : Addr} {vs : List V} {l : List D} {f : List Addr} : SqT K F a vs → Rps K F H l vs f → Rp K F H (.tup l) (.ref a) f
  | lst {a : Addr} {vs : List V} {l : List D} : F a = some (.lst vs) → Rps K F H l vs [] → Rp K F H (.lst l) (.ref a) []
  | own {a : Addr} {vs : List V} {l : List D} {f : List Addr} : F a = none → H a = some (.lst vs) → Rps K F H l vs f → Rp K F H (.own l) (.ref a) (a :: f)
  | obj {a dx C : Addr} {us : List (Str × V)} {l : List D} {f : List Addr} {ns : List Str} : F a = none → H a = some (.ins C dx us) → us.map Prod.fst = ns → Rps K F H l (us.map Prod.snd) f → Rp K F H (.obj C ns l) (.ref a) (a :: f)
  | fob {a dx C : Addr} {us : List (Str × V)} {l : List D} {ns : List Str} : F a = some (.ins C dx us) → us.map Prod.fst = ns → Rps K F H l (us.map Prod.snd) [] → Rp K F H (.fob C ns l) (.ref a) []
inductive Rps (K : PySem.W.Frag) (F H : Hp) : List D → List V → List Addr → Prop
  | nil : Rps K F H [] [] []
  | cons {d : D} {v : V} {f g : List Addr} {ds : List D} {vs : List V} : Rp K F H d v f → Rps K F H ds vs g → Rps K F H (d :: ds) (v :: vs) (f ++ g)
end

section
variable {K : PySem.W.Frag} {F F' H H' : Hp}
theorem Same.sqT {a : Addr} {xs : List V} (e : Same F F') (h : SqT K F a xs) : SqT K F' a xs := by
  rcases h with (h | ⟨o, h⟩) | h
  · exact .inl (.inl (e _ _ h))
  · exact .inl (.inr ⟨o, e _ _ h⟩)
  · exact .inr h
mutual
theorem Rp.mono (hF : Same F F') : ∀ (d : D) (v : V) (f : List Addr), (∀ b ∈ f, F' b = none ∧ H' b = H b) → Rp K F H d v f → Rp K F' H' d v f
  | .non, _, _, _, h => by cases h; exact .non
  | .bl b, _, _, _, h => by cases h; exact .bl b
  | .int b, _, _, _, h => by cases h; exact .int b
  | .str b, _, _, _, h => by cases h; exact .str b
  | .cls b, _, _, _, h => by cases h; exact .cls b
  | .ty b, _, _, _, h => by cases h; exact .ty b
  | .exc C, _, _, _, h => by
    cases h with
    | exc _ q => obtain ⟨φ, e, q⟩ := q; exact .exc C ⟨φ, hF _ _ e, q⟩
  | .scr ns, _, _, _, h => by
    cases h with
    | scr q => exact .scr (hF.seq q)
  | .tup l, _, _, hb, h => by
    cases h with
    | tup q r => exact .tup (Same.sqT hF q) (Rps.mono hF l _ _ hb r)
  | .lst l, _, _, hb, h => by
    cases h with
    | lst q r => exact .lst (hF _ _ q) (Rps.mono hF l _ _ (fun b z => nomatch z) r)
  | .own l, _, _, hb, h => by
    cases h with
    | own q e r => exact .own (hb _ List.mem_cons_self).1 ((hb _ List.mem_cons_self).2.trans e) (Rps.mono hF l _ _ (fun b z => hb b (List.mem_cons_of_mem _ z)) r)
  | .obj C ns l, _, _, hb, h => by
    cases h with
    | obj q e n r => exact .obj (hb _ List.mem_cons_self).1 ((hb _ List.mem_cons_self).2.trans e) n (Rps.mono hF l _ _ (fun b z => hb b (List.mem_cons_of_mem _ z)) r)
  | .fob C ns l, _, _, hb, h => by
    cases h with
    | fob q n r => exact .fob (hF _ _ q) n (Rps.mono hF l _ _ (fun b z => nomatch z) r)
theorem Rps.mono (hF : Same F F') : ∀ (l : List D) (vs : List V) (f : List Addr), (∀ b ∈ f, F' b = none ∧ H' b = H b) → Rps K F H l vs f → Rps K F' H' l vs f
  | [], _, _, _, h => by cases h; exact .nil
  | d :: l, _, _, hb, h => by
    cases h with
    | cons p q => exact .cons (Rp.mono hF d _ _ (fun b z => hb b (List.mem_append_left _ z)) p) (Rps.mono hF l _ _ (fun b z => hb b (List.mem_append_right _ z)) q)
end
mutual
theorem Rp.frz (hF : Same F F') : ∀ (d : D) (v : V) (f : List Addr), (∀ b ∈ f, F' b = H b) → Rp K F H d v f → Rp K F' H' d.frz v []
  | .non, _, _, _, h => by cases h; exact .non
  | .bl b, _, _, _, h => by cases h; exact .bl b
  | .int b, _, _, _, h => by cases h; exact .int b
  | .str b, _, _, _, h => by cases h; exact .str b
  | .cls b, _, _, _, h => by cases h; exact .cls b
  | .ty b, _, _, _, h => by cases h; exact .ty b
  | .exc C, _, _, _, h => by
    cases h with
    | exc _ q => obtain ⟨φ, e, q⟩ := q; exact .exc C ⟨φ, hF _ _ e, q⟩
  | .scr ns, _, _, _, h => by
    cases h with
    | scr q => exact .scr (hF.seq q)
  | .tup l, _, _, hb, h => by
    cases h with
    | tup q r => exact .tup (Same.sqT hF q) (Rps.frz hF l _ _ hb r)
  | .lst l, _, _, hb, h => by
    cases h with
    | lst q r => exact .lst (hF _ _ q) (Rps.mono hF l _ _ (fun b z => nomatch z) r)
  | .own l, _, _, hb, h => by
    cases h with
    | own q e r => exact .lst ((hb _ List.mem_cons_self).trans e) (Rps.frz hF l _ _ (fun b z => hb b (List.mem_cons_of_mem _ z)) r)
  | .obj C ns l, _, _, hb, h => by
    cases h with
    | obj q e n r => exact .fob ((hb _ List.mem_cons_self).trans e) n (Rps.frz hF l _ _ (fun b z => hb b (List.mem_cons_of_mem _ z)) r)
  | .fob C ns l, _, _, hb, h => by
    cases h with
    | fob q n r => exact .fob (hF _ _ q) n (Rps.mono hF l _ _ (fun b z => nomatch z) r)
theorem Rps.frz (hF : Same F F') : ∀ (l : List D) (vs : List V) (f : List Addr), (∀ b ∈ f, F' b = H b) → Rps K F H l vs f → Rps K F' H' (D.frzs l) vs []
  | [], _, _, _, h => by cases h; exact .nil
  | d :: l, _, _, hb, h => by
    cases h with
    | cons p q => exact .cons (f := []) (g := []) (Rp.frz hF d _ _ (fun b z => hb b (List.mem_append_left _ z)) p) (Rps.frz hF l _ _ (fun b z => hb b (List.mem_append_right _ z)) q)
end
mutual
/-- footprints are told objects that F does not know -/
theorem Rp.foot : ∀ (d : D) (v : V) (f : List Addr), Rp K F H d v f → ∀ b ∈ f, F b = none ∧ ∃ o, H b = some o
  | .non, _, _, h, _, z => by cases h; cases z
  | .bl _, _, _, h, _, z => by cases h; cases z
  | .int _, _, _, h, _, z => by cases h; cases z
  | .str _, _, _, h, _, z => by cases h; cases z
  | .cls _, _, _, h, _, z => by cases h; cases z
  | .ty _, _, _, h, _, z => by cases h; cases z
  | .exc _, _, _, h, _, z => by cases h; cases z
  | .scr _, _, _, h, _, z => by cases h; cases z
  | .tup l, _, _, h, b, z => by
    cases h with
    | tup q r => exact Rps.foot l _ _ r b z
  | .lst l, _, _, h, b, z => by cases h; cases z
  | .own l, _, _, h, b, z => by
    cases h with
    | own q e r =>
      rcases List.mem_cons.mp z with rfl | z
      · exact ⟨q, _, e⟩
      · exact Rps.foot l _ _ r b z
  | .obj _ _ l, _, _, h, b, z => by
    cases h with
    | obj q e n r =>
      rcases List.mem_cons.mp z with rfl | z
      · exact ⟨q, _, e⟩
      · exact Rps.foot l _ _ r b z
  | .fob _ _ _, _, _, h, _, z => by cases h; cases z
theorem Rps.foot : ∀ (l : List D) (vs : List V) (f : List Addr), Rps K F H l vs f → ∀ b ∈ f, F b = none ∧ ∃ o, H b = some o
  | [], _, _, h, _, z => by cases h; cases z
  | d :: l, _, _, h, b, z => by
    cases h with
    | cons p q =>
      rcases List.mem_append.mp z with z | z
      · exact Rp.foot d _ _ p b z
      · exact Rps.foot l _ _ q b z
end
theorem Rps.len : ∀ {l : List D} {vs : List V} {f : List Addr}, Rps K F H l vs f → l.length = vs.length
  | [], _, _, h => by cases h; rfl
  | _ :: _, _, _, h => by
    cases h with
    | cons p q => rw [List.length_cons, List.length_cons, Rps.len q]
theorem Rps.append : ∀ {l : List D} {vs : List V} {f : List Addr} {l' : List D} {vs' : List V} {f' : List Addr}, Rps K F H l vs f → Rps K F H l' vs' f' → Rps K F H (l ++ l') (vs ++ vs') (f ++ f')
  | [], _, _, _, _, _, h, h' => by cases h; exact h'
  | _ :: _, _, _, _, _, _, h, h' => by
    cases h with
    | cons p q =>
      have := Rps.append q h'
      rw [List.append_assoc]
      exact .cons p this
/-- of things without footprints -/
theorem Rps.get : ∀ {l : List D} {vs : List V} {i : Nat} {d : D}, Rps K F H l vs [] → l[i]? = some d → ∃ v, vs[i]? = some v ∧ Rp K F H d v []
  | [], _, i, _, h, e => by simp at e
  | d :: l, _, 0, _, h, e => by
    generalize hz : ([] : List Addr) = z at h
    cases h with
    | @cons d v f g ds vs p q =>
      simp at e
      subst e
      obtain ⟨rfl, rfl⟩ := List.append_eq_nil_iff.mp hz.symm
      exact ⟨v, rfl, p⟩
  | d :: l, _, i + 1, _, h, e => by
    generalize hz : ([] : List Addr) = z at h
    cases h with
    | @cons d v f g ds vs p q =>
      obtain ⟨rfl, rfl⟩ := List.append_eq_nil_iff.mp hz.symm
      obtain ⟨w, h1, h2⟩ := Rps.get (i := i) q (by simpa using e)
      exact ⟨w, by simpa using h1, h2⟩
end

/-! ### slots -/
/-- un: nothing known; va: a tree; io: a tree of an object that was handed in; ol: such a one, lent -/
inductive Slot where
  | un | va (d : D) | io (d : D) | ol
instance : Inhabited Slot := ⟨.un⟩
def Slot.isIo : Slot → Bool
  | .io _ => true
  | .ol => true
  | _ => false

abbrev MS := List Slot
def cnt (a : Addr) : List (List Addr) → Nat
  | [] => 0
  | f :: r => f.count a + cnt a r
theorem cnt_set (a : Addr) : ∀ (fs : List (List Addr)) (i : Nat) (f g : List Addr), fs[i]? = some f → cnt a (fs.set i g) + f.count a = cnt a fs + g.count a
  | [], i, f, g, h => by simp at h
  | x :: fs, 0, f, g, h => by simp at h; subst h; simp [cnt]; omega
  | x :: fs, i + 1, f, g, h => by
    have := cnt_set a fs i f g (by simpa using h)
    simp only [List.set_cons_succ, cnt]
    omega
theorem cnt_get {a : Addr} : ∀ {fs : List (List Addr)} {i : Nat} {f : List Addr}, fs[i]? = some f → f.count a ≤ cnt a fs
  | [], i, f, h => by simp at h
  | x :: fs, 0, f, h => by simp at h; subst h; simp [cnt]
  | x :: fs, i + 1, f, h => by
    have := cnt_get (a := a) (fs := fs) (i := i) (f := f) (by simpa using h)
    simp only [cnt]
    omega
theorem cnt_append (a : Addr) : ∀ (fs gs : List (List Addr)), cnt a (fs ++ gs) = cnt a fs + cnt a gs
  | [], gs => by simp [cnt]
  | x :: fs, gs => by simp only [List.cons_append, cnt, cnt_append a fs gs]; omega
theorem cnt_pos {a : Addr} : ∀ {fs : List (List Addr)}, 0 < cnt a fs ↔ ∃ f ∈ fs, a ∈ f
  | [] => by simp [cnt]
  | x :: fs => by
    have := cnt_pos (a := a) (fs := fs)
    simp only [cnt, List.mem_cons, exists_eq_or_imp]
    rw [← this, ← List.count_pos_iff (a := a) (l := x)]
    omega

inductive SlR (K : PySem.W.Frag) (F H : Hp) (P : List V) : Nat → MS → St → List (List Addr) → Prop
  | nil {i : Nat} : SlR K F H P i [] [] []
  | un {i : Nat} {o : Option V} {M : MS} {σ : St} {fs : List (List Addr)} : SlR K F H P (i + 1) M σ fs → SlR K F H P i (.un :: M) (o :: σ) ([] :: fs)
  | va {i : Nat} {d : D} {v : V} {f : List Addr} {M : MS} {σ : St} {fs : List (List Addr)} : Rp K F H d v f → SlR K F H P (i + 1) M σ fs → SlR K F H P i (.va d :: M) (some v :: σ) (f :: fs)
  | ol {i : Nat} {v : V} {M : MS} {σ : St} {fs : List (List Addr)} : P[i]? = some v → SlR K F H P (i + 1) M σ fs → SlR K F H P i (.ol :: M) (some v :: σ) ([] :: fs)
  | io {i : Nat} {d : D} {v : V} {f : List Addr} {M : MS} {σ : St} {fs : List (List Addr)} : P[i]? = some v → Rp K F H d v f → SlR K F H P (i + 1) M σ fs → SlR K F H P i (.io d :: M) (some v :: σ) (f :: fs)

/-- held values -/
inductive HdR (K : PySem.W.Frag) (F H : Hp) : List (V × D) → List (List Addr) → Prop
  | nil : HdR K F H [] []
  | cons {v : V} {d : D} {f : List Addr} {L : List (V × D)} {gs : List (List Addr)} : Rp K F H d v f → HdR K F H L gs → HdR K F H ((v, d) :: L) (f :: gs)

/-- what stays the same through a def's run: the arguments, what must stand, F at its entry, which slots are handed-in objects -/
structure Fx where
  P : List V
  G : Hp
  F0 : Hp
  sh : List Bool

structure SR (K : PySem.W.Frag) (fx : Fx) (M : MS) (L : List (V × D)) (σ : St) (F H : Hp) : Prop where
  sub : Same F H
  stay : Same fx.G H
  agree : ∀ b, fx.G b ≠ none → F b = fx.F0 b
  shape : M.map Slot.isIo = fx.sh
  rel : ∃ fs gs, SlR K F H fx.P 0 M σ fs ∧ HdR K F H L gs ∧ (∀ a, cnt a fs + cnt a gs ≤ 1) ∧ ∀ a, 0 < cnt a fs + cnt a gs → fx.G a = none

section
variable {K : PySem.W.Frag} {F F' H H' : Hp} {P : List V}
theorem SlR.len : ∀ {i : Nat} {M : MS} {σ : St} {fs : List (List Addr)}, SlR K F H P i M σ fs → M.length = σ.length ∧ fs.length = M.length
  | _, _, _, _, .nil => ⟨rfl, rfl⟩
  | _, _, _, _, .un r => by have := r.len; simp only [List.length_cons]; omega
  | _, _, _, _, .ol _ r => by have := r.len; simp only [List.length_cons]; omega
  | _, _, _, _, .va _ r => by have := r.len; simp only [List.length_cons]; omega
  | _, _, _, _, .io _ _ r => by have := r.len; simp only [List.length_cons]; omega
theorem SlR.mono (hF : Same F F') : ∀ {i : Nat} {M : MS} {σ : St} {fs : List (List Addr)}, (∀ b, 0 < cnt b fs → F' b = none ∧ H' b = H b) → SlR K F H P i M σ fs → SlR K F' H' P i M σ fs
  | _, _, _, _, _, .nil => .nil
  | _, _, _, _, h, .un r => .un (r.mono hF fun b z => h b (by simp only [cnt]; omega))
  | _, _, _, _, h, .ol e r => .ol e (r.mono hF fun b z => h b (by simp only [cnt]; omega))
  | _, _, _, _, h, .va p r => .va (Rp.mono hF _ _ _ (fun b z => h b (by have := List.count_pos_iff.mpr z; simp only [cnt]; omega)) p) (r.mono hF fun b z => h b (by simp only [cnt]; omega))
  | _, _, _, _, h, .io e p r => .io e (Rp.mono hF _ _ _ (fun b z => h b (by have := List.count_pos_iff.mpr z; simp only [cnt]; omega)) p) (r.mono hF fun b z => h b (by simp only [cnt]; omega))
theorem HdR.mono (hF : Same F F') : ∀ {L : List (V × D)} {gs : List (List Addr)}, (∀ b, 0 < cnt b gs → F' b = none ∧ H' b = H b) → HdR K F H L gs → HdR K F' H' L gs
  | _, _, _, .nil => .nil
  | _, _, h, .cons p r => .cons (Rp.mono hF _ _ _ (fun b z => h b (by have := List.count_pos_iff.mpr z; simp only [cnt]; omega)) p) (r.mono hF fun b z => h b (by simp only [cnt]; omega))
theorem SlR.foot : ∀ {i : Nat} {M : MS} {σ : St} {fs : List (List Addr)}, SlR K F H P i M σ fs → ∀ b, 0 < cnt b fs → F b = none ∧ ∃ o, H b = some o
  | _, _, _, _, .nil, b, z => by simp [cnt] at z
  | _, _, _, _, .un r, b, z => r.foot b (by simpa [cnt] using z)
  | _, _, _, _, .ol _ r, b, z => r.foot b (by simpa [cnt] using z)
  | _, _, _, _, .va (f := f) p r, b, z => by
    by_cases hb : b ∈ f
    · exact Rp.foot _ _ _ p b hb
    · refine r.foot b ?_
      have := List.count_eq_zero.mpr hb
      simp only [cnt] at z; omega
  | _, _, _, _, .io (f := f) _ p r, b, z => by
    by_cases hb : b ∈ f
    · exact Rp.foot _ _ _ p b hb
    · refine r.foot b ?_
      have := List.count_eq_zero.mpr hb
      simp only [cnt] at z; omega
theorem HdR.foot : ∀ {L : List (V × D)} {gs : List (List Addr)}, HdR K F H L gs → ∀ b, 0 < cnt b gs → F b = none ∧ ∃ o, H b = some o
  | _, _, .nil, b, z => by simp [cnt] at z
  | _, _, .cons (f := f) p r, b, z => by
    by_cases hb : b ∈ f
    · exact Rp.foot _ _ _ p b hb
    · refine r.foot b ?_
      have := List.count_eq_zero.mpr hb
      simp only [cnt] at z; omega
/-- what a slot holds -/
theorem SlR.va_at : ∀ {i j : Nat} {M : MS} {σ : St} {fs : List (List Addr)} {d : D}, SlR K F H P j M σ fs → M[i]? = some (.va d) → ∃ v f, σ[i]? = some (some v) ∧ fs[i]? = some f ∧ Rp K F H d v f
  | i, _, _, _, _, _, .nil, e => by simp at e
  | 0, _, _, _, _, _, .un r, e => by simp at e
  | 0, _, _, _, _, _, .ol _ r, e => by simp at e
  | i + 1, _, _, _, _, _, .ol _ r, e => by obtain ⟨v, f, h1, h2, h3⟩ := r.va_at (i := i) (by simpa using e); exact ⟨v, f, by simpa using h1, by simpa using h2, h3⟩
  | 0, _, _, _, _, _, .va p r, e => by simp at e; subst e; exact ⟨_, _, rfl, rfl, p⟩
  | 0, _, _, _, _, _, .io _ p r, e => by simp at e
  | i + 1, _, _, _, _, _, .un r, e => by obtain ⟨v, f, h1, h2, h3⟩ := r.va_at (i := i) (by simpa using e); exact ⟨v, f, by simpa using h1, by simpa using h2, h3⟩
  | i + 1, _, _, _, _, _, .va p r, e => by obtain ⟨v, f, h1, h2, h3⟩ := r.va_at (i := i) (by simpa using e); exact ⟨v, f, by simpa using h1, by simpa using h2, h3⟩
  | i + 1, _, _, _, _, _, .io _ p r, e => by obtain ⟨v, f, h1, h2, h3⟩ := r.va_at (i := i) (by simpa using e); exact ⟨v, f, by simpa using h1, by simpa using h2, h3⟩
theorem SlR.io_at : ∀ {i j : Nat} {M : MS} {σ : St} {fs : List (List Addr)} {d : D}, SlR K F H P j M σ fs → M[i]? = some (.io d) → ∃ v f, σ[i]? = some (some v) ∧ fs[i]? = some f ∧ Rp K F H d v f ∧ P[j + i]? = some v
  | i, _, _, _, _, _, .nil, e => by simp at e
  | 0, _, _, _, _, _, .un r, e => by simp at e
  | 0, _, _, _, _, _, .ol _ r, e => by simp at e
  | i + 1, j, _, _, _, _, .ol _ r, e => by obtain ⟨v, f, h1, h2, h3, h4⟩ := r.io_at (i := i) (by simpa using e); exact ⟨v, f, by simpa using h1, by simpa using h2, h3, by rw [← h4]; congr 1; omega⟩
  | 0, _, _, _, _, _, .io q p r, e => by simp at e; subst e; exact ⟨_, _, rfl, rfl, p, q⟩
  | 0, _, _, _, _, _, .va p r, e => by simp at e
  | i + 1, j, _, _, _, _, .un r, e => by obtain ⟨v, f, h1, h2, h3, h4⟩ := r.io_at (i := i) (by simpa using e); exact ⟨v, f, by simpa using h1, by simpa using h2, h3, by rw [← h4]; congr 1; omega⟩
  | i + 1, j, _, _, _, _, .va p r, e => by obtain ⟨v, f, h1, h2, h3, h4⟩ := r.io_at (i := i) (by simpa using e); exact ⟨v, f, by simpa using h1, by simpa using h2, h3, by rw [← h4]; congr 1; omega⟩
  | i + 1, j, _, _, _, _, .io _ p r, e => by obtain ⟨v, f, h1, h2, h3, h4⟩ := r.io_at (i := i) (by simpa using e); exact ⟨v, f, by simpa using h1, by simpa using h2, h3, by rw [← h4]; congr 1; omega⟩
/-- a slot that is no handed-in object is set -/
theorem SlR.set_va {d : D} {v : V} {g : List Addr} (q : Rp K F H d v g) : ∀ {i j : Nat} {M : MS} {σ : St} {fs : List (List Addr)} {s : Slot}, SlR K F H P j M σ fs → M[i]? = some s → s.isIo = false → SlR K F H P j (M.set i (.va d)) (σ.set i (some v)) (fs.set i g)
  | i, _, _, _, _, _, .nil, e, _ => by simp at e
  | 0, _, _, _, _, _, .un r, e, _ => .va q r
  | 0, _, _, _, _, _, .va p r, e, _ => .va q r
  | 0, _, _, _, _, _, .io _ p r, e, n => by simp at e; subst e; cases n
  | 0, _, _, _, _, _, .ol _ r, e, n => by simp at e; subst e; cases n
  | i + 1, _, _, _, _, _, .ol z r, e, n => .ol z (r.set_va q (by simpa using e) n)
  | i + 1, _, _, _, _, _, .un r, e, n => .un (r.set_va q (by simpa using e) n)
  | i + 1, _, _, _, _, _, .va p r, e, n => .va p (r.set_va q (by simpa using e) n)
  | i + 1, _, _, _, _, _, .io z p r, e, n => .io z p (r.set_va q (by simpa using e) n)
theorem SlR.set_un {o : Option V} : ∀ {i j : Nat} {M : MS} {σ : St} {fs : List (List Addr)} {s : Slot}, SlR K F H P j M σ fs → M[i]? = some s → s.isIo = false → SlR K F H P j (M.set i .un) (σ.set i o) (fs.set i [])
  | i, _, _, _, _, _, .nil, e, _ => by simp at e
  | 0, _, _, _, _, _, .un r, e, _ => .un r
  | 0, _, _, _, _, _, .va p r, e, _ => .un r
  | 0, _, _, _, _, _, .io _ p r, e, n => by simp at e; subst e; cases n
  | 0, _, _, _, _, _, .ol _ r, e, n => by simp at e; subst e; cases n
  | i + 1, _, _, _, _, _, .ol z r, e, n => .ol z (r.set_un (by simpa using e) n)
  | i + 1, _, _, _, _, _, .un r, e, n => .un (r.set_un (by simpa using e) n)
  | i + 1, _, _, _, _, _, .va p r, e, n => .va p (r.set_un (by simpa using e) n)
  | i + 1, _, _, _, _, _, .io z p r, e, n => .io z p (r.set_un (by simpa using e) n)
/-- the same slot, another tree of the same value -/
theorem SlR.turn_va {d d' : D} {v : V} {g : List Addr} (q : Rp K F H d' v g) : ∀ {i j : Nat} {M : MS} {σ : St} {fs : List (List Addr)}, SlR K F H P j M σ fs → M[i]? = some (.va d) → σ[i]? = some (some v) → SlR K F H P j (M.set i (.va d')) σ (fs.set i g)
  | i, _, _, _, _, .nil, e, _ => by simp at e
  | 0, _, _, _, _, .un r, e, _ => by simp at e
  | 0, _, _, _, _, .ol _ r, e, _ => by simp at e
  | i + 1, _, _, _, _, .ol y r, e, z => .ol y (r.turn_va q (by simpa using e) (by simpa using z))
  | 0, _, _, _, _, .va p r, e, z => by simp at z; subst z; exact .va q r
  | 0, _, _, _, _, .io _ p r, e, _ => by simp at e
  | i + 1, _, _, _, _, .un r, e, z => .un (r.turn_va q (by simpa using e) (by simpa using z))
  | i + 1, _, _, _, _, .va p r, e, z => .va p (r.turn_va q (by simpa using e) (by simpa using z))
  | i + 1, _, _, _, _, .io y p r, e, z => .io y p (r.turn_va q (by simpa using e) (by simpa using z))
theorem SlR.turn_io {d d' : D} {v : V} {g : List Addr} (q : Rp K F H d' v g) : ∀ {i j : Nat} {M : MS} {σ : St} {fs : List (List Addr)}, SlR K F H P j M σ fs → M[i]? = some (.io d) → σ[i]? = some (some v) → SlR K F H P j (M.set i (.io d')) σ (fs.set i g)
  | i, _, _, _, _, .nil, e, _ => by simp at e
  | 0, _, _, _, _, .un r, e, _ => by simp at e
  | 0, _, _, _, _, .ol _ r, e, _ => by simp at e
  | i + 1, _, _, _, _, .ol y r, e, z => .ol y (r.turn_io q (by simpa using e) (by simpa using z))
  | 0, _, _, _, _, .io y p r, e, z => by simp at z; subst z; exact .io y q r
  | 0, _, _, _, _, .va p r, e, _ => by simp at e
  | i + 1, _, _, _, _, .un r, e, z => .un (r.turn_io q (by simpa using e) (by simpa using z))
  | i + 1, _, _, _, _, .va p r, e, z => .va p (r.turn_io q (by simpa using e) (by simpa using z))
  | i + 1, _, _, _, _, .io y p r, e, z => .io y p (r.turn_io q (by simpa using e) (by simpa using z))
/-- a handed-in object is lent, and comes back -/
theorem SlR.set_ol : ∀ {i j : Nat} {M : MS} {σ : St} {fs : List (List Addr)} {d : D}, SlR K F H P j M σ fs → M[i]? = some (.io d) → SlR K F H P j (M.set i .ol) σ (fs.set i [])
  | i, _, _, _, _, _, .nil, e => by simp at e
  | 0, _, _, _, _, _, .un r, e => by simp at e
  | 0, _, _, _, _, _, .ol _ r, e => by simp at e
  | 0, _, _, _, _, _, .va p r, e => by simp at e
  | 0, _, _, _, _, _, .io y p r, e => .ol y r
  | i + 1, _, _, _, _, _, .un r, e => .un (r.set_ol (by simpa using e))
  | i + 1, _, _, _, _, _, .ol y r, e => .ol y (r.set_ol (by simpa using e))
  | i + 1, _, _, _, _, _, .va p r, e => .va p (r.set_ol (by simpa using e))
  | i + 1, _, _, _, _, _, .io y p r, e => .io y p (r.set_ol (by simpa using e))
theorem SlR.back_ol {d : D} {v : V} {g : List Addr} (q : Rp K F H d v g) : ∀ {i j : Nat} {M : MS} {σ : St} {fs : List (List Addr)}, SlR K F H P j M σ fs → M[i]? = some .ol → σ[i]? = some (some v) → SlR K F H P j (M.set i (.io d)) σ (fs.set i g)
  | i, _, _, _, _, .nil, e, _ => by simp at e
  | 0, _, _, _, _, .un r, e, _ => by simp at e
  | 0, _, _, _, _, .ol y r, e, z => by simp at z; subst z; exact .io y q r
  | 0, _, _, _, _, .va p r, e, _ => by simp at e
  | 0, _, _, _, _, .io y p r, e, _ => by simp at e
  | i + 1, _, _, _, _, .un r, e, z => .un (r.back_ol q (by simpa using e) (by simpa using z))
  | i + 1, _, _, _, _, .ol y r, e, z => .ol y (r.back_ol q (by simpa using e) (by simpa using z))
  | i + 1, _, _, _, _, .va p r, e, z => .va p (r.back_ol q (by simpa using e) (by simpa using z))
  | i + 1, _, _, _, _, .io y p r, e, z => .io y p (r.back_ol q (by simpa using e) (by simpa using z))
end
end TL
namespace TL
open PySem L2

mutual
def D.noOwn : D → Bool
  | .own _ => false
  | .obj _ _ _ => false
  | .tup l => D.noOwns l
  | _ => true
def D.noOwns : List D → Bool
  | [] => true
  | d :: l => d.noOwn && D.noOwns l
end
section
variable {K : PySem.W.Frag} {F F' H H' : Hp}
mutual
theorem Rp.clean : ∀ (d : D) (v : V) (f : List Addr), d.noOwn = true → Rp K F H d v f → f = []
  | .non, _, _, _, h => by cases h; rfl
  | .bl _, _, _, _, h => by cases h; rfl
  | .int _, _, _, _, h => by cases h; rfl
  | .str _, _, _, _, h => by cases h; rfl
  | .cls _, _, _, _, h => by cases h; rfl
  | .ty _, _, _, _, h => by cases h; rfl
  | .exc _, _, _, _, h => by cases h; rfl
  | .scr _, _, _, _, h => by cases h; rfl
  | .tup l, _, _, n, h => by
    cases h with
    | tup q r => exact Rps.clean l _ _ n r
  | .lst l, _, _, _, h => by cases h; rfl
  | .own l, _, _, n, h => by cases n
  | .obj _ _ l, _, _, n, h => by cases n
  | .fob _ _ l, _, _, n, h => by cases h; rfl
theorem Rps.clean : ∀ (l : List D) (vs : List V) (f : List Addr), D.noOwns l = true → Rps K F H l vs f → f = []
  | [], _, _, _, h => by cases h; rfl
  | d :: l, _, _, n, h => by
    cases h with
    | cons p q =>
      have n' : (d.noOwn && D.noOwns l) = true := n
      rw [Bool.and_eq_true] at n'
      rw [Rp.clean d _ _ n'.1 p, Rps.clean l _ _ n'.2 q]
      rfl
end
end

theorem noOwns_get : ∀ {l : List D} {i : Nat} {d : D}, D.noOwns l = true → l[i]? = some d → d.noOwn = true
  | [], i, d, _, e => by simp at e
  | x :: l, 0, d, h, e => by
    have h' : (x.noOwn && D.noOwns l) = true := h
    rw [Bool.and_eq_true] at h'
    simp at e; subst e; exact h'.1
  | x :: l, i + 1, d, h, e => by
    have h' : (x.noOwn && D.noOwns l) = true := h
    rw [Bool.and_eq_true] at h'
    exact noOwns_get (i := i) h'.2 (by simpa using e)
theorem noOwns_iff : ∀ {l : List D}, D.noOwns l = true ↔ ∀ d ∈ l, d.noOwn = true
  | [] => by simp [D.noOwns]
  | x :: l => by
    show (x.noOwn && D.noOwns l) = true ↔ _
    rw [Bool.and_eq_true, noOwns_iff (l := l)]
    simp

section
variable {K : PySem.W.Frag} {F F' H H' : Hp} {fx : Fx} {M : MS} {L L' : List (V × D)} {σ : St}
/-- the heap has grown -/
theorem SR.heap (h : SR K fx M L σ F H) (e : Same H H') : SR K fx M L σ F H' := by
  obtain ⟨sub, stay, agree, shape, fs, gs, r1, r2, c, g⟩ := h
  have k : ∀ b o, H b = some o → H' b = H b := fun b o q => by rw [q]; exact e b o q
  refine ⟨sub.trans e, stay.trans e, agree, shape, fs, gs, r1.mono (Same.refl _) fun b z => ?_, r2.mono (Same.refl _) fun b z => ?_, c, g⟩
  · obtain ⟨n, o, q⟩ := r1.foot b z; exact ⟨n, k b o q⟩
  · obtain ⟨n, o, q⟩ := r2.foot b z; exact ⟨n, k b o q⟩
theorem same_upd {H : Hp} {p : Addr} {o : HO} (n : H p = none) : Same H (upd H p o) := fun b u e => by
  rw [upd_ne (ne_of_none e n)]; exact e
theorem SR.noG (h : SR K fx M L σ F H) {p : Addr} (n : H p = none) : fx.G p = none := h.stay.free n
theorem SR.noF (h : SR K fx M L σ F H) {p : Addr} (n : H p = none) : F p = none := h.sub.free n
/-- a new frozen object that F learns -/
theorem SR.learn (h : SR K fx M L σ F H) {p : Addr} {o : HO} (n : H p = none) : SR K fx M L σ (upd F p o) (upd H p o) ∧ Same F (upd F p o) := by
  have h1 := h.heap (same_upd (o := o) n)
  have nF := h.noF n
  have sF : Same F (upd F p o) := same_upd nF
  obtain ⟨sub, stay, agree, shape, fs, gs, r1, r2, c, g⟩ := h
  obtain ⟨_, stay1, _, _⟩ := h1
  have ne : ∀ b, 0 < cnt b fs + cnt b gs → b ≠ p := fun b z e => by
    subst e
    rcases Nat.lt_or_ge 0 (cnt b fs) with z1 | z1
    · obtain ⟨_, u, q⟩ := r1.foot b z1; rw [n] at q; cases q
    · obtain ⟨_, u, q⟩ := r2.foot b (by omega); rw [n] at q; cases q
  refine ⟨⟨fun b u e => ?_, stay1, fun b z => ?_, shape, fs, gs, r1.mono sF fun b z => ?_, r2.mono sF fun b z => ?_, c, g⟩, sF⟩
  · by_cases hb : b = p
    · subst hb; rw [upd_same] at e ⊢; exact e
    · rw [upd_ne hb] at e ⊢; exact sub b u e
  · have hb : b ≠ p := fun e => by subst e; exact z (stay.free n)
    rw [upd_ne hb]; exact agree b z
  · have hb := ne b (by omega)
    rw [upd_ne hb, upd_ne hb]; exact ⟨(r1.foot b z).1, rfl⟩
  · have hb := ne b (by omega)
    rw [upd_ne hb, upd_ne hb]; exact ⟨(r2.foot b z).1, rfl⟩
theorem SR.push (h : SR K fx M L σ F H) {d : D} {v : V} (p : Rp K F H d v []) : SR K fx M ((v, d) :: L) σ F H := by
  obtain ⟨sub, stay, agree, shape, fs, gs, r1, r2, c, g⟩ := h
  exact ⟨sub, stay, agree, shape, fs, [] :: gs, r1, .cons p r2, fun a => by simpa [cnt] using c a, fun a z => g a (by simpa [cnt] using z)⟩
theorem SR.pop {p : V × D} (h : SR K fx M (p :: L) σ F H) : SR K fx M L σ F H := by
  obtain ⟨sub, stay, agree, shape, fs, gs, r1, r2, c, g⟩ := h
  cases r2 with
  | cons q r => exact ⟨sub, stay, agree, shape, fs, _, r1, r, fun a => by have := c a; simp only [cnt] at this; omega, fun a z => g a (by simp only [cnt]; omega)⟩
theorem SR.drop {Z : List (V × D)} (h : SR K fx M (Z ++ L) σ F H) : SR K fx M L σ F H := by
  induction Z with
  | nil => exact h
  | cons z Z ih => exact ih h.pop
/-- the top value -/
theorem SR.top {v : V} {d : D} (h : SR K fx M ((v, d) :: L) σ F H) : ∃ f, Rp K F H d v f := by
  obtain ⟨sub, stay, agree, shape, fs, gs, r1, r2, c, g⟩ := h
  cases r2 with
  | cons q r => exact ⟨_, q⟩
theorem SR.topC {v : V} {d : D} (h : SR K fx M ((v, d) :: L) σ F H) (n : d.noOwn = true) : Rp K F H d v [] := by
  obtain ⟨f, p⟩ := h.top
  rw [Rp.clean _ _ _ n p] at p; exact p
theorem hdr_perm {L L' : List (V × D)} (e : L.Perm L') : ∀ {gs : List (List Addr)}, HdR K F H L gs → ∃ gs', HdR K F H L' gs' ∧ ∀ a, cnt a gs' = cnt a gs := by
  induction e with
  | nil => intro gs h; exact ⟨gs, h, fun _ => rfl⟩
  | cons x _ ih =>
    intro gs h
    cases h with
    | cons q r => obtain ⟨g', h1, h2⟩ := ih r; exact ⟨_, .cons q h1, fun a => by simp only [cnt, h2]⟩
  | swap x y l =>
    intro gs h
    cases h with
    | cons q r =>
      cases r with
      | cons q' r' => exact ⟨_, .cons q' (.cons q r'), fun a => by simp only [cnt]; omega⟩
  | trans _ _ ih1 ih2 =>
    intro gs h
    obtain ⟨g1, h1, e1⟩ := ih1 h
    obtain ⟨g2, h2, e2⟩ := ih2 h1
    exact ⟨g2, h2, fun a => (e2 a).trans (e1 a)⟩
theorem SR.perm (h : SR K fx M L σ F H) (e : L.Perm L') : SR K fx M L' σ F H := by
  obtain ⟨sub, stay, agree, shape, fs, gs, r1, r2, c, g⟩ := h
  obtain ⟨gs', r2', ec⟩ := hdr_perm e r2
  exact ⟨sub, stay, agree, shape, fs, gs', r1, r2', fun a => by rw [ec]; exact c a, fun a z => g a (by rw [ec] at z; exact z)⟩
/-- held values taken together -/
theorem hdr_all : ∀ {vs : List V} {ds : List D} {L : List (V × D)} {gs : List (List Addr)}, vs.length = ds.length → HdR K F H (vs.zip ds ++ L) gs → ∃ f gs', Rps K F H ds vs f ∧ HdR K F H L gs' ∧ ∀ a, cnt a gs = f.count a + cnt a gs'
  | [], [], L, gs, _, h => ⟨[], gs, .nil, h, fun a => by simp⟩
  | v :: vs, d :: ds, L, gs, e, h => by
    cases h with
    | cons q r =>
      obtain ⟨f, gs', h1, h2, h3⟩ := hdr_all (by simpa using e) r
      exact ⟨_, gs', .cons q h1, h2, fun a => by simp only [cnt, h3, List.count_append]; omega⟩
  | [], _ :: _, _, _, e, _ => by simp at e
  | _ :: _, [], _, _, e, _ => by simp at e
/-- a new tuple of held values -/
theorem SR.tupNew {vs : List V} {ds : List D} {p : Addr} (h : SR K fx M (vs.zip ds ++ L) σ F H) (hl : vs.length = ds.length) (n : H p = none) :
    SR K fx M ((.ref p, .tup ds) :: L) σ (upd F p (.tup vs)) (upd H p (.tup vs)) ∧ Same F (upd F p (.tup vs)) := by
  obtain ⟨⟨sub, stay, agree, shape, fs, gs, r1, r2, c, g⟩, sF⟩ := h.learn (o := .tup vs) n
  obtain ⟨f, gs', h1, h2, h3⟩ := hdr_all hl r2
  exact ⟨⟨sub, stay, agree, shape, fs, f :: gs', r1, .cons (.tup (.inl (.inl upd_same)) h1) h2, fun a => by have := c a; have := h3 a; simp only [cnt]; omega, fun a z => g a (by have := h3 a; simp only [cnt] at z; omega)⟩, sF⟩
/-- a new list of held values, one's own -/
theorem SR.ownNew {vs : List V} {ds : List D} {p : Addr} (h : SR K fx M (vs.zip ds ++ L) σ F H) (hl : vs.length = ds.length) (n : H p = none) :
    SR K fx M ((.ref p, .own ds) :: L) σ F (upd H p (.lst vs)) := by
  have nF := h.noF n
  have nG := h.noG n
  have np : ∀ gs fs, SlR K F H fx.P 0 M σ fs → HdR K F H (vs.zip ds ++ L) gs → cnt p fs + cnt p gs = 0 := fun gs fs r1 r2 => by
    rcases Nat.lt_or_ge 0 (cnt p fs) with z1 | z1
    · obtain ⟨_, u, q⟩ := r1.foot p z1; rw [n] at q; cases q
    · rcases Nat.lt_or_ge 0 (cnt p gs) with z2 | z2
      · obtain ⟨_, u, q⟩ := r2.foot p z2; rw [n] at q; cases q
      · omega
  have z0 : ∀ gs fs, SlR K F H fx.P 0 M σ fs → HdR K F H (vs.zip ds ++ L) gs → SlR K F (upd H p (.lst vs)) fx.P 0 M σ fs ∧ HdR K F (upd H p (.lst vs)) (vs.zip ds ++ L) gs := fun gs fs r1 r2 => by
    have k : ∀ b o, H b = some o → upd H p (.lst vs) b = H b := fun b o q => upd_ne (ne_of_none q n)
    exact ⟨r1.mono (Same.refl _) fun b z => by obtain ⟨m, o, q⟩ := r1.foot b z; exact ⟨m, k b o q⟩, r2.mono (Same.refl _) fun b z => by obtain ⟨m, o, q⟩ := r2.foot b z; exact ⟨m, k b o q⟩⟩
  obtain ⟨sub, stay, agree, shape, fs, gs, r1, r2, c, g⟩ := h
  have zp := np gs fs r1 r2
  obtain ⟨r1', r2'⟩ := z0 gs fs r1 r2
  obtain ⟨f, gs', h1, h2, h3⟩ := hdr_all hl r2'
  refine ⟨sub.trans (same_upd n), stay.trans (same_upd n), agree, shape, fs, (p :: f) :: gs', r1', .cons (.own nF upd_same h1) h2, fun a => ?_, fun a z => ?_⟩
  · have h3a := h3 a
    have ca := c a
    simp only [cnt, List.count_cons]
    by_cases e : p = a
    · subst e; simp; omega
    · simp [e]; omega
  · have h3a := h3 a
    simp only [cnt, List.count_cons] at z
    by_cases e : p = a
    · subst e; exact nG
    · refine g a ?_
      simp [e] at z; omega
/-- what is held on top is frozen -/
theorem SR.frzTop {v : V} {d : D} (h : SR K fx M ((v, d) :: L) σ F H) : ∃ F', SR K fx M ((v, d.frz) :: L) σ F' H ∧ Same F F' ∧ Rp K F' H d.frz v [] := by
  obtain ⟨sub, stay, agree, shape, fs, gs, r1, r2, c, g⟩ := h
  cases r2 with
  | @cons _ _ f _ gs q r =>
    have hF : Same F (fun b => if b ∈ f then H b else F b) := fun b o e => by
      have nb : b ∉ f := fun z => by have := (Rp.foot _ _ _ q b z).1; rw [e] at this; cases this
      show (if b ∈ f then H b else F b) = some o
      rw [if_neg nb]; exact e
    have nb : ∀ b, 0 < cnt b fs + cnt b gs → b ∉ f := fun b z hb => by
      have := List.count_pos_iff.mpr hb
      have := c b
      simp only [cnt] at this; omega
    have pf := Rp.frz (H' := H) hF _ _ _ (fun b z => by show (if b ∈ f then H b else F b) = H b; rw [if_pos z]) q
    refine ⟨fun b => if b ∈ f then H b else F b, ⟨fun b o e => ?_, stay, fun b z => ?_, shape, fs, [] :: gs, r1.mono hF fun b z => ?_, .cons pf (r.mono hF fun b z => ?_), fun a => ?_, fun a z => ?_⟩, hF, pf⟩
    · have e' : (if b ∈ f then H b else F b) = some o := e
      by_cases hb : b ∈ f
      · rw [if_pos hb] at e'; exact e'
      · rw [if_neg hb] at e'; exact sub b o e'
    · have hb : b ∉ f := fun hb => z (g b (by have := List.count_pos_iff.mpr hb; simp only [cnt]; omega))
      show (if b ∈ f then H b else F b) = _
      rw [if_neg hb]; exact agree b z
    · refine ⟨?_, rfl⟩
      show (if b ∈ f then H b else F b) = none
      rw [if_neg (nb b (by omega))]; exact (r1.foot b z).1
    · refine ⟨?_, rfl⟩
      show (if b ∈ f then H b else F b) = none
      rw [if_neg (nb b (by omega))]; exact (r.foot b z).1
    · have := c a; simp only [cnt, List.count_nil] at this ⊢; omega
    · exact g a (by simp only [cnt, List.count_nil] at z ⊢; omega)
/-- a slot is set to what is held on top -/
theorem SR.setVa {v : V} {d : D} {i : Nat} {s : Slot} (h : SR K fx M ((v, d) :: L) σ F H) (e : M[i]? = some s) (n : s.isIo = false) : SR K fx (M.set i (.va d)) L (σ.set i (some v)) F H := by
  obtain ⟨sub, stay, agree, shape, fs, gs, r1, r2, c, g⟩ := h
  cases r2 with
  | @cons _ _ f _ gs q r =>
    obtain ⟨hl1, hl2⟩ := r1.len
    have hi : i < fs.length := by rw [hl2]; exact (List.getElem?_eq_some_iff.mp e).1
    have e2 : fs[i]? = some fs[i] := List.getElem?_eq_getElem hi
    refine ⟨sub, stay, agree, ?_, fs.set i f, gs, r1.set_va q e n, r, fun a => ?_, fun a z => ?_⟩
    · rw [← shape, List.map_set]
      obtain ⟨hi', e'⟩ := List.getElem?_eq_some_iff.mp e
      have z : (M.map Slot.isIo)[i]? = some false := by rw [List.getElem?_map, e]; simp [n]
      apply List.ext_getElem?
      intro j
      by_cases hj : j = i
      · subst hj
        rw [List.getElem?_set_self (by rw [List.length_map]; exact hi'), z]; rfl
      · rw [List.getElem?_set_ne (Ne.symm hj)]
    · have := cnt_set a fs i _ f e2
      have := c a
      simp only [cnt] at this ⊢; omega
    · refine g a ?_
      have := cnt_set a fs i _ f e2
      simp only [cnt] at z ⊢; omega
theorem setNoIo {i : Nat} {s t : Slot} (e : M[i]? = some s) (n : s.isIo = t.isIo) : (M.set i t).map Slot.isIo = M.map Slot.isIo := by
  rw [List.map_set]
  obtain ⟨hi', e'⟩ := List.getElem?_eq_some_iff.mp e
  have z : (M.map Slot.isIo)[i]? = some t.isIo := by rw [List.getElem?_map, e]; simp [n]
  apply List.ext_getElem?
  intro j
  by_cases hj : j = i
  · subst hj
    rw [List.getElem?_set_self (by rw [List.length_map]; exact hi'), z]
  · rw [List.getElem?_set_ne (Ne.symm hj)]
/-- a slot's value, its tree -/
theorem SR.at (h : SR K fx M L σ F H) {i : Nat} {d : D} (e : M[i]? = some (.va d) ∨ M[i]? = some (.io d)) : ∃ v f, σ[i]? = some (some v) ∧ Rp K F H d v f := by
  obtain ⟨sub, stay, agree, shape, fs, gs, r1, r2, c, g⟩ := h
  rcases e with e | e
  · obtain ⟨v, f, h1, _, h3⟩ := r1.va_at e; exact ⟨v, f, h1, h3⟩
  · obtain ⟨v, f, h1, _, h3, _⟩ := r1.io_at e; exact ⟨v, f, h1, h3⟩
/-- a slot's tree is moved out -/
theorem SR.move (h : SR K fx M L σ F H) {i : Nat} {d : D} (e : M[i]? = some (.va d)) : ∃ v, σ[i]? = some (some v) ∧ SR K fx (M.set i .un) ((v, d) :: L) σ F H := by
  obtain ⟨sub, stay, agree, shape, fs, gs, r1, r2, c, g⟩ := h
  obtain ⟨v, f, h1, h2, h3⟩ := r1.va_at e
  have r := r1.set_un (o := some v) e rfl
  have es : σ.set i (some v) = σ := by
    apply List.ext_getElem?
    intro j
    by_cases hj : j = i
    · subst hj; rw [List.getElem?_set_self (List.getElem?_eq_some_iff.mp h1).1, h1]
    · rw [List.getElem?_set_ne (Ne.symm hj)]
  rw [es] at r
  refine ⟨v, h1, sub, stay, agree, by rw [setNoIo (t := .un) e rfl]; exact shape, fs.set i [], f :: gs, r, .cons h3 r2, fun a => ?_, fun a z => ?_⟩
  · have h4 := cnt_set a fs i _ [] h2
    have h5 := c a
    simp only [cnt, List.count_nil] at h4 h5 ⊢; omega
  · refine g a ?_
    have h4 := cnt_set a fs i _ [] h2
    simp only [cnt, List.count_nil] at h4 z ⊢; omega
/-- a slot's tree without own parts is copied -/
theorem SR.copy (h : SR K fx M L σ F H) {i : Nat} {d : D} (e : M[i]? = some (.va d) ∨ M[i]? = some (.io d)) (n : d.noOwn = true) : ∃ v, σ[i]? = some (some v) ∧ SR K fx M ((v, d) :: L) σ F H := by
  obtain ⟨v, f, h1, h2⟩ := h.at e
  rw [Rp.clean _ _ _ n h2] at h2
  exact ⟨v, h1, h.push h2⟩
/-- what is held on top is put back to a slot of the same value -/
theorem SR.back {v : V} {d : D} {i : Nat} (h : SR K fx M ((v, d) :: L) σ F H) (e : M[i]? = some .un) (hv : σ[i]? = some (some v)) : SR K fx (M.set i (.va d)) L σ F H := by
  obtain ⟨sub, stay, agree, shape, fs, gs, r1, r2, c, g⟩ := h
  cases r2 with
  | @cons _ _ f _ gs q r =>
    obtain ⟨hl1, hl2⟩ := r1.len
    have hi : i < fs.length := by rw [hl2]; exact (List.getElem?_eq_some_iff.mp e).1
    have e2 : fs[i]? = some fs[i] := List.getElem?_eq_getElem hi
    have r' := r1.set_va q e rfl
    have es : σ.set i (some v) = σ := by
      apply List.ext_getElem?
      intro j
      by_cases hj : j = i
      · subst hj; rw [List.getElem?_set_self (List.getElem?_eq_some_iff.mp hv).1, hv]
      · rw [List.getElem?_set_ne (Ne.symm hj)]
    rw [es] at r'
    refine ⟨sub, stay, agree, by rw [setNoIo (t := .va d) e rfl]; exact shape, fs.set i f, gs, r', r, fun a => ?_, fun a z => ?_⟩
    · have := cnt_set a fs i _ f e2
      have := c a
      simp only [cnt] at this ⊢; omega
    · refine g a ?_
      have := cnt_set a fs i _ f e2
      simp only [cnt] at z ⊢; omega
/-- a slot is frozen where it is -/
theorem SR.frzAt (h : SR K fx M L σ F H) {i : Nat} {d : D} (e : M[i]? = some (.va d)) : ∃ v F', σ[i]? = some (some v) ∧ SR K fx (M.set i (.va d.frz)) L σ F' H ∧ Same F F' ∧ Rp K F' H d.frz v [] := by
  obtain ⟨v, hv, h1⟩ := h.move e
  obtain ⟨F', h2, s, p⟩ := h1.frzTop
  have hi : i < M.length := (List.getElem?_eq_some_iff.mp e).1
  have h3 := h2.back (i := i) (by rw [List.getElem?_set_self hi]) hv
  rw [List.set_set] at h3
  exact ⟨v, F', hv, h3, s, p⟩
theorem count_c (x a : Addr) (f : List Addr) : (a :: f).count x = f.count x + if x = a then 1 else 0 := by
  rw [List.count_cons]
  by_cases z : x = a
  · subst z; simp
  · have z' : ¬ a = x := fun e => z e.symm
    simp [z, z']
def Slot.mk (b : Bool) (d : D) : Slot := match b with
  | true => .io d
  | false => .va d
set_option maxHeartbeats 1000000 in
/-- an own list in a slot is changed: from what it held (f) and what is held on top (g) -/
theorem SR.write {i : Nat} {ds ds' : List D} {v : V} {b : Bool} {Z : List (V × D)} (h : SR K fx M (Z ++ L) σ F H) (e : M[i]? = some (Slot.mk b (.own ds))) (hv : σ[i]? = some (some v)) :
    ∃ a vs, v = .ref a ∧ H a = some (.lst vs) ∧ ds.length = vs.length ∧ ∀ vs', (∀ f gs, Rps K F H ds vs f → HdR K F H Z gs → ∃ f', Rps K F H ds' vs' f' ∧ ∀ x, f'.count x ≤ f.count x + cnt x gs) →
      SR K fx (M.set i (Slot.mk b (.own ds'))) L σ F (upd H a (.lst vs')) := by
  obtain ⟨sub, stay, agree, shape, fs, gs, r1, r2, c, g⟩ := h
  have hz : ∃ gz gl, HdR K F H Z gz ∧ HdR K F H L gl ∧ ∀ x, cnt x gs = cnt x gz + cnt x gl := by
    clear c g
    induction Z generalizing gs with
    | nil => exact ⟨[], gs, .nil, r2, fun x => by simp [cnt]⟩
    | cons z Z ih =>
      cases r2 with
      | cons q r => obtain ⟨gz, gl, h1, h2, h3⟩ := ih _ r; exact ⟨_, gl, .cons q h1, h2, fun x => by simp only [cnt, h3]; omega⟩
  obtain ⟨gz, gl, rz, rl, hc⟩ := hz
  have hat : ∃ f, fs[i]? = some f ∧ Rp K F H (.own ds) v f := by
    cases b with
    | false =>
      obtain ⟨w, f, h1, h2, h3⟩ := r1.va_at (show M[i]? = some (.va (.own ds)) from e)
      rw [hv] at h1; cases h1; exact ⟨f, h2, h3⟩
    | true =>
      obtain ⟨w, f, h1, h2, h3, _⟩ := r1.io_at (show M[i]? = some (.io (.own ds)) from e)
      rw [hv] at h1; cases h1; exact ⟨f, h2, h3⟩
  obtain ⟨f, hf, q⟩ := hat
  generalize hd : D.own ds = dd at q
  cases q <;> try (cases hd; done)
  rename_i a vs l f nF hH r
  cases hd
  refine ⟨a, vs, rfl, hH, r.len, fun vs' mk => ?_⟩
  obtain ⟨f', r', le⟩ := mk f gz r rz
  have fa : ∀ x, (a :: f).count x = f.count x + if x = a then 1 else 0 := fun x => count_c x a f
  have ca : cnt a fs = 1 ∧ cnt a gs = 0 ∧ f.count a = 0 := by
    have h1 := cnt_get (a := a) hf
    have h2 := c a
    rw [fa a, if_pos rfl] at h1
    omega
  have ga : fx.G a = none := g a (by omega)
  have f'a : f'.count a = 0 := by have := le a; have := hc a; omega
  have keep : ∀ x, x ≠ a → upd H a (.lst vs') x = H x := fun x z => upd_ne z
  have new : Rp K F (upd H a (.lst vs')) (.own ds') (.ref a) (a :: f') :=
    .own nF upd_same (Rps.mono (Same.refl _) _ _ _ (fun x z => ⟨(Rps.foot _ _ _ r' x z).1, keep x fun e => by subst e; have := List.count_pos_iff.mpr z; omega⟩) r')
  -- the other slots
  have hi : i < fs.length := (List.getElem?_eq_some_iff.mp hf).1
  have cs := cnt_set a fs i _ [] hf
  have others : ∀ x, 0 < cnt x (fs.set i []) → x ≠ a := fun x z e => by
    subst e
    rw [fa x, if_pos rfl] at cs
    simp only [List.count_nil] at cs; omega
  have hset : SlR K F (upd H a (.lst vs')) fx.P 0 (M.set i (Slot.mk b (.own ds'))) σ (fs.set i (a :: f')) := by
    have step : ∀ {j i : Nat} {M : MS} {σ : St} {fs : List (List Addr)}, SlR K F H fx.P j M σ fs → M[i]? = some (Slot.mk b (.own ds)) → σ[i]? = some (some (V.ref a)) → (∀ x, 0 < cnt x (fs.set i []) → x ≠ a) →
        SlR K F (upd H a (.lst vs')) fx.P j (M.set i (Slot.mk b (.own ds'))) σ (fs.set i (a :: f')) := by
      have mo : ∀ {j : Nat} {M : MS} {σ : St} {fs : List (List Addr)}, SlR K F H fx.P j M σ fs → (∀ x, 0 < cnt x fs → x ≠ a) → SlR K F (upd H a (.lst vs')) fx.P j M σ fs := fun r z =>
        r.mono (Same.refl _) fun x y => ⟨(r.foot x y).1, keep x (z x y)⟩
      intro j i M σ fs r
      induction r generalizing i with
      | nil => intro e; simp at e
      | un r ih =>
        intro e hv ho
        cases i with
        | zero => cases b <;> simp [Slot.mk] at e
        | succ i => exact .un (ih (by simpa using e) (by simpa using hv) fun x z => ho x (by simpa [cnt] using z))
      | ol y r ih =>
        intro e hv ho
        cases i with
        | zero => cases b <;> simp [Slot.mk] at e
        | succ i => exact .ol y (ih (by simpa using e) (by simpa using hv) fun x z => ho x (by simpa [cnt] using z))
      | va p r ih =>
        intro e hv ho
        cases i with
        | zero =>
          cases b with
          | true => simp [Slot.mk] at e
          | false =>
            simp at hv
            subst hv
            exact .va new (mo r fun x z => ho x (by simpa [cnt] using z))
        | succ i => exact .va (Rp.mono (Same.refl _) _ _ _ (fun x z => ⟨(Rp.foot _ _ _ p x z).1, keep x (ho x (by have := List.count_pos_iff.mpr z; simp only [List.set_cons_succ, cnt]; omega))⟩) p) (ih (by simpa using e) (by simpa using hv) fun x z => ho x (by simp only [List.set_cons_succ, cnt]; omega))
      | io y p r ih =>
        intro e hv ho
        cases i with
        | zero =>
          cases b with
          | false => simp [Slot.mk] at e
          | true =>
            simp at hv
            subst hv
            exact .io y new (mo r fun x z => ho x (by simpa [cnt] using z))
        | succ i => exact .io y (Rp.mono (Same.refl _) _ _ _ (fun x z => ⟨(Rp.foot _ _ _ p x z).1, keep x (ho x (by have := List.count_pos_iff.mpr z; simp only [List.set_cons_succ, cnt]; omega))⟩) p) (ih (by simpa using e) (by simpa using hv) fun x z => ho x (by simp only [List.set_cons_succ, cnt]; omega))
    exact step r1 e hv others
  have nea : ∀ x o, F x = some o → x ≠ a := fun x o z e => by subst e; rw [nF] at z; cases z
  refine ⟨fun x o z => ?_, fun x o z => ?_, agree, ?_, fs.set i (a :: f'), gl, hset, rl.mono (Same.refl _) fun x z => ⟨(rl.foot x z).1, keep x fun e => ?_⟩, fun x => ?_, fun x z => ?_⟩
  · rw [keep x (nea x o z)]; exact sub x o z
  · rw [keep x fun e => by subst e; rw [ga] at z; cases z]; exact stay x o z
  · rw [setNoIo (t := Slot.mk b (.own ds')) e (by cases b <;> rfl)]; exact shape
  · subst e; have := hc x; omega
  · have h1 := cnt_set x fs i _ (a :: f') hf
    have h2 := c x
    have h3 := hc x
    have h4 := le x
    rw [fa x] at h1
    rw [count_c x a f'] at h1
    omega
  · refine g x ?_
    have h1 := cnt_set x fs i _ (a :: f') hf
    have h3 := hc x
    have h4 := le x
    rw [fa x] at h1
    rw [count_c x a f'] at h1
    omega
/-- a handed-in object is lent -/
theorem SR.lendIo (h : SR K fx M L σ F H) {i : Nat} {d : D} (e : M[i]? = some (.io d)) : ∃ v, σ[i]? = some (some v) ∧ SR K fx (M.set i .ol) ((v, d) :: L) σ F H := by
  obtain ⟨sub, stay, agree, shape, fs, gs, r1, r2, c, g⟩ := h
  obtain ⟨v, f, h1, h2, h3, _⟩ := r1.io_at e
  refine ⟨v, h1, sub, stay, agree, by rw [setNoIo (t := .ol) e rfl]; exact shape, fs.set i [], f :: gs, r1.set_ol e, .cons h3 r2, fun a => ?_, fun a z => ?_⟩
  · have h4 := cnt_set a fs i _ [] h2
    have h5 := c a
    simp only [cnt, List.count_nil] at h4 h5 ⊢; omega
  · refine g a ?_
    have h4 := cnt_set a fs i _ [] h2
    simp only [cnt, List.count_nil] at h4 z ⊢; omega
theorem SR.backIo {v : V} {d : D} {i : Nat} (h : SR K fx M ((v, d) :: L) σ F H) (e : M[i]? = some .ol) (hv : σ[i]? = some (some v)) : SR K fx (M.set i (.io d)) L σ F H := by
  obtain ⟨sub, stay, agree, shape, fs, gs, r1, r2, c, g⟩ := h
  cases r2 with
  | @cons _ _ f _ gs q r =>
    obtain ⟨hl1, hl2⟩ := r1.len
    have hi : i < fs.length := by rw [hl2]; exact (List.getElem?_eq_some_iff.mp e).1
    have e2 : fs[i]? = some fs[i] := List.getElem?_eq_getElem hi
    refine ⟨sub, stay, agree, by rw [setNoIo (t := .io d) e rfl]; exact shape, fs.set i f, gs, r1.back_ol q e hv, r, fun a => ?_, fun a z => ?_⟩
    · have := cnt_set a fs i _ f e2
      have := c a
      simp only [cnt] at this ⊢; omega
    · refine g a ?_
      have := cnt_set a fs i _ f e2
      simp only [cnt] at z ⊢; omega
/-- slots forgotten -/
def wipeM (M : MS) : List Nat → MS
  | [] => M
  | i :: is => (wipeM M is).set i .un
def plainS (M : MS) (i : Nat) : Bool := match M[i]? with
  | some s => !s.isIo
  | none => false
theorem plain_set {M : MS} {i j : Nat} (h : plainS M i = true) : plainS (M.set j .un) i = true := by
  unfold plainS at h ⊢
  by_cases e : i = j
  · subst e
    split at h
    · rename_i q
      rw [List.getElem?_set_self (List.getElem?_eq_some_iff.mp q).1]; rfl
    · cases h
  · rw [List.getElem?_set_ne (Ne.symm e)]; exact h
theorem plain_wipe {M : MS} {i : Nat} (h : plainS M i = true) : ∀ {is : List Nat}, plainS (wipeM M is) i = true
  | [] => h
  | j :: is => plain_set (plain_wipe h)
theorem SR.wipe (h : SR K fx M L σ F H) : ∀ {is : List Nat}, (∀ i ∈ is, plainS M i = true) → SR K fx (wipeM M is) L (L2.wipe σ is) F H
  | [], _ => h
  | i :: is, hp => by
    obtain ⟨sub, stay, agree, shape, fs, gs, r1, r2, c, g⟩ := SR.wipe h (is := is) fun j hj => hp j (List.mem_cons_of_mem _ hj)
    have pl := plain_wipe (is := is) (hp i List.mem_cons_self)
    unfold plainS at pl
    split at pl
    · rename_i s q
      have n : s.isIo = false := by simpa using pl
      obtain ⟨hl1, hl2⟩ := r1.len
      have hi : i < fs.length := by rw [hl2]; exact (List.getElem?_eq_some_iff.mp q).1
      have e2 : fs[i]? = some fs[i] := List.getElem?_eq_getElem hi
      refine ⟨sub, stay, agree, by unfold wipeM; rw [setNoIo (t := .un) q n]; exact shape, fs.set i [], gs, r1.set_un q n, r2, fun a => ?_, fun a z => ?_⟩
      · have := cnt_set a fs i _ [] e2
        have := c a
        simp only [List.count_nil] at *; omega
      · refine g a ?_
        have := cnt_set a fs i _ [] e2
        simp only [List.count_nil] at *; omega
    · cases pl
theorem SlR.unwipe {P : List V} : ∀ {i j : Nat} {M : MS} {σ : St} {fs : List (List Addr)} {o : Option V}, SlR K F H P j M (σ.set i none) fs → M[i]? = some .un → σ[i]? = some o → SlR K F H P j M σ fs
  | i, _, _, [], _, _, .nil, e, _ => by simp at e
  | 0, _, _, _ :: _, _, _, .un r, e, _ => .un r
  | i + 1, _, _, _ :: _, _, _, .un r, e, z => .un (r.unwipe (by simpa using e) (by simpa using z))
  | i + 1, _, _, _ :: _, _, _, .ol y r, e, z => .ol y (r.unwipe (by simpa using e) (by simpa using z))
  | i + 1, _, _, _ :: _, _, _, .va p r, e, z => .va p (r.unwipe (by simpa using e) (by simpa using z))
  | i + 1, _, _, _ :: _, _, _, .io y p r, e, z => .io y p (r.unwipe (by simpa using e) (by simpa using z))
theorem wipeM_length {M : MS} : ∀ {is : List Nat}, (wipeM M is).length = M.length
  | [] => rfl
  | i :: is => by unfold wipeM; rw [List.length_set, wipeM_length]
theorem wipeM_un {M : MS} : ∀ {is : List Nat} {i : Nat}, i ∈ is → i < M.length → (wipeM M is)[i]? = some .un
  | j :: is, i, hi, hl => by
    unfold wipeM
    by_cases e : i = j
    · subst e; rw [List.getElem?_set_self (by rw [wipeM_length]; exact hl)]
    · rw [List.getElem?_set_ne (Ne.symm e)]
      exact wipeM_un (by simpa [e] using hi) hl
theorem SR.unwipe {M : MS} : ∀ {is js : List Nat}, (∀ i ∈ is, i ∈ js) → SR K fx (wipeM M js) L (L2.wipe σ is) F H → SR K fx (wipeM M js) L σ F H
  | [], _, _, h => h
  | i :: is, js, hs, h => by
    refine SR.unwipe (is := is) (fun j hj => hs j (List.mem_cons_of_mem _ hj)) ?_
    obtain ⟨sub, stay, agree, shape, fs, gs, r1, r2, c, g⟩ := h
    refine ⟨sub, stay, agree, shape, fs, gs, ?_, r2, c, g⟩
    by_cases hl : i < M.length
    · have e := wipeM_un (M := M) (hs i List.mem_cons_self) hl
      have r1' : SlR K F H fx.P 0 (wipeM M js) ((L2.wipe σ is).set i none) fs := r1
      have hl2 := r1'.len.1
      rw [List.length_set, wipeM_length] at hl2
      exact r1'.unwipe e (List.getElem?_eq_getElem (by rw [← hl2]; exact hl))
    · have r1' : SlR K F H fx.P 0 (wipeM M js) ((L2.wipe σ is).set i none) fs := r1
      have hl2 := r1'.len.1
      rw [List.length_set, wipeM_length] at hl2
      have e : (L2.wipe σ is).set i none = L2.wipe σ is := by
        apply List.ext_getElem?
        intro k
        by_cases hk : i = k
        · subst hk
          rw [List.getElem?_eq_none (by rw [List.length_set]; omega), List.getElem?_eq_none (by omega)]
        · rw [List.getElem?_set_ne hk]
      rw [e] at r1'
      exact r1'
/-- a held own list grows by what is held above it -/
theorem SR.appTop {y : V} {d : D} {D0 : Addr} {acc : List D} (h : SR K fx M ((y, d) :: (.ref D0, .own acc) :: L) σ F H) : ∃ vs, H D0 = some (.lst vs) ∧ vs.length = acc.length ∧ SR K fx M ((.ref D0, .own (acc ++ [d])) :: L) σ F (upd H D0 (.lst (vs ++ [y]))) := by
  obtain ⟨sub, stay, agree, shape, fs, gs, r1, r2, c, g⟩ := h
  cases r2 with
  | @cons _ _ f _ gs q r =>
    cases r with
    | @cons _ _ f2 _ gl q2 r =>
      cases q2 with
      | @own a vs l f3 nF hH rr =>
        refine ⟨vs, hH, rr.len.symm, ?_⟩
        have cD := c D0
        simp only [cnt, count_c, if_pos] at cD
        have keep : ∀ x, x ≠ D0 → upd H D0 (.lst (vs ++ [y])) x = H x := fun x z => upd_ne z
        have gD : fx.G D0 = none := g D0 (by simp only [cnt, count_c, if_pos]; omega)
        have r3 : Rps K F H (acc ++ [d]) (vs ++ [y]) (f3 ++ (f ++ [])) := rr.append (.cons q .nil)
        rw [List.append_nil] at r3
        have nea : ∀ x, x ∈ f3 ++ f → x ≠ D0 := fun x z e => by
          subst e
          have := List.count_pos_iff.mpr z
          rw [List.count_append] at this
          omega
        have r4 : Rps K F (upd H D0 (.lst (vs ++ [y]))) (acc ++ [d]) (vs ++ [y]) (f3 ++ f) := Rps.mono (Same.refl _) _ _ _ (fun x z => ⟨(Rps.foot _ _ _ r3 x z).1, keep x (nea x z)⟩) r3
        refine ⟨fun x o z => ?_, fun x o z => ?_, agree, shape, fs, (D0 :: (f3 ++ f)) :: gl, r1.mono (Same.refl _) fun x z => ⟨(r1.foot x z).1, keep x fun e => by subst e; omega⟩,
          .cons (.own nF upd_same r4) (r.mono (Same.refl _) fun x z => ⟨(r.foot x z).1, keep x fun e => by subst e; omega⟩), fun x => ?_, fun x z => ?_⟩
        · rw [keep x fun e => by subst e; rw [nF] at z; cases z]; exact sub x o z
        · rw [keep x fun e => by subst e; rw [gD] at z; cases z]; exact stay x o z
        · have h1 := c x
          simp only [cnt, count_c, List.count_append] at h1 ⊢
          omega
        · refine g x ?_
          simp only [cnt, count_c, List.count_append] at z ⊢
          omega
end
end TL
namespace TL
open PySem PyProof.Rows L2

abbrev DQ := D → MS → Prop
abbrev DX := Addr → MS → Prop
abbrev DE := MS → DQ → DX → Prop
abbrev DT := MS → (Bool → MS → Prop) → DX → Prop
abbrev DA := MS → (List D → MS → Prop) → DX → Prop
structure DEnds where
  nx : MS → Prop
  rt : DQ
  bk : MS → Prop := fun _ => False
  ct : MS → Prop := fun _ => False
  xr : DX := fun _ _ => False
abbrev DS := DEnds → MS → Prop

/-- the tree in a slot -/
def MS.at : MS → Nat → Option D
  | [], _ => none
  | .un :: _, 0 => none
  | .ol :: _, 0 => none
  | .va d :: _, 0 => some d
  | .io d :: _, 0 => some d
  | _ :: M, i + 1 => MS.at M i
theorem ms_at : ∀ {M : MS} {i : Nat} {d : D}, M.at i = some d ↔ (M[i]? = some (.va d) ∨ M[i]? = some (.io d))
  | [], i, d => by simp [MS.at]
  | s :: M, 0, d => by cases s <;> simp [MS.at]
  | s :: M, i + 1, d => by
    have := ms_at (M := M) (i := i) (d := d)
    cases s <;> simpa [MS.at] using this

def asI : D → (Int → Prop) → Prop
  | .int i, k => k i
  | _, _ => False
def asB : D → (Bool → Prop) → Prop
  | .bl b, k => k b
  | _, _ => False
def asStr : D → (Str → Prop) → Prop
  | .str x, k => k x
  | _, _ => False
theorem asI_iff {d : D} {k : Int → Prop} : asI d k ↔ ∃ i, d = .int i ∧ k i := by cases d <;> simp [asI]
theorem asB_iff {d : D} {k : Bool → Prop} : asB d k ↔ ∃ i, d = .bl i ∧ k i := by cases d <;> simp [asB]
theorem asStr_iff {d : D} {k : Str → Prop} : asStr d k ↔ ∃ i, d = .str i ∧ k i := by cases d <;> simp [asStr]
/-- the state, slot by slot, ahead of what goes on with it -/
def stM : MS → (MS → Prop) → Prop
  | [], k => k []
  | s :: M, k => stM M fun M' => k (s :: M')
theorem stM_eq : ∀ (M : MS) (k : MS → Prop), stM M k = k M
  | [], _ => rfl
  | s :: M, k => stM_eq M fun M' => k (s :: M')
theorem stM_r {M : MS} {k : MS → Prop} (h : k M) : stM M k := Eq.mpr (stM_eq M k) h
theorem stM_i {M : MS} {k : MS → Prop} (h : stM M k) : k M := Eq.mp (stM_eq M k) h
def iteP (b : Bool) (A C : Prop) : Prop := match b with
  | true => A
  | false => C
theorem iteP_t {A C : Prop} : iteP true A C = A := rfl
theorem iteP_f {A C : Prop} : iteP false A C = C := rfl
def getO {α : Type} (o : Option α) (k : α → Prop) : Prop := match o with
  | some a => k a
  | none => False
theorem getO_iff {α : Type} {o : Option α} {k : α → Prop} : getO o k ↔ ∃ a, o = some a ∧ k a := by cases o <;> simp [getO]

section
variable (K : PySem.W.Frag) (W : WX)
def liftE (e : DE) : TE := fun σ H Q => ∃ fx M L F Q0 E0, SR K fx M L σ F H ∧ e M Q0 E0 ∧ (∀ d M' v F' H', Q0 d M' → Same F F' → SR K fx M' ((v, d) :: L) σ F' H' → Q v H') ∧
  ∀ C M' F' H', E0 C M' → Same F F' → SR K fx M' L σ F' H' → W (.ref C) none σ H'
/-- a value looked at where it stands -/
def liftB (e : DE) : TE := fun σ H Q => ∃ fx M L F Q0 E0, SR K fx M L σ F H ∧ e M Q0 E0 ∧ (∀ d M' v f F' H', Q0 d M' → Same F F' → SR K fx M' L σ F' H' → Rp K F' H' d v f → Q v H') ∧
  ∀ C M' F' H', E0 C M' → Same F F' → SR K fx M' L σ F' H' → W (.ref C) none σ H'
def liftT (t : DT) : TT := fun σ H Q => ∃ fx M L F Q0 E0, SR K fx M L σ F H ∧ t M Q0 E0 ∧ (∀ b M' F' H', Q0 b M' → Same F F' → SR K fx M' L σ F' H' → Q b H') ∧
  ∀ C M' F' H', E0 C M' → Same F F' → SR K fx M' L σ F' H' → W (.ref C) none σ H'
def liftA (a : DA) : TA := fun σ H Q => ∃ fx M L F Q0 E0, SR K fx M L σ F H ∧ a M Q0 E0 ∧ (∀ ds M' vs F' H', Q0 ds M' → Same F F' → vs.length = ds.length → SR K fx M' (vs.zip ds ++ L) σ F' H' → Q vs H') ∧
  ∀ C M' F' H', E0 C M' → Same F F' → SR K fx M' L σ F' H' → W (.ref C) none σ H'
def liftS (r : DS) : TS := fun D σ H => ∃ fx M F D0, SR K fx M [] σ F H ∧ r D0 M ∧ (∀ M' σ' F' H', D0.nx M' → Same F F' → SR K fx M' [] σ' F' H' → D.nx σ' H') ∧
  (∀ d M' v σ' F' H', D0.rt d M' → Same F F' → SR K fx M' [(v, d)] σ' F' H' → D.rt v H') ∧
  (∀ M' σ' F' H', D0.bk M' → Same F F' → SR K fx M' [] σ' F' H' → D.bk σ' H') ∧ (∀ M' σ' F' H', D0.ct M' → Same F F' → SR K fx M' [] σ' F' H' → D.ct σ' H') ∧
  ∀ C M' σ' F' H', D0.xr C M' → Same F F' → SR K fx M' [] σ' F' H' → W (.ref C) none σ' H'
end

theorem peW {X : Cx} {e : Expr} {t t' : TE} (h : PE X e t) (w : ∀ σ H Q, t' σ H Q → t σ H Q) : PE X e t' := ⟨fun pins s σ H Q I q => h.run pins s σ H Q I (w σ H Q q)⟩
theorem ptW {X : Cx} {e : Expr} {t t' : TT} (h : PT X e t) (w : ∀ σ H Q, t' σ H Q → t σ H Q) : PT X e t' := ⟨fun pins s σ H Q I q => h.run pins s σ H Q I (w σ H Q q)⟩
theorem pwW {X : Cx} {e : Expr} {t t' : TT} (h : PW X e t) (w : ∀ σ H Q, t' σ H Q → t σ H Q) : PW X e t' := ⟨fun wh pins s σ H Q I q => h.run wh pins s σ H Q I (w σ H Q q)⟩
theorem paW {X : Cx} {e : List Expr} {t t' : TA} (h : PA X e t) (w : ∀ σ H Q, t' σ H Q → t σ H Q) : PA X e t' := ⟨fun pos pins s σ H Q I q => h.run pos pins s σ H Q I (w σ H Q q)⟩
theorem psW {X : Cx} {e : Stmt} {t t' : TS} (h : PS X e t) (w : ∀ D σ H, t' D σ H → t D σ H) : PS X e t' := ⟨fun pins s σ H D I q => h.run pins s σ H D I (w D σ H q)⟩
theorem pssW {X : Cx} {e : List Stmt} {t t' : TS} (h : PSs X e t) (w : ∀ D σ H, t' D σ H → t D σ H) : PSs X e t' := ⟨fun pins s σ H D I q => h.run pins s σ H D I (w D σ H q)⟩

section
variable {K : PySem.W.Frag} {F F' H H' : Hp} {fx : Fx} {M : MS} {L L' : List (V × D)} {σ : L2.St} {v : V}
theorem SR.int {i : Int} (h : SR K fx M ((v, .int i) :: L) σ F H) : v = .int i := by
  have := h.topC rfl
  cases this; rfl
theorem SR.bl {i : Bool} (h : SR K fx M ((v, .bl i) :: L) σ F H) : v = .bl i := by
  have := h.topC rfl
  cases this; rfl
theorem SR.str {i : Str} (h : SR K fx M ((v, .str i) :: L) σ F H) : v = .str i := by
  have := h.topC rfl
  cases this; rfl
theorem SR.non (h : SR K fx M ((v, .non) :: L) σ F H) : v = .non := by
  have := h.topC rfl
  cases this; rfl
end

section
variable {X : Cx} {W : WX} {a b c e : Expr} {pos : Pos} {ea eb ec : DE}

/-! ### names, constants -/
def dVar (i : Nat) : DE := fun M Q _ => getO (M.at i) fun d => d.noOwn = true ∧ Q d M
def dMov (i : Nat) : DE := fun M Q _ => match M[i]? with
  | some (.va d) => Q d (M.set i .un)
  | _ => False
def dFrz (i : Nat) : DE := fun M Q _ => match M[i]? with
  | some (.va d) => ∃ d', d.frz = d' ∧ Q d' (M.set i (.va d'))
  | _ => False
def dLook (i : Nat) : DE := fun M Q _ => getO (M.at i) fun d => Q d M
def dC (d : D) : DE := fun M Q _ => Q d M
theorem d_var {i : Nat} (h : PE X e (tVar i)) : PE X e (liftE X.K W (dVar i)) := peW h fun σ H Q ⟨fx, M, L, F, Q0, E0, sr, he, hq, hx⟩ => by
  obtain ⟨d, e1, n, he⟩ := getO_iff.mp he
  obtain ⟨v, h1, h2⟩ := sr.copy (ms_at.mp e1) n
  exact ⟨v, h1, hq d M v F H he (Same.refl _) h2⟩
theorem d_mov {i : Nat} (h : PE X e (tVar i)) : PE X e (liftE X.K W (dMov i)) := peW h fun σ H Q ⟨fx, M, L, F, Q0, E0, sr, he, hq, hx⟩ => by
  unfold dMov at he
  split at he
  · rename_i d e1
    obtain ⟨v, h1, h2⟩ := sr.move e1
    exact ⟨v, h1, hq d _ v F H he (Same.refl _) h2⟩
  · exact he.elim
theorem d_frz {i : Nat} (h : PE X e (tVar i)) : PE X e (liftE X.K W (dFrz i)) := peW h fun σ H Q ⟨fx, M, L, F, Q0, E0, sr, he, hq, hx⟩ => by
  unfold dFrz at he
  split at he
  · rename_i d e1
    obtain ⟨_, rfl, he⟩ := he
    obtain ⟨v, F', hv, h1, s, p⟩ := sr.frzAt e1
    exact ⟨v, hv, hq _ _ v F' H he s (h1.push p)⟩
  · exact he.elim
theorem d_look {i : Nat} (h : PE X e (tVar i)) : PE X e (liftB X.K W (dLook i)) := peW h fun σ H Q ⟨fx, M, L, F, Q0, E0, sr, he, hq, hx⟩ => by
  obtain ⟨d, e1, he⟩ := getO_iff.mp he
  obtain ⟨v, f, h1, h2⟩ := sr.at (ms_at.mp e1)
  exact ⟨v, h1, hq _ M v f F H he (Same.refl _) sr h2⟩
end
-- TL3B

section
variable {X : Cx} {W : WX} {a b c e : Expr} {pos : Pos} {ea eb ec : DE}

theorem d_c {d : D} {v : V} (h : PE X e (tC v)) (p : ∀ F H, Rp X.K F H d v []) : PE X e (liftE X.K W (dC d)) := peW h fun σ H Q ⟨fx, M, L, F, Q0, E0, sr, he, hq, hx⟩ =>
  hq d M v F H he (Same.refl _) (sr.push (p F H))
theorem d_int {i : Int} {j} : PE X (.Constant (.int i) j pos) (liftE X.K W (dC (.int i))) := d_c pe_int fun _ _ => .int i
theorem d_bl {i : Bool} {j} : PE X (.Constant (.bool i) j pos) (liftE X.K W (dC (.bl i))) := d_c pe_bl fun _ _ => .bl i
theorem d_non {j} : PE X (.Constant .none j pos) (liftE X.K W (dC .non)) := d_c pe_non fun _ _ => .non
theorem d_str {x : Str} {j} : PE X (.Constant (.str x) j pos) (liftE X.K W (dC (.str x))) := d_c pe_str fun _ _ => .str x
/-- a frozen thing is looked at as any -/
theorem d_eb {ee : DE} (h : PE X e (liftE X.K W (ee))) : PE X e (liftB X.K W ee) := peW h fun σ H Q ⟨fx, M, L, F, Q0, E0, sr, he, hq, hx⟩ =>
  ⟨fx, M, L, F, _, E0, sr, he, fun d M' v F' H' z s sr' => (by obtain ⟨f, p⟩ := sr'.top; exact hq d M' v f F' H' z s sr'.pop p), hx⟩

/-! ### two-place operations on things without own parts -/
def dBin (g : D → D → (D → Prop) → Prop) (ea eb : DE) : DE := fun M Q E => ea M (fun x M1 => eb M1 (fun y M2 => g x y fun d => Q d M2) E) E
/-- what an operation on values makes of trees -/
def OpD (X : Cx) (r : R2) (g : D → D → (D → Prop) → Prop) : Prop :=
  ∀ {fx M L σ F H v w x y} {k : D → Prop}, SR X.K fx M ((w, y) :: (v, x) :: L) σ F H → g x y k → ∃ d u, k d ∧ Rp X.K F H d u [] ∧ ∀ Q : VK, Q u H → r v w H Q
theorem bin_ok {r : R2} {g : D → D → (D → Prop) → Prop} (hr : OpD X r g) (σ : L2.St) (H : Hp) (Q : VK) (h : (liftE X.K W (dBin g ea eb)) σ H Q) : tOp r (liftE X.K W (ea)) (liftE X.K W (eb)) σ H Q := by
  obtain ⟨fx, M, L, F, Q0, E0, sr, he, hq, hx⟩ := h
  refine ⟨fx, M, L, F, _, E0, sr, he, fun x M1 v F1 H1 q1 s1 sr1 => ?_, hx⟩
  refine ⟨fx, M1, _, F1, _, E0, sr1, q1, fun y M2 w F2 H2 q2 s2 sr2 => ?_, fun C M' F' H' z s sr' => hx C M' F' H' z (s1.trans s) sr'.pop⟩
  obtain ⟨d, u, kd, p, fin⟩ := hr sr2 q2
  exact fin _ (hq d M2 u F2 H2 kd (s1.trans s2) (sr2.pop.pop.push p))
theorem d_op {op : Operator} {r : R2} {g : D → D → (D → Prop) → Prop} (ho : OpR X (binaryOp op) r) (hr : OpD X r g) (ha : PE X a (liftE X.K W (ea))) (hb : PE X b (liftE X.K W (eb))) : PE X (.BinOp a op b pos) (liftE X.K W (dBin g ea eb)) := peW (pe_op ho ha hb) (bin_ok hr)
theorem d_cmp {op : CmpOp} {r : R2} {g : D → D → (D → Prop) → Prop} (ho : OpR X (compareOp op) r) (hr : OpD X r g) (ha : PE X a (liftE X.K W (ea))) (hb : PE X b (liftE X.K W (eb))) (hm : behindInMarks op b = false) : PE X (.Compare a [op] [b] pos) (liftE X.K W (dBin g ea eb)) :=
  peW (pe_cmpR ho ha hb hm) (bin_ok hr)
/-- an expression as a test -/
def dT (e : DE) : DT := fun M Q E => e M (fun d M' => asB d fun b => Q b M') E
theorem tst_ok {t : TE} {ee : DE} (w : ∀ σ H Q, (liftE X.K W (ee)) σ H Q → t σ H Q) (σ : L2.St) (H : Hp) (Q : Bool → Hp → Prop) (h : liftT X.K W (dT ee) σ H Q) : t σ H fun x H' => ∃ k, x = .bl k ∧ Q k H' := by
  obtain ⟨fx, M, L, F, Q0, E0, sr, he, hq, hx⟩ := h
  refine w σ H _ ⟨fx, M, L, F, _, E0, sr, he, fun d M' v F' H' z s sr' => ?_, hx⟩
  obtain ⟨k, rfl, z⟩ := asB_iff.mp z
  exact ⟨k, sr'.bl, hq k M' F' H' z s sr'.pop⟩
theorem t_cmp {op : CmpOp} {r : R2} {g : D → D → (D → Prop) → Prop} (ho : OpR X (compareOp op) r) (hr : OpD X r g) (ha : PE X a (liftE X.K W (ea))) (hb : PE X b (liftE X.K W (eb))) (hm : behindInMarks op b = false) : PT X (.Compare a [op] [b] pos) (liftT X.K W (dT (dBin g ea eb))) :=
  ptW (pt_cmpR ho ha hb hm) (tst_ok (bin_ok hr))
theorem t_val {ee : DE} (h : PE X e (liftE X.K W (ee))) (he : ∀ whole, isTrue e X.env whole = (do let v ← whole; standAt e.pos; holding [v] (truthy v)) := by intro _; rfl) : PT X e (liftT X.K W (dT ee)) :=
  ptW (pt_val h he) (tst_ok fun _ _ _ z => z)

/-! ints -/
def gI (C : Int → Int → Prop) (g : Int → Int → Int) : D → D → (D → Prop) → Prop := fun x y k => asI x fun i => asI y fun j => C i j ∧ k (.int (g i j))
def gI0 (g : Int → Int → Int) : D → D → (D → Prop) → Prop := fun x y k => asI x fun i => asI y fun j => k (.int (g i j))
def gB0 (g : Int → Int → Bool) : D → D → (D → Prop) → Prop := fun x y k => asI x fun i => asI y fun j => k (.bl (g i j))
theorem opd_i {C : Int → Int → Prop} {g : Int → Int → Int} : OpD X (rI C fun i j => .int (g i j)) (gI C g) := fun {fx M L σ F H v w x y k} sr h => by
  obtain ⟨i, rfl, h1⟩ := asI_iff.mp h
  obtain ⟨j, rfl, hc, h2⟩ := asI_iff.mp h1
  have := sr.int; subst this
  have := sr.pop.int; subst this
  exact ⟨_, _, h2, .int _, fun Q q => ⟨i, j, rfl, rfl, hc, q⟩⟩
theorem opd_i0 {g : Int → Int → Int} : OpD X (rI0 fun i j => .int (g i j)) (gI0 g) := fun {fx M L σ F H v w x y k} sr h => by
  obtain ⟨i, rfl, h1⟩ := asI_iff.mp h
  obtain ⟨j, rfl, h2⟩ := asI_iff.mp h1
  have := sr.int; subst this
  have := sr.pop.int; subst this
  exact ⟨_, _, h2, .int _, fun Q q => ⟨i, j, rfl, rfl, q⟩⟩
theorem opd_b0 {g : Int → Int → Bool} : OpD X (rI0 fun i j => .bl (g i j)) (gB0 g) := fun {fx M L σ F H v w x y k} sr h => by
  obtain ⟨i, rfl, h1⟩ := asI_iff.mp h
  obtain ⟨j, rfl, h2⟩ := asI_iff.mp h1
  have := sr.int; subst this
  have := sr.pop.int; subst this
  exact ⟨_, _, h2, .bl _, fun Q q => ⟨i, j, rfl, rfl, q⟩⟩
abbrev dAdd : DE → DE → DE := dBin (gI0 fun i j => i + j)
abbrev dSub : DE → DE → DE := dBin (gI0 fun i j => i - j)
abbrev dMul : DE → DE → DE := dBin (gI IntMulOk fun i j => i * j)
abbrev dMod : DE → DE → DE := dBin (gI (fun _ j => j ≠ 0) fun i j => i.fmod j)
def DivOk (j : Int) : Prop := j ≠ 0 ∧ j.natAbs < 2 ^ 9000
abbrev dDiv : DE → DE → DE := dBin (gI (fun _ j => DivOk j) fun i j => i.fdiv j)
abbrev dPow : DE → DE → DE := dBin (gI CPow fun i j => i ^ j.toNat)
abbrev dLt : DE → DE → DE := dBin (gB0 fun i j => decide (i < j))
abbrev dLe : DE → DE → DE := dBin (gB0 fun i j => decide (i ≤ j))
abbrev dGt : DE → DE → DE := dBin (gB0 fun i j => decide (j < i))
abbrev dGe : DE → DE → DE := dBin (gB0 fun i j => decide (j ≤ i))
theorem op_mulX : OpR X (binaryOp .Mult) (rI IntMulOk fun i j => .int (i * j)) := opI fun _ _ _ _ _ _ _ hc q => mul_int q hc
theorem op_fdivX : OpR X (binaryOp .FloorDiv) (rI (fun _ j => DivOk j) fun i j => .int (i.fdiv j)) := opI fun i j _ _ _ _ _ hc q => by
  refine floordiv_int hc.1 q (.inl (PyProof.noPylong_of_log2 ?_))
  exact PySem.Flt.log2_lt_of (by decide : 0 < 9000) hc.2
theorem d_add (ha : PE X a (liftE X.K W (ea))) (hb : PE X b (liftE X.K W (eb))) : PE X (.BinOp a .Add b pos) (liftE X.K W (dAdd ea eb)) := d_op op_add opd_i0 ha hb
theorem d_sub (ha : PE X a (liftE X.K W (ea))) (hb : PE X b (liftE X.K W (eb))) : PE X (.BinOp a .Sub b pos) (liftE X.K W (dSub ea eb)) := d_op op_sub opd_i0 ha hb
theorem d_mul (ha : PE X a (liftE X.K W (ea))) (hb : PE X b (liftE X.K W (eb))) : PE X (.BinOp a .Mult b pos) (liftE X.K W (dMul ea eb)) := d_op op_mulX opd_i ha hb
theorem d_mod (ha : PE X a (liftE X.K W (ea))) (hb : PE X b (liftE X.K W (eb))) : PE X (.BinOp a .Mod b pos) (liftE X.K W (dMod ea eb)) := d_op op_modN opd_i ha hb
theorem d_div (ha : PE X a (liftE X.K W (ea))) (hb : PE X b (liftE X.K W (eb))) : PE X (.BinOp a .FloorDiv b pos) (liftE X.K W (dDiv ea eb)) := d_op op_fdivX opd_i ha hb
theorem d_pow (ha : PE X a (liftE X.K W (ea))) (hb : PE X b (liftE X.K W (eb))) : PE X (.BinOp a .Pow b pos) (liftE X.K W (dPow ea eb)) := d_op op_pow opd_i ha hb
theorem d_lt (ha : PE X a (liftE X.K W (ea))) (hb : PE X b (liftE X.K W (eb))) : PE X (.Compare a [.Lt] [b] pos) (liftE X.K W (dLt ea eb)) := d_cmp op_lt opd_b0 ha hb (nomark _)
theorem d_le (ha : PE X a (liftE X.K W (ea))) (hb : PE X b (liftE X.K W (eb))) : PE X (.Compare a [.LtE] [b] pos) (liftE X.K W (dLe ea eb)) := d_cmp op_le opd_b0 ha hb (nomark _)
theorem d_gt (ha : PE X a (liftE X.K W (ea))) (hb : PE X b (liftE X.K W (eb))) : PE X (.Compare a [.Gt] [b] pos) (liftE X.K W (dGt ea eb)) := d_cmp op_gt opd_b0 ha hb (nomark _)
theorem d_ge (ha : PE X a (liftE X.K W (ea))) (hb : PE X b (liftE X.K W (eb))) : PE X (.Compare a [.GtE] [b] pos) (liftE X.K W (dGe ea eb)) := d_cmp op_ge opd_b0 ha hb (nomark _)
theorem t_lt (ha : PE X a (liftE X.K W (ea))) (hb : PE X b (liftE X.K W (eb))) : PT X (.Compare a [.Lt] [b] pos) (liftT X.K W (dT (dLt ea eb))) := t_cmp op_lt opd_b0 ha hb (nomark _)
theorem t_le (ha : PE X a (liftE X.K W (ea))) (hb : PE X b (liftE X.K W (eb))) : PT X (.Compare a [.LtE] [b] pos) (liftT X.K W (dT (dLe ea eb))) := t_cmp op_le opd_b0 ha hb (nomark _)
theorem t_gt (ha : PE X a (liftE X.K W (ea))) (hb : PE X b (liftE X.K W (eb))) : PT X (.Compare a [.Gt] [b] pos) (liftT X.K W (dT (dGt ea eb))) := t_cmp op_gt opd_b0 ha hb (nomark _)
theorem t_ge (ha : PE X a (liftE X.K W (ea))) (hb : PE X b (liftE X.K W (eb))) : PT X (.Compare a [.GtE] [b] pos) (liftT X.K W (dT (dGe ea eb))) := t_cmp op_ge opd_b0 ha hb (nomark _)
/-! minus -/
def dNeg (ea : DE) : DE := fun M Q E => ea M (fun x M1 => asI x fun i => Q (.int (-i)) M1) E
theorem d_neg (ha : PE X a (liftE X.K W (ea))) : PE X (.UnaryOp .USub a pos) (liftE X.K W (dNeg ea)) := peW (pe_un un_neg ha) fun σ H Q ⟨fx, M, L, F, Q0, E0, sr, he, hq, hx⟩ =>
  ⟨fx, M, L, F, _, E0, sr, he, fun x M1 v F1 H1 q1 s1 sr1 => (by
    obtain ⟨i, rfl, h⟩ := asI_iff.mp q1
    have := sr1.int; subst this
    exact ⟨i, rfl, hq _ M1 _ F1 H1 h s1 (sr1.pop.push (.int _))⟩), hx⟩

/-! ### == of data -/
mutual
def D.toP : D → PyData
  | .bl b => .bool b
  | .int i => .int i
  | .str x => .str x
  | .tup l => .tuple (D.toPs l)
  | .lst l => .list (D.toPs l)
  | .own l => .list (D.toPs l)
  | .scr ns => .list (ns.map .int)
  | _ => .none
def D.toPs : List D → List PyData
  | [] => []
  | d :: l => d.toP :: D.toPs l
end
mutual
def D.isP : D → Bool
  | .non => true
  | .bl _ => true
  | .int _ => true
  | .str _ => true
  | .tup l => D.isPs l
  | .lst l => D.isPs l
  | .own l => D.isPs l
  | .scr _ => true
  | _ => false
def D.isPs : List D → Bool
  | [] => true
  | d :: l => d.isP && D.isPs l
end
section
variable {K : PySem.W.Frag} {F H : Hp}
theorem dpall_ints : ∀ ns : List Int, DpAll K H (ns.map V.int) (ns.map PyData.int)
  | [] => .nil
  | n :: ns => .cons (.int n) (dpall_ints ns)
mutual
theorem Rp.dp (s : Same F H) : ∀ (d : D) (v : V) (f : List Addr), d.isP = true → Rp K F H d v f → Dp K H v d.toP
  | .non, _, _, _, h => by cases h; exact .non
  | .bl _, _, _, _, h => by cases h; exact .bl _
  | .int _, _, _, _, h => by cases h; exact .int _
  | .str _, _, _, _, h => by cases h; exact .str _
  | .cls _, _, _, n, h => by cases n
  | .ty _, _, _, n, h => by cases n
  | .exc _, _, _, n, h => by cases n
  | .scr _, _, _, _, h => by
    cases h with
    | scr q => exact .lst (s.seq q) (dpall_ints _)
  | .tup l, _, _, n, h => by
    cases h with
    | tup q r => exact .tup (Same.sqT s q) (Rps.dp s l _ _ n r)
  | .lst l, _, _, n, h => by
    cases h with
    | lst q r => exact .lst (SqL.of (s _ _ q)) (Rps.dp s l _ _ n r)
  | .own l, _, _, n, h => by
    cases h with
    | own q e r => exact .lst (SqL.of e) (Rps.dp s l _ _ n r)
  | .obj _ _ _, _, _, n, h => by cases n
  | .fob _ _ _, _, _, n, h => by cases n
theorem Rps.dp (s : Same F H) : ∀ (l : List D) (vs : List V) (f : List Addr), D.isPs l = true → Rps K F H l vs f → DpAll K H vs (D.toPs l)
  | [], _, _, _, h => by cases h; exact .nil
  | d :: l, _, _, n, h => by
    cases h with
    | cons p q =>
      have n' : (d.isP && D.isPs l) = true := n
      rw [Bool.and_eq_true] at n'
      exact .cons (Rp.dp s d _ _ n'.1 p) (Rps.dp s l _ _ n'.2 q)
end
end
/-- equal as Python sees it -/
def D.eqv (x y : D) : Bool := PyData.eqv x.toP y.toP
/-- data of a depth of at most n -/
def okD : Nat → D → Prop
  | _, .non => True
  | _, .bl _ => True
  | _, .int _ => True
  | _, .str x => PyData.strOk x = true
  | n + 1, .tup l => ∀ d ∈ l, okD n d
  | n + 1, .lst l => ∀ d ∈ l, okD n d
  | n + 1, .own l => ∀ d ∈ l, okD n d
  | _, _ => False
theorem okAll {n : Nat} (ih : ∀ d, okD n d → d.isP = true ∧ d.toP.canLay0 = true ∧ d.toP.depth ≤ n) : ∀ l : List D, (∀ d ∈ l, okD n d) → D.isPs l = true ∧ PyData.canLayAll0 (D.toPs l) = true ∧ PyData.depthAll (D.toPs l) ≤ n
  | [], _ => ⟨rfl, rfl, Nat.zero_le _⟩
  | d :: l, h => by
    obtain ⟨h1, h2, h3⟩ := ih d (h d List.mem_cons_self)
    obtain ⟨k1, k2, k3⟩ := okAll ih l fun x hx => h x (List.mem_cons_of_mem _ hx)
    refine ⟨by show (d.isP && D.isPs l) = true; rw [h1, k1]; rfl, by show PyData.canLayAll0 (d.toP :: D.toPs l) = true; rw [PyData.canLayAll0, h2, k2]; rfl, ?_⟩
    show PyData.depthAll (d.toP :: D.toPs l) ≤ n
    rw [PyData.depthAll]
    omega
theorem okD_ok : ∀ {n : Nat} (d : D), okD n d → d.isP = true ∧ d.toP.canLay0 = true ∧ d.toP.depth ≤ n := by
  intro n
  induction n with
  | zero =>
    intro d h
    cases d <;> simp [okD] at h <;> simp [D.isP, D.toP, PyData.canLay0, PyData.depth, h]
  | succ n ih =>
    intro d h
    cases d <;> simp only [okD] at h <;> try (exact h.elim)
    · simp [D.isP, D.toP, PyData.canLay0, PyData.depth]
    · simp [D.isP, D.toP, PyData.canLay0, PyData.depth]
    · simp [D.isP, D.toP, PyData.canLay0, PyData.depth]
    · simp [D.isP, D.toP, PyData.canLay0, PyData.depth, h]
    all_goals
      obtain ⟨k1, k2, k3⟩ := okAll ih _ h
      refine ⟨k1, ?_, ?_⟩
      · rw [D.toP, PyData.canLay0]; exact k2
      · rw [D.toP, PyData.depth]; omega
def eqOk (x y : D) : Prop := okD 8 x ∧ okD 8 y
theorem eqOk_ok {x y : D} (h : eqOk x y) : x.isP = true ∧ y.isP = true ∧ SeqAt.shaped x.toP = true ∧ SeqAt.shaped y.toP = true := by
  obtain ⟨h1, h2⟩ := h
  obtain ⟨a1, a2, a3⟩ := okD_ok x h1
  obtain ⟨b1, b2, b3⟩ := okD_ok y h2
  refine ⟨a1, b1, ?_, ?_⟩
  · unfold SeqAt.shaped; rw [a2, decide_eq_true (by omega)]; rfl
  · unfold SeqAt.shaped; rw [b2, decide_eq_true (by omega)]; rfl
def gEq : D → D → (D → Prop) → Prop := fun x y k => eqOk x y ∧ k (.bl (D.eqv x y))
def gNe : D → D → (D → Prop) → Prop := fun x y k => eqOk x y ∧ k (.bl (!D.eqv x y))
theorem opd_eq : OpD X (rEqD X.K) gEq := fun {fx M L σ F H v w x y k} sr h => by
  obtain ⟨h0, h⟩ := h
  obtain ⟨h1, h2, h3, h4⟩ := eqOk_ok h0
  obtain ⟨f, p⟩ := sr.top
  obtain ⟨g, q⟩ := sr.pop.top
  exact ⟨_, _, h, .bl _, fun Q z => ⟨_, _, Rp.dp sr.sub _ _ _ h1 q, Rp.dp sr.sub _ _ _ h2 p, h3, h4, z⟩⟩
theorem opd_ne : OpD X (rNeD X.K) gNe := fun {fx M L σ F H v w x y k} sr h => by
  obtain ⟨h0, h⟩ := h
  obtain ⟨h1, h2, h3, h4⟩ := eqOk_ok h0
  obtain ⟨f, p⟩ := sr.top
  obtain ⟨g, q⟩ := sr.pop.top
  exact ⟨_, _, h, .bl _, fun Q z => ⟨_, _, Rp.dp sr.sub _ _ _ h1 q, Rp.dp sr.sub _ _ _ h2 p, h3, h4, z⟩⟩
abbrev dEq : DE → DE → DE := dBin gEq
abbrev dNe : DE → DE → DE := dBin gNe
theorem d_eq {k : Nat} (hr : Room k X.A) (ha : PE X a (liftE X.K W (ea))) (hb : PE X b (liftE X.K W (eb))) : PE X (.Compare a [.Eq] [b] pos) (liftE X.K W (dEq ea eb)) := d_cmp (op_eqD hr.units) opd_eq ha hb (nomark _)
theorem d_ne {k : Nat} (hr : Room k X.A) (ha : PE X a (liftE X.K W (ea))) (hb : PE X b (liftE X.K W (eb))) : PE X (.Compare a [.NotEq] [b] pos) (liftE X.K W (dNe ea eb)) := d_cmp (op_neD hr.units) opd_ne ha hb (nomark _)
theorem t_eq {k : Nat} (hr : Room k X.A) (ha : PE X a (liftE X.K W (ea))) (hb : PE X b (liftE X.K W (eb))) : PT X (.Compare a [.Eq] [b] pos) (liftT X.K W (dT (dEq ea eb))) := t_cmp (op_eqD hr.units) opd_eq ha hb (nomark _)
theorem t_ne {k : Nat} (hr : Room k X.A) (ha : PE X a (liftE X.K W (ea))) (hb : PE X b (liftE X.K W (eb))) : PT X (.Compare a [.NotEq] [b] pos) (liftT X.K W (dT (dNe ea eb))) := t_cmp (op_neD hr.units) opd_ne ha hb (nomark _)
/-! is None -/
def D.isNon : D → Bool
  | .non => true
  | _ => false
theorem Rp.isNon {K : PySem.W.Frag} {F H : Hp} {d : D} {v : V} {f : List Addr} (h : Rp K F H d v f) : decide (v = .non) = d.isNon := by
  cases h <;> simp [D.isNon]
def gIsN : D → D → (D → Prop) → Prop := fun x y k => y.isNon = true ∧ k (.bl x.isNon)
def gNotN : D → D → (D → Prop) → Prop := fun x y k => y.isNon = true ∧ k (.bl (!x.isNon))
theorem isNon_eq {y : D} (h : y.isNon = true) : y = .non := by cases y <;> simp [D.isNon] at h ⊢
def dIsN (e : DE) : DE := fun M Q E => e M (fun x M1 => Q (.bl x.isNon) M1) E
def dNotN (e : DE) : DE := fun M Q E => e M (fun x M1 => Q (.bl (!x.isNon)) M1) E
theorem isN_w {e : Expr} {ee : DE} (σ : L2.St) (H : Hp) (Q : VK) (h : (liftE X.K W (dIsN ee)) σ H Q) : tIsN (liftB X.K W ee) σ H Q := by
  obtain ⟨fx, M, L, F, Q0, E0, sr, he, hq, hx⟩ := h
  exact ⟨fx, M, L, F, _, E0, sr, he, fun d M' v f F' H' z s sr' p => (by show Q (V.bl _) H'; rw [p.isNon]; exact hq _ _ _ F' H' z s (sr'.push (.bl _))), hx⟩
theorem notN_w {e : Expr} {ee : DE} (σ : L2.St) (H : Hp) (Q : VK) (h : (liftE X.K W (dNotN ee)) σ H Q) : tNotN (liftB X.K W ee) σ H Q := by
  obtain ⟨fx, M, L, F, Q0, E0, sr, he, hq, hx⟩ := h
  exact ⟨fx, M, L, F, _, E0, sr, he, fun d M' v f F' H' z s sr' p => (by show Q (V.bl _) H'; rw [p.isNon]; exact hq _ _ _ F' H' z s (sr'.push (.bl _))), hx⟩
theorem d_isN {ee : DE} {j p'} (h : PE X a (liftB X.K W ee)) : PE X (.Compare a [.Is] [.Constant .none j p'] pos) (liftE X.K W (dIsN ee)) := peW (pe_cmp (pc_isN h)) (isN_w (e := a))
theorem d_notN {ee : DE} {j p'} (h : PE X a (liftB X.K W ee)) : PE X (.Compare a [.IsNot] [.Constant .none j p'] pos) (liftE X.K W (dNotN ee)) := peW (pe_cmp (pc_notN h)) (notN_w (e := a))
theorem t_isN {ee : DE} {j p'} (h : PE X a (liftB X.K W ee)) : PT X (.Compare a [.Is] [.Constant .none j p'] pos) (liftT X.K W (dT (dIsN ee))) := ptW (pt_cmp (pc_isN h)) (tst_ok (isN_w (e := a)))
theorem t_notN {ee : DE} {j p'} (h : PE X a (liftB X.K W ee)) : PT X (.Compare a [.IsNot] [.Constant .none j p'] pos) (liftT X.K W (dT (dNotN ee))) := ptW (pt_cmp (pc_notN h)) (tst_ok (notN_w (e := a)))

/-! ### and, or, not, if -/
variable {ta tb : DT} {rest : List Expr}
def dAnd (t u : DT) : DT := fun M Q E => t M (fun b M1 => iteP b (u M1 Q E) (Q false M1)) E
def dOr (t u : DT) : DT := fun M Q E => t M (fun b M1 => iteP b (Q true M1) (u M1 Q E)) E
def dNot (t : DT) : DT := fun M Q E => t M (fun b M1 => Q (!b) M1) E
theorem t_and1 (ha : PT X a (liftT X.K W (ta))) : PW X (.BoolOp .And [a] pos) (liftT X.K W (ta)) := pw_and1 ha
theorem t_or1 (ha : PT X a (liftT X.K W (ta))) : PW X (.BoolOp .Or [a] pos) (liftT X.K W (ta)) := pw_or1 ha
theorem t_and (ha : PT X a (liftT X.K W (ta))) (hb : PW X (.BoolOp .And (b :: rest) pos) (liftT X.K W (tb))) : PW X (.BoolOp .And (a :: b :: rest) pos) (liftT X.K W (dAnd ta tb)) := pwW (pw_and ha hb) fun σ H Q ⟨fx, M, L, F, Q0, E0, sr, he, hq, hx⟩ =>
  ⟨fx, M, L, F, _, E0, sr, he, fun k M1 F1 H1 q1 s1 sr1 => (by
    cases k with
    | true =>
      rw [if_pos rfl]; rw [iteP_t] at q1
      exact ⟨fx, M1, L, F1, Q0, E0, sr1, q1, fun k2 M2 F2 H2 q2 s2 sr2 => hq k2 M2 F2 H2 q2 (s1.trans s2) sr2, fun C M' F' H' z s sr' => hx C M' F' H' z (s1.trans s) sr'⟩
    | false => exact hq false M1 F1 H1 q1 s1 sr1), hx⟩
theorem t_or (ha : PT X a (liftT X.K W (ta))) (hb : PW X (.BoolOp .Or (b :: rest) pos) (liftT X.K W (tb))) : PW X (.BoolOp .Or (a :: b :: rest) pos) (liftT X.K W (dOr ta tb)) := pwW (pw_or ha hb) fun σ H Q ⟨fx, M, L, F, Q0, E0, sr, he, hq, hx⟩ =>
  ⟨fx, M, L, F, _, E0, sr, he, fun k M1 F1 H1 q1 s1 sr1 => (by
    cases k with
    | false =>
      rw [if_neg Bool.false_ne_true]; rw [iteP_f] at q1
      exact ⟨fx, M1, L, F1, Q0, E0, sr1, q1, fun k2 M2 F2 H2 q2 s2 sr2 => hq k2 M2 F2 H2 q2 (s1.trans s2) sr2, fun C M' F' H' z s sr' => hx C M' F' H' z (s1.trans s) sr'⟩
    | true => exact hq true M1 F1 H1 q1 s1 sr1), hx⟩
theorem t_not (ha : PT X a (liftT X.K W (ta))) : PT X (.UnaryOp .Not a pos) (liftT X.K W (dNot ta)) := ptW (pt_not ha) fun σ H Q ⟨fx, M, L, F, Q0, E0, sr, he, hq, hx⟩ =>
  ⟨fx, M, L, F, _, E0, sr, he, fun k M1 F1 H1 q1 s1 sr1 => hq _ M1 F1 H1 q1 s1 sr1, hx⟩
/-- as values: all but the last True or False -/
def dAndV (ea eb : DE) : DE := fun M Q E => ea M (fun d M1 => asB d fun b => iteP b (eb M1 Q E) (Q (.bl false) M1)) E
def dOrV (ea eb : DE) : DE := fun M Q E => ea M (fun d M1 => asB d fun b => iteP b (Q (.bl true) M1) (eb M1 Q E)) E
def dNotV (ea : DE) : DE := fun M Q E => ea M (fun d M1 => asB d fun b => Q (.bl (!b)) M1) E
theorem d_one {op} (h : PE X a (liftE X.K W (ea))) : PE X (.BoolOp op [a] pos) (liftE X.K W (ea)) := pe_one h
theorem d_and (ha : PE X a (liftE X.K W (ea))) (hb : PE X (.BoolOp .And (b :: rest) pos) (liftE X.K W (eb))) : PE X (.BoolOp .And (a :: b :: rest) pos) (liftE X.K W (dAndV ea eb)) := peW (pe_and ha hb) fun σ H Q ⟨fx, M, L, F, Q0, E0, sr, he, hq, hx⟩ =>
  ⟨fx, M, L, F, _, E0, sr, he, fun d M1 v F1 H1 q1 s1 sr1 => (by
    obtain ⟨k, rfl, q2⟩ := asB_iff.mp q1
    have := sr1.bl; subst this
    clear q1
    have q1 := q2
    clear q2
    refine ⟨k, rfl, ?_⟩
    cases k with
    | true =>
      rw [if_pos rfl]; rw [iteP_t] at q1
      exact ⟨fx, M1, L, F1, Q0, E0, sr1.pop, q1, fun d M2 v F2 H2 q2 s2 sr2 => hq d M2 v F2 H2 q2 (s1.trans s2) sr2, fun C M' F' H' z s sr' => hx C M' F' H' z (s1.trans s) sr'⟩
    | false => exact hq _ M1 _ F1 H1 q1 s1 sr1), hx⟩
theorem d_or (ha : PE X a (liftE X.K W (ea))) (hb : PE X (.BoolOp .Or (b :: rest) pos) (liftE X.K W (eb))) : PE X (.BoolOp .Or (a :: b :: rest) pos) (liftE X.K W (dOrV ea eb)) := peW (pe_or ha hb) fun σ H Q ⟨fx, M, L, F, Q0, E0, sr, he, hq, hx⟩ =>
  ⟨fx, M, L, F, _, E0, sr, he, fun d M1 v F1 H1 q1 s1 sr1 => (by
    obtain ⟨k, rfl, q2⟩ := asB_iff.mp q1
    have := sr1.bl; subst this
    clear q1
    have q1 := q2
    clear q2
    refine ⟨k, rfl, ?_⟩
    cases k with
    | false =>
      rw [if_neg Bool.false_ne_true]; rw [iteP_f] at q1
      exact ⟨fx, M1, L, F1, Q0, E0, sr1.pop, q1, fun d M2 v F2 H2 q2 s2 sr2 => hq d M2 v F2 H2 q2 (s1.trans s2) sr2, fun C M' F' H' z s sr' => hx C M' F' H' z (s1.trans s) sr'⟩
    | true => exact hq _ M1 _ F1 H1 q1 s1 sr1), hx⟩
theorem d_not (ha : PE X a (liftE X.K W (ea))) : PE X (.UnaryOp .Not a pos) (liftE X.K W (dNotV ea)) := peW (pe_not ha) fun σ H Q ⟨fx, M, L, F, Q0, E0, sr, he, hq, hx⟩ =>
  ⟨fx, M, L, F, _, E0, sr, he, fun d M1 v F1 H1 q1 s1 sr1 => (by
    obtain ⟨k, rfl, q1⟩ := asB_iff.mp q1
    have := sr1.bl; subst this
    exact ⟨k, rfl, hq _ M1 _ F1 H1 q1 s1 (sr1.pop.push (.bl _))⟩), hx⟩
def dIf (t : DT) (ea eb : DE) : DE := fun M Q E => t M (fun b M1 => iteP b (ea M1 Q E) (eb M1 Q E)) E
theorem d_if (hc : PT X c (liftT X.K W (ta))) (ha : PE X a (liftE X.K W (ea))) (hb : PE X b (liftE X.K W (eb))) : PE X (.IfExp c a b pos) (liftE X.K W (dIf ta ea eb)) := peW (pe_ifExp hc ha hb) fun σ H Q ⟨fx, M, L, F, Q0, E0, sr, he, hq, hx⟩ =>
  ⟨fx, M, L, F, _, E0, sr, he, fun k M1 F1 H1 q1 s1 sr1 => (by
    cases k with
    | true =>
      rw [if_pos rfl]; rw [iteP_t] at q1
      exact ⟨fx, M1, L, F1, Q0, E0, sr1, q1, fun d M2 v F2 H2 q2 s2 sr2 => hq d M2 v F2 H2 q2 (s1.trans s2) sr2, fun C M' F' H' z s sr' => hx C M' F' H' z (s1.trans s) sr'⟩
    | false =>
      rw [if_neg Bool.false_ne_true]; rw [iteP_f] at q1
      exact ⟨fx, M1, L, F1, Q0, E0, sr1, q1, fun d M2 v F2 H2 q2 s2 sr2 => hq d M2 v F2 H2 q2 (s1.trans s2) sr2, fun C M' F' H' z s sr' => hx C M' F' H' z (s1.trans s) sr'⟩), hx⟩
end
end TL
namespace TL
open PySem PyProof.Rows L2

theorem Rps.getF {K : PySem.W.Frag} {F H : Hp} : ∀ {l : List D} {vs : List V} {i : Nat} {d : D} {f : List Addr}, Rps K F H l vs f → l[i]? = some d → ∃ v g, vs[i]? = some v ∧ Rp K F H d v g
  | [], _, i, _, _, h, e => by simp at e
  | d :: l, _, 0, _, _, h, e => by
    cases h with
    | cons p q => simp at e; subst e; exact ⟨_, _, rfl, p⟩
  | d :: l, _, i + 1, _, _, h, e => by
    cases h with
    | cons p q =>
      obtain ⟨w, g, h1, h2⟩ := Rps.getF (i := i) q (by simpa using e)
      exact ⟨w, g, by simpa using h1, h2⟩

/-- the j-th item, from the end where j is below 0 -/
def ixl {α : Type} (l : List α) (j : Int) : Option α := if 0 ≤ j then l[j.toNat]? else if 0 ≤ j + l.length then l[(j + l.length).toNat]? else none
theorem ixl_0 {α : Type} (l : List α) : ixl l 0 = l[0]? := by simp [ixl]
theorem ixl_1 {α : Type} (l : List α) : ixl l 1 = l[1]? := by simp [ixl]
theorem ixl_2 {α : Type} (l : List α) : ixl l 2 = l[2]? := by simp [ixl]
theorem ixl_3 {α : Type} (l : List α) : ixl l 3 = l[3]? := by simp [ixl]
theorem ixl_nat {α : Type} (l : List α) (n : Nat) : ixl l (n : Int) = l[n]? := by simp [ixl]
theorem ixl_m1 {α : Type} (l : List α) : ixl l (-1) = l.getLast? := by
  unfold ixl
  rw [if_neg (by decide)]
  cases l with
  | nil => simp
  | cons a l =>
    rw [if_pos (by simp only [List.length_cons]; omega), List.getLast?_eq_getElem?]
    congr 1
    simp only [List.length_cons]
    omega
theorem ixl_atI {α : Type} {l : List α} {j : Int} {v : α} (h : ixl l j = some v) : atI l j = some v := by
  unfold ixl at h
  unfold atI ixN
  split at h
  · rename_i h0
    have : j.toNat < l.length := (List.getElem?_eq_some_iff.mp h).1
    rw [if_pos h0, if_pos (by omega)]
    exact h
  · rename_i h0
    split at h
    · rename_i h1
      rw [if_neg h0, if_pos (by omega)]
      exact h
    · cases h
theorem ixl_map {α β : Type} (f : α → β) (l : List α) (j : Int) : ixl (l.map f) j = (ixl l j).map f := by
  unfold ixl
  rw [List.length_map]
  split
  · rw [List.getElem?_map]
  · split
    · rw [List.getElem?_map]
    · rfl
/-- what d[j] is -/
def ixD (d : D) (j : Int) (k : D → Prop) : Prop := match d with
  | .tup l => getO (ixl l j) k
  | .lst l => getO (ixl l j) k
  | .own l => getO (ixl l j) k
  | .scr ns => getO (ixl ns j) fun n => k (.int n)
  | .str x => getO (ixl x.cps.toList j) fun c => x.length ≤ sizeLine ∧ k (.str ⟨#[c]⟩)
  | _ => False
theorem Rps.ixl_ {K : PySem.W.Frag} {F H : Hp} {l : List D} {vs : List V} {f : List Addr} {j : Int} {d : D} (h : Rps K F H l vs f) (e : ixl l j = some d) : ∃ v g, ixl vs j = some v ∧ Rp K F H d v g := by
  have hl := h.len
  unfold ixl at e ⊢
  rw [← hl]
  split at e
  · rename_i h0
    rw [if_pos h0]
    exact h.getF e
  · rename_i h0
    split at e
    · rename_i h1
      rw [if_neg h0, if_pos h1]
      exact h.getF e
    · cases e
section
variable {K : PySem.W.Frag} {F H : Hp} {d : D} {v : V} {f : List Addr} {j : Int} {k : D → Prop}
theorem ixD_ok (p : Rp K F H d v f) (s : Same F H) (h : ixD d j k) : ∃ x, k x ∧ ∃ u g, Rp K F H x u g ∧ ∀ Q : VK, Q u H → rIx K v (.int j) H Q := by
  cases p <;> unfold ixD at h <;> try (exact h.elim)
  · -- str
    obtain ⟨c, h1, h2, h3⟩ := getO_iff.mp h
    exact ⟨_, h3, _, [], .str _, fun Q q => .inr (.inr ⟨_, _, c, rfl, rfl, h2, ixl_atI h1, q⟩)⟩
  · rename_i q
    obtain ⟨n, h1, h3⟩ := getO_iff.mp h
    exact ⟨_, h3, _, [], .int n, fun Q z => .inl ⟨_, _, _, _, rfl, rfl, s.seq q, ixl_atI (by rw [ixl_map, h1]; rfl), z⟩⟩
  · rename_i q r
    obtain ⟨x, h1, h3⟩ := getO_iff.mp h
    obtain ⟨u, g, h4, h5⟩ := r.ixl_ h1
    exact ⟨x, h3, u, g, h5, fun Q z => .inr (.inl ⟨_, _, _, _, rfl, rfl, Same.sqT s q, ixl_atI h4, z⟩)⟩
  · rename_i q r
    obtain ⟨x, h1, h3⟩ := getO_iff.mp h
    obtain ⟨u, g, h4, h5⟩ := r.ixl_ h1
    exact ⟨x, h3, u, g, h5, fun Q z => .inl ⟨_, _, _, _, rfl, rfl, SqL.of (s _ _ q), ixl_atI h4, z⟩⟩
  · rename_i q e r
    obtain ⟨x, h1, h3⟩ := getO_iff.mp h
    obtain ⟨u, g, h4, h5⟩ := r.ixl_ h1
    exact ⟨x, h3, u, g, h5, fun Q z => .inl ⟨_, _, _, _, rfl, rfl, SqL.of e, ixl_atI h4, z⟩⟩
end

section
variable {X : Cx} {W : WX} {a b c e : Expr} {pos : Pos} {ea eb ec : DE} {es : List Expr}
/-! ### items -/
def gIx : D → D → (D → Prop) → Prop := fun x y k => asI y fun j => ixD x j fun d => d.noOwn = true ∧ k d
theorem opd_ix : OpD X (rIx X.K) gIx := fun {fx M L σ F H v w x y k} sr h => by
  obtain ⟨j, rfl, h1⟩ := asI_iff.mp h
  have := sr.int; subst this
  obtain ⟨f, p⟩ := sr.pop.top
  obtain ⟨d, ⟨n, h2⟩, u, g, q, fin⟩ := ixD_ok p sr.sub h1
  rw [Rp.clean _ _ _ n q] at q
  exact ⟨d, u, h2, q, fin⟩
abbrev dIx : DE → DE → DE := dBin gIx
theorem d_ix (ha : PE X a (liftE X.K W (ea))) (hb : PE X b (liftE X.K W (eb))) (hs : PlainIx b := by intro _ _; rfl) : PE X (.Subscript a b pos) (liftE X.K W (dIx ea eb)) := peW (pe_ix ix_seq ha hb hs) (bin_ok opd_ix)
/-- of what slot i holds then -/
def dIxS (i : Nat) (eb : DE) : DE := fun M Q E => getO (M.at i) fun _ => eb M (fun y M2 => asI y fun j => getO (M2.at i) fun x => ixD x j fun d => d.noOwn = true ∧ Q d M2) E
theorem d_ixS {i : Nat} (ha : PE X a (tVar i)) (hb : PE X b (liftE X.K W (eb))) (hs : PlainIx b := by intro _ _; rfl) : PE X (.Subscript a b pos) (liftE X.K W (dIxS i eb)) := peW (pe_ix ix_seq ha hb hs) fun σ H Q ⟨fx, M, L, F, Q0, E0, sr, he, hq, hx⟩ => by
  obtain ⟨d0, hd0, he⟩ := getO_iff.mp he
  obtain ⟨v, f0, hv, _⟩ := sr.at (ms_at.mp hd0)
  refine ⟨v, hv, fx, M, L, F, _, E0, sr, he, fun y M2 w F2 H2 q2 s2 sr2 => ?_, hx⟩
  obtain ⟨j, rfl, q3⟩ := asI_iff.mp q2
  obtain ⟨x, hx2, q4⟩ := getO_iff.mp q3
  have := sr2.int; subst this
  obtain ⟨v', f, hv', p⟩ := sr2.at (ms_at.mp hx2)
  rw [hv] at hv'; cases hv'
  obtain ⟨d, ⟨n, h2⟩, u, g, q, fin⟩ := ixD_ok p sr2.sub q4
  rw [Rp.clean _ _ _ n q] at q
  exact fin _ (hq d M2 u F2 H2 h2 s2 (sr2.pop.push q))

/-! ### arguments, displays -/
def aNil : DA := fun M Q _ => Q [] M
def aCons (ea : DE) (as : DA) : DA := fun M Q E => ea M (fun d M1 => as M1 (fun ds M2 => Q (d :: ds) M2) E) E
theorem a_nil : PA X [] (liftA X.K W (aNil)) := paW pa_nil fun σ H Q ⟨fx, M, L, F, Q0, E0, sr, he, hq, hx⟩ => hq [] M [] F H he (Same.refl _) rfl sr
theorem a_cons {as : DA} (ha : PE X e (liftE X.K W (ea))) (hr : PA X es (liftA X.K W (as))) (hs : starEach (e :: es) X.env = (false, eval e X.env) :: starEach es X.env := by rfl) : PA X (e :: es) (liftA X.K W (aCons ea as)) :=
  paW (pa_cons ha hr hs) fun σ H Q ⟨fx, M, L, F, Q0, E0, sr, he, hq, hx⟩ =>
    ⟨fx, M, L, F, _, E0, sr, he, fun d M1 v F1 H1 q1 s1 sr1 => ⟨fx, M1, _, F1, _, E0, sr1, q1, fun ds M2 vs F2 H2 q2 s2 hl sr2 => hq _ M2 _ F2 H2 q2 (s1.trans s2) (by simp [hl]) (sr2.perm (by
      simp only [List.zip_cons_cons, List.cons_append]
      exact List.perm_middle)), fun C M' F' H' z s sr' => hx C M' F' H' z (s1.trans s) sr'.pop⟩, hx⟩
def dTup (as : DA) : DE := fun M Q E => as M (fun ds M1 => ds.length ≤ 10000 ∧ Q (.tup ds) M1) E
def dLst (as : DA) : DE := fun M Q E => as M (fun ds M1 => ds.length ≤ 10000 ∧ Q (.own ds) M1) E
theorem small_line {n : Nat} (h : n ≤ 10000) : n ≤ sizeLine := by rw [sizeLine_eq]; omega
theorem d_tup {as : DA} {k} (h : PA X es (liftA X.K W (as))) : PE X (.Tuple es k pos) (liftE X.K W (dTup as)) := peW (pe_tup h) fun σ H Q ⟨fx, M, L, F, Q0, E0, sr, he, hq, hx⟩ =>
  ⟨fx, M, L, F, _, E0, sr, he, fun ds M1 vs F1 H1 q1 s1 hl sr1 => ⟨by rw [hl]; exact small_line q1.1, fun p hp => (by
    obtain ⟨sr2, s2⟩ := sr1.tupNew hl hp
    exact hq _ M1 _ _ _ q1.2 (s1.trans s2) sr2)⟩, hx⟩
theorem d_lst {as : DA} (h : PA X es (liftA X.K W (as))) : PE X (.List es pos) (liftE X.K W (dLst as)) := peW (pe_lst h) fun σ H Q ⟨fx, M, L, F, Q0, E0, sr, he, hq, hx⟩ =>
  ⟨fx, M, L, F, _, E0, sr, he, fun ds M1 vs F1 H1 q1 s1 hl sr1 => ⟨by rw [hl]; exact small_line q1.1, fun p hp => hq _ M1 _ _ _ q1.2 s1 (sr1.ownNew hl hp)⟩, hx⟩
/-- what was made is frozen at once -/
def dFz (ea : DE) : DE := fun M Q E => ea M (fun d M1 => ∃ d', d.frz = d' ∧ Q d' M1) E
theorem fz_w (σ : L2.St) (H : Hp) (Q : VK) (h : liftE X.K W (dFz ea) σ H Q) : liftE X.K W ea σ H Q := by
  obtain ⟨fx, M, L, F, Q0, E0, sr, he, hq, hx⟩ := h
  refine ⟨fx, M, L, F, _, E0, sr, he, fun d M1 v F1 H1 q1 s1 sr1 => ?_, hx⟩
  obtain ⟨_, rfl, q1⟩ := q1
  obtain ⟨F2, sr2, s2, _⟩ := sr1.frzTop
  exact hq _ M1 v F2 H1 q1 (s1.trans s2) sr2
theorem d_fz (h : PE X e (liftE X.K W (ea))) : PE X e (liftE X.K W (dFz ea)) := peW h fun σ H Q ⟨fx, M, L, F, Q0, E0, sr, he, hq, hx⟩ =>
  ⟨fx, M, L, F, _, E0, sr, he, fun d M1 v F1 H1 q1 s1 sr1 => (by
    obtain ⟨_, rfl, q1⟩ := q1
    obtain ⟨F2, sr2, s2, _⟩ := sr1.frzTop
    exact hq _ M1 v F2 H1 q1 (s1.trans s2) sr2), hx⟩

/-! ### built-in calls of one argument that is looked at -/
/-- what a call makes of one tree -/
def Cal1 (X : Cx) (r : List V → Hp → VK → Prop) (g : D → (D → Prop) → Prop) : Prop :=
  ∀ {F H d v f} {k : D → Prop}, Same F H → Rp X.K F H d v f → g d k → ∃ x u, k x ∧ Rp X.K F H x u [] ∧ ∀ Q : VK, Q u H → r [v] H Q
def dCal1 (g : D → (D → Prop) → Prop) (ea : DE) : DE := fun M Q E => ea M (fun d M1 => g d fun x => Q x M1) E
theorem cal1_ok {r : List V → Hp → VK → Prop} {g : D → (D → Prop) → Prop} (hr : Cal1 X r g) (σ : L2.St) (H : Hp) (Q : VK) (h : (liftE X.K W (dCal1 g ea)) σ H Q) : tCB r (tCons (liftB X.K W ea) tNil) σ H Q := by
  obtain ⟨fx, M, L, F, Q0, E0, sr, he, hq, hx⟩ := h
  refine ⟨fx, M, L, F, _, E0, sr, he, fun d M1 v f F1 H1 q1 s1 sr1 p => ?_, hx⟩
  obtain ⟨x, u, kx, px, fin⟩ := hr sr1.sub p q1
  exact fin _ (hq x M1 u F1 H1 kx s1 (sr1.push px))
theorem d_cal1 {r : List V → Hp → VK → Prop} {g : D → (D → Prop) → Prop} {x : Str} {id : String} {p : Pos} (hc : CallR X (.builtin id) r) (hr : Cal1 X r g) (hg : Gl X x) (hm : X.mg x = none) (hv : bootBuiltins x = some (.builtin id)) (ha : PE X e (liftB X.K W ea))
    (hn : x ≠ "__name__" := by decide) (hdb : (x == ("__debug__" : Str)) = false := by decide) (he : starEach [e] X.env = [(false, eval e X.env)] := by rfl) : PE X (.Call (.Name x p) [e] [] pos) (liftE X.K W (dCal1 g ea)) :=
  peW (pe_callB hc hg hm hv (pa_cons ha pa_nil (by rw [he]; rfl)) hn hdb (by rw [he]; rfl) (by rfl)) (cal1_ok hr)
theorem d_calT {r : List V → Hp → VK → Prop} {g : D → (D → Prop) → Prop} {x : Str} {T : String} {p : Pos} (hc : CallR X (.type T) r) (hr : Cal1 X r g) (hg : Gl X x) (hm : X.mg x = none) (hv : bootBuiltins x = some (.type T)) (ha : PE X e (liftB X.K W ea))
    (hn : x ≠ "__name__" := by decide) (hdb : (x == ("__debug__" : Str)) = false := by decide) (he : starEach [e] X.env = [(false, eval e X.env)] := by rfl) : PE X (.Call (.Name x p) [e] [] pos) (liftE X.K W (dCal1 g ea)) :=
  peW (pe_callTy hc hg hm hv (pa_cons ha pa_nil (by rw [he]; rfl)) hn hdb (by rw [he]; rfl) (by rfl)) (cal1_ok hr)
/-! len -/
def gLen : D → (D → Prop) → Prop := fun d k => match d with
  | .tup l => k (.int l.length)
  | .lst l => k (.int l.length)
  | .own l => k (.int l.length)
  | .scr l => k (.int l.length)
  | .str x => x.length ≤ sizeLine ∧ k (.int x.length)
  | _ => False
theorem cal_len : Cal1 X (fun xs H Q => ∃ x n, xs = [x] ∧ LenV X.K x H n ∧ Q (.int n) H) gLen := fun {F H d v f k} s p h => by
  cases p <;> unfold gLen at h <;> try (exact h.elim)
  · exact ⟨_, _, h.2, .int _, fun Q q => ⟨_, _, rfl, ⟨h.1, rfl⟩, q⟩⟩
  · rename_i q
    exact ⟨_, _, h, .int _, fun Q z => ⟨_, _, rfl, .inl ⟨_, s.seq q, by simp⟩, z⟩⟩
  · rename_i q r
    exact ⟨_, _, h, .int _, fun Q z => ⟨_, _, rfl, .inr ⟨_, Same.sqT s q, r.len⟩, z⟩⟩
  · rename_i q r
    exact ⟨_, _, h, .int _, fun Q z => ⟨_, _, rfl, .inl ⟨_, SqL.of (s _ _ q), r.len⟩, z⟩⟩
  · rename_i q e r
    exact ⟨_, _, h, .int _, fun Q z => ⟨_, _, rfl, .inl ⟨_, SqL.of e, r.len⟩, z⟩⟩

theorem d_len {p : Pos} (hm : X.mg "len" = none) (ha : PE X e (liftB X.K W ea)) (hg : Gl X "len" := by rfl) (he : starEach [e] X.env = [(false, eval e X.env)] := by rfl) : PE X (.Call (.Name "len" p) [e] [] pos) (liftE X.K W (dCal1 gLen ea)) :=
  d_cal1 call_len cal_len hg hm PySem.boot_len ha (by decide) (by decide) he
/-! abs, int -/
def gAbs : D → (D → Prop) → Prop := fun d k => asI d fun i => k (.int (if i < 0 then -i else i))
theorem cal_abs : Cal1 X (fun xs H Q => ∃ i, xs = [.int i] ∧ Q (.int (if i < 0 then -i else i)) H) gAbs := fun {F H d v f k} s p h => by
  obtain ⟨i, rfl, h1⟩ := asI_iff.mp h
  cases p
  exact ⟨_, _, h1, .int _, fun Q q => ⟨i, rfl, q⟩⟩
theorem d_abs {p : Pos} (hm : X.mg "abs" = none) (ha : PE X e (liftB X.K W ea)) (hg : Gl X "abs" := by rfl) (he : starEach [e] X.env = [(false, eval e X.env)] := by rfl) : PE X (.Call (.Name "abs" p) [e] [] pos) (liftE X.K W (dCal1 gAbs ea)) :=
  d_cal1 call_abs cal_abs hg hm (by decide +kernel) ha (by decide) (by decide) he
def gInt : D → (D → Prop) → Prop := fun d k => match d with
  | .int i => k (.int i)
  | .bl b => k (.int (if b then 1 else 0))
  | _ => False
theorem cal_int : Cal1 X (fun xs H Q => (∃ i, xs = [.int i] ∧ Q (.int i) H) ∨ ∃ k, xs = [.bl k] ∧ Q (.int (if k then 1 else 0)) H) gInt := fun {F H d v f k} s p h => by
  cases p <;> unfold gInt at h <;> try (exact h.elim)
  · exact ⟨_, _, h, .int _, fun Q q => .inr ⟨_, rfl, q⟩⟩
  · exact ⟨_, _, h, .int _, fun Q q => .inl ⟨_, rfl, q⟩⟩
theorem d_toint {p : Pos} (hm : X.mg "int" = none) (ha : PE X e (liftB X.K W ea)) (hg : Gl X "int" := by rfl) (he : starEach [e] X.env = [(false, eval e X.env)] := by rfl) : PE X (.Call (.Name "int" p) [e] [] pos) (liftE X.K W (dCal1 gInt ea)) :=
  d_calT call_int1 cal_int hg hm (by decide +kernel) ha (by decide) (by decide) he
/-! two arguments -/
def gMax : D → D → (D → Prop) → Prop := fun x y k => asI x fun i => asI y fun j => k (.int (if j > i then j else i))
def gMin : D → D → (D → Prop) → Prop := fun x y k => asI x fun i => asI y fun j => k (.int (if j < i then j else i))
theorem starTwo {env : Env} (he : starEach [a, b] env = [(false, eval a env), (false, eval b env)]) (hb : starEach [b] env = [(false, eval b env)]) : starEach (a :: [b]) env = (false, eval a env) :: starEach [b] env := by rw [he, hb]
theorem d_cal2 {r : List V → Hp → VK → Prop} {g : D → D → (D → Prop) → Prop} {x : Str} {id : String} {p : Pos} (hc : CallR X (.builtin id) r) (hr : OpD X (fun v w H Q => r [v, w] H Q) g) (hg : Gl X x) (hm : X.mg x = none) (hv : bootBuiltins x = some (.builtin id)) (ha : PE X a (liftE X.K W (ea))) (hb : PE X b (liftE X.K W (eb)))
    (hn : x ≠ "__name__" := by decide) (hdb : (x == ("__debug__" : Str)) = false := by decide) (he : starEach [a, b] X.env = [(false, eval a X.env), (false, eval b X.env)] := by rfl) (he2 : starEach [b] X.env = [(false, eval b X.env)] := by rfl) : PE X (.Call (.Name x p) [a, b] [] pos) (liftE X.K W (dBin g ea eb)) :=
  peW (pe_callB hc hg hm hv (pa_cons ha (pa_cons hb pa_nil (by rw [he2]; rfl)) (starTwo he he2)) hn hdb (starTwo he he2) (by rw [he2]; rfl)) fun σ H Q h => bin_ok hr σ H Q h
theorem d_max {p : Pos} (hc : X.calm = true) (hm : X.mg "max" = none) (ha : PE X a (liftE X.K W (ea))) (hb : PE X b (liftE X.K W (eb))) (hg : Gl X "max" := by rfl) (he : starEach [a, b] X.env = [(false, eval a X.env), (false, eval b X.env)] := by rfl) (he2 : starEach [b] X.env = [(false, eval b X.env)] := by rfl) : PE X (.Call (.Name "max" p) [a, b] [] pos) (liftE X.K W (dBin gMax ea eb)) :=
  d_cal2 (call_max2 hc) (fun {fx M L σ F H v w x y k} sr h => by
    obtain ⟨i, rfl, h1⟩ := asI_iff.mp h
    obtain ⟨j, rfl, h2⟩ := asI_iff.mp h1
    have := sr.int; subst this
    have := sr.pop.int; subst this
    exact ⟨_, _, h2, .int _, fun Q q => ⟨i, j, rfl, q⟩⟩) hg hm (by decide +kernel) ha hb (by decide) (by decide) he he2
theorem d_min {p : Pos} (hc : X.calm = true) (hm : X.mg "min" = none) (ha : PE X a (liftE X.K W (ea))) (hb : PE X b (liftE X.K W (eb))) (hg : Gl X "min" := by rfl) (he : starEach [a, b] X.env = [(false, eval a X.env), (false, eval b X.env)] := by rfl) (he2 : starEach [b] X.env = [(false, eval b X.env)] := by rfl) : PE X (.Call (.Name "min" p) [a, b] [] pos) (liftE X.K W (dBin gMin ea eb)) :=
  d_cal2 (call_min2 hc) (fun {fx M L σ F H v w x y k} sr h => by
    obtain ⟨i, rfl, h1⟩ := asI_iff.mp h
    obtain ⟨j, rfl, h2⟩ := asI_iff.mp h1
    have := sr.int; subst this
    have := sr.pop.int; subst this
    exact ⟨_, _, h2, .int _, fun Q q => ⟨i, j, rfl, q⟩⟩) hg hm (by decide +kernel) ha hb (by decide) (by decide) he he2

/-! ### isinstance -/
inductive Tg where
  | int | bool | str | tuple | list
def Tg.name : Tg → String
  | .int => "int" | .bool => "bool" | .str => "str" | .tuple => "tuple" | .list => "list"
def isTy : Tg → D → Bool
  | .int, .int _ => true
  | .int, .bl _ => true
  | .bool, .bl _ => true
  | .str, .str _ => true
  | .tuple, .tup _ => true
  | .list, .lst _ => true
  | .list, .own _ => true
  | .list, .scr _ => true
  | _, _ => false
/-- things that isinstance is asked of -/
def plainD : D → Bool
  | .cls _ => false
  | .ty _ => false
  | .exc _ => false
  | .scr _ => false
  | .obj _ _ _ => false
  | .fob _ _ _ => false
  | _ => true
theorem tyX_of {K : PySem.W.Frag} {F H : Hp} {d : D} {v : V} {f : List Addr} (s : Same F H) (p : Rp K F H d v f) (n : plainD d = true) (g : Tg) : ∃ t, TyX K H v t ∧ PySem.W.kitOne K t (.type g.name) = some (isTy g d) := by
  cases p <;> try (cases n; done)
  · exact ⟨_, .base .non, by cases g <;> first | exact kit_ty (r := true) (by decide +kernel) | exact kit_ty (r := false) (by decide +kernel)⟩
  · exact ⟨_, .base (.bl _), by cases g <;> first | exact kit_ty (r := true) (by decide +kernel) | exact kit_ty (r := false) (by decide +kernel)⟩
  · exact ⟨_, .base (.int _), by cases g <;> first | exact kit_ty (r := true) (by decide +kernel) | exact kit_ty (r := false) (by decide +kernel)⟩
  · exact ⟨_, .base (.str _), by cases g <;> first | exact kit_ty (r := true) (by decide +kernel) | exact kit_ty (r := false) (by decide +kernel)⟩
  · rename_i q r
    rcases Same.sqT s q with (q | ⟨o, q⟩) | ⟨o, its, n', hk, hc, hs, hz, rv⟩
    · exact ⟨_, .base (.tup q), by cases g <;> first | exact kit_ty (r := true) (by decide +kernel) | exact kit_ty (r := false) (by decide +kernel)⟩
    · exact ⟨_, .fTuple q, by cases g <;> first | exact kit_ty (r := true) (by decide +kernel) | exact kit_ty (r := false) (by decide +kernel)⟩
    · exact ⟨_, .kTuple hk hc, by cases g <;> first | exact kit_ty (r := true) (by decide +kernel) | exact kit_ty (r := false) (by decide +kernel)⟩
  · rename_i q r
    exact ⟨_, .base (.lst (s _ _ q)), by cases g <;> first | exact kit_ty (r := true) (by decide +kernel) | exact kit_ty (r := false) (by decide +kernel)⟩
  · rename_i q e r
    exact ⟨_, .base (.lst e), by cases g <;> first | exact kit_ty (r := true) (by decide +kernel) | exact kit_ty (r := false) (by decide +kernel)⟩
def dIsi (g : Tg) (ea : DE) : DE := fun M Q E => ea M (fun d M1 => plainD d = true ∧ Q (.bl (isTy g d)) M1) E
theorem d_isi (g : Tg) {p p2 : Pos} {n : Str} (hm : X.mg "isinstance" = none) (hm2 : X.mg n = none) (hv2 : bootBuiltins n = some (.type g.name)) (ha : PE X a (liftB X.K W ea)) (hg : Gl X "isinstance" := by rfl) (hg2 : Gl X n := by rfl)
    (he : starEach [a, .Name n p2] X.env = [(false, eval a X.env), (false, eval (.Name n p2) X.env)] := by rfl) (hn : n ≠ "__name__" := by decide) (hdb : (n == ("__debug__" : Str)) = false := by decide) : PE X (.Call (.Name "isinstance" p) [a, .Name n p2] [] pos) (liftE X.K W (dIsi g ea)) :=
  peW (pe_callB call_isi hg hm (by decide +kernel) (pa_cons ha (pa_cons (pe_bltn (v := .ty g.name) hg2 hm2 hv2 rfl hn hdb) pa_nil) (by rw [he]; rfl)) (by decide) (by decide) (by rw [he]; rfl) (by rfl)) fun σ H Q ⟨fx, M, L, F, Q0, E0, sr, he, hq, hx⟩ =>
    ⟨fx, M, L, F, _, E0, sr, he, fun d M1 v f F1 H1 q1 s1 sr1 q => (by
      obtain ⟨t, h1, h2⟩ := tyX_of sr1.sub q q1.1 g
      exact ⟨v, .ty g.name, t, _, _, rfl, .ty _, h1, h2, hq _ M1 _ F1 H1 q1.2 s1 (sr1.push (.bl _))⟩), hx⟩
/-- of an own class of errors: sub C' tells whether an error of C' is one -/
def isEx (sub : Addr → Bool) : D → Bool
  | .exc C => sub C
  | _ => false
def exD : D → Bool
  | .cls _ => false
  | .ty _ => false
  | .scr _ => false
  | .obj _ _ _ => false
  | .fob _ _ _ => false
  | _ => true
/-- what is known of the class c (own, or ValueError): of errors of the classes in good it is asked by sub, other things are none -/
structure ExKit (K : PySem.W.Frag) (c : Value) (good : Addr → Prop) (sub : Addr → Bool) : Prop where
  no : ∀ T ∈ ["NoneType", "bool", "int", "str", "tuple", "list"], PySem.W.kitOne K (.type T) c = some false
  ex : ∀ C, good C → ExcC K C ∧ PySem.W.kitOne K (.ref C) c = some (sub C)
def dIsE (good : Addr → Prop) (sub : Addr → Bool) (ea : DE) : DE := fun M Q E => ea M (fun d M1 => exD d = true ∧ (∀ C, d = .exc C → good C) ∧ Q (.bl (isEx sub d)) M1) E
theorem kitE_of {X : Cx} {F H : Hp} {d : D} {v : V} {f : List Addr} {c : Value} {good : Addr → Prop} {sub : Addr → Bool} (k : ExKit X.K c good sub) (s : Same F H) (p : Rp X.K F H d v f) (n : exD d = true) (hg : ∀ C, d = .exc C → good C) :
    ∀ {pins : List (Addr × Obj)} {sh : Shared} {σ : L2.St} {u : Value}, Inv X pins σ H sh → RelV v u → ∃ (t : Value) (P : Heap → Prop), PySem.W.KitX X.K u t P ∧ P sh.heap ∧ u ≠ .builtin "__main__.__loader__#opaque" ∧ PySem.W.kitOne X.K t c = some (isEx sub d) := by
  intro pins sh σ u I r
  have base : ∀ {T : String}, T ∈ ["NoneType", "bool", "int", "str", "tuple", "list"] → TyX X.K H v (.type T) → isEx sub d = false → ∃ (t : Value) (P : Heap → Prop), PySem.W.KitX X.K u t P ∧ P sh.heap ∧ u ≠ .builtin "__main__.__loader__#opaque" ∧ PySem.W.kitOne X.K t c = some (isEx sub d) := fun {T} hT ty e => by
    obtain ⟨P, Z, q, ne⟩ := kit_of I r ty
    exact ⟨_, P, Z, q, ne, by rw [e]; exact k.no T hT⟩
  cases p <;> try (cases n; done)
  · exact base (by simp) (.base .non) rfl
  · exact base (by simp) (.base (.bl _)) rfl
  · exact base (by simp) (.base (.int _)) rfl
  · exact base (by simp) (.base (.str _)) rfl
  · rename_i a C q
    obtain ⟨φ, e, q⟩ := q
    obtain ⟨hf, _, _⟩ := (show ObjOk X.prog X.w H sh.heap a (.ext φ) from I.hok a _ (s _ _ e))
    obtain ⟨ox, J⟩ := q _ hf
    obtain ⟨ec, ek⟩ := k.ex C (hg C rfl)
    cases (show u = Value.ref a from r)
    exact ⟨.ref C, fun h => PySem.W.InstAt h a ox C none, PySem.W.handS_kitx_exc ec.hg ec.hk ec.hs ec.hd ec.ha ec.hn ec.ht ec.hm, J, (fun z => nomatch z), ek⟩
  · rename_i q r'
    rcases Same.sqT s q with (q | ⟨o, q⟩) | ⟨o, its, n', hk, hc, hs, hz, rv⟩
    · exact base (by simp) (.base (.tup q)) rfl
    · exact base (by simp) (.fTuple q) rfl
    · exact base (by simp) (.kTuple hk hc) rfl
  · rename_i q r'
    exact base (by simp) (.base (.lst (s _ _ q))) rfl
  · rename_i q e r'
    exact base (by simp) (.base (.lst e)) rfl
def rIsE' (K : PySem.W.Frag) (P : V → Hp → Bool → Prop) : List V → Hp → VK → Prop := fun xs H Q => ∃ v c b, xs = [v, c] ∧ P v H b ∧ Q (.bl b) H
theorem d_isE {c : Value} {cv : V} {good : Addr → Prop} {sub : Addr → Bool} (k : ExKit X.K c good sub) {p : Pos} (hm : X.mg "isinstance" = none) (hb : PE X b (tC cv)) (hcv : ClsV cv c) (ha : PE X a (liftB X.K W ea)) (hg : Gl X "isinstance" := by rfl)
    (he : starEach [a, b] X.env = [(false, eval a X.env), (false, eval b X.env)] := by rfl) (he2 : starEach [b] X.env = [(false, eval b X.env)] := by rfl) : PE X (.Call (.Name "isinstance" p) [a, b] [] pos) (liftE X.K W (dIsE good sub ea)) := by
  have hc : CallR X (.builtin "isinstance") (fun xs H Q => ∃ v w d f F, xs = [v, w] ∧ w = cv ∧ Same F H ∧ Rp X.K F H d v f ∧ exD d = true ∧ (∀ C, d = .exc C → good C) ∧ Q (.bl (isEx sub d)) H) := by
    intro pins s σ H xs us Q I r h
    obtain ⟨v, w, d, f, F, rfl, rfl, sF, p, n, hgd, q⟩ := h
    obtain ⟨u1, u2, rfl, r1, r2⟩ := vals2 r
    have e2 := hcv.eq r2
    subst e2
    obtain ⟨t, P, Z, hp, ne, ek⟩ := kitE_of k sF p n hgd I r1
    exact PySem.W.kia_one Z I.kIn hp ek ne fun tk => ⟨.bl _, H, I.tok tk, rfl, q⟩
  exact peW (pe_callB hc hg hm (by decide +kernel) (pa_cons ha (pa_cons hb pa_nil (by rw [he2]; rfl)) (starTwo he he2)) (by decide) (by decide) (starTwo he he2) (by rw [he2]; rfl)) fun σ H Q ⟨fx, M, L, F, Q0, E0, sr, he, hq, hx⟩ =>
    ⟨fx, M, L, F, _, E0, sr, he, fun d M1 v f F1 H1 q1 s1 sr1 q => ⟨v, cv, d, f, F1, rfl, rfl, sr1.sub, q, q1.1, q1.2.1, hq _ M1 _ F1 H1 q1.2.2 s1 (sr1.push (.bl _))⟩, hx⟩
end
end TL
/-! # promises of defs that know that no guard is set (str of data wants it) -/
namespace TL
open PySem PySem.Spec PyProof.Rows L2

structure RmG (k : Nat) (A : Around) : Prop where
  rm : Room k A
  gd : A.guards = some []
theorem RmG.mono {j k : Nat} {A : Around} (r : RmG k A) (h : j ≤ k) : RmG j A := ⟨r.rm.mono h, r.gd⟩
theorem RmG.deeper {k : Nat} {A : Around} (r : RmG (k + 1) A) (env : Env) : RmG k (A.deeper env) := ⟨r.rm.deeper env, r.gd⟩

structure FnG (P : Program) (w : World) (K : PySem.W.Frag) (mg : Str → Option Value) (base : Heap) (CX : CXT) (k : Nat) (f : Addr) (fd : FuncData) (ps : List Str) (sp : Sp) : Prop where
  many : ∀ vs H Q E, sp vs H Q E → vs.length = ps.length
  go : ∀ {A : Around} {outer : List Env} {s : Shared} {H : Hp} {args : Args} {us : List Value} {vs : List V} {Q : VK} {E : XK}, RmG k A → Env0 P w K mg base A outer s H → BindsTo s fd args (ps.zip us) → Vals vs us → sp vs H Q E →
    codeAny (model P w) A (.call (.ref f) args) (CR CX outer P w H s Q E) s
theorem FnG.mono {P : Program} {w : World} {K : PySem.W.Frag} {mg : Str → Option Value} {base : Heap} {CX : CXT} {j k : Nat} {f : Addr} {fd : FuncData} {ps : List Str} {sp : Sp} (F : FnG P w K mg base CX j f fd ps sp) (h : j ≤ k) : FnG P w K mg base CX k f fd ps sp :=
  ⟨F.many, fun hr => F.go (hr.mono h)⟩

section
variable {X : Cx} {W : WX} {k : Nat} {f : Addr} {fd : FuncData} {ps : List Str} {sp : Sp} {x : Str} {p pos : Pos} {e : Expr} {es : List Expr} {t : TA}
/-- f(..) by such a promise -/
theorem pe_callG (F : FnG X.prog X.w X.K X.mg X.base (L2.CX X.prog X.w) k f fd ps sp) (tk : Takes X W) (hr : RmG k X.A) (hg : Gl X x) (hm : X.mg x = some (.ref f)) (hk : PySem.W.keepIn X.K (.ref f) = true) (hb : Binds X.K fd ps [])
    (ha : PA X (e :: es) t) (hdb : (x == ("__debug__" : Str)) = false := by decide) (he : starEach (e :: es) X.env = (false, eval e X.env) :: starEach es X.env := by rfl) (hpl : (backTo pos (starEach es X.env)).any (·.1) = false := by rfl) :
    PE X (.Call (.Name x p) (e :: es) [] pos) (tCallS sp (WE W) t) where
  run := fun pins s σ H Q I h => wpAny_Call_Name_kw (ld_glob I hg hm (PySem.W.callWith_K (h₀ := X.base) I.ok.mod.kin hk (thn (ha.run pos pins s σ H _ I h) (by
    rintro us s1 ⟨vs, H1, I1, r, q⟩
    have ln : (us ++ []).length = ps.length := by rw [List.append_nil, ← r.length]; exact F.many _ _ _ _ q
    have bd := hb s1 us I1.kIn ln
    simp only [List.append_nil] at bd
    refine ⟨I1.kIn, wpAny_call (codeAny_mono (F.go hr I1.env0 bd r q) ?_)⟩
    rintro (e | fl) s' hq
    · exact passAt tk σ pins H1 s1 e s' I1 hq
    · cases fl <;> first | exact I1.after hq | exact False.elim hq)) he hpl) hdb)
end

section
variable {P : Program} {w : World} {K : PySem.W.Frag} {mg : Str → Option Value} {base : Heap}
/-- a def by its body -/
theorem okG {x qual : Str} {st : Stmt} {f : Addr} {fd : FuncData} {N ps : List Str} {k : Nat} {sp : Sp} (F : Fun K x qual st f fd) (S : FnScope N ps (defScope st)) (len : ∀ vs H Q E, sp vs H Q E → vs.length = ps.length)
    (hb : ∀ (cdv : Value) (A : Around) (outer : List Env) (s : Shared) (H : Hp) (vs : List V) (Q : VK) (E : XK), RmG k (A.deeper (envOfC qual (defScope st) s.heap.objs.size f cdv)) → sp vs H Q E →
      ∃ t, PSs (cxOf (L2.CX P w) P w K mg base N qual (defScope st) f cdv A outer s H E) (defBody st) t ∧ t { nx := fun _ H' => Q .non H', rt := Q } (start N vs) H) : FnG P w K mg base (L2.CX P w) (k + 1) f fd ps sp := by
  obtain ⟨oc, od, kV, doc, pm, an, cdv, ct, osl, rfl, lk, hcd⟩ := F.ex
  refine ⟨len, ?_⟩
  intro A outer s H args us vs Q E hr e0 bd r hsp
  have up : ∀ b o, base.get? b = some o → s.heap.get? b = some o := fun b o e => (e0.bs b o e).1
  have kin := e0.mod.kin.keeps up
  have nolim := e0.mod.nolimit.keeps up
  have kinds : ∀ y ∈ ps.zip us, (defScope st).names.lookup y.1 = some .local ∨ ((defScope st).names.lookup y.1 = some .cell ∧ ((cellsFrom (s.heap.objs.size + 1) (defScope st).names []).lookup y.1).isSome = true) := by
    rintro ⟨n, v⟩ hy
    exact (S.par n (List.of_mem_zip hy).1).imp id fun q => ⟨q, PySem.W.cellsFrom_some _ _ _ (.inl q)⟩
  refine codeAny_call_function hr.rm.depth (kin _ _ lk) rfl S.co S.gen rfl (PySem.W.codeRec_of kin hcd) (bd _ _ _ _ (wpAny_newFunctionEnv_cells S.kind kinds ?_))
  rintro env rfl s1 ic
  refine ⟨nolim.keeps ic.toInCall.keep, codeAny_func ?_⟩
  obtain ⟨t, ht, hq⟩ := hb cdv A outer s H vs Q E (hr.deeper _) hsp
  refine wpAny_mono (ht.run [] s1 (start N vs) H _ (inv_start S hr.rm.hd e0 (len _ _ _ _ hsp) r ic) hq) (fun fl s' hs => ?_) fun _ _ hs => hs
  cases fl with
  | ret u => obtain ⟨v, σ', H', J, rv, q⟩ := hs; exact ⟨v, H', J.os, J.bare, J.base, J.hok, rv, q⟩
  | next => obtain ⟨σ', H', J, q⟩ := hs; exact ⟨.non, H', J.os, J.bare, J.base, J.hok, rfl, q⟩
  | brk => obtain ⟨_, _, _, q⟩ := hs; exact q.elim
  | cont => obtain ⟨_, _, _, q⟩ := hs; exact q.elim

/-! the law's own call -/
/-- what is tracked at first: nothing, or the script alone -/
def H0 (K : PySem.W.Frag) (a : Addr) (vs : List Value) (ns : List Int) : Hp := fun b => match K.lookup a with
  | some _ => none
  | none => if b = a then some (.frz { cls := .type "list", data := .seq vs.toArray } (.lst (ns.map V.int))) else none
theorem h0_cases {K : PySem.W.Frag} {a : Addr} {vs : List Value} {ns : List Int} (b : Addr) : H0 K a vs ns b = none ∨ (b = a ∧ K.lookup a = none ∧ H0 K a vs ns b = some (.frz { cls := .type "list", data := .seq vs.toArray } (.lst (ns.map V.int)))) := by
  unfold H0
  cases K.lookup a with
  | some o => exact .inl rfl
  | none =>
    by_cases e : b = a
    · exact .inr ⟨e, rfl, by simp only [if_pos e]⟩
    · exact .inl (by simp only [if_neg e])
theorem law_callG {mb : Str → Option Value} {k : Nat} {fa a : Addr} {fd : FuncData} {x : Str} {sp : Sp} {s₁ : Shared} {vs : List Value} {ns : List Int}
    (KX : K.In s₁.heap) (hns : s₁.heap.Ns mainGlobals mg) (hb : s₁.heap.Ns builtinsNs mb) (hbb : ∀ x : Str, x ≠ "__name__" → mb x = bootBuiltins x) (hlim : s₁.heap.NoLimit) (hg : s₁.gens = #[])
    (ha : s₁.heap.get? a = some { cls := .type "list", data := .seq vs.toArray }) (hi : IntsAre vs ns) (hl : ns.length ≤ sizeLine) (hr : RmG k callerA)
    (F : ∀ base : Heap, K.In base → base.Ns mainGlobals mg → FnG P w K mg base (L2.CX P w) k fa fd [x] sp) (hbind : ∀ (s : Shared) (u : Value), BindsTo s fd ⟨[u], []⟩ [(x, u)])
    (hsp : ∀ H : Hp, Only H → SqL K H a (ns.map V.int) → sp [.ref a] H (fun v _ => v = .bl true) fun _ _ _ => False)
    (hCX : ∀ H e s', L2.CX P w [] H s₁ (fun _ _ _ => False) e s' → False) :
    codeAny (model P w) callerA (.call (.ref fa) ⟨[.ref a], []⟩) (fun r s' => r = .ok (.ret (.bool true)) ∧ OldK s₁.heap s'.heap ∧ s'.os = s₁.os ∧ AllBare s'.gens) s₁ := by
  have rv := vals_ints hi
  have lenV := hi.length
  have hH := h0_cases (K := K) (a := a) (vs := vs) (ns := ns)
  have hA : H0 K a vs ns a = none → ∃ o, K.lookup a = some o := by
    unfold H0
    cases K.lookup a with
    | some o => exact fun _ => ⟨o, rfl⟩
    | none => simp
  generalize H0 K a vs ns = H at hH hA
  have only : Only H := fun b => (hH b).imp id fun h => ⟨_, _, h.2.2⟩
  have self : H a = none → ∃ o, K.lookup a = some o := hA
  have sq : SqL K H a (ns.map V.int) := by
    rcases hH a with h | h
    · obtain ⟨o, hk⟩ := self h
      have e := ha.symm.trans (KX a o hk)
      cases e
      refine .inr ⟨_, vs.toArray, _, hk, rfl, rfl, rfl, ?_, ?_⟩
      · rw [List.size_toArray, lenV]; exact hl
      · simpa using rv
    · exact .inl (.inr ⟨_, h.2.2⟩)
  have hok : HOk P w H s₁.heap := by
    intro b u z
    rcases hH b with h | ⟨rfl, -, h⟩
    · rw [h] at z; cases z
    · rw [h] at z; cases z
      refine ⟨ha, ?_, vs, _, rv, ha⟩
      rw [List.length_map]; exact hl
  have get0 : ∀ {b : Addr} {o : Obj}, s₁.heap.get? b = some o → H b = none → (hidT s₁.heap H).get? b = some o := hidT_get
  have noDict : ∀ {b : Addr} {o : Obj} {es : Array DictEntry} {ep : Nat}, s₁.heap.get? b = some o → o.data = .dict es ep → H b = none := by
    intro b o es ep e d
    rcases hH b with h | ⟨rfl, -, -⟩
    · exact h
    · cases ha.symm.trans e; exact nomatch d
  have ns0 : ∀ {b : Addr} {m : Str → Option Value}, s₁.heap.Ns b m → (hidT s₁.heap H).Ns b m := by
    rintro b m ⟨o, es, ep, e, d, r⟩
    exact ⟨o, es, ep, get0 e (noDict e d), d, r⟩
  have kin0 : K.In (hidT s₁.heap H) := by
    intro b o e
    rcases hH b with h | ⟨rfl, h, -⟩
    · exact get0 (KX b o e) h
    · rw [e] at h; cases h
  obtain ⟨mc, l1, l2⟩ := hlim
  have e0 : Env0 P w K mg (hidT s₁.heap H) callerA [] s₁ H :=
    ⟨rfl, ⟨kin0, ns0 hns, ⟨mb, ns0 hb, hbb⟩, ⟨mc, ns0 l1, l2⟩⟩, fun _ _ e => of_hidT e, Nat.le_of_eq (hidT_size _ _), trivial, (fun b z => absurd (show b ∈ ([] : List Addr) from z) (by simp)), hok, .of_eq hg⟩
  refine codeAny_mono ((F _ kin0 (ns0 hns)).go (us := [.ref a]) (vs := [.ref a]) hr e0 (hbind s₁ (.ref a)) (.cons rfl .nil) (hsp H only sq)) ?_
  rintro (e | fl) s' h
  · exact (hCX H e s' h).elim
  cases fl <;> try exact False.elim h
  obtain ⟨v, H', os, bare, un, hok', r', q⟩ := h
  have q : v = .bl true := q
  subst q
  cases (show _ = Value.bool true from r')
  refine ⟨rfl, OldK.of_keep ?_, os, bare⟩
  intro b o e
  rcases hH b with h | ⟨rfl, -, h⟩
  · exact un.keep b o e h (by intro z; exact absurd (show b ∈ ([] : List Addr) from z) (by simp)) (by simp)
  · obtain ⟨e1, _⟩ := hok b _ h
    obtain ⟨e2, _⟩ := hok' b _ (un.frzs b _ _ h)
    cases e.symm.trans e1
    exact e2
/-- the goal of the end, from the law's own promise -/
theorem walk_G {l : PySem.W.OpenLaw} {n k : Nat} {q : Program} {loose : List Str} {XP : (Str → Option Value) → Heap → Prop} {YP : World → Heap → Prop} {d : DefRec} {K : Params → PySem.W.Frag} {sp : World → Sp} {x : Str}
    (hn : l.most = some n) (hn2 : n ≤ sizeLine) (hdf : d.params.defaults = []) (hr : RmG k callerA) (hY : ∀ (w : World) (h : Heap), YP w h → (K w.params).In h)
    (F : ∀ (w : World) (mg : Str → Option Value) (fa : Addr) (h : Heap), (K w.params).In h → h.Ns mainGlobals mg → mg d.name = some (.ref fa) →
      ∃ fd : FuncData, (∀ (s : Shared) (u : Value), BindsTo s fd ⟨[u], []⟩ [(x, u)]) ∧ ∀ base : Heap, (K w.params).In base → base.Ns mainGlobals mg → FnG l.prog w (K w.params) mg base (L2.CX l.prog w) k fa fd [x] (sp w))
    (hsp : ∀ (w : World) (H : Hp) (a : Addr) (ns : List Int), ns.length ≤ n → Only H → SqL (K w.params) H a (ns.map V.int) → sp w [.ref a] H (fun v _ => v = .bl true) fun _ _ _ => False)
    (hCX : ∀ (w : World) (H : Hp) (s : Shared) (e : Value) (s' : Shared), L2.CX l.prog w [] H s (fun _ _ _ => False) e s' → False) : PySem.W.WalkO q loose XP YP l.row.toRowW d [] (fun f vs => PySem.call f vs) := by
  apply Att.attach_call hn hdf
  intro w s₀ s₁ mg mb fa o pm cd doc a vs ns G Y _ _ _ hmg hobj hints hlen hg
  obtain ⟨fd, hb, hF⟩ := F w mg fa _ (hY w _ Y) G.T.g hmg
  exact law_callG (hY w _ Y) G.T.g G.T.b G.T.builtins G.T.nolimit hg hobj hints (Nat.le_trans hlen hn2) hr hF hb (fun H hO hS => hsp w H a ns hlen hO hS) fun H e s' => hCX w H s₁ e s'
end
end TL
namespace TL
open PySem PyProof.Rows L2

/-! ### arguments of a call: trees, or objects handed in -/
/-- ex: a tree; io: the object in a slot; mv: a made object that no one else holds -/
inductive Ag where
  | ex (d : D) | io (i : Nat) | mv (d : D)
def argS : Slot → Bool
  | .va _ => true
  | .io _ => true
  | _ => false
abbrev DC := MS → (List Ag → MS → Prop) → DX → Prop
inductive ArgsR (σ : L2.St) : List Ag → List V → List (V × D) → Prop
  | nil : ArgsR σ [] [] []
  | ex {d : D} {v : V} {as : List Ag} {vs : List V} {Z : List (V × D)} : ArgsR σ as vs Z → ArgsR σ (.ex d :: as) (v :: vs) ((v, d) :: Z)
  | mv {d : D} {v : V} {as : List Ag} {vs : List V} {Z : List (V × D)} : ArgsR σ as vs Z → ArgsR σ (.mv d :: as) (v :: vs) ((v, d) :: Z)
  | io {i : Nat} {v : V} {as : List Ag} {vs : List V} {Z : List (V × D)} : σ[i]? = some (some v) → ArgsR σ as vs Z → ArgsR σ (.io i :: as) (v :: vs) Z
def liftC (K : PySem.W.Frag) (W : WX) (c : DC) : TA := fun σ H Q => ∃ fx M L F Q0 E0, SR K fx M L σ F H ∧ c M Q0 E0 ∧ (∀ as M' vs Z F' H', Q0 as M' → Same F F' → ArgsR σ as vs Z → SR K fx M' (Z ++ L) σ F' H' → Q vs H') ∧
  ∀ C M' F' H', E0 C M' → Same F F' → SR K fx M' L σ F' H' → W (.ref C) none σ H'
def cNil : DC := fun M Q _ => Q [] M
def cEx (ea : DE) (c : DC) : DC := fun M Q E => ea M (fun d M1 => c M1 (fun as M2 => Q (.ex d :: as) M2) E) E
def cMv (ea : DE) (c : DC) : DC := fun M Q E => ea M (fun d M1 => c M1 (fun as M2 => Q (.mv d :: as) M2) E) E
def cIo (i : Nat) (c : DC) : DC := fun M Q E => getO (M.at i) fun _ => c M (fun as M2 => Q (.io i :: as) M2) E

def lend (M : MS) (i : Nat) : Option (D × MS) := match M[i]? with
  | some (.va d) => some (d, M.set i .un)
  | some (.io d) => some (d, M.set i .ol)
  | _ => none
def takeArgs : MS → List Ag → Option (List Slot × MS)
  | M, [] => some ([], M)
  | M, .ex d :: r => match takeArgs M r with
    | some (s, M') => some (.va d :: s, M')
    | none => none
  | M, .mv d :: r => match takeArgs M r with
    | some (s, M') => some (.io d :: s, M')
    | none => none
  | M, .io i :: r => match lend M i with
    | some (d, M1) => (match takeArgs M1 r with
      | some (s, M') => some (.io d :: s, M')
      | none => none)
    | none => none
def back (M : MS) (i : Nat) (o : D) : MS := match M[i]? with
  | some .un => M.set i (.va o)
  | some .ol => M.set i (.io o)
  | _ => M
def giveArgs : MS → List Ag → List D → MS
  | M, .io i :: r, o :: os => giveArgs (back M i o) r os
  | M, .ex _ :: r, os => giveArgs M r os
  | M, .mv _ :: r, _ :: os => giveArgs M r os
  | M, _, _ => M
/-- what a def promises of trees: its arguments, what is wanted of its value and of the objects handed in, of an error -/
abbrev Spec := List Slot → (D → List D → Prop) → (Addr → List D → Prop) → Prop
def ioPairs : List Slot → List V → List D → List (V × D)
  | .io _ :: as, v :: vs, o :: os => (v, o) :: ioPairs as vs os
  | .va _ :: as, _ :: vs, os => ioPairs as vs os
  | .un :: as, _ :: vs, os => ioPairs as vs os
  | _, _, _ => []
def hide (H : Hp) (fs : List (List Addr)) : Hp := fun b => if 0 < cnt b fs then none else H b
def spOf (K : PySem.W.Frag) (n : Nat) (T : Spec) : Sp := fun vs H Q E => ∃ as F fs Q0 E0, as.length = n ∧ as.all argS = true ∧ Same F H ∧ SlR K F H vs 0 as (vs.map some) fs ∧ (∀ a, cnt a fs ≤ 1) ∧ T as Q0 E0 ∧
  (∀ d outs v F' H', Q0 d outs → SR K ⟨[], hide H fs, F, []⟩ [] ((v, d) :: ioPairs as vs outs) [] F' H' → Q v H') ∧
  ∀ C outs F' H', E0 C outs → SR K ⟨[], hide H fs, F, []⟩ [] (ioPairs as vs outs) [] F' H' → E (.ref C) none H'

section
variable {K : PySem.W.Frag} {F F' H H' : Hp} {fx : Fx} {M : MS} {L L' : List (V × D)} {σ : L2.St}
def treeOf : Slot → D
  | .va d => d
  | .io d => d
  | _ => .non
theorem take_ok : ∀ {as : List Ag} {vs : List V} {Z : List (V × D)} {M M' : MS} {L : List (V × D)} {sl : List Slot}, ArgsR σ as vs Z → SR K fx M (Z ++ L) σ F H → takeArgs M as = some (sl, M') →
    SR K fx M' (vs.zip (sl.map treeOf) ++ L) σ F H ∧ vs.length = sl.length ∧ sl.all argS = true
  | [], _, _, M, M', L, sl, .nil, h, e => by
    simp only [takeArgs, Option.some.injEq, Prod.mk.injEq] at e
    obtain ⟨rfl, rfl⟩ := e
    exact ⟨h, rfl, rfl⟩
  | .ex d :: as, _, _, M, M', L, sl, .ex (v := v) (vs := vs) (Z := Z) r, h, e => by
    unfold takeArgs at e
    split at e
    · rename_i s M1 e1
      simp only [Option.some.injEq, Prod.mk.injEq] at e
      obtain ⟨rfl, rfl⟩ := e
      have h1 : SR K fx M (Z ++ ((v, d) :: L)) σ F H := h.perm (List.perm_middle.symm)
      obtain ⟨h2, hl, ha⟩ := take_ok r h1 e1
      refine ⟨?_, by simp [hl], by simp only [List.all_cons, ha]; rfl⟩
      simp only [List.map_cons, List.zip_cons_cons, List.cons_append]
      exact h2.perm List.perm_middle
    · cases e
  | .mv d :: as, _, _, M, M', L, sl, .mv (v := v) (vs := vs) (Z := Z) r, h, e => by
    unfold takeArgs at e
    split at e
    · rename_i s M1 e1
      simp only [Option.some.injEq, Prod.mk.injEq] at e
      obtain ⟨rfl, rfl⟩ := e
      have h1 : SR K fx M (Z ++ ((v, d) :: L)) σ F H := h.perm (List.perm_middle.symm)
      obtain ⟨h2, hl, ha⟩ := take_ok r h1 e1
      refine ⟨?_, by simp [hl], by simp only [List.all_cons, ha]; rfl⟩
      simp only [List.map_cons, List.zip_cons_cons, List.cons_append]
      exact h2.perm List.perm_middle
    · cases e
  | .io i :: as, _, _, M, M', L, sl, .io (v := v) (vs := vs) (Z := Z) hv r, h, e => by
    unfold takeArgs at e
    split at e
    · rename_i d M1 e0
      split at e
      · rename_i s M2 e1
        simp only [Option.some.injEq, Prod.mk.injEq] at e
        obtain ⟨rfl, rfl⟩ := e
        have h1 : SR K fx M1 ((v, d) :: (Z ++ L)) σ F H := by
          unfold lend at e0
          split at e0
          · rename_i dd q
            simp only [Option.some.injEq, Prod.mk.injEq] at e0
            obtain ⟨rfl, rfl⟩ := e0
            obtain ⟨w, hw, z⟩ := h.move q
            rw [hv] at hw; cases hw; exact z
          · rename_i dd q
            simp only [Option.some.injEq, Prod.mk.injEq] at e0
            obtain ⟨rfl, rfl⟩ := e0
            obtain ⟨w, hw, z⟩ := h.lendIo q
            rw [hv] at hw; cases hw; exact z
          · cases e0
        obtain ⟨h2, hl, ha⟩ := take_ok (L := (v, d) :: L) r (h1.perm List.perm_middle.symm) e1
        refine ⟨?_, by simp [hl], by simp only [List.all_cons, ha]; rfl⟩
        simp only [List.map_cons, List.zip_cons_cons, List.cons_append]
        exact h2.perm List.perm_middle
      · cases e
    · cases e
theorem give_ok : ∀ {as : List Ag} {vs : List V} {Z : List (V × D)} {M0 M1 M : MS} {L : List (V × D)} {sl : List Slot} {outs : List D}, ArgsR σ as vs Z → takeArgs M0 as = some (sl, M1) → SR K fx M (ioPairs sl vs outs ++ L) σ F H → SR K fx (giveArgs M as outs) L σ F H
  | [], _, _, M0, M1, M, L, sl, outs, .nil, e, h => by
    simp only [takeArgs, Option.some.injEq, Prod.mk.injEq] at e
    obtain ⟨rfl, rfl⟩ := e
    unfold giveArgs
    exact h
  | .ex d :: as, _, _, M0, M1, M, L, sl, outs, .ex (v := v) (vs := vs) (Z := Z) r, e, h => by
    unfold takeArgs at e
    split at e
    · rename_i s M2 e1
      simp only [Option.some.injEq, Prod.mk.injEq] at e
      obtain ⟨rfl, rfl⟩ := e
      have h' : SR K fx M (ioPairs s vs outs ++ L) σ F H := h
      unfold giveArgs
      exact give_ok r e1 h'
    · cases e
  | .mv d :: as, _, _, M0, M1, M, L, sl, outs, .mv (v := v) (vs := vs) (Z := Z) r, e, h => by
    unfold takeArgs at e
    split at e
    · rename_i s M2 e1
      simp only [Option.some.injEq, Prod.mk.injEq] at e
      obtain ⟨rfl, rfl⟩ := e
      cases outs with
      | nil => unfold giveArgs; exact h.drop
      | cons o os =>
        have h' : SR K fx M ((v, o) :: (ioPairs s vs os ++ L)) σ F H := h
        unfold giveArgs
        exact give_ok r e1 h'.pop
    · cases e
  | .io i :: as, _, _, M0, M1, M, L, sl, outs, .io (v := v) (vs := vs) (Z := Z) hv r, e, h => by
    unfold takeArgs at e
    split at e
    · rename_i d M2 e0
      split at e
      · rename_i s M3 e1
        simp only [Option.some.injEq, Prod.mk.injEq] at e
        obtain ⟨rfl, rfl⟩ := e
        cases outs with
        | nil => unfold giveArgs; exact h.drop
        | cons o os =>
          have h' : SR K fx M ((v, o) :: (ioPairs s vs os ++ L)) σ F H := h
          unfold giveArgs
          refine give_ok r e1 ?_
          unfold back
          split
          · rename_i q; exact h'.back q hv
          · rename_i q; exact h'.backIo q hv
          · exact h'.pop
      · cases e
    · cases e
/-- from held values: a callee's slots -/
theorem hdr_slr : ∀ {sl : List Slot} {vs : List V} {L : List (V × D)} {gs : List (List Addr)} {P : List V} {j : Nat}, vs.length = sl.length → sl.all argS = true → (∀ i, i < vs.length → P[j + i]? = vs[i]?) →
    HdR K F H (vs.zip (sl.map treeOf) ++ L) gs → ∃ fs gl, SlR K F H P j sl (vs.map some) fs ∧ HdR K F H L gl ∧ ∀ a, cnt a gs = cnt a fs + cnt a gl
  | [], [], L, gs, P, j, _, _, _, h => ⟨[], gs, .nil, h, fun a => by simp [cnt]⟩
  | s :: sl, v :: vs, L, gs, P, j, hl, ha, hP, h => by
    cases h with
    | cons q r =>
      simp only [List.all_cons, Bool.and_eq_true] at ha
      obtain ⟨fs, gl, h1, h2, h3⟩ := hdr_slr (P := P) (j := j + 1) (by simpa using hl) ha.2 (fun i hi => by
        have := hP (i + 1) (by simp only [List.length_cons]; omega)
        rw [List.getElem?_cons_succ] at this
        rw [← this]; congr 1; omega) r
      have hp : P[j]? = some v := by have := hP 0 (by simp); simpa using this
      cases s with
      | va d => exact ⟨_, gl, .va q h1, h2, fun a => by simp only [cnt, h3]; omega⟩
      | io d => exact ⟨_, gl, .io hp q h1, h2, fun a => by simp only [cnt, h3]; omega⟩
      | un => cases ha.1
      | ol => cases ha.1
  | [], _ :: _, _, _, _, _, e, _, _, _ => by simp at e
  | _ :: _, [], _, _, _, _, e, _, _, _ => by simp at e
end

section
variable {X : Cx} {W : WX} {a b c e : Expr} {pos : Pos} {ea eb ec : DE} {es : List Expr}
theorem c_nil : PA X [] (liftC X.K W cNil) := paW pa_nil fun σ H Q ⟨fx, M, L, F, Q0, E0, sr, he, hq, hx⟩ => hq [] M [] [] F H he (Same.refl _) .nil sr
theorem c_ex {cs : DC} (ha : PE X e (liftE X.K W (ea))) (hr : PA X es (liftC X.K W cs)) (hs : starEach (e :: es) X.env = (false, eval e X.env) :: starEach es X.env := by rfl) : PA X (e :: es) (liftC X.K W (cEx ea cs)) :=
  paW (pa_cons ha hr hs) fun σ H Q ⟨fx, M, L, F, Q0, E0, sr, he, hq, hx⟩ =>
    ⟨fx, M, L, F, _, E0, sr, he, fun d M1 v F1 H1 q1 s1 sr1 => ⟨fx, M1, _, F1, _, E0, sr1, q1, fun as M2 vs Z F2 H2 q2 s2 ar sr2 => hq _ M2 _ _ F2 H2 q2 (s1.trans s2) (.ex ar) (sr2.perm (by
      rw [List.cons_append]
      exact List.perm_middle)), fun C M' F' H' z s sr' => hx C M' F' H' z (s1.trans s) sr'.pop⟩, hx⟩
theorem c_mv {cs : DC} (ha : PE X e (liftE X.K W (ea))) (hr : PA X es (liftC X.K W cs)) (hs : starEach (e :: es) X.env = (false, eval e X.env) :: starEach es X.env := by rfl) : PA X (e :: es) (liftC X.K W (cMv ea cs)) :=
  paW (pa_cons ha hr hs) fun σ H Q ⟨fx, M, L, F, Q0, E0, sr, he, hq, hx⟩ =>
    ⟨fx, M, L, F, _, E0, sr, he, fun d M1 v F1 H1 q1 s1 sr1 => ⟨fx, M1, _, F1, _, E0, sr1, q1, fun as M2 vs Z F2 H2 q2 s2 ar sr2 => hq _ M2 _ _ F2 H2 q2 (s1.trans s2) (.mv ar) (sr2.perm (by
      rw [List.cons_append]
      exact List.perm_middle)), fun C M' F' H' z s sr' => hx C M' F' H' z (s1.trans s) sr'.pop⟩, hx⟩
theorem c_io {i : Nat} {cs : DC} (ha : PE X e (tVar i)) (hr : PA X es (liftC X.K W cs)) (hs : starEach (e :: es) X.env = (false, eval e X.env) :: starEach es X.env := by rfl) : PA X (e :: es) (liftC X.K W (cIo i cs)) :=
  paW (pa_cons ha hr hs) fun σ H Q ⟨fx, M, L, F, Q0, E0, sr, he, hq, hx⟩ => by
    obtain ⟨d, e1, he⟩ := getO_iff.mp he
    obtain ⟨v, f, h1, h2⟩ := sr.at (ms_at.mp e1)
    exact ⟨v, h1, fx, M, L, F, _, E0, sr, he, fun as M2 vs Z F2 H2 q2 s2 ar sr2 => hq _ M2 _ _ F2 H2 q2 s2 (.io h1 ar) sr2, hx⟩

/-- f(..) -/
def dCall (n : Nat) (T : Spec) (c : DC) : DE := fun M Q E => c M (fun as M1 => getO (takeArgs M1 as) fun p => p.1.length = n ∧ T p.1 (fun d outs => Q d (giveArgs p.2 as outs)) (fun C outs => E C (giveArgs p.2 as outs))) E
theorem d_call_w {n : Nat} {T : Spec} {cs : DC} (σ : L2.St) (H : Hp) (Q : VK) (h : (liftE X.K W (dCall n T cs)) σ H Q) : tCallS (spOf X.K n T) (WE W) (liftC X.K W cs) σ H Q := by
  obtain ⟨fx, M, L, F, Q0, E0, sr, he, hq, hx⟩ := h
  have h1 : liftC X.K W cs σ H fun vs H1 => spOf X.K n T vs H1 Q (WE W σ) := by
    refine ⟨fx, M, L, F, _, E0, sr, he, fun as M1 vs Z F1 H1 q1 s1 ar sr1 => ?_, hx⟩
    obtain ⟨p, hp, hl, q1⟩ := getO_iff.mp q1
    obtain ⟨sl, M2⟩ := p
    obtain ⟨sr2, hl2, ha⟩ := take_ok ar sr1 hp
    obtain ⟨sub, stay, agree, shape, fs, gs, r1, r2, cn, g⟩ := sr2
    obtain ⟨fc, gl, r3, r4, hc⟩ := hdr_slr (P := vs) (j := 0) hl2 ha (fun i _ => by rw [Nat.zero_add]) r2
    -- what the callee leaves alone
    have out : ∀ b, 0 < cnt b fs + cnt b gl → hide H1 fc b = H1 b ∧ H1 b ≠ none ∧ F1 b = none := fun b z => by
      have h1 := cn b
      have h2 := hc b
      have h3 : ¬ 0 < cnt b fc := by omega
      refine ⟨by unfold hide; rw [if_neg h3], ?_, ?_⟩
      · rcases Nat.lt_or_ge 0 (cnt b fs) with z1 | z1
        · obtain ⟨_, o, q⟩ := r1.foot b z1; rw [q]; simp
        · obtain ⟨_, o, q⟩ := r4.foot b (by omega); rw [q]; simp
      · rcases Nat.lt_or_ge 0 (cnt b fs) with z1 | z1
        · exact (r1.foot b z1).1
        · exact (r4.foot b (by omega)).1
    have back : ∀ {F' H' : Hp} {ZZ : List (V × D)}, SR X.K ⟨[], hide H1 fc, F1, []⟩ [] ZZ [] F' H' → SR X.K fx M2 (ZZ ++ L) σ F' H' ∧ Same F1 F' := fun {F' H' ZZ} k => by
      obtain ⟨ksub, kstay, kagree, _, kfs, kgs, k1, k2, kc, kg⟩ := k
      cases k1
      have sF : Same F1 F' := fun b o e => by
        have h3 : ¬ 0 < cnt b fc := fun z => by have := (r3.foot b z).1; rw [e] at this; cases this
        have h4 : hide H1 fc b ≠ none := by unfold hide; rw [if_neg h3, sub b o e]; simp
        rw [kagree b h4]; exact e
      have outF : ∀ b, 0 < cnt b fs + cnt b gl → F' b = none ∧ H' b = H1 b := fun b z => by
        obtain ⟨h1, h2, h3⟩ := out b z
        refine ⟨by rw [kagree b (by show hide H1 fc b ≠ none; rw [h1]; exact h2)]; exact h3, ?_⟩
        cases q : H1 b with
        | none => exact absurd q h2
        | some o => exact kstay b o (by show hide H1 fc b = _; rw [h1, q])
      have hgs : ∃ gg, HdR X.K F' H' (ZZ ++ L) gg ∧ ∀ a, cnt a gg = cnt a kgs + cnt a gl := by
        have r4' : HdR X.K F' H' L gl := r4.mono sF fun b z => outF b (by omega)
        clear kc kg
        induction k2 with
        | nil => exact ⟨gl, r4', fun a => by simp [cnt]⟩
        | cons q r ih => obtain ⟨gg, h1, h2⟩ := ih; exact ⟨_, .cons q h1, fun a => by simp only [cnt, h2]; omega⟩
      obtain ⟨gg, hgg, hcg⟩ := hgs
      have apart : ∀ b, 0 < cnt b kgs → cnt b fs + cnt b gl = 0 := fun b z => by
        rcases Nat.eq_zero_or_pos (cnt b fs + cnt b gl) with h | h
        · exact h
        · obtain ⟨h1, h2, _⟩ := out b h
          have := kg b (by simp only [cnt]; omega)
          have this : hide H1 fc b = none := this
          rw [h1] at this; exact absurd this h2
      refine ⟨⟨ksub, fun b o e => ?_, fun b z => ?_, shape, fs, gg, r1.mono sF fun b z => outF b (by omega), hgg, fun b => ?_, fun b z => ?_⟩, sF⟩
      · have h3 : ¬ 0 < cnt b fc := fun z => by have := g b (by have := hc b; omega); rw [e] at this; cases this
        exact kstay b o (by show hide H1 fc b = _; unfold hide; rw [if_neg h3]; exact stay b o e)
      · have h3 : ¬ 0 < cnt b fc := fun z' => z (g b (by have := hc b; omega))
        have h5 : H1 b ≠ none := fun q => z (stay.free q)
        rw [kagree b (by show hide H1 fc b ≠ none; unfold hide; rw [if_neg h3]; exact h5)]
        exact agree b z
      · have h1 := kc b
        have h2 := apart b
        have h3 := cn b
        have h4 := hc b
        have h5 := hcg b
        simp only [cnt] at h1
        rcases Nat.eq_zero_or_pos (cnt b kgs) with h | h
        · omega
        · have := h2 h; omega
      · have h5 := hcg b
        rcases Nat.eq_zero_or_pos (cnt b kgs) with h | h
        · exact g b (by have := hc b; omega)
        · have h6 := kg b (by simp only [cnt]; omega)
          have h6 : hide H1 fc b = none := h6
          unfold hide at h6
          split at h6
          · rename_i h7; exact g b (by have := hc b; omega)
          · exact stay.free h6
    refine ⟨sl, F1, fc, _, _, hl, ha, sub, r3, fun a => by have := cn a; have := hc a; omega, q1, fun d outs v F' H' z k => ?_, fun C outs F' H' z k => ?_⟩
    · obtain ⟨k1, sF⟩ := back k
      have k2 : SR X.K fx M2 (ioPairs sl vs outs ++ ((v, d) :: L)) σ F' H' := k1.perm (by rw [List.cons_append]; exact List.perm_middle.symm)
      exact hq d _ v F' H' z (s1.trans sF) (give_ok ar hp k2)
    · obtain ⟨k1, sF⟩ := back k
      exact hx C _ F' H' z (s1.trans sF) (give_ok ar hp k1)
  exact h1
theorem d_call {k n : Nat} {T : Spec} {cs : DC} {f : Addr} {fd : FuncData} {ps : List Str} {x : Str} {p : Pos} (G : FnG X.prog X.w X.K X.mg X.base (L2.CX X.prog X.w) k f fd ps (spOf X.K n T)) (tk : Takes X W) (hr : RmG k X.A) (hm : X.mg x = some (.ref f)) (hk : PySem.W.keepIn X.K (.ref f) = true) (hb : Binds X.K fd ps [])
    (ha : PA X (e :: es) (liftC X.K W cs)) (hg : Gl X x := by rfl) (hdb : (x == ("__debug__" : Str)) = false := by decide) (he : starEach (e :: es) X.env = (false, eval e X.env) :: starEach es X.env := by rfl) (hpl : (backTo pos (starEach es X.env)).any (·.1) = false := by rfl) :
    PE X (.Call (.Name x p) (e :: es) [] pos) (liftE X.K W (dCall n T cs)) := peW (pe_callG G tk hr hg hm hk hb ha hdb he hpl) fun σ H Q h => d_call_w σ H Q h
end

/-! ### statements -/
section
variable {X : Cx} {W : WX} {a b c e : Expr} {pos : Pos} {ea eb ec : DE} {es : List Expr} {st : Stmt} {rest : List Stmt} {ra rb : DS} {ta : DT}
def sNext : DS := fun D M => D.nx M
def sSeq (r u : DS) : DS := fun D M => r { D with nx := fun M => stM M (u D) } M
theorem s_nil : PSs X [] (liftS X.K W (sNext)) := pssW pss_nil fun D σ H ⟨fx, M, F, D0, sr, he, h1, h2, h3, h4, h5⟩ => h1 M σ F H he (Same.refl _) sr
theorem s_cons (h1 : PS X st (liftS X.K W (ra))) (h2 : PSs X rest (liftS X.K W (rb))) : PSs X (st :: rest) (liftS X.K W (sSeq ra rb)) := pssW (pss_cons h1 h2) fun D σ H ⟨fx, M, F, D0, sr, he, h1, h2, h3, h4, h5⟩ =>
  ⟨fx, M, F, { D0 with nx := fun M => stM M (rb D0) }, sr, he, fun M1 σ1 F1 H1 q s1 sr1 => ⟨fx, M1, F1, D0, sr1, Eq.mp (stM_eq M1 (rb D0)) q, fun M' σ' F' H' z s => h1 M' σ' F' H' z (s1.trans s), fun d M' v σ' F' H' z s => h2 d M' v σ' F' H' z (s1.trans s),
    fun M' σ' F' H' z s => h3 M' σ' F' H' z (s1.trans s), fun M' σ' F' H' z s => h4 M' σ' F' H' z (s1.trans s), fun C M' σ' F' H' z s => h5 C M' σ' F' H' z (s1.trans s)⟩, h2, h3, h4, h5⟩
theorem s_one (h : PS X st (liftS X.K W (ra))) : PSs X [st] (liftS X.K W (ra)) := pss_one h
theorem s_pass : PS X (.Pass pos) (liftS X.K W (sNext)) := psW ps_pass fun D σ H ⟨fx, M, F, D0, sr, he, h1, h2, h3, h4, h5⟩ => h1 M σ F H he (Same.refl _) sr
/-- a cut: what holds behind the first part is said -/
def sCut (r u : DS) : DS := fun D M => ∃ I : MS → Prop, r { D with nx := I } M ∧ ∀ M', I M' → stM M' (u D)
theorem s_cut (h1 : PS X st (liftS X.K W (ra))) (h2 : PSs X rest (liftS X.K W (rb))) : PSs X (st :: rest) (liftS X.K W (sCut ra rb)) := pssW (pss_cons h1 h2) fun D σ H ⟨fx, M, F, D0, sr, ⟨I, he, hI⟩, h1, h2, h3, h4, h5⟩ =>
  ⟨fx, M, F, { D0 with nx := I }, sr, he, fun M1 σ1 F1 H1 q s1 sr1 => ⟨fx, M1, F1, D0, sr1, Eq.mp (stM_eq M1 (rb D0)) (hI M1 q), fun M' σ' F' H' z s => h1 M' σ' F' H' z (s1.trans s), fun d M' v σ' F' H' z s => h2 d M' v σ' F' H' z (s1.trans s),
    fun M' σ' F' H' z s => h3 M' σ' F' H' z (s1.trans s), fun M' σ' F' H' z s => h4 M' σ' F' H' z (s1.trans s), fun C M' σ' F' H' z s => h5 C M' σ' F' H' z (s1.trans s)⟩, h2, h3, h4, h5⟩
/-- a truth that is said -/
@[irreducible] def dBool (e : DE) : DE := fun M Q E => ∃ (b : Bool) (M' : MS), (∀ Q' : DQ, Q' (.bl b) M' → e M Q' E) ∧ Q (.bl b) M'
@[irreducible] def tBool (t : DT) : DT := fun M Q E => ∃ (b : Bool) (M' : MS), (∀ Q' : Bool → MS → Prop, Q' b M' → t M Q' E) ∧ Q b M'
theorem boolX {e : DE} {M : MS} {Q : DQ} {E : DX} (b : Bool) (M' : MS) (h1 : ∀ Q' : DQ, Q' (.bl b) M' → e M Q' E) (h2 : Q (.bl b) M') : dBool e M Q E := by unfold dBool; exact ⟨b, M', h1, h2⟩
theorem boolY {t : DT} {M : MS} {Q : Bool → MS → Prop} {E : DX} (b : Bool) (M' : MS) (h1 : ∀ Q' : Bool → MS → Prop, Q' b M' → t M Q' E) (h2 : Q b M') : tBool t M Q E := by unfold tBool; exact ⟨b, M', h1, h2⟩
theorem boolS {e : DE} {M : MS} {Q : DQ} {E : DX} (b : Bool) (h1 : ∀ Q' : DQ, Q' (.bl b) M → e M Q' E) (h2 : Q (.bl b) M) : dBool e M Q E := boolX b M h1 h2
theorem boolT {t : DT} {M : MS} {Q : Bool → MS → Prop} {E : DX} (b : Bool) (h1 : ∀ Q' : Bool → MS → Prop, Q' b M → t M Q' E) (h2 : Q b M) : tBool t M Q E := boolY b M h1 h2
/-- a test that is known -/
theorem boolIf {t : DT} {M : MS} {F : Bool → MS → Prop} {E : DX} (b : Bool) (h1 : ∀ Q' : Bool → MS → Prop, Q' b M → t M Q' E) (ht : b = true → F true M) (hf : b = false → F false M) : tBool t M F E := boolT b h1 (by cases b <;> simp_all)
theorem d_bool (h : PE X e (liftE X.K W ea)) : PE X e (liftE X.K W (dBool ea)) := peW h fun σ H Q ⟨fx, M, L, F, Q0, E0, sr, z, hq, hx⟩ => (by
  unfold dBool at z
  obtain ⟨b, M', h1, h2⟩ := z
  exact ⟨fx, M, L, F, Q0, E0, sr, h1 Q0 h2, hq, hx⟩)
theorem t_bool (h : PT X e (liftT X.K W ta)) : PT X e (liftT X.K W (tBool ta)) := ptW h fun σ H Q ⟨fx, M, L, F, Q0, E0, sr, z, hq, hx⟩ => (by
  unfold tBool at z
  obtain ⟨b, M', h1, h2⟩ := z
  exact ⟨fx, M, L, F, Q0, E0, sr, h1 Q0 h2, hq, hx⟩)
/-- slots that nobody reads any more are forgotten -/
def dropM (M : MS) : List Nat → MS
  | [] => M
  | i :: is => match M[i]? with
    | some (.va _) => dropM (M.set i .un) is
    | _ => dropM M is
theorem _root_.TL.SR.dropM {fx : Fx} {L : List (V × D)} {σ : L2.St} {F H : Hp} : ∀ {is : List Nat} {M : MS}, SR X.K fx M L σ F H → SR X.K fx (TL.dropM M is) L σ F H
  | [], _, h => h
  | i :: is, M, h => by
    unfold TL.dropM
    split
    · rename_i d q
      obtain ⟨v, _, h'⟩ := h.move q
      exact SR.dropM h'.pop
    · exact SR.dropM h
def sBreak : DS := fun D M => D.bk M
def sCont : DS := fun D M => D.ct M
theorem s_break : PS X (.Break pos) (liftS X.K W (sBreak)) := psW ps_break fun D σ H ⟨fx, M, F, D0, sr, he, h1, h2, h3, h4, h5⟩ => h3 M σ F H he (Same.refl _) sr
theorem s_cont : PS X (.Continue pos) (liftS X.K W (sCont)) := psW ps_continue fun D σ H ⟨fx, M, F, D0, sr, he, h1, h2, h3, h4, h5⟩ => h4 M σ F H he (Same.refl _) sr
def sRet (ea : DE) : DS := fun D M => ea M (fun d M1 => D.rt d M1) D.xr
theorem s_ret (h : PE X e (liftE X.K W (ea))) : PS X (.Return (some e) pos) (liftS X.K W (sRet ea)) := psW (ps_ret h) fun D σ H ⟨fx, M, F, D0, sr, he, h1, h2, h3, h4, h5⟩ =>
  ⟨fx, M, [], F, _, D0.xr, sr, he, fun d M1 v F1 H1 q s1 sr1 => h2 d M1 v σ F1 H1 q s1 sr1, fun C M' F' H' z s sr' => h5 C M' σ F' H' z s sr'⟩
def sRetN : DS := fun D M => D.rt .non M
theorem s_retN : PS X (.Return none pos) (liftS X.K W (sRetN)) := psW ps_retN fun D σ H ⟨fx, M, F, D0, sr, he, h1, h2, h3, h4, h5⟩ => h2 .non M .non σ F H he (Same.refl _) (sr.push .non)
def sExpr (ea : DE) : DS := fun D M => ea M (fun _ M1 => D.nx M1) D.xr
theorem s_expr (h : PE X e (liftE X.K W (ea))) (hs : swapsWith e none pos.line X.env = pure false := by rfl) : PS X (.Expr e pos) (liftS X.K W (sExpr ea)) := psW (ps_expr h hs) fun D σ H ⟨fx, M, F, D0, sr, he, h1, h2, h3, h4, h5⟩ =>
  ⟨fx, M, [], F, _, D0.xr, sr, he, fun d M1 v F1 H1 q s1 sr1 => h1 M1 σ F1 H1 q s1 sr1.pop, fun C M' F' H' z s sr' => h5 C M' σ F' H' z s sr'⟩
/-- x = e -/
def MS.canSet (M : MS) (i : Nat) : Bool := match M[i]? with
  | some .un => true
  | some (.va _) => true
  | _ => false
def sSet (i : Nat) (ea : DE) : DS := fun D M => ea M (fun d M1 => M1.canSet i = true ∧ D.nx (M1.set i (.va d))) D.xr
theorem canSet_iff {M : MS} {i : Nat} (h : M.canSet i = true) : ∃ s, M[i]? = some s ∧ s.isIo = false := by
  unfold MS.canSet at h
  split at h
  · rename_i q; exact ⟨_, q, rfl⟩
  · rename_i q; exact ⟨_, q, rfl⟩
  · cases h
theorem set_w {i : Nat} {D : Ends} {σ : L2.St} {H : Hp} (h : (liftS X.K W (sSet i ea)) D σ H) : tAsg (liftE X.K W (ea)) (gName i) D σ H := by
  obtain ⟨fx, M, F, D0, sr, he, h1, h2, h3, h4, h5⟩ := h
  refine ⟨fx, M, [], F, _, D0.xr, sr, he, fun d M1 v F1 H1 q s1 sr1 => ?_, fun C M' F' H' z s sr' => h5 C M' σ F' H' z s sr'⟩
  obtain ⟨s, e1, e2⟩ := canSet_iff q.1
  exact h1 _ _ F1 H1 q.2 s1 (sr1.setVa e1 e2)
theorem s_set {i : Nat} {x : Str} {p : Pos} (hN : X.N.Nodup) (h : PE X e (liftE X.K W (ea))) (hi : X.N[i]? = some x := by rfl) (hx : Loc X.env.scope x := by exact Or.inl rfl) (hs : swapsWith e (some (.Name x p)) pos.line X.env = pure false := by rfl)
    (hf : X.fn x = true ∨ X.env.scope.names.lookup x = some .local := by first | exact .inl rfl | exact .inr rfl) : PS X (.Assign [.Name x p] e pos) (liftS X.K W (sSet i ea)) := psW (ps_set hN hi hx h hs hf) fun D σ H h => set_w h
def sIf (t : DT) (ra rb : DS) : DS := fun D M => t M (fun b M1 => iteP b (ra D M1) (rb D M1)) D.xr
theorem s_if {xs ys : List Stmt} (hc : PT X c (liftT X.K W (ta))) (ha : PSs X xs (liftS X.K W (ra))) (hb : PSs X ys (liftS X.K W (rb))) : PS X (.If c xs ys pos) (liftS X.K W (sIf ta ra rb)) := psW (ps_if hc ha hb) fun D σ H ⟨fx, M, F, D0, sr, he, h1, h2, h3, h4, h5⟩ =>
  ⟨fx, M, [], F, _, D0.xr, sr, he, fun k M1 F1 H1 q s1 sr1 => (by
    have fin : ∀ {r : DS}, r D0 M1 → (liftS X.K W (r)) D σ H1 := fun {r} q => ⟨fx, M1, F1, D0, sr1, q, fun M' σ' F' H' z s => h1 M' σ' F' H' z (s1.trans s), fun d M' v σ' F' H' z s => h2 d M' v σ' F' H' z (s1.trans s),
      fun M' σ' F' H' z s => h3 M' σ' F' H' z (s1.trans s), fun M' σ' F' H' z s => h4 M' σ' F' H' z (s1.trans s), fun C M' σ' F' H' z s => h5 C M' σ' F' H' z (s1.trans s)⟩
    cases k with
    | true => rw [iteP_t] at q; exact iteT (fin q)
    | false => rw [iteP_f] at q; exact iteF (fin q)), fun C M' F' H' z s sr' => h5 C M' σ F' H' z s sr'⟩
end
end TL
namespace TL
open PySem PyProof.Rows L2

section
variable {X : Cx} {W : WX} {a b c e : Expr} {pos : Pos} {ea eb ec : DE} {es : List Expr} {st : Stmt} {rest : List Stmt} {ra rb : DS} {ta : DT}

/-! ### several targets: names of a tuple's items -/
/-- the items of a tuple go to slots -/
def setAll (M : MS) : List Nat → List D → Option MS
  | [], [] => some M
  | i :: is, d :: ds => if M.canSet i = true then setAll (M.set i (.va d)) is ds else none
  | _, _ => none
def asTup (d : D) (k : List D → Prop) : Prop := match d with
  | .tup l => k l
  | _ => False
def sUnp (is : List Nat) (ea : DE) : DS := fun D M => ea M (fun d M1 => asTup d fun l => TL.D.noOwns l = true ∧ getO (setAll M1 is l) fun M2 => D.nx M2) D.xr
/-- targets as names in slots -/
inductive Tgs (X : Cx) : List Expr → TGs → List Nat → Prop
  | nil : Tgs X [] gNil []
  | cons {i : Nat} {x : Str} {p : Pos} {es : List Expr} {t : TGs} {is : List Nat} : Tgs X es t is → Tgs X (.Name x p :: es) (gCons (gName i) t) (i :: is)
theorem gset_ok {Q : L2.St → Hp → Prop} : ∀ {is : List Nat} {ts : List Expr} {t : TGs} {l : List D} {vs : List V} {M M2 : MS} {σ : L2.St} {fx : Fx} {F H : Hp}, Tgs X ts t is → SR X.K fx M [] σ F H → Rps X.K F H l vs [] → setAll M is l = some M2 →
    (∀ σ', SR X.K fx M2 [] σ' F H → Q σ' H) → t vs σ H Q
  | [], _, _, [], _, M, M2, σ, fx, F, H, .nil, sr, r, e, q => by
    cases r
    simp only [setAll, Option.some.injEq] at e
    subst e
    exact ⟨rfl, q σ sr⟩
  | i :: is, _, _, d :: l, vs, M, M2, σ, fx, F, H, .cons tg, sr, r, e, q => by
    generalize hz : ([] : List Addr) = z at r
    cases r with
    | @cons _ v f g _ vs p r =>
      obtain ⟨rfl, rfl⟩ := List.append_eq_nil_iff.mp hz.symm
      unfold setAll at e
      split at e
      · rename_i hc
        obtain ⟨s, e1, e2⟩ := canSet_iff hc
        exact ⟨v, vs, rfl, gset_ok tg ((sr.push p).setVa e1 e2) r e q⟩
      · cases e
  | [], _, _, _ :: _, _, _, _, _, _, _, _, _, _, _, e, _ => by simp [setAll] at e
  | _ :: _, _, _, [], _, _, _, _, _, _, _, _, _, _, e, _ => by simp [setAll] at e
theorem s_unp {is : List Nat} {ts : List Expr} {t : TGs} {k} {p : Pos} {n : Nat} (tg : Tgs X ts t is) (hc : X.calm = true) (h : PE X e (liftE X.K W (ea))) (hg : PGs X ts t) (hl : ts.length = n)
    (hn : (assignEach ts X.env).length = n := by rfl) (hst : (assignEach ts X.env).findIdx? (·.1) = none := by rfl) (hs : swapsWithSole [.Tuple ts k p] e pos.line X.env = pure false := by rfl) (hw : swappedStores [.Tuple ts k p] e X.env = pure none := by rfl)
    (h1 : (assignEach [.Tuple ts k p] X.env).map (·.2) = [assign (.Tuple ts k p) X.env] := by rfl) : PS X (.Assign [.Tuple ts k p] e pos) (liftS X.K W (sUnp is ea)) := psW (ps_asg h (pg_tup hc hg hn hst) hs hw h1) fun D σ H ⟨fx, M, F, D0, sr, he, h1, h2, h3, h4, h5⟩ =>
  ⟨fx, M, [], F, _, D0.xr, sr, he, fun d M1 v F1 H1 q s1 sr1 => (by
    cases d <;> try (exact q.elim)
    rename_i l
    obtain ⟨n1, q⟩ := q
    obtain ⟨M2, e2, q⟩ := getO_iff.mp q
    have p1 := sr1.topC (show (TL.D.tup l).noOwn = true from n1)
    cases p1 with
    | tup hT r =>
      rename_i a vs
      have hlen : vs.length = n := by
        have e3 : is.length = l.length := by
          have gen : ∀ {is : List Nat} {l : List TL.D} {M M2 : MS}, setAll M is l = some M2 → is.length = l.length := by
            intro is
            induction is with
            | nil => intro l M M2 e; cases l <;> simp [setAll] at e ⊢
            | cons i is ih =>
              intro l M M2 e
              cases l with
              | nil => simp [setAll] at e
              | cons d l =>
                unfold setAll at e
                split at e
                · simp [ih e]
                · cases e
          exact gen e2
        have e4 : ts.length = is.length := by
          have gen : ∀ {ts : List Expr} {t : TGs} {is : List Nat}, Tgs X ts t is → ts.length = is.length := by
            intro ts t is tg
            induction tg with
            | nil => rfl
            | cons _ ih => simp [ih]
          exact gen tg
        rw [← r.len, ← e3, ← e4]; exact hl
      exact ⟨a, vs, rfl, Same.sqT sr1.sub hT, hlen, gset_ok tg sr1.pop r e2 fun σ' sr' => h1 M2 σ' F1 H1 q s1 sr'⟩), fun C M' F' H' z s sr' => h5 C M' σ F' H' z s sr'⟩
/-- a, b = x, y -/
def sPar (i j : Nat) (ea eb : DE) : DS := fun D M => ea M (fun x M1 => eb M1 (fun y M2 => x.noOwn = true ∧ M2.canSet i = true ∧ M2.canSet j = true ∧ i ≠ j ∧ D.nx ((M2.set i (.va x)).set j (.va y))) D.xr) D.xr
theorem s_par {i j : Nat} {x y : Str} {px py pt : Pos} {kt k2 pt2} (hc : X.calm = true) (hN : X.N.Nodup) (ha : PE X a (liftE X.K W (ea))) (hb : PE X b (liftE X.K W (eb))) (hi : X.N[i]? = some x := by rfl) (hj : X.N[j]? = some y := by rfl) (hij : i ≠ j := by decide)
    (hx : X.env.scope.names.lookup x = some .local := by rfl) (hy : X.env.scope.names.lookup y = some .local := by rfl)
    (hw : swappedStores [.Tuple [.Name x px, .Name y py] kt pt] (.Tuple [a, b] k2 pt2) X.env = pure (some [x, y]) := by rfl)
    (hs : swapsWithSole [.Tuple [.Name x px, .Name y py] kt pt] (.Tuple [a, b] k2 pt2) pos.line X.env = pure false := by rfl)
    (he : starEach [a, b] X.env = [(false, eval a X.env), (false, eval b X.env)] := by rfl) (he2 : starEach [b] X.env = [(false, eval b X.env)] := by rfl) :
    PS X (.Assign [.Tuple [.Name x px, .Name y py] kt pt] (.Tuple [a, b] k2 pt2) pos) (liftS X.K W (sPar i j ea eb)) := psW (ps_par hc hN hi hj hij hx hy (pa_cons ha (pa_cons hb pa_nil (by rw [he2]; rfl)) (starTwo he he2)) hw hs) fun D σ H ⟨fx, M, F, D0, sr, he, h1, h2, h3, h4, h5⟩ =>
  ⟨fx, M, [], F, _, D0.xr, sr, he, fun d M1 v F1 H1 q1 s1 sr1 => ⟨fx, M1, _, F1, _, D0.xr, sr1, q1, fun d2 M2 w F2 H2 q2 s2 sr2 => (by
    obtain ⟨n, c1, c2, ne, q⟩ := q2
    obtain ⟨s, e1, e2⟩ := canSet_iff c1
    obtain ⟨s', e1', e2'⟩ := canSet_iff c2
    refine ⟨v, w, rfl, ?_⟩
    -- first x (held below), then y
    have sw : SR X.K fx M2 [(v, d), (w, d2)] σ F2 H2 := sr2.perm (List.Perm.swap _ _ _)
    have pv : Rp X.K F2 H2 d v [] := sw.topC n
    have a1 : SR X.K fx (M2.set j (.va d2)) [] (σ.set j (some w)) F2 H2 := sw.pop.setVa e1' e2'
    have e3 : (M2.set j (.va d2))[i]? = some s := by rw [List.getElem?_set_ne (Ne.symm ne)]; exact e1
    have a2 := (a1.push pv).setVa e3 e2
    have c1 : (M2.set j (.va d2)).set i (.va d) = (M2.set i (.va d)).set j (.va d2) := List.set_comm _ _ (Ne.symm ne)
    have c2 : (σ.set j (some w)).set i (some v) = (σ.set i (some v)).set j (some w) := List.set_comm _ _ (Ne.symm ne)
    rw [c1, c2] at a2
    exact h1 _ _ F2 H2 q (s1.trans s2) a2), fun C M' F' H' z s sr' => h5 C M' σ F' H' z (s1.trans s) sr'.pop⟩, fun C M' F' H' z s sr' => h5 C M' σ F' H' z s sr'⟩

/-! ### while -/
def sWhile (vs : List Nat) (t : DT) (rb : DS) : DS := fun D M => stM (dropM M vs) fun M => ∃ (I : MS → Prop) (μ : MS → Nat), I M ∧ ∀ M, I M → t M (fun b M1 => iteP b (rb { D with nx := fun M' => stM (dropM M' vs) fun M' => I M' ∧ μ M' < μ M, ct := fun M' => stM (dropM M' vs) fun M' => I M' ∧ μ M' < μ M, bk := fun M' => stM (dropM M' vs) D.nx } M1) (stM (dropM M1 vs) D.nx)) D.xr
theorem s_while {vs : List Nat} {body : List Stmt} (hp : PassesOwn (model X.prog X.w) X.A X.env X.xe) (hc : PT X c (liftT X.K W (ta))) (hb : PSs X body (liftS X.K W (rb))) : PS X (.While c body [] pos) (liftS X.K W (sWhile vs ta rb)) := psW (ps_while hp hc hb) fun D σ H ⟨fx, M0, F, D0, sr, he0, h1, h2, h3, h4, h5⟩ => by
  unfold sWhile at he0
  rw [stM_eq] at he0
  obtain ⟨I, μ, i0, he⟩ := he0
  have sr := sr.dropM (is := vs)
  generalize dropM M0 vs = M at *
  refine ⟨fun m σ' H' => ∃ M' F', Same F F' ∧ SR X.K fx M' [] σ' F' H' ∧ I M' ∧ m = μ M', ⟨μ M, M, F, Same.refl _, sr, i0, rfl⟩, ?_⟩
  rintro m σ1 H1 ⟨M1, F1, s1, sr1, i1, rfl⟩
  refine ⟨fx, M1, [], F1, _, D0.xr, sr1, he M1 i1, fun k M2 F2 H2 q s2 sr2 => ?_, fun C M' F' H' z s sr' => h5 C M' σ1 F' H' z (s1.trans s) sr'⟩
  cases k with
  | false => rw [iteP_f, stM_eq] at q; exact iteF (h1 _ σ1 F2 H2 q (s1.trans s2) sr2.dropM)
  | true =>
    rw [iteP_t] at q
    refine iteT ⟨fun σ' H' => ∃ M' F', Same F F' ∧ SR X.K fx M' [] σ' F' H' ∧ I M' ∧ μ M' < μ M1, fun σ' H' ⟨M', F', a, b, c, d⟩ => ⟨μ M', d, M', F', a, b, c, rfl⟩, ?_⟩
    exact ⟨fx, M2, F2, _, sr2, q, fun M' σ' F' H' z s sr' => (by have z := stM_i z; exact ⟨_, F', s1.trans (s2.trans s), sr'.dropM, z.1, z.2⟩), fun d M' v σ' F' H' z s => h2 d M' v σ' F' H' z (s1.trans (s2.trans s)),
      fun M' σ' F' H' z s sr' => (by have z := stM_i z; exact h1 _ σ' F' H' z (s1.trans (s2.trans s)) sr'.dropM), fun M' σ' F' H' z s sr' => (by have z := stM_i z; exact ⟨_, F', s1.trans (s2.trans s), sr'.dropM, z.1, z.2⟩), fun C M' σ' F' H' z s => h5 C M' σ' F' H' z (s1.trans (s2.trans s))⟩

/-! ### what is walked -/
/-- J walks the trees its (o = some i: the own list in slot i, while it is as it is) -/
def OOk (o : Option Nat) (its : List D) (σ0 : L2.St) (M : MS) (σ : L2.St) : Prop := ∀ i, o = some i → M.at i = some (.own its) ∧ σ[i]? = σ0[i]?
structure Walks (K : PySem.W.Frag) (J : It) (F0 : Hp) (σ0 : L2.St) (o : Option Nat) (its : List D) : Prop where
  go : ∀ {fx M L σ F H i d}, SR K fx M L σ F H → OOk o its σ0 M σ → Same F0 F → its[i]? = some d → J.go i H ∧ ∀ x H', J.yld i H x H' → ∃ F', Same F F' ∧ SR K fx M L σ F' H' ∧ Rp K F' H' d x []
  stop : ∀ {fx M L σ F H}, SR K fx M L σ F H → OOk o its σ0 M σ → Same F0 F → J.stop its.length H
abbrev DI := MS → (List D → Option Nat → MS → Prop) → DX → Prop
def liftI (K : PySem.W.Frag) (W : WX) (it : DI) : TI := fun σ H R => ∃ fx M L F Q0 E0, SR K fx M L σ F H ∧ it M Q0 E0 ∧ (∀ its o M' J F' H', Q0 its o M' → Same F F' → SR K fx M' L σ F' H' → Walks K J F' σ o its → R J H') ∧
  ∀ C M' F' H', E0 C M' → Same F F' → SR K fx M' L σ F' H' → W (.ref C) none σ H'
theorem piW {tg iter : Expr} {t t' : TI} (h : PI X tg iter t) (w : ∀ σ H R, t' σ H R → t σ H R) : PI X tg iter t' := ⟨fun pins s σ H R I q => h.run pins s σ H R I (w σ H R q)⟩
theorem walks_list {K : PySem.W.Frag} {a : Addr} {vs : List V} {l : List D} {F0 H0 : Hp} {σ0 : L2.St} (e : F0 a = some (.lst vs)) (r : Rps K F0 H0 l vs []) : Walks K (Itl K a) F0 σ0 none l where
  go := fun {fx M L σ F H i d} sr _ s hi => by
    obtain ⟨v, hv, p⟩ := r.get hi
    have hq : SqL K H a vs := SqL.of (sr.sub _ _ (s _ _ e))
    refine ⟨⟨vs, v, hq, hv⟩, fun x H' y => ?_⟩
    obtain ⟨rfl, y⟩ := y
    have := y vs hq
    rw [hv] at this; cases this
    exact ⟨F, Same.refl _, sr, Rp.mono s _ _ _ (fun b z => nomatch z) p⟩
  stop := fun {fx M L σ F H} sr _ s => ⟨vs, SqL.of (sr.sub _ _ (s _ _ e)), by rw [r.len]; exact Nat.le_refl _⟩
theorem walks_tup {K : PySem.W.Frag} {a : Addr} {vs : List V} {l : List D} {F0 H0 : Hp} {σ0 : L2.St} (e : SqT K F0 a vs) (r : Rps K F0 H0 l vs []) : Walks K (Itt K a) F0 σ0 none l where
  go := fun {fx M L σ F H i d} sr _ s hi => by
    obtain ⟨v, hv, p⟩ := r.get hi
    have hq : SqT K H a vs := Same.sqT sr.sub (Same.sqT s e)
    refine ⟨⟨vs, v, hq, hv⟩, fun x H' y => ?_⟩
    obtain ⟨rfl, y⟩ := y
    have := y vs hq
    rw [hv] at this; cases this
    exact ⟨F, Same.refl _, sr, Rp.mono s _ _ _ (fun b z => nomatch z) p⟩
  stop := fun {fx M L σ F H} sr _ s => ⟨vs, Same.sqT sr.sub (Same.sqT s e), by rw [r.len]; exact Nat.le_refl _⟩
theorem walks_range {K : PySem.W.Frag} {lo : Int} {n : Nat} {F0 : Hp} {σ0 : L2.St} : Walks K (Itr lo n) F0 σ0 none ((List.range n).map fun i => D.int (lo + (i : Nat))) where
  go := fun {fx M L σ F H i d} sr _ s hi => by
    rw [List.getElem?_map] at hi
    cases hn : (List.range n)[i]? with
    | none => rw [hn] at hi; cases hi
    | some k =>
      rw [hn] at hi; cases hi
      obtain ⟨h1, h2⟩ := List.getElem?_eq_some_iff.mp hn
      rw [List.length_range] at h1
      rw [List.getElem_range] at h2
      subst h2
      refine ⟨h1, fun x H' y => ?_⟩
      obtain ⟨rfl, rfl⟩ := y
      exact ⟨F, Same.refl _, sr, .int _⟩
  stop := fun {fx M L σ F H} sr _ s => by show n ≤ _; simp
theorem walks_rangeC {K : PySem.W.Frag} {lo c : Int} {n : Nat} {F0 : Hp} {σ0 : L2.St} : Walks K (Itc lo c n) F0 σ0 none ((List.range n).map fun i => D.int (lo + (i : Nat) * c)) where
  go := fun {fx M L σ F H i d} sr _ s hi => by
    rw [List.getElem?_map] at hi
    cases hn : (List.range n)[i]? with
    | none => rw [hn] at hi; cases hi
    | some k =>
      rw [hn] at hi; cases hi
      obtain ⟨h1, h2⟩ := List.getElem?_eq_some_iff.mp hn
      rw [List.length_range] at h1
      rw [List.getElem_range] at h2
      subst h2
      refine ⟨h1, fun x H' y => ?_⟩
      obtain ⟨rfl, rfl⟩ := y
      exact ⟨F, Same.refl _, sr, .int _⟩
  stop := fun {fx M L σ F H} sr _ s => by show n ≤ _; simp
def lstD (d : D) (k : List D → Prop) : Prop := match d with
  | .lst l => k l
  | _ => False
/-- a list that stands -/
def itL (ea : DE) : DI := fun M Q E => ea M (fun d M1 => lstD d fun l => Q l none M1) E
def itT (ea : DE) : DI := fun M Q E => ea M (fun d M1 => d.noOwn = true ∧ asTup d fun l => Q l none M1) E
theorem i_lst {tg : Expr} (h : PE X e (liftE X.K W (ea))) : PI X tg e (liftI X.K W (itL ea)) := piW (pi_list h) fun σ H R ⟨fx, M, L, F, Q0, E0, sr, he, hq, hx⟩ =>
  ⟨fx, M, L, F, _, E0, sr, he, fun d M1 v F1 H1 q s1 sr1 => (by
    cases d <;> try (exact q.elim)
    have p := sr1.topC rfl
    cases p with
    | lst hF r => exact ⟨_, rfl, ⟨_, SqL.of (sr1.sub _ _ hF)⟩, hq _ _ M1 _ F1 H1 q s1 sr1.pop (walks_list hF r)⟩), hx⟩
theorem i_tup {tg : Expr} (h : PE X e (liftE X.K W (ea))) : PI X tg e (liftI X.K W (itT ea)) := piW (pi_tup h) fun σ H R ⟨fx, M, L, F, Q0, E0, sr, he, hq, hx⟩ =>
  ⟨fx, M, L, F, _, E0, sr, he, fun d M1 v F1 H1 q s1 sr1 => (by
    obtain ⟨n, q⟩ := q
    cases d <;> try (exact q.elim)
    have p := sr1.topC n
    generalize hz : ([] : List Addr) = z at p
    cases p with
    | tup hT r =>
      subst hz
      exact ⟨_, rfl, ⟨_, Same.sqT sr1.sub hT⟩, hq _ _ M1 _ F1 H1 q s1 sr1.pop (walks_tup hT r)⟩), hx⟩
/-- a name whose slot holds a list, one's own or not -/
def itS (i : Nat) : DI := fun M Q _ => getO (M.at i) fun d => match d with
  | .lst l => Q l none M
  | .own l => D.noOwns l = true ∧ Q l (some i) M
  | .scr ns => Q (ns.map .int) none M
  | .tup l => D.noOwns l = true ∧ Q l none M
  | _ => False
theorem pi_or {tg e : Expr} {t1 t2 : TI} (h1 : PI X tg e t1) (h2 : PI X tg e t2) : PI X tg e (fun σ H R => t1 σ H R ∨ t2 σ H R) := ⟨fun pins s σ H R I q => q.elim (h1.run pins s σ H R I) (h2.run pins s σ H R I)⟩
theorem i_slot {tg : Expr} {i : Nat} (h : PE X e (tVar i)) : PI X tg e (liftI X.K W (itS i)) := piW (pi_or (pi_list h) (pi_tup h)) fun σ H R ⟨fx, M, L, F, Q0, E0, sr, he, hq, hx⟩ => by
  obtain ⟨d, e1, he⟩ := getO_iff.mp he
  obtain ⟨v, f, hv, p⟩ := sr.at (ms_at.mp e1)
  cases d <;> try (exact he.elim)
  · rename_i l
    obtain ⟨n, he⟩ := he
    have p' := p
    rw [Rp.clean (.tup l) _ _ n p] at p'
    generalize hz : ([] : List Addr) = z at p'
    cases p' with
    | tup hT r =>
      subst hz
      exact .inr ⟨_, hv, _, rfl, ⟨_, Same.sqT sr.sub hT⟩, hq _ _ M _ F H he (Same.refl _) sr (walks_tup hT r)⟩
  all_goals
    refine .inl ?_
    refine ⟨v, hv, ?_⟩
  · rename_i l
    cases p with
    | lst hF r => exact ⟨_, rfl, ⟨_, SqL.of (sr.sub _ _ hF)⟩, hq _ _ M _ F H he (Same.refl _) sr (walks_list hF r)⟩
  · rename_i l
    obtain ⟨n, he⟩ := he
    have key : ∀ {fx M L σ' F H}, SR X.K fx M L σ' F H → OOk (some i) l σ M σ' → ∃ a vs f, v = V.ref a ∧ H a = some (.lst vs) ∧ Rps X.K F H l vs f := fun {fx M L σ' F H} sr' iv => by
      obtain ⟨h1, h2⟩ := iv i rfl
      obtain ⟨w, g, hw, pw⟩ := sr'.at (ms_at.mp h1)
      rw [h2, hv] at hw; cases hw
      cases pw with
      | own nF hH r => exact ⟨_, _, _, rfl, hH, r⟩
    cases p with
    | @own a vs _ f nF hH r =>
      refine ⟨a, rfl, ⟨_, SqL.of hH⟩, hq _ _ M _ F H he (Same.refl _) sr ⟨fun {fx M L σ' F H i' d} sr' iv s hi => ?_, fun {fx M L σ' F H} sr' iv s => ?_⟩⟩
      · obtain ⟨a', vs', f', e', hH', r'⟩ := key sr' iv
        cases e'
        obtain ⟨w, g, hw, pw⟩ := r'.getF hi
        have nd : d.noOwn = true := noOwns_get n hi
        rw [Rp.clean _ _ _ nd pw] at pw
        refine ⟨⟨vs', w, SqL.of hH', hw⟩, fun x H'' y => ?_⟩
        obtain ⟨rfl, y⟩ := y
        have := y vs' (SqL.of hH')
        rw [hw] at this; cases this
        exact ⟨F, Same.refl _, sr', pw⟩
      · obtain ⟨a', vs', f', e', hH', r'⟩ := key sr' iv
        cases e'
        exact ⟨vs', SqL.of hH', by rw [r'.len]; exact Nat.le_refl _⟩
  · rename_i ns
    cases p with
    | scr hq' =>
      refine ⟨_, rfl, ⟨_, sr.sub.seq hq'⟩, hq _ _ M _ F H he (Same.refl _) sr ⟨fun {fx M L σ F' H' i d} sr' _ s hi => ?_, fun {fx M L σ F' H'} sr' _ s => ?_⟩⟩
      · have hS := sr'.sub.seq (s.seq hq')
        rw [List.getElem?_map] at hi
        cases hn : ns[i]? with
        | none => rw [hn] at hi; cases hi
        | some n =>
          rw [hn] at hi; cases hi
          refine ⟨⟨_, .int n, hS, by rw [List.getElem?_map, hn]; rfl⟩, fun x H'' y => ?_⟩
          obtain ⟨rfl, y⟩ := y
          have := y _ hS
          rw [List.getElem?_map, hn] at this; cases this
          exact ⟨F', Same.refl _, sr', .int n⟩
      · exact ⟨_, sr'.sub.seq (s.seq hq'), by simp⟩
@[irreducible] def rngD (lo hi : Int) : List D := (List.range (hi - lo).toNat).map fun i => .int (lo + (i : Nat))
def smallI (i : Int) : Prop := -(2 ^ 62) ≤ i ∧ i < 2 ^ 62
/-- range(n) -/
def itR1 (ea : DE) : DI := fun M Q E => ea M (fun d M1 => asI d fun n => smallI n ∧ Q (rngD 0 n) none M1) E
def itR2 (ea eb : DE) : DI := fun M Q E => ea M (fun d M1 => eb M1 (fun d2 M2 => asI d fun i => asI d2 fun j => smallI i ∧ smallI j ∧ Q (rngD i j) none M2) E) E
theorem i_range1 {tg : Expr} {p : Pos} (hm : X.mg "range" = none) (h : PE X e (liftE X.K W (ea))) (hg : Gl X "range" := by rfl) (he : starEach [e] X.env = [(false, eval e X.env)] := by rfl) : PI X tg (.Call (.Name "range" p) [e] [] pos) (liftI X.K W (itR1 ea)) :=
  piW (pi_range1 hg hm (pa_cons h pa_nil (by rw [he]; rfl)) he) fun σ H R ⟨fx, M, L, F, Q0, E0, sr, he, hq, hx⟩ =>
  ⟨fx, M, L, F, _, E0, sr, he, fun d M1 v F1 H1 q s1 sr1 => (by
    obtain ⟨n, rfl, hs, q⟩ := asI_iff.mp q
    have := sr1.int; subst this
    refine ⟨n, rfl, hs.1, hs.2, hq _ _ M1 _ F1 H1 q s1 sr1.pop ?_⟩
    have := walks_range (K := X.K) (lo := 0) (n := n.toNat) (F0 := F1) (σ0 := σ)
    unfold rngD
    rw [Int.sub_zero]
    exact this), hx⟩
theorem i_range2 {tg : Expr} {p : Pos} (hm : X.mg "range" = none) (ha : PE X a (liftE X.K W (ea))) (hb : PE X b (liftE X.K W (eb))) (hg : Gl X "range" := by rfl) (he : starEach [a, b] X.env = [(false, eval a X.env), (false, eval b X.env)] := by rfl) (he2 : starEach [b] X.env = [(false, eval b X.env)] := by rfl) : PI X tg (.Call (.Name "range" p) [a, b] [] pos) (liftI X.K W (itR2 ea eb)) :=
  piW (pi_range2 hg hm (pa_cons ha (pa_cons hb pa_nil (by rw [he2]; rfl)) (starTwo he he2)) he he2) fun σ H R ⟨fx, M, L, F, Q0, E0, sr, he, hq, hx⟩ =>
  ⟨fx, M, L, F, _, E0, sr, he, fun d M1 v F1 H1 q s1 sr1 => ⟨fx, M1, _, F1, _, E0, sr1, q, fun d2 M2 w F2 H2 q2 s2 sr2 => (by
    obtain ⟨i, rfl, q3⟩ := asI_iff.mp q2
    obtain ⟨j, rfl, hi, hj, q4⟩ := asI_iff.mp q3
    have := sr2.int; subst this
    have := sr2.pop.int; subst this
    exact ⟨i, j, rfl, ⟨hi.1, hi.2, hj.1, hj.2⟩, hq _ _ M2 _ F2 H2 q4 (s1.trans s2) sr2.pop.pop (by unfold rngD; exact walks_range)⟩), fun C M' F' H' z s sr' => hx C M' F' H' z (s1.trans s) sr'.pop⟩, hx⟩
/-- enumerate, zip of lists that stand -/
def enumD (l : List D) : List D := (List.range l.length).zipWith (fun i d => .tup [.int (i : Nat), d]) l
def zipD (l m : List D) : List D := l.zipWith (fun x y => .tup [x, y]) m
theorem walks_enum {K : PySem.W.Frag} {a : Addr} {vs : List V} {l : List D} {F0 H0 : Hp} {σ0 : L2.St} (e : F0 a = some (.lst vs)) (r : Rps K F0 H0 l vs []) : Walks K (Ite K a) F0 σ0 none (enumD l) where
  go := fun {fx M L σ F H i d} sr _ s hi => by
    have hi' : ∃ x, l[i]? = some x ∧ d = .tup [.int (i : Nat), x] := by
      unfold enumD at hi
      rw [List.getElem?_zipWith] at hi
      split at hi
      · rename_i k x h1 h2
        obtain ⟨h3, h4⟩ := List.getElem?_eq_some_iff.mp h1
        rw [List.getElem_range] at h4
        subst h4
        cases hi
        exact ⟨x, h2, rfl⟩
      · cases hi
    obtain ⟨x, hx, rfl⟩ := hi'
    obtain ⟨v, hv, p⟩ := r.get hx
    have hq : SqL K H a vs := SqL.of (sr.sub _ _ (s _ _ e))
    refine ⟨⟨vs, v, hq, hv⟩, fun y H' z => ?_⟩
    obtain ⟨T, w, rfl, hT, rfl, z⟩ := z
    have := z vs hq
    rw [hv] at this; cases this
    obtain ⟨sr2, s2⟩ := sr.learn (o := .tup [.int (i : Nat), v]) hT
    refine ⟨_, s2, sr2, .tup (.inl (.inl upd_same)) ?_⟩
    exact .cons (f := []) (.int _) (.cons (f := []) (Rp.mono (s.trans s2) _ _ _ (fun b z => nomatch z) p) .nil)
  stop := fun {fx M L σ F H} sr _ s => ⟨vs, SqL.of (sr.sub _ _ (s _ _ e)), by unfold enumD; rw [List.length_zipWith, List.length_range, ← r.len]; omega⟩
theorem walks_zip {K : PySem.W.Frag} {a b : Addr} {vs ws : List V} {l m : List D} {F0 H0 H1 : Hp} {σ0 : L2.St} (e : F0 a = some (.lst vs)) (r : Rps K F0 H0 l vs []) (e2 : F0 b = some (.lst ws)) (r2 : Rps K F0 H1 m ws []) : Walks K (Itz K a b) F0 σ0 none (zipD l m) where
  go := fun {fx M L σ F H i d} sr _ s hi => by
    have hi' : ∃ x y, l[i]? = some x ∧ m[i]? = some y ∧ d = .tup [x, y] := by
      unfold zipD at hi
      rw [List.getElem?_zipWith] at hi
      split at hi
      · rename_i x y h1 h2
        cases hi
        exact ⟨x, y, h1, h2, rfl⟩
      · cases hi
    obtain ⟨x, y, hx, hy, rfl⟩ := hi'
    obtain ⟨v, hv, p⟩ := r.get hx
    obtain ⟨w, hw, p2⟩ := r2.get hy
    have hq : SqL K H a vs := SqL.of (sr.sub _ _ (s _ _ e))
    have hq2 : SqL K H b ws := SqL.of (sr.sub _ _ (s _ _ e2))
    refine ⟨⟨vs, ws, v, w, hq, hq2, hv, hw⟩, fun u H' z => ?_⟩
    obtain ⟨T, v', w', rfl, hT, rfl, z1, z2⟩ := z
    have t1 := z1 vs hq
    rw [hv] at t1; cases t1
    have t2 := z2 ws hq2
    rw [hw] at t2; cases t2
    obtain ⟨sr2, s2⟩ := sr.learn (o := .tup [v, w]) hT
    refine ⟨_, s2, sr2, .tup (.inl (.inl upd_same)) ?_⟩
    exact .cons (f := []) (Rp.mono (s.trans s2) _ _ _ (fun b z => nomatch z) p) (.cons (f := []) (Rp.mono (s.trans s2) _ _ _ (fun b z => nomatch z) p2) .nil)
  stop := fun {fx M L σ F H} sr _ s => ⟨vs, ws, SqL.of (sr.sub _ _ (s _ _ e)), SqL.of (sr.sub _ _ (s _ _ e2)), by unfold zipD; rw [List.length_zipWith, ← r.len, ← r2.len]; omega⟩
def itEnum (ea : DE) : DI := fun M Q E => ea M (fun d M1 => lstD d fun l => Q (enumD l) none M1) E
def itZip (ea eb : DE) : DI := fun M Q E => ea M (fun d M1 => eb M1 (fun d2 M2 => lstD d fun l => lstD d2 fun m => Q (zipD l m) none M2) E) E
theorem i_enum {p tpos : Pos} {elts : List Expr} {kk : Nat} (hm : X.mg "enumerate" = none) (h : PE X e (liftE X.K W (ea))) (hg : Gl X "enumerate" := by rfl) (he : starEach [e] X.env = [(false, eval e X.env)] := by rfl) : PI X (.Tuple elts kk tpos) (.Call (.Name "enumerate" p) [e] [] pos) (liftI X.K W (itEnum ea)) :=
  piW (pi_enum hg hm (pa_cons h pa_nil (by rw [he]; rfl)) he) fun σ H R ⟨fx, M, L, F, Q0, E0, sr, he, hq, hx⟩ =>
  ⟨fx, M, L, F, _, E0, sr, he, fun d M1 v F1 H1 q s1 sr1 => (by
    cases d <;> try (exact q.elim)
    have p := sr1.topC rfl
    cases p with
    | lst hF r => exact ⟨_, _, rfl, SqL.of (sr1.sub _ _ hF), hq _ _ M1 _ F1 H1 q s1 sr1.pop (walks_enum hF r)⟩), hx⟩
theorem i_zip {p tpos : Pos} {elts : List Expr} {kk : Nat} (hm : X.mg "zip" = none) (ha : PE X a (liftE X.K W (ea))) (hb : PE X b (liftE X.K W (eb))) (hg : Gl X "zip" := by rfl) (he : starEach [a, b] X.env = [(false, eval a X.env), (false, eval b X.env)] := by rfl) (he2 : starEach [b] X.env = [(false, eval b X.env)] := by rfl) : PI X (.Tuple elts kk tpos) (.Call (.Name "zip" p) [a, b] [] pos) (liftI X.K W (itZip ea eb)) :=
  piW (pi_zip hg hm (pa_cons ha (pa_cons hb pa_nil (by rw [he2]; rfl)) (starTwo he he2)) (starTwo he he2) (by rw [he2]; rfl)) fun σ H R ⟨fx, M, L, F, Q0, E0, sr, he, hq, hx⟩ =>
  ⟨fx, M, L, F, _, E0, sr, he, fun d M1 v F1 H1 q s1 sr1 => ⟨fx, M1, _, F1, _, E0, sr1, q, fun d2 M2 w F2 H2 q2 s2 sr2 => (by
    cases d <;> try (exact q2.elim)
    cases d2 <;> try (exact q2.elim)
    have p := sr2.pop.topC rfl
    have p2 := sr2.topC rfl
    cases p with
    | lst hF r =>
      cases p2 with
      | lst hF2 r2 => exact ⟨_, _, _, _, rfl, SqL.of (sr2.sub _ _ hF), SqL.of (sr2.sub _ _ hF2), hq _ _ M2 _ F2 H2 q2 (s1.trans s2) sr2.pop.pop (walks_zip hF r hF2 r2)⟩), fun C M' F' H' z s sr' => hx C M' F' H' z (s1.trans s) sr'.pop⟩, hx⟩

/-! ### for -/
/-- the targets' reading at trees -/
abbrev DG := D → MS → (MS → Prop) → Prop
def tgName (i : Nat) : DG := fun d M Q => M.canSet i = true ∧ Q (M.set i (.va d))
def tgTup (is : List Nat) : DG := fun d M Q => asTup d fun l => getO (setAll M is l) fun M2 => Q M2
/-- a target stores a thing without own parts; only the slots vs are changed -/
def TgOk (X : Cx) (g : TG) (tg : DG) (is : List Nat) : Prop := ∀ {fx M L σ F H d v} {Q : MS → Prop} {R : L2.St → Hp → Prop}, SR X.K fx M L σ F H → Rp X.K F H d v [] → tg d M Q → (∀ M' σ', (∀ i, i ∉ is → σ'[i]? = σ[i]?) → σ'.length = σ.length → Q M' → SR X.K fx M' L σ' F H → R σ' H) → g v σ H R
theorem tg_name {i : Nat} : TgOk X (gName i) (tgName i) [i] := fun {fx M L σ F H d v Q R} sr p h k => by
  obtain ⟨hc, q⟩ := h
  obtain ⟨s, e1, e2⟩ := canSet_iff hc
  exact k _ _ (fun j hj => by rw [List.getElem?_set_ne (fun z => hj (by simp [z]))]) (by simp) q ((sr.push p).setVa e1 e2)
theorem gset_ok2 {fx : Fx} {L : List (V × D)} {F H : Hp} {Q : L2.St → Hp → Prop} : ∀ {is : List Nat} {ts : List Expr} {t : TGs} {l : List D} {vs : List V} {M M2 : MS} {σ : L2.St}, Tgs X ts t is → SR X.K fx M L σ F H → Rps X.K F H l vs [] → setAll M is l = some M2 →
    (∀ σ', (∀ i, i ∉ is → σ'[i]? = σ[i]?) → σ'.length = σ.length → SR X.K fx M2 L σ' F H → Q σ' H) → t vs σ H Q
  | [], _, _, [], _, M, M2, σ, .nil, sr, r, e, q => by
    cases r
    simp only [setAll, Option.some.injEq] at e
    subst e
    exact ⟨rfl, q σ (fun _ _ => rfl) rfl sr⟩
  | i :: is, _, _, d :: l, vs, M, M2, σ, .cons tg, sr, r, e, q => by
    generalize hz : ([] : List Addr) = z at r
    cases r with
    | @cons _ v f g _ vs p r =>
      obtain ⟨rfl, rfl⟩ := List.append_eq_nil_iff.mp hz.symm
      unfold setAll at e
      split at e
      · rename_i hc
        obtain ⟨s, e1, e2⟩ := canSet_iff hc
        refine ⟨v, vs, rfl, gset_ok2 tg ((sr.push p).setVa e1 e2) r e fun σ' k1 k2 k3 => q σ' (fun j hj => ?_) (by rw [k2]; simp) k3⟩
        simp only [List.mem_cons, not_or] at hj
        rw [k1 j hj.2, List.getElem?_set_ne (Ne.symm hj.1)]
      · cases e
  | [], _, _, _ :: _, _, _, _, _, _, _, _, e, _ => by simp [setAll] at e
  | _ :: _, _, _, [], _, _, _, _, _, _, _, e, _ => by simp [setAll] at e
theorem setAll_len : ∀ {is : List Nat} {l : List TL.D} {M M2 : MS}, setAll M is l = some M2 → is.length = l.length := by
  intro is
  induction is with
  | nil => intro l M M2 e; cases l <;> simp [setAll] at e ⊢
  | cons i is ih =>
    intro l M M2 e
    cases l with
    | nil => simp [setAll] at e
    | cons d l =>
      unfold setAll at e
      split at e
      · simp [ih e]
      · cases e
theorem Tgs.len {ts : List Expr} {t : TGs} {is : List Nat} (tg : Tgs X ts t is) : ts.length = is.length := by
  induction tg with
  | nil => rfl
  | cons _ ih => simp [ih]
theorem tg_tup {is : List Nat} {ts : List Expr} {t : TGs} {n : Nat} (tg : Tgs X ts t is) (hl : ts.length = n) : TgOk X (gTup X.K n t) (tgTup is) is := fun {fx M L σ F H d v Q R} sr p h k => by
  cases d <;> try (exact h.elim)
  rename_i l
  obtain ⟨M2, e2, q⟩ := getO_iff.mp h
  generalize hz : ([] : List Addr) = z at p
  cases p with
  | tup hT r =>
    rename_i a vs
    subst hz
    exact ⟨a, vs, rfl, Same.sqT sr.sub hT, by rw [← r.len, ← setAll_len e2, ← tg.len]; exact hl, gset_ok2 tg sr r e2 fun σ' k1 k2 sr' => k M2 σ' k1 k2 q sr'⟩
/-- the loop over what is left -/
def forL (vs : List Nat) (tg : DG) (rb : DS) (D : DEnds) : List TL.D → MS → Prop
  | [], M => D.nx M
  | d :: l, M => tg d M fun M1 => stM M1 fun M1 => rb { D with nx := fun M => stM (dropM M vs) (forL vs tg rb D l), ct := fun M => stM (dropM M vs) (forL vs tg rb D l), bk := fun M => stM (dropM M vs) D.nx } M1
def sFor (vs : List Nat) (it : DI) (tg : DG) (rb : DS) : DS := fun D M => it M (fun its o M1 => o = none ∧ stM (dropM M1 vs) (forL vs tg rb D its)) D.xr
theorem s_for {vs : List Nat} {it : DI} {tg : DG} {is : List Nat} {tgE iter : Expr} {body : List Stmt} {g : TG} (hp : PassesOwn (model X.prog X.w) X.A X.env X.xe) (hc : X.calm = true) (hi : PI X tgE iter (liftI X.K W it)) (hg : PG X tgE g) (ht : TgOk X g tg is) (hb : PSs X body (liftS X.K W (rb)))
    (hs : ∀ x, foldedSetIterable iter X.env x = pure x := by intro _; rfl) : PS X (.For tgE iter body [] pos) (liftS X.K W (sFor vs it tg rb)) := psW (ps_for hp hc hi hg hb hs) fun D σ H ⟨fx, M, F, D0, sr, he, h1, h2, h3, h4, h5⟩ =>
  ⟨fx, M, [], F, _, D0.xr, sr, he, fun its o M1 J F1 H1 q s1 sr1 wk => (by
    obtain ⟨rfl, q⟩ := q
    rw [stM_eq] at q
    have sr1 := sr1.dropM (is := vs)
    generalize dropM M1 vs = M1 at *
    refine ⟨fun i m σ' H' => m = its.length - i ∧ i ≤ its.length ∧ ∃ M' F', Same F1 F' ∧ SR X.K fx M' [] σ' F' H' ∧ forL vs tg rb D0 (its.drop i) M', ⟨its.length, by simp, Nat.zero_le _, M1, F1, Same.refl _, sr1, by simpa using q⟩, ?_⟩
    rintro i m σ2 H2 ⟨rfl, hi, M2, F2, s2, sr2, q2⟩
    have oo : OOk none its σ M2 σ2 := fun i h => nomatch h
    by_cases hlt : i < its.length
    · have e1 : its[i]? = some its[i] := List.getElem?_eq_getElem hlt
      obtain ⟨hgo, hy⟩ := wk.go sr2 oo s2 e1
      have e2 : its.drop i = its[i] :: its.drop (i + 1) := List.drop_eq_getElem_cons hlt
      rw [e2] at q2
      refine .inr ⟨hgo, fun σ' H' => i + 1 ≤ its.length ∧ ∃ M' F', Same F1 F' ∧ SR X.K fx M' [] σ' F' H' ∧ forL vs tg rb D0 (its.drop (i + 1)) M', fun σ' H' ⟨a, b⟩ => ⟨its.length - (i + 1), by omega, rfl, a, b⟩, fun x H' y => ?_⟩
      obtain ⟨F3, s3, sr3, p3⟩ := hy x H' y
      refine ht sr3 p3 q2 fun M4 σ4 _ _ q4 sr4 => ?_
      rw [stM_eq] at q4
      refine ⟨fx, M4, F3, _, sr4, q4, fun M' σ' F' H' z s sr' => (by have z := stM_i z; exact ⟨hlt, _, F', s2.trans (s3.trans s), sr'.dropM, z⟩), fun d M' v σ' F' H' z s => h2 d M' v σ' F' H' z (s1.trans (s2.trans (s3.trans s))),
        fun M' σ' F' H' z s sr' => (by have z := stM_i z; exact h1 _ σ' F' H' z (s1.trans (s2.trans (s3.trans s))) sr'.dropM), fun M' σ' F' H' z s sr' => (by have z := stM_i z; exact ⟨hlt, _, F', s2.trans (s3.trans s), sr'.dropM, z⟩), fun C M' σ' F' H' z s => h5 C M' σ' F' H' z (s1.trans (s2.trans (s3.trans s)))⟩
    · have e : i = its.length := by omega
      subst e
      rw [List.drop_length] at q2
      exact .inl ⟨wk.stop sr2 oo s2, h1 M2 σ2 F2 H2 q2 (s1.trans s2) sr2⟩), fun C M' F' H' z s sr' => h5 C M' σ F' H' z s sr'⟩
end
end TL
namespace TL
open PySem PyProof.Rows L2

abbrev W0 : WX := fun _ _ _ _ => False
section
variable {X : Cx} {W : WX} {a b c e : Expr} {pos : Pos} {ea eb ec : DE} {es : List Expr} {st : Stmt} {rest : List Stmt} {ra rb : DS} {ta : DT}

/-! ### comprehensions -/
def liftTs (K : PySem.W.Frag) (t : DT) : TT := liftT K W0 t
def tYesD : DT := fun M Q _ => Q true M
theorem ts_nil {X : Cx} : PTs X [] (liftTs X.K tYesD) := ⟨fun pins s σ H Q I ⟨fx, M, L, F, Q0, E0, sr, he, hq, hx⟩ => pts_nil.run pins s σ H Q I (hq true M F H he (Same.refl _) sr)⟩
theorem ts_one {X : Cx} {c : Expr} {t : DT} (h : PT X c (liftT X.K W0 t)) : PTs X [c] (liftTs X.K t) := pts_one h
def noX : DX := fun _ _ => False
/-- the list from what is left -/
def compL (o : Option Nat) (its : List D) (tg : DG) (tt : DT) (te : DE) (vs : List Nat) : List D → List D → MS → (List D → MS → Prop) → Prop
  | [], acc, M, Q => (∀ i, o = some i → M.at i = some (.own its)) ∧ Q acc M
  | d :: l, acc, M, Q => (∀ i, o = some i → M.at i = some (.own its)) ∧ tg d M fun M1 => stM M1 fun M1 => tt M1 (fun b M2 => iteP b (te M2 (fun y M3 => stM (wipeM M3 vs) fun M4 => compL o its tg tt te vs l (acc ++ [y]) M4 Q) noX) (stM (wipeM M2 vs) fun M4 => compL o its tg tt te vs l acc M4 Q)) noX
def wipable (M : MS) (vs : List Nat) : Bool := vs.all fun i => plainS M i
def dComp (it : DI) (tg : DG) (tt : DT) (te : DE) (vs : List Nat) : DE := fun M Q E => it M (fun its o M1 => its.length ≤ 10000 ∧ wipable M1 vs = true ∧ (∀ i, o = some i → i ∉ vs) ∧ stM (wipeM M1 vs) fun M0 => compL o its tg tt te vs its [] M0 fun acc M2 => Q (.own acc) M2) E
theorem comp_w {it : DI} {g : TG} {tg : DG} {tt : DT} {te : DE} {vs : List Nat} (ht : ∀ {X' : Cx}, X'.K = X.K → TgOk X' g tg vs) (σ : L2.St) (H : Hp) (Q : VK) (h : (liftE X.K W (dComp it tg tt te vs)) σ H Q) :
    tLc (liftI X.K W it) g (liftTs X.K tt) (liftE X.K W0 te) vs σ H Q := by
  obtain ⟨fx, M, L, F, Q0, E0, sr, he, hq, hx⟩ := h
  refine ⟨fx, M, L, F, _, E0, sr, he, fun its o M1 J F1 H1 q s1 sr1 wk => ?_, hx⟩
  obtain ⟨hlen, hwp, ho, q⟩ := q
  rw [stM_eq] at q
  have hwp' : ∀ i ∈ vs, plainS M1 i = true := fun i hi => List.all_eq_true.mp hwp i hi
  have srw := sr1.wipe hwp'
  intro D hD
  have st0 : SR X.K fx (wipeM M1 vs) ((.ref D, .own []) :: L) (L2.wipe σ vs) F1 (upd H1 D (.lst [])) := SR.ownNew (vs := []) (ds := []) srw rfl hD
  -- the invariant: wiped slots are plain
  refine ⟨fun i m H' => m = its.length - i ∧ i ≤ its.length ∧ ∃ M' F' acc, Same F1 F' ∧ SR X.K fx M' ((.ref D, .own acc) :: L) (L2.wipe σ vs) F' H' ∧ acc.length ≤ i ∧ (∃ M0, M' = wipeM M0 vs ∧ ∀ i ∈ vs, plainS M0 i = true) ∧
    compL o its tg tt te vs (its.drop i) acc M' (fun acc M2 => Q0 (.own acc) M2), ⟨its.length, by simp, Nat.zero_le _, _, F1, [], Same.refl _, st0, Nat.le_refl _, ⟨M1, rfl, hwp'⟩, by simpa using q⟩, ?_⟩
  rintro i m H2 ⟨rfl, hi, M2, F2, acc, s2, sr2, hacc, ⟨M0, hM0, hp0⟩, q2⟩
  by_cases hlt : i < its.length
  · have e1 : its[i]? = some its[i] := List.getElem?_eq_getElem hlt
    have e2 : its.drop i = its[i] :: its.drop (i + 1) := List.drop_eq_getElem_cons hlt
    rw [e2] at q2
    obtain ⟨q20, q21⟩ := q2
    have hw : ∀ {k : Nat}, k ∉ vs → (L2.wipe σ vs)[k]? = σ[k]? := fun {k} hk => wipe_out hk
    have oo : OOk o its σ M2 (L2.wipe σ vs) := fun k hk => ⟨q20 k hk, hw (ho k hk)⟩
    obtain ⟨hgo, hy⟩ := wk.go sr2 oo s2 e1
    refine .inr ⟨hgo, fun H' => i + 1 ≤ its.length ∧ ∃ M' F' acc, Same F1 F' ∧ SR X.K fx M' ((.ref D, .own acc) :: L) (L2.wipe σ vs) F' H' ∧ acc.length ≤ i + 1 ∧ (∃ M0, M' = wipeM M0 vs ∧ ∀ i ∈ vs, plainS M0 i = true) ∧
      compL o its tg tt te vs (its.drop (i + 1)) acc M' (fun acc M2 => Q0 (.own acc) M2), fun H' ⟨a, b⟩ => ⟨its.length - (i + 1), by omega, rfl, a, b⟩, fun x H' y => ?_⟩
    obtain ⟨F3, s3, sr3, p3⟩ := hy x H' y
    refine ht rfl sr3 p3 q21 fun M4 σ4 k1 k2 q4 sr4 => ?_
    rw [stM_eq] at q4
    have hwe : L2.wipe σ4 vs = L2.wipe σ vs := by
      apply List.ext_getElem?
      intro k
      by_cases hk : k ∈ vs
      · have gen : ∀ {τ : L2.St} {vs : List Nat}, k ∈ vs → (L2.wipe τ vs)[k]? = if k < τ.length then some none else none := by
          intro τ vs
          induction vs with
          | nil => intro h; cases h
          | cons j js ih =>
            intro h
            show ((L2.wipe τ js).set j none)[k]? = _
            by_cases e : j = k
            · subst e
              by_cases hl : j < τ.length
              · rw [List.getElem?_set_self (by rw [wipe_length]; exact hl), if_pos hl]
              · rw [List.getElem?_eq_none (by rw [List.length_set, wipe_length]; omega), if_neg hl]
            · rw [List.getElem?_set_ne e]
              rcases List.mem_cons.mp h with h | h
              · exact absurd h.symm e
              · exact ih h
        rw [gen hk, gen hk, k2, wipe_length]
      · rw [wipe_out hk, wipe_out hk, k1 k hk, wipe_out hk]
    refine ⟨hwe, fx, M4, _, F3, _, noX, sr4, q4, fun b M5 F5 H5 q5 s5 sr5 => ?_, fun C M' F' H' z => z.elim⟩
    -- what is plain stays so: by the shape
    have shp : ∀ {M' : MS} {L' : List (V × TL.D)} {σ' : L2.St} {F' H' : Hp}, SR X.K fx M' L' σ' F' H' → ∀ i ∈ vs, plainS M' i = true := fun {M' L' σ' F' H'} k i hi => by
      have h1 := k.shape
      have h2 := sr1.shape
      have h3 := hwp' i hi
      have h4 : (M'.map Slot.isIo)[i]? = (M1.map Slot.isIo)[i]? := by rw [h1, h2]
      rw [List.getElem?_map, List.getElem?_map] at h4
      unfold plainS at h3 ⊢
      cases e1 : M1[i]? with
      | none => rw [e1] at h3; cases h3
      | some t =>
        rw [e1] at h3 h4
        cases e2 : M'[i]? with
        | none => rw [e2] at h4; cases h4
        | some t' =>
          rw [e2] at h4
          simp only [Option.map_some, Option.some.injEq] at h4
          show (!t'.isIo) = true
          rw [h4]; exact h3
    cases b with
    | true =>
      rw [iteP_t] at q5
      simp only [stM_eq] at q5
      refine iteT ⟨fx, M5, _, F5, _, noX, sr5, q5, fun d M6 v F6 H6 q6 s6 sr6 => ?_, fun C M' F' H' z => z.elim⟩
      obtain ⟨ws, hD6, hl6, sr7⟩ := sr6.appTop
      refine ⟨ws, hD6, by rw [hl6, sizeLine_eq]; omega, hlt, _, F6, _, s2.trans (s3.trans (s5.trans s6)), ?_, by simp; omega, ⟨M6, rfl, shp sr6⟩, q6⟩
      have := sr7.wipe (is := vs) (shp sr7)
      rw [hwe] at this
      exact this
    | false =>
      rw [iteP_f, stM_eq] at q5
      refine iteF ⟨hlt, _, F5, acc, s2.trans (s3.trans s5), ?_, by omega, ⟨M5, rfl, shp sr5⟩, q5⟩
      have := sr5.wipe (is := vs) (shp sr5)
      rw [hwe] at this
      exact this
  · have e : i = its.length := by omega
    subst e
    rw [List.drop_length] at q2
    obtain ⟨q20, q3⟩ := q2
    have hw : ∀ {k : Nat}, k ∉ vs → (L2.wipe σ vs)[k]? = σ[k]? := fun {k} hk => wipe_out hk
    have oo : OOk o its σ M2 (L2.wipe σ vs) := fun k hk => ⟨q20 k hk, hw (ho k hk)⟩
    refine .inl ⟨wk.stop sr2 oo s2, ?_⟩
    subst hM0
    exact hq _ _ _ F2 H2 q3 (s1.trans s2) (sr2.unwipe fun _ h => h)
theorem d_comp {it : DI} {g : TG} {tg : DG} {tt : DT} {te : DE} {elt tgE iter : Expr} {ifs : List Expr} {scope : Scope} {own : List (Str × Nat)} {vs : List Nat} (hc : X.calm = true) (hN : X.N.Nodup) (hi : PI X tgE iter (liftI X.K W it)) (hblk : blkC X.N X.env.scope scope own = true) (hv : own.map (·.2) = vs)
    (ht : ∀ {X' : Cx}, X'.K = X.K → TgOk X' g tg vs) (hg : ∀ (s : Shared) (H : Hp) (C : Addr) (cl : List (Str × Addr)) (fp : List Addr), PG (X.blk s H scope (compEnvC scope cl C X.env) fp) tgE g)
    (htt : ∀ (s : Shared) (H : Hp) (C : Addr) (cl : List (Str × Addr)) (fp : List Addr), PTs (X.blk s H scope (compEnvC scope cl C X.env) fp) ifs (liftTs X.K tt))
    (he : ∀ (s : Shared) (H : Hp) (C : Addr) (cl : List (Str × Addr)) (fp : List Addr), PE (X.blk s H scope (compEnvC scope cl C X.env) fp) elt (liftE X.K W0 te)) (hs : ∀ x, foldedSetIterable iter X.env x = pure x := by intro _; rfl) :
    PE X (.ListComp elt [⟨tgE, iter, ifs, 0⟩] scope pos) (liftE X.K W (dComp it tg tt te vs)) := peW (pe_lc hc hN hi (blkOk_by hblk) hg htt he hs) (by subst hv; exact comp_w ht)
theorem s_setC {it : DI} {g : TG} {tg : DG} {tt : DT} {te : DE} {elt tgE iter : Expr} {ifs : List Expr} {scope : Scope} {own : List (Str × Nat)} {vs : List Nat} {i : Nat} {y : Str} {py cpos : Pos} (hc : X.calm = true) (hN : X.N.Nodup) (hi : PI X tgE iter (liftI X.K W it)) (hblk : blkC X.N X.env.scope scope own = true) (hv : own.map (·.2) = vs)
    (ht : ∀ {X' : Cx}, X'.K = X.K → TgOk X' g tg vs) (hg : ∀ (s : Shared) (H : Hp) (C : Addr) (cl : List (Str × Addr)) (fp : List Addr), PG (X.blk s H scope (compEnvC scope cl C X.env) fp) tgE g)
    (htt : ∀ (s : Shared) (H : Hp) (C : Addr) (cl : List (Str × Addr)) (fp : List Addr), PTs (X.blk s H scope (compEnvC scope cl C X.env) fp) ifs (liftTs X.K tt))
    (he : ∀ (s : Shared) (H : Hp) (C : Addr) (cl : List (Str × Addr)) (fp : List Addr), PE (X.blk s H scope (compEnvC scope cl C X.env) fp) elt (liftE X.K W0 te)) (hy : X.N[i]? = some y := by rfl) (hyl : X.env.scope.names.lookup y = some .local := by rfl)
    (hk : X.env.scope.kind = .function := by rfl) (hl : (py.line == cpos.line) = true := by rfl) (ha : (scope.names.any fun (n, k) => n == y && (k == .local || k == .cell)) = false := by rfl) (hs : ∀ x, foldedSetIterable iter X.env x = pure x := by intro _; rfl) :
    PS X (.Assign [.Name y py] (.ListComp elt [⟨tgE, iter, ifs, 0⟩] scope cpos) pos) (liftS X.K W (sSet i (dComp it tg tt te vs))) :=
  psW (ps_setLc hc hN hy hyl (sw_true hk hyl hl ha) hi (blkOk_by hblk) hg htt he hs) fun D σ H h => by
    obtain ⟨fx, M, F, D0, sr, he, h1, h2, h3, h4, h5⟩ := h
    have w : (liftE X.K W (dComp it tg tt te vs)) σ H (fun x H1 => gName i x σ H1 D.nx) := ⟨fx, M, [], F, _, D0.xr, sr, he, fun d M1 v F1 H1 q s1 sr1 => (by
      obtain ⟨s, e1, e2⟩ := canSet_iff q.1
      exact h1 _ _ F1 H1 q.2 s1 (sr1.setVa e1 e2)), fun C M' F' H' z s sr' => h5 C M' σ F' H' z s sr'⟩
    subst hv
    exact comp_w ht σ H _ w

theorem s_setCF {it : DI} {g : TG} {tg : DG} {tt : DT} {te : DE} {elt tgE iter : Expr} {ifs : List Expr} {scope : Scope} {own : List (Str × Nat)} {vs : List Nat} {i : Nat} {y : Str} {py cpos : Pos} (hc : X.calm = true) (hN : X.N.Nodup) (hi : PI X tgE iter (liftI X.K W it)) (hblk : blkC X.N X.env.scope scope own = true) (hv : own.map (·.2) = vs)
    (ht : ∀ {X' : Cx}, X'.K = X.K → TgOk X' g tg vs) (hg : ∀ (s : Shared) (H : Hp) (C : Addr) (cl : List (Str × Addr)) (fp : List Addr), PG (X.blk s H scope (compEnvC scope cl C X.env) fp) tgE g)
    (htt : ∀ (s : Shared) (H : Hp) (C : Addr) (cl : List (Str × Addr)) (fp : List Addr), PTs (X.blk s H scope (compEnvC scope cl C X.env) fp) ifs (liftTs X.K tt))
    (he : ∀ (s : Shared) (H : Hp) (C : Addr) (cl : List (Str × Addr)) (fp : List Addr), PE (X.blk s H scope (compEnvC scope cl C X.env) fp) elt (liftE X.K W0 te)) (hy : X.N[i]? = some y := by rfl) (hyl : X.env.scope.names.lookup y = some .local := by rfl)
    (hk : X.env.scope.kind = .function := by rfl) (hl : (py.line == cpos.line) = true := by rfl) (ha : (scope.names.any fun (n, k) => n == y && (k == .local || k == .cell)) = false := by rfl) (hs : ∀ x, foldedSetIterable iter X.env x = pure x := by intro _; rfl) :
    PS X (.Assign [.Name y py] (.ListComp elt [⟨tgE, iter, ifs, 0⟩] scope cpos) pos) (liftS X.K W (sSet i (dFz (dComp it tg tt te vs)))) :=
  psW (ps_setLc hc hN hy hyl (sw_true hk hyl hl ha) hi (blkOk_by hblk) hg htt he hs) fun D σ H h => by
    obtain ⟨fx, M, F, D0, sr, he, h1, h2, h3, h4, h5⟩ := h
    have w : (liftE X.K W (dFz (dComp it tg tt te vs))) σ H (fun x H1 => gName i x σ H1 D.nx) := ⟨fx, M, [], F, _, D0.xr, sr, he, fun d M1 v F1 H1 q s1 sr1 => (by
      obtain ⟨s, e1, e2⟩ := canSet_iff q.1
      exact h1 _ _ F1 H1 q.2 s1 (sr1.setVa e1 e2)), fun C M' F' H' z s sr' => h5 C M' σ F' H' z s sr'⟩
    subst hv
    exact comp_w ht σ H _ (fz_w σ H _ w)

/-! ### lists' methods on what slot i holds -/
def ownAt (M : MS) (i : Nat) (k : List D → (List D → MS) → Prop) : Prop := match M[i]? with
  | some (.va (.own l)) => k l fun l' => M.set i (.va (.own l'))
  | some (.io (.own l)) => k l fun l' => M.set i (.io (.own l'))
  | _ => False
theorem ownAt_iff {M : MS} {i : Nat} {k : List D → (List D → MS) → Prop} (h : ownAt M i k) : ∃ b l, M[i]? = some (Slot.mk b (.own l)) ∧ k l fun l' => M.set i (Slot.mk b (.own l')) := by
  unfold ownAt at h
  split at h
  · rename_i l q; exact ⟨false, l, q, h⟩
  · rename_i l q; exact ⟨true, l, q, h⟩
  · exact h.elim
def isOwnAt (M : MS) (i : Nat) : Bool := match M[i]? with
  | some (.va (.own _)) => true
  | some (.io (.own _)) => true
  | _ => false
theorem isOwnAt_iff {M : MS} {i : Nat} (h : isOwnAt M i = true) : ∃ b l, M[i]? = some (Slot.mk b (.own l)) := by
  unfold isOwnAt at h
  split at h
  · rename_i l q; exact ⟨false, l, q⟩
  · rename_i l q; exact ⟨true, l, q⟩
  · cases h
theorem SR.ownAt {K : PySem.W.Frag} {F H : Hp} {fx : Fx} {M : MS} {L : List (V × D)} {σ : L2.St} {i : Nat} {b : Bool} {l : List D} (h : SR K fx M L σ F H) (e : M[i]? = some (Slot.mk b (.own l))) : ∃ a vs f, σ[i]? = some (some (V.ref a)) ∧ H a = some (.lst vs) ∧ Rps K F H l vs f := by
  have : M[i]? = some (.va (.own l)) ∨ M[i]? = some (.io (.own l)) := by cases b <;> simp [Slot.mk] at e <;> simp [e]
  obtain ⟨v, f, hv, p⟩ := h.at this
  cases p with
  | own nF hH r => exact ⟨_, _, _, hv, hH, r⟩
/-- xs.append(e) -/
def dApp (i : Nat) (ea : DE) : DE := fun M Q E => isOwnAt M i = true ∧ ea M (fun d M1 => ownAt M1 i fun l put => l.length ≤ 10000 ∧ Q .non (put (l ++ [d]))) E
theorem d_app {i : Nat} (h : PE X e (tBM X.K "list" rAppend (tVar i) (tCons (liftE X.K W (ea)) tNil))) : PE X e (liftE X.K W (dApp i ea)) := peW h fun σ H Q ⟨fx, M, L, F, Q0, E0, sr, ⟨ho, he⟩, hq, hx⟩ => by
  obtain ⟨b0, l0, e0⟩ := isOwnAt_iff ho
  obtain ⟨a0, vs0, f0, hv, hH0, _⟩ := sr.ownAt e0
  refine ⟨_, hv, .inl ⟨rfl, vs0, SqL.of hH0⟩, fx, M, L, F, _, E0, sr, he, fun d M1 w F1 H1 q s1 sr1 => ?_, hx⟩
  obtain ⟨b, l, e1, hl, q⟩ := ownAt_iff q
  obtain ⟨a, vs, rfl', hH, hlen, mk⟩ := SR.write (Z := [(w, d)]) (ds' := l ++ [d]) sr1 e1 hv
  cases rfl'
  refine ⟨_, vs, w, rfl, rfl, hH, by rw [← hlen, sizeLine_eq]; omega, hq .non _ .non F1 _ q s1 ?_⟩
  refine (mk (vs ++ [w]) fun f gs r1 r2 => ?_).push .non
  cases r2 with
  | @cons _ _ f2 _ gl q2 r =>
    cases r
    refine ⟨f ++ (f2 ++ []), r1.append (.cons q2 .nil), fun x => ?_⟩
    simp only [List.append_nil, List.count_append, cnt]
    omega
/-- where j points in a list of n things -/
def ixn (n : Nat) (j : Int) : Option Nat := if 0 ≤ j then (if j.toNat < n then some j.toNat else none) else if 0 ≤ j + n then some (j + n).toNat else none
theorem ixn_ixN {n : Nat} {j : Int} {k : Nat} (h : ixn n j = some k) : ixN n j = some k ∧ k < n := by
  unfold ixn at h
  unfold ixN
  split at h
  · rename_i h0
    split at h
    · cases h
      exact ⟨by rw [if_pos h0, if_pos (by omega)], by assumption⟩
    · cases h
  · rename_i h0
    split at h
    · cases h
      exact ⟨by rw [if_neg h0, if_pos (by omega)], by omega⟩
    · cases h
theorem Rps.set {K : PySem.W.Frag} {F H : Hp} {d : TL.D} {v : V} (p : Rp K F H d v []) : ∀ {l : List TL.D} {vs : List V} {n : Nat}, Rps K F H l vs [] → Rps K F H (l.set n d) (vs.set n v) []
  | [], _, n, h => by cases h; exact .nil
  | x :: l, _, n, h => by
    generalize hz : ([] : List Addr) = z at h
    cases h with
    | @cons _ w f g _ vs q r =>
      obtain ⟨rfl, rfl⟩ := List.append_eq_nil_iff.mp hz.symm
      cases n with
      | zero => exact .cons (f := []) p r
      | succ n => exact .cons (f := []) q (Rps.set p r)
/-- xs[j] = e -/
def sPut (i : Nat) (ea eb : DE) : DS := fun D M => ea M (fun d M1 => d.noOwn = true ∧ isOwnAt M1 i = true ∧ eb M1 (fun k M2 => asI k fun j => ownAt M2 i fun l put => TL.D.noOwns l = true ∧ getO (ixn l.length j) fun n => D.nx (put (l.set n d))) D.xr) D.xr
theorem s_put {i : Nat} (h : PS X st (tAsg (liftE X.K W (ea)) (gSub (tVar i) (liftE X.K W (eb)) rSetL))) : PS X st (liftS X.K W (sPut i ea eb)) := psW h fun D σ H ⟨fx, M, F, D0, sr, he, h1, h2, h3, h4, h5⟩ =>
  ⟨fx, M, [], F, _, D0.xr, sr, he, fun d M1 v F1 H1 q s1 sr1 => (by
    obtain ⟨nd, ho, q⟩ := q
    obtain ⟨b0, l0, e0⟩ := isOwnAt_iff ho
    obtain ⟨a0, vs0, f0, hv, hH0, _⟩ := sr1.ownAt e0
    refine ⟨_, hv, fx, M1, _, F1, _, D0.xr, sr1, q, fun k M2 w F2 H2 q2 s2 sr2 => ?_, fun C M' F' H' z s sr' => h5 C M' σ F' H' z (s1.trans s) sr'.pop⟩
    obtain ⟨j, rfl, q3⟩ := asI_iff.mp q2
    obtain ⟨b, l, e1, nl, q4⟩ := ownAt_iff q3
    obtain ⟨n, hn, q5⟩ := getO_iff.mp q4
    obtain ⟨hn1, hn2⟩ := ixn_ixN hn
    have := sr2.int; subst this
    have pv := sr2.pop.topC nd
    obtain ⟨a, vs, rfl', hH, hlen, mk⟩ := SR.write (Z := []) (ds' := l.set n d) sr2.pop.pop e1 hv
    cases rfl'
    refine ⟨_, vs, j, n, rfl, rfl, hH, by rw [← hlen]; exact hn1, h1 _ σ F2 _ q5 (s1.trans s2) ?_⟩
    refine mk (vs.set n v) fun f gs r1 r2 => ?_
    have := Rps.clean _ _ _ nl r1
    subst this
    exact ⟨[], Rps.set pv r1, fun x => by simp⟩), fun C M' F' H' z s sr' => h5 C M' σ F' H' z s sr'⟩
end

/-! ### raise, try -/
section
variable {X : Cx} {W : WX} {a b c e : Expr} {pos : Pos} {ea eb ec : DE} {es : List Expr} {st : Stmt} {rest : List Stmt} {ra rb : DS} {ta : DT}
def sRaise (C : Addr) : DS := fun D M => D.xr C M
theorem s_raise {C : Addr} {t : L2.St → Hp → XK → Prop} (h : PS X st (fun _ σ H => t σ H fun cls d H' => W cls d σ H')) (ht : ∀ σ H Q, Q (.ref C) none H → t σ H Q) : PS X st (liftS X.K W (sRaise C)) :=
  psW h fun D σ H ⟨fx, M, F, D0, sr, he, h1, h2, h3, h4, h5⟩ => ht σ H _ (h5 C M σ F H he (Same.refl _) sr)
end

/-! ### a def keeps its promise -/
def iosOf (M : MS) : List D := M.filterMap fun s => match s with
  | .io d => some d
  | _ => none
def noOl : MS → Bool
  | [] => true
  | .ol :: _ => false
  | _ :: M => noOl M
def endsOf (Q : D → List D → Prop) (E : Addr → List D → Prop) : DEnds where
  nx := fun M => noOl M = true ∧ Q .non (iosOf M)
  rt := fun d M => noOl M = true ∧ Q d (iosOf M)
  xr := fun C M => noOl M = true ∧ E C (iosOf M)
section
variable {K : PySem.W.Frag} {F F' H H' : Hp}
theorem slr_start {P : List V} : ∀ {as : MS} {σ : L2.St} {fs : List (List Addr)} {j n : Nat}, SlR K F H P j as σ fs → ∃ gs, SlR K F H P j (as ++ List.replicate n .un) (σ ++ List.replicate n none) gs ∧ ∀ a, cnt a gs = cnt a fs
  | [], [], _, j, n, .nil => by
    refine ⟨List.replicate n [], ?_, fun a => ?_⟩
    · simp only [List.nil_append]
      induction n generalizing j with
      | zero => exact .nil
      | succ n ih => rw [List.replicate_succ, List.replicate_succ, List.replicate_succ]; exact .un (ih (j := j + 1))
    · induction n with
      | zero => rfl
      | succ n ih => rw [List.replicate_succ]; simp only [cnt, List.count_nil, ih]
  | _, _, _, j, n, .un r => by obtain ⟨gs, h1, h2⟩ := slr_start (n := n) r; exact ⟨_, .un h1, fun a => by simp only [cnt, h2]⟩
  | _, _, _, j, n, .ol e r => by obtain ⟨gs, h1, h2⟩ := slr_start (n := n) r; exact ⟨_, .ol e h1, fun a => by simp only [cnt, h2]⟩
  | _, _, _, j, n, .va p r => by obtain ⟨gs, h1, h2⟩ := slr_start (n := n) r; exact ⟨_, .va p h1, fun a => by simp only [cnt, h2]⟩
  | _, _, _, j, n, .io e p r => by obtain ⟨gs, h1, h2⟩ := slr_start (n := n) r; exact ⟨_, .io e p h1, fun a => by simp only [cnt, h2]⟩
theorem no_io {P : List V} : ∀ {M : MS} {σ : L2.St} {fs : List (List Addr)} {j : Nat}, SlR K F H P j M σ fs → M.all (fun s => !s.isIo) = true → iosOf M = []
  | [], _, _, _, _, _ => rfl
  | .un :: M, _, _, _, .un r, h => by
    simp only [List.all_cons, Bool.and_eq_true] at h
    show iosOf M = []
    exact no_io r h.2
  | .va _ :: M, _, _, _, .va _ r, h => by
    simp only [List.all_cons, Bool.and_eq_true] at h
    show iosOf M = []
    exact no_io r h.2
  | .io _ :: M, _, _, _, .io _ _ r, h => by simp [Slot.isIo] at h
  | .ol :: M, _, _, _, .ol _ r, h => by simp [Slot.isIo] at h
/-- behind a def's run: the objects handed in -/
theorem ret_pairs : ∀ {as : MS} {vs : List V} {M : MS} {σ : L2.St} {fs : List (List Addr)} {P : List V} {j n : Nat}, vs.length = as.length → (∀ i, i < vs.length → P[j + i]? = vs[i]?) → noOl M = true → M.map Slot.isIo = as.map Slot.isIo ++ List.replicate n false →
    SlR K F H P j M σ fs → as.all argS = true → ∃ gs, HdR K F H (ioPairs as vs (iosOf M)) gs ∧ ∀ a, cnt a gs ≤ cnt a fs
  | [], [], M, σ, fs, P, j, n, _, _, _, hm, r, _ => ⟨[], .nil, fun a => by simp [cnt]⟩
  | s :: as, v :: vs, [], σ, fs, P, j, n, _, _, _, hm, r, _ => by simp at hm
  | s :: as, v :: vs, t :: M, σ, fs, P, j, n, hl, hP, hn, hm, r, ha => by
    simp only [List.map_cons, List.cons_append, List.cons.injEq] at hm
    simp only [List.all_cons, Bool.and_eq_true] at ha
    have hl' : vs.length = as.length := by simpa using hl
    have hP' : ∀ i, i < vs.length → P[j + 1 + i]? = vs[i]? := fun i hi => by
      have := hP (i + 1) (by simp only [List.length_cons]; omega)
      rw [List.getElem?_cons_succ] at this
      rw [← this]; congr 1; omega
    have hp : P[j]? = some v := by have := hP 0 (by simp); simpa using this
    have hn' : noOl M = true := by cases t <;> first | exact hn | cases hn
    cases r with
    | un r =>
      obtain ⟨gs, h1, h2⟩ := ret_pairs hl' hP' hn' hm.2 r ha.2
      cases s with
      | io d => cases hm.1
      | ol => cases ha.1
      | va d => exact ⟨gs, h1, fun a => by have := h2 a; simp only [cnt, List.count_nil]; omega⟩
      | un => exact ⟨gs, h1, fun a => by have := h2 a; simp only [cnt, List.count_nil]; omega⟩
    | ol e r => cases hn
    | va p r =>
      obtain ⟨gs, h1, h2⟩ := ret_pairs hl' hP' hn' hm.2 r ha.2
      cases s with
      | io d => cases hm.1
      | ol => cases ha.1
      | va d => exact ⟨gs, h1, fun a => by have := h2 a; simp only [cnt]; omega⟩
      | un => exact ⟨gs, h1, fun a => by have := h2 a; simp only [cnt]; omega⟩
    | @io _ d w f _ _ _ e p r =>
      obtain ⟨gs, h1, h2⟩ := ret_pairs hl' hP' hn' hm.2 r ha.2
      rw [hp] at e; cases e
      cases s with
      | io d => exact ⟨_, .cons p h1, fun a => by have := h2 a; simp only [cnt]; omega⟩
      | ol => cases ha.1
      | va d => cases hm.1
      | un => cases hm.1
  | [], _ :: _, _, _, _, _, _, _, hl, _, _, _, _, _ => by simp at hl
  | _ :: _, [], _, _, _, _, _, _, hl, _, _, _, _, _ => by simp at hl
end
section
variable {P : Program} {w : World} {K : PySem.W.Frag} {mg : Str → Option Value} {base : Heap}
/-- THE RULE for a def: its body's reading as trees, and that the reading follows from the promise -/
theorem fn_ok {x qual : Str} {st : Stmt} {f : Addr} {fd : FuncData} {N ps : List Str} {k n m : Nat} {T : Spec} {r : DS} (Fn : Fun K x qual st f fd) (S : FnScope N ps (defScope st)) (hn : ps.length = n) (hm : N.length = n + m)
    (deriv : ∀ (cdv : Value) (A : Around) (outer : List Env) (s : Shared) (H : Hp) (E : XK), RmG k (A.deeper (envOfC qual (defScope st) s.heap.objs.size f cdv)) →
      PSs (cxOf (L2.CX P w) P w K mg base N qual (defScope st) f cdv A outer s H E) (defBody st) (liftS K (fun cls d _ H => E cls d H) r))
    (law : ∀ as Q E, as.length = n → as.all argS = true → T as Q E → r (endsOf Q E) (as ++ List.replicate m .un)) : FnG P w K mg base (L2.CX P w) (k + 1) f fd ps (spOf K n T) := by
  refine okG Fn S (fun vs H Q E h => ?_) (fun cdv A outer s H vs Q E hr h => ⟨_, deriv cdv A outer s H E hr, ?_⟩)
  · obtain ⟨as, F, fs, Q0, E0, hl, _, _, r, _⟩ := h
    have := r.len.1
    rw [List.length_map] at this
    omega
  · obtain ⟨as, F, fs, Q0, E0, hl, hol, sF, r, cn, hT, hq, hx⟩ := h
    have hvs : vs.length = as.length := by have := r.len.1; rw [List.length_map] at this; omega
    have hst : L2.start N vs = vs.map some ++ List.replicate m none := by unfold L2.start; rw [hm, hvs, hl, Nat.add_sub_cancel_left]
    obtain ⟨gs, r2, cg⟩ := slr_start (n := m) r
    have sr : SR K ⟨vs, hide H fs, F, as.map Slot.isIo ++ List.replicate m false⟩ (as ++ List.replicate m .un) [] (L2.start N vs) F H := by
      rw [hst]
      refine ⟨sF, fun b o e => ?_, fun _ _ => rfl, ?_, gs, [], r2, .nil, fun a => by simp only [cnt, cg]; have := cn a; omega, fun a z => ?_⟩
      · have e' : hide H fs b = some o := e
        unfold hide at e'
        split at e'
        · cases e'
        · exact e'
      · rw [List.map_append, List.map_replicate]; rfl
      · show hide H fs a = none
        unfold hide
        rw [if_pos (by simp only [cnt, cg] at z; omega)]
    -- from the end's state to the promise's
    have fin : ∀ {M' : MS} {L : List (V × D)} {σ' : L2.St} {F' H' : Hp}, noOl M' = true → SR K ⟨vs, hide H fs, F, as.map Slot.isIo ++ List.replicate m false⟩ M' L σ' F' H' → SR K ⟨[], hide H fs, F, []⟩ [] (L ++ ioPairs as vs (iosOf M')) [] F' H' := fun {M' L σ' F' H'} hn k => by
      obtain ⟨sub, stay, agree, shape, fs', gs', r1, r2, c, g⟩ := k
      obtain ⟨gp, h1, h2⟩ := ret_pairs (P := vs) (j := 0) (n := m) hvs (fun i _ => by rw [Nat.zero_add]) hn shape r1 hol
      have app : ∀ {L : List (V × D)} {gs' : List (List Addr)}, HdR K F' H' L gs' → ∃ gq, HdR K F' H' (L ++ ioPairs as vs (iosOf M')) gq ∧ ∀ a, cnt a gq = cnt a gs' + cnt a gp := by
        intro L gs' r2
        induction r2 with
        | nil => exact ⟨gp, h1, fun a => by simp [cnt]⟩
        | cons q r ih => obtain ⟨gq, h3, h4⟩ := ih; exact ⟨_, .cons q h3, fun a => by simp only [cnt, h4]; omega⟩
      obtain ⟨gq, h3, h4⟩ := app r2
      exact ⟨sub, stay, agree, rfl, [], gq, .nil, h3, fun a => by have := c a; have := h2 a; have := h4 a; simp only [cnt]; omega, fun a z => g a (by have := h2 a; have := h4 a; simp only [cnt] at z; omega)⟩
    refine ⟨_, _, F, endsOf Q0 E0, sr, law as Q0 E0 hl hol hT, fun M' σ' F' H' z s sr' => ?_, fun d M' v σ' F' H' z s sr' => ?_, fun M' σ' F' H' z => z.elim, fun M' σ' F' H' z => z.elim, fun C M' σ' F' H' z s sr' => ?_⟩
    · exact hq .non _ .non F' H' z.2 (fin z.1 (sr'.push .non))
    · exact hq d _ v F' H' z.2 (fin z.1 sr')
    · exact hx C _ F' H' z.2 (fin z.1 sr')
end
end TL
namespace TL
open PySem PyProof.Rows L2

/-! ### try: .. except C as n: y = n -/
section
variable {X : Cx}
/-- an untracked record that is pinned becomes known -/
theorem inv_track {pins : List (Addr × Obj)} {σ : L2.St} {H : Hp} {s : Shared} {a : Addr} {ob : Obj} {φ : Heap → Prop} (J : Inv X ((a, ob) :: pins) σ H s) (fresh : X.s_0.heap.get? a = none) (rec : ∃ vs, ob.data = .fields vs)
    (npin : ∀ p ∈ X.pn ++ pins, p.1 ≠ a) (now : φ s.heap) (keep : ∀ g g' : Heap, φ g → (∀ o, g.get? a = some o → g'.get? a = some o) → φ g') : Inv X pins σ (upd H a (.ext φ)) s := by
  have hin : (a, ob) ∈ X.pn ++ (a, ob) :: pins := List.mem_append_right _ List.mem_cons_self
  have P := J.pin (a, ob) hin
  have gA : s.heap.get? a = some ob := P.1
  have hA : H a = none := P.2.1
  have lA : a ≠ X.env.locals := P.2.2.1
  have ext : ∀ b u, H b = some u → upd H a (.ext φ) b = some u := fun b u e => by rw [upd_ne (ne_of_none e hA)]; exact e
  have old : ∀ b o, X.s_0.heap.get? b = some o → b ≠ a := fun b o e z => by rw [z, fresh] at e; cases e
  constructor
  · exact J.ok
  · exact J.os
  · exact J.bare
  · constructor
    · exact J.base.keep
    · exact J.base.slot
    · intro b o e n hx
      rw [upd_ne (old b o e)]
      exact J.base.free b o e n hx
    · exact J.base.there
    · exact fun b xs e => ext b _ (J.base.tups b xs e)
    · exact fun b o u e => ext b _ (J.base.frzs b o u e)
    · intro b ps e
      obtain ⟨more, q⟩ := J.base.tbls b ps e
      exact ⟨more, ext b _ q⟩
  · exact J.loc
  · exact J.cell
  · rw [upd_ne (Ne.symm lA)]; exact J.free
  · intro x c e
    have : c ≠ a := fun z => by
      obtain ⟨w, o, ho, hd⟩ := J.cell x c e
      obtain ⟨vs, hv⟩ := rec
      rw [z, gA] at ho; cases ho
      rw [hv] at hd; cases hd
    rw [upd_ne this]; exact J.freeC x c e
  · intro p hp
    have q := J.pin p (by
      rcases List.mem_append.mp hp with z | z
      · exact List.mem_append_left _ z
      · exact List.mem_append_right _ (List.mem_cons_of_mem _ z))
    exact ⟨q.1, by rw [upd_ne (npin p hp)]; exact q.2.1, q.2.2⟩
  · intro b o e
    by_cases z : b = a
    · subst z
      rw [upd_same] at e; cases e
      exact ⟨now, ⟨ob, gA⟩, keep⟩
    · rw [upd_ne z] at e
      exact (J.hok b o e).stay (fun c u _ q => q) (fun c q => ext c _ q) (fun c xs q => ext c _ q)
  · exact J.len
/-- what is wished of an error of the body -/
def wKeep (K : PySem.W.Frag) (c : Value) (i j : Nat) (D : Ends) : WX := fun cls d σ H => ∃ C, cls = .ref C ∧ d = none ∧ PySem.W.exmOne K (.ref C) c = some true ∧
  ∀ (a : Addr) (φ : Heap → Prop), H a = none → (∀ h, φ h → ∃ ox, PySem.W.InstAt h a ox C none) → D.nx (((σ.set i (some (.ref a))).set j (some (.ref a))).set i none) (upd H a (.ext φ))
theorem try_keep {x n : Str} {c : Value} {i j : Nat} {body suite : List Stmt} {st : Stmt} {np pos pos' : Pos} {tb : WX → TS} (hstk : X.stack = X.env :: X.outer) (hfrm : X.env.frame = some X.env.locals) (hexs : X.ex = []) (hN : X.N.Nodup) (hi : X.N[i]? = some n) (hij : i ≠ j) (hln : X.env.kindOf n = some .local) (hc : Names X x c)
    (hb : ∀ (W : WX) (pn : List (Addr × Obj)) (xe : Value → Shared → Prop), Takes (X.tr pn xe) W → PassesOwn (model X.prog X.w) X.A X.env xe → PSs (X.tr pn xe) body (tb W))
    (hsu : ∀ (a : Addr) (pn : List (Addr × Obj)), PSs (X.suite a pn) (st :: suite) (tAsg (tVar i) (gName j))) :
    PS X (.Try body [.ExceptHandler (some (.Name x np)) (some n) (st :: suite) pos'] [] [] pos) (fun D σ H => tb (wKeep X.K c i j D) D σ H) := by
  constructor
  intro pins s σ H D I h
  have fr : X.A.frames = some (X.env :: X.outer) := I.ok.frames.trans (congrArg some hstk)
  apply wpAny_Try_except
  let cat : Value → Shared → Prop := fun e t => wpAny (model X.prog X.w) X.A (noteFrame e X.env) (fun _ t2 => wpAny (model X.prog X.w) X.A (setFlight e none) (fun _ t3 =>
    wpAny (model X.prog X.w) X.A (handleBy e X.env [.ExceptHandler (some (.Name x np)) (some n) (st :: suite) pos']) (SP X pins D) X.xe t3) X.xe t2) X.xe t
  have takes : Takes (X.tr (X.pn ++ pins) cat) (wKeep X.K c i j D) := by
    intro u t hx
    obtain ⟨a, B, t0, pins1, σ1, H1, cls, d, hu, I0, nb, up, sky, nH, hos, gen, C, hcls, hdn, hm, fin⟩ := hx
    subst hu hcls hdn
    have I1 : Inv X pins σ1 H1 t0 := I0.ofTry I.ok
    have sky1 : Sky B (X.env :: X.outer) a (Zc (.ref C) none) X.env.locals t.heap := hstk ▸ sky
    show wpAny (model X.prog X.w) X.A (noteFrame (.ref a) X.env) _ _ _
    apply Sky.land Zc.steady fr hfrm sky1
    intro g1 fl1 up1
    have K1 : Inv X pins σ1 H1 { t with heap := g1 } := I1.landed nb fl1.1 (up.trans up1) hos gen
    obtain ⟨ob1, vs1, ge1, z1, dt1⟩ := fl1.there
    have notFrame : a ∉ frs (X.env :: X.outer) := by
      intro mem
      obtain ⟨_, o, e, nf⟩ := fl1.2.2.1.mem mem
      rw [ge1] at e; cases e
      exact nf _ dt1
    have nLoc : a ≠ X.env.locals := by
      intro z
      apply notFrame
      unfold frs
      rw [List.filterMap_cons, hfrm]
      exact z ▸ List.mem_cons_self
    have nFs : a ∉ X.fs := by
      intro mem
      apply notFrame
      unfold frs
      rw [List.filterMap_cons, hfrm]
      exact List.mem_cons_of_mem _ mem
    -- the record is younger than the entry
    have Bnone : B.get? a = none := fl1.2.1
    have young0 : t0.heap.get? a = none := by
      cases q : t0.heap.get? a with
      | none => rfl
      | some o =>
        have := nb a o q (by show a ∉ frs X.stack; rw [hstk]; exact notFrame)
        rw [Bnone] at this; cases this
    have young : X.s_0.heap.get? a = none := by
      cases q : X.s_0.heap.get? a with
      | none => rfl
      | some o =>
        obtain ⟨o', q'⟩ := I1.base.there a o q (by rw [hexs]; exact List.not_mem_nil)
        rw [young0] at q'; cases q'
    have pinNe : ∀ p ∈ X.pn ++ pins, p.1 ≠ a := by
      intro p hp z
      have := (I1.pin p hp).1
      rw [z, young0] at this; cases this
    have S1 := K1.suite ge1 dt1 nH nLoc nFs
    refine wpAny_handleBy_cons (codeAny_handlers_test ?_) (by intro q; cases q)
    have tyA : PySem.W.Looks (model X.prog X.w) g1 (typeOf (.ref a)) (.ref C) := fun A Q E s2 k q => wpAny_typeOf_ref (k _ _ ge1) (by rw [z1.1]; exact q)
    have hit := PySem.W.exm_one (M := model X.prog X.w) K1.kIn tyA hm
    have cls_val : ∀ {Q : Value → Shared → Prop} {E : Value → Shared → Prop}, Q c { t with heap := g1 } → wpAny (model X.prog X.w) (X.A.mark (some (.ref a))) (eval (.Name x np) X.env) Q E { t with heap := g1 } := by
      intro Q E q
      rcases hc with ⟨gl, dbg, m | ⟨m, bv, nn⟩⟩
      · exact ld_glob (X := X.suite a ((a, ob1) :: (X.pn ++ pins))) S1 gl m q dbg
      · exact ld_blt (X := X.suite a ((a, ob1) :: (X.pn ++ pins))) S1 gl m bv q nn dbg
    apply cls_val
    apply hit.here
    apply codeAny_handlers_suite_as
    apply HandSPX.lands_againZ fl1
    intro g2 fl2 up2
    have K2 : Inv X pins σ1 H1 { t with heap := g2 } := I1.landed nb fl2.1 ((up.trans up1).trans up2) hos gen
    obtain ⟨ob2, vs2, ge2, z2, dt2⟩ := fl2.there
    have S2 := K2.suite ge2 dt2 nH nLoc nFs
    refine store_ok (X := X.suite a ((a, ob2) :: (X.pn ++ pins))) (v := .ref a) S2 hN hi (.inl hln) rfl (fun s5 S5 => ?_) (.inr hln)
    have lenI : i < σ1.length := by rw [K2.len]; exact (List.getElem?_eq_some_iff.mp hi).1
    let De : Ends := { nx := fun σ6 H6 => σ6 = (σ1.set i (some (.ref a))).set j (some (.ref a)) ∧ H6 = H1, rt := fun _ _ => False }
    have want : tAsg (tVar i) (gName j) De (σ1.set i (some (.ref a))) H1 := ⟨.ref a, List.getElem?_set_self lenI, rfl, rfl⟩
    refine wpAny_mono ((hsu a ((a, ob2) :: (X.pn ++ pins))).run [] s5 _ H1 De S5 want) (fun f s6 hf => ?_) (fun _ _ z => False.elim z)
    cases f with
    | brk => obtain ⟨_, _, _, z⟩ := hf; exact z.elim
    | cont => obtain ⟨_, _, _, z⟩ := hf; exact z.elim
    | ret u => obtain ⟨_, _, _, _, _, z⟩ := hf; exact z.elim
    | next =>
      obtain ⟨σ6, H6, S6, rfl, rfl⟩ := hf
      have I6 : Inv X ((a, ob2) :: pins) ((σ1.set i (some (.ref a))).set j (some (.ref a))) H6 s6 := by
        have pin := S6.pin
        exact ⟨I.ok, S6.os, S6.bare, S6.base, S6.loc, S6.cell, S6.free, S6.freeC, fun p hp => pin p (by
          apply List.mem_append_left
          rcases List.mem_append.mp hp with z | z
          · exact List.mem_cons_of_mem _ (List.mem_append_left _ z)
          · rcases List.mem_cons.mp z with z | z
            · exact z ▸ List.mem_cons_self
            · exact List.mem_cons_of_mem _ (List.mem_append_right _ z)), S6.hok, S6.len⟩
      refine gone_ok (Q := fun _ s7 => SP X pins D .next s7) I6 hN hi hln fun s7 I7 => ?_
      have ge7 : s7.heap.get? a = some ob2 := (I7.pin (a, ob2) (List.mem_append_right _ List.mem_cons_self)).1
      let φ : Heap → Prop := fun g => PySem.W.InstAt g a ob2 C none
      have inst : ∀ g : Heap, g.get? a = some ob2 → φ g := by
        intro g e
        obtain ⟨oc, od, oda, osl⟩ := ob2
        obtain ⟨h1, h2⟩ := z2
        dsimp only at h1 h2 dt2
        subst h1 h2 dt2
        exact ⟨e, rfl, rfl, trivial⟩
      have get_of : ∀ g : Heap, φ g → g.get? a = some ob2 := fun g q => q.1
      have I8 := inv_track (φ := φ) I7 young ⟨_, dt2⟩ pinNe (inst _ ge7) fun g g' q k => inst g' (k _ (get_of g q))
      exact ⟨_, _, I8, fin a φ nH fun g q => ⟨ob2, q⟩⟩
  refine wpAny_mono ((hb _ (X.pn ++ pins) cat takes PassesOwn.looking).run [] s σ H D (I.toTry _) h) (fun f s1 hf => ?_) (fun _ _ q => q)
  cases f with
  | next => obtain ⟨σ1, H1, I1, q⟩ := hf; exact wpAny_execs_nil ⟨σ1, H1, I1.ofTry I.ok, q⟩
  | brk => obtain ⟨σ1, H1, I1, q⟩ := hf; exact ⟨σ1, H1, I1.ofTry I.ok, q⟩
  | cont => obtain ⟨σ1, H1, I1, q⟩ := hf; exact ⟨σ1, H1, I1.ofTry I.ok, q⟩
  | ret u => obtain ⟨v, σ1, H1, I1, r, q⟩ := hf; exact ⟨v, σ1, H1, I1.ofTry I.ok, r, q⟩
end
section
variable {X : Cx} {W : WX} {rb : DS}
/-- a body whose errors of the classes in good are kept at slot j; slot i is the clause's own name -/
def sTry (good : Addr → Prop) (i j : Nat) (rb : DS) : DS := fun D M => rb { D with xr := fun C M' => good C ∧ M'.canSet j = true ∧ M'.canSet i = true ∧ D.nx ((M'.set j (.va (.exc C))).set i .un) } M
theorem s_try {good : Addr → Prop} {x n : Str} {c : Value} {i j : Nat} {body suite : List Stmt} {st : Stmt} {np pos pos' : Pos} (hex : ∀ C, good C → PySem.W.exmOne X.K (.ref C) c = some true) (hN : X.N.Nodup) (hc : Names X x c)
    (hb : ∀ (W : WX) (pn : List (Addr × Obj)) (xe : Value → Shared → Prop), Takes (X.tr pn xe) W → PassesOwn (model X.prog X.w) X.A X.env xe → PSs (X.tr pn xe) body (liftS X.K W rb))
    (hsu : ∀ (a : Addr) (pn : List (Addr × Obj)), PSs (X.suite a pn) (st :: suite) (tAsg (tVar i) (gName j)))
    (hi : X.N[i]? = some n := by rfl) (hij : i ≠ j := by decide) (hln : X.env.kindOf n = some .local := by rfl) (hstk : X.stack = X.env :: X.outer := by rfl) (hfrm : X.env.frame = some X.env.locals := by rfl) (hexs : X.ex = [] := by rfl) :
    PS X (.Try body [.ExceptHandler (some (.Name x np)) (some n) (st :: suite) pos'] [] [] pos) (liftS X.K W (sTry good i j rb)) :=
  psW (try_keep hstk hfrm hexs hN hi hij hln hc hb hsu) fun D σ H ⟨fx, M, F, D0, sr, he, h1, h2, h3, h4, h5⟩ =>
    ⟨fx, M, F, _, sr, he, h1, h2, h3, h4, fun C M' σ' F' H' q s sr' => (by
      obtain ⟨gC, cj, ci, q⟩ := q
      refine ⟨C, rfl, rfl, hex C gC, fun a φ hn hφ => ?_⟩
      obtain ⟨sr2, s2⟩ := sr'.learn (o := .ext φ) hn
      obtain ⟨sj, ej, nj⟩ := canSet_iff cj
      obtain ⟨si, ei, ni⟩ := canSet_iff ci
      have p : Rp X.K (upd F' a (.ext φ)) (upd H' a (.ext φ)) (.exc C) (.ref a) [] := .exc C ⟨φ, upd_same, hφ⟩
      have sr3 := (sr2.push p).setVa ej nj
      have pl : plainS (M'.set j (.va (.exc C))) i = true := by
        unfold plainS
        rw [List.getElem?_set_ne (Ne.symm hij), ei]
        simp [ni]
      have sr4 := sr3.wipe (is := [i]) (by simpa using pl)
      have e1 : L2.wipe (σ'.set j (some (V.ref a))) [i] = ((σ'.set i (some (.ref a))).set j (some (.ref a))).set i none := by
        show (σ'.set j (some (V.ref a))).set i none = _
        apply List.ext_getElem?
        intro k
        by_cases hk : k = i
        · subst hk
          by_cases hl : k < σ'.length
          · rw [List.getElem?_set_self (by simpa using hl), List.getElem?_set_self (by simpa using hl)]
          · rw [List.getElem?_eq_none (by simpa using hl), List.getElem?_eq_none (by simpa using hl)]
        · rw [List.getElem?_set_ne (Ne.symm hk), List.getElem?_set_ne (Ne.symm hk)]
          by_cases hk2 : k = j
          · subst hk2
            by_cases hl : k < σ'.length
            · rw [List.getElem?_set_self hl, List.getElem?_set_self (by simpa using hl)]
            · rw [List.getElem?_eq_none (by simpa using hl), List.getElem?_eq_none (by simpa using hl)]
          · rw [List.getElem?_set_ne (Ne.symm hk2), List.getElem?_set_ne (Ne.symm hk2), List.getElem?_set_ne (Ne.symm hk)]
      rw [e1] at sr4
      exact h1 _ _ _ _ q (s.trans s2) sr4)⟩
end
end TL
namespace TL
open PySem PyProof.Rows L2

section
variable {K : PySem.W.Frag} {F F' H H' : Hp} {fx : Fx} {M : MS} {L L' : List (V × D)} {σ : L2.St}
theorem SR.pushAll (h : SR K fx M L σ F H) : ∀ {ds : List D} {vs : List V}, Rps K F H ds vs [] → SR K fx M (vs.zip ds ++ L) σ F H
  | [], _, r => by cases r; exact h
  | d :: ds, _, r => by
    generalize hz : ([] : List Addr) = z at r
    cases r with
    | @cons _ v f g _ vs p q =>
      obtain ⟨rfl, rfl⟩ := List.append_eq_nil_iff.mp hz.symm
      exact (SR.pushAll h q).push p
theorem SR.ownOf (h : SR K fx M L σ F H) {ds : List D} {vs : List V} (r : Rps K F H ds vs []) {p : Addr} (n : H p = none) : SR K fx M ((.ref p, .own ds) :: L) σ F (upd H p (.lst vs)) :=
  (h.pushAll r).ownNew r.len.symm n
theorem Rps.cut : ∀ {l : List D} {vs : List V} (n m : Nat), Rps K F H l vs [] → Rps K F H ((l.drop n).take m) ((vs.drop n).take m) []
  | [], _, n, m, h => by cases h; simp; exact .nil
  | d :: l, _, n, m, h => by
    generalize hz : ([] : List Addr) = z at h
    cases h with
    | @cons _ v f g _ vs p q =>
      obtain ⟨rfl, rfl⟩ := List.append_eq_nil_iff.mp hz.symm
      cases n with
      | succ n => simpa using Rps.cut n m q
      | zero =>
        cases m with
        | zero => simp; exact .nil
        | succ m =>
          have := Rps.cut 0 m q
          simp only [List.drop_zero, List.take_succ_cons] at this ⊢
          exact .cons (f := []) p this
end

section
variable {X : Cx} {W : WX} {a b c e : Expr} {pos : Pos} {ea eb ec : DE} {es : List Expr} {st : Stmt} {rest : List Stmt} {ra rb : DS} {ta : DT}

/-- the items of a list, one's own or not -/
def lsD (d : D) (k : List D → Prop) : Prop := match d with
  | .lst l => k l
  | .own l => k l
  | _ => False
theorem lsD_ok {K : PySem.W.Frag} {F H : Hp} {d : D} {v : V} {f : List Addr} {k : List D → Prop} (s : Same F H) (p : Rp K F H d v f) (h : lsD d k) : ∃ l a vs g, k l ∧ v = .ref a ∧ H a = some (.lst vs) ∧ Rps K F H l vs g := by
  cases p <;> try (exact h.elim)
  · rename_i q r; exact ⟨_, _, _, _, h, rfl, s _ _ q, r⟩
  · rename_i q e r; exact ⟨_, _, _, _, h, rfl, e, r⟩
/-! ### + of lists -/
def dCat (ea eb : DE) : DE := fun M Q E => ea M (fun x M1 => eb M1 (fun y M2 => lsD x fun l => lsD y fun m => D.noOwns l = true ∧ D.noOwns m = true ∧ l.length + m.length ≤ 10000 ∧ Q (.own (l ++ m)) M2) E) E
theorem d_cat (ha : PE X a (liftE X.K W (ea))) (hb : PE X b (liftE X.K W (eb))) : PE X (.BinOp a .Add b pos) (liftE X.K W (dCat ea eb)) := peW (pe_op op_cat ha hb) fun σ H Q ⟨fx, M, L, F, Q0, E0, sr, he, hq, hx⟩ =>
  ⟨fx, M, L, F, _, E0, sr, he, fun x M1 v F1 H1 q1 s1 sr1 => ⟨fx, M1, _, F1, _, E0, sr1, q1, fun y M2 w F2 H2 q2 s2 sr2 => (by
    obtain ⟨f, p⟩ := sr2.top
    obtain ⟨g, p'⟩ := sr2.pop.top
    obtain ⟨l, a1, vs, g1, q3, rfl, hH1, r1⟩ := lsD_ok sr2.sub p' q2
    obtain ⟨m, a2, ws, g2, q4, rfl, hH2, r2⟩ := lsD_ok sr2.sub p q3
    obtain ⟨n1, n2, hl, q5⟩ := q4
    rw [Rps.clean _ _ _ n1 r1] at r1
    rw [Rps.clean _ _ _ n2 r2] at r2
    have e1 := r1.len
    have e2 := r2.len
    refine ⟨a1, a2, vs, ws, rfl, rfl, hH1, hH2, by rw [sizeLine_eq]; omega, fun p hp => ?_⟩
    exact hq _ M2 _ F2 _ q5 (s1.trans s2) (sr2.pop.pop.ownOf (r1.append r2) hp)), fun C M' F' H' z s sr' => hx C M' F' H' z (s1.trans s) sr'.pop⟩, hx⟩
/-! ### list(x) -/
def seqItems (d : D) (k : List D → Prop) : Prop := match d with
  | .lst l => k l
  | .own l => k l
  | .tup l => k l
  | .scr ns => k (ns.map .int)
  | _ => False
theorem rps_ints {K : PySem.W.Frag} {F H : Hp} : ∀ ns : List Int, Rps K F H (ns.map D.int) (ns.map V.int) []
  | [] => .nil
  | n :: ns => .cons (f := []) (.int n) (rps_ints ns)
theorem seqItems_ok {K : PySem.W.Frag} {F H : Hp} {d : D} {v : V} {f : List Addr} {k : List D → Prop} (s : Same F H) (p : Rp K F H d v f) (h : seqItems d k) : ∃ l a vs g, k l ∧ v = .ref a ∧ (SqL K H a vs ∨ SqT K H a vs) ∧ Rps K F H l vs g := by
  cases p <;> try (exact h.elim)
  · rename_i q; exact ⟨_, _, _, _, h, rfl, .inl (s.seq q), rps_ints _⟩
  · rename_i q r; exact ⟨_, _, _, _, h, rfl, .inr (Same.sqT s q), r⟩
  · rename_i q r; exact ⟨_, _, _, _, h, rfl, .inl (SqL.of (s _ _ q)), r⟩
  · rename_i q e r; exact ⟨_, _, _, _, h, rfl, .inl (SqL.of e), r⟩
def dList (ea : DE) : DE := fun M Q E => ea M (fun x M1 => seqItems x fun l => D.noOwns l = true ∧ Q (.own l) M1) E
theorem d_list {r : List V → Hp → VK → Prop} (hr : r = fun xs H Q => ∃ p ys, xs = [.ref p] ∧ (SqL X.K H p ys ∨ SqT X.K H p ys) ∧ ∀ l, H l = none → Q (.ref l) (upd H l (.lst ys))) (h : PE X e (tCB r (tCons (liftB X.K W ea) tNil))) : PE X e (liftE X.K W (dList ea)) :=
  peW h fun σ H Q ⟨fx, M, L, F, Q0, E0, sr, he, hq, hx⟩ => ⟨fx, M, L, F, _, E0, sr, he, fun d M1 v f F1 H1 q1 s1 sr1 p => (by
    obtain ⟨l, a, vs, g, ⟨n, q2⟩, rfl, hs, rr⟩ := seqItems_ok sr1.sub p q1
    rw [Rps.clean _ _ _ n rr] at rr
    show r [V.ref a] H1 Q
    rw [hr]
    exact ⟨a, vs, rfl, hs, fun p hp => hq _ M1 _ F1 _ q2 s1 (sr1.ownOf rr hp)⟩), hx⟩
/-! ### slices of lists -/
def cutD (l : List D) (lo hi : Option Int) : List D := (l.drop (HT.sIx l.length 0 lo)).take (HT.sIx l.length l.length hi - HT.sIx l.length 0 lo)
abbrev DO := MS → (Option Int → MS → Prop) → DX → Prop
def liftO (K : PySem.W.Frag) (W : WX) (o : DO) : TO := fun σ H Q => ∃ fx M L F Q0 E0, SR K fx M L σ F H ∧ o M Q0 E0 ∧ (∀ i M' F' H', Q0 i M' → Same F F' → SR K fx M' L σ F' H' → Q i H') ∧
  ∀ C M' F' H', E0 C M' → Same F F' → SR K fx M' L σ F' H' → W (.ref C) none σ H'
theorem poW {e : Option Expr} {t t' : TO} (h : PO X e t) (w : ∀ σ H Q, t' σ H Q → t σ H Q) : PO X e t' := ⟨fun pins s σ H Q I q => h.run pins s σ H Q I (w σ H Q q)⟩
def oNone : DO := fun M Q _ => Q none M
def oSome (ea : DE) : DO := fun M Q E => ea M (fun d M1 => asI d fun i => Q (some i) M1) E
theorem o_none : PO X none (liftO X.K W oNone) := poW po_none fun σ H Q ⟨fx, M, L, F, Q0, E0, sr, he, hq, hx⟩ => hq none M F H he (Same.refl _) sr
theorem o_some (h : PE X e (liftE X.K W (ea))) : PO X (some e) (liftO X.K W (oSome ea)) := poW (po_some h) fun σ H Q ⟨fx, M, L, F, Q0, E0, sr, he, hq, hx⟩ =>
  ⟨fx, M, L, F, _, E0, sr, he, fun d M1 v F1 H1 q1 s1 sr1 => (by
    obtain ⟨i, rfl, q2⟩ := asI_iff.mp q1
    have := sr1.int; subst this
    exact ⟨i, rfl, hq _ M1 F1 H1 q2 s1 sr1.pop⟩), hx⟩
/-- of what slot i holds -/
def dSlS (i : Nat) (lo hi : DO) : DE := fun M Q E => getO (M.at i) fun _ => lo M (fun x M1 => hi M1 (fun y M2 => getO (M2.at i) fun d => seqL d fun l => D.noOwns l = true ∧ Q (.own (cutD l x y)) M2) E) E
where seqL (d : D) (k : List D → Prop) : Prop := match d with
  | .lst l => k l
  | .own l => k l
  | .scr ns => k (ns.map .int)
  | _ => False
def dSl (ea : DE) (lo hi : DO) : DE := fun M Q E => ea M (fun d M0 => lo M0 (fun x M1 => hi M1 (fun y M2 => dSlS.seqL d fun l => D.noOwns l = true ∧ Q (.own (cutD l x y)) M2) E) E) E
theorem seqL_ok {K : PySem.W.Frag} {F H : Hp} {d : D} {v : V} {f : List Addr} {k : List D → Prop} (s : Same F H) (p : Rp K F H d v f) (h : dSlS.seqL d k) : ∃ l a vs g, k l ∧ v = .ref a ∧ SqL K H a vs ∧ Rps K F H l vs g := by
  cases p <;> try (exact h.elim)
  · rename_i q; exact ⟨_, _, _, _, h, rfl, s.seq q, rps_ints _⟩
  · rename_i q r; exact ⟨_, _, _, _, h, rfl, SqL.of (s _ _ q), r⟩
  · rename_i q e r; exact ⟨_, _, _, _, h, rfl, SqL.of e, r⟩
variable {lo hi : Option Expr} {ol oh : DO} {p2 : Pos}
theorem d_slS {i : Nat} (h : PE X e (tSl (rSlL X.K) (tVar i) (liftO X.K W ol) (liftO X.K W oh))) : PE X e (liftE X.K W (dSlS i ol oh)) := peW h fun σ H Q ⟨fx, M, L, F, Q0, E0, sr, he, hq, hx⟩ => by
  obtain ⟨d0, hd0, he⟩ := getO_iff.mp he
  obtain ⟨v, f0, hv, _⟩ := sr.at (ms_at.mp hd0)
  refine ⟨v, hv, fx, M, L, F, _, E0, sr, he, fun x M1 F1 H1 q1 s1 sr1 => ⟨fx, M1, L, F1, _, E0, sr1, q1, fun y M2 F2 H2 q2 s2 sr2 => ?_, fun C M' F' H' z s sr' => hx C M' F' H' z (s1.trans s) sr'⟩, hx⟩
  obtain ⟨d, hd, q3⟩ := getO_iff.mp q2
  obtain ⟨v', f, hv', p⟩ := sr2.at (ms_at.mp hd)
  rw [hv] at hv'; cases hv'
  obtain ⟨l, a, vs, g, ⟨n, q4⟩, rfl, hs, rr⟩ := seqL_ok sr2.sub p q3
  rw [Rps.clean _ _ _ n rr] at rr
  refine ⟨a, vs, rfl, hs, fun p hp => ?_⟩
  have el : cutV vs x y = (vs.drop (HT.sIx l.length 0 x)).take (HT.sIx l.length l.length y - HT.sIx l.length 0 x) := by unfold cutV; rw [rr.len]
  have r2 : Rps X.K F2 H2 (cutD l x y) (cutV vs x y) [] := by rw [el]; exact rr.cut _ _
  exact hq _ M2 _ F2 _ q4 (s1.trans s2) (sr2.ownOf r2 hp)
theorem d_sl (h : PE X e (tSl (rSlL X.K) (liftE X.K W (ea)) (liftO X.K W ol) (liftO X.K W oh))) : PE X e (liftE X.K W (dSl ea ol oh)) := peW h fun σ H Q ⟨fx, M, L, F, Q0, E0, sr, he, hq, hx⟩ => by
  refine ⟨fx, M, L, F, _, E0, sr, he, fun d M0 v F0 H0 q0 s0 sr0 => ⟨fx, M0, _, F0, _, E0, sr0, q0, fun x M1 F1 H1 q1 s1 sr1 => ⟨fx, M1, _, F1, _, E0, sr1, q1, fun y M2 F2 H2 q2 s2 sr2 => ?_, fun C M' F' H' z s sr' => hx C M' F' H' z (s0.trans (s1.trans s)) sr'.pop⟩, fun C M' F' H' z s sr' => hx C M' F' H' z (s0.trans s) sr'.pop⟩, hx⟩
  obtain ⟨f, p⟩ := sr2.top
  obtain ⟨l, a, vs, g, ⟨n, q4⟩, rfl, hs, rr⟩ := seqL_ok sr2.sub p q2
  rw [Rps.clean _ _ _ n rr] at rr
  refine ⟨a, vs, rfl, hs, fun p hp => ?_⟩
  have el : cutV vs x y = (vs.drop (HT.sIx l.length 0 x)).take (HT.sIx l.length l.length y - HT.sIx l.length 0 x) := by unfold cutV; rw [rr.len]
  have r2 : Rps X.K F2 H2 (cutD l x y) (cutV vs x y) [] := by rw [el]; exact rr.cut _ _
  exact hq _ M2 _ F2 _ q4 (s0.trans (s1.trans s2)) (sr2.pop.ownOf r2 hp)
/-! ### all, sum -/
def asBls : List D → Option (List Bool)
  | [] => some []
  | .bl b :: l => (asBls l).map (b :: ·)
  | _ => none
def asInts : List D → Option (List Int)
  | [] => some []
  | .int b :: l => (asInts l).map (b :: ·)
  | _ => none
theorem asBls_ok {K : PySem.W.Frag} {F H : Hp} : ∀ {l : List D} {vs : List V} {f : List Addr} {bs : List Bool}, Rps K F H l vs f → asBls l = some bs → vs = bs.map V.bl
  | [], _, _, _, h, e => by cases h; simp [asBls] at e; subst e; rfl
  | d :: l, _, _, bs, h, e => by
    cases h with
    | cons p q =>
      cases d <;> simp [asBls] at e
      obtain ⟨cs, e1, rfl⟩ := e
      cases p
      rw [asBls_ok q e1]; rfl
theorem asInts_ok {K : PySem.W.Frag} {F H : Hp} : ∀ {l : List D} {vs : List V} {f : List Addr} {bs : List Int}, Rps K F H l vs f → asInts l = some bs → vs = bs.map V.int
  | [], _, _, _, h, e => by cases h; simp [asInts] at e; subst e; rfl
  | d :: l, _, _, bs, h, e => by
    cases h with
    | cons p q =>
      cases d <;> simp [asInts] at e
      obtain ⟨cs, e1, rfl⟩ := e
      cases p
      rw [asInts_ok q e1]; rfl
def gAll : D → (D → Prop) → Prop := fun d k => lsD d fun l => getO (asBls l) fun bs => k (.bl (bs.all id))
def gSum : D → (D → Prop) → Prop := fun d k => lsD d fun l => getO (asInts l) fun bs => k (.int bs.sum)
theorem cal_all : Cal1 X (rAll X.K) gAll := fun {F H d v f k} s p h => by
  obtain ⟨l, a, vs, g, h, rfl, hH, r⟩ := lsD_ok s p h
  obtain ⟨bs, hb, h⟩ := getO_iff.mp h
  have := asBls_ok r hb
  subst this
  exact ⟨_, _, h, .bl _, fun Q q => ⟨a, bs, rfl, SqL.of hH, q⟩⟩
theorem cal_sum : Cal1 X (rSum X.K) gSum := fun {F H d v f k} s p h => by
  obtain ⟨l, a, vs, g, h, rfl, hH, r⟩ := lsD_ok s p h
  obtain ⟨bs, hb, h⟩ := getO_iff.mp h
  have := asInts_ok r hb
  subst this
  exact ⟨_, _, h, .int _, fun Q q => ⟨a, bs, rfl, SqL.of hH, q⟩⟩
theorem d_all {p : Pos} (hc : X.calm = true) (hm : X.mg "all" = none) (ha : PE X e (liftB X.K W ea)) (hg : Gl X "all" := by rfl) (he : starEach [e] X.env = [(false, eval e X.env)] := by rfl) : PE X (.Call (.Name "all" p) [e] [] pos) (liftE X.K W (dCal1 gAll ea)) :=
  d_cal1 (cr_all hc) cal_all hg hm (by decide +kernel) ha (by decide) (by decide) he
theorem d_sum {p : Pos} (hc : X.calm = true) (hm : X.mg "sum" = none) (ha : PE X e (liftB X.K W ea)) (hg : Gl X "sum" := by rfl) (he : starEach [e] X.env = [(false, eval e X.env)] := by rfl) : PE X (.Call (.Name "sum" p) [e] [] pos) (liftE X.K W (dCal1 gSum ea)) :=
  d_cal1 (cr_sum hc) cal_sum hg hm (by decide +kernel) ha (by decide) (by decide) he
end

/-! ### contracts by name -/
/-- what the top has left of a def -/
def DefAt (K : PySem.W.Frag) (mg : Str → Option Value) (x : Str) (st : Stmt) (ps : List Str) : Prop := ∃ a fd, Fun K x x st a fd ∧ mg x = some (.ref a) ∧ Binds K fd ps []
structure Cal (P : Program) (w : World) (K : PySem.W.Frag) (mg : Str → Option Value) (base : Heap) (k n : Nat) (x : Str) (T : Spec) : Prop where
  ex : ∃ a fd ps, FnG P w K mg base (L2.CX P w) k a fd ps (spOf K n T) ∧ mg x = some (.ref a) ∧ PySem.W.keepIn K (.ref a) = true ∧ Binds K fd ps []
section
variable {P : Program} {w : World} {K : PySem.W.Frag} {mg : Str → Option Value} {base : Heap}
theorem cal_ok {x : Str} {st : Stmt} {N ps : List Str} {k n m : Nat} {T : Spec} {r : DS} (D : DefAt K mg x st ps) (S : FnScope N ps (defScope st)) (hn : ps.length = n) (hm : N.length = n + m)
    (deriv : ∀ (f : Addr) (cdv : Value) (A : Around) (outer : List Env) (s : Shared) (H : Hp) (E : XK), RmG k (A.deeper (envOfC x (defScope st) s.heap.objs.size f cdv)) →
      PSs (cxOf (L2.CX P w) P w K mg base N x (defScope st) f cdv A outer s H E) (defBody st) (liftS K (fun cls d _ H => E cls d H) r))
    (law : ∀ as Q E, T as Q E → r (endsOf Q E) (as ++ List.replicate m .un)) : Cal P w K mg base (k + 1) n x T := by
  obtain ⟨a, fd, F, g, b⟩ := D
  exact ⟨a, fd, ps, fn_ok F S hn hm (fun cdv A outer s H E hr => deriv a cdv A outer s H E hr) (fun as Q E _ _ h => law as Q E h), g, F.kp, b⟩
end
section
variable {X : Cx} {W : WX} {pos p : Pos} {e : Expr} {es : List Expr} {cs : DC}
theorem d_cl {k k' n : Nat} {T : Spec} {x : Str} (G : Cal X.prog X.w X.K X.mg X.base k n x T) (tk : Takes X W) (hr : RmG k' X.A) (ha : PA X (e :: es) (liftC X.K W cs)) (hk : k ≤ k' := by decide)
    (hg : Gl X x := by rfl) (hdb : (x == ("__debug__" : Str)) = false := by decide) (he : starEach (e :: es) X.env = (false, eval e X.env) :: starEach es X.env := by rfl) (hpl : (backTo pos (starEach es X.env)).any (·.1) = false := by rfl) :
    PE X (.Call (.Name x p) (e :: es) [] pos) (liftE X.K W (dCall n T cs)) := by
  obtain ⟨a, fd, ps, F, g, kp, b⟩ := G.ex
  exact d_call F tk (hr.mono hk) g kp b ha hg hdb he hpl
theorem tk_fn {P : Program} {w : World} {K : PySem.W.Frag} {mg : Str → Option Value} {base : Heap} {N : List Str} {q : String} {sc : Scope} {f : Addr} {cd : Value} {A : Around} {outer : List Env} {s : Shared} {H : Hp} {E : XK} :
    Takes (cxOf (L2.CX P w) P w K mg base N q sc f cd A outer s H E) (fun cls d _ H => E cls d H) := takes_of rfl rfl rfl rfl
theorem po_fn {P : Program} {w : World} {K : PySem.W.Frag} {mg : Str → Option Value} {base : Heap} {N : List Str} {q : String} {sc : Scope} {f : Addr} {cd : Value} {A : Around} {outer : List Env} {s : Shared} {H : Hp} {E : XK} :
    PassesOwn (model P w) (A.deeper (envOfC q sc s.heap.objs.size f cd)) (cxOf (L2.CX P w) P w K mg base N q sc f cd A outer s H E).env (cxOf (L2.CX P w) P w K mg base N q sc f cd A outer s H E).xe := passes_of rfl
end

/-! ### own classes of errors: names, their addresses; the first one stands above the others -/
structure Er (K : PySem.W.Frag) (mg : Str → Option Value) (names : List Str) (cl : Nat → Addr) : Prop where
  gl : ∀ j x, names[j]? = some x → mg x = some (.ref (cl j))
  kp : ∀ j, j < names.length → PySem.W.keepIn K (.ref (cl j)) = true
  ex : ∀ j, j < names.length → PySem.W.excIn K (cl j) [.type "ValueError", .type "Exception", .type "BaseException", .type "object"] "ValueError.__new__" = true
  ty : ∀ j, j < names.length → PySem.W.typeIn K (.ref (cl j)) = some (.type "type")
  ec : ∀ j, j < names.length → ExcC K (cl j)
  kit : ∀ i j, i < names.length → j < names.length → PySem.W.kitOne K (.ref (cl i)) (.ref (cl j)) = some (j == 0 || i == j)
  kitV : ∀ i, i < names.length → PySem.W.kitOne K (.ref (cl i)) (.type "ValueError") = some true
  no : ∀ T ∈ ["NoneType", "bool", "int", "str", "tuple", "list"], ∀ j, j < names.length → PySem.W.kitOne K (.type T) (.ref (cl j)) = some false
  inj : ∀ i j, i < names.length → j < names.length → cl i = cl j → i = j
  exm : ∀ i, i < names.length → PySem.W.exmOne K (.ref (cl i)) (.ref (cl 0)) = some true
  vE : mg "ValueError" = none
def goodE (names : List Str) (cl : Nat → Addr) : Addr → Prop := fun C => ∃ i, i < names.length ∧ C = cl i
def subE (names : List Str) (cl : Nat → Addr) (j : Nat) : Addr → Bool := fun C => j == 0 || decide (C = cl j)
section
variable {K : PySem.W.Frag} {mg : Str → Option Value} {names : List Str} {cl : Nat → Addr}
theorem Er.sub (E : Er K mg names cl) {i j : Nat} (hi : i < names.length) (hj : j < names.length) : subE names cl j (cl i) = (j == 0 || i == j) := by
  unfold subE
  congr 1
  by_cases h : i = j
  · subst h; simp
  · rw [decide_eq_false (fun z => h (E.inj i j hi hj z))]
    exact (beq_eq_false_iff_ne.mpr h).symm
theorem Er.kitJ (E : Er K mg names cl) {j : Nat} (hj : j < names.length) : ExKit K (.ref (cl j)) (goodE names cl) (subE names cl j) where
  no := fun T hT => E.no T hT j hj
  ex := fun C ⟨i, hi, e⟩ => by subst e; exact ⟨E.ec i hi, by rw [E.kit i j hi hj, E.sub hi hj]⟩
theorem Er.kitVE (E : Er K mg names cl) : ExKit K (.type "ValueError") (goodE names cl) (fun _ => true) where
  no := fun T hT => by
    simp only [List.mem_cons, List.not_mem_nil, or_false] at hT
    rcases hT with rfl | rfl | rfl | rfl | rfl | rfl <;> exact kit_ty (by decide +kernel)
  ex := fun C ⟨i, hi, e⟩ => by subst e; exact ⟨E.ec i hi, E.kitV i hi⟩
theorem Er.exmG (E : Er K mg names cl) (C : Addr) (h : goodE names cl C) : PySem.W.exmOne K (.ref C) (.ref (cl 0)) = some true := by
  obtain ⟨i, hi, e⟩ := h
  subst e
  exact E.exm i hi
end
section
variable {X : Cx} {W : WX} {a b c e : Expr} {pos : Pos} {ea eb ec : DE} {es : List Expr} {names : List Str} {cl : Nat → Addr}
/-- isinstance(e, the j-th class) -/
theorem d_isJ (E : Er X.K X.mg names cl) (j : Nat) {x : Str} {p p2 : Pos} (hj : names[j]? = some x) (hm : X.mg "isinstance" = none) (ha : PE X a (liftB X.K W ea)) (hg : Gl X "isinstance" := by rfl) (hg2 : Gl X x := by rfl) (hdb : (x == ("__debug__" : Str)) = false := by decide)
    (he : starEach [a, .Name x p2] X.env = [(false, eval a X.env), (false, eval (.Name x p2) X.env)] := by rfl) (he2 : starEach [.Name x p2] X.env = [(false, eval (.Name x p2) X.env)] := by rfl) :
    PE X (.Call (.Name "isinstance" p) [a, .Name x p2] [] pos) (liftE X.K W (dIsE (goodE names cl) (subE names cl j) ea)) :=
  d_isE (E.kitJ (List.getElem?_eq_some_iff.mp hj).1) hm (pe_glob (v := .ref (cl j)) hg2 (E.gl j x hj) rfl hdb) (.own _) ha hg he he2
theorem d_isVE (E : Er X.K X.mg names cl) {p p2 : Pos} (hm : X.mg "isinstance" = none) (ha : PE X a (liftB X.K W ea)) (hg : Gl X "isinstance" := by rfl) (hg2 : Gl X "ValueError" := by rfl)
    (he : starEach [a, .Name "ValueError" p2] X.env = [(false, eval a X.env), (false, eval (.Name "ValueError" p2) X.env)] := by rfl) (he2 : starEach [.Name "ValueError" p2] X.env = [(false, eval (.Name "ValueError" p2) X.env)] := by rfl) :
    PE X (.Call (.Name "isinstance" p) [a, .Name "ValueError" p2] [] pos) (liftE X.K W (dIsE (goodE names cl) (fun _ => true) ea)) :=
  d_isE E.kitVE hm (pe_bltn (v := .ty "ValueError") hg2 E.vE (by decide +kernel) rfl) (.ty _) ha hg he he2
/-- raise C("..") -/
theorem s_raiseJ (E : Er X.K X.mg names cl) (j : Nat) {x m : Str} {i : Nat} {p p2 pos2 : Pos} (tk : Takes X W) (hj : names[j]? = some x) (hc : X.calm = true := by rfl) (hg : Gl X x := by rfl) (hdb : (x == ("__debug__" : Str)) = false := by decide) :
    PS X (.Raise (some (.Call (.Name x p) [.Constant (.str m) i p2] [] pos)) none pos2) (liftS X.K W (sRaise (cl j))) := by
  have hl := (List.getElem?_eq_some_iff.mp hj).1
  exact s_raise (ps_raise hc tk (pmk_own PySem.F.excBase_ValueError (E.ex j hl) (E.gl j x hj) (E.kp j hl) (raises_own (E.ec j hl).hs (E.ty j hl)) hg hdb)) fun σ H Q h => h
end
/-- what built-in names the top leaves alone -/
structure Bl (mg : Str → Option Value) : Prop where
  len : mg "len" = none
  abs : mg "abs" = none
  int : mg "int" = none
  str : mg "str" = none
  bool : mg "bool" = none
  list : mg "list" = none
  tuple : mg "tuple" = none
  range : mg "range" = none
  zip : mg "zip" = none
  enumerate : mg "enumerate" = none
  isinstance : mg "isinstance" = none
  all : mg "all" = none
  sum : mg "sum" = none
  max : mg "max" = none
  min : mg "min" = none
  sorted : mg "sorted" = none
  set : mg "set" = none
end TL
/-! Facts about readings, and plain facts about numbers. -/
namespace TL
open PySem PyProof.Rows L2

theorem asI_int (i : Int) (k : Int → Prop) : asI (.int i) k = k i := rfl
theorem asB_bl (i : Bool) (k : Bool → Prop) : asB (.bl i) k = k i := rfl
theorem asStr_str (i : Str) (k : Str → Prop) : asStr (.str i) k = k i := rfl
theorem asTup_tup (l : List D) (k : List D → Prop) : asTup (.tup l) k = k l := rfl
theorem getO_some {α : Type} (a : α) (k : α → Prop) : getO (some a) k = k a := rfl
theorem getO_none {α : Type} (k : α → Prop) : getO none k = False := rfl
theorem ixD_tup (l : List D) (j : Int) (k : D → Prop) : ixD (.tup l) j k = getO (ixl l j) k := rfl
theorem ixD_lst (l : List D) (j : Int) (k : D → Prop) : ixD (.lst l) j k = getO (ixl l j) k := rfl
theorem ixD_own (l : List D) (j : Int) (k : D → Prop) : ixD (.own l) j k = getO (ixl l j) k := rfl
theorem ixD_scr (l : List Int) (j : Int) (k : D → Prop) : ixD (.scr l) j k = getO (ixl l j) fun n => k (.int n) := rfl
theorem noOwn_tup (l : List D) : D.noOwn (.tup l) = D.noOwns l := rfl
theorem noOwn_lst (l : List D) : D.noOwn (.lst l) = true := rfl
theorem noOwns_nil : D.noOwns [] = true := rfl
theorem noOwns_cons (d : D) (l : List D) : D.noOwns (d :: l) = (d.noOwn && D.noOwns l) := rfl
theorem frz_tup (l : List D) : D.frz (.tup l) = .tup (D.frzs l) := rfl
theorem frz_lst (l : List D) : D.frz (.lst l) = .lst l := rfl
theorem frz_own (l : List D) : D.frz (.own l) = .lst (D.frzs l) := rfl
theorem frzs_nil : D.frzs [] = [] := rfl
theorem frzs_cons (d : D) (l : List D) : D.frzs (d :: l) = d.frz :: D.frzs l := rfl
mutual
theorem frz_of : ∀ d : D, d.noOwn = true → d.frz = d
  | .non, _ => rfl
  | .bl _, _ => rfl
  | .int _, _ => rfl
  | .str _, _ => rfl
  | .cls _, _ => rfl
  | .ty _, _ => rfl
  | .exc _, _ => rfl
  | .scr _, _ => rfl
  | .lst _, _ => rfl
  | .own _, h => by cases h
  | .obj _ _ _, h => by cases h
  | .fob _ _ _, _ => rfl
  | .tup l, h => by rw [frz_tup, frzs_of l h]
theorem frzs_of : ∀ l : List D, D.noOwns l = true → D.frzs l = l
  | [], _ => rfl
  | d :: l, h => by
    rw [noOwns_cons, Bool.and_eq_true] at h
    rw [frzs_cons, frz_of d h.1, frzs_of l h.2]
end
theorem eqv_int (a b : Int) : D.eqv (.int a) (.int b) = (a == b) := by simp [D.eqv, D.toP, PyData.eqv]
theorem eqv_bl (a b : Bool) : D.eqv (.bl a) (.bl b) = (a == b) := by simp [D.eqv, D.toP, PyData.eqv]
theorem eqv_str (a b : Str) : D.eqv (.str a) (.str b) = (a == b) := by simp [D.eqv, D.toP, PyData.eqv]
def D.eqvs (l m : List D) : Bool := PyData.eqvAll (D.toPs l) (D.toPs m)
theorem eqv_tup (l m : List D) : D.eqv (.tup l) (.tup m) = D.eqvs l m := by simp [D.eqv, D.toP, PyData.eqv, D.eqvs]
theorem eqv_lst (l m : List D) : D.eqv (.lst l) (.lst m) = D.eqvs l m := by simp [D.eqv, D.toP, PyData.eqv, D.eqvs]
theorem eqv_lo (l m : List D) : D.eqv (.lst l) (.own m) = D.eqvs l m := by simp [D.eqv, D.toP, PyData.eqv, D.eqvs]
theorem eqv_ol (l m : List D) : D.eqv (.own l) (.lst m) = D.eqvs l m := by simp [D.eqv, D.toP, PyData.eqv, D.eqvs]
theorem eqv_own (l m : List D) : D.eqv (.own l) (.own m) = D.eqvs l m := by simp [D.eqv, D.toP, PyData.eqv, D.eqvs]
theorem eqvs_nil : D.eqvs [] [] = true := by simp [D.eqvs, D.toPs, PyData.eqvAll]
theorem eqvs_cons (x y : D) (l m : List D) : D.eqvs (x :: l) (y :: m) = (D.eqv x y && D.eqvs l m) := by simp [D.eqvs, D.toPs, PyData.eqvAll, D.eqv]
theorem eqvs_nc (y : D) (m : List D) : D.eqvs [] (y :: m) = false := by simp [D.eqvs, D.toPs, PyData.eqvAll]
theorem eqvs_cn (y : D) (m : List D) : D.eqvs (y :: m) [] = false := by simp [D.eqvs, D.toPs, PyData.eqvAll]
theorem eqvs_map {α : Type} [DecidableEq α] (f : α → D) (hf : ∀ x y, D.eqv (f x) (f y) = decide (x = y)) : ∀ l m : List α, D.eqvs (l.map f) (m.map f) = decide (l = m)
  | [], [] => by simp [eqvs_nil]
  | [], y :: m => by simp [eqvs_nc]
  | x :: l, [] => by simp [eqvs_cn]
  | x :: l, y :: m => by
    rw [List.map_cons, List.map_cons, eqvs_cons, hf, eqvs_map f hf l m]
    by_cases h1 : x = y <;> by_cases h2 : l = m <;> simp [h1, h2]
/-- a fraction's tree -/
def fD (p : Int × Int) : D := .tup [.int p.1, .int p.2]
theorem eqv_fD (p q : Int × Int) : D.eqv (fD p) (fD q) = decide (p = q) := by
  obtain ⟨a, b⟩ := p
  obtain ⟨c, d⟩ := q
  simp only [fD, eqv_tup, eqvs_cons, eqv_int, eqvs_nil, Bool.and_true]
  by_cases h1 : a = c <;> by_cases h2 : b = d <;> simp [h1, h2]

/-! ### sizes -/
def Sz (n : Nat) (x : Int) : Prop := x.natAbs < 2 ^ n
theorem Sz.mono {n m : Nat} {x : Int} (h : Sz n x) (hm : n ≤ m) : Sz m x := Nat.lt_of_lt_of_le h (Nat.pow_le_pow_right (by decide) hm)
theorem Sz.mul {n m : Nat} {x y : Int} (h : Sz n x) (k : Sz m y) : Sz (n + m) (x * y) := wide_lt h k
theorem Sz.add {n : Nat} {x y : Int} (h : Sz n x) (k : Sz n y) : Sz (n + 1) (x + y) := by
  unfold Sz at *
  have : (x + y).natAbs ≤ x.natAbs + y.natAbs := Int.natAbs_add_le x y
  rw [Nat.pow_succ]
  omega
theorem Sz.neg {n : Nat} {x : Int} (h : Sz n x) : Sz n (-x) := by unfold Sz at *; rwa [Int.natAbs_neg]
theorem Sz.sub {n : Nat} {x y : Int} (h : Sz n x) (k : Sz n y) : Sz (n + 1) (x - y) := by rw [Int.sub_eq_add_neg]; exact h.add k.neg
theorem Sz.of_le {n : Nat} {x y : Int} (h : Sz n x) (k : y.natAbs ≤ x.natAbs) : Sz n y := Nat.lt_of_le_of_lt k h
theorem Sz.imo {n m : Nat} {x y : Int} (h : Sz n x) (k : Sz m y) (hs : n + m ≤ 999000) : IntMulOk x y :=
  (wide_mul (h.mono (Nat.le_succ n)) (k.mono (Nat.le_succ m)) (Nat.succ_pos _) (Nat.succ_pos _) (by omega)).ok
theorem Sz.div {n : Nat} {x : Int} (h : Sz n x) (h0 : x ≠ 0) (hn : n ≤ 9000) : DivOk x := ⟨h0, Nat.lt_of_lt_of_le h (Nat.pow_le_pow_right (by decide) hn)⟩
theorem imo_r {x y : Int} (h1 : -(2 ^ 64) < y) (h2 : y < 2 ^ 64) : IntMulOk x y := .of_right (intBits_le_64 h1 h2)
theorem imo_l {x y : Int} (h1 : -(2 ^ 64) < x) (h2 : x < 2 ^ 64) : IntMulOk x y := .of_left (intBits_le_64 h1 h2)
theorem divOk_small {x : Int} (h0 : x ≠ 0) (h : x.natAbs < 2 ^ 64) : DivOk x := ⟨h0, Nat.lt_of_lt_of_le h (Nat.pow_le_pow_right (by decide) (by decide))⟩

/-! ### greatest common divisors -/
theorem gcd_fmod (x y : Int) : Int.gcd y (x.fmod y) = Int.gcd x y := by
  have e : x.fmod y = x - y * x.fdiv y := Int.fmod_def x y
  apply Nat.dvd_antisymm
  · apply Int.dvd_gcd
    · have h1 : (Int.gcd y (x.fmod y) : Int) ∣ y := Int.gcd_dvd_left _ _
      have h2 : (Int.gcd y (x.fmod y) : Int) ∣ x.fmod y := Int.gcd_dvd_right _ _
      have h3 : x = x.fmod y + y * x.fdiv y := by omega
      have h4 := Int.dvd_add h2 (Int.dvd_mul_of_dvd_left (b := y) (c := x.fdiv y) h1)
      rw [← h3] at h4
      exact h4
    · exact Int.gcd_dvd_left _ _
  · apply Int.dvd_gcd
    · exact Int.gcd_dvd_right _ _
    · rw [e]
      exact Int.dvd_sub (Int.gcd_dvd_left _ _) (Int.dvd_mul_of_dvd_left (Int.gcd_dvd_right _ _))
theorem fmod_small (x y : Int) (h : y ≠ 0) : (x.fmod y).natAbs < y.natAbs := by
  have pos : ∀ (x y : Int), 0 < y → (x.fmod y).natAbs < y.natAbs := fun x y hy => by
    have h1 := Int.fmod_nonneg_of_pos x hy
    have h2 := Int.fmod_lt_of_pos x hy
    omega
  rcases Int.lt_or_gt_of_ne h with hy | hy
  · have e := Int.neg_fmod_neg x y
    have := pos (-x) (-y) (by omega)
    rw [e] at this
    omega
  · exact pos x y hy

/-! ### the fraction of a top and a bottom -/
def frg (a b : Int) : Int := if b < 0 then -(Int.gcd a b : Int) else (Int.gcd a b : Int)
def fr (a b : Int) : Int × Int := (a.fdiv (frg a b), b.fdiv (frg a b))
/-- in lowest terms -/
def IsF (p : Int × Int) : Prop := 0 < p.2 ∧ Int.gcd p.1 p.2 = 1
theorem gcd_pos_of {a b : Int} (h : b ≠ 0) : 0 < Int.gcd a b := Int.gcd_pos_of_ne_zero_right a h
theorem frg_ne {a b : Int} (h : b ≠ 0) : frg a b ≠ 0 := by
  have := gcd_pos_of (a := a) h
  unfold frg; split <;> omega
theorem frg_dvd_l (a b : Int) : frg a b ∣ a := by
  unfold frg; split
  · exact Int.neg_dvd.mpr (Int.gcd_dvd_left a b)
  · exact Int.gcd_dvd_left a b
theorem frg_dvd_r (a b : Int) : frg a b ∣ b := by
  unfold frg; split
  · exact Int.neg_dvd.mpr (Int.gcd_dvd_right a b)
  · exact Int.gcd_dvd_right a b
theorem fr_1 (a b : Int) : (fr a b).1 * frg a b = a := Int.fdiv_mul_cancel (frg_dvd_l a b)
theorem fr_2 (a b : Int) : (fr a b).2 * frg a b = b := Int.fdiv_mul_cancel (frg_dvd_r a b)
theorem fr_pos {a b : Int} (h : b ≠ 0) : 0 < (fr a b).2 := by
  have e := fr_2 a b
  have g := gcd_pos_of (a := a) h
  rcases Int.lt_or_gt_of_ne h with hb | hb
  · have : frg a b = -(Int.gcd a b : Int) := by unfold frg; rw [if_pos hb]
    rw [this] at e
    have h1 : (0 : Int) < Int.gcd a b := by omega
    have h2 : 0 < (fr a b).2 * (Int.gcd a b : Int) := by rw [Int.mul_neg] at e; omega
    exact Int.pos_of_mul_pos_left h2 h1
  · have : frg a b = (Int.gcd a b : Int) := by unfold frg; rw [if_neg (by omega)]
    rw [this] at e
    have h1 : (0 : Int) < Int.gcd a b := by omega
    have h2 : 0 < (fr a b).2 * (Int.gcd a b : Int) := by omega
    exact Int.pos_of_mul_pos_left h2 h1
theorem fr_cross (a b : Int) (h : b ≠ 0) : (fr a b).1 * b = a * (fr a b).2 := by
  have e1 := fr_1 a b
  have e2 := fr_2 a b
  calc (fr a b).1 * b = (fr a b).1 * ((fr a b).2 * frg a b) := by rw [e2]
    _ = ((fr a b).1 * frg a b) * (fr a b).2 := by rw [← Int.mul_assoc, Int.mul_assoc, Int.mul_comm (fr a b).2, ← Int.mul_assoc]
    _ = a * (fr a b).2 := by rw [e1]
theorem fr_cop {a b : Int} (h : b ≠ 0) : Int.gcd (fr a b).1 (fr a b).2 = 1 := by
  have e1 := fr_1 a b
  have e2 := fr_2 a b
  have g := gcd_pos_of (a := a) h
  have hg : (frg a b).natAbs = Int.gcd a b := by unfold frg; split <;> omega
  have : Int.gcd ((fr a b).1 * frg a b) ((fr a b).2 * frg a b) = Int.gcd (fr a b).1 (fr a b).2 * (frg a b).natAbs := Int.gcd_mul_right ..
  rw [e1, e2, hg] at this
  have h2 : 1 * Int.gcd a b = Int.gcd (fr a b).1 (fr a b).2 * Int.gcd a b := by rw [Nat.one_mul]; exact this
  exact (Nat.eq_of_mul_eq_mul_right g h2).symm
theorem fr_isF {a b : Int} (h : b ≠ 0) : IsF (fr a b) := ⟨fr_pos h, fr_cop h⟩
theorem abs_le_mul {x y : Int} (h : y ≠ 0) : x.natAbs ≤ (x * y).natAbs := by
  rw [Int.natAbs_mul]
  exact Nat.le_mul_of_pos_right _ (by omega)
theorem fr_le1 {a b : Int} (h : b ≠ 0) : (fr a b).1.natAbs ≤ a.natAbs := by
  have := abs_le_mul (x := (fr a b).1) (frg_ne (a := a) h)
  rw [fr_1] at this; exact this
theorem fr_le2 {a b : Int} (h : b ≠ 0) : (fr a b).2.natAbs ≤ b.natAbs := by
  have := abs_le_mul (x := (fr a b).2) (frg_ne (a := a) h)
  rw [fr_2] at this; exact this
theorem frg_size {a b : Int} (h : b ≠ 0) : (frg a b).natAbs ≤ b.natAbs := by
  have := abs_le_mul (x := frg a b) (y := (fr a b).2) (by have := fr_pos (a := a) h; omega)
  rw [Int.mul_comm, fr_2] at this; exact this
theorem dvd_cop {a b c : Int} (h : a ∣ b * c) (g : Int.gcd a b = 1) : a ∣ c := by
  have h1 : a.natAbs ∣ b.natAbs * c.natAbs := by rw [← Int.natAbs_mul]; exact Int.natAbs_dvd_natAbs.mpr h
  exact Int.natAbs_dvd_natAbs.mp (Nat.Coprime.dvd_of_dvd_mul_left (k := a.natAbs) (m := b.natAbs) g h1)
/-- crosswise alike and both in lowest terms: alike -/
theorem isF_eq {p q : Int × Int} (hp : IsF p) (hq : IsF q) (h : p.1 * q.2 = q.1 * p.2) : p = q := by
  obtain ⟨a, b⟩ := p
  obtain ⟨c, d⟩ := q
  obtain ⟨b0, g1⟩ := hp
  obtain ⟨d0, g2⟩ := hq
  simp only at *
  have h1 : b ∣ d := by
    have : b ∣ a * d := ⟨c, by rw [h, Int.mul_comm]⟩
    exact dvd_cop this (by rw [Int.gcd_comm]; exact g1)
  have h2 : d ∣ b := by
    have : d ∣ c * b := ⟨a, by rw [← h, Int.mul_comm]⟩
    exact dvd_cop this (by rw [Int.gcd_comm]; exact g2)
  have e : b = d := Int.dvd_antisymm (by omega) (by omega) h1 h2
  subst e
  have : a = c := Int.eq_of_mul_eq_mul_right (by omega) h
  rw [this]
theorem fr_eq {p : Int × Int} (hp : IsF p) {a b : Int} (hb : b ≠ 0) (h : p.1 * b = a * p.2) : fr a b = p := by
  refine isF_eq (fr_isF hb) hp ?_
  have h1 := fr_cross a b hb
  apply Int.eq_of_mul_eq_mul_right hb
  calc (fr a b).1 * p.2 * b = ((fr a b).1 * b) * p.2 := by rw [Int.mul_assoc, Int.mul_comm p.2, ← Int.mul_assoc]
    _ = a * (fr a b).2 * p.2 := by rw [h1]
    _ = (a * p.2) * (fr a b).2 := by rw [Int.mul_assoc, Int.mul_comm (fr a b).2, ← Int.mul_assoc]
    _ = p.1 * b * (fr a b).2 := by rw [h]
    _ = p.1 * (fr a b).2 * b := by rw [Int.mul_assoc, Int.mul_comm b, ← Int.mul_assoc]
theorem fr_self {p : Int × Int} (hp : IsF p) : fr p.1 p.2 = p := fr_eq hp (by have := hp.1; omega) rfl

theorem forL_ind {vs : List Nat} {tg : DG} {rb : DS} {D : DEnds} (I : List TL.D → MS → Prop) (hn : ∀ M, I [] M → D.nx M) (hs : ∀ x rest M, (∀ M, I rest M → forL vs tg rb D rest M) → I (x :: rest) M → forL vs tg rb D (x :: rest) M) : ∀ its M, I its M → forL vs tg rb D its M
  | [], M, h => hn M h
  | x :: rest, M, h => hs x rest M (fun M h => forL_ind I hn hs rest M h) h
/-- a loop by a fold: the state is St s, s goes on by step; Inv holds of what is walked by then -/
theorem forL_fold {α S : Type} {vs : List Nat} {tg : DG} {rb : DS} {D : DEnds} (enc : α → TL.D) (St : S → MS) (step : S → α → S) (Inv : List α → S → Prop) (l : List α) (s0 : S)
    (hs : ∀ pre x suf s, l = pre ++ x :: suf → Inv pre s → ∀ C : MS → Prop, (Inv (pre ++ [x]) (step s x) → C (St (step s x))) →
      tg (enc x) (St s) fun M1 => stM M1 fun M1 => rb { D with nx := fun M => stM (dropM M vs) C, ct := fun M => stM (dropM M vs) C, bk := fun M => stM (dropM M vs) D.nx } M1)
    (h0 : Inv [] s0) (hn : Inv l (l.foldl step s0) → D.nx (St (l.foldl step s0))) : forL vs tg rb D (l.map enc) (St s0) := by
  have gen : ∀ (suf pre : List α) (s : S), l = pre ++ suf → Inv pre s → s = pre.foldl step s0 → forL vs tg rb D (suf.map enc) (St s) := by
    intro suf
    induction suf with
    | nil =>
      intro pre s e i es
      rw [List.append_nil] at e
      subst e es
      exact hn i
    | cons x suf ih =>
      intro pre s e i es
      exact hs pre x suf s e i _ fun i' => ih (pre ++ [x]) _ (by rw [e]; simp) i' (by rw [List.foldl_append, ← es]; rfl)
  exact gen l [] s0 rfl h0 rfl
/-- a loop that leaves the state as it is, and perhaps early -/
theorem forL_each {α : Type} {vs : List Nat} {tg : DG} {rb : DS} {D : DEnds} {M : MS} (enc : α → TL.D) (p : α → Prop) (l : List α)
    (hs : ∀ pre x suf, l = pre ++ x :: suf → (∀ y ∈ pre, p y) → ∀ C : MS → Prop, (p x → C M) → tg (enc x) M fun M1 => stM M1 fun M1 => rb { D with nx := fun M => stM (dropM M vs) C, ct := fun M => stM (dropM M vs) C, bk := fun M => stM (dropM M vs) D.nx } M1)
    (hn : (∀ y ∈ l, p y) → D.nx M) : forL vs tg rb D (l.map enc) M := by
  have gen : ∀ (suf pre : List α), l = pre ++ suf → (∀ y ∈ pre, p y) → forL vs tg rb D (suf.map enc) M := by
    intro suf
    induction suf with
    | nil =>
      intro pre e i
      rw [List.append_nil] at e
      subst e
      exact hn i
    | cons x suf ih =>
      intro pre e i
      refine hs pre x suf e i _ fun px => ih (pre ++ [x]) (by rw [e]; simp) fun y hy => ?_
      rcases List.mem_append.mp hy with h | h
      · exact i y h
      · rw [List.mem_singleton.mp h]; exact px
  exact gen l [] rfl fun y hy => nomatch hy
/-- a loop by what is left -/
theorem forL_inv {α : Type} {vs : List Nat} {tg : DG} {rb : DS} {D : DEnds} (enc : α → TL.D) (I : List α → List α → MS → Prop) (l : List α) (M : MS) (h0 : I [] l M)
    (hs : ∀ pre x suf M, l = pre ++ x :: suf → I pre (x :: suf) M → ∀ C : MS → Prop, (∀ M, I (pre ++ [x]) suf M → C M) →
      tg (enc x) M fun M1 => stM M1 fun M1 => rb { D with nx := fun M => stM (dropM M vs) C, ct := fun M => stM (dropM M vs) C, bk := fun M => stM (dropM M vs) D.nx } M1)
    (hn : ∀ M, I l [] M → D.nx M) : forL vs tg rb D (l.map enc) M := by
  have gen : ∀ (suf pre : List α) (M : MS), l = pre ++ suf → I pre suf M → forL vs tg rb D (suf.map enc) M := by
    intro suf
    induction suf with
    | nil =>
      intro pre M e i
      rw [List.append_nil] at e
      subst e
      exact hn M i
    | cons x suf ih =>
      intro pre M e i
      exact hs pre x suf M e i _ fun M' i' => ih (pre ++ [x]) M' (by rw [e]; simp) i'
  exact gen l [] M rfl h0
theorem rngD_mem {lo hi : Int} {x : D} (h : x ∈ rngD lo hi) : ∃ j : Int, x = .int j ∧ lo ≤ j ∧ j < hi := by
  unfold rngD at h
  obtain ⟨i, hi, rfl⟩ := List.mem_map.mp h
  have := List.mem_range.mp hi
  exact ⟨_, rfl, by omega, by omega⟩
theorem endsOf_nx (Q : D → List D → Prop) (E : Addr → List D → Prop) (M : MS) : (endsOf Q E).nx M = (noOl M = true ∧ Q .non (iosOf M)) := rfl
theorem endsOf_rt (Q : D → List D → Prop) (E : Addr → List D → Prop) (d : D) (M : MS) : (endsOf Q E).rt d M = (noOl M = true ∧ Q d (iosOf M)) := rfl
theorem endsOf_xr (Q : D → List D → Prop) (E : Addr → List D → Prop) (C : Addr) (M : MS) : (endsOf Q E).xr C M = (noOl M = true ∧ E C (iosOf M)) := rfl
theorem iosOf_nil : iosOf [] = [] := rfl
theorem iosOf_va (d : D) (M : MS) : iosOf (.va d :: M) = iosOf M := rfl
theorem iosOf_un (M : MS) : iosOf (.un :: M) = iosOf M := rfl
theorem iosOf_io (d : D) (M : MS) : iosOf (.io d :: M) = d :: iosOf M := rfl
/-- a slot that a loop may have left empty or filled -/
def Fr (z : Slot) : Prop := z = .un ∨ ∃ d, z = .va d
theorem Fr.un : Fr .un := .inl rfl
theorem Fr.va {d : D} : Fr (.va d) := .inr ⟨d, rfl⟩
theorem cpow_10 (j : Int) : CPow 10 j = (0 ≤ j ∧ j ≤ 1000000) := by unfold CPow; simp [show Int.natAbs 10 < 2^64 by decide]
theorem cpow_2 (j : Int) : CPow 2 j = (0 ≤ j ∧ j ≤ 1000000) := by unfold CPow; simp [show Int.natAbs 2 < 2^64 by decide]
theorem stopF {vs : List Nat} {tg : DG} {rb : DS} {D : DEnds} {its : List TL.D} {M : MS} (h : forL vs tg rb D its M) : forL vs tg rb D its M := h
theorem stopC {o : Option Nat} {its : List D} {tg : DG} {tt : DT} {te : DE} {vs : List Nat} {l acc : List D} {M : MS} {Q : List D → MS → Prop} (h : compL o its tg tt te vs l acc M Q) : compL o its tg tt te vs l acc M Q := h
theorem ifB {b : Bool} {A C : Prop} (ha : b = true → A) (hc : b = false → C) : iteP b A C := by cases b <;> simp_all [iteP]
theorem ifT {b : Bool} {A C : Prop} (hb : b = true) (ha : A) : iteP b A C := by subst hb; exact ha
theorem ifF {b : Bool} {A C : Prop} (hb : b = false) (hc : C) : iteP b A C := by subst hb; exact hc
mutual
def okB : D → Nat → Bool
  | .non, _ => true
  | .bl _, _ => true
  | .int _, _ => true
  | .str x, _ => PyData.strOk x
  | .tup l, n => okBs l n
  | .lst l, n => okBs l n
  | .own l, n => okBs l n
  | .exc _, _ => false
  | .scr _, _ => false
  | .cls _, _ => false
  | .ty _, _ => false
  | _, _ => false
def okBs : List D → Nat → Bool
  | _, 0 => false
  | [], _ + 1 => true
  | d :: l, n + 1 => okB d n && okBs l (n + 1)
end
mutual
theorem okB_ok : ∀ (d : D) (n : Nat), okB d n = true → okD n d
  | .non, _, _ => by unfold okD; trivial
  | .bl _, _, _ => by unfold okD; trivial
  | .int _, _, _ => by unfold okD; trivial
  | .str x, _, h => by unfold okB at h; unfold okD; exact h
  | .tup l, 0, h => by unfold okB at h; cases l <;> simp [okBs] at h
  | .lst l, 0, h => by unfold okB at h; cases l <;> simp [okBs] at h
  | .own l, 0, h => by unfold okB at h; cases l <;> simp [okBs] at h
  | .tup l, n + 1, h => by unfold okB at h; unfold okD; exact okBs_ok l n h
  | .lst l, n + 1, h => by unfold okB at h; unfold okD; exact okBs_ok l n h
  | .own l, n + 1, h => by unfold okB at h; unfold okD; exact okBs_ok l n h
  | .exc _, _, h => by simp [okB] at h
  | .scr _, _, h => by simp [okB] at h
  | .cls _, _, h => by simp [okB] at h
  | .ty _, _, h => by simp [okB] at h
  | .obj _ _ _, _, h => by simp [okB] at h
  | .fob _ _ _, _, h => by simp [okB] at h
theorem okBs_ok : ∀ (l : List D) (n : Nat), okBs l (n + 1) = true → ∀ d ∈ l, okD n d
  | [], _, _ => fun d h => nomatch h
  | x :: l, n, h => by
    unfold okBs at h
    simp only [Bool.and_eq_true] at h
    have h1 := okB_ok x n h.1
    have h2 := okBs_ok l n h.2
    intro d hd
    rcases List.mem_cons.mp hd with e | hd
    · rw [e]; exact h1
    · exact h2 d hd
end
theorem eqOk_b {x y : D} (hx : okB x 8 = true) (hy : okB y 8 = true) : eqOk x y := ⟨okB_ok x 8 hx, okB_ok y 8 hy⟩
instance (n : Nat) (x : Int) : Decidable (Sz n x) := inferInstanceAs (Decidable (_ < _))
theorem Sz.lt {n : Nat} {x : Int} (m : Nat) (h : x.natAbs < 2 ^ m) (hm : m ≤ n) : Sz n x := Nat.lt_of_lt_of_le h (Nat.pow_le_pow_right (by decide) hm)
theorem cpow_ok {i j : Int} (h : decide (0 ≤ j ∧ j ≤ 1000000 ∧ i.natAbs < 2 ^ 64) = true) : CPow i j := by
  have h := of_decide_eq_true h
  exact h
theorem smallI_ok {i : Int} (h1 : -(2 ^ 62) ≤ i) (h2 : i < 2 ^ 62) : smallI i := ⟨h1, h2⟩
/-- a fraction's parts are of at most n bits, the second one not 0 -/
def Fz (n : Nat) (p : Int × Int) : Prop := Sz n p.1 ∧ Sz n p.2 ∧ p.2 ≠ 0
theorem Fz.mono {n m : Nat} {p : Int × Int} (h : Fz n p) (hm : n ≤ m) : Fz m p := ⟨h.1.mono hm, h.2.1.mono hm, h.2.2⟩
def fadd (p q : Int × Int) : Int × Int := fr (p.1 * q.2 + q.1 * p.2) (p.2 * q.2)
def fsub (p q : Int × Int) : Int × Int := fr (p.1 * q.2 - q.1 * p.2) (p.2 * q.2)
def fmul (p q : Int × Int) : Int × Int := fr (p.1 * q.1) (p.2 * q.2)
def fdivi (p q : Int × Int) : Int × Int := fr (p.1 * q.2) (p.2 * q.1)
def flt (p q : Int × Int) : Bool := decide (p.1 * q.2 < q.1 * p.2)
theorem IsF.fz {n : Nat} {p : Int × Int} (h : IsF p) (h1 : Sz n p.1) (h2 : Sz n p.2) : Fz n p := ⟨h1, h2, by have := h.1; omega⟩
theorem IsF.neg {p : Int × Int} (h : IsF p) : IsF (0 - p.1, p.2) := by
  refine ⟨h.1, ?_⟩
  have e : Int.gcd (0 - p.1) p.2 = Int.gcd p.1 p.2 := by rw [Int.zero_sub, Int.neg_gcd]
  exact e.trans h.2
theorem Sz.fr1 {n : Nat} {a b : Int} (h : Sz n a) (hb : b ≠ 0) : Sz n (fr a b).1 := h.of_le (fr_le1 hb)
theorem Sz.fr2 {n : Nat} {a b : Int} (h : Sz n b) (hb : b ≠ 0) : Sz n (fr a b).2 := h.of_le (fr_le2 hb)
end TL
/-! # what the top leaves, and the end -/
namespace TL
open PySem PyProof.Rows L2
structure ErC (K : PySem.W.Frag) (c c0 : Addr) : Prop where
  kp : PySem.W.keepIn K (.ref c) = true
  ex : PySem.W.excIn K c [.type "ValueError", .type "Exception", .type "BaseException", .type "object"] "ValueError.__new__" = true
  ty : PySem.W.typeIn K (.ref c) = some (.type "type")
  ec : ExcC K c
  kitV : PySem.W.kitOne K (.ref c) (.type "ValueError") = some true
  exm : PySem.W.exmOne K (.ref c) (.ref c0) = some true
  no : ∀ T ∈ ["NoneType", "bool", "int", "str", "tuple", "list"], PySem.W.kitOne K (.type T) (.ref c) = some false
theorem no6 {K : PySem.W.Frag} {c : Addr} (h1 : PySem.W.kitOne K (.type "NoneType") (.ref c) = some false) (h2 : PySem.W.kitOne K (.type "bool") (.ref c) = some false) (h3 : PySem.W.kitOne K (.type "int") (.ref c) = some false)
    (h4 : PySem.W.kitOne K (.type "str") (.ref c) = some false) (h5 : PySem.W.kitOne K (.type "tuple") (.ref c) = some false) (h6 : PySem.W.kitOne K (.type "list") (.ref c) = some false) :
    ∀ T ∈ ["NoneType", "bool", "int", "str", "tuple", "list"], PySem.W.kitOne K (.type T) (.ref c) = some false := by
  intro T hT
  simp only [List.mem_cons, List.not_mem_nil, or_false] at hT
  rcases hT with rfl | rfl | rfl | rfl | rfl | rfl <;> assumption
/-- how isinstance answers for c over some classes -/
inductive ErK (K : PySem.W.Frag) (c : Addr) : List Addr → List Bool → Prop
  | nil : ErK K c [] []
  | cons {d : Addr} {b : Bool} {ds : List Addr} {bs : List Bool} : PySem.W.kitOne K (.ref c) (.ref d) = some b → ErK K c ds bs → ErK K c (d :: ds) (b :: bs)
theorem ErK.get {K : PySem.W.Frag} {c : Addr} : ∀ {ds : List Addr} {bs : List Bool}, ErK K c ds bs → ∀ (j : Nat) (d : Addr) (b : Bool), ds[j]? = some d → bs[j]? = some b → PySem.W.kitOne K (.ref c) (.ref d) = some b
  | _, _, .cons h _, 0, d, b, e1, e2 => by cases e1; cases e2; exact h
  | _, _, .cons _ t, j + 1, d, b, e1, e2 => t.get j d b e1 e2
theorem erk_of {K : PySem.W.Frag} {n : Nat} (cl : Nat → Addr) (cs : List Addr) (hc : ∀ j, cl j = cs.getD j 0) (h : ∀ i, i < n → ErK K (cl i) cs ((List.range n).map fun j => j == 0 || i == j)) (i j : Nat) (hi : i < n) (hj : j < n) (hl : cs.length = n) :
    PySem.W.kitOne K (.ref (cl i)) (.ref (cl j)) = some (j == 0 || i == j) := by
  refine (h i hi).get j _ _ ?_ ?_
  · rw [hc j, List.getD_eq_getElem?_getD, List.getElem?_eq_getElem (by omega)]; rfl
  · rw [List.getElem?_map, List.getElem?_range hj]; rfl
theorem er_inj {K : PySem.W.Frag} {n : Nat} (cl : Nat → Addr) (kit : ∀ i j, i < n → j < n → PySem.W.kitOne K (.ref (cl i)) (.ref (cl j)) = some (j == 0 || i == j)) (i j : Nat) (hi : i < n) (hj : j < n) (e : cl i = cl j) : i = j := by
  by_cases h : i = j
  · exact h
  · exfalso
    by_cases h0 : j = 0
    · have h1 := kit j i hj hi
      have h2 := kit i i hi hi
      rw [← e] at h1
      rw [h1] at h2
      have hi0 : i ≠ 0 := fun z => h (z.trans h0.symm)
      simp [hi0, Ne.symm h] at h2
    · have h1 := kit i j hi hj
      have h2 := kit j j hj hj
      rw [e] at h1
      rw [h1] at h2
      simp [h0, h] at h2
/-- what the top has written for a def -/
def DefK (K : PySem.W.Frag) (x : Str) (st : Stmt) : Prop := ∃ (a : Addr) (oc : Value) (od an : Option Addr) (osl : Array (Option Value)) (kV doc pm cdv ct : Value),
  PySem.W.nsIn K mainGlobals x = some (some (.ref a)) ∧ K.lookup a = some ⟨oc, od, .func (PySem.W.fnOf x x (defArgs st) (defBody st) (defScope st) .none kV doc pm an cdv ct), osl⟩ ∧ PySem.W.codeIn K cdv x = true ∧ PySem.W.keepIn K (.ref a) = true
theorem DefK.mk {K : PySem.W.Frag} {x : Str} {st : Stmt} {a : Addr} {oc : Value} {od an : Option Addr} {osl : Array (Option Value)} {kV doc pm cdv ct : Value} (h1 : PySem.W.nsIn K mainGlobals x = some (some (.ref a)))
    (h2 : K.lookup a = some ⟨oc, od, .func (PySem.W.fnOf x x (defArgs st) (defBody st) (defScope st) .none kV doc pm an cdv ct), osl⟩) (h3 : PySem.W.codeIn K cdv x = true) (h4 : PySem.W.keepIn K (.ref a) = true) : DefK K x st :=
  ⟨a, oc, od, an, osl, kV, doc, pm, cdv, ct, h1, h2, h3, h4⟩
theorem DefK.at {K : PySem.W.Frag} {mg : Str → Option Value} {h : Heap} {x : Str} {st : Stmt} {ps : List Str} (D : DefK K x st) (X : K.In h) (G : h.Ns mainGlobals mg)
    (hb : ∀ (kV doc pm : Value) (an : Option Addr) (cdv ct : Value) (us : List Value), us.length = ps.length → bindArgs (PySem.W.fnOf x x (defArgs st) (defBody st) (defScope st) .none kV doc pm an cdv ct) ⟨us, []⟩ = pure (ps.zip us)) : DefAt K mg x st ps := by
  obtain ⟨a, oc, od, an, osl, kV, doc, pm, cdv, ct, h1, h2, h3, h4⟩ := D
  have F := fun_mk (st := st) h2 h3 h4
  exact ⟨a, _, F, PySem.W.mg_of X G h1, F.binds hb⟩
theorem rp_bl {K : PySem.W.Frag} {F H : Hp} {v : V} {b : Bool} {f : List Addr} (h : Rp K F H (.bl b) v f) : v = .bl b := by cases h; rfl
theorem sp_law {K : PySem.W.Frag} {T : Spec} {a : Addr} {ns : List Int} {H : Hp} (hl : ns.length ≤ 63) (hS : SqL K H a (ns.map V.int)) (hT : ∀ Q E, Q (.bl true) [] → T [.va (.scr ns)] Q E) :
    spOf K 1 T [.ref a] H (fun v _ => v = .bl true) fun _ _ _ => False := by
  refine ⟨[.va (.scr ns)], H, [[]], fun d _ => d = .bl true, fun _ _ => False, rfl, rfl, Same.refl _, .va (.scr hS) .nil, fun b => by simp [cnt], hT _ _ rfl, fun d outs v F' H' q s => ?_, fun C outs F' H' q => q.elim⟩
  subst q
  obtain ⟨_, _, _, hd, _⟩ := s.rel
  cases hd with
  | cons r _ => exact rp_bl r
theorem noCX (P : Program) (w : World) (H : Hp) (s : Shared) (e : Value) (s' : Shared) (h : L2.CX P w [] H s (fun _ _ _ => False) e s') : False := by
  obtain ⟨_, _, _, _, _, _, _, _, _, _, _, _, z⟩ := h
  exact z
theorem fn_ofD {P : Program} {w : World} {K : PySem.W.Frag} {mg : Str → Option Value} {base : Heap} {x : Str} {st : Stmt} {N ps : List Str} {k n m : Nat} {T : Spec} {r : DS} {a : Addr} {fd : FuncData} (F : Fun K x x st a fd) (S : FnScope N ps (defScope st)) (hn : ps.length = n) (hm : N.length = n + m)
    (deriv : ∀ (f : Addr) (cdv : Value) (A : Around) (outer : List Env) (s : Shared) (H : Hp) (E : XK), RmG k (A.deeper (envOfC x (defScope st) s.heap.objs.size f cdv)) →
      PSs (cxOf (L2.CX P w) P w K mg base N x (defScope st) f cdv A outer s H E) (defBody st) (liftS K (fun cls d _ H => E cls d H) r))
    (law : ∀ as Q E, T as Q E → r (endsOf Q E) (as ++ List.replicate m .un)) : FnG P w K mg base (L2.CX P w) (k + 1) a fd ps (spOf K n T) :=
  fn_ok F S hn hm (fun cdv A outer s H E hr => deriv a cdv A outer s H E hr) (fun as Q E _ _ h => law as Q E h)
end TL
/-! # more rules: range with a step, a list turned about, in, is of truths, tuple(..) -/
namespace TL
open PySem PyProof.Rows L2
/-- the numbers of range(i, j, c) -/
def rngC (i j c : Int) : List D := (List.range (PySem.Builtin.Range.rangeSize i j c).toNat).map fun k => .int (i + (k : Nat) * c)
section
variable {X : Cx} {W : WX} {pos : Pos} {e a b c : Expr} {ea eb ec : DE}
def RgOk (i j c : Int) : Prop := c ≠ 0 ∧ c.natAbs < 1073741824 ∧ PySem.Builtin.Range.small i j c = true
def itR3 (ea eb ec : DE) : DI := fun M Q E => ea M (fun d M1 => eb M1 (fun d2 M2 => ec M2 (fun d3 M3 => asI d fun i => asI d2 fun j => asI d3 fun c => RgOk i j c ∧ Q (rngC i j c) none M3) E) E) E
theorem rangeSize_nonneg (i j c : Int) (hc : c ≠ 0) : 0 ≤ PySem.Builtin.Range.rangeSize i j c := by
  unfold PySem.Builtin.Range.rangeSize
  split
  · split
    · have := Int.ediv_nonneg (show 0 ≤ j - i - 1 by omega) (show 0 ≤ c by omega); omega
    · omega
  · split
    · have := Int.ediv_nonneg (show 0 ≤ i - j - 1 by omega) (show 0 ≤ -c by omega); omega
    · omega
theorem i_range3 {tg : Expr} {p : Pos} (hm : X.mg "range" = none) (ha : PE X a (liftE X.K W (ea))) (hb : PE X b (liftE X.K W (eb))) (hc : PE X c (liftE X.K W (ec))) (hg : Gl X "range" := by rfl)
    (he : starEach [a, b, c] X.env = [(false, eval a X.env), (false, eval b X.env), (false, eval c X.env)] := by rfl) (he2 : starEach [b, c] X.env = [(false, eval b X.env), (false, eval c X.env)] := by rfl) (he3 : starEach [c] X.env = [(false, eval c X.env)] := by rfl)
    (hs : starEach [a, b, c] X.env = (false, eval a X.env) :: starEach [b, c] X.env := by rfl) (hpl : (backTo pos (starEach [b, c] X.env)).any (·.1) = false := by rfl) :
    PI X tg (.Call (.Name "range" p) [a, b, c] [] pos) (liftI X.K W (itR3 ea eb ec)) :=
  piW (pi_range3 hg hm (pa_cons ha (pa_cons hb (pa_cons hc pa_nil (by rw [he3]; rfl)) (by rw [he2, he3])) (by rw [he, he2])) hs hpl) fun σ H R ⟨fx, M, L, F, Q0, E0, sr, he, hq, hx⟩ =>
  ⟨fx, M, L, F, _, E0, sr, he, fun d M1 v F1 H1 q s1 sr1 => ⟨fx, M1, _, F1, _, E0, sr1, q, fun d2 M2 w F2 H2 q2 s2 sr2 => ⟨fx, M2, _, F2, _, E0, sr2, q2, fun d3 M3 u F3 H3 q3 s3 sr3 => (by
    obtain ⟨i, rfl, q5⟩ := asI_iff.mp q3
    obtain ⟨j, rfl, q6⟩ := asI_iff.mp q5
    obtain ⟨c, rfl, hr, q4⟩ := asI_iff.mp q6
    have := sr3.int; subst this
    have := sr3.pop.int; subst this
    have := sr3.pop.pop.int; subst this
    refine ⟨i, j, c, (PySem.Builtin.Range.rangeSize i j c).toNat, rfl, ⟨hr.1, hr.2.1, hr.2.2, (Int.toNat_of_nonneg (rangeSize_nonneg i j c hr.1)).symm⟩, hq _ _ M3 _ F3 H3 q4 (s1.trans (s2.trans s3)) sr3.pop.pop.pop walks_rangeC⟩),
    fun C M' F' H' z s sr' => hx C M' F' H' z (s1.trans (s2.trans s)) sr'.pop.pop⟩, fun C M' F' H' z s sr' => hx C M' F' H' z (s1.trans s) sr'.pop⟩, hx⟩
/-! xs[::-1] -/
theorem Rps.rev {K : PySem.W.Frag} {F H : Hp} : ∀ {l : List D} {vs : List V}, Rps K F H l vs [] → ∀ {m : List D} {ws : List V}, Rps K F H m ws [] → Rps K F H (l.reverse ++ m) (vs.reverse ++ ws) []
  | [], _, h, m, ws, k => by cases h; exact k
  | d :: l, _, h, m, ws, k => by
    generalize hz : ([] : List Addr) = z at h
    cases h with
    | cons p q =>
      rename_i f g
      obtain ⟨rfl, rfl⟩ := List.append_eq_nil_iff.mp hz.symm
      have := q.rev (Rps.cons p k)
      simpa using this
def dRev (ea : DE) : DE := fun M Q E => ea M (fun d M1 => dSlS.seqL d fun l => D.noOwns l = true ∧ Q (.own l.reverse) M1) E
def dRevS (i : Nat) : DE := fun M Q E => getO (M.at i) fun d => dSlS.seqL d fun l => D.noOwns l = true ∧ Q (.own l.reverse) M
theorem d_rev {k : Nat} {p1 p2 p3 : Pos} (he : PE X e (liftE X.K W (ea))) : PE X (.Subscript e (.Slice none none (some (.UnaryOp .USub (.Constant (.int 1) k p1) p2)) p3) pos) (liftE X.K W (dRev ea)) :=
  peW (pe_revL he) fun σ H Q ⟨fx, M, L, F, Q0, E0, sr, he, hq, hx⟩ => ⟨fx, M, L, F, _, E0, sr, he, fun d M0 v F0 H0 q0 s0 sr0 => (by
    obtain ⟨f, p⟩ := sr0.top
    obtain ⟨l, a, vs, g, ⟨n, q4⟩, rfl, hs, rr⟩ := seqL_ok sr0.sub p q0
    rw [Rps.clean _ _ _ n rr] at rr
    refine ⟨a, vs, rfl, hs, fun p hp => ?_⟩
    have r2 : Rps X.K F0 H0 l.reverse vs.reverse [] := by simpa using rr.rev .nil
    exact hq _ M0 _ F0 _ q4 s0 (sr0.pop.ownOf r2 hp)), hx⟩
theorem d_revS {i k : Nat} {p1 p2 p3 : Pos} (ha : PE X e (tVar i)) : PE X (.Subscript e (.Slice none none (some (.UnaryOp .USub (.Constant (.int 1) k p1) p2)) p3) pos) (liftE X.K W (dRevS i)) :=
  peW (pe_revL ha) fun σ H Q ⟨fx, M, L, F, Q0, E0, sr, he, hq, hx⟩ => by
    obtain ⟨d, hd, q3⟩ := getO_iff.mp he
    obtain ⟨v, f, hv, p⟩ := sr.at (ms_at.mp hd)
    obtain ⟨l, a, vs, g, ⟨n, q4⟩, rfl, hs, rr⟩ := seqL_ok sr.sub p q3
    rw [Rps.clean _ _ _ n rr] at rr
    refine ⟨.ref a, hv, a, vs, rfl, hs, fun p hp => ?_⟩
    have r2 : Rps X.K F H l.reverse vs.reverse [] := by simpa using rr.rev .nil
    exact hq _ M _ F _ q4 (Same.refl _) (sr.ownOf r2 hp)
/-! in, not in -/
def inD (x : D) (l : List D) : Bool := l.any fun z => D.eqv z x
theorem toPs_any (x : D) : ∀ l : List D, ((D.toPs l).any fun z => PyData.eqv z x.toP) = inD x l
  | [] => rfl
  | d :: l => by
    show (PyData.eqv d.toP x.toP || (D.toPs l).any fun z => PyData.eqv z x.toP) = (D.eqv d x || inD x l)
    rw [toPs_any x l]; rfl
def lsOf (d : D) (k : List D → Prop) : Prop := match d with
  | .lst l => k l
  | .own l => k l
  | .tup l => k l
  | _ => False
/-- x in a list or a tuple of data -/
def rInX (K : PySem.W.Frag) (g : Bool → Bool) : R2 := fun x y H Q => ∃ d ds, Dp K H x d ∧ (Dp K H y (.list ds) ∧ SeqAt.shaped (.list ds) = true ∨ Dp K H y (.tuple ds) ∧ SeqAt.shaped (.tuple ds) = true) ∧ SeqAt.shaped d = true ∧ Q (.bl (g (ds.any fun z => PyData.eqv z d))) H
theorem op_inX (hu : X.A.units + 65 < cLine) : OpR X (compareOp .In) (rInX X.K id) := by
  rintro pins s σ H x y v u Q I rx ry ⟨d, ds, hd, he, sd, q⟩
  rcases he with ⟨he, se⟩ | ⟨he, se⟩
  · exact op_inD hu pins s σ H x y v u Q I rx ry ⟨d, ds, hd, he, sd, se, q⟩
  · obtain ⟨as, r1⟩ := Dp.reads I d x v hd rx
    obtain ⟨bs, r2⟩ := Dp.reads I (.tuple ds) y u he ry
    exact SeqAt.in_tuple_reads r2 r1 (SeqAt.canLay_of_shaped se) (SeqAt.canLay_of_shaped sd) (room_in_shaped sd hu) ⟨.bl _, H, I, rfl, q⟩
theorem op_ninX (hu : X.A.units + 65 < cLine) : OpR X (compareOp .NotIn) (rInX X.K not) := by
  rintro pins s σ H x y v u Q I rx ry ⟨d, ds, hd, he, sd, q⟩
  rcases he with ⟨he, se⟩ | ⟨he, se⟩
  · exact op_notInD hu pins s σ H x y v u Q I rx ry ⟨d, ds, hd, he, sd, se, q⟩
  · obtain ⟨as, r1⟩ := Dp.reads I d x v hd rx
    obtain ⟨bs, r2⟩ := Dp.reads I (.tuple ds) y u he ry
    exact SeqAt.notIn_tuple_reads r2 r1 (SeqAt.canLay_of_shaped se) (SeqAt.canLay_of_shaped sd) (room_in_shaped sd hu) ⟨.bl _, H, I, rfl, q⟩
def gIn : D → D → (D → Prop) → Prop := fun x y k => lsOf y fun l => eqOk x y ∧ k (.bl (inD x l))
def gNin : D → D → (D → Prop) → Prop := fun x y k => lsOf y fun l => eqOk x y ∧ k (.bl (!inD x l))
theorem opd_in : OpD X (rInX X.K id) gIn := fun {fx M L σ F H v w x y k} sr h => by
  obtain ⟨f, p⟩ := sr.top
  obtain ⟨g, q⟩ := sr.pop.top
  cases y <;> try (exact h.elim)
  all_goals
    obtain ⟨h0, h⟩ := h
    obtain ⟨h1, h2, h3, h4⟩ := eqOk_ok h0
    refine ⟨_, _, h, .bl _, fun Q z => ⟨_, _, Rp.dp sr.sub _ _ _ h1 q, ?_, h3, by rw [toPs_any]; exact z⟩⟩
    first | exact .inl ⟨Rp.dp sr.sub _ _ _ h2 p, h4⟩ | exact .inr ⟨Rp.dp sr.sub _ _ _ h2 p, h4⟩
theorem opd_nin : OpD X (rInX X.K not) gNin := fun {fx M L σ F H v w x y k} sr h => by
  obtain ⟨f, p⟩ := sr.top
  obtain ⟨g, q⟩ := sr.pop.top
  cases y <;> try (exact h.elim)
  all_goals
    obtain ⟨h0, h⟩ := h
    obtain ⟨h1, h2, h3, h4⟩ := eqOk_ok h0
    refine ⟨_, _, h, .bl _, fun Q z => ⟨_, _, Rp.dp sr.sub _ _ _ h1 q, ?_, h3, by rw [toPs_any]; exact z⟩⟩
    first | exact .inl ⟨Rp.dp sr.sub _ _ _ h2 p, h4⟩ | exact .inr ⟨Rp.dp sr.sub _ _ _ h2 p, h4⟩
abbrev dIn : DE → DE → DE := dBin gIn
abbrev dNin : DE → DE → DE := dBin gNin
theorem d_in {k : Nat} (hr : Room k X.A) (ha : PE X a (liftE X.K W (ea))) (hb : PE X b (liftE X.K W (eb))) (hm : behindInMarks .In b = false := by rfl) : PE X (.Compare a [.In] [b] pos) (liftE X.K W (dIn ea eb)) := d_cmp (op_inX (by have := hr.un; omega)) opd_in ha hb hm
theorem d_nin {k : Nat} (hr : Room k X.A) (ha : PE X a (liftE X.K W (ea))) (hb : PE X b (liftE X.K W (eb))) (hm : behindInMarks .NotIn b = false := by rfl) : PE X (.Compare a [.NotIn] [b] pos) (liftE X.K W (dNin ea eb)) := d_cmp (op_ninX (by have := hr.un; omega)) opd_nin ha hb hm
theorem t_in {k : Nat} (hr : Room k X.A) (ha : PE X a (liftE X.K W (ea))) (hb : PE X b (liftE X.K W (eb))) (hm : behindInMarks .In b = false := by rfl) : PT X (.Compare a [.In] [b] pos) (liftT X.K W (dT (dIn ea eb))) := t_cmp (op_inX (by have := hr.un; omega)) opd_in ha hb hm
theorem t_nin {k : Nat} (hr : Room k X.A) (ha : PE X a (liftE X.K W (ea))) (hb : PE X b (liftE X.K W (eb))) (hm : behindInMarks .NotIn b = false := by rfl) : PT X (.Compare a [.NotIn] [b] pos) (liftT X.K W (dT (dNin ea eb))) := t_cmp (op_ninX (by have := hr.un; omega)) opd_nin ha hb hm
/-! is True, is False -/
def gIsB : D → D → (D → Prop) → Prop := fun x y k => asB x fun i => asB y fun j => k (.bl (decide (i = j)))
def gNotB : D → D → (D → Prop) → Prop := fun x y k => asB x fun i => asB y fun j => k (.bl (!decide (i = j)))
theorem opd_isB : OpD X rIsB gIsB := fun {fx M L σ F H v w x y k} sr h => by
  obtain ⟨i, rfl, h1⟩ := asB_iff.mp h
  obtain ⟨j, rfl, h2⟩ := asB_iff.mp h1
  have := sr.bl; subst this
  have := sr.pop.bl; subst this
  exact ⟨_, _, h2, .bl _, fun Q z => ⟨_, _, rfl, rfl, z⟩⟩
theorem opd_notB : OpD X rNotB gNotB := fun {fx M L σ F H v w x y k} sr h => by
  obtain ⟨i, rfl, h1⟩ := asB_iff.mp h
  obtain ⟨j, rfl, h2⟩ := asB_iff.mp h1
  have := sr.bl; subst this
  have := sr.pop.bl; subst this
  exact ⟨_, _, h2, .bl _, fun Q z => ⟨_, _, rfl, rfl, z⟩⟩
abbrev dIsB : DE → DE → DE := dBin gIsB
abbrev dNotB : DE → DE → DE := dBin gNotB
theorem d_isB (ha : PE X a (liftE X.K W (ea))) (hb : PE X b (liftE X.K W (eb))) : PE X (.Compare a [.Is] [b] pos) (liftE X.K W (dIsB ea eb)) := d_cmp op_isBl opd_isB ha hb (nomark _)
theorem d_notB (ha : PE X a (liftE X.K W (ea))) (hb : PE X b (liftE X.K W (eb))) : PE X (.Compare a [.IsNot] [b] pos) (liftE X.K W (dNotB ea eb)) := d_cmp op_notBl opd_notB ha hb (nomark _)
theorem t_isB (ha : PE X a (liftE X.K W (ea))) (hb : PE X b (liftE X.K W (eb))) : PT X (.Compare a [.Is] [b] pos) (liftT X.K W (dT (dIsB ea eb))) := t_cmp op_isBl opd_isB ha hb (nomark _)
theorem t_notB (ha : PE X a (liftE X.K W (ea))) (hb : PE X b (liftE X.K W (eb))) : PT X (.Compare a [.IsNot] [b] pos) (liftT X.K W (dT (dNotB ea eb))) := t_cmp op_notBl opd_notB ha hb (nomark _)
theorem tg_tupK {K : PySem.W.Frag} {is : List Nat} {ts : List Expr} {t : TGs} {n : Nat} (hk : X.K = K) (tg : Tgs X ts t is) (hl : ts.length = n) : TgOk X (gTup K n t) (tgTup is) is := by subst hk; exact tg_tup tg hl
end
end TL
/-! # plain laws of fractions and lists -/
namespace TL
open PySem PyProof.Rows L2
theorem cancel_r {x y d : Int} (hd : d ≠ 0) (h : x * d = y * d) : x = y := Int.eq_of_mul_eq_mul_right hd h
theorem fr_congr {a b c d : Int} (hb : b ≠ 0) (hd : d ≠ 0) (h : a * d = c * b) : fr a b = fr c d := by
  refine fr_eq (fr_isF hd) hb ?_
  have k := fr_cross c d hd
  refine cancel_r hd ?_
  grind
theorem fr_inj {a b c d : Int} (hb : b ≠ 0) (hd : d ≠ 0) (h : fr a b = fr c d) : a * d = c * b := by
  have k1 := fr_cross a b hb
  have k2 := fr_cross c d hd
  rw [h] at k1
  have h2 : (fr c d).2 ≠ 0 := by have := fr_pos (a := c) hd; omega
  refine cancel_r h2 ?_
  grind
/-- one more summand, not brought to lowest terms -/
def facc (s f : Int × Int) : Int × Int := (s.1 * f.2 + f.1 * s.2, s.2 * f.2)
def fpro (s f : Int × Int) : Int × Int := (s.1 * f.1, s.2 * f.2)
theorem fr_2ne {a b : Int} (hb : b ≠ 0) : (fr a b).2 ≠ 0 := by have := fr_pos (a := a) hb; omega
theorem fadd_fr {t b : Int} (hb : b ≠ 0) {f : Int × Int} (hf : f.2 ≠ 0) : fadd (fr t b) f = fr (facc (t, b) f).1 (facc (t, b) f).2 := by
  have k := fr_cross t b hb
  refine fr_congr (Int.mul_ne_zero (fr_2ne hb) hf) (Int.mul_ne_zero hb hf) ?_
  simp only [facc]
  grind
theorem fmul_fr {t b : Int} (hb : b ≠ 0) {f : Int × Int} (hf : f.2 ≠ 0) : fmul (fr t b) f = fr (t * f.1) (b * f.2) := by
  have k := fr_cross t b hb
  refine fr_congr (Int.mul_ne_zero (fr_2ne hb) hf) (Int.mul_ne_zero hb hf) ?_
  grind
theorem fdivi_fr {t b : Int} (hb : b ≠ 0) {f : Int × Int} (hf : f.1 ≠ 0) : fdivi (fr t b) f = fr (t * f.2) (b * f.1) := by
  have k := fr_cross t b hb
  refine fr_congr (Int.mul_ne_zero (fr_2ne hb) hf) (Int.mul_ne_zero hb hf) ?_
  grind
theorem isF_01 : IsF (0, 1) := ⟨by decide, by decide⟩
theorem isF_11 : IsF (1, 1) := ⟨by decide, by decide⟩
theorem IsF.ne {p : Int × Int} (h : IsF p) : p.2 ≠ 0 := by have := h.1; omega
theorem fadd_isF {p q : Int × Int} (hp : p.2 ≠ 0) (hq : q.2 ≠ 0) : IsF (fadd p q) := fr_isF (Int.mul_ne_zero hp hq)
theorem fsub_isF {p q : Int × Int} (hp : p.2 ≠ 0) (hq : q.2 ≠ 0) : IsF (fsub p q) := fr_isF (Int.mul_ne_zero hp hq)
theorem fmul_isF {p q : Int × Int} (hp : p.2 ≠ 0) (hq : q.2 ≠ 0) : IsF (fmul p q) := fr_isF (Int.mul_ne_zero hp hq)
theorem fdivi_isF {p q : Int × Int} (hp : p.2 ≠ 0) (hq : q.1 ≠ 0) : IsF (fdivi p q) := fr_isF (Int.mul_ne_zero hp hq)
theorem fsub_self {p : Int × Int} (hp : IsF p) : fsub p p = (0, 1) := by
  refine fr_eq isF_01 (Int.mul_ne_zero hp.ne hp.ne) ?_
  simp only
  grind
theorem fdivi_self {p : Int × Int} (hp : IsF p) (h0 : p.1 ≠ 0) : fdivi p p = (1, 1) := by
  refine fr_eq isF_11 (Int.mul_ne_zero hp.ne h0) ?_
  simp only
  grind
theorem fsub_tel {a b c : Int × Int} (ha : a.2 ≠ 0) (hb : b.2 ≠ 0) (hc : c.2 ≠ 0) : fadd (fsub a b) (fsub c a) = fsub c b := by
  have k1 := fr_cross (a.1 * b.2 - b.1 * a.2) (a.2 * b.2) (Int.mul_ne_zero ha hb)
  have k2 := fr_cross (c.1 * a.2 - a.1 * c.2) (c.2 * a.2) (Int.mul_ne_zero hc ha)
  have n1 := fr_2ne (a := a.1 * b.2 - b.1 * a.2) (Int.mul_ne_zero ha hb)
  have n2 := fr_2ne (a := c.1 * a.2 - a.1 * c.2) (Int.mul_ne_zero hc ha)
  unfold fadd fsub
  refine fr_congr (Int.mul_ne_zero n1 n2) (Int.mul_ne_zero hc hb) ?_
  generalize (fr (a.1 * b.2 - b.1 * a.2) (a.2 * b.2)).1 = x1 at *
  generalize (fr (a.1 * b.2 - b.1 * a.2) (a.2 * b.2)).2 = y1 at *
  generalize (fr (c.1 * a.2 - a.1 * c.2) (c.2 * a.2)).1 = x2 at *
  generalize (fr (c.1 * a.2 - a.1 * c.2) (c.2 * a.2)).2 = y2 at *
  refine cancel_r (Int.mul_ne_zero (Int.mul_ne_zero ha ha) (Int.mul_ne_zero ha (Int.mul_ne_zero hb hc))) ?_
  grind
theorem fdivi_tel {a b c : Int × Int} (ha : a.2 ≠ 0) (hb : b.2 ≠ 0) (hc : c.2 ≠ 0) (ha0 : a.1 ≠ 0) (hb0 : b.1 ≠ 0) : fmul (fdivi a b) (fdivi c a) = fdivi c b := by
  have k1 := fr_cross (a.1 * b.2) (a.2 * b.1) (Int.mul_ne_zero ha hb0)
  have k2 := fr_cross (c.1 * a.2) (c.2 * a.1) (Int.mul_ne_zero hc ha0)
  have n1 := fr_2ne (a := a.1 * b.2) (Int.mul_ne_zero ha hb0)
  have n2 := fr_2ne (a := c.1 * a.2) (Int.mul_ne_zero hc ha0)
  unfold fmul fdivi
  refine fr_congr (Int.mul_ne_zero n1 n2) (Int.mul_ne_zero hc hb0) ?_
  generalize (fr (a.1 * b.2) (a.2 * b.1)).1 = x1 at *
  generalize (fr (a.1 * b.2) (a.2 * b.1)).2 = y1 at *
  generalize (fr (c.1 * a.2) (c.2 * a.1)).1 = x2 at *
  generalize (fr (c.1 * a.2) (c.2 * a.1)).2 = y2 at *
  refine cancel_r (Int.mul_ne_zero (Int.mul_ne_zero ha ha0) (Int.mul_ne_zero ha (Int.mul_ne_zero hb0 hc))) ?_
  grind
/-! the sum of a row -/
def ftot (l : List (Int × Int)) : Int × Int := l.foldl facc (0, 1)
def fsumOf (l : List (Int × Int)) : Int × Int := fr (ftot l).1 (ftot l).2
theorem facc_comm (s f g : Int × Int) : facc (facc s f) g = facc (facc s g) f := by
  unfold facc
  refine Prod.ext ?_ ?_ <;> simp only <;> grind
theorem foldl_facc_snoc (s f : Int × Int) : ∀ l : List (Int × Int), l.foldl facc (facc s f) = facc (l.foldl facc s) f
  | [] => rfl
  | g :: l => by
    show l.foldl facc (facc (facc s f) g) = facc (l.foldl facc (facc s g)) f
    rw [facc_comm, foldl_facc_snoc]
theorem foldl_facc_rev (s : Int × Int) : ∀ l : List (Int × Int), l.reverse.foldl facc s = l.foldl facc s
  | [] => rfl
  | g :: l => by
    rw [List.reverse_cons, List.foldl_append, foldl_facc_rev s l]
    exact (foldl_facc_snoc s g l).symm
theorem fsumOf_rev (l : List (Int × Int)) : fsumOf l.reverse = fsumOf l := by
  unfold fsumOf ftot
  rw [foldl_facc_rev]
def Ne0 (l : List (Int × Int)) : Prop := ∀ f ∈ l, f.2 ≠ 0
theorem foldl_facc_ne {l : List (Int × Int)} : ∀ {s : Int × Int}, s.2 ≠ 0 → Ne0 l → (l.foldl facc s).2 ≠ 0 := by
  induction l with
  | nil => intro s h _; exact h
  | cons f l ih => intro s h n; exact ih (Int.mul_ne_zero h (n f (List.mem_cons_self ..))) fun g hg => n g (List.mem_cons_of_mem _ hg)
/-- sums from alike starts are alike -/
theorem foldl_facc_alike {l : List (Int × Int)} : ∀ {s t : Int × Int}, s.1 * t.2 = t.1 * s.2 → (l.foldl facc s).1 * (l.foldl facc t).2 = (l.foldl facc t).1 * (l.foldl facc s).2 := by
  induction l with
  | nil => intro s t h; exact h
  | cons f l ih =>
    intro s t h
    refine ih ?_
    simp only [facc]
    grind
/-! cuts -/
theorem cutD_from (l : List D) (k : Nat) : cutD l (some (k : Int)) none = l.drop k := by
  unfold cutD
  rw [HT.sIx_nat, HT.sIx_none]
  by_cases h : k ≤ l.length
  · rw [Nat.min_eq_left h, List.take_of_length_le (by rw [List.length_drop]; omega)]
  · rw [Nat.min_eq_right (by omega), List.drop_length, List.drop_eq_nil_of_le (by omega)]
    simp
theorem cutD_to (l : List D) (k : Nat) : cutD l none (some (k : Int)) = l.take k := by
  unfold cutD
  rw [HT.sIx_nat, HT.sIx_none]
  show (l.drop 0).take (min k l.length - 0) = l.take k
  rw [List.drop_zero, Nat.sub_zero]
  by_cases h : k ≤ l.length
  · rw [Nat.min_eq_left h]
  · rw [Nat.min_eq_right (by omega), List.take_of_length_le (by omega), List.take_of_length_le (by omega)]
theorem noOwns_map {α : Type} (f : α → D) (h : ∀ x, (f x).noOwn = true) : ∀ l : List α, D.noOwns (l.map f) = true
  | [] => rfl
  | x :: l => by rw [List.map_cons, noOwns_cons, h x, noOwns_map f h l]; rfl
theorem noOwns_fD (l : List (Int × Int)) : D.noOwns (l.map fD) = true := noOwns_map fD (fun _ => rfl) l
theorem frzs_fD (l : List (Int × Int)) : D.frzs (l.map fD) = l.map fD := frzs_of _ (noOwns_fD l)
theorem rngD_drop {n : Int} {k : Nat} {x : D} {rest : List D} (h : x :: rest = (rngD 0 n).drop k) : x = .int (k : Int) ∧ rest = (rngD 0 n).drop (k + 1) ∧ k < n.toNat := by
  have hl : k < (rngD 0 n).length := by
    rcases Nat.lt_or_ge k (rngD 0 n).length with h1 | h1
    · exact h1
    · rw [List.drop_eq_nil_of_le h1] at h; cases h
  rw [List.drop_eq_getElem_cons hl] at h
  obtain ⟨rfl, rfl⟩ := List.cons.inj h
  unfold rngD at hl ⊢
  rw [List.length_map, List.length_range] at hl
  refine ⟨?_, rfl, by omega⟩
  rw [List.getElem_map, List.getElem_range]
  simp
theorem rngD_end {n : Int} {k : Nat} (h : [] = (rngD 0 n).drop k) : n.toNat ≤ k := by
  have := congrArg List.length h
  unfold rngD at this
  rw [List.length_drop, List.length_map, List.length_range, List.length_nil] at this
  omega
theorem ixl_last {α : Type} (l : List α) (h : l ≠ []) : ixl l (-1) = some (l.getLast h) := by
  have hl : 0 < l.length := List.length_pos_iff.mpr h
  unfold ixl
  rw [if_neg (by decide), if_pos (by omega)]
  rw [show ((-1 : Int) + l.length).toNat = l.length - 1 by omega, List.getLast_eq_getElem]
  exact List.getElem?_eq_getElem (by omega)
theorem getLast_fD (l : List (Int × Int)) (h : l ≠ []) : (l.map fD).getLast (by simpa using h) = fD (l.getLast h) := List.getLast_map ..
/-- min and max of the script's length -/
theorem fit (m a : Int) (ha : 1 ≤ a) (hm : 0 ≤ m) : 1 ≤ (if 1 > if a < m then a else m then 1 else if a < m then a else m) ∧ (if 1 > if a < m then a else m then 1 else if a < m then a else m) ≤ a := by
  split <;> split <;> omega
theorem compL_ind {o : Option Nat} {its0 : List D} {tg : DG} {tt : DT} {te : DE} {vs : List Nat} {Q : List D → MS → Prop} (I : List D → List D → MS → Prop)
    (hn : ∀ acc M, I [] acc M → compL o its0 tg tt te vs [] acc M Q) (hs : ∀ x rest acc M, (∀ acc M, I rest acc M → compL o its0 tg tt te vs rest acc M Q) → I (x :: rest) acc M → compL o its0 tg tt te vs (x :: rest) acc M Q) :
    ∀ its acc M, I its acc M → compL o its0 tg tt te vs its acc M Q
  | [], acc, M, h => hn acc M h
  | x :: rest, acc, M, h => hs x rest acc M (fun acc M h => compL_ind I hn hs rest acc M h) h
/-- a comprehension that leaves the state as it is: what the test lets by, mapped -/
theorem compL_fm {α : Type} {o : Option Nat} {its0 : List D} {tg : DG} {tt : DT} {te : DE} {vs : List Nat} {Q : List D → MS → Prop} {M : MS} (enc : α → D) (p : α → Bool) (g : α → D) (l : List α)
    (ho : ∀ i, o = some i → M.at i = some (.own its0))
    (hs : ∀ x ∈ l, ∀ (acc : List D) (C : List D → MS → Prop), (p x = true → C (acc ++ [g x]) M) → (p x = false → C acc M) →
      tg (enc x) M fun M1 => stM M1 fun M1 => tt M1 (fun b M2 => iteP b (te M2 (fun y M3 => stM (wipeM M3 vs) fun M4 => C (acc ++ [y]) M4) noX) (stM (wipeM M2 vs) fun M4 => C acc M4)) noX)
    (hq : Q ((l.filter p).map g) M) : compL o its0 tg tt te vs (l.map enc) [] M Q := by
  have gen : ∀ (suf : List α) (acc : List D), (∀ x ∈ suf, x ∈ l) → Q (acc ++ (suf.filter p).map g) M → compL o its0 tg tt te vs (suf.map enc) acc M Q := by
    intro suf
    induction suf with
    | nil => intro acc _ h; exact ⟨ho, by simpa using h⟩
    | cons x suf ih =>
      intro acc hm h
      refine ⟨ho, hs x (hm x (List.mem_cons_self ..)) acc (fun a M' => compL o its0 tg tt te vs (suf.map enc) a M' Q) (fun px => ?_) (fun px => ?_)⟩
      · exact ih _ (fun y hy => hm y (List.mem_cons_of_mem _ hy)) (by simpa [List.filter_cons, px] using h)
      · exact ih _ (fun y hy => hm y (List.mem_cons_of_mem _ hy)) (by simpa [List.filter_cons, px] using h)
  exact gen l [] (fun x hx => hx) (by simpa using hq)
theorem compL_map {α : Type} {o : Option Nat} {its0 : List D} {tg : DG} {te : DE} {vs : List Nat} {Q : List D → MS → Prop} {M : MS} (enc : α → D) (g : α → D) (l : List α)
    (ho : ∀ i, o = some i → M.at i = some (.own its0))
    (hs : ∀ x ∈ l, ∀ C : D → MS → Prop, C (g x) M → tg (enc x) M fun M1 => stM M1 fun M1 => te M1 (fun y M3 => stM (wipeM M3 vs) fun M4 => C y M4) noX)
    (hq : Q (l.map g) M) : compL o its0 tg tYesD te vs (l.map enc) [] M Q := by
  refine compL_fm enc (fun _ => true) g l ho (fun x hx acc C h1 _ => ?_) (by rw [List.filter_eq_self.mpr (fun _ _ => rfl)]; exact hq)
  exact hs x hx (fun y M4 => C (acc ++ [y]) M4) (h1 rfl)
/-- a comprehension whose parts change the state -/
theorem compL_inv {α : Type} {o : Option Nat} {its0 : List D} {tg : DG} {tt : DT} {te : DE} {vs : List Nat} {Q : List D → MS → Prop} (enc : α → D) (I : List α → List D → MS → Prop) (l : List α) (M : MS) (h0 : I [] [] M)
    (hs : ∀ pre x suf acc M, l = pre ++ x :: suf → I pre acc M → (∀ i, o = some i → M.at i = some (.own its0)) ∧ ∀ C : List D → MS → Prop, (∀ acc M, I (pre ++ [x]) acc M → C acc M) →
      tg (enc x) M fun M1 => stM M1 fun M1 => tt M1 (fun b M2 => iteP b (te M2 (fun y M3 => stM (wipeM M3 vs) fun M4 => C (acc ++ [y]) M4) noX) (stM (wipeM M2 vs) fun M4 => C acc M4)) noX)
    (hn : ∀ acc M, I l acc M → (∀ i, o = some i → M.at i = some (.own its0)) ∧ Q acc M) : compL o its0 tg tt te vs (l.map enc) [] M Q := by
  have gen : ∀ (suf pre : List α) (acc : List D) (M : MS), l = pre ++ suf → I pre acc M → compL o its0 tg tt te vs (suf.map enc) acc M Q := by
    intro suf
    induction suf with
    | nil =>
      intro pre acc M e i
      rw [List.append_nil] at e
      subst e
      exact hn acc M i
    | cons x suf ih =>
      intro pre acc M e i
      obtain ⟨h1, h2⟩ := hs pre x suf acc M e i
      exact ⟨h1, h2 (fun a M' => compL o its0 tg tt te vs (suf.map enc) a M' Q) fun acc' M' i' => ih (pre ++ [x]) acc' M' (by rw [e]; simp) i'⟩
  exact gen l [] [] M rfl h0
end TL
/-! # more rules: tuple(..), clear, insert -/
namespace TL
open PySem PyProof.Rows L2
section
variable {X : Cx} {W : WX} {pos : Pos} {e a b c : Expr} {ea eb ec : DE}
def rTupOf (K : PySem.W.Frag) : List V → Hp → VK → Prop := fun xs H Q => ∃ p ys, xs = [.ref p] ∧ ((SqL K H p ys ∧ ∀ l, H l = none → Q (.ref l) (upd H l (.tup ys))) ∨ (SqT K H p ys ∧ Q (.ref p) H))
def dTupOf (ea : DE) : DE := fun M Q E => ea M (fun x M1 => seqItems x fun l => D.noOwns l = true ∧ Q (.tup l) M1) E
theorem d_tupOf (h : PE X e (tCB (rTupOf X.K) (tCons (liftB X.K W ea) tNil))) : PE X e (liftE X.K W (dTupOf ea)) :=
  peW h fun σ H Q ⟨fx, M, L, F, Q0, E0, sr, he, hq, hx⟩ => ⟨fx, M, L, F, _, E0, sr, he, fun d M1 v f F1 H1 q1 s1 sr1 p => (by
    have new : ∀ {l : List D} {a : Addr} {vs : List V} {g : List Addr}, D.noOwns l = true → Q0 (.tup l) M1 → SqL X.K H1 a vs → Rps X.K F1 H1 l vs g → rTupOf X.K [.ref a] H1 Q := fun {l a vs g} n q2 hs rr => by
      rw [Rps.clean _ _ _ n rr] at rr
      refine ⟨a, vs, rfl, .inl ⟨hs, fun p hp => ?_⟩⟩
      obtain ⟨t1, t2⟩ := (sr1.pushAll rr).tupNew rr.len.symm hp
      exact hq _ M1 _ _ _ q2 (s1.trans t2) t1
    cases p <;> try (exact q1.elim)
    · rename_i q; exact new q1.1 q1.2 (sr1.sub.seq q) (rps_ints _)
    · rename_i q r
      rw [Rps.clean _ _ _ q1.1 r] at r
      exact ⟨_, _, rfl, .inr ⟨Same.sqT sr1.sub q, hq _ M1 _ F1 _ q1.2 s1 (sr1.push (.tup q r))⟩⟩
    · rename_i q r; exact new q1.1 q1.2 (SqL.of (sr1.sub _ _ q)) r
    · rename_i q e r; exact new q1.1 q1.2 (SqL.of e) r), hx⟩
def dClear (i : Nat) : DE := fun M Q _ => ownAt M i fun _ put => Q .non (put [])
theorem d_clear {i : Nat} (h : PE X e (tBM X.K "list" rClear (tVar i) tNil)) : PE X e (liftE X.K W (dClear i)) := peW h fun σ H Q ⟨fx, M, L, F, Q0, E0, sr, he, hq, hx⟩ => by
  obtain ⟨b, l, e1, q⟩ := ownAt_iff he
  obtain ⟨a0, vs0, f0, hv, hH0, _⟩ := sr.ownAt e1
  refine ⟨_, hv, .inl ⟨rfl, vs0, SqL.of hH0⟩, ?_⟩
  obtain ⟨a, vs, rfl', hH, hlen, mk⟩ := SR.write (Z := []) (ds' := []) sr e1 hv
  cases rfl'
  refine ⟨_, vs, rfl, rfl, hH, hq .non _ .non F _ q (Same.refl _) ?_⟩
  refine (mk [] fun f gs r1 r2 => ?_).push .non
  cases r2
  exact ⟨[], .nil, fun x => by simp [cnt]⟩
def insL (l : List D) (i : Nat) (d : D) : List D := l.take i ++ [d] ++ l.drop i
def rInsert : V → List V → Hp → VK → Prop := fun x vs H Q => ∃ (l : Addr) (xs : List V) (i : Int) (y : V), x = .ref l ∧ vs = [.int i, y] ∧ H l = some (.lst xs) ∧ xs.length < sizeLine ∧ 0 ≤ i ∧ i < 2 ^ 63 ∧
    Q .non (upd H l (.lst (xs.take i.toNat ++ [y] ++ xs.drop i.toNat)))
def dIns (i : Nat) (ea eb : DE) : DE := fun M Q E => isOwnAt M i = true ∧ ea M (fun k M0 => eb M0 (fun d M1 => asI k fun j => d.noOwn = true ∧ 0 ≤ j ∧ j < 2 ^ 63 ∧ ownAt M1 i fun l put => D.noOwns l = true ∧ l.length ≤ 10000 ∧ Q .non (put (insL l j.toNat d))) E) E
theorem Rps.app0 {K : PySem.W.Frag} {F H : Hp} {l m : List D} {vs ws : List V} (h : Rps K F H l vs []) (k : Rps K F H m ws []) : Rps K F H (l ++ m) (vs ++ ws) [] := by simpa using h.append k
theorem Rps.take0 {K : PySem.W.Frag} {F H : Hp} {l : List D} {vs : List V} (h : Rps K F H l vs []) (n : Nat) : Rps K F H (l.take n) (vs.take n) [] := by simpa using h.cut 0 n
theorem Rps.drop0 {K : PySem.W.Frag} {F H : Hp} {l : List D} {vs : List V} (h : Rps K F H l vs []) (n : Nat) : Rps K F H (l.drop n) (vs.drop n) [] := by
  have := h.cut n l.length
  rwa [List.take_of_length_le (by rw [List.length_drop]; omega), List.take_of_length_le (by rw [List.length_drop, ← h.len]; omega)] at this
theorem d_ins {i : Nat} (h : PE X e (tBM X.K "list" rInsert (tVar i) (tCons (liftE X.K W ea) (tCons (liftE X.K W eb) tNil)))) : PE X e (liftE X.K W (dIns i ea eb)) := peW h fun σ H Q ⟨fx, M, L, F, Q0, E0, sr, ⟨ho, he⟩, hq, hx⟩ => by
  obtain ⟨b0, l0, e0⟩ := isOwnAt_iff ho
  obtain ⟨a0, vs0, f0, hv, hH0, _⟩ := sr.ownAt e0
  refine ⟨_, hv, .inl ⟨rfl, vs0, SqL.of hH0⟩, fx, M, L, F, _, E0, sr, he, fun k M0 u F0 H0 q0 s0 sr0 => ⟨fx, M0, _, F0, _, E0, sr0, q0, fun d M1 w F1 H1 q s1 sr1 => ?_, fun C M' F' H' z s sr' => hx C M' F' H' z (s0.trans s) sr'.pop⟩, hx⟩
  obtain ⟨j, rfl, n1, j0, j1, q⟩ := asI_iff.mp q
  obtain ⟨b, l, e1, n2, hl, q⟩ := ownAt_iff q
  have := sr1.pop.int; subst this
  obtain ⟨f1, p1⟩ := sr1.top
  obtain ⟨a, vs, rfl', hH, hlen, mk⟩ := SR.write (Z := [(w, d), (.int j, .int j)]) (ds' := insL l j.toNat d) sr1 e1 hv
  cases rfl'
  refine ⟨_, vs, j, w, rfl, rfl, hH, by rw [← hlen, sizeLine_eq]; omega, j0, j1, hq .non _ .non F1 _ q (s0.trans s1) ?_⟩
  refine (mk (vs.take j.toNat ++ [w] ++ vs.drop j.toNat) fun f gs r1 r2 => ?_).push .non
  have c1 := Rps.clean _ _ _ n2 r1
  subst c1
  have p1' := p1
  rw [Rp.clean _ _ _ n1 p1] at p1'
  exact ⟨[], ((r1.take0 _).app0 (.cons p1' .nil)).app0 (r1.drop0 _), fun x => by simp⟩
end
end TL
/-! # fractions as rationals -/
namespace TL
open PySem PyProof.Rows L2
/-- a rational's tree -/
def qD (q : Rat) : D := .tup [.int q.num, .int (q.den : Int)]
theorem noOwn_qD (q : Rat) : (qD q).noOwn = true := rfl
theorem frz_qD (q : Rat) : (qD q).frz = qD q := rfl
theorem eqv_qD (p q : Rat) : D.eqv (qD p) (qD q) = decide (p = q) := by
  simp only [qD, eqv_tup, eqvs_cons, eqv_int, eqvs_nil, Bool.and_true]
  by_cases h : p = q
  · subst h; simp
  · rw [decide_eq_false h]
    by_cases h1 : p.num = q.num
    · have h2 : ¬ p.den = q.den := fun h2 => h (Rat.ext h1 h2)
      have h3 : ¬ (p.den : Int) = (q.den : Int) := by omega
      simp [h1]; exact h3
    · simp [h1]
/-- sizes -/
def Qz (n : Nat) (q : Rat) : Prop := Sz n q.num ∧ Sz n (q.den : Int)
theorem Qz.mono {n m : Nat} {q : Rat} (h : Qz n q) (hm : n ≤ m) : Qz m q := ⟨h.1.mono hm, h.2.mono hm⟩
theorem qd_ne (q : Rat) : (q.den : Int) ≠ 0 := by have := q.den_pos; omega
theorem isF_rat (q : Rat) : IsF (q.num, (q.den : Int)) := ⟨by have := q.den_pos; simp only; omega, q.reduced⟩
theorem divInt_lt (a b : Int) (h : b ≠ 0) : (Rat.divInt a b).num * b = a * ((Rat.divInt a b).den : Int) := by
  have e : Rat.divInt (Rat.divInt a b).num ((Rat.divInt a b).den : Int) = Rat.divInt a b := Rat.num_divInt_den _
  exact (Rat.divInt_eq_divInt_iff (qd_ne _) h).mp e
theorem fr_rat {a b : Int} (h : b ≠ 0) : fr a b = ((Rat.divInt a b).num, ((Rat.divInt a b).den : Int)) := fr_eq (isF_rat _) h (divInt_lt a b h)
theorem fD_fr {a b : Int} (h : b ≠ 0) : fD (fr a b) = qD (Rat.divInt a b) := by rw [fr_rat h]; rfl
theorem qz_divInt {n : Nat} {a b : Int} (h : b ≠ 0) (ha : Sz n a) (hb : Sz n b) : Qz n (Rat.divInt a b) := by
  have e := fr_rat (a := a) h
  have h1 := fr_le1 (a := a) h
  have h2 := fr_le2 (a := a) h
  rw [e] at h1 h2
  exact ⟨ha.of_le h1, hb.of_le h2⟩
theorem rat_add (p q : Rat) : Rat.divInt (p.num * q.den + q.num * p.den) (p.den * q.den) = p + q := by
  rw [← Rat.divInt_add_divInt _ _ (qd_ne p) (qd_ne q), Rat.num_divInt_den, Rat.num_divInt_den]
theorem rat_sub (p q : Rat) : Rat.divInt (p.num * q.den - q.num * p.den) (p.den * q.den) = p - q := by
  rw [← Rat.divInt_sub_divInt _ _ (qd_ne p) (qd_ne q), Rat.num_divInt_den, Rat.num_divInt_den]
theorem rat_mul (p q : Rat) : Rat.divInt (p.num * q.num) (p.den * q.den) = p * q := by
  rw [← Rat.divInt_mul_divInt, Rat.num_divInt_den, Rat.num_divInt_den]
theorem rat_div (p q : Rat) : Rat.divInt (p.num * q.den) (p.den * q.num) = p / q := by
  rw [Rat.div_def, Rat.inv_def, ← Rat.divInt_mul_divInt, Rat.num_divInt_den]
theorem rat_lt (p q : Rat) : decide (p.num * (q.den : Int) < q.num * (p.den : Int)) = decide (p < q) := by simp [Rat.lt_iff]
theorem rat_num0 (q : Rat) : q.num = 0 ↔ q = 0 := Rat.num_eq_zero
theorem Sz.mul' {n m k : Nat} {x y : Int} (h : Sz n x) (g : Sz m y) (hk : n + m ≤ k) : Sz k (x * y) := (h.mul g).mono hk
theorem Qz.add {n m : Nat} {p q : Rat} (h : Qz n p) (g : Qz m q) : Qz (n + m + 1) (p + q) := by
  rw [← rat_add]
  exact qz_divInt (Int.mul_ne_zero (qd_ne p) (qd_ne q)) ((h.1.mul' g.2 (Nat.le_refl _)).add (g.1.mul' h.2 (by omega))) (h.2.mul' g.2 (by omega))
theorem Qz.sub {n m : Nat} {p q : Rat} (h : Qz n p) (g : Qz m q) : Qz (n + m + 1) (p - q) := by
  rw [← rat_sub]
  exact qz_divInt (Int.mul_ne_zero (qd_ne p) (qd_ne q)) ((h.1.mul' g.2 (Nat.le_refl _)).sub (g.1.mul' h.2 (by omega))) (h.2.mul' g.2 (by omega))
theorem Qz.mul {n m : Nat} {p q : Rat} (h : Qz n p) (g : Qz m q) : Qz (n + m) (p * q) := by
  rw [← rat_mul]
  exact qz_divInt (Int.mul_ne_zero (qd_ne p) (qd_ne q)) (h.1.mul g.1) (h.2.mul g.2)
theorem Qz.div {n m : Nat} {p q : Rat} (h : Qz n p) (g : Qz m q) (h0 : q ≠ 0) : Qz (n + m) (p / q) := by
  rw [← rat_div]
  exact qz_divInt (Int.mul_ne_zero (qd_ne p) (fun z => h0 ((rat_num0 q).mp z))) (h.1.mul g.2) (h.2.mul g.1)
theorem qz_0 : Qz 1 0 := ⟨by decide, by decide⟩
theorem qz_1 : Qz 1 1 := ⟨by decide, by decide⟩
theorem qD_0 : qD 0 = .tup [.int 0, .int 1] := rfl
theorem qD_1 : qD 1 = .tup [.int 1, .int 1] := rfl
theorem rat_div_nonneg {a b : Int} (ha : 0 ≤ a) (hb : 0 < b) : 0 ≤ Rat.divInt a b := (Rat.divInt_nonneg_iff_of_pos_right hb).mpr ha
theorem divInt_lt_iff {a b : Int} (hb : 0 < b) (c d : Int) (hd : 0 < d) : Rat.divInt a b < Rat.divInt c d ↔ a * d < c * b := by
  rw [Rat.divInt_eq_div, Rat.divInt_eq_div]
  have hb' : (0 : Rat) < (b : Rat) := by exact_mod_cast hb
  have hd' : (0 : Rat) < (d : Rat) := by exact_mod_cast hd
  have e : (c : Rat) / d * b = c * b / d := by rw [Rat.div_def, Rat.div_def, Rat.mul_assoc, Rat.mul_comm _ (b : Rat), ← Rat.mul_assoc]
  rw [Rat.div_lt_iff hb', e, Rat.lt_div_iff hd']
  exact_mod_cast Iff.rfl
theorem divInt_le_iff {a b : Int} (hb : 0 < b) (c d : Int) (hd : 0 < d) : Rat.divInt a b ≤ Rat.divInt c d ↔ a * d ≤ c * b := by
  have := divInt_lt_iff hd a b hb (a := c)
  rw [← Rat.not_lt, this]; omega
theorem rat_div_le1 {a b : Int} (hb : 0 < b) (ha : a ≤ b) : Rat.divInt a b ≤ 1 := by
  have := (divInt_le_iff hb 1 1 (by decide) (a := a)).mpr (by omega)
  have e : Rat.divInt 1 1 = 1 := by decide
  rwa [e] at this
/-- a written fraction -/
def dFr (q : Rat) : DE := dC (qD q)
theorem dFr_w {K : PySem.W.Frag} {W : WX} {q : Rat} {a b : Int} (ha : q.num = a) (hb : (q.den : Int) = b) (σ : L2.St) (H : Hp) (Q : VK) (h : liftE K W (dFr q) σ H Q) : liftE K W (dTup (aCons (dC (.int a)) (aCons (dC (.int b)) aNil))) σ H Q := by
  obtain ⟨fx, M, L, F, Q0, E0, sr, he, hq, hx⟩ := h
  subst ha hb
  exact ⟨fx, M, L, F, Q0, E0, sr, ⟨Nat.le_of_ble_eq_true rfl, he⟩, hq, hx⟩
theorem d_fr {X : Cx} {W : WX} {e : Expr} {a b : Int} (q : Rat) (h : PE X e (liftE X.K W (dTup (aCons (dC (.int a)) (aCons (dC (.int b)) aNil))))) (ha : q.num = a := by decide +kernel) (hb : (q.den : Int) = b := by decide +kernel) : PE X e (liftE X.K W (dFr q)) := peW h (dFr_w ha hb)
theorem getO_eq {α : Type} {o : Option α} {a : α} {k : α → Prop} (h : o = some a) (hk : k a) : getO o k := by subst h; exact hk
/-! lists of fractions, of rows of them -/
def qL (l : List Rat) : D := .lst (l.map qD)
def qO (l : List Rat) : D := .own (l.map qD)
def bkL (b : List (List Rat)) : D := .lst (b.map qL)
def bkO (b : List (List Rat)) : D := .own (b.map qO)
def bkM (b : List (List Rat)) : D := .own (b.map qL)
theorem frzs_map {α : Type} {f g : α → D} (h : ∀ x, (f x).frz = g x) : ∀ l : List α, D.frzs (l.map f) = l.map g
  | [] => rfl
  | x :: l => by rw [List.map_cons, frzs_cons, h, frzs_map h l]; rfl
theorem noOwns_app : ∀ l m : List D, D.noOwns (l ++ m) = (D.noOwns l && D.noOwns m)
  | [], m => by rw [List.nil_append, noOwns_nil, Bool.true_and]
  | d :: l, m => by rw [List.cons_append, noOwns_cons, noOwns_cons, noOwns_app l m, Bool.and_assoc]
theorem frz_int (i : Int) : (D.int i).frz = .int i := rfl
theorem frz_str (i : Str) : (D.str i).frz = .str i := rfl
theorem frz_bl (i : Bool) : (D.bl i).frz = .bl i := rfl
theorem frz_non : D.non.frz = .non := rfl
theorem frz_ownN (l : List D) (h : D.noOwns l = true) : (D.own l).frz = .lst l := by rw [frz_own, frzs_of l h]
theorem sz_small {s : Int} (h : s.natAbs < 18446744073709551616) : Sz 9000 s := Nat.lt_of_lt_of_le (show s.natAbs < 2 ^ 64 from h) (Nat.pow_le_pow_right (by decide) (by decide))
theorem sz_om {s : Int} (h1 : -18446744073709551616 < s) (h2 : s < 18446744073709551616) : Sz 9000 s := sz_small (by omega)
theorem frz_qO (l : List Rat) : (qO l).frz = qL l := by unfold qO qL; rw [frz_own, frzs_map frz_qD]
theorem frz_qL (l : List Rat) : (qL l).frz = qL l := rfl
theorem frz_own_qD (l : List Rat) : (D.own (l.map qD)).frz = qL l := frz_qO l
theorem frz_own_qL (b : List (List Rat)) : (D.own (b.map qL)).frz = .lst (b.map qL) := by rw [frz_own, frzs_map frz_qL]
theorem frz_bkO (b : List (List Rat)) : (bkO b).frz = bkL b := by unfold bkO bkL; rw [frz_own, frzs_map frz_qO]
theorem frz_bkM (b : List (List Rat)) : (bkM b).frz = bkL b := by unfold bkM bkL; rw [frz_own, frzs_map frz_qL]
theorem noOwns_qD (l : List Rat) : D.noOwns (l.map qD) = true := noOwns_map qD (fun _ => rfl) l
theorem noOwns_qL (l : List (List Rat)) : D.noOwns (l.map qL) = true := noOwns_map qL (fun _ => rfl) l
theorem noOwns_int (l : List Int) : D.noOwns (l.map D.int) = true := noOwns_map D.int (fun _ => rfl) l
theorem eqv_qs (l m : List Rat) : D.eqvs (l.map qD) (m.map qD) = decide (l = m) := eqvs_map qD eqv_qD l m
theorem eqv_qL (l m : List Rat) : D.eqv (qL l) (qL m) = decide (l = m) := by unfold qL; rw [eqv_lst, eqv_qs]
theorem eqv_bkL (l m : List (List Rat)) : D.eqv (bkL l) (bkL m) = decide (l = m) := by unfold bkL; rw [eqv_lst]; exact eqvs_map qL eqv_qL l m
theorem okD_qD (q : Rat) (n : Nat) : okD (n + 1) (qD q) := by
  unfold qD okD
  intro d hd
  simp only [List.mem_cons, List.not_mem_nil, or_false] at hd
  rcases hd with rfl | rfl <;> cases n <;> simp [okD]
theorem okD_map {α : Type} {f : α → D} {n : Nat} (h : ∀ x, okD n (f x)) (l : List α) : ∀ d ∈ l.map f, okD n d := by
  intro d hd
  obtain ⟨x, _, rfl⟩ := List.mem_map.mp hd
  exact h x
theorem okD_qL (l : List Rat) (n : Nat) : okD (n + 2) (qL l) := by unfold qL okD; exact okD_map (fun q => okD_qD q n) l
theorem okD_bkL (l : List (List Rat)) (n : Nat) : okD (n + 3) (bkL l) := by unfold bkL okD; exact okD_map (fun q => okD_qL q n) l
theorem rngD_nat (n : Nat) : rngD 0 (n : Int) = (List.range n).map fun i => .int (i : Int) := by
  unfold rngD
  rw [Int.sub_zero, Int.toNat_natCast]
  exact List.map_congr_left fun i _ => by simp
theorem enumD_map {α : Type} (f : α → D) (l : List α) : enumD (l.map f) = l.zipIdx.map fun p => .tup [.int (p.2 : Int), f p.1] := by
  unfold enumD
  rw [List.length_map]
  apply List.ext_getElem
  · simp
  · intro i h1 h2
    simp
theorem zipD_map {α β : Type} (f : α → D) (g : β → D) (l : List α) (m : List β) : zipD (l.map f) (m.map g) = (l.zip m).map fun p => .tup [f p.1, g p.2] := by
  unfold zipD
  apply List.ext_getElem
  · simp
  · intro i h1 h2
    simp
end TL
/-! # more rules -/
namespace TL
open PySem PyProof.Rows L2
section
variable {X : Cx} {W : WX} {pos : Pos} {e a b c : Expr} {ea eb ec : DE}
/-! tuples put together, cut -/
def dCatT (ea eb : DE) : DE := fun M Q E => ea M (fun x M1 => eb M1 (fun y M2 => asTup x fun l => asTup y fun m => D.noOwns l = true ∧ D.noOwns m = true ∧ l.length + m.length ≤ 10000 ∧ Q (.tup (l ++ m)) M2) E) E
theorem d_catT (ha : PE X a (liftE X.K W ea)) (hb : PE X b (liftE X.K W eb)) : PE X (.BinOp a .Add b pos) (liftE X.K W (dCatT ea eb)) := peW (pe_op op_catA ha hb) fun σ H Q ⟨fx, M, L, F, Q0, E0, sr, he, hq, hx⟩ =>
  ⟨fx, M, L, F, _, E0, sr, he, fun x M1 v F1 H1 q1 s1 sr1 => ⟨fx, M1, _, F1, _, E0, sr1, q1, fun y M2 w F2 H2 q2 s2 sr2 => (by
    cases x <;> try (exact q2.elim)
    cases y <;> try (exact q2.elim)
    rename_i l m
    obtain ⟨n1, n2, hl, q⟩ := q2
    have p := sr2.pop.topC (d := .tup l) n1
    have p2 := sr2.topC (d := .tup m) n2
    generalize hz : ([] : List Addr) = z at p p2
    cases p with
    | tup hT r =>
    cases p2 with
    | tup hT2 r2 =>
      subst hz
      have e1 := r.len
      have e2 := r2.len
      refine ⟨_, _, _, _, rfl, rfl, Same.sqT sr2.sub hT, Same.sqT sr2.sub hT2, by rw [← e1, ← e2, sizeLine_eq]; omega, fun z => ?_, fun z1 z2 => ?_, fun z1 z2 p hp => ?_⟩
      · subst z; cases r
        exact hq _ M2 _ F2 H2 q (s1.trans s2) (sr2.pop.pop.push (.tup hT2 r2))
      · subst z2; cases r2
        rw [List.append_nil] at q
        exact hq _ M2 _ F2 H2 q (s1.trans s2) (sr2.pop.pop.push (.tup hT r))
      · have ra := r.app0 r2
        obtain ⟨t1, t2⟩ := (sr2.pop.pop.pushAll ra).tupNew (by rw [List.length_append, List.length_append, e1, e2]) hp
        exact hq _ M2 _ _ _ q (s1.trans (s2.trans t2)) t1), fun C M' F' H' z s sr' => hx C M' F' H' z (s1.trans s) sr'.pop⟩, hx⟩
variable {lo hi : Option Expr} {ol oh : DO} {p2 : Pos}
def dSlT (ea : DE) (lo hi : DO) : DE := fun M Q E => ea M (fun d M0 => lo M0 (fun x M1 => hi M1 (fun y M2 => asTup d fun l => D.noOwns l = true ∧ Q (.tup (cutD l x y)) M2) E) E) E
theorem cut_whole {α : Type} (l : List α) {i j : Nat} (h : i = 0 ∧ j = l.length) : (l.drop i).take (j - i) = l := by obtain ⟨rfl, rfl⟩ := h; simp
theorem d_slT (h : PE X e (tSl (rSlA X.K) (liftE X.K W (ea)) (liftO X.K W ol) (liftO X.K W oh))) : PE X e (liftE X.K W (dSlT ea ol oh)) := peW h fun σ H Q ⟨fx, M, L, F, Q0, E0, sr, he, hq, hx⟩ => by
  refine ⟨fx, M, L, F, _, E0, sr, he, fun d M0 v F0 H0 q0 s0 sr0 => ⟨fx, M0, _, F0, _, E0, sr0, q0, fun x M1 F1 H1 q1 s1 sr1 => ⟨fx, M1, _, F1, _, E0, sr1, q1, fun y M2 F2 H2 q2 s2 sr2 => ?_, fun C M' F' H' z s sr' => hx C M' F' H' z (s0.trans (s1.trans s)) sr'.pop⟩, fun C M' F' H' z s sr' => hx C M' F' H' z (s0.trans s) sr'.pop⟩, hx⟩
  cases d <;> try (exact q2.elim)
  rename_i l
  obtain ⟨n, q⟩ := q2
  have p := sr2.topC (d := .tup l) n
  generalize hz : ([] : List Addr) = z at p
  cases p with
  | tup hT r =>
    rename_i vs
    subst hz
    have e1 := r.len
    refine ⟨_, _, rfl, Same.sqT sr2.sub hT, fun w => ?_, fun w p hp => ?_⟩
    · have e : cutD l x y = l := by unfold cutD; exact cut_whole l (by rw [e1]; exact w)
      rw [e] at q
      exact hq _ M2 _ F2 H2 q (s0.trans (s1.trans s2)) (sr2.pop.push (.tup hT r))
    · have el : cutV vs x y = (vs.drop (HT.sIx l.length 0 x)).take (HT.sIx l.length l.length y - HT.sIx l.length 0 x) := by unfold cutV; rw [e1]
      have r2 : Rps X.K F2 H2 (cutD l x y) (cutV vs x y) [] := by rw [el]; exact r.cut _ _
      obtain ⟨t1, t2⟩ := (sr2.pop.pushAll r2).tupNew r2.len.symm hp
      exact hq _ M2 _ _ _ q (s0.trans (s1.trans (s2.trans t2))) t1
/-! a written list that is walked -/
@[irreducible] def stopL (l : List D) (k : List D → Prop) : Prop := k l
theorem stopL_i {l : List D} {k : List D → Prop} (h : k l) : stopL l k := by unfold stopL; exact h
theorem stopL_e {l : List D} {k : List D → Prop} (h : stopL l k) : k l := by unfold stopL at h; exact h
theorem stopL_g {l : List D} {k : List D → Prop} (P : List D → Prop) (h : ∀ l, P l → k l) (hl : P l) : stopL l k := stopL_i (h l hl)
def itK (it : DI) : DI := fun M Q E => it M (fun its o M1 => stopL its fun its => Q its o M1) E
theorem i_k {it : DI} {tg iter : Expr} (h : PI X tg iter (liftI X.K W it)) : PI X tg iter (liftI X.K W (itK it)) := piW h fun σ H R ⟨fx, M, L, F, Q0, E0, sr, he, hq, hx⟩ =>
  ⟨fx, M, L, F, _, E0, sr, he, fun its o M' J F' H' q => hq its o M' J F' H' (stopL_e q), hx⟩
/-! slots frozen ahead of a statement -/
def sFz (r : DS) (D : DEnds) : List Nat → MS → Prop
  | [], M => r D M
  | i :: is, M => match M[i]? with
    | some (.va d) => ∃ d', d.frz = d' ∧ sFz r D is (M.set i (.va d'))
    | _ => sFz r D is M
def sPre (is : List Nat) (r : DS) : DS := fun D M => sFz r D is M
theorem s_pre {st : Stmt} {r : DS} {is : List Nat} (h : PS X st (liftS X.K W r)) : PS X st (liftS X.K W (sPre is r)) := psW h fun D σ H ⟨fx, M, F, D0, sr, he, h1, h2, h3, h4, h5⟩ => by
  have he : sFz r D0 is M := he
  have gen : ∀ (is : List Nat) (M : MS) (F1 : Hp), Same F F1 → SR X.K fx M [] σ F1 H → sFz r D0 is M → liftS X.K W r D σ H := by
    intro is
    induction is with
    | nil =>
      intro M F1 s1 sr1 q
      exact ⟨fx, M, F1, D0, sr1, q, fun M' σ' F' H' z s => h1 M' σ' F' H' z (s1.trans s), fun d M' v σ' F' H' z s => h2 d M' v σ' F' H' z (s1.trans s), fun M' σ' F' H' z s => h3 M' σ' F' H' z (s1.trans s),
        fun M' σ' F' H' z s => h4 M' σ' F' H' z (s1.trans s), fun C M' σ' F' H' z s => h5 C M' σ' F' H' z (s1.trans s)⟩
    | cons i is ih =>
      intro M F1 s1 sr1 q
      unfold sFz at q
      split at q
      · rename_i d e
        obtain ⟨_, rfl, q⟩ := q
        obtain ⟨v, F', hv, k, s, p⟩ := sr1.frzAt e
        exact ih _ F' (s1.trans s) k q
      · exact ih M F1 s1 sr1 q
  exact gen is M F (Same.refl _) sr he
/-! two-place operations on lists that are one's own, looked at where they stand -/
def OpB (X : Cx) (r : R2) (g : D → D → (D → Prop) → Prop) : Prop :=
  ∀ {F H v w x y f f'} {k : D → Prop}, Same F H → Rp X.K F H x v f → Rp X.K F H y w f' → g x y k → ∃ d u, k d ∧ (∀ F H, Rp X.K F H d u []) ∧ ∀ Q : VK, Q u H → r v w H Q
theorem opb_eq : OpB X (rEqD X.K) gEq := fun {F H v w x y f f' k} s p q h => by
  obtain ⟨h1, h2, h3, h4⟩ := eqOk_ok h.1
  exact ⟨_, _, h.2, fun _ _ => .bl _, fun Q z => ⟨_, _, Rp.dp s _ _ _ h1 p, Rp.dp s _ _ _ h2 q, h3, h4, z⟩⟩
theorem opb_ne : OpB X (rNeD X.K) gNe := fun {F H v w x y f f' k} s p q h => by
  obtain ⟨h1, h2, h3, h4⟩ := eqOk_ok h.1
  exact ⟨_, _, h.2, fun _ _ => .bl _, fun Q z => ⟨_, _, Rp.dp s _ _ _ h1 p, Rp.dp s _ _ _ h2 q, h3, h4, z⟩⟩
theorem opb_in : OpB X (rInX X.K id) gIn := fun {F H v w x y f f' k} s p q h => by
  cases y <;> try (exact h.elim)
  all_goals
    obtain ⟨h0, h⟩ := h
    obtain ⟨h1, h2, h3, h4⟩ := eqOk_ok h0
    refine ⟨_, _, h, fun _ _ => .bl _, fun Q z => ⟨_, _, Rp.dp s _ _ _ h1 p, ?_, h3, by rw [toPs_any]; exact z⟩⟩
    first | exact .inl ⟨Rp.dp s _ _ _ h2 q, h4⟩ | exact .inr ⟨Rp.dp s _ _ _ h2 q, h4⟩
theorem opb_nin : OpB X (rInX X.K not) gNin := fun {F H v w x y f f' k} s p q h => by
  cases y <;> try (exact h.elim)
  all_goals
    obtain ⟨h0, h⟩ := h
    obtain ⟨h1, h2, h3, h4⟩ := eqOk_ok h0
    refine ⟨_, _, h, fun _ _ => .bl _, fun Q z => ⟨_, _, Rp.dp s _ _ _ h1 p, ?_, h3, by rw [toPs_any]; exact z⟩⟩
    first | exact .inl ⟨Rp.dp s _ _ _ h2 q, h4⟩ | exact .inr ⟨Rp.dp s _ _ _ h2 q, h4⟩
/-- the right one is a name -/
def dBinR (g : D → D → (D → Prop) → Prop) (ea : DE) (j : Nat) : DE := fun M Q E => ea M (fun x M1 => getO (M1.at j) fun y => g x y fun d => Q d M1) E
def dBinL (g : D → D → (D → Prop) → Prop) (i : Nat) (eb : DE) : DE := fun M Q E => getO (M.at i) fun _ => eb M (fun y M1 => getO (M1.at i) fun x => g x y fun d => Q d M1) E
def dBinN (g : D → D → (D → Prop) → Prop) (i j : Nat) : DE := fun M Q _ => getO (M.at i) fun x => getO (M.at j) fun y => g x y fun d => Q d M
variable {r : R2} {g : D → D → (D → Prop) → Prop} {i j : Nat}
theorem binR_ok (hr : OpB X r g) (σ : L2.St) (H : Hp) (Q : VK) (h : (liftE X.K W (dBinR g ea j)) σ H Q) : tOp r (liftE X.K W ea) (tVar j) σ H Q := by
  obtain ⟨fx, M, L, F, Q0, E0, sr, he, hq, hx⟩ := h
  refine ⟨fx, M, L, F, _, E0, sr, he, fun x M1 v F1 H1 q1 s1 sr1 => ?_, hx⟩
  obtain ⟨y, e1, q1⟩ := getO_iff.mp q1
  obtain ⟨w, f', hw, p⟩ := sr1.at (ms_at.mp e1)
  obtain ⟨f, px⟩ := sr1.top
  obtain ⟨d, u, kd, pd, fin⟩ := hr sr1.sub px p q1
  exact ⟨w, hw, fin _ (hq d M1 u F1 H1 kd s1 (sr1.pop.push (pd _ _)))⟩
theorem binL_ok (hr : OpB X r g) (σ : L2.St) (H : Hp) (Q : VK) (h : (liftE X.K W (dBinL g i eb)) σ H Q) : tOp r (tVar i) (liftE X.K W eb) σ H Q := by
  obtain ⟨fx, M, L, F, Q0, E0, sr, he, hq, hx⟩ := h
  obtain ⟨x0, e0, he⟩ := getO_iff.mp he
  obtain ⟨v, f0, hv, _⟩ := sr.at (ms_at.mp e0)
  refine ⟨v, hv, fx, M, L, F, _, E0, sr, he, fun y M1 w F1 H1 q1 s1 sr1 => ?_, hx⟩
  obtain ⟨x, e1, q1⟩ := getO_iff.mp q1
  obtain ⟨v', f', hv', p⟩ := sr1.at (ms_at.mp e1)
  rw [hv] at hv'; cases hv'
  obtain ⟨f, py⟩ := sr1.top
  obtain ⟨d, u, kd, pd, fin⟩ := hr sr1.sub p py q1
  exact fin _ (hq d M1 u F1 H1 kd s1 (sr1.pop.push (pd _ _)))
theorem binN_ok (hr : OpB X r g) (σ : L2.St) (H : Hp) (Q : VK) (h : (liftE X.K W (dBinN g i j)) σ H Q) : tOp r (tVar i) (tVar j) σ H Q := by
  obtain ⟨fx, M, L, F, Q0, E0, sr, he, hq, hx⟩ := h
  obtain ⟨x, e0, he⟩ := getO_iff.mp he
  obtain ⟨y, e1, he⟩ := getO_iff.mp he
  obtain ⟨v, f0, hv, px⟩ := sr.at (ms_at.mp e0)
  obtain ⟨w, f1, hw, py⟩ := sr.at (ms_at.mp e1)
  obtain ⟨d, u, kd, pd, fin⟩ := hr sr.sub px py he
  exact ⟨v, hv, w, hw, fin _ (hq d M u F H kd (Same.refl _) (sr.push (pd _ _)))⟩
theorem d_cmpR {op : CmpOp} (ho : OpR X (compareOp op) r) (hr : OpB X r g) (ha : PE X a (liftE X.K W ea)) (hb : PE X b (tVar j)) (hm : behindInMarks op b = false := by rfl) : PE X (.Compare a [op] [b] pos) (liftE X.K W (dBinR g ea j)) := peW (pe_cmpR ho ha hb hm) (binR_ok hr)
theorem d_cmpL {op : CmpOp} (ho : OpR X (compareOp op) r) (hr : OpB X r g) (ha : PE X a (tVar i)) (hb : PE X b (liftE X.K W eb)) (hm : behindInMarks op b = false := by rfl) : PE X (.Compare a [op] [b] pos) (liftE X.K W (dBinL g i eb)) := peW (pe_cmpR ho ha hb hm) (binL_ok hr)
theorem d_cmpN {op : CmpOp} (ho : OpR X (compareOp op) r) (hr : OpB X r g) (ha : PE X a (tVar i)) (hb : PE X b (tVar j)) (hm : behindInMarks op b = false := by rfl) : PE X (.Compare a [op] [b] pos) (liftE X.K W (dBinN g i j)) := peW (pe_cmpR ho ha hb hm) (binN_ok hr)
theorem t_cmpR' {op : CmpOp} (ho : OpR X (compareOp op) r) (hr : OpB X r g) (ha : PE X a (liftE X.K W ea)) (hb : PE X b (tVar j)) (hm : behindInMarks op b = false := by rfl) : PT X (.Compare a [op] [b] pos) (liftT X.K W (dT (dBinR g ea j))) := ptW (pt_cmpR ho ha hb hm) (tst_ok (binR_ok hr))
theorem t_cmpL' {op : CmpOp} (ho : OpR X (compareOp op) r) (hr : OpB X r g) (ha : PE X a (tVar i)) (hb : PE X b (liftE X.K W eb)) (hm : behindInMarks op b = false := by rfl) : PT X (.Compare a [op] [b] pos) (liftT X.K W (dT (dBinL g i eb))) := ptW (pt_cmpR ho ha hb hm) (tst_ok (binL_ok hr))
theorem t_cmpN' {op : CmpOp} (ho : OpR X (compareOp op) r) (hr : OpB X r g) (ha : PE X a (tVar i)) (hb : PE X b (tVar j)) (hm : behindInMarks op b = false := by rfl) : PT X (.Compare a [op] [b] pos) (liftT X.K W (dT (dBinN g i j))) := ptW (pt_cmpR ho ha hb hm) (tst_ok (binN_ok hr))
/-! constants of the module -/
def CnD (K : PySem.W.Frag) (mg : Str → Option Value) (x : Str) (d : D) : Prop := ∃ v u, mg x = some u ∧ RelV v u ∧ ∀ F H, Rp K F H d v []
theorem d_cn {x : Str} {p : Pos} {d : D} (h : CnD X.K X.mg x d) (hg : Gl X x := by rfl) (hdb : (x == ("__debug__" : Str)) = false := by decide) : PE X (.Name x p) (liftE X.K W (dC d)) := by
  obtain ⟨v, u, h1, h2, h3⟩ := h
  exact d_c (pe_glob hg h1 h2 hdb) h3
end
end TL
/-! # plain data; what the program tells of trees; rules, orders -/
namespace TL
open PySem PyProof.Rows L2
/-- plain data -/
def PD : Nat → D → Prop
  | _, .non => True
  | _, .bl _ => True
  | _, .int _ => True
  | _, .str x => PyData.strOk x = true ∧ x.length ≤ 4000
  | n + 1, .tup l => l.length ≤ 1000 ∧ ∀ d ∈ l, PD n d
  | n + 1, .lst l => l.length ≤ 1000 ∧ ∀ d ∈ l, PD n d
  | _, _ => False
theorem PD.mono : ∀ {n m : Nat} {d : D}, PD n d → n ≤ m → PD m d := by
  intro n
  induction n with
  | zero =>
    intro m d h hm
    cases d <;> simp only [PD] at h <;> cases m <;> simp only [PD] <;> first | trivial | exact h | exact h.elim
  | succ n ih =>
    intro m d h hm
    obtain ⟨m, rfl⟩ : ∃ k, m = k + 1 := ⟨m - 1, by omega⟩
    cases d <;> simp only [PD] at h ⊢ <;> first | trivial | exact h | exact ⟨h.1, fun d hd => ih (h.2 d hd) (by omega)⟩
theorem PD.okD : ∀ {n : Nat} {d : D}, PD n d → okD n d := by
  intro n
  induction n with
  | zero => intro d h; cases d <;> simp only [PD] at h <;> simp only [TL.okD] <;> first | trivial | exact h.1 | exact h.elim
  | succ n ih =>
    intro d h
    cases d <;> simp only [PD] at h <;> simp only [TL.okD] <;> first | trivial | exact h.1 | exact h.elim | exact fun d hd => ih (h.2 d hd)
theorem PD.noOwn : ∀ {n : Nat} {d : D}, PD n d → d.noOwn = true := by
  intro n
  induction n with
  | zero => intro d h; cases d <;> simp only [PD] at h <;> first | rfl | exact h.elim
  | succ n ih =>
    intro d h
    cases d <;> simp only [PD] at h <;> first | rfl | exact h.elim | skip
    rename_i l
    rw [noOwn_tup]
    have : ∀ l : List D, (∀ d ∈ l, PD n d) → D.noOwns l = true := by
      intro l
      induction l with
      | nil => intro _; rfl
      | cons x l ih2 =>
        intro h
        rw [noOwns_cons, ih (h x (List.mem_cons_self ..)), ih2 fun d hd => h d (List.mem_cons_of_mem _ hd)]; rfl
    exact this l h.2
theorem PD.plain {n : Nat} {d : D} (h : PD n d) : plainD d = true := by cases n <;> cases d <;> simp only [PD] at h <;> first | rfl | exact h.elim
theorem PD.noOwns {n : Nat} {l : List D} (h : ∀ d ∈ l, PD n d) : D.noOwns l = true := by
  induction l with
  | nil => rfl
  | cons x l ih => rw [noOwns_cons, (h x (List.mem_cons_self ..)).noOwn, ih fun d hd => h d (List.mem_cons_of_mem _ hd)]; rfl
theorem PD.eqOk {d e : D} (h : PD 8 d) (k : PD 8 e) : eqOk d e := ⟨h.okD, k.okD⟩
theorem PD.tup {n : Nat} {l : List D} (h : PD n (.tup l)) : l.length ≤ 1000 ∧ ∀ d ∈ l, PD (n - 1) d := by
  cases n with
  | zero => simp only [PD] at h
  | succ n => exact h
theorem PD.lst {n : Nat} {l : List D} (h : PD n (.lst l)) : l.length ≤ 1000 ∧ ∀ d ∈ l, PD (n - 1) d := by
  cases n with
  | zero => simp only [PD] at h
  | succ n => exact h
theorem pd_int (n : Nat) (i : Int) : PD n (.int i) := by cases n <;> simp only [PD]
theorem pd_bl (n : Nat) (i : Bool) : PD n (.bl i) := by cases n <;> simp only [PD]
theorem pd_non (n : Nat) : PD n .non := by cases n <;> simp only [PD]
theorem pd_qD (n : Nat) (q : Rat) : PD (n + 1) (qD q) := by
  unfold qD
  refine ⟨Nat.le_of_ble_eq_true rfl, fun d hd => ?_⟩
  simp only [List.mem_cons, List.not_mem_nil, or_false] at hd
  rcases hd with rfl | rfl <;> exact pd_int _ _
theorem pd_qL (n : Nat) (l : List Rat) (hl : l.length ≤ 1000) : PD (n + 2) (qL l) := by
  unfold qL
  refine ⟨by simpa using hl, fun d hd => ?_⟩
  obtain ⟨q, _, rfl⟩ := List.mem_map.mp hd
  exact pd_qD _ _
theorem pd_bkL (n : Nat) (b : List (List Rat)) (hl : b.length ≤ 1000) (hr : ∀ r ∈ b, r.length ≤ 1000) : PD (n + 3) (bkL b) := by
  unfold bkL
  refine ⟨by simpa using hl, fun d hd => ?_⟩
  obtain ⟨q, hq, rfl⟩ := List.mem_map.mp hd
  exact pd_qL _ _ (hr q hq)

theorem okD.mono : ∀ {n m : Nat} {d : D}, TL.okD n d → n ≤ m → TL.okD m d := by
  intro n
  induction n with
  | zero =>
    intro m d h hm
    cases d <;> simp only [TL.okD] at h <;> cases m <;> simp only [TL.okD] <;> first | trivial | exact h | exact h.elim
  | succ n ih =>
    intro m d h hm
    obtain ⟨m, rfl⟩ : ∃ k, m = k + 1 := ⟨m - 1, by omega⟩
    cases d <;> simp only [TL.okD] at h ⊢ <;> first | trivial | exact h | exact h.elim | exact fun d hd => ih (h d hd) (by omega)
theorem okD_str (x : Str) (h : PyData.strOk x = true) {n : Nat} : TL.okD n (.str x) := by cases n <;> exact h
theorem asBls_map : ∀ l : List Bool, asBls (l.map D.bl) = some l
  | [] => rfl
  | b :: l => by rw [List.map_cons, asBls, asBls_map l]; rfl
theorem asInts_map : ∀ l : List Int, asInts (l.map D.int) = some l
  | [] => rfl
  | b :: l => by rw [List.map_cons, asInts, asInts_map l]; rfl
def pdB : Nat → D → Bool
  | _, .non => true
  | _, .bl _ => true
  | _, .int _ => true
  | _, .str x => PyData.strOk x && decide (x.length ≤ 4000)
  | n + 1, .tup l => decide (l.length ≤ 1000) && l.all (pdB n)
  | n + 1, .lst l => decide (l.length ≤ 1000) && l.all (pdB n)
  | _, _ => false
theorem pdB_ok : ∀ {n : Nat} {d : D}, pdB n d = true → PD n d := by
  intro n
  induction n with
  | zero => intro d h; cases d <;> simp only [pdB, PD, Bool.and_eq_true, decide_eq_true_eq, Bool.false_eq_true] at h ⊢ <;> exact h
  | succ n ih =>
    intro d h
    cases d <;> simp only [pdB, PD, Bool.and_eq_true, decide_eq_true_eq, Bool.false_eq_true] at h ⊢ <;> first | exact h | exact ⟨h.1, fun d hd => ih (List.all_eq_true.mp h.2 d hd)⟩
theorem pd_str (n : Nat) (x : Str) (h1 : PyData.strOk x = true) (h2 : x.length ≤ 4000) : PD n (.str x) := by cases n <;> exact ⟨h1, h2⟩
theorem pd_tup {n : Nat} {l : List D} (h1 : l.length ≤ 1000) (h2 : ∀ d ∈ l, PD n d) : PD (n + 1) (.tup l) := ⟨h1, h2⟩
theorem pd_lst {n : Nat} {l : List D} (h1 : l.length ≤ 1000) (h2 : ∀ d ∈ l, PD n d) : PD (n + 1) (.lst l) := ⟨h1, h2⟩
/-! ### what the program tells of trees -/
def isIntD : D → Bool
  | .int _ => true
  | _ => false
theorem isIntD_eq (d : D) : (isTy .int d && !isTy .bool d) = isIntD d := by cases d <;> rfl
theorem isIntD_iff {d : D} : isIntD d = true ↔ ∃ i, d = .int i := by cases d <;> simp [isIntD]
def isFracD : D → Bool
  | .tup [.int a, .int b] => decide (1 ≤ b) && decide (Int.gcd a b = 1)
  | _ => false
theorem isFracD_iff {d : D} : isFracD d = true ↔ ∃ q, d = qD q := by
  constructor
  · intro h
    unfold isFracD at h
    split at h
    · rename_i a b
      simp only [Bool.and_eq_true, decide_eq_true_eq] at h
      refine ⟨⟨a, b.toNat, by omega, ?_⟩, ?_⟩
      · have : b.toNat = b.natAbs := by omega
        rw [this]; exact h.2
      · unfold qD; simp only
        rw [show ((b.toNat : Nat) : Int) = b by omega]
    · cases h
  · rintro ⟨q, rfl⟩
    have := q.den_pos
    have := q.reduced
    unfold qD isFracD
    simp only [Bool.and_eq_true, decide_eq_true_eq]
    exact ⟨by omega, q.reduced⟩
theorem isFracD_qD (q : Rat) : isFracD (qD q) = true := isFracD_iff.mpr ⟨q, rfl⟩
def isWorthD : D → Bool
  | .tup [.int a, .int b] => isFracD (.tup [.int a, .int b]) && (decide (0 ≤ a) && decide (a ≤ b))
  | _ => false
theorem rat_le1 (q : Rat) : q ≤ 1 ↔ q.num ≤ (q.den : Int) := by rw [Rat.le_iff]; simp
theorem isWorthD_iff {d : D} : isWorthD d = true ↔ ∃ q, d = qD q ∧ 0 ≤ q ∧ q ≤ 1 := by
  constructor
  · intro h
    unfold isWorthD at h
    split at h
    · simp only [Bool.and_eq_true, decide_eq_true_eq] at h
      obtain ⟨q, e⟩ := isFracD_iff.mp h.1
      rw [e]
      unfold qD at e
      simp only [D.tup.injEq, List.cons.injEq, D.int.injEq, and_true] at e
      exact ⟨q, rfl, Rat.num_nonneg.mp (by omega), (rat_le1 q).mpr (by omega)⟩
    · cases h
  · rintro ⟨q, rfl, h0, h1⟩
    have := isFracD_qD q
    unfold qD at this ⊢
    show (isFracD _ && _) = true
    rw [this]
    simp only [Bool.true_and, Bool.and_eq_true, decide_eq_true_eq]
    exact ⟨Rat.num_nonneg.mpr h0, (rat_le1 q).mp h1⟩
def isWeightD : D → Bool
  | .tup [.int a, .int b] => isFracD (.tup [.int a, .int b]) && decide (0 ≤ a)
  | _ => false
theorem isWeightD_iff {d : D} : isWeightD d = true ↔ ∃ q, d = qD q ∧ 0 ≤ q := by
  constructor
  · intro h
    unfold isWeightD at h
    split at h
    · simp only [Bool.and_eq_true, decide_eq_true_eq] at h
      obtain ⟨q, e⟩ := isFracD_iff.mp h.1
      rw [e]
      unfold qD at e
      simp only [D.tup.injEq, List.cons.injEq, D.int.injEq, and_true] at e
      exact ⟨q, rfl, Rat.num_nonneg.mp (by omega)⟩
    · cases h
  · rintro ⟨q, rfl, h0⟩
    have := isFracD_qD q
    unfold qD at this ⊢
    show (isFracD _ && _) = true
    rw [this]
    simp only [Bool.true_and, decide_eq_true_eq]
    exact Rat.num_nonneg.mpr h0
theorem all_enc {α : Type} {p : D → Bool} {f : α → D} {P : α → Prop} (h : ∀ d, p d = true ↔ ∃ a, d = f a ∧ P a) : ∀ l : List D, l.all p = true ↔ ∃ as : List α, l = as.map f ∧ ∀ a ∈ as, P a
  | [] => ⟨fun _ => ⟨[], rfl, fun _ h => nomatch h⟩, fun _ => rfl⟩
  | d :: l => by
    rw [List.all_cons, Bool.and_eq_true, h, all_enc h l]
    constructor
    · rintro ⟨⟨a, rfl, ha⟩, as, rfl, has⟩
      exact ⟨a :: as, rfl, fun x hx => by rcases List.mem_cons.mp hx with rfl | hx; exact ha; exact has x hx⟩
    · rintro ⟨as, e, has⟩
      cases as with
      | nil => cases e
      | cons a as =>
        rw [List.map_cons] at e
        obtain ⟨rfl, rfl⟩ := List.cons.inj e
        exact ⟨⟨a, rfl, has a (List.mem_cons_self ..)⟩, as, rfl, fun x hx => has x (List.mem_cons_of_mem _ hx)⟩
def areWorthsD (d : D) (m : Int) : Bool := match d with
  | .lst l => decide ((l.length : Int) = m) && l.all isWorthD
  | _ => false
/-- worths of a list -/
def Wts (l : List Rat) : Prop := ∀ q ∈ l, 0 ≤ q ∧ q ≤ 1
theorem areWorthsD_iff {d : D} {m : Int} : areWorthsD d m = true ↔ ∃ l : List Rat, d = qL l ∧ (l.length : Int) = m ∧ Wts l := by
  constructor
  · intro h
    unfold areWorthsD at h
    split at h
    · rw [Bool.and_eq_true, decide_eq_true_eq] at h
      obtain ⟨as, rfl, hp⟩ := (all_enc (fun d => isWorthD_iff (d := d)) _).mp h.2
      exact ⟨as, rfl, by simpa using h.1, hp⟩
    · cases h
  · rintro ⟨l, rfl, hl, hw⟩
    unfold qL areWorthsD
    simp only [Bool.and_eq_true, decide_eq_true_eq]
    exact ⟨by simpa using hl, (all_enc (fun d => isWorthD_iff (d := d)) _).mpr ⟨l, rfl, hw⟩⟩
def isBookD : D → Bool
  | .lst (.lst w :: r) => decide (r.length + 1 ≤ 4) && (decide (1 ≤ w.length) && (decide (w.length ≤ 12) && (D.lst w :: r).all fun x => areWorthsD x w.length))
  | _ => false
/-- books: m things in each list -/
structure Bk (b : List (List Rat)) (m : Nat) : Prop where
  l1 : 1 ≤ b.length
  l4 : b.length ≤ 4
  m1 : 1 ≤ m
  m12 : m ≤ 12
  len : ∀ r ∈ b, r.length = m
  wts : ∀ r ∈ b, Wts r
theorem Bk.head {b : List (List Rat)} {m : Nat} (h : Bk b m) : ∃ w r, b = w :: r ∧ w.length = m := by
  cases b with
  | nil => have := h.l1; simp at this
  | cons w r => exact ⟨w, r, rfl, h.len w (List.mem_cons_self ..)⟩
theorem isBookD_iff {d : D} : isBookD d = true ↔ ∃ b m, d = bkL b ∧ Bk b m := by
  constructor
  · intro h
    unfold isBookD at h
    split at h
    · rename_i w r
      simp only [Bool.and_eq_true, decide_eq_true_eq] at h
      obtain ⟨h4, h1, h12, ha⟩ := h
      obtain ⟨b, e, hb⟩ := (all_enc (fun d => areWorthsD_iff (d := d) (m := (w.length : Int))) _).mp ha
      refine ⟨b, w.length, by unfold bkL; rw [e], ⟨?_, ?_, h1, h12, fun r hr => by have := (hb r hr).1; omega, fun r hr => (hb r hr).2⟩⟩
      · have := congrArg List.length e; simp at this; omega
      · have := congrArg List.length e; simp at this; omega
    · cases h
  · rintro ⟨b, m, rfl, h⟩
    obtain ⟨w, r, rfl, hw⟩ := h.head
    have l4 := h.l4
    unfold bkL
    simp only [List.map_cons, qL, isBookD, List.length_map]
    simp only [Bool.and_eq_true, decide_eq_true_eq]
    refine ⟨by simpa using l4, by rw [hw]; exact h.m1, by rw [hw]; exact h.m12, ?_⟩
    refine (all_enc (fun d => areWorthsD_iff (d := d) (m := (w.length : Int))) _).mpr ⟨w :: r, rfl, fun x hx => ⟨?_, h.wts x hx⟩⟩
    rw [h.len x hx, hw]
theorem isBookD_bkL {b : List (List Rat)} {m : Nat} (h : Bk b m) : isBookD (bkL b) = true := isBookD_iff.mpr ⟨b, m, rfl, h⟩

/-! ### rules -/
inductive Rule where
  | shares (ws : List Rat) | least | greatest | middle (k : Nat) | product
def ruD : Rule → D
  | .shares ws => .tup [.str "shares", qL ws]
  | .least => .tup [.str "least"]
  | .greatest => .tup [.str "greatest"]
  | .middle k => .tup [.str "middle", .int (k : Int)]
  | .product => .tup [.str "product"]
theorem noOwn_ruD (r : Rule) : (ruD r).noOwn = true := by cases r <;> rfl
/-- rules for n lists -/
def Ru (r : Rule) (n : Nat) : Prop := match r with
  | .shares ws => ws.length = n ∧ ∀ w ∈ ws, 0 ≤ w
  | .middle k => 1 ≤ k ∧ k ≤ n
  | _ => True
def isRuleD (d : D) (n : Int) : Bool := match d with
  | .tup [.str x] => decide (x = "least") || (decide (x = "greatest") || decide (x = "product"))
  | .tup [.str x, .lst l] => decide (x = "shares") && (decide ((l.length : Int) = n) && l.all isWeightD)
  | .tup [.str x, .int k] => decide (x = "middle") && (decide (0 < k) && decide (k ≤ n))
  | _ => false
theorem isRuleD_iff {d : D} {n : Nat} : isRuleD d n = true ↔ ∃ r, d = ruD r ∧ Ru r n := by
  constructor
  · intro h
    unfold isRuleD at h
    split at h
    · simp only [Bool.or_eq_true, decide_eq_true_eq] at h
      rcases h with rfl | rfl | rfl
      · exact ⟨.least, rfl, trivial⟩
      · exact ⟨.greatest, rfl, trivial⟩
      · exact ⟨.product, rfl, trivial⟩
    · simp only [Bool.and_eq_true, decide_eq_true_eq] at h
      obtain ⟨rfl, h1, h2⟩ := h
      obtain ⟨ws, rfl, hw⟩ := (all_enc (fun d => isWeightD_iff (d := d)) _).mp h2
      exact ⟨.shares ws, rfl, by simp at h1; omega, hw⟩
    · rename_i x k
      simp only [Bool.and_eq_true, decide_eq_true_eq] at h
      obtain ⟨rfl, h1, h2⟩ := h
      refine ⟨.middle k.toNat, ?_, by unfold Ru; omega⟩
      show _ = D.tup [.str "middle", .int ((k.toNat : Nat) : Int)]
      rw [show ((k.toNat : Nat) : Int) = k by omega]
    · cases h
  · rintro ⟨r, rfl, h⟩
    cases r with
    | shares ws =>
      unfold Ru at h
      unfold ruD qL isRuleD
      simp only [Bool.and_eq_true, decide_eq_true_eq]
      exact ⟨trivial, by simp [h.1], (all_enc (fun d => isWeightD_iff (d := d)) _).mpr ⟨ws, rfl, h.2⟩⟩
    | least => unfold ruD isRuleD; simp
    | greatest => unfold ruD isRuleD; simp
    | middle k =>
      unfold Ru at h
      unfold ruD isRuleD
      simp only [Bool.and_eq_true, decide_eq_true_eq]
      exact ⟨trivial, by omega, by omega⟩
    | product => unfold ruD isRuleD; simp
theorem frz_ruD (r : Rule) : (ruD r).frz = ruD r := frz_of _ (noOwn_ruD r)
/-- a rule as it is made -/
def ruO : Rule → D
  | .shares ws => .tup [.str "shares", qO ws]
  | r => ruD r
theorem frz_ruO (r : Rule) : (ruO r).frz = ruD r := by
  cases r with
  | shares ws => show D.tup [_, (qO ws).frz] = _; rw [frz_qO]; rfl
  | _ => rfl
theorem isRuleD_ruD {r : Rule} {n : Nat} (h : Ru r n) : isRuleD (ruD r) n = true := isRuleD_iff.mpr ⟨r, rfl, h⟩
theorem pd_ruD (r : Rule) (n : Nat) (h : Ru r n) (hn : n ≤ 1000) : PD 4 (ruD r) := by
  cases r with
  | shares ws =>
    refine ⟨Nat.le_of_ble_eq_true rfl, fun d hd => ?_⟩
    simp only [List.mem_cons, List.not_mem_nil, or_false] at hd
    rcases hd with rfl | rfl
    · exact ⟨by decide +kernel, by decide +kernel⟩
    · exact pd_qL _ _ (by have := h.1; omega)
  | middle k =>
    refine ⟨Nat.le_of_ble_eq_true rfl, fun d hd => ?_⟩
    simp only [List.mem_cons, List.not_mem_nil, or_false] at hd
    rcases hd with rfl | rfl
    · exact ⟨by decide +kernel, by decide +kernel⟩
    · exact pd_int _ _
  | least => exact ⟨by decide, fun d hd => by simp only [List.mem_cons, List.not_mem_nil, or_false] at hd; subst hd; exact ⟨by decide +kernel, by decide +kernel⟩⟩
  | greatest => exact ⟨by decide, fun d hd => by simp only [List.mem_cons, List.not_mem_nil, or_false] at hd; subst hd; exact ⟨by decide +kernel, by decide +kernel⟩⟩
  | product => exact ⟨by decide, fun d hd => by simp only [List.mem_cons, List.not_mem_nil, or_false] at hd; subst hd; exact ⟨by decide +kernel, by decide +kernel⟩⟩
mutual
theorem pe_self : ∀ d : PyData, d.canLay0 = true → PyData.eqv d d = true
  | .none, _ => by simp [PyData.eqv]
  | .bool b, _ => by simp [PyData.eqv]
  | .int b, _ => by simp [PyData.eqv]
  | .str b, _ => by simp [PyData.eqv]
  | .list l, h => by rw [PyData.eqv]; exact pes_self l (by simpa [PyData.canLay0] using h)
  | .tuple l, h => by rw [PyData.eqv]; exact pes_self l (by simpa [PyData.canLay0] using h)
  | .dict l, h => by simp [PyData.canLay0] at h
theorem pes_self : ∀ l : List PyData, PyData.canLayAll0 l = true → PyData.eqvAll l l = true
  | [], _ => by simp [PyData.eqvAll]
  | d :: l, h => by
    rw [PyData.canLayAll0, Bool.and_eq_true] at h
    rw [PyData.eqvAll, pe_self d h.1, pes_self l h.2]; rfl
end
theorem eqv_self (d : D) (h : okD 8 d) : D.eqv d d = true := pe_self _ (okD_ok d h).2.1
end TL
/-! # orders -/
namespace TL
open PySem PyProof.Rows L2
section
variable {α β : Type}
def insAt (l : List α) (k : Nat) (x : α) : List α := l.take k ++ [x] ++ l.drop k
theorem insAt_map (f : α → β) (l : List α) (k : Nat) (x : α) : (insAt l k x).map f = insAt (l.map f) k (f x) := by unfold insAt; simp [List.map_take, List.map_drop]
theorem insL_map (f : α → D) (l : List α) (k : Nat) (x : α) : insL (l.map f) k (f x) = (insAt l k x).map f := by rw [insAt_map]; rfl
theorem insAt_length (l : List α) (k : Nat) (x : α) : (insAt l k x).length = l.length + 1 := by unfold insAt; simp; omega
theorem insAt_perm (l : List α) (k : Nat) (x : α) : (insAt l k x).Perm (x :: l) := by
  unfold insAt
  refine (List.perm_append_comm.append_right _).trans ?_
  simp
theorem mem_insAt {l : List α} {k : Nat} {x y : α} : y ∈ insAt l k x ↔ y = x ∨ y ∈ l := by rw [(insAt_perm l k x).mem_iff, List.mem_cons]
/-- x behind all that are no less -/
def insBy (ge : α → α → Bool) (f : List α) (x : α) : List α := insAt f (f.filter (fun y => ge y x)).length x
def sortBy (ge : α → α → Bool) (l : List α) : List α := l.foldl (insBy ge) []
theorem insBy_perm (ge : α → α → Bool) (f : List α) (x : α) : (insBy ge f x).Perm (x :: f) := insAt_perm _ _ _
theorem mem_insBy {ge : α → α → Bool} {f : List α} {x y : α} : y ∈ insBy ge f x ↔ y = x ∨ y ∈ f := mem_insAt
theorem insBy_length (ge : α → α → Bool) (f : List α) (x : α) : (insBy ge f x).length = f.length + 1 := insAt_length _ _ _
theorem foldl_insBy_perm (ge : α → α → Bool) : ∀ (l f : List α), (l.foldl (insBy ge) f).Perm (f ++ l)
  | [], f => by simp
  | x :: l, f => by
    refine (foldl_insBy_perm ge l (insBy ge f x)).trans ?_
    refine ((insBy_perm ge f x).append_right l).trans ?_
    simpa using List.perm_middle.symm
theorem sortBy_perm (ge : α → α → Bool) (l : List α) : (sortBy ge l).Perm l := by have := foldl_insBy_perm ge l []; rwa [List.nil_append] at this
theorem sortBy_length (ge : α → α → Bool) (l : List α) : (sortBy ge l).length = l.length := (sortBy_perm ge l).length_eq
theorem mem_sortBy {ge : α → α → Bool} {l : List α} {x : α} : x ∈ sortBy ge l ↔ x ∈ l := (sortBy_perm ge l).mem_iff
/-- total, and goes through -/
structure TotGe (ge : α → α → Bool) : Prop where
  tot : ∀ a b, ge a b = true ∨ ge b a = true
  tr : ∀ a b c, ge a b = true → ge b c = true → ge a c = true
theorem filter_takeWhile {p : α → Bool} : ∀ {f : List α}, (∀ i j (hj : j < f.length) (hi : i < j), p f[j] = true → p f[i] = true) → f.filter p = f.takeWhile p
  | [], _ => rfl
  | x :: f, h => by
    rw [List.filter_cons, List.takeWhile_cons]
    cases hx : p x with
    | true =>
      simp only [if_true]
      rw [filter_takeWhile fun i j hj hi hp => by
        have := h (i + 1) (j + 1) (by simpa using hj) (by omega)
        simpa using this (by simpa using hp)]
    | false =>
      simp only [Bool.false_eq_true, if_false]
      rw [List.filter_eq_nil_iff]
      intro y hy hp
      obtain ⟨j, hj, rfl⟩ := List.mem_iff_getElem.mp hy
      have := h 0 (j + 1) (by simpa using hj) (by omega) (by simpa using hp)
      simp [hx] at this
theorem take_takeWhile (p : α → Bool) : ∀ f : List α, f.take (f.takeWhile p).length = f.takeWhile p
  | [] => rfl
  | x :: f => by
    rw [List.takeWhile_cons]
    cases p x with
    | true => simp [take_takeWhile p f]
    | false => rfl
theorem drop_takeWhile (p : α → Bool) : ∀ f : List α, f.drop (f.takeWhile p).length = f.dropWhile p
  | [] => rfl
  | x :: f => by
    rw [List.takeWhile_cons, List.dropWhile_cons]
    cases p x with
    | true => simp [drop_takeWhile p f]
    | false => rfl
theorem sorted_filter {ge : α → α → Bool} (T : TotGe ge) {f : List α} (hs : f.Pairwise (fun a b => ge a b = true)) (x : α) : f.filter (fun y => ge y x) = f.takeWhile (fun y => ge y x) :=
  filter_takeWhile fun i j hj hi hp => T.tr _ _ _ (List.pairwise_iff_getElem.mp hs i j (by omega) hj hi) hp
theorem insBy_eq {ge : α → α → Bool} (T : TotGe ge) {f : List α} (hs : f.Pairwise (fun a b => ge a b = true)) (x : α) : insBy ge f x = f.takeWhile (fun y => ge y x) ++ x :: f.dropWhile (fun y => ge y x) := by
  unfold insBy insAt
  rw [sorted_filter T hs, take_takeWhile, drop_takeWhile]
  simp
theorem dropWhile_head {p : α → Bool} : ∀ {f : List α} {y : α} {r : List α}, f.dropWhile p = y :: r → p y = false
  | [], _, _, h => by cases h
  | x :: f, y, r, h => by
    rw [List.dropWhile_cons] at h
    cases hx : p x with
    | true => rw [hx] at h; exact dropWhile_head h
    | false => rw [hx] at h; simp at h; rw [← h.1]; exact hx
theorem insBy_tw {ge : α → α → Bool} (T : TotGe ge) {f : List α} (hs : f.Pairwise (fun a b => ge a b = true)) (x : α) : insBy ge f x = insAt f (f.takeWhile (fun y => ge y x)).length x := by
  unfold insBy; rw [sorted_filter T hs]
theorem tw_lt {p : α → Bool} : ∀ {f : List α} {k : Nat}, k < (f.takeWhile p).length → ∃ h : k < f.length, p f[k] = true
  | [], k, h => by simp at h
  | x :: f, k, h => by
    rw [List.takeWhile_cons] at h
    cases hx : p x with
    | true =>
      rw [hx] at h
      cases k with
      | zero => exact ⟨by simp, hx⟩
      | succ k =>
        obtain ⟨h1, h2⟩ := tw_lt (f := f) (k := k) (by simpa using h)
        exact ⟨by simpa using h1, by simpa using h2⟩
    | false => rw [hx] at h; simp at h
theorem tw_end {p : α → Bool} : ∀ {f : List α} (h : (f.takeWhile p).length < f.length), p f[(f.takeWhile p).length] = false
  | [], h => by simp at h
  | x :: f, h => by
    cases hx : p x with
    | true =>
      have e : (x :: f).takeWhile p = x :: f.takeWhile p := by rw [List.takeWhile_cons, hx]; rfl
      have h' : (f.takeWhile p).length < f.length := by rw [e] at h; simpa using h
      have := tw_end h'
      simpa [e] using this
    | false =>
      have e : (x :: f).takeWhile p = [] := by rw [List.takeWhile_cons, hx]; rfl
      simpa [e] using hx
theorem tw_le (p : α → Bool) (f : List α) : (f.takeWhile p).length ≤ f.length := by
  have := congrArg List.length (List.takeWhile_append_dropWhile (p := p) (l := f))
  rw [List.length_append] at this; omega
theorem insBy_sorted {ge : α → α → Bool} (T : TotGe ge) {f : List α} (hs : f.Pairwise (fun a b => ge a b = true)) (x : α) : (insBy ge f x).Pairwise (fun a b => ge a b = true) := by
  rw [insBy_eq T hs]
  have e : f.takeWhile (fun y => ge y x) ++ f.dropWhile (fun y => ge y x) = f := List.takeWhile_append_dropWhile
  rw [← e] at hs
  obtain ⟨h1, h2, h3⟩ := List.pairwise_append.mp hs
  have hx : ∀ y ∈ f.dropWhile (fun y => ge y x), ge x y = true := by
    intro y hy
    cases hd : f.dropWhile (fun y => ge y x) with
    | nil => rw [hd] at hy; cases hy
    | cons z r =>
      have hz : ge z x = false := dropWhile_head (p := fun y => ge y x) hd
      have hxz : ge x z = true := (T.tot x z).resolve_right (by simp [hz])
      rw [hd] at hy h2
      rcases List.mem_cons.mp hy with rfl | hy
      · exact hxz
      · exact T.tr _ _ _ hxz ((List.pairwise_cons.mp h2).1 y hy)
  refine List.pairwise_append.mpr ⟨h1, List.pairwise_cons.mpr ⟨hx, h2⟩, ?_⟩
  intro a ha b hb
  rcases List.mem_cons.mp hb with rfl | hb
  · have : ∀ a ∈ f.takeWhile (fun y => ge y b), ge a b = true := fun a ha => by
      have h := List.all_takeWhile (p := fun y => ge y b) (l := f)
      exact List.all_eq_true.mp h a ha
    exact this a ha
  · exact h3 a ha b hb
theorem foldl_insBy_sorted {ge : α → α → Bool} (T : TotGe ge) : ∀ (l f : List α), f.Pairwise (fun a b => ge a b = true) → (l.foldl (insBy ge) f).Pairwise (fun a b => ge a b = true)
  | [], _, h => h
  | x :: l, f, h => foldl_insBy_sorted T l _ (insBy_sorted T h x)
theorem sortBy_sorted {ge : α → α → Bool} (T : TotGe ge) (l : List α) : (sortBy ge l).Pairwise (fun a b => ge a b = true) := foldl_insBy_sorted T l [] .nil
/-- mapped -/
theorem insBy_map (ge : α → α → Bool) (ge' : β → β → Bool) (f : α → β) (l : List α) (x : α) (h : ∀ y ∈ l, ge' (f y) (f x) = ge y x) : (insBy ge l x).map f = insBy ge' (l.map f) (f x) := by
  unfold insBy
  rw [insAt_map, List.filter_map, List.length_map]
  congr 2
  exact List.filter_congr fun y hy => (h y hy).symm
theorem foldl_insBy_map (ge : α → α → Bool) (ge' : β → β → Bool) (f : α → β) : ∀ (l g : List α), (∀ x ∈ g ++ l, ∀ y ∈ g ++ l, ge' (f x) (f y) = ge x y) → (l.foldl (insBy ge) g).map f = (l.map f).foldl (insBy ge') (g.map f)
  | [], g, _ => rfl
  | x :: l, g, h => by
    rw [List.foldl_cons, foldl_insBy_map ge ge' f l _ (fun a ha b hb => h a (by
      rcases List.mem_append.mp ha with ha | ha
      · rcases mem_insBy.mp ha with rfl | ha <;> simp [*]
      · simp [ha]) b (by
      rcases List.mem_append.mp hb with hb | hb
      · rcases mem_insBy.mp hb with rfl | hb <;> simp [*]
      · simp [hb])), insBy_map ge ge' f g x (fun y hy => h y (by simp [hy]) x (by simp))]
    rfl
theorem sortBy_map (ge : α → α → Bool) (ge' : β → β → Bool) (f : α → β) (l : List α) (h : ∀ x ∈ l, ∀ y ∈ l, ge' (f x) (f y) = ge x y) : (sortBy ge l).map f = sortBy ge' (l.map f) :=
  foldl_insBy_map ge ge' f l [] (by simpa using h)
end
theorem insL_by {α : Type} (enc : α → D) (enc2 : α → D) (p : α → Bool) (f : List α) (x : α) : insL (f.map enc) ((((f.filter p).map enc2).length : Int)).toNat (enc x) = (insAt f (f.filter p).length x).map enc := by
  rw [List.length_map, Int.toNat_natCast, insL_map]
/-! of rationals -/
def geQ (a b : Rat) : Bool := !decide (a < b)
theorem geQ_iff {a b : Rat} : geQ a b = true ↔ b ≤ a := by unfold geQ; simp [Rat.not_lt]
theorem geQ_tot : TotGe geQ where
  tot a b := by rw [geQ_iff, geQ_iff]; exact Rat.le_total
  tr a b c h k := by rw [geQ_iff] at *; exact Rat.le_trans k h
theorem TotGe.on {α β : Type} {ge : β → β → Bool} (T : TotGe ge) (f : α → β) : TotGe (fun a b => ge (f a) (f b)) := ⟨fun a b => T.tot _ _, fun a b c => T.tr _ _ _⟩
def falling (l : List Rat) : List Rat := sortBy geQ l
/-- the order in which a list is read -/
def orderOf (ws : List Rat) : List Nat := sortBy (fun i j => geQ (ws.getD i 0) (ws.getD j 0)) (List.range ws.length)
theorem orderOf_length (ws : List Rat) : (orderOf ws).length = ws.length := by unfold orderOf; rw [sortBy_length, List.length_range]
theorem mem_orderOf {ws : List Rat} {i : Nat} : i ∈ orderOf ws ↔ i < ws.length := by unfold orderOf; rw [mem_sortBy, List.mem_range]
/-! by rules -/
def placeOf (r : Rule) (n : Nat) : Nat := match r with
  | .middle k => k
  | .least => n
  | _ => 1
def worthBy (r : Rule) (l : List Rat) : Rat := match r with
  | .shares ws => (ws.zip l).foldl (fun t p => t + p.1 * p.2) 0
  | .product => l.foldl (fun t w => t * w) 1
  | r => (falling l).getD (placeOf r l.length - 1) 0
/-! sizes of what rules make -/
def RuZ (n : Nat) (r : Rule) : Prop := match r with
  | .shares ws => ∀ w ∈ ws, Qz n w
  | _ => True
theorem mem_falling {l : List Rat} {q : Rat} : q ∈ falling l ↔ q ∈ l := mem_sortBy
theorem falling_perm (l : List Rat) : (falling l).Perm l := sortBy_perm _ _
theorem falling_length (l : List Rat) : (falling l).length = l.length := sortBy_length _ _
theorem fold_sum_qz {n m : Nat} : ∀ (l : List (Rat × Rat)) (t : Rat) (k : Nat), Qz k t → (∀ p ∈ l, Qz n p.1 ∧ Qz m p.2) → Qz (k + l.length * (n + m + 1)) (l.foldl (fun t p => t + p.1 * p.2) t)
  | [], t, k, h, _ => by simpa using h
  | p :: l, t, k, h, hl => by
    have hp := hl p (List.mem_cons_self ..)
    have := fold_sum_qz l (t + p.1 * p.2) (k + (n + m) + 1) (h.add (hp.1.mul hp.2)) fun q hq => hl q (List.mem_cons_of_mem _ hq)
    refine Qz.mono this ?_
    rw [List.length_cons, Nat.add_mul]
    omega
theorem fold_mul_qz {n : Nat} : ∀ (l : List Rat) (t : Rat) (k : Nat), Qz k t → (∀ p ∈ l, Qz n p) → Qz (k + l.length * n) (l.foldl (fun t w => t * w) t)
  | [], t, k, h, _ => by simpa using h
  | p :: l, t, k, h, hl => by
    have hp := hl p (List.mem_cons_self ..)
    have := fold_mul_qz l (t * p) (k + n) (h.mul hp) fun q hq => hl q (List.mem_cons_of_mem _ hq)
    refine Qz.mono this ?_
    rw [List.length_cons, Nat.add_mul]
    omega
theorem placeOf_ok {r : Rule} {n : Nat} (h : Ru r n) (hn : 1 ≤ n) (hp : r ≠ .product) (hs : ∀ ws, r ≠ .shares ws) : 1 ≤ placeOf r n ∧ placeOf r n ≤ n := by
  cases r with
  | shares ws => exact absurd rfl (hs ws)
  | product => exact absurd rfl hp
  | least => exact ⟨hn, Nat.le_refl _⟩
  | greatest => exact ⟨Nat.le_refl _, hn⟩
  | middle k => exact h
theorem worthBy_mid (r : Rule) (l : List Rat) (h : Ru r l.length) (h1 : 1 ≤ l.length) (hp : r ≠ .product) (hs : ∀ ws, r ≠ .shares ws) : (falling l)[placeOf r l.length - 1]? = some (worthBy r l) ∧ worthBy r l ∈ l := by
  have hk := placeOf_ok h h1 hp hs
  have hl := falling_length l
  have e : worthBy r l = (falling l).getD (placeOf r l.length - 1) 0 := by cases r <;> first | rfl | exact absurd rfl hp | exact absurd rfl (hs _)
  have e2 : (falling l)[placeOf r l.length - 1]? = some (worthBy r l) := by
    rw [e, List.getD_eq_getElem?_getD, List.getElem?_eq_getElem (by omega)]; rfl
  exact ⟨e2, mem_falling.mp (List.mem_of_getElem? e2)⟩
theorem worthBy_qz {n m : Nat} {r : Rule} {l : List Rat} (h : Ru r l.length) (hr : RuZ n r) (hl : ∀ q ∈ l, Qz m q) (h1 : 1 ≤ l.length) : Qz (1 + l.length * (n + m + 1)) (worthBy r l) := by
  cases hr' : r with
  | shares ws =>
    subst hr'
    have := fold_sum_qz (n := n) (m := m) (ws.zip l) 0 1 qz_0 fun p hp => ⟨hr _ (List.of_mem_zip hp).1, hl _ (List.of_mem_zip hp).2⟩
    refine Qz.mono this ?_
    rw [List.length_zip, h.1, Nat.min_self]
    exact Nat.le_refl _
  | product =>
    have := fold_mul_qz (n := m) l 1 1 qz_1 hl
    refine Qz.mono this ?_
    have : l.length * m ≤ l.length * (n + m + 1) := Nat.mul_le_mul_left _ (by omega)
    omega
  | _ =>
    rw [← hr']
    have := (worthBy_mid r l h h1 (by simp [hr']) (by simp [hr'])).2
    refine Qz.mono (hl _ this) ?_
    have : 1 * m ≤ l.length * (n + m + 1) := Nat.mul_le_mul h1 (by omega)
    omega
theorem worthBy_z {r : Rule} {l : List Rat} (h : Ru r l.length) (hr : RuZ 100 r) (hl : ∀ q ∈ l, Qz 850 q) (h1 : 1 ≤ l.length) (h4 : l.length ≤ 4) : Qz 4000 (worthBy r l) := by
  refine Qz.mono (worthBy_qz h hr hl h1) ?_
  have := Nat.mul_le_mul_right (100 + 850 + 1) h4
  omega
theorem qD_inj {p q : Rat} (h : qD p = qD q) : p = q := by
  unfold qD at h
  simp only [D.tup.injEq, List.cons.injEq, D.int.injEq, and_true] at h
  exact Rat.ext h.1 (by omega)
theorem map_inj {α β : Type} {f : α → β} (hf : ∀ {a b}, f a = f b → a = b) : ∀ {l m : List α}, l.map f = m.map f → l = m
  | [], [], _ => rfl
  | [], _ :: _, h => by cases h
  | _ :: _, [], h => by cases h
  | a :: l, b :: m, h => by
    rw [List.map_cons, List.map_cons] at h
    obtain ⟨h1, h2⟩ := List.cons.inj h
    rw [hf h1, map_inj hf h2]
theorem qL_inj {p q : List Rat} (h : qL p = qL q) : p = q := by
  unfold qL at h
  simp only [D.lst.injEq] at h
  exact map_inj qD_inj h
theorem bkL_inj {p q : List (List Rat)} (h : bkL p = bkL q) : p = q := by
  unfold bkL at h
  simp only [D.lst.injEq] at h
  exact map_inj qL_inj h
theorem ruD_inj {r s : Rule} (h : ruD r = ruD s) : r = s := by
  cases r <;> cases s <;> unfold ruD at h <;> simp only [D.tup.injEq, List.cons.injEq, D.str.injEq, D.int.injEq, and_true, true_and, reduceCtorEq, and_false, List.cons_ne_self] at h <;> first | rfl | (exact absurd h (by decide)) | (exact absurd h.1 (by decide)) | skip
  · rw [qL_inj h]
  · rw [Int.ofNat_inj.mp h]
theorem rule_use {r : Rule} {l : List Rat} {E1 E2 : Prop} {Q : Rat → Prop} (hr : Ru r l.length) (h1 : 1 ≤ l.length) (h4 : l.length ≤ 4) (hw : Wts l) (hz : RuZ 100 r) (hq : ∀ q ∈ l, Qz 850 q) (h : Q (worthBy r l)) :
    ((¬ ∃ l' : List Rat, qL l = qL l' ∧ 1 ≤ l'.length ∧ l'.length ≤ 4 ∧ Wts l') → E1) ∧
    (∀ l' : List Rat, qL l = qL l' → 1 ≤ l'.length → l'.length ≤ 4 → Wts l' → (isRuleD (ruD r) l'.length = false → E2) ∧
      (∀ r', ruD r = ruD r' → Ru r' l'.length → RuZ 100 r' ∧ (∀ q ∈ l', Qz 850 q) ∧ Q (worthBy r' l'))) := by
  refine ⟨fun z => absurd ⟨l, rfl, h1, h4, hw⟩ z, fun l' e _ _ _ => ?_⟩
  have := qL_inj e
  subst this
  refine ⟨fun z => ?_, fun r' e _ => ?_⟩
  · rw [isRuleD_ruD hr] at z; cases z
  · have := ruD_inj e
    subst this
    exact ⟨hz, hq, h⟩
/-! greater worths make no less -/
theorem kth_iff {f : List Rat} (hs : f.Pairwise (fun a b => geQ a b = true)) (v : Rat) (k : Nat) (hk : k < f.length) : v ≤ f[k] ↔ k < f.countP (fun x => geQ x v) := by
  rw [List.countP_eq_length_filter, sorted_filter geQ_tot hs]
  constructor
  · intro h
    rcases Nat.lt_or_ge k (f.takeWhile fun y => geQ y v).length with h1 | h1
    · exact h1
    · have hl : (f.takeWhile fun y => geQ y v).length < f.length := by omega
      have h2 := tw_end hl
      have h3 : geQ f[(f.takeWhile fun y => geQ y v).length] v = true := by
        rcases Nat.lt_or_ge (f.takeWhile fun y => geQ y v).length k with h4 | h4
        · exact geQ_tot.tr _ _ _ (List.pairwise_iff_getElem.mp hs _ k hl hk h4) (geQ_iff.mpr h)
        · have e : k = (f.takeWhile fun y => geQ y v).length := by omega
          subst e; exact geQ_iff.mpr h
      rw [h2] at h3; cases h3
  · intro h
    obtain ⟨_, h2⟩ := tw_lt h
    exact geQ_iff.mp h2
theorem falling_sorted (l : List Rat) : (falling l).Pairwise (fun a b => geQ a b = true) := sortBy_sorted geQ_tot l
theorem countP_mono2 {l m : List Rat} {v : Rat} : l.length = m.length → (∀ p ∈ l.zip m, p.1 ≤ p.2) → l.countP (fun x => geQ x v) ≤ m.countP (fun x => geQ x v) := by
  induction l generalizing m with
  | nil => intro _ _; simp
  | cons a l ih =>
    intro hl h
    cases m with
    | nil => simp at hl
    | cons b m =>
      have h1 := ih (m := m) (by simpa using hl) (fun p hp => h p (by simp [hp]))
      have h2 : a ≤ b := h (a, b) (by simp)
      rw [List.countP_cons, List.countP_cons]
      by_cases ha : geQ a v = true
      · have hb : geQ b v = true := geQ_iff.mpr (Rat.le_trans (geQ_iff.mp ha) h2)
        simp [ha, hb]; exact h1
      · simp [ha]; omega
theorem falling_mono {l m : List Rat} (hl : l.length = m.length) (h : ∀ p ∈ l.zip m, p.1 ≤ p.2) (k : Nat) (hk : k < l.length) : (falling l)[k]'(by rw [falling_length]; exact hk) ≤ (falling m)[k]'(by rw [falling_length]; omega) := by
  rw [kth_iff (falling_sorted m)]
  have h1 := (kth_iff (falling_sorted l) ((falling l)[k]'(by rw [falling_length]; exact hk)) k (by rw [falling_length]; exact hk)).mp Rat.le_refl
  rw [(falling_perm l).countP_eq] at h1
  rw [(falling_perm m).countP_eq]
  exact Nat.lt_of_lt_of_le h1 (countP_mono2 hl h)
theorem fold_sum_mono {ws : List Rat} (hw : ∀ w ∈ ws, 0 ≤ w) : ∀ {l m : List Rat} {s t : Rat}, l.length = m.length → (∀ p ∈ l.zip m, p.1 ≤ p.2) → s ≤ t → (ws.zip l).foldl (fun t p => t + p.1 * p.2) s ≤ (ws.zip m).foldl (fun t p => t + p.1 * p.2) t := by
  induction ws with
  | nil => intro l m s t _ _ h; simpa using h
  | cons w ws ih =>
    intro l m s t hl h hst
    cases l with
    | nil => cases m with
      | nil => simpa using hst
      | cons b m => simp at hl
    | cons a l =>
      cases m with
      | nil => simp at hl
      | cons b m =>
        rw [List.zip_cons_cons, List.zip_cons_cons, List.foldl_cons, List.foldl_cons]
        refine ih (fun w hm => hw w (List.mem_cons_of_mem _ hm)) (by simpa using hl) (fun p hp => h p (by simp [hp])) ?_
        have h1 : w * a ≤ w * b := Rat.mul_le_mul_of_nonneg_left (h (a, b) (by simp)) (hw w (List.mem_cons_self ..))
        simp only; grind
theorem mul_le_mul' {a b c d : Rat} (h1 : a ≤ b) (h2 : c ≤ d) (h3 : 0 ≤ c) (h4 : 0 ≤ b) : a * c ≤ b * d :=
  Rat.le_trans (Rat.mul_le_mul_of_nonneg_right h1 h3) (Rat.mul_le_mul_of_nonneg_left h2 h4)
theorem fold_mul_mono : ∀ {l m : List Rat} {s t : Rat}, l.length = m.length → (∀ p ∈ l.zip m, p.1 ≤ p.2) → (∀ q ∈ l, 0 ≤ q) → 0 ≤ s → s ≤ t → l.foldl (fun t w => t * w) s ≤ m.foldl (fun t w => t * w) t
  | [], [], s, t, _, _, _, _, h => h
  | [], _ :: _, _, _, hl, _, _, _, _ => by simp at hl
  | _ :: _, [], _, _, hl, _, _, _, _ => by simp at hl
  | a :: l, b :: m, s, t, hl, h, h0, hs, hst => by
    rw [List.foldl_cons, List.foldl_cons]
    have ha := h0 a (List.mem_cons_self ..)
    refine fold_mul_mono (by simpa using hl) (fun p hp => h p (by simp [hp])) (fun q hq => h0 q (List.mem_cons_of_mem _ hq)) (Rat.mul_nonneg hs ha) ?_
    exact mul_le_mul' hst (h (a, b) (by simp)) ha (Rat.le_trans hs hst)
theorem worthBy_mono {r : Rule} {l m : List Rat} (hr : Ru r l.length) (h1 : 1 ≤ l.length) (hl : l.length = m.length) (h : ∀ p ∈ l.zip m, p.1 ≤ p.2) (h0 : ∀ q ∈ l, 0 ≤ q) : worthBy r l ≤ worthBy r m := by
  have mid : ∀ (hp : r ≠ .product) (hs : ∀ ws, r ≠ .shares ws), worthBy r l ≤ worthBy r m := by
    intro hp hs
    have hk := placeOf_ok hr h1 hp hs
    have e1 := (worthBy_mid r l hr h1 hp hs).1
    have e2 := (worthBy_mid r m (by rw [← hl]; exact hr) (by omega) hp hs).1
    obtain ⟨g1, e1⟩ := List.getElem?_eq_some_iff.mp e1
    obtain ⟨g2, e2⟩ := List.getElem?_eq_some_iff.mp e2
    have e3 : placeOf r m.length = placeOf r l.length := by rw [hl]
    have := falling_mono hl h (placeOf r l.length - 1) (by omega)
    rw [e1] at this
    simp only [e3] at e2
    rw [e2] at this
    exact this
  cases r with
  | shares ws => exact fold_sum_mono hr.2 hl h Rat.le_refl
  | product => exact fold_mul_mono hl h h0 (by decide) Rat.le_refl
  | least => exact mid (by simp) (by simp)
  | greatest => exact mid (by simp) (by simp)
  | middle k => exact mid (by simp) (by simp)
theorem ixn_nat {n k : Nat} (h : k < n) : ixn n (k : Int) = some k := by unfold ixn; rw [if_pos (by omega), if_pos (by omega)]; rfl
theorem rat_self (w : Rat) : (w.num : Rat) / (w.den : Rat) = w := by
  have := Rat.num_divInt_den w
  rw [Rat.divInt_eq_div] at this
  exact this
theorem ixl_mem {α : Type} {l : List α} {j : Int} (h0 : 0 ≤ j) (h1 : j < l.length) : ∃ d, ixl l j = some d ∧ d ∈ l := by
  have h : j.toNat < l.length := by omega
  exact ⟨l[j.toNat], by unfold ixl; rw [if_pos h0]; exact List.getElem?_eq_getElem h, List.getElem_mem h⟩
end TL
/-! # constants of the module, by what the top has written -/
namespace TL
open PySem PyProof.Rows L2
mutual
/-- the value u of the written part reads as d -/
inductive KD (K : PySem.W.Frag) : D → Value → Prop
  | int {i : Int} {t : Nat} : KD K (.int i) (.int i t)
  | str {x : Str} {t : Nat} : KD K (.str x) (.str x t)
  | tup {a : Addr} {od : Option Addr} {its : Array Value} {n : Nat} {sl : Array (Option Value)} {l : List D} : K.lookup a = some ⟨.type "tuple", od, .seq its n, sl⟩ → its.size ≤ sizeLine → KDs K l its.toList → KD K (.tup l) (.ref a)
inductive KDs (K : PySem.W.Frag) : List D → List Value → Prop
  | nil : KDs K [] []
  | cons {d : D} {u : Value} {l : List D} {us : List Value} : KD K d u → KDs K l us → KDs K (d :: l) (u :: us)
end
mutual
theorem KD.rp {K : PySem.W.Frag} : ∀ {d : D} {u : Value}, KD K d u → ∃ v, RelV v u ∧ ∀ F H, Rp K F H d v []
  | _, _, .int => ⟨.int _, ⟨_, rfl⟩, fun _ _ => .int _⟩
  | _, _, .str => ⟨.str _, ⟨_, rfl⟩, fun _ _ => .str _⟩
  | _, _, .tup h1 h2 h3 => by
    obtain ⟨vs, h4, h5⟩ := h3.rp
    exact ⟨.ref _, rfl, fun F H => .tup (.inr ⟨_, _, _, h1, rfl, rfl, h2, h4⟩) (h5 F H)⟩
theorem KDs.rp {K : PySem.W.Frag} : ∀ {l : List D} {us : List Value}, KDs K l us → ∃ vs, Vals vs us ∧ ∀ F H, Rps K F H l vs []
  | _, _, .nil => ⟨[], .nil, fun _ _ => .nil⟩
  | _, _, .cons h1 h2 => by
    obtain ⟨v, a1, a2⟩ := h1.rp
    obtain ⟨vs, b1, b2⟩ := h2.rp
    exact ⟨v :: vs, .cons a1 b1, fun F H => .cons (f := []) (a2 F H) (b2 F H)⟩
end
def CnK (K : PySem.W.Frag) (x : Str) (d : D) : Prop := ∃ u, PySem.W.nsIn K mainGlobals x = some (some u) ∧ KD K d u
theorem CnK.mk {K : PySem.W.Frag} {x : Str} {d : D} {u : Value} (h1 : PySem.W.nsIn K mainGlobals x = some (some u)) (h2 : KD K d u) : CnK K x d := ⟨u, h1, h2⟩
theorem CnK.at {K : PySem.W.Frag} {mg : Str → Option Value} {h : Heap} {x : Str} {d : D} (C : CnK K x d) (X : K.In h) (G : h.Ns mainGlobals mg) : CnD K mg x d := by
  obtain ⟨u, h1, h2⟩ := C
  obtain ⟨v, r, p⟩ := h2.rp
  exact ⟨v, u, PySem.W.mg_of X G h1, r, p⟩
end TL
/-! # more rules: a list taken n times -/
namespace TL
open PySem PyProof.Rows L2
def repL {α : Type} (l : List α) (n : Nat) : List α := (List.replicate n l).flatten
theorem Rps.rep {K : PySem.W.Frag} {F H : Hp} {l : List D} {vs : List V} (h : Rps K F H l vs []) : ∀ n : Nat, Rps K F H (repL l n) (repL vs n) []
  | 0 => .nil
  | n + 1 => by
    have := h.app0 (Rps.rep h n)
    unfold repL at this ⊢
    rw [List.replicate_succ, List.replicate_succ, List.flatten_cons, List.flatten_cons]
    exact this
section
variable {X : Cx} {W : WX} {pos : Pos} {e a b c : Expr} {ea eb ec : DE}
def dRep (ea eb : DE) : DE := fun M Q E => ea M (fun x M1 => eb M1 (fun y M2 => lsD x fun l => asI y fun k => D.noOwns l = true ∧ smallI k ∧ l.length * k.toNat ≤ 10000 ∧ Q (.own (repL l k.toNat)) M2) E) E
theorem d_rep (ha : PE X a (liftE X.K W ea)) (hb : PE X b (liftE X.K W eb)) : PE X (.BinOp a .Mult b pos) (liftE X.K W (dRep ea eb)) := peW (pe_op op_rep ha hb) fun σ H Q ⟨fx, M, L, F, Q0, E0, sr, he, hq, hx⟩ =>
  ⟨fx, M, L, F, _, E0, sr, he, fun x M1 v F1 H1 q1 s1 sr1 => ⟨fx, M1, _, F1, _, E0, sr1, q1, fun y M2 w F2 H2 q2 s2 sr2 => (by
    obtain ⟨g, p'⟩ := sr2.pop.top
    obtain ⟨l, a1, vs, g1, q3, rfl, hH1, r1⟩ := lsD_ok sr2.sub p' q2
    obtain ⟨k, rfl, n1, hk, hl, q5⟩ := asI_iff.mp q3
    have := sr2.int; subst this
    rw [Rps.clean _ _ _ n1 r1] at r1
    have e1 := r1.len
    unfold smallI at hk
    refine ⟨a1, k, vs, rfl, rfl, hH1, by omega, by omega, by rw [← e1, sizeLine_eq]; omega, fun p hp => ?_⟩
    exact hq _ M2 _ F2 _ q5 (s1.trans s2) (sr2.pop.pop.ownOf (r1.rep k.toNat) hp)), fun C M' F' H' z s sr' => hx C M' F' H' z (s1.trans s) sr'.pop⟩, hx⟩
end
theorem noOwns_rep {l : List D} (h : D.noOwns l = true) : ∀ n : Nat, D.noOwns (repL l n) = true
  | 0 => rfl
  | n + 1 => by
    have := noOwns_rep h n
    unfold repL at this ⊢
    rw [List.replicate_succ, List.flatten_cons, noOwns_app, h, this]; rfl
theorem frzs_app : ∀ l m : List D, D.frzs (l ++ m) = D.frzs l ++ D.frzs m
  | [], m => rfl
  | d :: l, m => by rw [List.cons_append, frzs_cons, frzs_cons, frzs_app l m]; rfl
theorem frzs_rep (l : List D) : ∀ n : Nat, D.frzs (repL l n) = repL (D.frzs l) n
  | 0 => rfl
  | n + 1 => by
    have := frzs_rep l n
    unfold repL at this ⊢
    rw [List.replicate_succ, List.flatten_cons, frzs_app, this, List.replicate_succ, List.flatten_cons]
theorem frz_own_rep (l : List D) (n : Nat) : (D.own (repL l n)).frz = .lst (repL (D.frzs l) n) := by rw [frz_own, frzs_rep]
theorem frzs_qDs (l : List Rat) : D.frzs (l.map qD) = l.map qD := frzs_map frz_qD l
theorem repL_one {α : Type} (x : α) (n : Nat) : repL [x] n = List.replicate n x := by
  unfold repL
  induction n with
  | zero => rfl
  | succ n ih => rw [List.replicate_succ, List.flatten_cons, ih, List.replicate_succ]; rfl
theorem repL_length {α : Type} (l : List α) (n : Nat) : (repL l n).length = n * l.length := by
  unfold repL; rw [List.length_flatten]; simp
theorem mem_repL {α : Type} {l : List α} {n : Nat} {x : α} (h : x ∈ repL l n) : x ∈ l := by
  unfold repL at h
  obtain ⟨m, hm, hx⟩ := List.mem_flatten.mp h
  rw [List.eq_of_mem_replicate hm] at hx; exact hx
/-! ### books by rules -/
def col (b : List (List Rat)) (j : Nat) : List Rat := b.map fun r => r.getD j 0
def thingsN (b : List (List Rat)) : Nat := (b.headD []).length
def worthsOf (b : List (List Rat)) (r : Rule) : List Rat := (List.range (thingsN b)).map fun j => worthBy r (col b j)
def pqD (p : Nat × Rat) : D := .tup [.int (p.1 : Int), qD p.2]
def fewBy (b : List (List Rat)) (r : Rule) : List (Nat × Rat) := sortBy (fun p q => geQ p.2 q.2) ((worthsOf b r).zipIdx.map fun p => (p.2, p.1))
theorem Bk.things {b : List (List Rat)} {m : Nat} (h : Bk b m) : thingsN b = m := by
  obtain ⟨w, r, rfl, hw⟩ := h.head
  exact hw
abbrev BkT (b : List (List Rat)) : Prop := Bk b (thingsN b)
theorem Bk.t {b : List (List Rat)} {m : Nat} (h : Bk b m) : BkT b := by unfold BkT; rw [h.things]; exact h
theorem col_length (b : List (List Rat)) (j : Nat) : (col b j).length = b.length := by unfold col; rw [List.length_map]
theorem mem_col {b : List (List Rat)} {m j : Nat} (h : Bk b m) (hj : j < m) {q : Rat} (hq : q ∈ col b j) : ∃ r ∈ b, q ∈ r := by
  obtain ⟨r, hr, rfl⟩ := List.mem_map.mp hq
  refine ⟨r, hr, ?_⟩
  have := h.len r hr
  rw [List.getD_eq_getElem?_getD, List.getElem?_eq_getElem (by omega)]
  exact List.getElem_mem _
theorem worthsOf_length (b : List (List Rat)) (r : Rule) : (worthsOf b r).length = thingsN b := by unfold worthsOf; simp
theorem fewBy_length (b : List (List Rat)) (r : Rule) : (fewBy b r).length = thingsN b := by unfold fewBy; rw [sortBy_length, List.length_map, List.length_zipIdx, worthsOf_length]
/-- sizes of a book -/
def BkZ (n : Nat) (b : List (List Rat)) : Prop := ∀ r ∈ b, ∀ q ∈ r, Qz n q
theorem BkZ.mono {n m : Nat} {b : List (List Rat)} (h : BkZ n b) (hm : n ≤ m) : BkZ m b := fun r hr q hq => (h r hr q hq).mono hm
theorem pd_book {b : List (List Rat)} {m : Nat} (h : Bk b m) : PD 8 (bkL b) := (pd_bkL 5 b (by have := h.l4; omega) (fun r hr => by have := h.len r hr; have := h.m12; omega))
theorem wby_z {b : List (List Rat)} {m j : Nat} {r : Rule} (h : Bk b m) (hz : BkZ 850 b) (hr : Ru r b.length) (hrz : RuZ 100 r) (hj : j < m) : Ru r (col b j).length ∧ (∀ q ∈ col b j, Qz 850 q) ∧ 1 ≤ (col b j).length ∧ (col b j).length ≤ 4 ∧ Qz 4000 (worthBy r (col b j)) := by
  have h1 : ∀ q ∈ col b j, Qz 850 q := fun q hq => by obtain ⟨r, hr, hq⟩ := mem_col h hj hq; exact hz r hr q hq
  have l1 := h.l1
  have l4 := h.l4
  have e := col_length b j
  have hr' : Ru r (col b j).length := by rw [e]; exact hr
  exact ⟨hr', h1, by omega, by omega, worthBy_z hr' hrz h1 (by omega) (by omega)⟩
theorem mem_worthsOf {b : List (List Rat)} {m : Nat} {r : Rule} (h : Bk b m) (hz : BkZ 850 b) (hr : Ru r b.length) (hrz : RuZ 100 r) : ∀ q ∈ worthsOf b r, Qz 4000 q := by
  intro q hq
  unfold worthsOf at hq
  obtain ⟨j, hj, rfl⟩ := List.mem_map.mp hq
  rw [List.mem_range, h.things] at hj
  exact (wby_z h hz hr hrz hj).2.2.2.2
def isCountD (d : D) (m : Nat) : Bool := match d with
  | .int c => decide (0 ≤ c) && decide (c ≤ (m : Int))
  | _ => false
theorem isCountD_iff {d : D} {m : Nat} : isCountD d m = true ↔ ∃ c : Nat, d = .int (c : Int) ∧ c ≤ m := by
  unfold isCountD
  constructor
  · intro h
    split at h
    · simp only [Bool.and_eq_true, decide_eq_true_eq] at h
      rename_i c
      exact ⟨c.toNat, by rw [show ((c.toNat : Nat) : Int) = c by omega], by omega⟩
    · cases h
  · rintro ⟨c, rfl, h⟩
    simp only [Bool.and_eq_true, decide_eq_true_eq]
    omega
/-- from what was made by then -/
theorem compL_mapA {α : Type} {o : Option Nat} {its0 : List D} {tg : DG} {te : DE} {vs : List Nat} {Q : List D → MS → Prop} {M : MS} (enc : α → D) (g : α → D) : ∀ (l : List α) (acc : List D),
    (∀ i, o = some i → M.at i = some (.own its0)) →
    (∀ x ∈ l, ∀ C : D → MS → Prop, C (g x) M → tg (enc x) M fun M1 => stM M1 fun M1 => te M1 (fun y M3 => stM (wipeM M3 vs) fun M4 => C y M4) noX) →
    Q (acc ++ l.map g) M → compL o its0 tg tYesD te vs (l.map enc) acc M Q
  | [], acc, ho, _, h => ⟨ho, by simpa using h⟩
  | x :: l, acc, ho, hs, h => ⟨ho, hs x (List.mem_cons_self ..) (fun y M4 => compL o its0 tg tYesD te vs (l.map enc) (acc ++ [y]) M4 Q) (compL_mapA enc g l _ ho (fun y hy => hs y (List.mem_cons_of_mem _ hy)) (by simpa using h))⟩
end TL
/-! # a list that is one's own, lent to a def that does not change it -/
namespace TL
open PySem PyProof.Rows L2
mutual
/-- trees without lists that nobody changes -/
def D.noLst : D → Bool
  | .lst _ => false
  | .scr _ => false
  | .tup l => D.noLsts l
  | .own l => D.noLsts l
  | .obj _ _ l => D.noLsts l
  | .fob _ _ _ => false
  | _ => true
def D.noLsts : List D → Bool
  | [] => true
  | d :: l => d.noLst && D.noLsts l
end
section
variable {K : PySem.W.Frag} {F F' F'' H : Hp} {f : List Addr}
/-- what F' knows beyond F'' are lists -/
def LI (o : HO) : Prop := (∃ vs, o = .lst vs) ∨ ∃ C dx us, o = .ins C dx us
structure Less (F' F'' : Hp) : Prop where
  sub : Same F'' F'
  lst : ∀ b o, F' b = some o → F'' b = some o ∨ LI o
theorem Less.none (l : Less F' F'') {a : Addr} (h : F' a = none) : F'' a = none := by
  cases e : F'' a with
  | none => rfl
  | some o => rw [l.sub a o e] at h; cases h
theorem Less.sqT (l : Less F' F'') {a : Addr} {vs : List V} (h : SqT K F' a vs) : SqT K F'' a vs := by
  rcases h with (h | ⟨o, h⟩) | h
  · rcases l.lst a _ h with h | ⟨vs, e⟩ | ⟨_, _, _, e⟩
    · exact .inl (.inl h)
    · cases e
    · cases e
  · rcases l.lst a _ h with h | ⟨vs, e⟩ | ⟨_, _, _, e⟩
    · exact .inl (.inr ⟨o, h⟩)
    · cases e
    · cases e
  · exact .inr h
mutual
theorem Rp.less (l : Less F' F'') : ∀ (d : D) (v : V) (f : List Addr), d.noLst = true → Rp K F' H d v f → Rp K F'' H d v f
  | .non, _, _, _, h => by cases h; exact .non
  | .bl b, _, _, _, h => by cases h; exact .bl b
  | .int b, _, _, _, h => by cases h; exact .int b
  | .str b, _, _, _, h => by cases h; exact .str b
  | .cls b, _, _, _, h => by cases h; exact .cls b
  | .ty b, _, _, _, h => by cases h; exact .ty b
  | .exc C, _, _, _, h => by
    cases h with
    | exc _ q =>
      obtain ⟨φ, e, q⟩ := q
      rcases l.lst _ _ e with e | ⟨vs, e⟩ | ⟨_, _, _, e⟩
      · exact .exc C ⟨φ, e, q⟩
      · cases e
      · cases e
  | .scr ns, _, _, n, _ => by cases n
  | .lst m, _, _, n, _ => by cases n
  | .tup m, _, _, n, h => by
    cases h with
    | tup q r => exact .tup (l.sqT q) (Rps.less l m _ _ n r)
  | .own m, _, _, n, h => by
    cases h with
    | own q e r => exact .own (l.none q) e (Rps.less l m _ _ n r)
  | .obj _ _ m, _, _, n, h => by
    cases h with
    | obj q e u r => exact .obj (l.none q) e u (Rps.less l m _ _ n r)
  | .fob _ _ _, _, _, n, h => by cases n
theorem Rps.less (l : Less F' F'') : ∀ (m : List D) (vs : List V) (f : List Addr), D.noLsts m = true → Rps K F' H m vs f → Rps K F'' H m vs f
  | [], _, _, _, h => by cases h; exact .nil
  | d :: m, _, _, n, h => by
    have n : (d.noLst && D.noLsts m) = true := n
    rw [Bool.and_eq_true] at n
    cases h with
    | cons p q => exact .cons (Rp.less l d _ _ n.1 p) (Rps.less l m _ _ n.2 q)
end
mutual
/-- the footprint of a tree: lists -/
theorem Rp.footL : ∀ (d : D) (v : V) (f : List Addr), Rp K F H d v f → ∀ b ∈ f, ∃ o, H b = some o ∧ LI o
  | .non, _, _, h, _, z => by cases h; cases z
  | .bl _, _, _, h, _, z => by cases h; cases z
  | .int _, _, _, h, _, z => by cases h; cases z
  | .str _, _, _, h, _, z => by cases h; cases z
  | .cls _, _, _, h, _, z => by cases h; cases z
  | .ty _, _, _, h, _, z => by cases h; cases z
  | .exc _, _, _, h, _, z => by cases h; cases z
  | .scr _, _, _, h, _, z => by cases h; cases z
  | .lst _, _, _, h, _, z => by cases h; cases z
  | .tup l, _, _, h, b, z => by
    cases h with
    | tup q r => exact Rps.footL l _ _ r b z
  | .own l, _, _, h, b, z => by
    cases h with
    | own q e r =>
      rcases List.mem_cons.mp z with rfl | z
      · exact ⟨_, e, .inl ⟨_, rfl⟩⟩
      · exact Rps.footL l _ _ r b z
  | .obj _ _ l, _, _, h, b, z => by
    cases h with
    | obj q e n r =>
      rcases List.mem_cons.mp z with rfl | z
      · exact ⟨_, e, .inr ⟨_, _, _, rfl⟩⟩
      · exact Rps.footL l _ _ r b z
  | .fob _ _ _, _, _, h, _, z => by cases h; cases z
theorem Rps.footL : ∀ (l : List D) (vs : List V) (f : List Addr), Rps K F H l vs f → ∀ b ∈ f, ∃ o, H b = some o ∧ LI o
  | [], _, _, h, _, z => by cases h; cases z
  | d :: l, _, _, h, b, z => by
    cases h with
    | cons p q =>
      rcases List.mem_append.mp z with z | z
      · exact Rp.footL d _ _ p b z
      · exact Rps.footL l _ _ q b z
end
end
/-- what comes back, with the lent one put in -/
def insO : List Slot → Nat → List D → D → List D
  | .io _ :: _, 0, outs, x => x :: outs
  | .io _ :: as, p + 1, o :: outs, x => o :: insO as p outs x
  | .va _ :: as, p + 1, outs, x => insO as p outs x
  | .un :: as, p + 1, outs, x => insO as p outs x
  | _, _, outs, _ => outs
theorem hd_ins {K : PySem.W.Frag} {F H : Hp} {x e dz : D} {v : V} {f : List Addr} (px : Rp K F H x v f) : ∀ {as : List Slot} {p : Nat} {vs : List V} {outs : List D} {gs : List (List Addr)}, as.all argS = true → as[p]? = some (.io e) → vs[p]? = some v → HdR K F H (ioPairs (as.set p (.va dz)) vs outs) gs →
    ∃ gs', HdR K F H (ioPairs as vs (insO as p outs x)) gs' ∧ ∀ a, cnt a gs' ≤ cnt a gs + f.count a
  | [], p, vs, outs, gs, _, h, _, _ => by simp at h
  | s :: as, 0, [], outs, gs, _, h, hv, _ => by simp at hv
  | s :: as, 0, w :: vs, outs, gs, _, h, hv, r => by
    simp at h hv
    subst h hv
    exact ⟨f :: gs, .cons px r, fun a => by simp only [cnt]; omega⟩
  | s :: as, p + 1, [], outs, gs, _, h, hv, _ => by simp at hv
  | s :: as, p + 1, w :: vs, outs, gs, ha, h, hv, r => by
    rw [List.all_cons, Bool.and_eq_true] at ha
    have h : as[p]? = some (.io e) := by simpa using h
    have hv : vs[p]? = some v := by simpa using hv
    cases s with
    | va d => exact hd_ins px (as := as) (p := p) (vs := vs) (outs := outs) (dz := dz) ha.2 h hv r
    | un => cases ha.1
    | ol => cases ha.1
    | io d =>
      cases outs with
      | nil => exact ⟨[], .nil, fun a => by simp [cnt]⟩
      | cons o outs =>
        have r2 : HdR K F H ((w, o) :: ioPairs (as.set p (.va dz)) vs outs) gs := r
        cases r2 with
        | cons q r3 =>
          obtain ⟨gs', h1, h2⟩ := hd_ins px (as := as) (p := p) (vs := vs) (outs := outs) (dz := dz) ha.2 h hv r3
          exact ⟨_, .cons q h1, fun a => by have := h2 a; simp only [cnt]; omega⟩
/-- what is promised of a lent list at place p -/
def bor (p : Nat) (T : Spec) : Spec := fun as Q E => ∃ (l : List D) (dz : D), as[p]? = some (.io (.own l)) ∧ (D.own l).frz = dz ∧ T (as.set p (.va dz)) (fun d outs => d.noLst = true ∧ D.noLsts outs = true ∧ Q d (insO as p outs (.own l))) (fun C outs => D.noLsts outs = true ∧ E C (insO as p outs (.own l)))
theorem sp_bor {K : PySem.W.Frag} {n p : Nat} {T : Spec} {vs : List V} {H : Hp} {Q : VK} {E : XK} (h : spOf K n (bor p T) vs H Q E) : spOf K n T vs H Q E := by
  obtain ⟨as, F, fs, Q0, E0, hl, ha, sF, r, cn, ⟨l, dz, hp, rfl, hT⟩, hq, hx⟩ := h
  obtain ⟨hl1, hl2⟩ := r.len
  rw [List.length_map] at hl1
  obtain ⟨v, f, hv, hf, pv, _⟩ := r.io_at hp
  have hpl : p < fs.length := by rw [hl2]; exact (List.getElem?_eq_some_iff.mp hp).1
  have hv' : vs[p]? = some v := by
    rw [List.getElem?_map] at hv
    cases e : vs[p]? with
    | none => rw [e] at hv; cases hv
    | some w => rw [e] at hv; cases hv; rfl
  have cs := fun a => cnt_set a fs p f [] hf
  simp only [List.count_nil] at cs
  have fF : ∀ b ∈ f, F b = none := fun b z => (Rp.foot _ _ _ pv b z).1
  have fL := Rp.footL _ _ _ pv
  have f1 : ∀ b ∈ f, f.count b = 1 ∧ cnt b (fs.set p []) = 0 := fun b z => by
    have h1 := List.count_pos_iff.mpr z
    have h2 := cs b
    have h3 := cn b
    omega
  -- what is known while it is lent
  obtain ⟨F2, hF2⟩ : ∃ F2 : Hp, F2 = fun b => if b ∈ f then H b else F b := ⟨_, rfl⟩
  have F2in : ∀ b ∈ f, F2 b = H b := fun b z => by rw [hF2]; exact if_pos z
  have F2out : ∀ b, b ∉ f → F2 b = F b := fun b z => by rw [hF2]; exact if_neg z
  have s2 : Same F F2 := fun b o e => by rw [F2out b fun z => by rw [fF b z] at e; cases e]; exact e
  have s3 : Same F2 H := fun b o e => by
    by_cases z : b ∈ f
    · rw [F2in b z] at e; exact e
    · rw [F2out b z] at e; exact sF b o e
  have pz : Rp K F2 H (D.own l).frz v [] := Rp.frz s2 _ _ _ (fun b z => F2in b z) pv
  have r2 : SlR K F2 H vs 0 (as.set p (.va (D.own l).frz)) (vs.map some) (fs.set p []) := by
    have nz : ∀ b, 0 < cnt b (fs.set p []) → b ∉ f := fun b z hb => by have := (f1 b hb).2; omega
    -- the others as they were, the lent one frozen
    have go : ∀ {j q : Nat} {as : List Slot} {σ : L2.St} {gs : List (List Addr)}, SlR K F H vs j as σ gs → as[q]? = some (.io (.own l)) → σ[q]? = some (some v) → (∀ b, 0 < cnt b (gs.set q []) → b ∉ f) → SlR K F2 H vs j (as.set q (.va (D.own l).frz)) σ (gs.set q []) := by
      intro j q as σ gs r
      have mo : ∀ {j : Nat} {as : List Slot} {σ : L2.St} {gs : List (List Addr)}, SlR K F H vs j as σ gs → (∀ b, 0 < cnt b gs → b ∉ f) → SlR K F2 H vs j as σ gs := fun r z => r.mono s2 fun b y => ⟨by rw [F2out b (z b y)]; exact (r.foot b y).1, rfl⟩
      induction r generalizing q with
      | nil => intro e; simp at e
      | un r ih =>
        intro e hv ho
        cases q with
        | zero => simp at e
        | succ q => exact .un (ih (by simpa using e) (by simpa using hv) fun x z => ho x (by simpa [cnt] using z))
      | ol y r ih =>
        intro e hv ho
        cases q with
        | zero => simp at e
        | succ q => exact .ol y (ih (by simpa using e) (by simpa using hv) fun x z => ho x (by simpa [cnt] using z))
      | va q0 r ih =>
        intro e hv ho
        cases q with
        | zero => simp at e
        | succ q => exact .va (Rp.mono s2 _ _ _ (fun x z => ⟨by rw [F2out x (ho x (by have := List.count_pos_iff.mpr z; simp only [List.set_cons_succ, cnt]; omega))]; exact (Rp.foot _ _ _ q0 x z).1, rfl⟩) q0) (ih (by simpa using e) (by simpa using hv) fun x z => ho x (by simp only [List.set_cons_succ, cnt]; omega))
      | io y q0 r ih =>
        intro e hv ho
        cases q with
        | zero =>
          simp at hv
          subst hv
          exact .va pz (mo r fun x z => ho x (by simpa [cnt] using z))
        | succ q => exact .io y (Rp.mono s2 _ _ _ (fun x z => ⟨by rw [F2out x (ho x (by have := List.count_pos_iff.mpr z; simp only [List.set_cons_succ, cnt]; omega))]; exact (Rp.foot _ _ _ q0 x z).1, rfl⟩) q0) (ih (by simpa using e) (by simpa using hv) fun x z => ho x (by simp only [List.set_cons_succ, cnt]; omega))
    exact go r hp hv nz
  -- the way back
  have back : ∀ {L : List (V × D)} {outs : List D} {F' H' : Hp}, (∀ p ∈ L, p.2.noLst = true) → D.noLsts outs = true → SR K ⟨[], hide H (fs.set p []), F2, []⟩ [] (L ++ ioPairs (as.set p (.va (D.own l).frz)) vs outs) [] F' H' →
      ∃ F'', SR K ⟨[], hide H fs, F, []⟩ [] (L ++ ioPairs as vs (insO as p outs (.own l))) [] F'' H' := by
    intro L outs F' H' nL nO k
    obtain ⟨ksub, kstay, kagree, _, kfs, kgs, k1, k2, kc, kg⟩ := k
    cases k1
    have hid : ∀ b, cnt b (fs.set p []) = 0 → hide H (fs.set p []) b = H b := fun b z => by unfold hide; rw [if_neg (by omega)]
    have inF' : ∀ b ∈ f, F' b = H b ∧ H' b = H b := fun b z => by
      obtain ⟨vs', e, ho⟩ := fL b z
      have e1 := hid b (f1 b z).2
      have e2 := kagree b (by show hide H (fs.set p []) b ≠ none; rw [e1, e]; simp)
      exact ⟨e2.trans (F2in b z), (kstay b _ (e1.trans e)).trans e.symm⟩
    obtain ⟨F'', hF''⟩ : ∃ F'' : Hp, F'' = fun b => if b ∈ f then none else F' b := ⟨_, rfl⟩
    have in'' : ∀ b ∈ f, F'' b = none := fun b z => by rw [hF'']; exact if_pos z
    have out'' : ∀ b, b ∉ f → F'' b = F' b := fun b z => by rw [hF'']; exact if_neg z
    have less : Less F' F'' := ⟨fun b o e => by
        by_cases z : b ∈ f
        · rw [in'' b z] at e; cases e
        · rw [out'' b z] at e; exact e, fun b o e => by
        by_cases z : b ∈ f
        · obtain ⟨vs', e', ho⟩ := fL b z
          rw [(inF' b z).1, e'] at e
          cases e; exact .inr ho
        · exact .inl (by rw [out'' b z]; exact e)⟩
    have sFF : Same F F'' := fun b o e => by
      have nb : b ∉ f := fun z => by rw [fF b z] at e; cases e
      have nc : cnt b fs = 0 := by
        rcases Nat.eq_zero_or_pos (cnt b fs) with h | h
        · exact h
        · rw [(r.foot b h).1] at e; cases e
      have e1 := hid b (by have := cs b; omega)
      rw [out'' b nb, kagree b (by show hide H (fs.set p []) b ≠ none; rw [e1, sF b o e]; simp)]
      exact s2 b o e
    have own : Rp K F'' H' (.own l) v f := Rp.mono sFF _ _ _ (fun b z => ⟨in'' b z, (inF' b z).2⟩) pv
    -- all held ones, known by less
    have all : ∀ {L : List (V × D)} {gs : List (List Addr)}, (∀ p ∈ L, p.2.noLst = true) → HdR K F' H' L gs → HdR K F'' H' L gs := by
      intro L gs h r
      induction r with
      | nil => exact .nil
      | cons q r ih => exact .cons (Rp.less less _ _ _ (h _ (List.mem_cons_self ..)) q) (ih fun p hp => h p (List.mem_cons_of_mem _ hp))
    have nP : ∀ {as : List Slot} {vs : List V} {outs : List D}, D.noLsts outs = true → ∀ p ∈ ioPairs as vs outs, p.2.noLst = true := by
      intro as
      induction as with
      | nil => intro vs outs _ p hp; cases vs <;> cases outs <;> cases hp
      | cons s as ih =>
        intro vs outs h p hp
        cases s <;> cases vs <;> try (cases hp; done)
        · exact ih h p hp
        · exact ih h p hp
        · cases outs with
          | nil => cases hp
          | cons o os =>
            have h : (o.noLst && D.noLsts os) = true := h
            rw [Bool.and_eq_true] at h
            rcases List.mem_cons.mp hp with rfl | hp
            · exact h.1
            · exact ih h.2 p hp
    have split : ∀ {L M : List (V × D)} {gs : List (List Addr)}, HdR K F' H' (L ++ M) gs → ∃ g1 g2, HdR K F' H' L g1 ∧ HdR K F' H' M g2 ∧ ∀ a, cnt a gs = cnt a g1 + cnt a g2 := by
      intro L
      induction L with
      | nil => intro M gs r; exact ⟨[], gs, .nil, r, fun a => by simp [cnt]⟩
      | cons x L ih =>
        intro M gs r
        cases r with
        | cons q r => obtain ⟨g1, g2, a1, a2, a3⟩ := ih r; exact ⟨_, g2, .cons q a1, a2, fun a => by simp only [cnt, a3]; omega⟩
    have join : ∀ {L M : List (V × D)} {g1 g2 : List (List Addr)}, HdR K F'' H' L g1 → HdR K F'' H' M g2 → ∃ gs, HdR K F'' H' (L ++ M) gs ∧ ∀ a, cnt a gs = cnt a g1 + cnt a g2 := by
      intro L
      induction L with
      | nil => intro M g1 g2 r1 r2; cases r1; exact ⟨g2, r2, fun a => by simp [cnt]⟩
      | cons x L ih =>
        intro M g1 g2 r1 r2
        cases r1 with
        | cons q r => obtain ⟨gs, a1, a2⟩ := ih r r2; exact ⟨_, .cons q a1, fun a => by simp only [cnt, a2]; omega⟩
    obtain ⟨g1, g2, a1, a2, a3⟩ := split k2
    have b1 := all nL a1
    have b2 := all (nP nO) a2
    obtain ⟨g3, c1, c2⟩ := hd_ins own (outs := outs) ha hp hv' b2
    obtain ⟨gs, d1, d2⟩ := join b1 c1
    have apart : ∀ b ∈ f, cnt b kgs = 0 := fun b z => by
      rcases Nat.eq_zero_or_pos (cnt b kgs) with h | h
      · exact h
      · have := (k2.foot b h).1
        obtain ⟨vs', e, ho⟩ := fL b z
        rw [(inF' b z).1, e] at this; cases this
    refine ⟨F'', fun b o e => ksub b o (less.sub b o e), fun b o e => ?_, fun b z => ?_, rfl, [], gs, .nil, d1, fun a => ?_, fun a z => ?_⟩
    · have e : hide H fs b = some o := e
      unfold hide at e
      split at e
      · cases e
      · rename_i h0
        exact kstay b o (by show hide H (fs.set p []) b = some o; rw [hid b (by have := cs b; omega)]; exact e)
    · have z : hide H fs b ≠ none := z
      unfold hide at z
      split at z
      · exact absurd rfl z
      · rename_i h0
        have nb : b ∉ f := fun hb => by have := cnt_get (a := b) hf; have := List.count_pos_iff.mpr hb; omega
        rw [out'' b nb, kagree b (by show hide H (fs.set p []) b ≠ none; rw [hid b (by have := cs b; omega)]; exact z)]
        exact F2out b nb
    · have h1 := kc a
      have h2 := c2 a
      have h3 := d2 a
      have h4 := a3 a
      simp only [cnt] at h1 ⊢
      by_cases hb : a ∈ f
      · have := (f1 a hb).1; have := apart a hb; omega
      · have := List.count_eq_zero.mpr hb; omega
    · have h2 := c2 a
      have h3 := d2 a
      have h4 := a3 a
      show hide H fs a = none
      unfold hide
      split
      · rfl
      · rename_i h0
        by_cases hb : a ∈ f
        · have := cnt_get (a := a) hf; have := List.count_pos_iff.mpr hb; omega
        · have := List.count_eq_zero.mpr hb
          simp only [cnt] at z
          have := kg a (by simp only [cnt]; omega)
          have this : hide H (fs.set p []) a = none := this
          rw [hid a (by have := cs a; omega)] at this
          exact this
  refine ⟨as.set p (.va (D.own l).frz), F2, fs.set p [], _, _, by rw [List.length_set]; exact hl, ?_, s3, r2, fun a => by have := cs a; have := cn a; omega, hT, fun d outs v F' H' z k => ?_, fun C outs F' H' z k => ?_⟩
  · rw [List.all_eq_true] at ha ⊢
    intro s hs
    rcases List.mem_or_eq_of_mem_set hs with h | rfl
    · exact ha s h
    · rfl
  · obtain ⟨F'', k'⟩ := back (L := [(v, d)]) (fun p hp => by rw [List.mem_singleton.mp hp]; exact z.1) z.2.1 k
    exact hq d _ v F'' H' z.2.2 k'
  · obtain ⟨F'', k'⟩ := back (L := []) (fun p hp => nomatch hp) z.1 k
    exact hx C _ F'' H' z.2 k'
theorem Cal.bor {P : Program} {w : World} {K : PySem.W.Frag} {mg : Str → Option Value} {base : Heap} {k n : Nat} {x : Str} {T : Spec} (p : Nat) (G : Cal P w K mg base k n x T) : Cal P w K mg base k n x (bor p T) := by
  obtain ⟨a, fd, ps, F, h1, h2, h3⟩ := G.ex
  exact ⟨a, fd, ps, ⟨fun vs H Q E h => F.many vs H Q E (sp_bor h), fun hr he hb hv h => F.go hr he hb hv (sp_bor h)⟩, h1, h2, h3⟩
end TL
/-! # the greatest and the least of a list -/
namespace TL
open PySem PyProof.Rows L2
def maxI : List Int → Int
  | [] => 0
  | [x] => x
  | x :: y :: l => if maxI (y :: l) ≤ x then x else maxI (y :: l)
def minI : List Int → Int
  | [] => 0
  | [x] => x
  | x :: y :: l => if x ≤ minI (y :: l) then x else minI (y :: l)
theorem maxI_mem : ∀ {l : List Int}, 0 < l.length → maxI l ∈ l
  | [x], _ => by simp [maxI]
  | x :: y :: l, _ => by
    have := maxI_mem (l := y :: l) (by simp)
    unfold maxI
    split
    · simp
    · exact List.mem_cons_of_mem _ this
theorem maxI_ge : ∀ {l : List Int} {y : Int}, y ∈ l → y ≤ maxI l
  | [x], y, h => by rw [List.mem_singleton.mp h]; exact Int.le_refl _
  | x :: z :: l, y, h => by
    unfold maxI
    rcases List.mem_cons.mp h with rfl | h
    · split <;> omega
    · have := maxI_ge h
      split <;> omega
theorem minI_mem : ∀ {l : List Int}, 0 < l.length → minI l ∈ l
  | [x], _ => by simp [minI]
  | x :: y :: l, _ => by
    have := minI_mem (l := y :: l) (by simp)
    unfold minI
    split
    · simp
    · exact List.mem_cons_of_mem _ this
theorem minI_le : ∀ {l : List Int} {y : Int}, y ∈ l → minI l ≤ y
  | [x], y, h => by rw [List.mem_singleton.mp h]; exact Int.le_refl _
  | x :: z :: l, y, h => by
    unfold minI
    rcases List.mem_cons.mp h with rfl | h
    · split <;> omega
    · have := minI_le h
      split <;> omega
section
variable {X : Cx} {W : WX} {pos : Pos} {e : Expr} {ea : DE}
def gMaxL : D → (D → Prop) → Prop := fun d k => lsD d fun l => getO (asInts l) fun ns => 0 < ns.length ∧ k (.int (maxI ns))
def gMinL : D → (D → Prop) → Prop := fun d k => lsD d fun l => getO (asInts l) fun ns => 0 < ns.length ∧ k (.int (minI ns))
theorem cal_maxL : Cal1 X (rMax X.K) gMaxL := fun {F H d v f k} s p h => by
  obtain ⟨l, a, vs, g, h, rfl, hH, r⟩ := lsD_ok s p h
  obtain ⟨bs, hb, h0, h⟩ := getO_iff.mp h
  have := asInts_ok r hb
  subst this
  exact ⟨_, _, h, .int _, fun Q q => ⟨a, bs, rfl, SqL.of hH, h0, fun m m1 m2 => (by
    have : m = maxI bs := Int.le_antisymm (maxI_ge m1) (m2 _ (maxI_mem h0))
    rw [this]; exact q)⟩⟩
theorem cal_minL : Cal1 X (rMin X.K) gMinL := fun {F H d v f k} s p h => by
  obtain ⟨l, a, vs, g, h, rfl, hH, r⟩ := lsD_ok s p h
  obtain ⟨bs, hb, h0, h⟩ := getO_iff.mp h
  have := asInts_ok r hb
  subst this
  exact ⟨_, _, h, .int _, fun Q q => ⟨a, bs, rfl, SqL.of hH, h0, fun m m1 m2 => (by
    have : m = minI bs := Int.le_antisymm (m2 _ (minI_mem h0)) (minI_le m1)
    rw [this]; exact q)⟩⟩
theorem d_maxL {p : Pos} (hc : X.calm = true) (hm : X.mg "max" = none) (ha : PE X e (liftB X.K W ea)) (hg : Gl X "max" := by rfl) (he : starEach [e] X.env = [(false, eval e X.env)] := by rfl) : PE X (.Call (.Name "max" p) [e] [] pos) (liftE X.K W (dCal1 gMaxL ea)) :=
  d_cal1 (cr_max hc) cal_maxL hg hm (by decide +kernel) ha (by decide) (by decide) he
theorem d_minL {p : Pos} (hc : X.calm = true) (hm : X.mg "min" = none) (ha : PE X e (liftB X.K W ea)) (hg : Gl X "min" := by rfl) (he : starEach [e] X.env = [(false, eval e X.env)] := by rfl) : PE X (.Call (.Name "min" p) [e] [] pos) (liftE X.K W (dCal1 gMinL ea)) :=
  d_cal1 (cr_min hc) cal_minL hg hm (by decide +kernel) ha (by decide) (by decide) he
end
/-! list(range(n)) -/
theorem rps_rng {K : PySem.W.Frag} {F H : Hp} (a b : Int) : Rps K F H (rngD a b) (rgV a b) [] := by
  have := rps_ints (K := K) (F := F) (H := H) ((List.range (b - a).toNat).map fun i => a + (i : Nat))
  rw [List.map_map, List.map_map] at this
  unfold rngD rgV
  exact this
section
variable {X : Cx} {W : WX} {pos : Pos} {a b : Expr} {ea eb : DE}
def dLR1 (ea : DE) : DE := fun M Q E => ea M (fun x M1 => asI x fun n => smallI n ∧ n ≤ 10000 ∧ Q (.own (rngD 0 n)) M1) E
theorem d_lr1 {p p2 pos2 : Pos} (hc : X.calm = true) (hml : X.mg "list" = none) (hmr : X.mg "range" = none) (ha : PE X a (liftE X.K W ea)) (hg : Gl X "list" := by rfl) (hr : Gl X "range" := by rfl)
    (na : starEach [a] X.env = (false, eval a X.env) :: starEach [] X.env := by rfl)
    (nb : starEach [.Call (.Name "range" p2) [a] [] pos2] X.env = (false, eval (.Call (.Name "range" p2) [a] [] pos2) X.env) :: starEach [] X.env := by rfl) :
    PE X (.Call (.Name "list" p) [.Call (.Name "range" p2) [a] [] pos2] [] pos) (liftE X.K W (dLR1 ea)) := peW (pe_listRg hc hg hml (prg_1 hr hmr ha na) nb) fun σ H Q ⟨fx, M, L, F, Q0, E0, sr, he, hq, hx⟩ =>
  ⟨fx, M, L, F, _, E0, sr, he, fun x M1 v F1 H1 q1 s1 sr1 => (by
    obtain ⟨n, rfl, hn, h10, q⟩ := asI_iff.mp q1
    have := sr1.int; subst this
    unfold smallI at hn
    exact ⟨n, rfl, ⟨by omega, by omega, by omega, by omega, by omega⟩, fun p hp => hq _ M1 _ F1 _ q s1 (sr1.pop.ownOf (rps_rng 0 n) hp)⟩), hx⟩
end
end TL
/-! # things that beat others, layers -/
namespace TL
open PySem PyProof.Rows L2
/-- things as whole numbers -/
abbrev nL (l : List Nat) : List D := l.map fun i : Nat => .int (i : Int)
theorem noOwns_nL (l : List Nat) : D.noOwns (nL l) = true := noOwns_map _ (fun _ => rfl) l
theorem frz_own_nL (l : List Nat) : (D.own (nL l)).frz = .lst (nL l) := frz_ownN _ (noOwns_nL l)
theorem nL_length (l : List Nat) : (nL l).length = l.length := List.length_map ..
/-- worth of thing j in a row -/
abbrev wt (r : List Rat) (j : Nat) : Rat := r.getD j 0
theorem ix_wt {r : List Rat} {j : Nat} (h : j < r.length) : ixl (r.map qD) (j : Int) = some (qD (wt r j)) := by
  rw [ixl_nat, List.getElem?_map, List.getElem?_eq_getElem h, wt, List.getD_eq_getElem?_getD, List.getElem?_eq_getElem h]; rfl
theorem wt_mem {r : List Rat} {j : Nat} (h : j < r.length) : wt r j ∈ r := by
  rw [wt, List.getD_eq_getElem?_getD, List.getElem?_eq_getElem h]; exact List.getElem_mem _
def beatsQ (b : List (List Rat)) (i j : Nat) : Bool := !(b.any fun r => decide (wt r i < wt r j)) && b.any fun r => decide (wt r j < wt r i)
def firstLayer (b : List (List Rat)) (ts : List Nat) : List Nat := ts.filter fun j => ((ts.filter fun i => beatsQ b i j).length == 0)
def sumAt (b : List (List Rat)) (j : Nat) : Rat := b.foldr (fun r s => wt r j + s) 0
theorem sumAt_le {i j : Nat} : ∀ {b : List (List Rat)}, (∀ r ∈ b, wt r j ≤ wt r i) → sumAt b j ≤ sumAt b i
  | [], _ => Rat.le_refl
  | r :: b, h => by
    have h1 := h r (List.mem_cons_self ..)
    have h2 := sumAt_le (b := b) fun r hr => h r (List.mem_cons_of_mem _ hr)
    unfold sumAt at *
    rw [List.foldr_cons, List.foldr_cons]
    grind
theorem sumAt_lt {i j : Nat} : ∀ {b : List (List Rat)}, (∀ r ∈ b, wt r j ≤ wt r i) → (∃ r ∈ b, wt r j < wt r i) → sumAt b j < sumAt b i
  | [], _, ⟨_, h, _⟩ => by cases h
  | r :: b, h, ⟨r2, hr2, h2⟩ => by
    have h1 := h r (List.mem_cons_self ..)
    have h3 := sumAt_le (b := b) fun r hr => h r (List.mem_cons_of_mem _ hr)
    rcases List.mem_cons.mp hr2 with rfl | hr2
    · unfold sumAt at *
      rw [List.foldr_cons, List.foldr_cons]
      grind
    · have h4 := sumAt_lt (b := b) (fun r hr => h r (List.mem_cons_of_mem _ hr)) ⟨r2, hr2, h2⟩
      unfold sumAt at *
      rw [List.foldr_cons, List.foldr_cons]
      grind
theorem beatsQ_iff {b : List (List Rat)} {i j : Nat} : beatsQ b i j = true ↔ (∀ r ∈ b, wt r j ≤ wt r i) ∧ ∃ r ∈ b, wt r j < wt r i := by
  unfold beatsQ
  rw [Bool.and_eq_true, Bool.not_eq_true', List.any_eq_false, List.any_eq_true]
  simp [Rat.not_lt]
theorem beats_sum {b : List (List Rat)} {i j : Nat} (h : beatsQ b i j = true) : sumAt b j < sumAt b i := by
  obtain ⟨h1, h2⟩ := beatsQ_iff.mp h
  exact sumAt_lt h1 h2
theorem beats_tr {b : List (List Rat)} {i j k : Nat} (h : beatsQ b i j = true) (g : beatsQ b j k = true) : beatsQ b i k = true := by
  obtain ⟨h1, r, hr, h2⟩ := beatsQ_iff.mp h
  obtain ⟨g1, _⟩ := beatsQ_iff.mp g
  exact beatsQ_iff.mpr ⟨fun r hr => Rat.le_trans (g1 r hr) (h1 r hr), r, hr, by have := g1 r hr; grind⟩
theorem beats_irr {b : List (List Rat)} {i : Nat} : beatsQ b i i = false := by
  cases e : beatsQ b i i with
  | false => rfl
  | true => have := beats_sum e; exact absurd this Rat.lt_irrefl
theorem exists_top {α : Type} (f : α → Rat) : ∀ {l : List α}, l ≠ [] → ∃ t ∈ l, ∀ x ∈ l, f x ≤ f t
  | [], h => absurd rfl h
  | [a], _ => ⟨a, List.mem_cons_self .., fun x hx => by simp at hx; subst hx; exact Rat.le_refl⟩
  | a :: b :: l, _ => by
    obtain ⟨t, ht, hm⟩ := exists_top f (l := b :: l) (by simp)
    rcases (Decidable.em (f a ≤ f t)) with g | g
    · exact ⟨t, List.mem_cons_of_mem _ ht, fun x hx => by rcases List.mem_cons.mp hx with rfl | hx; exact g; exact hm x hx⟩
    · have g := Rat.not_le.mp g
      exact ⟨a, List.mem_cons_self .., fun x hx => by rcases List.mem_cons.mp hx with rfl | hx; exact Rat.le_refl; exact Rat.le_trans (hm x hx) (Rat.le_of_lt g)⟩
theorem mem_firstLayer {b : List (List Rat)} {ts : List Nat} {j : Nat} : j ∈ firstLayer b ts ↔ j ∈ ts ∧ ∀ i ∈ ts, beatsQ b i j = false := by
  unfold firstLayer
  rw [List.mem_filter, beq_iff_eq, List.length_eq_zero_iff, List.filter_eq_nil_iff]
  simp
theorem firstLayer_ne {b : List (List Rat)} {ts : List Nat} (h : ts ≠ []) : firstLayer b ts ≠ [] := by
  obtain ⟨t, ht, hm⟩ := exists_top (sumAt b) h
  refine List.ne_nil_of_mem (mem_firstLayer.mpr ⟨ht, fun i hi => ?_⟩)
  cases e : beatsQ b i t with
  | false => rfl
  | true => have := beats_sum e; have := hm i hi; grind
/-- layer by layer -/
def layersN (b : List (List Rat)) : Nat → List Nat → List (List Nat)
  | 0, _ => []
  | n + 1, ts => if ts = [] then [] else firstLayer b ts :: layersN b n (ts.filter fun j => !decide (j ∈ firstLayer b ts))
theorem rest_lt {b : List (List Rat)} {ts : List Nat} (h : ts ≠ []) : (ts.filter fun j => !decide (j ∈ firstLayer b ts)).length < ts.length := by
  obtain ⟨t, ht⟩ := List.exists_mem_of_ne_nil _ (firstLayer_ne (b := b) h)
  refine Nat.lt_of_le_of_ne (List.length_filter_le _ _) fun e => ?_
  have := (List.length_filter_eq_length_iff.mp e) t (mem_firstLayer.mp ht).1
  simp [ht] at this
theorem layersN_eq {b : List (List Rat)} : ∀ (n m : Nat) (ts : List Nat), ts.length ≤ n → ts.length ≤ m → layersN b n ts = layersN b m ts
  | 0, m, ts, h, _ => by
    have : ts = [] := List.length_eq_zero_iff.mp (by omega)
    subst this
    cases m <;> simp [layersN]
  | n + 1, 0, ts, _, h => by
    have : ts = [] := List.length_eq_zero_iff.mp (by omega)
    subst this
    simp [layersN]
  | n + 1, m + 1, ts, h1, h2 => by
    unfold layersN
    by_cases e : ts = []
    · simp [e]
    · have := rest_lt (b := b) e
      simp only [e, if_false]
      rw [layersN_eq n m _ (by omega) (by omega)]
def layers (b : List (List Rat)) (ts : List Nat) : List (List Nat) := layersN b ts.length ts
theorem layers_nil (b : List (List Rat)) : layers b [] = [] := rfl
theorem layers_cons {b : List (List Rat)} {ts : List Nat} (h : ts ≠ []) : layers b ts = firstLayer b ts :: layers b (ts.filter fun j => !decide (j ∈ firstLayer b ts)) := by
  have h1 := rest_lt (b := b) h
  have h0 := List.length_pos_iff.mpr h
  unfold layers
  obtain ⟨k, hk⟩ : ∃ k, ts.length = k + 1 := ⟨ts.length - 1, by omega⟩
  rw [hk, layersN, if_neg h, layersN_eq k _ _ (by omega) (Nat.le_refl _)]
theorem okD_nL (n : Nat) (l : List Nat) : okD (n + 1) (.lst (nL l)) := by unfold okD; exact okD_map (fun i => by cases n <;> trivial) l
theorem okD_nO (n : Nat) (l : List Nat) : okD (n + 1) (.own (nL l)) := by unfold okD; exact okD_map (fun i => by cases n <;> trivial) l
theorem okD_int (n : Nat) (i : Int) : okD n (.int i) := by cases n <;> trivial
theorem eqOk_inL (i : Int) (l : List Nat) : eqOk (.int i) (.lst (nL l)) := ⟨okD_int _ _, okD_nL _ _⟩
/-- in a list of things -/
theorem inD_nL (i : Nat) (l : List Nat) : inD (.int (i : Int)) (nL l) = decide (i ∈ l) := by
  unfold inD
  rw [List.any_map, Bool.eq_iff_iff, List.any_eq_true, decide_eq_true_iff]
  constructor
  · rintro ⟨x, hx, e⟩
    rw [Function.comp, eqv_int, beq_iff_eq] at e
    have : x = i := by omega
    subst this; exact hx
  · intro h
    exact ⟨i, h, by rw [Function.comp, eqv_int, beq_self_eq_true]⟩
end TL
/-! # lists within lists that are changed; sorted -/
namespace TL
open PySem PyProof.Rows L2
/-- expressions that leave everything as it is -/
inductive IK where
  | c (j : Int) | s (n : Nat) | ix (a b : IK) | non
def tIK (K : PySem.W.Frag) : IK → TE
  | .c j => tC (.int j)
  | .non => tC .non
  | .s n => tVar n
  | .ix a b => tOp (rIx K) (tIK K a) (tIK K b)
def pathK (i : Nat) (ps : List IK) : IK := ps.foldl .ix (.s i)
def itemO (d : D) (j : Int) : Option D := match d with
  | .tup l => ixl l j
  | .lst l => ixl l j
  | .own l => ixl l j
  | .scr ns => (ixl ns j).map D.int
  | _ => none
def evK (M : MS) : IK → Option D
  | .c j => some (.int j)
  | .non => some .non
  | .s n => M.at n
  | .ix a b => (evK M a).bind fun x => (evK M b).bind fun y => match y with
    | .int j => itemO x j
    | _ => none
def intsK (M : MS) : List IK → Option (List Int)
  | [] => some []
  | k :: ps => (evK M k).bind fun y => match y with
    | .int j => (intsK M ps).map fun js => j :: js
    | _ => none
section
variable {K : PySem.W.Frag} {F H : Hp} {fx : Fx} {M : MS} {L : List (V × D)} {σ : L2.St}
theorem item_ok {d x : D} {v : V} {f : List Addr} {j : Int} (p : Rp K F H d v f) (s : Same F H) (h : itemO d j = some x) : ∃ u g, Rp K F H x u g ∧ ∀ Q : VK, Q u H → rIx K v (.int j) H Q := by
  have h2 : ixD d j fun y => y = x := by
    cases d <;> simp only [itemO] at h <;> try (cases h; done)
    · rename_i l; show getO (ixl l j) _; rw [h]; rfl
    · rename_i l; show getO (ixl l j) _; rw [h]; rfl
    · rename_i l; show getO (ixl l j) _; rw [h]; rfl
    · rename_i ns
      show getO (ixl ns j) _
      cases e : ixl ns j with
      | none => rw [e] at h; cases h
      | some n => rw [e] at h; cases h; rfl
  obtain ⟨y, rfl, u, g, q, fin⟩ := ixD_ok p s h2
  exact ⟨u, g, q, fin⟩
theorem evK_ok (sr : SR K fx M L σ F H) : ∀ (k : IK) (d : D), evK M k = some d → ∃ v f, Rp K F H d v f ∧ ∀ Q : VK, Q v H → tIK K k σ H Q
  | .c j, d, h => by cases h; exact ⟨.int j, [], .int j, fun Q q => q⟩
  | .non, d, h => by cases h; exact ⟨.non, [], .non, fun Q q => q⟩
  | .s n, d, h => by
    obtain ⟨v, f, h1, h2⟩ := sr.at (ms_at.mp h)
    exact ⟨v, f, h2, fun Q q => ⟨v, h1, q⟩⟩
  | .ix a b, d, h => by
    unfold evK at h
    rw [Option.bind_eq_some_iff] at h
    obtain ⟨x, hx, h⟩ := h
    rw [Option.bind_eq_some_iff] at h
    obtain ⟨y, hy, h⟩ := h
    obtain ⟨v, f, p1, q1⟩ := evK_ok sr a x hx
    obtain ⟨w, g, p2, q2⟩ := evK_ok sr b y hy
    cases y <;> try (cases h; done)
    rename_i j
    cases p2
    obtain ⟨u, e, p3, q3⟩ := item_ok p1 sr.sub h
    exact ⟨u, e, p3, fun Q q => q1 _ (q2 _ (q3 Q q))⟩
/-- where a path of indices leads -/
def Rch (K : PySem.W.Frag) (H : Hp) : V → List Int → V → Prop
  | v, [], u => v = u
  | v, j :: js, u => ∃ w, (∀ Q : VK, Q w H → rIx K v (.int j) H Q) ∧ Rch K H w js u
theorem path_ok (sr : SR K fx M L σ F H) : ∀ (ps : List IK) (js : List Int) (k0 : IK) (v u : V), intsK M ps = some js → Rch K H v js u → (∀ Q : VK, Q v H → tIK K k0 σ H Q) → ∀ Q : VK, Q u H → tIK K (ps.foldl .ix k0) σ H Q
  | [], js, k0, v, u, h, r, q0 => by cases h; cases r; exact q0
  | k :: ps, js, k0, v, u, h, r, q0 => by
    unfold intsK at h
    rw [Option.bind_eq_some_iff] at h
    obtain ⟨y, hy, h⟩ := h
    cases y <;> try (cases h; done)
    rename_i j
    rw [Option.map_eq_some_iff] at h
    obtain ⟨js', h, rfl⟩ := h
    obtain ⟨w, h1, h2⟩ := r
    obtain ⟨x, f, p, q⟩ := evK_ok sr k _ hy
    cases p
    exact path_ok sr ps js' (.ix k0 k) w u h h2 fun Q qw => q0 _ (q _ (h1 Q qw))
end
/-! ### a part of a tree -/
def D.atP : D → List Int → Option D
  | d, [] => some d
  | .own l, j :: p => (ixn l.length j).bind fun n => (l[n]?).bind fun e => D.atP e p
  | .tup l, j :: p => (ixn l.length j).bind fun n => (l[n]?).bind fun e => D.atP e p
  | _, _ => none
def D.putP : D → List Int → D → D
  | _, [], x => x
  | .own l, j :: p, x => match ixn l.length j with
    | some n => match l[n]? with
      | some e => .own (l.set n (D.putP e p x))
      | none => .own l
    | none => .own l
  | .tup l, j :: p, x => match ixn l.length j with
    | some n => match l[n]? with
      | some e => .tup (l.set n (D.putP e p x))
      | none => .tup l
    | none => .tup l
  | d, _, _ => d
theorem ixl_ixn {α : Type} {l : List α} {j : Int} {n : Nat} (h : ixn l.length j = some n) : ixl l j = l[n]? := by
  unfold ixn at h
  unfold ixl
  split at h
  · rename_i h0
    rw [if_pos h0]
    split at h
    · cases h; rfl
    · cases h
  · rename_i h0
    rw [if_neg h0]
    split at h
    · rename_i h1
      cases h
      rw [if_pos h1]
    · cases h
section
variable {K : PySem.W.Frag} {F H : Hp}
theorem Rps.zoom : ∀ {l : List D} {vs : List V} {f : List Addr} {n : Nat} {e : D}, Rps K F H l vs f → l[n]? = some e → ∃ w g, vs[n]? = some w ∧ Rp K F H e w g ∧ (∀ x, g.count x ≤ f.count x) ∧
    ∀ (H' : Hp) (e' : D) (g' : List Addr), (∀ x, g.count x < f.count x → H' x = H x) → Rp K F H' e' w g' → ∃ f', Rps K F H' (l.set n e') vs f' ∧ ∀ x, f'.count x + g.count x = f.count x + g'.count x
  | [], _, _, n, e, _, h => by simp at h
  | d :: l, _, _, 0, e, r, h => by
    cases r with
    | @cons _ v f0 g0 _ vs p q =>
      simp at h
      subst h
      refine ⟨v, f0, rfl, p, fun x => by rw [List.count_append]; omega, fun H' e' g' k p' => ⟨g' ++ g0, .cons p' (Rps.mono (Same.refl _) _ _ _ (fun b z => ⟨(Rps.foot _ _ _ q b z).1, k b ?_⟩) q), fun x => by simp only [List.count_append]; omega⟩⟩
      have := List.count_pos_iff.mpr z
      rw [List.count_append]; omega
  | d :: l, _, _, n + 1, e, r, h => by
    cases r with
    | @cons _ v f0 g0 _ vs p q =>
      obtain ⟨w, g, h1, h2, h3, h4⟩ := Rps.zoom (n := n) q (by simpa using h)
      refine ⟨w, g, by simpa using h1, h2, fun x => by have := h3 x; rw [List.count_append]; omega, fun H' e' g' k p' => ?_⟩
      obtain ⟨f', r', c⟩ := h4 H' e' g' (fun x z => k x (by rw [List.count_append]; omega)) p'
      refine ⟨f0 ++ f', .cons (Rp.mono (Same.refl _) _ _ _ (fun b z => ⟨(Rp.foot _ _ _ p b z).1, k b ?_⟩) p) r', fun x => by have := c x; simp only [List.count_append]; omega⟩
      have := List.count_pos_iff.mpr z
      have := h3 b
      rw [List.count_append]; omega
theorem atI_of {vs : List V} {j : Int} {n : Nat} {w : V} (hn : ixn vs.length j = some n) (h : vs[n]? = some w) : atI vs j = some w := ixl_atI (by rw [ixl_ixn hn]; exact h)
theorem Rp.zoom (sF : Same F H) : ∀ (js : List Int) (d : D) (v : V) (f : List Addr) (e : D), Rp K F H d v f → d.atP js = some e → ∃ u fe, Rp K F H e u fe ∧ Rch K H v js u ∧ (∀ x, fe.count x ≤ f.count x) ∧
    ∀ (H' : Hp) (e' : D) (fe' : List Addr), (∀ x, fe.count x < f.count x → H' x = H x) → Rp K F H' e' u fe' → ∃ f', Rp K F H' (d.putP js e') v f' ∧ ∀ x, f'.count x + fe.count x = f.count x + fe'.count x
  | [], d, v, f, e, p, h => by
    unfold D.atP at h
    cases h
    refine ⟨v, f, p, rfl, fun _ => Nat.le_refl _, fun H' e' fe' k p' => ⟨fe', ?_, fun x => by omega⟩⟩
    unfold D.putP
    exact p'
  | j :: js, d, v, f, e, p, h => by
    cases d <;> simp only [D.atP, reduceCtorEq] at h
    · rename_i l
      rw [Option.bind_eq_some_iff] at h
      obtain ⟨n, hn, h⟩ := h
      rw [Option.bind_eq_some_iff] at h
      obtain ⟨e0, he0, h⟩ := h
      generalize hd : D.tup l = dd at p
      cases p <;> try (cases hd; done)
      rename_i a vs l2 sq r
      cases hd
      obtain ⟨w, g, h1, h2, h3, h4⟩ := Rps.zoom r he0
      obtain ⟨u, fe, k1, k2, k3, k4⟩ := Rp.zoom sF js e0 w g e h2 h
      refine ⟨u, fe, k1, ⟨w, fun Q q => .inr (.inl ⟨a, vs, j, w, rfl, rfl, Same.sqT sF sq, atI_of (by rw [← r.len]; exact hn) h1, q⟩), k2⟩, fun x => Nat.le_trans (k3 x) (h3 x), fun H' e' fe' k p' => ?_⟩
      obtain ⟨g', m1, m2⟩ := k4 H' e' fe' (fun x z => k x (Nat.lt_of_lt_of_le z (h3 x))) p'
      obtain ⟨f', m3, m4⟩ := h4 H' _ g' (fun x z => k x (Nat.lt_of_le_of_lt (k3 x) z)) m1
      refine ⟨f', ?_, fun x => by have := m2 x; have := m4 x; have := k3 x; have := h3 x; omega⟩
      simp only [D.putP, hn, he0]
      exact .tup sq m3
    · rename_i l
      rw [Option.bind_eq_some_iff] at h
      obtain ⟨n, hn, h⟩ := h
      rw [Option.bind_eq_some_iff] at h
      obtain ⟨e0, he0, h⟩ := h
      generalize hd : D.own l = dd at p
      cases p <;> try (cases hd; done)
      rename_i a vs l2 f0 nF hH r
      cases hd
      obtain ⟨w, g, h1, h2, h3, h4⟩ := Rps.zoom r he0
      obtain ⟨u, fe, k1, k2, k3, k4⟩ := Rp.zoom sF js e0 w g e h2 h
      have ca : ∀ x, (a :: f0).count x = f0.count x + if x = a then 1 else 0 := fun x => count_c x a f0
      refine ⟨u, fe, k1, ⟨w, fun Q q => .inl ⟨a, vs, j, w, rfl, rfl, SqL.of hH, atI_of (by rw [← r.len]; exact hn) h1, q⟩, k2⟩, fun x => by have := k3 x; have := h3 x; have := ca x; omega, fun H' e' fe' k p' => ?_⟩
      have k' : ∀ x, fe.count x < f0.count x → H' x = H x := fun x z => k x (by have := ca x; omega)
      obtain ⟨g', m1, m2⟩ := k4 H' e' fe' (fun x z => k' x (Nat.lt_of_lt_of_le z (h3 x))) p'
      obtain ⟨f', m3, m4⟩ := h4 H' _ g' (fun x z => k' x (Nat.lt_of_le_of_lt (k3 x) z)) m1
      refine ⟨a :: f', ?_, fun x => by have := m2 x; have := m4 x; have := k3 x; have := h3 x; have := ca x; have := count_c x a f'; omega⟩
      simp only [D.putP, hn, he0]
      refine .own nF ((k a ?_).trans hH) m3
      have := ca a
      rw [if_pos rfl] at this
      have := k3 a; have := h3 a
      omega
variable {fx : Fx} {M : MS} {L : List (V × D)} {σ : L2.St}
set_option maxHeartbeats 2000000 in
/-- an own list within a slot's tree is changed: from what it held (f) and what is held on top (g), to what it holds and what is held then -/
theorem SR.writeP {i : Nat} {d : D} {js : List Int} {ds : List D} {v : V} {b : Bool} {Z : List (V × D)} (h : SR K fx M (Z ++ L) σ F H) (e : M[i]? = some (Slot.mk b d)) (hv : σ[i]? = some (some v)) (hp : d.atP js = some (.own ds)) :
    ∃ a vs, Rch K H v js (.ref a) ∧ H a = some (.lst vs) ∧ ds.length = vs.length ∧ ∀ (ds' : List D) (Z' : List (V × D)) (vs' : List V), (∀ f gs, Rps K F H ds vs f → HdR K F H Z gs → ∃ f' gs', Rps K F H ds' vs' f' ∧ HdR K F H Z' gs' ∧ ∀ x, f'.count x + cnt x gs' ≤ f.count x + cnt x gs) →
      SR K fx (M.set i (Slot.mk b (d.putP js (.own ds')))) (Z' ++ L) σ F (upd H a (.lst vs')) := by
  obtain ⟨sub, stay, agree, shape, fs, gs, r1, r2, c, g⟩ := h
  have hz : ∃ gz gl, HdR K F H Z gz ∧ HdR K F H L gl ∧ ∀ x, cnt x gs = cnt x gz + cnt x gl := by
    clear c g
    induction Z generalizing gs with
    | nil => exact ⟨[], gs, .nil, r2, fun x => by simp [cnt]⟩
    | cons z Z ih =>
      cases r2 with
      | cons q r => obtain ⟨gz, gl, h1, h2, h3⟩ := ih _ r; exact ⟨_, gl, .cons q h1, h2, fun x => by simp only [cnt, h3]; omega⟩
  obtain ⟨gz, gl, rz, rl, hc⟩ := hz
  have hat : ∃ f, fs[i]? = some f ∧ Rp K F H d v f := by
    cases b with
    | false =>
      obtain ⟨w, f, h1, h2, h3⟩ := r1.va_at (show M[i]? = some (.va d) from e)
      rw [hv] at h1; cases h1; exact ⟨f, h2, h3⟩
    | true =>
      obtain ⟨w, f, h1, h2, h3, _⟩ := r1.io_at (show M[i]? = some (.io d) from e)
      rw [hv] at h1; cases h1; exact ⟨f, h2, h3⟩
  obtain ⟨ft, hf, pt⟩ := hat
  obtain ⟨u, fe, q, rch, le0, re⟩ := Rp.zoom sub js d v ft _ pt hp
  generalize hd : D.own ds = dd at q
  cases q <;> try (cases hd; done)
  rename_i a vs l f nF hH r
  cases hd
  refine ⟨a, vs, rch, hH, r.len, fun ds' Z' vs' mk => ?_⟩
  obtain ⟨f', gz', r', rz', le⟩ := mk f gz r rz
  have fa : ∀ x, (a :: f).count x = f.count x + if x = a then 1 else 0 := fun x => count_c x a f
  have ca : cnt a fs = 1 ∧ cnt a gs = 0 ∧ f.count a = 0 ∧ ft.count a = 1 := by
    have h1 := cnt_get (a := a) hf
    have h2 := c a
    have h3 := le0 a
    rw [fa a, if_pos rfl] at h3
    omega
  have ga : fx.G a = none := g a (by omega)
  have f'a : f'.count a = 0 ∧ cnt a gz' = 0 := by have := le a; have := hc a; omega
  have keep : ∀ x, x ≠ a → upd H a (.lst vs') x = H x := fun x z => upd_ne z
  have new0 : Rp K F (upd H a (.lst vs')) (.own ds') (.ref a) (a :: f') :=
    .own nF upd_same (Rps.mono (Same.refl _) _ _ _ (fun x z => ⟨(Rps.foot _ _ _ r' x z).1, keep x fun e => by subst e; have := List.count_pos_iff.mpr z; omega⟩) r')
  obtain ⟨fn, new, cn⟩ := re (upd H a (.lst vs')) _ (a :: f') (fun x z => keep x fun e => by subst e; rw [fa x, if_pos rfl] at z; omega) new0
  have fa' : ∀ x, (a :: f').count x = f'.count x + if x = a then 1 else 0 := fun x => count_c x a f'
  -- the other slots
  have hi : i < fs.length := (List.getElem?_eq_some_iff.mp hf).1
  have cs := cnt_set a fs i _ [] hf
  have others : ∀ x, 0 < cnt x (fs.set i []) → x ≠ a := fun x z e => by
    subst e
    simp only [List.count_nil] at cs; omega
  have hset : SlR K F (upd H a (.lst vs')) fx.P 0 (M.set i (Slot.mk b (d.putP js (.own ds')))) σ (fs.set i fn) := by
    have step : ∀ {j i : Nat} {M : MS} {σ : L2.St} {fs : List (List Addr)}, SlR K F H fx.P j M σ fs → M[i]? = some (Slot.mk b d) → σ[i]? = some (some v) → (∀ x, 0 < cnt x (fs.set i []) → x ≠ a) →
        SlR K F (upd H a (.lst vs')) fx.P j (M.set i (Slot.mk b (d.putP js (.own ds')))) σ (fs.set i fn) := by
      have mo : ∀ {j : Nat} {M : MS} {σ : L2.St} {fs : List (List Addr)}, SlR K F H fx.P j M σ fs → (∀ x, 0 < cnt x fs → x ≠ a) → SlR K F (upd H a (.lst vs')) fx.P j M σ fs := fun r z =>
        r.mono (Same.refl _) fun x y => ⟨(r.foot x y).1, keep x (z x y)⟩
      intro j i M σ fs r
      induction r generalizing i with
      | nil => intro e; simp at e
      | un r ih =>
        intro e hv ho
        cases i with
        | zero => cases b <;> simp [Slot.mk] at e
        | succ i => exact .un (ih (by simpa using e) (by simpa using hv) fun x z => ho x (by simpa [cnt] using z))
      | ol y r ih =>
        intro e hv ho
        cases i with
        | zero => cases b <;> simp [Slot.mk] at e
        | succ i => exact .ol y (ih (by simpa using e) (by simpa using hv) fun x z => ho x (by simpa [cnt] using z))
      | va p r ih =>
        intro e hv ho
        cases i with
        | zero =>
          cases b with
          | true => simp [Slot.mk] at e
          | false =>
            simp at hv
            subst hv
            exact .va new (mo r fun x z => ho x (by simpa [cnt] using z))
        | succ i => exact .va (Rp.mono (Same.refl _) _ _ _ (fun x z => ⟨(Rp.foot _ _ _ p x z).1, keep x (ho x (by have := List.count_pos_iff.mpr z; simp only [List.set_cons_succ, cnt]; omega))⟩) p) (ih (by simpa using e) (by simpa using hv) fun x z => ho x (by simp only [List.set_cons_succ, cnt]; omega))
      | io y p r ih =>
        intro e hv ho
        cases i with
        | zero =>
          cases b with
          | false => simp [Slot.mk] at e
          | true =>
            simp at hv
            subst hv
            exact .io y new (mo r fun x z => ho x (by simpa [cnt] using z))
        | succ i => exact .io y (Rp.mono (Same.refl _) _ _ _ (fun x z => ⟨(Rp.foot _ _ _ p x z).1, keep x (ho x (by have := List.count_pos_iff.mpr z; simp only [List.set_cons_succ, cnt]; omega))⟩) p) (ih (by simpa using e) (by simpa using hv) fun x z => ho x (by simp only [List.set_cons_succ, cnt]; omega))
    exact step r1 e hv others
  have nea : ∀ x o, F x = some o → x ≠ a := fun x o z e => by subst e; rw [nF] at z; cases z
  have rz2 : HdR K F (upd H a (.lst vs')) Z' gz' := rz'.mono (Same.refl _) fun x z => ⟨(rz'.foot x z).1, keep x fun e => by subst e; omega⟩
  have rl2 : HdR K F (upd H a (.lst vs')) L gl := rl.mono (Same.refl _) fun x z => ⟨(rl.foot x z).1, keep x fun e => by subst e; have := hc x; omega⟩
  have app : ∀ {Z : List (V × D)} {g1 : List (List Addr)}, HdR K F (upd H a (.lst vs')) Z g1 → ∃ gq, HdR K F (upd H a (.lst vs')) (Z ++ L) gq ∧ ∀ x, cnt x gq = cnt x g1 + cnt x gl := by
    intro Z g1 r2
    induction r2 with
    | nil => exact ⟨gl, rl2, fun a => by simp [cnt]⟩
    | cons q r ih => obtain ⟨gq, h3, h4⟩ := ih; exact ⟨_, .cons q h3, fun a => by simp only [cnt, h4]; omega⟩
  obtain ⟨gq, hq1, hq2⟩ := app rz2
  refine ⟨fun x o z => ?_, fun x o z => ?_, agree, ?_, fs.set i fn, gq, hset, hq1, fun x => ?_, fun x z => ?_⟩
  · rw [keep x (nea x o z)]; exact sub x o z
  · rw [keep x fun e => by subst e; rw [ga] at z; cases z]; exact stay x o z
  · rw [setNoIo (t := Slot.mk b (d.putP js (.own ds'))) e (by cases b <;> rfl)]; exact shape
  · have h1 := cnt_set x fs i _ fn hf
    have h2 := c x
    have h3 := hc x
    have h4 := le x
    have h5 := cn x
    have h6 := hq2 x
    have h7 := fa x
    have h8 := fa' x
    omega
  · refine g x ?_
    have h1 := cnt_set x fs i _ fn hf
    have h3 := hc x
    have h4 := le x
    have h5 := cn x
    have h6 := hq2 x
    have h7 := fa x
    have h8 := fa' x
    omega
end
/-! ### methods of lists at a path -/
def ownAtP (M : MS) (i : Nat) (ps : List IK) (k : List D → (List D → MS) → Prop) : Prop := match M[i]? with
  | some (.va d) => getO (intsK M ps) fun js => getO (d.atP js) fun e => match e with
    | .own l => k l fun l' => M.set i (.va (d.putP js (.own l')))
    | _ => False
  | some (.io d) => getO (intsK M ps) fun js => getO (d.atP js) fun e => match e with
    | .own l => k l fun l' => M.set i (.io (d.putP js (.own l')))
    | _ => False
  | _ => False
theorem ownAtP_iff {M : MS} {i : Nat} {ps : List IK} {k : List D → (List D → MS) → Prop} (h : ownAtP M i ps k) : ∃ b d js l, M[i]? = some (Slot.mk b d) ∧ intsK M ps = some js ∧ d.atP js = some (.own l) ∧ k l fun l' => M.set i (Slot.mk b (d.putP js (.own l'))) := by
  unfold ownAtP at h
  split at h
  · rename_i d q
    obtain ⟨js, h1, h⟩ := getO_iff.mp h
    obtain ⟨e, h2, h⟩ := getO_iff.mp h
    split at h
    · exact ⟨false, d, js, _, q, h1, h2, h⟩
    · exact h.elim
  · rename_i d q
    obtain ⟨js, h1, h⟩ := getO_iff.mp h
    obtain ⟨e, h2, h⟩ := getO_iff.mp h
    split at h
    · exact ⟨true, d, js, _, q, h1, h2, h⟩
    · exact h.elim
  · exact h.elim
section
variable {X : Cx} {W : WX} {a b c e : Expr} {pos : Pos} {ea eb ec : DE} {es : List Expr} {st : Stmt}
theorem ik_c {i : Int} {j} : PE X (.Constant (.int i) j pos) (tIK X.K (.c i)) := pe_int
theorem ik_neg {i : Int} {j} {p : Pos} : PE X (.UnaryOp .USub (.Constant (.int i) j p) pos) (tIK X.K (.c (-i))) := peW (pe_un un_neg pe_int) fun σ H Q q => ⟨i, rfl, q⟩
theorem ik_non {j} : PE X (.Constant .none j pos) (tIK X.K .non) := pe_non
theorem ik_s {n : Nat} (h : PE X e (tVar n)) : PE X e (tIK X.K (.s n)) := h
theorem ik_ix {ka kb : IK} (ha : PE X a (tIK X.K ka)) (hb : PE X b (tIK X.K kb)) (hs : PlainIx b := by intro _ _; rfl) : PE X (.Subscript a b pos) (tIK X.K (.ix ka kb)) := pe_ix ix_seq ha hb hs
theorem SR.slotV {K : PySem.W.Frag} {F H : Hp} {fx : Fx} {M : MS} {L : List (V × D)} {σ : L2.St} {i : Nat} {b : Bool} {d : D} (h : SR K fx M L σ F H) (e : M[i]? = some (Slot.mk b d)) : ∃ v, σ[i]? = some (some v) := by
  have : M[i]? = some (.va d) ∨ M[i]? = some (.io d) := by cases b <;> simp [Slot.mk] at e <;> simp [e]
  obtain ⟨v, f, hv, _⟩ := h.at this
  exact ⟨v, hv⟩
theorem Rps.out {K : PySem.W.Frag} {F H : Hp} : ∀ {l : List D} {vs : List V} {f : List Addr} {n : Nat} {d : D}, Rps K F H l vs f → l[n]? = some d → ∃ y g f', vs[n]? = some y ∧ Rp K F H d y g ∧ Rps K F H (l.eraseIdx n) (vs.eraseIdx n) f' ∧ ∀ x, f'.count x + g.count x = f.count x
  | [], _, _, n, e, _, h => by simp at h
  | d :: l, _, _, 0, e, r, h => by
    cases r with
    | @cons _ v f0 g0 _ vs p q =>
      simp at h
      subst h
      exact ⟨v, f0, g0, rfl, p, q, fun x => by rw [List.count_append]; omega⟩
  | d :: l, _, _, n + 1, e, r, h => by
    cases r with
    | @cons _ v f0 g0 _ vs p q =>
      obtain ⟨y, g, f', h1, h2, h3, h4⟩ := Rps.out (n := n) q (by simpa using h)
      exact ⟨y, g, f0 ++ f', by simpa using h1, h2, .cons p h3, fun x => by have := h4 x; simp only [List.count_append]; omega⟩
def dClrP (i : Nat) (ps : List IK) : DE := fun M Q _ => ownAtP M i ps fun _ put => Q .non (put [])
theorem d_clrP {i : Nat} {ps : List IK} (h : PE X e (tBM X.K "list" rClear (tIK X.K (pathK i ps)) tNil)) : PE X e (liftE X.K W (dClrP i ps)) := peW h fun σ H Q ⟨fx, M, L, F, Q0, E0, sr, he, hq, hx⟩ => by
  obtain ⟨b, d, js, l, e1, e2, e3, q⟩ := ownAtP_iff he
  obtain ⟨v, hv⟩ := sr.slotV e1
  obtain ⟨a, vs, rch, hH, hl, mk⟩ := SR.writeP (Z := []) sr e1 hv e3
  refine path_ok sr ps js (.s i) v _ e2 rch (fun Q q => ⟨v, hv, q⟩) _ ⟨.inl ⟨rfl, vs, SqL.of hH⟩, _, vs, rfl, rfl, hH, hq .non _ .non F _ q (Same.refl _) ?_⟩
  refine SR.push (mk [] [] [] fun f gs r1 r2 => ?_) .non
  cases r2
  exact ⟨[], [], .nil, .nil, fun x => by simp [cnt]⟩
def dRevP (i : Nat) (ps : List IK) : DE := fun M Q _ => ownAtP M i ps fun l put => D.noOwns l = true ∧ Q .non (put l.reverse)
theorem d_revP {i : Nat} {ps : List IK} (h : PE X e (tBM X.K "list" rReverse (tIK X.K (pathK i ps)) tNil)) : PE X e (liftE X.K W (dRevP i ps)) := peW h fun σ H Q ⟨fx, M, L, F, Q0, E0, sr, he, hq, hx⟩ => by
  obtain ⟨b, d, js, l, e1, e2, e3, n, q⟩ := ownAtP_iff he
  obtain ⟨v, hv⟩ := sr.slotV e1
  obtain ⟨a, vs, rch, hH, hl, mk⟩ := SR.writeP (Z := []) sr e1 hv e3
  refine path_ok sr ps js (.s i) v _ e2 rch (fun Q q => ⟨v, hv, q⟩) _ ⟨.inl ⟨rfl, vs, SqL.of hH⟩, _, vs, rfl, rfl, hH, hq .non _ .non F _ q (Same.refl _) ?_⟩
  refine SR.push (mk l.reverse [] vs.reverse fun f gs r1 r2 => ?_) .non
  cases r2
  have := Rps.clean _ _ _ n r1
  subst this
  have rr := r1.rev (m := []) .nil
  simp only [List.append_nil] at rr
  exact ⟨[], [], rr, .nil, fun x => by simp [cnt]⟩
def dPopP (i : Nat) (ps : List IK) : DE := fun M Q _ => ownAtP M i ps fun l put => getO (l[l.length - 1]?) fun d => Q d (put (l.eraseIdx (l.length - 1)))
theorem d_popP {i : Nat} {ps : List IK} (h : PE X e (tBM X.K "list" rPop (tIK X.K (pathK i ps)) tNil)) : PE X e (liftE X.K W (dPopP i ps)) := peW h fun σ H Q ⟨fx, M, L, F, Q0, E0, sr, he, hq, hx⟩ => by
  obtain ⟨b, d, js, l, e1, e2, e3, q⟩ := ownAtP_iff he
  obtain ⟨x, hx1, q⟩ := getO_iff.mp q
  obtain ⟨v, hv⟩ := sr.slotV e1
  have hlt : l.length - 1 < l.length := (List.getElem?_eq_some_iff.mp hx1).1
  obtain ⟨a, vs, rch, hH, hl, mk⟩ := SR.writeP (Z := []) sr e1 hv e3
  obtain ⟨y, hy⟩ : ∃ y, vs[vs.length - 1]? = some y := ⟨_, List.getElem?_eq_getElem (by omega)⟩
  refine path_ok sr ps js (.s i) v _ e2 rch (fun Q q => ⟨v, hv, q⟩) _ ⟨.inl ⟨rfl, vs, SqL.of hH⟩, _, vs, y, rfl, rfl, hH, hy, hq x _ y F _ q (Same.refl _) ?_⟩
  have ed : vs.dropLast = vs.eraseIdx (vs.length - 1) := by
    refine (List.eraseIdx_eq_dropLast ?_).symm
    have := hl; omega
  rw [ed]
  refine mk _ [(y, x)] _ fun f gs r1 r2 => ?_
  cases r2
  obtain ⟨y', g, f', h1, h2, h3, h4⟩ := r1.out hx1
  rw [hl, hy] at h1
  cases h1
  exact ⟨f', [g], by rw [hl] at h3 ⊢; exact h3, .cons h2 .nil, fun z => by have := h4 z; simp only [cnt]; omega⟩
def dPopAtP (i : Nat) (ps : List IK) (ka : IK) : DE := fun M Q _ => getO (evK M ka) fun y => asI y fun j => (-(2 ^ 63) ≤ j ∧ j < 2 ^ 63) ∧ ownAtP M i ps fun l put => getO (ixn l.length j) fun n => getO (l[n]?) fun d => Q d (put (l.eraseIdx n))
theorem ixn_seq {n k : Nat} {j : Int} (h : ixn n j = some k) : seqIndex? j n = some k := by
  unfold ixn at h
  unfold seqIndex?
  split at h
  · split at h
    · cases h; simp_all <;> omega
    · cases h
  · split at h
    · cases h; simp_all <;> omega
    · cases h
theorem d_popAtP {i : Nat} {ps : List IK} {ka : IK} (h : PE X e (tBM X.K "list" rPopAt (tIK X.K (pathK i ps)) (tCons (tIK X.K ka) tNil))) : PE X e (liftE X.K W (dPopAtP i ps ka)) := peW h fun σ H Q ⟨fx, M, L, F, Q0, E0, sr, he, hq, hx⟩ => by
  obtain ⟨yj, hyj, he⟩ := getO_iff.mp he
  obtain ⟨j, ey, ⟨j0, j1⟩, he2⟩ := asI_iff.mp he
  subst ey
  obtain ⟨w, fw, pw, qw⟩ := evK_ok sr ka _ hyj
  cases pw
  obtain ⟨b, d, js, l, e1, e2, e3, q⟩ := ownAtP_iff he2
  obtain ⟨n, hn, q⟩ := getO_iff.mp q
  obtain ⟨x, hx1, q⟩ := getO_iff.mp q
  obtain ⟨v, hv⟩ := sr.slotV e1
  have hlt : n < l.length := (List.getElem?_eq_some_iff.mp hx1).1
  obtain ⟨a, vs, rch, hH, hl, mk⟩ := SR.writeP (Z := []) sr e1 hv e3
  obtain ⟨y, hy⟩ : ∃ y, vs[n]? = some y := ⟨_, List.getElem?_eq_getElem (by omega)⟩
  refine path_ok sr ps js (.s i) v _ e2 rch (fun Q q => ⟨v, hv, q⟩) _ ⟨.inl ⟨rfl, vs, SqL.of hH⟩, qw _ ⟨_, vs, j, n, y, rfl, rfl, hH, j0, j1, by rw [← hl]; exact ixn_seq hn, hy, hq x _ y F _ q (Same.refl _) ?_⟩⟩
  refine mk _ [(y, x)] _ fun f gs r1 r2 => ?_
  cases r2
  obtain ⟨y', g, f', h1, h2, h3, h4⟩ := r1.out hx1
  rw [hy] at h1
  cases h1
  exact ⟨f', [g], h3, .cons h2 .nil, fun z => by have := h4 z; simp only [cnt]; omega⟩
def dAppP (i : Nat) (ps : List IK) (ka : IK) : DE := fun M Q _ => getO (evK M ka) fun y => y.noOwn = true ∧ ownAtP M i ps fun l put => l.length ≤ 10000 ∧ Q .non (put (l ++ [y]))
theorem d_appP {i : Nat} {ps : List IK} {ka : IK} (h : PE X e (tBM X.K "list" rAppend (tIK X.K (pathK i ps)) (tCons (tIK X.K ka) tNil))) : PE X e (liftE X.K W (dAppP i ps ka)) := peW h fun σ H Q ⟨fx, M, L, F, Q0, E0, sr, he, hq, hx⟩ => by
  obtain ⟨y, hy, ny, he⟩ := getO_iff.mp he
  obtain ⟨w, fw, pw, qw⟩ := evK_ok sr ka y hy
  rw [Rp.clean _ _ _ ny pw] at pw
  obtain ⟨b, d, js, l, e1, e2, e3, hl10, q⟩ := ownAtP_iff he
  obtain ⟨v, hv⟩ := sr.slotV e1
  obtain ⟨a, vs, rch, hH, hl, mk⟩ := SR.writeP (Z := [(w, y)]) (sr.push pw) e1 hv e3
  refine path_ok sr ps js (.s i) v _ e2 rch (fun Q q => ⟨v, hv, q⟩) _ ⟨.inl ⟨rfl, vs, SqL.of hH⟩, qw _ ⟨_, vs, w, rfl, rfl, hH, by rw [← hl, sizeLine_eq]; omega, hq .non _ .non F _ q (Same.refl _) ?_⟩⟩
  refine SR.push (mk (l ++ [y]) [] (vs ++ [w]) fun f gs r1 r2 => ?_) .non
  cases r2 with
  | @cons _ _ f2 _ gl q2 r =>
    cases r
    exact ⟨f ++ (f2 ++ []), [], r1.append (.cons q2 .nil), .nil, fun x => by simp only [List.append_nil, List.count_append, cnt]; omega⟩
/-- x[..][j] = e -/
def sPutP (i : Nat) (ps : List IK) (ea : DE) (ka : IK) : DS := fun D M => ea M (fun d M1 => d.noOwn = true ∧ getO (evK M1 ka) fun y => asI y fun j => ownAtP M1 i ps fun l put => TL.D.noOwns l = true ∧ getO (ixn l.length j) fun n => D.nx (put (l.set n d))) D.xr
theorem s_putP {i : Nat} {ps : List IK} {ka : IK} (h : PS X st (tAsg (liftE X.K W (ea)) (gSub (tIK X.K (pathK i ps)) (tIK X.K ka) rSetL))) : PS X st (liftS X.K W (sPutP i ps ea ka)) := psW h fun D σ H ⟨fx, M, F, D0, sr, he, h1, h2, h3, h4, h5⟩ =>
  ⟨fx, M, [], F, _, D0.xr, sr, he, fun d M1 v F1 H1 q s1 sr1 => (by
    obtain ⟨nd, q⟩ := q
    obtain ⟨y, hy, q⟩ := getO_iff.mp q
    obtain ⟨j, ey, q2⟩ := asI_iff.mp q
    subst ey
    obtain ⟨b, dt, js, l, e1, e2, e3, nl, q3⟩ := ownAtP_iff q2
    obtain ⟨n, hn, q5⟩ := getO_iff.mp q3
    obtain ⟨hn1, hn2⟩ := ixn_ixN hn
    obtain ⟨u, hu⟩ := sr1.slotV e1
    obtain ⟨w, fw, pw, qw⟩ := evK_ok sr1 ka _ hy
    cases pw
    have pv := sr1.topC nd
    obtain ⟨a, vs, rch, hH, hlen, mk⟩ := SR.writeP (Z := []) sr1.pop e1 hu e3
    refine path_ok sr1 ps js (.s i) u _ e2 rch (fun Q q => ⟨u, hu, q⟩) _ (qw _ ⟨_, vs, j, n, rfl, rfl, hH, by rw [← hlen]; exact hn1, h1 _ σ F1 _ q5 s1 ?_⟩)
    refine mk (l.set n d) [] (vs.set n v) fun f gs r1 r2 => ?_
    have := Rps.clean _ _ _ nl r1
    subst this
    exact ⟨[], [], Rps.set pv r1, .nil, fun x => by simp [cnt]⟩), fun C M' F' H' z s sr' => h5 C M' σ F' H' z s sr'⟩
/-! ### sorted, ints -/
def sortZ (l : List Int) : List Int := l.mergeSort fun a b => decide (a ≤ b)
theorem sortZ_perm (l : List Int) : (sortZ l).Perm l := List.mergeSort_perm ..
theorem sortZ_sorted (l : List Int) : (sortZ l).Pairwise (· ≤ ·) := by
  have := List.pairwise_mergeSort (le := fun a b : Int => decide (a ≤ b)) (fun a b c h1 h2 => by simp at *; omega) (fun a b => by simp; omega) l
  exact this.imp fun h => by simpa using h
theorem sortZ_eq {l m : List Int} (h : m.Perm l) (hs : m.Pairwise (· ≤ ·)) : m = sortZ l :=
  List.Perm.eq_of_pairwise (fun a b _ _ h1 h2 => Int.le_antisymm h1 h2) hs (sortZ_sorted l) (h.trans (sortZ_perm l).symm)
def dSortI (ea : DE) : DE := fun M Q E => ea M (fun d M1 => lsD d fun l => getO (asInts l) fun ns => Q (.own ((sortZ ns).map D.int)) M1) E
theorem d_sortI {p : Pos} (hm : X.mg "sorted" = none) (ha : PE X e (liftB X.K W ea)) (hg : Gl X "sorted" := by rfl) (he : starEach [e] X.env = [(false, eval e X.env)] := by rfl) : PE X (.Call (.Name "sorted" p) [e] [] pos) (liftE X.K W (dSortI ea)) :=
  peW (pe_callB cr_sortedI hg hm (by decide +kernel) (pa_cons ha pa_nil (by rw [he]; rfl)) (by decide) (by decide) (by rw [he]; rfl) (by rfl)) fun σ H Q ⟨fx, M, L, F, Q0, E0, sr, hh, hq, hx⟩ =>
    ⟨fx, M, L, F, _, E0, sr, hh, fun d M1 v f F1 H1 q1 s1 sr1 p1 => (by
      obtain ⟨l, a, vs, g, h, rfl, hH, r⟩ := lsD_ok sr1.sub p1 q1
      obtain ⟨ns, hb, h⟩ := getO_iff.mp h
      have := asInts_ok r hb
      subst this
      refine ⟨a, ns, rfl, SqL.of hH, fun ns' p h1 h2 hp => ?_⟩
      have e2 := sortZ_eq h1 h2
      subst e2
      exact hq _ M1 _ F1 _ h s1 (sr1.ownOf (rps_ints _) hp)), hx⟩
end
theorem asInts_nL (l : List Nat) : asInts (nL l) = some (l.map fun i : Nat => (i : Int)) := by
  rw [← asInts_map, List.map_map]; rfl
/-- things in rising order -/
def sortN (l : List Nat) : List Nat := l.mergeSort fun a b => decide (a ≤ b)
theorem sortN_perm (l : List Nat) : (sortN l).Perm l := List.mergeSort_perm ..
theorem sortN_sorted (l : List Nat) : (sortN l).Pairwise (· ≤ ·) := by
  have := List.pairwise_mergeSort (le := fun a b : Nat => decide (a ≤ b)) (fun a b c h1 h2 => by simp at *; omega) (fun a b => by simp; omega) l
  exact this.imp fun h => by simpa using h
theorem sortN_eq {l m : List Nat} (h : m.Perm l) (hs : m.Pairwise (· ≤ ·)) : m = sortN l :=
  List.Perm.eq_of_pairwise (fun a b _ _ h1 h2 => Nat.le_antisymm h1 h2) hs (sortN_sorted l) (h.trans (sortN_perm l).symm)
theorem mem_sortN {l : List Nat} {x : Nat} : x ∈ sortN l ↔ x ∈ l := (sortN_perm l).mem_iff
theorem sortN_length (l : List Nat) : (sortN l).length = l.length := (sortN_perm l).length_eq
theorem sortZ_nL (l : List Nat) : sortZ (l.map fun i : Nat => (i : Int)) = (sortN l).map fun i : Nat => (i : Int) := by
  refine (sortZ_eq ((sortN_perm l).map _) ?_).symm
  rw [List.pairwise_map]
  exact (sortN_sorted l).imp fun h => by omega
theorem sortN_perm_eq {l m : List Nat} (h : l.Perm m) : sortN l = sortN m := sortN_eq ((sortN_perm l).trans h) (sortN_sorted l)
/-! ### pairs of whole numbers compared -/
def pairI : D → Option (Int × Int)
  | .tup [.int a, .int b] => some (a, b)
  | _ => none
def gLeT : D → D → (D → Prop) → Prop := fun x y k => getO (pairI x) fun p => getO (pairI y) fun q => k (.bl (decide (p.1 < q.1 ∨ p.1 = q.1 ∧ p.2 ≤ q.2)))
theorem pairI_iff {d : D} {p : Int × Int} (h : pairI d = some p) : d = .tup [.int p.1, .int p.2] := by
  unfold pairI at h
  split at h
  · cases h; rfl
  · cases h
theorem opd_leT {X : Cx} : OpD X (rLeT X.K) gLeT := fun {fx M L σ F H v w x y k} sr h => by
  obtain ⟨p, hp, h⟩ := getO_iff.mp h
  obtain ⟨q, hq, h⟩ := getO_iff.mp h
  have ex := pairI_iff hp
  have ey := pairI_iff hq
  subst ex ey
  obtain ⟨f, p1⟩ := sr.top
  obtain ⟨g, p2⟩ := sr.pop.top
  cases p1 with
  | @tup a vs _ _ s1 r1 =>
    cases p2 with
    | @tup b ws _ _ s2 r2 =>
      have e1 := asInts_ok r1 (bs := [q.1, q.2]) rfl
      have e2 := asInts_ok r2 (bs := [p.1, p.2]) rfl
      subst e1 e2
      refine ⟨_, _, h, .bl _, fun Q hQ => ⟨b, a, [p.1, p.2], [q.1, q.2], rfl, rfl, Same.sqT sr.sub s2, Same.sqT sr.sub s1, ?_⟩⟩
      have : Ob.lexAt (fun j => decide ([p.1, p.2].getD j 0 = [q.1, q.2].getD j 0)) (fun j => decide ([p.1, p.2].getD j 0 ≤ [q.1, q.2].getD j 0)) (decide ([p.1, p.2].length ≤ [q.1, q.2].length)) 0 (min [p.1, p.2].length [q.1, q.2].length) = decide (p.1 < q.1 ∨ p.1 = q.1 ∧ p.2 ≤ q.2) := by
        show Ob.lexAt _ _ _ 0 2 = _
        rw [Ob.lexAt_succ, Ob.lexAt_succ, Ob.lexAt_zero]
        simp only [List.getD_cons_zero, List.getD_cons_succ, Nat.zero_add, decide_eq_true_eq, List.length_cons, List.length_nil, Nat.le_refl, decide_true]
        by_cases h1 : p.1 = q.1
        · by_cases h2 : p.2 = q.2
          · simp [h1, h2]
          · simp [h1, h2]
        · rw [if_neg h1, Bool.eq_iff_iff, decide_eq_true_iff, decide_eq_true_iff]
          omega
      rw [this]
      exact hQ
section
variable {X : Cx} {W : WX} {a b : Expr} {pos : Pos} {ea eb : DE}
theorem d_leT (hu : X.A.units < cLine) (ha : PE X a (liftE X.K W ea)) (hb : PE X b (liftE X.K W eb)) : PE X (.Compare a [.LtE] [b] pos) (liftE X.K W (dBin gLeT ea eb)) := d_cmp (op_leT hu) opd_leT ha hb (nomark _)
theorem t_leT (hu : X.A.units < cLine) (ha : PE X a (liftE X.K W ea)) (hb : PE X b (liftE X.K W eb)) : PT X (.Compare a [.LtE] [b] pos) (liftT X.K W (dT (dBin gLeT ea eb))) := t_cmp (op_leT hu) opd_leT ha hb (nomark _)
end
end TL
/-! # looks, plain -/
namespace TL
open PySem PyProof.Rows L2
/-- pairs as data -/
def prD (p : Nat × Nat) : D := .tup [.int (p.1 : Int), .int (p.2 : Int)]
def looksD (ds : List Nat) (as : List (Nat × Nat)) : D := .tup [.lst (nL ds), .lst (as.map prD)]
abbrev oD : Option Rat → D
  | none => .non
  | some q => qD q
def lexP (p q : Nat × Nat) : Prop := p.1 < q.1 ∨ p.1 = q.1 ∧ p.2 < q.2
/-- looks at a book of l lists of m things -/
structure Lk (l m : Nat) (ds : List Nat) (as : List (Nat × Nat)) : Prop where
  len : ds.length = l
  dep : ∀ d ∈ ds, d ≤ m
  inn : ∀ p ∈ as, p.1 < l ∧ p.2 < m
  ris : as.Pairwise lexP
/-! as data -/
def pairOk (d : D) (l m : Int) : Option (Int × Int) := match d with
  | .tup [.int a, .int b] => if 0 ≤ a ∧ a < l ∧ 0 ≤ b ∧ b < m then some (a, b) else none
  | _ => none
def askedOk (l m : Int) : Option (Int × Int) → List D → Bool
  | _, [] => true
  | last, d :: ds => match pairOk d l m with
    | none => false
    | some p => (match last with
      | none => true
      | some q => !decide (p.1 < q.1 ∨ p.1 = q.1 ∧ p.2 ≤ q.2)) && askedOk l m (some p) ds
def isAskedD (d : D) (l m : Int) : Bool := match d with
  | .lst xs => askedOk l m none xs
  | _ => false
def depthOk (d : D) (m : Int) : Bool := match d with
  | .int i => decide (0 ≤ i ∧ i ≤ m)
  | _ => false
def isLooksD (d : D) (l m : Nat) : Bool := match d with
  | .tup [ds, as] => (match ds with
    | .lst xs => xs.length == l && xs.all (fun x => depthOk x m)
    | _ => false) && isAskedD as l m
  | _ => false
theorem askedOk_prD {l m : Nat} : ∀ (as : List (Nat × Nat)) (last : Option (Nat × Nat)), (∀ p ∈ as, p.1 < l ∧ p.2 < m) → as.Pairwise lexP → (∀ q, last = some q → ∀ p ∈ as, lexP q p) → askedOk l m (last.map fun q => ((q.1 : Int), (q.2 : Int))) (as.map prD) = true
  | [], last, _, _, _ => rfl
  | p :: as, last, h1, h2, h3 => by
    obtain ⟨h4, h5⟩ := List.pairwise_cons.mp h2
    obtain ⟨p1, p2⟩ := h1 p (List.mem_cons_self ..)
    have ih := askedOk_prD as (some p) (fun q hq => h1 q (List.mem_cons_of_mem _ hq)) h5 (fun q hq r hr => by cases hq; exact h4 r hr)
    have e : pairOk (prD p) l m = some ((p.1 : Int), (p.2 : Int)) := by
      unfold pairOk prD
      simp only
      rw [if_pos (by omega)]
    rw [List.map_cons]
    unfold askedOk
    rw [e]
    simp only
    rw [Option.map_some] at ih
    rw [ih, Bool.and_true]
    cases last with
    | none => rfl
    | some q =>
      have := h3 q rfl p (List.mem_cons_self ..)
      unfold lexP at this
      simp only [Option.map_some, Bool.not_eq_true', decide_eq_false_iff_not]
      omega
theorem isLooksD_looksD {l m : Nat} {ds : List Nat} {as : List (Nat × Nat)} (h : Lk l m ds as) : isLooksD (looksD ds as) l m = true := by
  unfold isLooksD looksD
  simp only [nL, List.length_map, Bool.and_eq_true, beq_iff_eq, List.all_eq_true]
  refine ⟨⟨h.len, fun x hx => ?_⟩, askedOk_prD as none h.inn h.ris (fun q hq => by cases hq)⟩
  obtain ⟨i, hi, rfl⟩ := List.mem_map.mp hx
  have := h.dep i hi
  simp only [depthOk, decide_eq_true_eq]
  omega
/-! what is read, seen, the last -/
def readL (r : List Rat) (d : Nat) : List Nat := (orderOf r).take d
def readLines (b : List (List Rat)) (ds : List Nat) : List (List Nat) := (b.zip ds).map fun p => readL p.1 p.2
def seenRow (lines : List Nat) (k : Nat) (as : List (Nat × Nat)) (r : List Rat) : List (Option Rat) := r.zipIdx.map fun p => if p.2 ∈ lines ∨ (k, p.2) ∈ as then some p.1 else none
def seenOf (b : List (List Rat)) (ds : List Nat) (as : List (Nat × Nat)) : List (List (Option Rat)) := (readLines b ds).zipIdx.map fun p => seenRow p.1 p.2 as (b.getD p.2 [])
def lastW (r : List Rat) (d : Nat) : Rat := match (readL r d).getLast? with
  | none => 1
  | some j => wt r j
def lastOf (b : List (List Rat)) (ds : List Nat) : List Rat := (b.zip ds).map fun p => lastW p.1 p.2
def filled (row : List (Option Rat)) (os : List Rat) : List Rat := (row.zip os).map fun p => p.1.getD p.2
def colO (s : List (List (Option Rat))) (j : Nat) : List (Option Rat) := s.map fun r => r.getD j none
def boundsBy (r : Rule) (s : List (List (Option Rat))) (last : List Rat) : List (Rat × Rat) :=
  (List.range (s.headD []).length).map fun j => (worthBy r (filled (colO s j) (s.map fun _ => 0)), worthBy r (filled (colO s j) last))
def boundsOf (b : List (List Rat)) (r : Rule) (ds : List Nat) (as : List (Nat × Nat)) : List (Rat × Rat) := boundsBy r (seenOf b ds as) (lastOf b ds)
def qqD (p : Rat × Rat) : D := .tup [qD p.1, qD p.2]
theorem readL_mem {r : List Rat} {d j : Nat} (h : j ∈ readL r d) : j < r.length := mem_orderOf.mp (List.mem_of_mem_take h)
theorem readL_length (r : List Rat) (d : Nat) (h : d ≤ r.length) : (readL r d).length = d := by unfold readL; rw [List.length_take, orderOf_length]; omega
theorem readLines_length (b : List (List Rat)) (ds : List Nat) (h : ds.length = b.length) : (readLines b ds).length = b.length := by unfold readLines; rw [List.length_map, List.length_zip]; omega
theorem seenOf_length (b : List (List Rat)) (ds : List Nat) (as : List (Nat × Nat)) (h : ds.length = b.length) : (seenOf b ds as).length = b.length := by unfold seenOf; rw [List.length_map, List.length_zipIdx, readLines_length b ds h]
theorem lastOf_length (b : List (List Rat)) (ds : List Nat) (h : ds.length = b.length) : (lastOf b ds).length = b.length := by unfold lastOf; rw [List.length_map, List.length_zip]; omega
theorem noOwn_oD (o : Option Rat) : (oD o).noOwn = true := by cases o <;> rfl
theorem inD_prD (p : Nat × Nat) (as : List (Nat × Nat)) : inD (prD p) (as.map prD) = decide (p ∈ as) := by
  unfold inD
  rw [List.any_map, Bool.eq_iff_iff, List.any_eq_true, decide_eq_true_iff]
  constructor
  · rintro ⟨x, hx, e⟩
    rw [Function.comp, prD, prD, eqv_tup, eqvs_cons, eqvs_cons, eqvs_nil, eqv_int, eqv_int, Bool.and_true, Bool.and_eq_true, beq_iff_eq, beq_iff_eq] at e
    have : x = p := Prod.ext (by omega) (by omega)
    subst this; exact hx
  · intro h
    refine ⟨p, h, ?_⟩
    rw [Function.comp, prD, eqv_tup, eqvs_cons, eqvs_cons, eqvs_nil, eqv_int, eqv_int]
    simp
theorem okD_prD (n : Nat) (p : Nat × Nat) : okD (n + 1) (prD p) := by
  unfold okD prD
  intro d hd
  simp only [List.mem_cons, List.not_mem_nil, or_false] at hd
  rcases hd with rfl | rfl <;> exact okD_int _ _
theorem okD_prL (n : Nat) (as : List (Nat × Nat)) : okD (n + 2) (.lst (as.map prD)) := by unfold okD; exact okD_map (fun p => okD_prD n p) as
theorem eqOk_prL (p : Nat × Nat) (as : List (Nat × Nat)) : eqOk (prD p) (.lst (as.map prD)) := ⟨okD_prD 7 p, okD_prL 6 as⟩
theorem noOwns_prL (as : List (Nat × Nat)) : D.noOwns (as.map prD) = true := noOwns_map prD (fun _ => rfl) as
theorem noOwn_looksD (ds : List Nat) (as : List (Nat × Nat)) : (looksD ds as).noOwn = true := by unfold looksD; rfl
theorem lk_pairs {l m : Nat} {ds : List Nat} {as : List (Nat × Nat)} (h : Lk l m ds as) (hm : m ≤ 12) (hl : l ≤ 4) : as.length ≤ 48 := by
  have hn : as.Nodup := by
    refine h.ris.imp fun {p q} hpq e => ?_
    subst e
    unfold lexP at hpq
    omega
  have hs : ∀ p ∈ as, p ∈ (List.range 4).flatMap fun i => (List.range 12).map fun j => (i, j) := by
    intro p hp
    have := h.inn p hp
    rw [List.mem_flatMap]
    exact ⟨p.1, List.mem_range.mpr (by omega), List.mem_map.mpr ⟨p.2, List.mem_range.mpr (by omega), rfl⟩⟩
  have := (List.subset_def.mpr (fun {p} hp => hs p hp) : as ⊆ _)
  have := hn.length_le_of_subset this
  exact this
theorem pd_looks {l m : Nat} {ds : List Nat} {as : List (Nat × Nat)} (h : Lk l m ds as) (hm : m ≤ 12) (hl : l ≤ 4) : PD 8 (looksD ds as) := by
  have h1 := lk_pairs h hm hl
  have h2 := h.len
  refine pd_tup (n := 7) (by simp) fun d hd => ?_
  simp only [List.mem_cons, List.not_mem_nil, or_false] at hd
  rcases hd with rfl | rfl
  · refine pd_lst (n := 6) (by rw [nL_length]; omega) fun d hd => ?_
    obtain ⟨i, _, rfl⟩ := List.mem_map.mp hd
    exact pd_int _ _
  · refine pd_lst (n := 6) (by rw [List.length_map]; omega) fun d hd => ?_
    obtain ⟨p, _, rfl⟩ := List.mem_map.mp hd
    refine pd_tup (n := 5) (by simp) fun d hd => ?_
    simp only [List.mem_cons, List.not_mem_nil, or_false] at hd
    rcases hd with rfl | rfl <;> exact pd_int _ _
/-- what is seen, as data -/
def rowD (r : List (Option Rat)) : D := .lst (r.map oD)
def rowO (r : List (Option Rat)) : D := .own (r.map oD)
def seenD (s : List (List (Option Rat))) : D := .lst (s.map rowD)
def seenO (s : List (List (Option Rat))) : D := .own (s.map rowO)
theorem noOwns_oD (r : List (Option Rat)) : D.noOwns (r.map oD) = true := noOwns_map oD noOwn_oD r
theorem frz_rowO (r : List (Option Rat)) : (rowO r).frz = rowD r := frz_ownN _ (noOwns_oD r)
theorem frz_seenO (s : List (List (Option Rat))) : (seenO s).frz = seenD s := by unfold seenO seenD; rw [frz_own, frzs_map frz_rowO]
theorem orderOf_fold (ws : List Rat) : ws.zipIdx.foldl (fun f (p : Rat × Nat) => insBy (fun i j => geQ (ws.getD i 0) (ws.getD j 0)) f p.2) [] = orderOf ws := by
  unfold orderOf sortBy
  have : ws.zipIdx.map (fun p => p.2) = List.range ws.length := by
    apply List.ext_getElem
    · simp
    · intro i h1 h2; simp
  rw [← this, List.foldl_map]
theorem zipIdx_wt {ws : List Rat} {p : Rat × Nat} (h : p ∈ ws.zipIdx) : p.2 < ws.length ∧ p.1 = wt ws p.2 := by
  obtain ⟨i, hi, e⟩ := List.mem_iff_getElem.mp h
  rw [List.length_zipIdx] at hi
  rw [List.getElem_zipIdx] at e
  subst e
  simp only [Nat.zero_add]
  refine ⟨hi, ?_⟩
  rw [wt, List.getD_eq_getElem?_getD, List.getElem?_eq_getElem hi]; rfl
theorem filled_length (row : List (Option Rat)) (os : List Rat) (h : row.length = os.length) : (filled row os).length = row.length := by unfold filled; rw [List.length_map, List.length_zip]; omega
theorem mem_filled {row : List (Option Rat)} {os : List Rat} {q : Rat} (h : q ∈ filled row os) : some q ∈ row ∨ q ∈ os := by
  unfold filled at h
  obtain ⟨⟨o, x⟩, hp, rfl⟩ := List.mem_map.mp h
  have := List.of_mem_zip hp
  cases o with
  | none => exact .inr this.2
  | some q => exact .inl this.1
theorem colO_length (s : List (List (Option Rat))) (j : Nat) : (colO s j).length = s.length := List.length_map ..
theorem mem_colO {s : List (List (Option Rat))} {m j : Nat} (hl : ∀ r ∈ s, r.length = m) (hj : j < m) {o : Option Rat} (h : o ∈ colO s j) : ∃ r ∈ s, o ∈ r := by
  obtain ⟨r, hr, rfl⟩ := List.mem_map.mp h
  refine ⟨r, hr, ?_⟩
  have := hl r hr
  rw [List.getD_eq_getElem?_getD, List.getElem?_eq_getElem (by omega)]
  exact List.getElem_mem _
theorem seenRow_length (lines : List Nat) (k : Nat) (as : List (Nat × Nat)) (r : List Rat) : (seenRow lines k as r).length = r.length := by unfold seenRow; rw [List.length_map, List.length_zipIdx]
theorem mem_seenRow {lines : List Nat} {k : Nat} {as : List (Nat × Nat)} {r : List Rat} {q : Rat} (h : some q ∈ seenRow lines k as r) : q ∈ r := by
  unfold seenRow at h
  obtain ⟨p, hp, e⟩ := List.mem_map.mp h
  split at e
  · cases e; exact List.fst_mem_of_mem_zipIdx hp
  · cases e
theorem mem_seenOf {b : List (List Rat)} {ds : List Nat} {as : List (Nat × Nat)} (h : ds.length = b.length) {s : List (Option Rat)} (hs : s ∈ seenOf b ds as) : ∃ k lines, k < b.length ∧ s = seenRow lines k as (b.getD k []) := by
  unfold seenOf at hs
  obtain ⟨p, hp, rfl⟩ := List.mem_map.mp hs
  have := List.snd_lt_add_of_mem_zipIdx hp
  rw [readLines_length b ds h] at this
  exact ⟨p.2, p.1, by omega, rfl⟩
theorem getD_mem {α : Type} {b : List α} {k : Nat} {d : α} (h : k < b.length) : b.getD k d ∈ b := by
  rw [List.getD_eq_getElem?_getD, List.getElem?_eq_getElem h]; exact List.getElem_mem _
theorem seenOf_rows {b : List (List Rat)} {m : Nat} {ds : List Nat} {as : List (Nat × Nat)} (hb : Bk b m) (h : ds.length = b.length) : ∀ s ∈ seenOf b ds as, s.length = m := by
  intro s hs
  obtain ⟨k, lines, hk, rfl⟩ := mem_seenOf h hs
  rw [seenRow_length]
  exact hb.len _ (getD_mem hk)
theorem seenOf_qz {b : List (List Rat)} {n : Nat} {ds : List Nat} {as : List (Nat × Nat)} (hz : BkZ n b) (h : ds.length = b.length) {s : List (Option Rat)} (hs : s ∈ seenOf b ds as) {q : Rat} (hq : some q ∈ s) : Qz n q := by
  obtain ⟨k, lines, hk, rfl⟩ := mem_seenOf h hs
  exact hz _ (getD_mem hk) _ (mem_seenRow hq)
theorem lastW_mem {r : List Rat} {d : Nat} : lastW r d = 1 ∨ lastW r d ∈ r := by
  unfold lastW
  split
  · exact .inl rfl
  · rename_i j e
    exact .inr (wt_mem (readL_mem (List.mem_of_getLast? e)))
theorem lastOf_mem {b : List (List Rat)} {ds : List Nat} {q : Rat} (h : q ∈ lastOf b ds) : q = 1 ∨ ∃ r ∈ b, q ∈ r := by
  unfold lastOf at h
  obtain ⟨p, hp, rfl⟩ := List.mem_map.mp h
  rcases lastW_mem (r := p.1) (d := p.2) with e | e
  · exact .inl e
  · exact .inr ⟨p.1, (List.of_mem_zip hp).1, e⟩
theorem lastOf_qz {b : List (List Rat)} {ds : List Nat} (hz : BkZ 850 b) {q : Rat} (h : q ∈ lastOf b ds) : Qz 850 q := by
  rcases lastOf_mem h with rfl | ⟨r, hr, hq⟩
  · exact qz_1.mono (by decide)
  · exact hz r hr q hq
/-- what bounds_by wants -/
structure SnOk (r : Rule) (s : List (List (Option Rat))) (last : List Rat) (m : Nat) : Prop where
  l1 : 1 ≤ s.length
  l4 : s.length ≤ 4
  m12 : m ≤ 12
  rows : ∀ x ∈ s, x.length = m
  qz : ∀ x ∈ s, ∀ q, some q ∈ x → Qz 850 q
  ll : last.length = s.length
  lz : ∀ q ∈ last, Qz 850 q
  ru : Ru r s.length
  rz : RuZ 100 r
theorem snOk_of {b : List (List Rat)} {m : Nat} {r : Rule} {ds : List Nat} {as : List (Nat × Nat)} (hb : Bk b m) (hz : BkZ 850 b) (hr : Ru r b.length) (hrz : RuZ 100 r) (hd : ds.length = b.length) : SnOk r (seenOf b ds as) (lastOf b ds) m where
  l1 := by rw [seenOf_length b ds as hd]; exact hb.l1
  l4 := by rw [seenOf_length b ds as hd]; exact hb.l4
  m12 := hb.m12
  rows := seenOf_rows hb hd
  qz := fun x hx q hq => seenOf_qz hz hd hx hq
  ll := by rw [seenOf_length b ds as hd, lastOf_length b ds hd]
  lz := fun q hq => lastOf_qz hz hq
  ru := by rw [seenOf_length b ds as hd]; exact hr
  rz := hrz
theorem sn_low {r : Rule} {s : List (List (Option Rat))} {last : List Rat} {m j : Nat} (h : SnOk r s last m) (hj : j < m) (os : List Rat) (ho : os.length = s.length) (hoz : ∀ q ∈ os, Qz 850 q) :
    Ru r (filled (colO s j) os).length ∧ (∀ q ∈ filled (colO s j) os, Qz 850 q) ∧ 1 ≤ (filled (colO s j) os).length ∧ (filled (colO s j) os).length ≤ 4 := by
  have e : (filled (colO s j) os).length = s.length := by rw [filled_length _ _ (by rw [colO_length, ho]), colO_length]
  rw [e]
  refine ⟨h.ru, fun q hq => ?_, h.l1, h.l4⟩
  rcases mem_filled hq with hq | hq
  · obtain ⟨x, hx, hq⟩ := mem_colO h.rows hj hq
    exact h.qz x hx q hq
  · exact hoz q hq
theorem boundsBy_qz {r : Rule} {s : List (List (Option Rat))} {last : List Rat} {m : Nat} (h : SnOk r s last m) : ∀ p ∈ boundsBy r s last, Qz 4000 p.1 ∧ Qz 4000 p.2 := by
  intro p hp
  unfold boundsBy at hp
  obtain ⟨j, hj, rfl⟩ := List.mem_map.mp hp
  have hj : j < m := by
    have := List.mem_range.mp hj
    cases s with
    | nil => have := h.l1; simp at this
    | cons x s => rw [← h.rows x (List.mem_cons_self ..)]; exact this
  obtain ⟨a1, a2, a3, a4⟩ := sn_low h hj (s.map fun _ => 0) (List.length_map ..) (fun q hq => by obtain ⟨_, _, rfl⟩ := List.mem_map.mp hq; exact qz_0.mono (by decide))
  obtain ⟨b1, b2, b3, b4⟩ := sn_low h hj last h.ll h.lz
  exact ⟨worthBy_z a1 h.rz a2 a3 a4, worthBy_z b1 h.rz b2 b3 b4⟩
theorem boundsBy_length {r : Rule} {s : List (List (Option Rat))} {last : List Rat} {m : Nat} (h : SnOk r s last m) : (boundsBy r s last).length = m := by
  unfold boundsBy
  rw [List.length_map, List.length_range]
  cases s with
  | nil => have := h.l1; simp at this
  | cons x s => exact h.rows x (List.mem_cons_self ..)
/-! who goes ahead, who is sure -/
abbrev bnd (bs : List (Rat × Rat)) (i : Nat) : Rat × Rat := bs.getD i (0, 0)
def aheadB (bs : List (Rat × Rat)) (i j : Nat) : Bool :=
  if (bnd bs i).1 = (bnd bs j).1 then (if (bnd bs i).2 = (bnd bs j).2 then decide (i < j) else decide ((bnd bs j).2 < (bnd bs i).2)) else decide ((bnd bs j).1 < (bnd bs i).1)
def inTurn (bs : List (Rat × Rat)) : List Nat := sortBy (aheadB bs) (List.range bs.length)
def areSure (bs : List (Rat × Rat)) (ts : List Nat) : Bool := ts.all fun t => (List.range bs.length).all fun o => decide (o ∈ ts) || !decide ((bnd bs t).1 < (bnd bs o).2)
def sureBy (bs : List (Rat × Rat)) (c : Nat) : Option (List Nat) := if areSure bs (sortN ((inTurn bs).take c)) = true then some (sortN ((inTurn bs).take c)) else none
abbrev optL : Option (List Nat) → D
  | none => .non
  | some ts => .lst (nL ts)
theorem ix_bnd {bs : List (Rat × Rat)} {i : Nat} (h : i < bs.length) : ixl (bs.map qqD) (i : Int) = some (qqD (bnd bs i)) := by
  rw [ixl_nat, List.getElem?_map, List.getElem?_eq_getElem h, bnd, List.getD_eq_getElem?_getD, List.getElem?_eq_getElem h]; rfl
theorem bnd_mem {bs : List (Rat × Rat)} {i : Nat} (h : i < bs.length) : bnd bs i ∈ bs := getD_mem h
theorem mem_inTurn {bs : List (Rat × Rat)} {i : Nat} : i ∈ inTurn bs ↔ i < bs.length := by unfold inTurn; rw [mem_sortBy, List.mem_range]
theorem inTurn_length (bs : List (Rat × Rat)) : (inTurn bs).length = bs.length := by unfold inTurn; rw [sortBy_length, List.length_range]
theorem inTurn_nodup (bs : List (Rat × Rat)) : (inTurn bs).Nodup := (sortBy_perm _ _).nodup_iff.mpr List.nodup_range
theorem areSure_iff {bs : List (Rat × Rat)} {ts : List Nat} : areSure bs ts = true ↔ ∀ t ∈ ts, ∀ o, o < bs.length → o ∉ ts → (bnd bs o).2 ≤ (bnd bs t).1 := by
  unfold areSure
  simp only [List.all_eq_true, List.mem_range, Bool.or_eq_true, decide_eq_true_eq, Bool.not_eq_true', decide_eq_false_iff_not, Rat.not_lt]
  constructor
  · intro h t ht o ho hn
    exact (h t ht o ho).resolve_left hn
  · intro h t ht o ho
    by_cases hn : o ∈ ts
    · exact .inl hn
    · exact .inr (h t ht o ho hn)
theorem eqv_qqD_1 (p q : Rat × Rat) : D.eqv (qD p.1) (qD q.1) = decide (p.1 = q.1) := eqv_qD _ _
/-- a list's number -/
def isListNo (d : D) (n : Nat) : Bool := match d with
  | .int i => decide (0 ≤ i) && decide (i < (n : Int))
  | _ => false
/-! like ones stay in their turn -/
section
variable {α : Type} {ge : α → α → Bool} {S : α → α → Prop}
def StR (ge : α → α → Bool) (S : α → α → Prop) (a b : α) : Prop := ge a b = true ∧ (ge b a = true → S a b)
theorem insBy_stable (T : TotGe ge) {f : List α} (hs : f.Pairwise (StR ge S)) (x : α) (hx : ∀ a ∈ f, S a x) : (insBy ge f x).Pairwise (StR ge S) := by
  have hs' : f.Pairwise (fun a b => ge a b = true) := hs.imp fun h => h.1
  rw [insBy_eq T hs']
  have e : f.takeWhile (fun y => ge y x) ++ f.dropWhile (fun y => ge y x) = f := List.takeWhile_append_dropWhile
  have hs2 := hs
  rw [← e] at hs2
  obtain ⟨h1, h2, h3⟩ := List.pairwise_append.mp hs2
  have hd : ∀ y ∈ f.dropWhile (fun y => ge y x), ge y x = false := by
    intro y hy
    cases hd : f.dropWhile (fun y => ge y x) with
    | nil => rw [hd] at hy; cases hy
    | cons z r =>
      have hz : ge z x = false := dropWhile_head (p := fun y => ge y x) hd
      rw [hd] at hy h2
      rcases List.mem_cons.mp hy with rfl | hy
      · exact hz
      · cases hyx : ge y x with
        | false => rfl
        | true =>
          have := T.tr _ _ _ ((List.pairwise_cons.mp h2).1 y hy).1 hyx
          rw [hz] at this; cases this
  refine List.pairwise_append.mpr ⟨h1, List.pairwise_cons.mpr ⟨fun y hy => ?_, h2⟩, ?_⟩
  · have hyx := hd y hy
    exact ⟨(T.tot x y).resolve_right (by simp [hyx]), fun h => by rw [hyx] at h; cases h⟩
  intro a ha b hb
  rcases List.mem_cons.mp hb with rfl | hb
  · have h := List.all_takeWhile (p := fun y => ge y b) (l := f)
    have hm : a ∈ f := by rw [← e]; exact List.mem_append_left _ ha
    exact ⟨List.all_eq_true.mp h a ha, fun _ => hx a hm⟩
  · exact h3 a ha b hb
theorem foldl_insBy_stable (T : TotGe ge) : ∀ (l f : List α), f.Pairwise (StR ge S) → l.Pairwise S → (∀ a ∈ f, ∀ x ∈ l, S a x) → (l.foldl (insBy ge) f).Pairwise (StR ge S)
  | [], _, h, _, _ => h
  | x :: l, f, h, hl, hf => by
    obtain ⟨h1, h2⟩ := List.pairwise_cons.mp hl
    refine foldl_insBy_stable T l _ (insBy_stable T h x fun a ha => hf a ha x (List.mem_cons_self ..)) h2 fun a ha y hy => ?_
    rcases mem_insBy.mp ha with rfl | ha
    · exact h1 y hy
    · exact hf a ha y (List.mem_cons_of_mem _ hy)
theorem sortBy_stable (T : TotGe ge) {l : List α} (hl : l.Pairwise S) : (sortBy ge l).Pairwise (StR ge S) := foldl_insBy_stable T l [] .nil hl (by simp)
end
/-- the order in which a list is read -/
def befQ (ws : List Rat) (i j : Nat) : Prop := wt ws j < wt ws i ∨ wt ws i = wt ws j ∧ i < j
theorem orderOf_bef (ws : List Rat) : (orderOf ws).Pairwise (befQ ws) := by
  have := sortBy_stable (S := fun i j : Nat => i < j) (geQ_tot.on fun i => wt ws i) (l := List.range ws.length) List.pairwise_lt_range
  refine this.imp fun {i j} h => ?_
  obtain ⟨h1, h2⟩ := h
  have h1 := geQ_iff.mp h1
  unfold befQ
  by_cases e : wt ws i = wt ws j
  · exact .inr ⟨e, h2 (geQ_iff.mpr (by rw [e]; exact Rat.le_refl))⟩
  · left
    grind
theorem sortN_orderOf (ws : List Rat) : sortN (orderOf ws) = List.range ws.length :=
  (sortN_eq (sortBy_perm _ _).symm (List.pairwise_lt_range.imp Nat.le_of_lt)).symm
theorem asBls_true {α : Type} (l : List α) : asBls (l.map fun _ => D.bl true) = some (l.map fun _ => true) := by
  rw [← asBls_map, List.map_map]; rfl
theorem all_true {α : Type} (l : List α) : (l.map fun _ => true).all id = true := by simp
/-- how many turns a law by cells takes -/
theorem turns (m a : Nat) (ha : 1 ≤ a) : ∃ n : Nat, (if (1 : Int) > if (a : Int) < (m : Int) then (a : Int) else (m : Int) then (1 : Int) else if (a : Int) < (m : Int) then (a : Int) else (m : Int)) = (n : Int) ∧ n ≤ a := by
  have := fit (m : Int) (a : Int) (by omega) (by omega)
  obtain ⟨h1, h2⟩ := this
  generalize (if (1 : Int) > if (a : Int) < (m : Int) then (a : Int) else (m : Int) then (1 : Int) else if (a : Int) < (m : Int) then (a : Int) else (m : Int)) = n at *
  exact ⟨n.toNat, by omega, by omega⟩
theorem noLsts_map {α : Type} (f : α → D) (h : ∀ x, (f x).noLst = true) : ∀ l : List α, D.noLsts (l.map f) = true
  | [] => rfl
  | x :: l => by rw [List.map_cons, D.noLsts, h, noLsts_map f h l]; rfl
theorem noLst_nO (l : List Nat) : (D.own (nL l)).noLst = true := noLsts_map _ (fun _ => rfl) l
end TL
/-! # a part of a tree turned; expressions that thaw what they look at -/
namespace TL
open PySem PyProof.Rows L2
section
variable {K : PySem.W.Frag} {F H : Hp} {fx : Fx} {M : MS} {L : List (V × D)} {σ : L2.St}
set_option maxHeartbeats 2000000 in
/-- a part of a slot's tree is changed, and the heap within its footprint -/
theorem SR.turnP {i : Nat} {d : D} {js : List Int} {e0 : D} {v : V} {b : Bool} (h : SR K fx M L σ F H) (e : M[i]? = some (Slot.mk b d)) (hv : σ[i]? = some (some v)) (hp : d.atP js = some e0) :
    ∃ u fe, Rp K F H e0 u fe ∧ Rch K H v js u ∧ (∀ x, fe.count x ≤ 1) ∧ ∀ (H' : Hp) (e' : D) (fe' : List Addr), Rp K F H' e' u fe' → (∀ x, fe'.count x ≤ fe.count x) → (∀ x, fe.count x = 0 → H' x = H x) →
      SR K fx (M.set i (Slot.mk b (d.putP js e'))) L σ F H' := by
  obtain ⟨sub, stay, agree, shape, fs, gs, r1, r2, c, g⟩ := h
  have hat : ∃ f, fs[i]? = some f ∧ Rp K F H d v f := by
    cases b with
    | false =>
      obtain ⟨w, f, h1, h2, h3⟩ := r1.va_at (show M[i]? = some (.va d) from e)
      rw [hv] at h1; cases h1; exact ⟨f, h2, h3⟩
    | true =>
      obtain ⟨w, f, h1, h2, h3, _⟩ := r1.io_at (show M[i]? = some (.io d) from e)
      rw [hv] at h1; cases h1; exact ⟨f, h2, h3⟩
  obtain ⟨ft, hf, pt⟩ := hat
  obtain ⟨u, fe, q, rch, le0, re⟩ := Rp.zoom sub js d v ft _ pt hp
  have cft : ∀ x, ft.count x ≤ cnt x fs := fun x => cnt_get hf
  refine ⟨u, fe, q, rch, fun x => by have := c x; have := cft x; have := le0 x; omega, fun H' e' fe' p' le keep => ?_⟩
  have one : ∀ x, fe.count x ≤ 1 ∧ (0 < fe.count x → ft.count x = fe.count x) := fun x => by have := c x; have := cft x; have := le0 x; omega
  obtain ⟨fn, new, cn⟩ := re H' _ fe' (fun x z => keep x (by have := one x; omega)) p'
  have hi : i < fs.length := (List.getElem?_eq_some_iff.mp hf).1
  have cs := fun x => cnt_set x fs i _ [] hf
  have others : ∀ x, 0 < cnt x (fs.set i []) → fe.count x = 0 := fun x z => by
    have := cs x; have := c x; have := le0 x; have := cft x
    simp only [List.count_nil] at *; omega
  have hset : SlR K F H' fx.P 0 (M.set i (Slot.mk b (d.putP js e'))) σ (fs.set i fn) := by
    have step : ∀ {j i : Nat} {M : MS} {σ : L2.St} {fs : List (List Addr)}, SlR K F H fx.P j M σ fs → M[i]? = some (Slot.mk b d) → σ[i]? = some (some v) → (∀ x, 0 < cnt x (fs.set i []) → fe.count x = 0) →
        SlR K F H' fx.P j (M.set i (Slot.mk b (d.putP js e'))) σ (fs.set i fn) := by
      have mo : ∀ {j : Nat} {M : MS} {σ : L2.St} {fs : List (List Addr)}, SlR K F H fx.P j M σ fs → (∀ x, 0 < cnt x fs → fe.count x = 0) → SlR K F H' fx.P j M σ fs := fun r z =>
        r.mono (Same.refl _) fun x y => ⟨(r.foot x y).1, keep x (z x y)⟩
      intro j i M σ fs r
      induction r generalizing i with
      | nil => intro e; simp at e
      | un r ih =>
        intro e hv ho
        cases i with
        | zero => cases b <;> simp [Slot.mk] at e
        | succ i => exact .un (ih (by simpa using e) (by simpa using hv) fun x z => ho x (by simpa [cnt] using z))
      | ol y r ih =>
        intro e hv ho
        cases i with
        | zero => cases b <;> simp [Slot.mk] at e
        | succ i => exact .ol y (ih (by simpa using e) (by simpa using hv) fun x z => ho x (by simpa [cnt] using z))
      | va p r ih =>
        intro e hv ho
        cases i with
        | zero =>
          cases b with
          | true => simp [Slot.mk] at e
          | false =>
            simp at hv
            subst hv
            exact .va new (mo r fun x z => ho x (by simpa [cnt] using z))
        | succ i => exact .va (Rp.mono (Same.refl _) _ _ _ (fun x z => ⟨(Rp.foot _ _ _ p x z).1, keep x (ho x (by have := List.count_pos_iff.mpr z; simp only [List.set_cons_succ, cnt]; omega))⟩) p) (ih (by simpa using e) (by simpa using hv) fun x z => ho x (by simp only [List.set_cons_succ, cnt]; omega))
      | io y p r ih =>
        intro e hv ho
        cases i with
        | zero =>
          cases b with
          | false => simp [Slot.mk] at e
          | true =>
            simp at hv
            subst hv
            exact .io y new (mo r fun x z => ho x (by simpa [cnt] using z))
        | succ i => exact .io y (Rp.mono (Same.refl _) _ _ _ (fun x z => ⟨(Rp.foot _ _ _ p x z).1, keep x (ho x (by have := List.count_pos_iff.mpr z; simp only [List.set_cons_succ, cnt]; omega))⟩) p) (ih (by simpa using e) (by simpa using hv) fun x z => ho x (by simp only [List.set_cons_succ, cnt]; omega))
    exact step r1 e hv others
  have inF : ∀ x, 0 < fe.count x → F x = none := fun x z => (Rp.foot _ _ _ q x (List.count_pos_iff.mp z)).1
  have inG : ∀ x, 0 < fe.count x → fx.G x = none := fun x z => g x (by have := le0 x; have := cft x; omega)
  refine ⟨fun x o z => ?_, fun x o z => ?_, agree, ?_, fs.set i fn, gs, hset, r2.mono (Same.refl _) fun x z => ⟨(r2.foot x z).1, keep x ?_⟩, fun x => ?_, fun x z => ?_⟩
  · rw [keep x (Nat.eq_zero_of_not_pos fun z2 => by rw [inF x z2] at z; cases z)]; exact sub x o z
  · rw [keep x (Nat.eq_zero_of_not_pos fun z2 => by rw [inG x z2] at z; cases z)]; exact stay x o z
  · rw [setNoIo (t := Slot.mk b (d.putP js e')) e (by cases b <;> rfl)]; exact shape
  · have := c x; have := le0 x; have := cft x; omega
  · have h1 := cnt_set x fs i _ fn hf
    have h2 := c x
    have h4 := le x
    have h5 := cn x
    omega
  · refine g x ?_
    have h1 := cnt_set x fs i _ fn hf
    have h4 := le x
    have h5 := cn x
    omega
theorem Rps.eq_own {r : List D} {w : V} {g : List Addr} (p : Rp K F H (.own r) w g) (n : D.noOwns r = true) : ∃ a ws, w = .ref a ∧ g = [a] ∧ F a = none ∧ H a = some (.lst ws) ∧ Rps K F H r ws [] := by
  generalize hd : D.own r = dd at p
  cases p <;> try (cases hd; done)
  rename_i a vs l f nF hH q
  cases hd
  have := Rps.clean _ _ _ n q
  subst this
  exact ⟨a, vs, rfl, rfl, nF, hH, q⟩
/-- all rows turned about -/
def revRow : D → Option D
  | .own r => if D.noOwns r = true then some (.own r.reverse) else none
  | _ => none
def revRows : List D → Option (List D)
  | [] => some []
  | d :: l => (revRow d).bind fun d' => (revRows l).map fun l' => d' :: l'
theorem revRows_get : ∀ {l l' : List D}, revRows l = some l' → l'.length = l.length ∧ ∀ n (h : n < l.length), ∃ r, l[n]? = some (.own r) ∧ D.noOwns r = true ∧ l'[n]? = some (.own r.reverse)
  | [], l', h => by cases h; exact ⟨rfl, fun n h => by simp at h⟩
  | d :: l, l', h => by
    unfold revRows at h
    rw [Option.bind_eq_some_iff] at h
    obtain ⟨d', hd, h⟩ := h
    rw [Option.map_eq_some_iff] at h
    obtain ⟨l2, h2, rfl⟩ := h
    obtain ⟨e1, e2⟩ := revRows_get h2
    refine ⟨by simp [e1], fun n hn => ?_⟩
    cases n with
    | zero =>
      unfold revRow at hd
      split at hd
      · split at hd
        · rename_i r hr
          cases hd
          exact ⟨r, rfl, hr, rfl⟩
        · cases hd
      · cases hd
    | succ n => obtain ⟨r, h3, h4, h5⟩ := e2 n (by simpa using hn); exact ⟨r, by simpa using h3, h4, by simpa using h5⟩
theorem revRows_map (b : List (List Rat)) : revRows (b.map qO) = some ((b.map List.reverse).map qO) := by
  induction b with
  | nil => rfl
  | cons r b ih =>
    rw [List.map_cons, revRows, ih]
    have : revRow (qO r) = some (qO r.reverse) := by
      unfold revRow qO
      simp only
      rw [if_pos (noOwns_qD r), List.map_reverse]
    rw [this]; rfl
theorem Rps.rev0 {K : PySem.W.Frag} {F H : Hp} {l : List D} {vs : List V} (h : Rps K F H l vs []) : Rps K F H l.reverse vs.reverse [] := by
  have := TL.Rps.rev h (m := []) .nil
  simpa using this
/-- slot j forgotten, whatever it holds -/
theorem SR.forget {j : Nat} {o : Option V} (h : SR K fx M L σ F H) (hp : plainS M j = true) : SR K fx (M.set j .un) L (σ.set j o) F H := by
  obtain ⟨sub, stay, agree, shape, fs, gs, r1, r2, c, g⟩ := h
  obtain ⟨s, e1, e2⟩ : ∃ s, M[j]? = some s ∧ s.isIo = false := by
    unfold plainS at hp
    cases e : M[j]? with
    | none => rw [e] at hp; cases hp
    | some s => rw [e] at hp; exact ⟨s, rfl, by cases s <;> first | rfl | cases hp⟩
  have hf : ∃ f, fs[j]? = some f := by
    have h1 := r1.len.2
    have h2 := (List.getElem?_eq_some_iff.mp e1).1
    exact ⟨_, List.getElem?_eq_getElem (by omega)⟩
  obtain ⟨f, hf⟩ := hf
  have cs := fun x => cnt_set x fs j f [] hf
  refine ⟨sub, stay, agree, ?_, fs.set j [], gs, r1.set_un e1 e2, r2, fun x => ?_, fun x z => ?_⟩
  · rw [setNoIo (t := .un) e1 e2]; exact shape
  · have := c x; have := cs x; simp only [List.count_nil] at this; omega
  · refine g x ?_
    have := cs x; simp only [List.count_nil] at this; omega
end
section
variable {X : Cx} {W : WX} {a b c e : Expr} {pos : Pos} {ea eb ec : DE} {es : List Expr} {st : Stmt}
/-- for x in y[..]: x.reverse() -/
def sRevRows (vs : List Nat) (i : Nat) (ps : List IK) (j : Nat) : DS := fun D M => ownAtP M i ps fun l put => getO (revRows l) fun l' => plainS (put l') j = true ∧ stM (dropM ((put l').set j .un) vs) fun M' => D.nx M'
theorem s_revRows {vs : List Nat} {i j : Nat} {ps : List IK} {x : Str} {p p3 : Pos} {y : Expr} (hp : PassesOwn (model X.prog X.w) X.A X.env X.xe) (hc : X.calm = true) (hy : PE X y (tIK X.K (pathK i ps))) (hg : PG X (.Name x p) (gName j))
    (hb : PSs X [.Expr e p3] (tDrop (tBM0 X.K "list" rReverse (tVar j)))) (hs : ∀ x, foldedSetIterable y X.env x = pure x := by intro _; rfl) : PS X (.For (.Name x p) y [.Expr e p3] [] pos) (liftS X.K W (sRevRows vs i ps j)) :=
  psW (ps_for hp hc (pi_list hy) hg hb hs) fun D σ H ⟨fx, M, F, D0, sr, he, h1, h2, h3, h4, h5⟩ => by
    obtain ⟨b, d, js, l, e1, e2, e3, q0⟩ := ownAtP_iff he
    obtain ⟨l', hl', hpl, q⟩ := getO_iff.mp q0
    clear q0
    rw [stM_eq] at q
    obtain ⟨v, hv⟩ := sr.slotV e1
    obtain ⟨u, fe, pu, rch, one, fin⟩ := SR.turnP sr e1 hv e3
    generalize hd : TL.D.own l = dd at pu
    cases pu <;> try (cases hd; done)
    rename_i A ws l0 f nF hH r
    cases hd
    obtain ⟨ll, hrow⟩ := revRows_get hl'
    have hlw := r.len
    have ca : ∀ x, (A :: f).count x = f.count x + if x = A then 1 else 0 := fun x => count_c x A f
    have fA : f.count A = 0 := by have := one A; rw [ca A, if_pos rfl] at this; omega
    refine path_ok sr ps js (.s i) v _ e2 rch (fun Q q => ⟨v, hv, q⟩) _ ⟨A, rfl, ⟨ws, SqL.of hH⟩, ?_⟩
    refine ⟨fun k m σ' H' => m = l.length - k ∧ k ≤ l.length ∧ (σ' = σ ∨ ∃ o, σ' = σ.set j o) ∧ ∃ f', Rps X.K F H' (l'.take k ++ l.drop k) ws f' ∧ (∀ x, f'.count x = f.count x) ∧ ∀ x, f.count x = 0 → H' x = H x,
      ⟨l.length, by simp, Nat.zero_le _, .inl rfl, f, by simpa using r, fun _ => rfl, fun _ _ => rfl⟩, ?_⟩
    rintro k m σ2 H2 ⟨rfl, hk, hσ, f', r2, cf, keep⟩
    have hA2 : H2 A = some (.lst ws) := by rw [keep A fA]; exact hH
    by_cases hlt : k < l.length
    · obtain ⟨row, g1, g2, g3⟩ := hrow k hlt
      have hk2 : (l'.take k ++ l.drop k)[k]? = some (.own row) := by
        rw [List.getElem?_append_right (by rw [List.length_take]; omega), List.length_take, Nat.min_eq_left (by omega), Nat.sub_self, List.getElem?_drop]
        exact g1
      obtain ⟨w, g, z1, z2, z3, z4⟩ := r2.zoom hk2
      obtain ⟨ak, wk, rfl, rfl, n1, hak, rk⟩ := Rps.eq_own z2 g2
      refine .inr ⟨⟨ws, _, SqL.of hA2, z1⟩, fun σ' H' => k + 1 ≤ l.length ∧ (σ' = σ ∨ ∃ o, σ' = σ.set j o) ∧ ∃ f', Rps X.K F H' (l'.take (k + 1) ++ l.drop (k + 1)) ws f' ∧ (∀ x, f'.count x = f.count x) ∧ ∀ x, f.count x = 0 → H' x = H x, fun σ' H' ⟨a1, a2, a3⟩ => ⟨l.length - (k + 1), by omega, rfl, a1, a2, a3⟩, fun x H' yy => ?_⟩
      obtain ⟨rfl, yy⟩ := yy
      have hx' := yy ws (SqL.of hA2)
      rw [z1] at hx'
      cases hx'
      have hj : j < σ2.length := by
        have h1 := sr.dropM (is := [])
        obtain ⟨_, _, _, _, fs, gs, r1, _, _, _⟩ := sr
        have h2 := r1.len.1
        have h3 : j < (M.set i (Slot.mk b (d.putP js (TL.D.own l')))).length := by
          unfold plainS at hpl
          cases e : (M.set i (Slot.mk b (d.putP js (TL.D.own l'))))[j]? with
          | none => rw [e] at hpl; cases hpl
          | some s => exact (List.getElem?_eq_some_iff.mp e).1
        rw [List.length_set] at h3
        rcases hσ with rfl | ⟨o, rfl⟩
        · omega
        · rw [List.length_set]; omega
      refine ⟨.ref ak, by rw [List.getElem?_set_self hj], .inl ⟨rfl, wk, SqL.of hak⟩, ak, wk, rfl, rfl, hak, ?_⟩
      have keepk : ∀ x, x ≠ ak → upd H' ak (.lst wk.reverse) x = H' x := fun x z => upd_ne z
      have cak : f'.count ak = 1 := by
        have h1 := z3 ak
        have h2 := cf ak
        have h3 := one ak
        have h4 := ca ak
        have h5 : ([ak] : List Addr).count ak = 1 := by simp
        omega
      have pnew : Rp X.K F (upd H' ak (.lst wk.reverse)) (.own row.reverse) (.ref ak) [ak] := .own n1 upd_same (Rps.mono (Same.refl _) _ _ _ (fun b z => nomatch z) rk.rev0)
      obtain ⟨f2, r3, c2⟩ := z4 (upd H' ak (.lst wk.reverse)) _ [ak] (fun x z => keepk x fun e => by subst e; rw [cak, count_c x x []] at z; simp at z) pnew
      have el : (l'.take k ++ l.drop k).set k (.own row.reverse) = l'.take (k + 1) ++ l.drop (k + 1) := by
        have hk3 : k < l'.length := by omega
        have g4 : l'[k] = .own row.reverse := by rw [List.getElem?_eq_getElem hk3] at g3; exact Option.some.inj g3
        rw [List.set_append_right _ _ (by rw [List.length_take]; omega), List.length_take, Nat.min_eq_left (by omega), Nat.sub_self, List.drop_eq_getElem_cons hlt, List.set_cons_zero, List.take_succ_eq_append_getElem hk3, g4]
        simp
      rw [el] at r3
      refine ⟨hlt, .inr ?_, f2, r3, fun x => by have := c2 x; have := cf x; omega, fun x z => ?_⟩
      · rcases hσ with rfl | ⟨o, rfl⟩
        · exact ⟨_, rfl⟩
        · exact ⟨_, by rw [List.set_set]⟩
      · rw [keepk x fun e => by subst e; have := cf x; omega]
        exact keep x z
    · have e : k = l.length := by omega
      subst e
      rw [List.take_of_length_le (by omega), List.drop_length, List.append_nil] at r2
      refine .inl ⟨⟨ws, SqL.of hA2, by omega⟩, ?_⟩
      have sr2 := fin H2 (.own l') (A :: f') (.own nF hA2 r2) (fun x => by rw [count_c, ca x, cf x]; exact Nat.le_refl _) (fun x z => keep x (by rw [ca x] at z; omega))
      have sr3 : SR X.K fx ((M.set i (Slot.mk b (d.putP js (TL.D.own l')))).set j .un) [] σ2 F H2 := by
        rcases hσ with rfl | ⟨o, rfl⟩
        · have hj : j < σ2.length := by
            obtain ⟨_, _, _, _, fs, gs, r1, _, _, _⟩ := sr2
            have h2 := r1.len.1
            have h3 : j < (M.set i (Slot.mk b (d.putP js (TL.D.own l')))).length := by
              unfold plainS at hpl
              cases e : (M.set i (Slot.mk b (d.putP js (TL.D.own l'))))[j]? with
              | none => rw [e] at hpl; cases hpl
              | some s => exact (List.getElem?_eq_some_iff.mp e).1
            omega
          have := SR.forget (o := σ2[j]) sr2 hpl
          rwa [List.set_getElem_self] at this
        · exact SR.forget sr2 hpl
      exact h1 _ σ2 F H2 q (Same.refl _) sr3.dropM
end
/-! ### an own tree looked at as if nobody changed it -/
/-- slot i frozen, the slots ks as they are, nothing else known -/
def thawM (i : Nat) (dz : D) (ks : List Nat) : Nat → MS → MS
  | _, [] => []
  | j, s :: M => (if Nat.beq j i then .va dz else if ks.elem j then (match s with | .va d => .va d | _ => .un) else .un) :: thawM i dz ks (j + 1) M
/-- the same, slot by slot ahead of what goes on with it -/
def thawK (i : Nat) (dz : D) (ks : List Nat) : Nat → MS → (MS → Prop) → Prop
  | _, [], k => k []
  | j, s :: M, k => match Nat.beq j i with
    | true => thawK i dz ks (j + 1) M fun M' => k (.va dz :: M')
    | false => match ks.elem j with
      | true => (match s with
        | .va d => thawK i dz ks (j + 1) M fun M' => k (.va d :: M')
        | _ => thawK i dz ks (j + 1) M fun M' => k (.un :: M'))
      | false => thawK i dz ks (j + 1) M fun M' => k (.un :: M')
theorem thawK_eq (i : Nat) (dz : D) (ks : List Nat) : ∀ (M : MS) (j : Nat) (k : MS → Prop), thawK i dz ks j M k = k (thawM i dz ks j M)
  | [], _, _ => rfl
  | s :: M, j, k => by
    unfold thawK thawM
    cases Nat.beq j i with
    | true => exact thawK_eq i dz ks M (j + 1) _
    | false =>
      cases ks.elem j with
      | true => cases s <;> exact thawK_eq i dz ks M (j + 1) _
      | false => exact thawK_eq i dz ks M (j + 1) _
def keepK (M : MS) : List Nat → Prop → Prop
  | [], k => k
  | j :: ks, k => match M[j]? with
    | some (.va d) => d.noOwn = true ∧ keepK M ks k
    | _ => keepK M ks k
theorem keepK_ok {M : MS} {k : Prop} : ∀ {ks : List Nat}, keepK M ks k → k ∧ ∀ j ∈ ks, ∀ d, M[j]? = some (.va d) → d.noOwn = true
  | [], h => ⟨h, fun j hj => nomatch hj⟩
  | j :: ks, h => by
    unfold keepK at h
    split at h
    · rename_i d e
      obtain ⟨h1, h2⟩ := keepK_ok h.2
      refine ⟨h1, fun j' hj d' e' => ?_⟩
      rcases List.mem_cons.mp hj with rfl | hj
      · rw [e] at e'; cases e'; exact h.1
      · exact h2 j' hj d' e'
    · rename_i ne
      obtain ⟨h1, h2⟩ := keepK_ok h
      refine ⟨h1, fun j' hj d' e' => ?_⟩
      rcases List.mem_cons.mp hj with rfl | hj
      · exact absurd e' (ne d')
      · exact h2 j' hj d' e'
def dThaw (i : Nat) (ks : List Nat) (ea : DE) : DE := fun M Q E => match M[i]? with
  | some (.va d) => ∃ dz, d.frz = dz ∧ keepK M ks (thawK i dz ks 0 M fun M' => ea M' (fun x _ => x.noLst = true ∧ Q x M) (fun C _ => E C M))
  | _ => False
def nils : MS → List (List Addr)
  | [] => []
  | _ :: M => [] :: nils M
theorem cnt_nils (a : Addr) : ∀ M : MS, cnt a (nils M) = 0
  | [] => rfl
  | _ :: M => by simp [nils, cnt, cnt_nils a M]
theorem slr_thaw {K : PySem.W.Frag} {F F1 H : Hp} {P : List V} {d : D} {v : V} {f : List Addr} {i : Nat} {ks : List Nat} (sF : Same F F1) (pv : Rp K F1 H d.frz v []) :
    ∀ {j : Nat} {M : MS} {σ : L2.St} {fs : List (List Addr)}, SlR K F H P j M σ fs → (∀ n s, j + n = i → M[n]? = some s → σ[n]? = some (some v)) → (∀ n d', (j + n) ∈ ks → M[n]? = some (.va d') → d'.noOwn = true) →
      SlR K F1 H P j (thawM i d.frz ks j M) σ (nils M) := by
  intro j M σ fs r
  induction r with
  | nil => intro _ _; exact .nil
  | @un j o M σ fs r ih =>
    intro h1 h2
    have ih := ih (fun n s e q => by simpa using h1 (n + 1) s (by omega) (by simpa using q)) (fun n d' e q => h2 (n + 1) d' (by rw [show j + (n + 1) = j + 1 + n by omega]; exact e) (by simpa using q))
    unfold thawM
    cases c : Nat.beq j i with
    | true =>
      have := h1 0 .un (by simpa using Nat.eq_of_beq_eq_true c) rfl
      simp at this; rw [this]
      exact .va pv ih
    | false => cases c2 : ks.elem j <;> exact .un ih
  | @ol j w M σ fs y r ih =>
    intro h1 h2
    have ih := ih (fun n s e q => by simpa using h1 (n + 1) s (by omega) (by simpa using q)) (fun n d' e q => h2 (n + 1) d' (by rw [show j + (n + 1) = j + 1 + n by omega]; exact e) (by simpa using q))
    unfold thawM
    cases c : Nat.beq j i with
    | true =>
      have := h1 0 .ol (by simpa using Nat.eq_of_beq_eq_true c) rfl
      simp at this; rw [this]
      exact .va pv ih
    | false => cases c2 : ks.elem j <;> exact .un ih
  | @va j d0 w f0 M σ fs p r ih =>
    intro h1 h2
    have ih := ih (fun n s e q => by simpa using h1 (n + 1) s (by omega) (by simpa using q)) (fun n d' e q => h2 (n + 1) d' (by rw [show j + (n + 1) = j + 1 + n by omega]; exact e) (by simpa using q))
    unfold thawM
    cases c : Nat.beq j i with
    | true =>
      have := h1 0 (.va d0) (by simpa using Nat.eq_of_beq_eq_true c) rfl
      simp at this; rw [this]
      exact .va pv ih
    | false =>
      cases c2 : ks.elem j with
      | true =>
        have n0 := h2 0 d0 (by simpa using List.elem_iff.mp c2) rfl
        have e0 := Rp.clean _ _ _ n0 p
        subst e0
        exact .va (Rp.mono sF _ _ _ (fun b z => nomatch z) p) ih
      | false => exact .un ih
  | @io j d0 w f0 M σ fs y p r ih =>
    intro h1 h2
    have ih := ih (fun n s e q => by simpa using h1 (n + 1) s (by omega) (by simpa using q)) (fun n d' e q => h2 (n + 1) d' (by rw [show j + (n + 1) = j + 1 + n by omega]; exact e) (by simpa using q))
    unfold thawM
    cases c : Nat.beq j i with
    | true =>
      have := h1 0 (.io d0) (by simpa using Nat.eq_of_beq_eq_true c) rfl
      simp at this; rw [this]
      exact .va pv ih
    | false => cases c2 : ks.elem j <;> exact .un ih
set_option maxHeartbeats 2000000 in
theorem d_thaw {X : Cx} {W : WX} {e : Expr} {ea : DE} {i : Nat} {ks : List Nat} (h : PE X e (liftE X.K W ea)) : PE X e (liftE X.K W (dThaw i ks ea)) := peW h fun σ H Q ⟨fx, M, L, F, Q0, E0, sr, he, hq, hx⟩ => by
  unfold dThaw at he
  split at he
  case h_2 => exact he.elim
  case h_1 d ei =>
  obtain ⟨dz, rfl, he⟩ := he
  obtain ⟨he, hks⟩ := keepK_ok he
  rw [thawK_eq] at he
  obtain ⟨sub, stay, agree, shape, fs, gs, r1, r2, c, g⟩ := sr
  obtain ⟨v, f, hv, hf, pv⟩ := r1.va_at ei
  have cs := fun a => cnt_set a fs i f [] hf
  simp only [List.count_nil] at cs
  have fF : ∀ b ∈ f, F b = none := fun b z => (Rp.foot _ _ _ pv b z).1
  have fL := Rp.footL _ _ _ pv
  have f1 : ∀ b ∈ f, f.count b = 1 ∧ cnt b (fs.set i []) = 0 ∧ cnt b gs = 0 := fun b z => by
    have h1 := List.count_pos_iff.mpr z
    have h2 := cs b
    have h3 := c b
    omega
  obtain ⟨F1, hF1⟩ : ∃ F1 : Hp, F1 = fun b => if b ∈ f then H b else F b := ⟨_, rfl⟩
  have F1in : ∀ b ∈ f, F1 b = H b := fun b z => by rw [hF1]; exact if_pos z
  have F1out : ∀ b, b ∉ f → F1 b = F b := fun b z => by rw [hF1]; exact if_neg z
  have s1 : Same F F1 := fun b o e => by rw [F1out b fun z => by rw [fF b z] at e; cases e]; exact e
  have s2 : Same F1 H := fun b o e => by
    by_cases z : b ∈ f
    · rw [F1in b z] at e; exact e
    · rw [F1out b z] at e; exact sub b o e
  have pz : Rp X.K F1 H d.frz v [] := Rp.frz s1 _ _ _ (fun b z => F1in b z) pv
  obtain ⟨G1, hG1⟩ : ∃ G1 : Hp, G1 = fun b => if 0 < cnt b (fs.set i []) + cnt b gs then H b else fx.G b := ⟨_, rfl⟩
  have G1in : ∀ b, 0 < cnt b (fs.set i []) + cnt b gs → G1 b = H b := fun b z => by rw [hG1]; exact if_pos z
  have G1out : ∀ b, ¬ 0 < cnt b (fs.set i []) + cnt b gs → G1 b = fx.G b := fun b z => by rw [hG1]; exact if_neg z
  have GG : ∀ b o, fx.G b = some o → G1 b = some o ∧ b ∉ f := fun b o e => by
    have z0 : ¬ 0 < cnt b fs + cnt b gs := fun z => by rw [g b z] at e; cases e
    have := cs b
    refine ⟨by rw [G1out b (by omega)]; exact e, fun z => ?_⟩
    have := List.count_pos_iff.mpr z
    omega
  have sr1 : SR X.K ⟨fx.P, G1, F1, (thawM i d.frz ks 0 M).map Slot.isIo⟩ (thawM i d.frz ks 0 M) [] σ F1 H := by
    refine ⟨s2, fun b o e => ?_, fun b _ => rfl, rfl, nils M, [], ?_, .nil, fun a => by rw [cnt_nils]; simp [cnt], fun a z => by rw [cnt_nils] at z; simp [cnt] at z⟩
    · have e : G1 b = some o := e
      by_cases z : 0 < cnt b (fs.set i []) + cnt b gs
      · rw [G1in b z] at e; exact e
      · rw [G1out b z] at e; exact stay b o e
    · exact slr_thaw (i := i) (ks := ks) (f := f) s1 pz r1 (fun n s e q => by simp at e; subst e; exact hv) (fun n d' e q => hks n (by simpa using e) d' q)
  have oth : ∀ b, 0 < cnt b (fs.set i []) + cnt b gs → F b = none ∧ (∃ o, H b = some o) ∧ b ∉ f := fun b z => by
    refine ⟨?_, ?_, fun hb => by have := f1 b hb; omega⟩
    · have := cs b
      by_cases z2 : 0 < cnt b gs
      · exact (r2.foot b z2).1
      · exact (r1.foot b (by omega)).1
    · have := cs b
      by_cases z2 : 0 < cnt b gs
      · exact (r2.foot b z2).2
      · exact (r1.foot b (by omega)).2
  have back : ∀ {M1 : MS} {Z : List (V × D)} {F' H' : Hp}, (∀ p ∈ Z, p.2.noLst = true) → Same F1 F' → SR X.K ⟨fx.P, G1, F1, (thawM i d.frz ks 0 M).map Slot.isIo⟩ M1 Z σ F' H' →
      ∃ F2, Same F F2 ∧ SR X.K fx M (Z ++ L) σ F2 H' := by
    intro M1 Z F' H' nZ sF k
    obtain ⟨ksub, kstay, kagree, _, kfs, kgs, k1, k2, kc, kg⟩ := k
    have inF' : ∀ b ∈ f, F' b = H b ∧ H' b = H b := fun b z => by
      obtain ⟨ws, e, ho⟩ := fL b z
      have e1 := sF b _ ((F1in b z).trans e)
      exact ⟨e1.trans e.symm, (ksub b _ e1).trans e.symm⟩
    have outF' : ∀ b, 0 < cnt b (fs.set i []) + cnt b gs → F' b = none ∧ H' b = H b := fun b z => by
      obtain ⟨z1, ⟨o, z2⟩, z3⟩ := oth b z
      have e1 : G1 b = some o := (G1in b z).trans z2
      exact ⟨(kagree b (by show G1 b ≠ none; rw [e1]; simp)).trans ((F1out b z3).trans z1), (kstay b o e1).trans z2.symm⟩
    obtain ⟨F2, hF2⟩ : ∃ F2 : Hp, F2 = fun b => if b ∈ f then none else F' b := ⟨_, rfl⟩
    have in2 : ∀ b ∈ f, F2 b = none := fun b z => by rw [hF2]; exact if_pos z
    have out2 : ∀ b, b ∉ f → F2 b = F' b := fun b z => by rw [hF2]; exact if_neg z
    have less : Less F' F2 := ⟨fun b o e => by
        by_cases z : b ∈ f
        · rw [in2 b z] at e; cases e
        · rw [out2 b z] at e; exact e, fun b o e => by
        by_cases z : b ∈ f
        · obtain ⟨ws, e', ho⟩ := fL b z
          rw [(inF' b z).1, e'] at e
          cases e; exact .inr ho
        · exact .inl (by rw [out2 b z]; exact e)⟩
    have sFF : Same F F2 := fun b o e => by
      have nb : b ∉ f := fun z => by rw [fF b z] at e; cases e
      rw [out2 b nb]
      exact sF b o (by rw [F1out b nb]; exact e)
    have all : ∀ {Z : List (V × D)} {kgs : List (List Addr)}, (∀ p ∈ Z, p.2.noLst = true) → HdR X.K F' H' Z kgs → HdR X.K F2 H' L gs → HdR X.K F2 H' (Z ++ L) (kgs ++ gs) := by
      intro Z kgs h r
      induction r with
      | nil => intro q; exact q
      | cons q r ih => intro q2; exact .cons (Rp.less less _ _ _ (h _ (List.mem_cons_self ..)) q) (ih (fun p hp => h p (List.mem_cons_of_mem _ hp)) q2)
    have keep : ∀ b, 0 < cnt b fs + cnt b gs → F2 b = none ∧ H' b = H b := fun b z => by
      by_cases hb : b ∈ f
      · exact ⟨in2 b hb, (inF' b hb).2⟩
      · have := List.count_eq_zero.mpr hb
        have := outF' b (by have := cs b; omega)
        exact ⟨(out2 b hb).trans this.1, this.2⟩
    refine ⟨F2, sFF, fun b o e => ksub b o (less.sub b o e), fun b o e => kstay b o (GG b o e).1, fun b z => ?_, shape, fs, kgs ++ gs, r1.mono sFF (fun b z => keep b (by omega)), all nZ k2 (r2.mono sFF fun b z => keep b (by omega)), fun a => ?_, fun a z => ?_⟩
    · cases e : fx.G b with
      | none => exact absurd e z
      | some o =>
        obtain ⟨e1, nb⟩ := GG b o e
        rw [out2 b nb, kagree b (by show G1 b ≠ none; rw [e1]; simp)]
        show F1 b = _
        rw [F1out b nb]
        exact agree b z
    · rw [cnt_append]
      have h1 := kc a
      have h2 := c a
      by_cases z : 0 < cnt a kgs
      · have n1 : ¬ 0 < cnt a (fs.set i []) + cnt a gs := fun y => by
          have e1 : G1 a = none := kg a (by omega)
          obtain ⟨_, ⟨o, e2⟩, _⟩ := oth a y
          rw [G1in a y, e2] at e1; cases e1
        have n2 : a ∉ f := fun y => by
          have e1 := (k2.foot a z).1
          obtain ⟨ws, e2, ho⟩ := fL a y
          rw [(inF' a y).1, e2] at e1; cases e1
        have := List.count_eq_zero.mpr n2
        have := cs a
        omega
      · omega
    · rw [cnt_append] at z
      by_cases y : 0 < cnt a fs + cnt a gs
      · exact g a y
      · have e1 : G1 a = none := kg a (by omega)
        have := cs a
        rw [G1out a (by omega)] at e1
        exact e1
  refine ⟨_, _, [], F1, _, _, sr1, he, fun x M1 v1 F' H' z s k => ?_, fun C M1 F' H' z s k => ?_⟩
  · obtain ⟨F2, a1, a2⟩ := back (Z := [(v1, x)]) (fun p hp => by rw [List.mem_singleton.mp hp]; exact z.1) s k
    exact hq x M v1 F2 H' z.2 a1 a2
  · obtain ⟨F2, a1, a2⟩ := back (Z := []) (fun p hp => nomatch hp) s k
    exact hx C M F2 H' z a1 a2
end TL
/-! # plain facts of the families of laws -/
namespace TL
open PySem PyProof.Rows L2
/-- a worth of small parts -/
def Wt12 (q : Rat) : Prop := 0 ≤ q ∧ q ≤ 1 ∧ q.den ≤ 10 ^ 12
theorem Wt12.num {q : Rat} (h : Wt12 q) : 0 ≤ q.num ∧ q.num ≤ (q.den : Int) := by
  obtain ⟨a, b, c⟩ := h
  exact ⟨Rat.num_nonneg.mpr a, (rat_le1 q).mp b⟩
theorem Wt12.qz {q : Rat} (h : Wt12 q) : Qz 45 q := by
  have := h.num
  have := h.2.2
  have e : (2 : Nat) ^ 45 = 35184372088832 := by decide
  unfold Qz Sz
  constructor <;> omega
theorem den_divInt {a b : Int} (hb : 0 < b) : ((Rat.divInt a b).den : Int) ≤ b := by
  have e := fr_rat (a := a) (b := b) (by omega)
  have h2 := fr_le2 (a := a) (b := b) (by omega)
  rw [e] at h2
  dsimp only at h2
  omega
theorem wt12_divInt {a b : Int} (h0 : 0 ≤ a) (h1 : a ≤ b) (hb : 0 < b) (h12 : b ≤ 10 ^ 12) : Wt12 (Rat.divInt a b) := by
  refine ⟨rat_div_nonneg h0 hb, rat_div_le1 hb h1, ?_⟩
  have := den_divInt (a := a) hb
  have e : (10 : Int) ^ 12 = ((10 ^ 12 : Nat) : Int) := by decide
  omega
theorem ix_int {l : List Int} {i : Int} (h0 : 0 ≤ i) (h1 : i < (l.length : Int)) : ∃ c : Int, ixl (l.map D.int) i = some (.int c) := by
  obtain ⟨k, rfl⟩ : ∃ k : Nat, i = (k : Int) := ⟨i.toNat, by omega⟩
  have hk : k < l.length := by omega
  exact ⟨l[k], by rw [ixl_nat, List.getElem?_map, List.getElem?_eq_getElem hk]; rfl⟩
/-- a book of small worths -/
def Bk12 (b : List (List Rat)) : Prop := ∀ r ∈ b, ∀ q ∈ r, Wt12 q
theorem sz45 {s : Int} (h0 : 0 ≤ s) (h1 : s ≤ 1000000000000) : Sz 45 s := by
  have e : (2 : Nat) ^ 45 = 35184372088832 := by decide
  unfold Sz
  omega
theorem rat_nd (t : Rat) : (t.num : Rat) = t * (t.den : Rat) := by
  have h2 : (t.den : Rat) ≠ 0 := by have := t.den_pos; simpa using (show t.den ≠ 0 by omega)
  have h1 := rat_self t
  rw [← Rat.div_mul_cancel h2 (a := (t.num : Rat)), h1]
theorem rat_dn (t : Rat) : (t.den : Rat) ≠ 0 := by have := t.den_pos; simpa using (show t.den ≠ 0 by omega)
theorem rat_step (t w q : Rat) : Rat.divInt (t.num * ((w.den : Int) * (q.den : Int)) + (w.num * q.num) * (t.den : Int)) ((t.den : Int) * ((w.den : Int) * (q.den : Int))) = t + w * q := by
  rw [Rat.divInt_eq_div]
  push_cast
  rw [rat_nd t, rat_nd w, rat_nd q]
  have := rat_dn t
  have := rat_dn w
  have := rat_dn q
  grind
/-- ahead of like ones: the same list -/
def gtQ (y x : Rat) : Bool := decide (x < y)
theorem gt_none {x : Rat} {f : List Rat} (h : ∀ y ∈ f, y ≤ x) : f.filter (fun y => gtQ y x) = [] := by
  rw [List.filter_eq_nil_iff]
  intro y hy
  unfold gtQ
  have := h y hy
  simp [Rat.not_lt.mpr this]
theorem insAt_cons {α : Type} (a : α) (l : List α) (k : Nat) (x : α) : insAt (a :: l) (k + 1) x = a :: insAt l k x := by unfold insAt; simp
theorem insAt_0 {α : Type} (l : List α) (x : α) : insAt l 0 x = x :: l := by unfold insAt; simp
theorem insGt : ∀ {f : List Rat} {x : Rat}, f.Pairwise (fun a b => geQ a b = true) → insBy gtQ f x = insBy geQ f x
  | [], x, _ => rfl
  | a :: f, x, h => by
    obtain ⟨h1, h2⟩ := List.pairwise_cons.mp h
    have ih := insGt (x := x) h2
    unfold insBy at ih ⊢
    rcases (Decidable.em (x < a)).imp_right Rat.not_lt.mp with g | g
    · have e1 : gtQ a x = true := by unfold gtQ; simpa using g
      have e2 : geQ a x = true := geQ_iff.mpr (Rat.le_of_lt g)
      simp only [List.filter_cons, e1, e2, if_true, List.length_cons, insAt_cons, ih]
    · have e1 : gtQ a x = false := by unfold gtQ; simpa [Rat.not_lt] using g
      have hf : ∀ y ∈ f, y ≤ x := fun y hy => Rat.le_trans (geQ_iff.mp (h1 y hy)) g
      rw [gt_none hf] at ih
      rw [gt_none (f := a :: f) (fun y hy => by rcases List.mem_cons.mp hy with rfl | hy; exact g; exact hf y hy)]
      cases e2 : geQ a x with
      | false =>
        have : f.filter (fun y => geQ y x) = [] := by
          rw [List.filter_eq_nil_iff]
          intro y hy hg
          rw [geQ_tot.tr _ _ _ (h1 y hy) hg] at e2
          cases e2
        simp only [List.filter_cons, e2, this, Bool.false_eq_true, if_false]
      | true =>
        have ea : a = x := Rat.le_antisymm g (geQ_iff.mp e2)
        subst ea
        simp only [List.filter_cons, e2, if_true, List.length_cons, insAt_cons, ← ih, List.length_nil, insAt_0]
theorem fold_sum_nn : ∀ (l : List (Rat × Rat)) (t : Rat), 0 ≤ t → (∀ p ∈ l, 0 ≤ p.1 ∧ 0 ≤ p.2) → 0 ≤ l.foldl (fun t p => t + p.1 * p.2) t
  | [], t, h, _ => h
  | p :: l, t, h, hl => fold_sum_nn l _ (Rat.add_nonneg h (Rat.mul_nonneg (hl p (List.mem_cons_self ..)).1 (hl p (List.mem_cons_self ..)).2)) fun q hq => hl q (List.mem_cons_of_mem _ hq)
theorem fold_mul_nn : ∀ (l : List Rat) (t : Rat), 0 ≤ t → (∀ p ∈ l, 0 ≤ p) → 0 ≤ l.foldl (fun t w => t * w) t
  | [], t, h, _ => h
  | p :: l, t, h, hl => fold_mul_nn l _ (Rat.mul_nonneg h (hl p (List.mem_cons_self ..))) fun q hq => hl q (List.mem_cons_of_mem _ hq)
theorem worthBy_nn {r : Rule} {l : List Rat} (h : Ru r l.length) (hl : ∀ q ∈ l, 0 ≤ q) (h1 : 1 ≤ l.length) : 0 ≤ worthBy r l := by
  cases hr' : r with
  | shares ws =>
    subst hr'
    exact fold_sum_nn _ _ (by decide) fun p hp => ⟨h.2 _ (List.of_mem_zip hp).1, hl _ (List.of_mem_zip hp).2⟩
  | product => exact fold_mul_nn _ _ (by decide) hl
  | _ =>
    rw [← hr']
    exact hl _ (worthBy_mid r l h h1 (by simp [hr']) (by simp [hr'])).2
theorem worthsOf_small {b : List (List Rat)} {m : Nat} {r : Rule} (h : Bk b m) (hw : Bk12 b) (hr : Ru r b.length) (hz : RuZ 45 r) : ∀ q ∈ worthsOf b r, Qz 850 q ∧ 0 ≤ q := by
  intro q hq
  unfold worthsOf at hq
  obtain ⟨j, hj, rfl⟩ := List.mem_map.mp hq
  rw [List.mem_range, h.things] at hj
  have e := col_length b j
  have l1 := h.l1
  have l4 := h.l4
  have hr' : Ru r (col b j).length := by rw [e]; exact hr
  have hc : ∀ q ∈ col b j, Wt12 q := fun q hq => by obtain ⟨row, hrow, hq⟩ := mem_col h hj hq; exact hw row hrow q hq
  refine ⟨Qz.mono (worthBy_qz hr' hz (fun q hq => (hc q hq).qz) (by omega)) ?_, worthBy_nn hr' (fun q hq => (hc q hq).1) (by omega)⟩
  have := Nat.mul_le_mul_right (45 + 45 + 1) (show (col b j).length ≤ 4 by omega)
  omega
theorem worthsOf_one (W : List Rat) : worthsOf [W] .least = W := by
  unfold worthsOf
  have e : thingsN [W] = W.length := rfl
  rw [e]
  refine List.ext_getElem (by simp) fun i h1 h2 => ?_
  rw [List.getElem_map, List.getElem_range]
  show (falling [W.getD i 0]).getD 0 0 = _
  have : falling [W.getD i 0] = [W.getD i 0] := rfl
  rw [this, List.getD_eq_getElem?_getD (l := W), List.getElem?_eq_getElem h2]; rfl
theorem ixl_all {l : List D} {j : Int} {P : D → Prop} (hP : ∀ d ∈ l, P d) (h0 : 0 ≤ j) (h1 : j < l.length) : ∃ d, ixl l j = some d ∧ P d := by
  obtain ⟨d, h, hm⟩ := ixl_mem h0 h1
  exact ⟨d, h, hP d hm⟩
theorem getO_all {l : List D} {n : Nat} {k : Int} {K : D → Prop} (h : l.all (fun d => pdB 8 d && !isRuleD d n) = true) (h0 : 0 ≤ k) (h1 : k < (l.length : Int)) (hk : ∀ d, PD 8 d → isRuleD d n = false → K d) : getO (ixl l k) K := by
  obtain ⟨d, e, hm⟩ := ixl_mem h0 h1
  have := List.all_eq_true.mp h d hm
  simp only [Bool.and_eq_true, Bool.not_eq_true'] at this
  exact getO_eq e (hk d (pdB_ok this.1) this.2)
theorem nbk {c : List (List Rat)} (h : ∀ m, ¬ Bk c m) : isBookD (bkL c) = false := by
  cases e : isBookD (bkL c) with
  | false => rfl
  | true =>
    obtain ⟨b, m, e2, hb⟩ := isBookD_iff.mp e
    rw [bkL_inj e2] at h
    exact absurd hb (h m)
theorem nbk_hd {d : D} {l : List D} (h : ∀ r : List Rat, d ≠ qL r) : isBookD (.lst (d :: l)) = false := by
  cases e : isBookD (.lst (d :: l)) with
  | false => rfl
  | true =>
    obtain ⟨b, m, e2, hb⟩ := isBookD_iff.mp e
    cases b with
    | nil => have := hb.l1; simp at this
    | cons r b =>
      unfold bkL at e2
      rw [List.map_cons] at e2
      simp only [D.lst.injEq, List.cons.injEq] at e2
      exact absurd e2.1 (h r)
theorem nbk_mem {o : D} {N L : List D} (h : isWorthD o = false) (ho : o ∈ N) (hN : D.lst N ∈ L) : isBookD (.lst L) = false := by
  cases e : isBookD (.lst L) with
  | false => rfl
  | true =>
    obtain ⟨b, m, e2, hb⟩ := isBookD_iff.mp e
    unfold bkL at e2
    simp only [D.lst.injEq] at e2
    rw [e2] at hN
    obtain ⟨r, hr, er⟩ := List.mem_map.mp hN
    unfold qL at er
    simp only [D.lst.injEq] at er
    rw [← er] at ho
    obtain ⟨q, hq, rfl⟩ := List.mem_map.mp ho
    have := isWorthD_iff.mpr ⟨q, rfl, hb.wts r hr q hq⟩
    rw [this] at h; cases h
/-! rising worths -/
def leQ (a b : Rat) : Bool := decide (a ≤ b)
theorem leQ_tot : TotGe leQ where
  tot a b := by unfold leQ; simp; exact Rat.le_total
  tr a b c h1 h2 := by unfold leQ at *; simp at *; exact Rat.le_trans h1 h2
section
variable {α : Type} {ge : α → α → Bool}
/-- ahead of like ones: still in order -/
theorem insBy_strict (T : TotGe ge) {f : List α} (hs : f.Pairwise (fun a b => ge a b = true)) (x : α) : (insBy (fun y x => !ge x y) f x).Pairwise (fun a b => ge a b = true) := by
  have hf : f.filter (fun y => !ge x y) = f.takeWhile (fun y => !ge x y) := filter_takeWhile fun i j hj hi hp => by
    have h1 := List.pairwise_iff_getElem.mp hs i j (by omega) hj hi
    cases e : ge x f[i] with
    | false => rfl
    | true =>
      have := T.tr _ _ _ e h1
      rw [this] at hp; cases hp
  unfold insBy insAt
  rw [hf, take_takeWhile, drop_takeWhile, List.append_assoc, List.singleton_append]
  have e : f.takeWhile (fun y => !ge x y) ++ f.dropWhile (fun y => !ge x y) = f := List.takeWhile_append_dropWhile
  rw [← e] at hs
  obtain ⟨h1, h2, h3⟩ := List.pairwise_append.mp hs
  have hx : ∀ y ∈ f.dropWhile (fun y => !ge x y), ge x y = true := by
    intro y hy
    cases hd : f.dropWhile (fun y => !ge x y) with
    | nil => rw [hd] at hy; cases hy
    | cons z r =>
      have hz : (!ge x z) = false := dropWhile_head (p := fun y => !ge x y) hd
      have hxz : ge x z = true := by simpa using hz
      rw [hd] at hy h2
      rcases List.mem_cons.mp hy with rfl | hy
      · exact hxz
      · exact T.tr _ _ _ hxz ((List.pairwise_cons.mp h2).1 y hy)
  refine List.pairwise_append.mpr ⟨h1, List.pairwise_cons.mpr ⟨hx, h2⟩, ?_⟩
  intro a ha b hb
  rcases List.mem_cons.mp hb with rfl | hb
  · have h := List.all_takeWhile (p := fun y => !ge b y) (l := f)
    have h5 := List.all_eq_true.mp h a ha
    exact (T.tot a b).resolve_right (by simpa using h5)
  · exact h3 a ha b hb
theorem foldl_strict (T : TotGe ge) : ∀ (l f : List α), f.Pairwise (fun a b => ge a b = true) → (l.foldl (insBy fun y x => !ge x y) f).Pairwise (fun a b => ge a b = true)
  | [], _, h => h
  | x :: l, f, h => foldl_strict T l _ (insBy_strict T h x)
end
def rising (l : List Rat) : List Rat := l.foldl (insBy fun y x => !leQ x y) []
theorem rising_eq (l : List Rat) : rising l = (falling l).reverse := by
  have h1 : (rising l).Pairwise (fun a b => leQ a b = true) := foldl_strict leQ_tot l [] .nil
  have h2 : (falling l).reverse.Pairwise (fun a b => leQ a b = true) := by
    rw [List.pairwise_reverse]
    exact (falling_sorted l).imp fun h => by unfold leQ; have := geQ_iff.mp h; simpa using this
  have p1 : (rising l).Perm l := by have := foldl_insBy_perm (fun y x => !leQ x y) l []; rwa [List.nil_append] at this
  refine List.Perm.eq_of_pairwise (fun a b _ _ h1 h2 => ?_) h1 h2 (p1.trans ((falling_perm l).symm.trans (List.reverse_perm _).symm))
  unfold leQ at h1 h2
  exact Rat.le_antisymm (by simpa using h1) (by simpa using h2)
theorem leQ_not (x y : Rat) : (!leQ x y) = decide (y < x) := by unfold leQ; rw [← decide_not, decide_eq_decide, Rat.not_le]
def seenM (s : List (List (Option Rat))) : D := .own (s.map rowD)
theorem noOwns_rowD (s : List (List (Option Rat))) : D.noOwns (s.map rowD) = true := noOwns_map rowD (fun _ => rfl) s
theorem frz_seenM (s : List (List (Option Rat))) : (seenM s).frz = seenD s := frz_ownN _ (noOwns_rowD s)
theorem range_at {n : Nat} {pre : List Nat} {k : Nat} {suf : List Nat} (e : List.range n = pre ++ k :: suf) : k = pre.length ∧ k < n := by
  have h1 : (List.range n)[pre.length]? = some k := by rw [e, List.getElem?_append_right (Nat.le_refl _), Nat.sub_self]; rfl
  obtain ⟨h2, h3⟩ := List.getElem?_eq_some_iff.mp h1
  rw [List.getElem_range] at h3
  rw [List.length_range] at h2
  omega
end TL
/-! # frozen trees are the same data; what is seen, as own lists; reversed books -/
namespace TL
open PySem PyProof.Rows L2
mutual
theorem toP_frz : ∀ d : D, d.frz.toP = d.toP
  | .non => rfl
  | .bl _ => rfl
  | .int _ => rfl
  | .str _ => rfl
  | .lst _ => rfl
  | .exc _ => rfl
  | .scr _ => rfl
  | .cls _ => rfl
  | .ty _ => rfl
  | .obj _ _ _ => rfl
  | .fob _ _ _ => rfl
  | .tup l => by rw [frz_tup]; unfold D.toP; rw [toPs_frz l]
  | .own l => by rw [frz_own]; unfold D.toP; rw [toPs_frz l]
theorem toPs_frz : ∀ l : List D, D.toPs (D.frzs l) = D.toPs l
  | [] => rfl
  | d :: l => by rw [frzs_cons]; unfold D.toPs; rw [toP_frz d, toPs_frz l]
end
theorem eqv_frz (x y : D) : D.eqv x.frz y.frz = D.eqv x y := by unfold D.eqv; rw [toP_frz, toP_frz]
theorem mem_frzs : ∀ {l : List D} {d : D}, d ∈ l → d.frz ∈ D.frzs l
  | x :: l, d, h => by
    rw [frzs_cons]
    rcases List.mem_cons.mp h with rfl | h
    · exact List.mem_cons_self ..
    · exact List.mem_cons_of_mem _ (mem_frzs h)
theorem okD_frz : ∀ {n : Nat} {d : D}, okD n d.frz → okD n d
  | 0, .non, h => h
  | 0, .bl _, h => h
  | 0, .int _, h => h
  | 0, .str _, h => h
  | 0, .lst _, h => h
  | 0, .exc _, h => h
  | 0, .scr _, h => h
  | 0, .cls _, h => h
  | 0, .ty _, h => h
  | 0, .obj _ _ _, h => h.elim
  | 0, .fob _ _ _, h => h.elim
  | 0, .tup _, h => h.elim
  | 0, .own _, h => h.elim
  | n + 1, .non, h => h
  | n + 1, .bl _, h => h
  | n + 1, .int _, h => h
  | n + 1, .str _, h => h
  | n + 1, .lst _, h => h
  | n + 1, .exc _, h => h
  | n + 1, .scr _, h => h
  | n + 1, .cls _, h => h
  | n + 1, .ty _, h => h
  | n + 1, .obj _ _ _, h => h.elim
  | n + 1, .fob _ _ _, h => h.elim
  | n + 1, .tup l, h => by
    rw [frz_tup] at h
    exact fun d hd => okD_frz (h _ (mem_frzs hd))
  | n + 1, .own l, h => by
    rw [frz_own] at h
    exact fun d hd => okD_frz (h _ (mem_frzs hd))
theorem eq_frz {x y d : D} (hx : x.frz = d) (hy : y.frz = d) (ok : okD 8 d) : eqOk x y ∧ D.eqv x y = true := by
  refine ⟨⟨okD_frz (by rw [hx]; exact ok), okD_frz (by rw [hy]; exact ok)⟩, ?_⟩
  rw [← eqv_frz, hx, hy]
  exact eqv_self d ok
theorem okD_oD (n : Nat) (o : Option Rat) : okD (n + 1) (oD o) := by
  cases o with
  | none => trivial
  | some q => exact okD_qD q n
theorem okD_rowD (n : Nat) (r : List (Option Rat)) : okD (n + 2) (rowD r) := by unfold rowD okD; exact okD_map (fun o => okD_oD n o) r
theorem okD_seenD (n : Nat) (s : List (List (Option Rat))) : okD (n + 3) (seenD s) := by unfold seenD okD; exact okD_map (fun r => okD_rowD n r) s
theorem okD_t2 {n : Nat} {x y : D} (hx : okD n x) (hy : okD n y) : okD (n + 1) (.tup [x, y]) := by
  unfold okD
  intro d hd
  simp only [List.mem_cons, List.not_mem_nil, or_false] at hd
  rcases hd with rfl | rfl <;> assumption
theorem okD_2 {n : Nat} {x y : D} (hx : okD n x) (hy : okD n y) : okD (n + 1) (.lst [x, y]) := by
  unfold okD
  intro d hd
  simp only [List.mem_cons, List.not_mem_nil, or_false] at hd
  rcases hd with rfl | rfl <;> assumption
theorem okD_looksD (n : Nat) (ds : List Nat) (as : List (Nat × Nat)) : okD (n + 3) (looksD ds as) := by
  unfold looksD
  exact okD_t2 (okD_nL (n + 1) ds) (okD_prL n as)
/-- looks, all one's own -/
def looksO (ds : List Nat) (as : List (Nat × Nat)) : D := .tup [.own (nL ds), .own (as.map prD)]
theorem frz_looksO (ds : List Nat) (as : List (Nat × Nat)) : (looksO ds as).frz = looksD ds as := by
  unfold looksO looksD
  rw [frz_tup, frzs_cons, frzs_cons, frzs_nil, frz_own_nL, frz_ownN _ (noOwns_prL as)]
theorem frz_lst2 {x y a b : D} (hx : x.frz = a) (hy : y.frz = b) : (D.own [x, y]).frz = .lst [a, b] := by rw [frz_own, frzs_cons, frzs_cons, frzs_nil, hx, hy]
theorem noLst_oD (o : Option Rat) : (oD o).noLst = true := by cases o <;> rfl
theorem noLst_rowO (r : List (Option Rat)) : (rowO r).noLst = true := noLsts_map oD noLst_oD r
theorem noLst_seenO (s : List (List (Option Rat))) : (seenO s).noLst = true := noLsts_map rowO noLst_rowO s
theorem noLst_bounds (bs : List (Rat × Rat)) : (D.own (bs.map qqD)).noLst = true := noLsts_map qqD (fun _ => rfl) bs
/-- every row turned about -/
def revB (b : List (List Rat)) : List (List Rat) := b.map List.reverse
theorem revB_length (b : List (List Rat)) : (revB b).length = b.length := List.length_map ..
theorem Bk.revB {b : List (List Rat)} {m : Nat} (h : Bk b m) : Bk (revB b) m := by
  refine ⟨by rw [revB_length]; exact h.l1, by rw [revB_length]; exact h.l4, h.m1, h.m12, fun r hr => ?_, fun r hr => ?_⟩
  · obtain ⟨x, hx, rfl⟩ := List.mem_map.mp hr
    rw [List.length_reverse]; exact h.len x hx
  · obtain ⟨x, hx, rfl⟩ := List.mem_map.mp hr
    exact fun q hq => h.wts x hx q (List.mem_reverse.mp hq)
theorem BkZ.revB {b : List (List Rat)} {n : Nat} (h : BkZ n b) : BkZ n (revB b) := by
  intro r hr
  obtain ⟨x, hx, rfl⟩ := List.mem_map.mp hr
  exact fun q hq => h x hx q (List.mem_reverse.mp hq)
theorem revRows_revB (b : List (List Rat)) : revRows (b.map qO) = some ((revB b).map qO) := revRows_map b
theorem room_line {k : Nat} {A : Around} (hr : Room k A) : A.units < cLine := by have := hr.un; omega
theorem room_line65 {k : Nat} {A : Around} (hr : Room k A) : A.units + 65 < cLine := by have := hr.un; omega
end TL
/-! # bounds: what lies between, what more looks do, who is sure -/
namespace TL
open PySem PyProof.Rows L2
def rowAt (b : List (List Rat)) (k : Nat) : List Rat := b.getD k []
/-- is the worth of thing j in list k known -/
def knownB (b : List (List Rat)) (ds : List Nat) (ps : List (Nat × Nat)) (k j : Nat) : Prop := j ∈ readL (b.getD k []) (ds.getD k 0) ∨ (k, j) ∈ ps
instance (b : List (List Rat)) (ds : List Nat) (ps : List (Nat × Nat)) (k j : Nat) : Decidable (knownB b ds ps k j) := by unfold knownB; infer_instance
def lowAt (b : List (List Rat)) (ds : List Nat) (ps : List (Nat × Nat)) (k j : Nat) : Rat := if knownB b ds ps k j then wt (b.getD k []) j else 0
def highAt (b : List (List Rat)) (ds : List Nat) (ps : List (Nat × Nat)) (k j : Nat) : Rat := if knownB b ds ps k j then wt (b.getD k []) j else lastW (b.getD k []) (ds.getD k 0)
theorem seenOf_at {b : List (List Rat)} {ds : List Nat} {ps : List (Nat × Nat)} (hd : ds.length = b.length) {k j : Nat} (hk : k < b.length) (hj : j < (b.getD k []).length) :
    ((seenOf b ds ps).getD k []).getD j none = if knownB b ds ps k j then some (wt (b.getD k []) j) else none := by
  have h1 := seenOf_length b ds ps hd
  have h2 := readLines_length b ds hd
  have e : (seenOf b ds ps).getD k [] = seenRow (readL (b.getD k []) (ds.getD k 0)) k ps (b.getD k []) := by
    rw [List.getD_eq_getElem?_getD, List.getElem?_eq_getElem (by omega)]
    unfold seenOf
    simp only [List.getElem_map, List.getElem_zipIdx, Nat.zero_add, Option.getD_some]
    unfold readLines
    simp only [List.getElem_map, List.getElem_zip]
    rw [List.getD_eq_getElem?_getD (l := b), List.getElem?_eq_getElem hk, List.getD_eq_getElem?_getD (l := ds), List.getElem?_eq_getElem (by omega)]
    rfl
  rw [e, List.getD_eq_getElem?_getD, List.getElem?_eq_getElem (by rw [seenRow_length]; exact hj)]
  unfold seenRow
  simp only [List.getElem_map, List.getElem_zipIdx, Nat.zero_add, Option.getD_some]
  unfold knownB wt
  rw [List.getD_eq_getElem?_getD (l := b.getD k []) (i := j), List.getElem?_eq_getElem hj]
  rfl
theorem filled_at {b : List (List Rat)} {m : Nat} (hb : Bk b m) {ds : List Nat} {ps : List (Nat × Nat)} (hd : ds.length = b.length) {j : Nat} (hj : j < m) {os : List Rat} (ho : os.length = b.length) :
    filled (colO (seenOf b ds ps) j) os = (List.range b.length).map fun k => if knownB b ds ps k j then wt (b.getD k []) j else os.getD k 0 := by
  have h1 := seenOf_length b ds ps hd
  unfold filled colO
  apply List.ext_getElem
  · rw [List.length_map, List.length_zip, List.length_map, List.length_map, List.length_range]; omega
  · intro k h2 h3
    rw [List.length_map, List.length_range] at h3
    simp only [List.getElem_map, List.getElem_zip, List.getElem_range]
    have := seenOf_at (ps := ps) hd h3 (j := j) (by rw [hb.len _ (getD_mem h3)]; exact hj)
    rw [List.getD_eq_getElem?_getD (l := seenOf b ds ps), List.getElem?_eq_getElem (by omega), Option.getD_some] at this
    rw [this, List.getD_eq_getElem?_getD (l := os), List.getElem?_eq_getElem (by omega), Option.getD_some]
    split <;> rfl
theorem seenOf_head {b : List (List Rat)} {m : Nat} (hb : Bk b m) {ds : List Nat} {ps : List (Nat × Nat)} (hd : ds.length = b.length) : ((seenOf b ds ps).headD []).length = m := by
  have h1 := seenOf_length b ds ps hd
  have h2 := seenOf_rows (as := ps) hb hd
  cases e : seenOf b ds ps with
  | nil => rw [e] at h1; have := hb.l1; simp at h1; omega
  | cons x s => exact h2 x (by rw [e]; exact List.mem_cons_self ..)
theorem boundsOf_eq {b : List (List Rat)} {m : Nat} (hb : Bk b m) (r : Rule) {ds : List Nat} (ps : List (Nat × Nat)) (hd : ds.length = b.length) :
    boundsOf b r ds ps = (List.range m).map fun j => (worthBy r ((List.range b.length).map fun k => lowAt b ds ps k j), worthBy r ((List.range b.length).map fun k => highAt b ds ps k j)) := by
  have h1 := seenOf_length b ds ps hd
  unfold boundsOf boundsBy
  rw [seenOf_head hb hd]
  refine List.map_congr_left fun j hj => ?_
  have hj := List.mem_range.mp hj
  rw [filled_at hb hd hj (by rw [List.length_map]; exact h1), filled_at hb hd hj (lastOf_length b ds hd)]
  refine Prod.ext (congrArg (worthBy r) (List.map_congr_left fun k hk => ?_)) (congrArg (worthBy r) (List.map_congr_left fun k hk => ?_))
  · have hk := List.mem_range.mp hk
    unfold lowAt
    split
    · rfl
    · rw [List.getD_eq_getElem?_getD, List.getElem?_map, List.getElem?_eq_getElem (by omega)]; rfl
  · have hk := List.mem_range.mp hk
    unfold highAt
    split
    · rfl
    · unfold lastOf
      rw [List.getD_eq_getElem?_getD, List.getElem?_map, List.getElem?_eq_getElem (by rw [List.length_zip]; omega)]
      simp only [List.getElem_zip, Option.map_some, Option.getD_some]
      rw [List.getD_eq_getElem?_getD (l := b), List.getElem?_eq_getElem hk, List.getD_eq_getElem?_getD (l := ds), List.getElem?_eq_getElem (by omega)]
      rfl
theorem boundsOf_length {b : List (List Rat)} {m : Nat} (hb : Bk b m) (r : Rule) {ds : List Nat} (ps : List (Nat × Nat)) (hd : ds.length = b.length) : (boundsOf b r ds ps).length = m := by
  rw [boundsOf_eq hb r ps hd, List.length_map, List.length_range]
theorem bnd_boundsOf {b : List (List Rat)} {m : Nat} (hb : Bk b m) (r : Rule) {ds : List Nat} (ps : List (Nat × Nat)) (hd : ds.length = b.length) {j : Nat} (hj : j < m) :
    bnd (boundsOf b r ds ps) j = (worthBy r ((List.range b.length).map fun k => lowAt b ds ps k j), worthBy r ((List.range b.length).map fun k => highAt b ds ps k j)) := by
  rw [bnd, boundsOf_eq hb r ps hd, List.getD_eq_getElem?_getD, List.getElem?_map, List.getElem?_range hj]; rfl
/-! the read ones are the worthiest -/
theorem pairwise_take_drop {α : Type} {R : α → α → Prop} {l : List α} (h : l.Pairwise R) (d : Nat) {x y : α} (hx : x ∈ l.take d) (hy : y ∈ l.drop d) : R x y := by
  rw [← List.take_append_drop d l] at h
  exact (List.pairwise_append.mp h).2.2 x hx y hy
theorem mem_take_or {α : Type} {l : List α} {x : α} (d : Nat) (h : x ∈ l) : x ∈ l.take d ∨ x ∈ l.drop d := by
  rw [← List.take_append_drop d l] at h
  exact List.mem_append.mp h
theorem befQ_le {r : List Rat} {i j : Nat} (h : befQ r i j) : wt r j ≤ wt r i := by
  rcases h with h | h
  · exact Rat.le_of_lt h
  · rw [h.1]; exact Rat.le_refl
theorem lastW_ge {r : List Rat} (hr : Wts r) {d j : Nat} (hj : j < r.length) (hn : j ∉ readL r d) : wt r j ≤ lastW r d := by
  unfold lastW
  split
  · exact (hr _ (wt_mem hj)).2
  · rename_i t e
    have ht : t ∈ (orderOf r).take d := List.mem_of_getLast? e
    exact befQ_le (pairwise_take_drop (orderOf_bef r) d ht ((mem_take_or d (mem_orderOf.mpr hj)).resolve_left hn))
theorem lastW_anti {r : List Rat} (hr : Wts r) {d e : Nat} (h : d ≤ e) : lastW r e ≤ lastW r d := by
  unfold lastW
  cases hd : (readL r d).getLast? with
  | none =>
    simp only
    split
    · exact Rat.le_refl
    · rename_i t et
      exact (hr _ (wt_mem (readL_mem (List.mem_of_getLast? et)))).2
  | some s =>
    simp only
    have hs : s ∈ (orderOf r).take d := List.mem_of_getLast? hd
    split
    · rename_i et
      have : (readL r e) = [] := List.getLast?_eq_none_iff.mp et
      have h2 : s ∈ readL r e := List.take_subset_take_left _ h hs
      rw [this] at h2; cases h2
    · rename_i t et
      have ht : t ∈ (orderOf r).take e := List.mem_of_getLast? et
      rcases mem_take_or d (List.mem_of_mem_take ht) with h3 | h3
      · -- t among the first d: then it is the last there too
        by_cases hst : s = t
        · rw [hst]; exact Rat.le_refl
        · -- the last of the first e lies among the first d: e = d or the list ends
          have l1 : (readL r e).getLast? = (orderOf r)[min e (orderOf r).length - 1]? := by
            unfold readL
            rw [List.getLast?_eq_getElem?, List.length_take, List.getElem?_take]
            split
            · rfl
            · rename_i hh
              have : (readL r e) ≠ [] := by intro h0; rw [h0] at et; cases et
              have : 0 < (readL r e).length := List.length_pos_iff.mpr this
              unfold readL at this
              rw [List.length_take] at this
              omega
          have l2 : (readL r d).getLast? = (orderOf r)[min d (orderOf r).length - 1]? := by
            unfold readL
            rw [List.getLast?_eq_getElem?, List.length_take, List.getElem?_take]
            split
            · rfl
            · rename_i hh
              have : (readL r d) ≠ [] := by intro h0; rw [h0] at hd; cases hd
              have : 0 < (readL r d).length := List.length_pos_iff.mpr this
              unfold readL at this
              rw [List.length_take] at this
              omega
          rw [l1] at et
          rw [l2] at hd
          obtain ⟨g1, g2⟩ := List.getElem?_eq_some_iff.mp et
          obtain ⟨g3, g4⟩ := List.getElem?_eq_some_iff.mp hd
          have := List.pairwise_iff_getElem.mp (orderOf_bef r) (min d (orderOf r).length - 1) (min e (orderOf r).length - 1) g3 g1
          by_cases hlt : min d (orderOf r).length - 1 < min e (orderOf r).length - 1
          · have := this hlt
            rw [g2, g4] at this
            exact befQ_le this
          · exfalso
            apply hst
            have : min d (orderOf r).length - 1 = min e (orderOf r).length - 1 := by omega
            rw [← g2, ← g4]
            simp only [this]
      · exact befQ_le (pairwise_take_drop (orderOf_bef r) d hs h3)
theorem lastW_nn {r : List Rat} (hr : Wts r) (d : Nat) : 0 ≤ lastW r d ∧ lastW r d ≤ 1 := by
  rcases lastW_mem (r := r) (d := d) with e | e
  · rw [e]; exact ⟨by decide, Rat.le_refl⟩
  · exact hr _ e
/-! between -/
section
variable {b : List (List Rat)} {m : Nat} (hb : Bk b m) {ds ds' : List Nat} {ps ps' : List (Nat × Nat)} {k j : Nat}
include hb
theorem wtAt_ok (hk : k < b.length) (hj : j < m) : 0 ≤ wt (b.getD k []) j ∧ wt (b.getD k []) j ≤ 1 :=
  hb.wts _ (getD_mem hk) _ (wt_mem (by rw [hb.len _ (getD_mem hk)]; exact hj))
theorem lowAt_le (hk : k < b.length) (hj : j < m) : 0 ≤ lowAt b ds ps k j ∧ lowAt b ds ps k j ≤ wt (b.getD k []) j := by
  have := wtAt_ok hb hk hj
  unfold lowAt
  split
  · exact ⟨this.1, Rat.le_refl⟩
  · exact ⟨Rat.le_refl, this.1⟩
theorem highAt_ge (hk : k < b.length) (hj : j < m) : wt (b.getD k []) j ≤ highAt b ds ps k j := by
  unfold highAt
  split
  · exact Rat.le_refl
  · rename_i h
    unfold knownB at h
    exact lastW_ge (hb.wts _ (getD_mem hk)) (by rw [hb.len _ (getD_mem hk)]; exact hj) (fun x => h (.inl x))
/-- more looks: more is known -/
def MoreL (l : Nat) (ds ds' : List Nat) (ps ps' : List (Nat × Nat)) : Prop := (∀ k, k < l → ds.getD k 0 ≤ ds'.getD k 0) ∧ ∀ p ∈ ps, p ∈ ps'
omit hb in
theorem known_more (h : MoreL b.length ds ds' ps ps') (hk : k < b.length) (hn : knownB b ds ps k j) : knownB b ds' ps' k j := by
  rcases hn with hn | hn
  · exact .inl (List.take_subset_take_left _ (h.1 k hk) hn)
  · exact .inr (h.2 _ hn)
theorem lowAt_more (h : MoreL b.length ds ds' ps ps') (hk : k < b.length) (hj : j < m) : lowAt b ds ps k j ≤ lowAt b ds' ps' k j := by
  unfold lowAt
  split
  · rename_i h1
    rw [if_pos (known_more h hk h1)]; exact Rat.le_refl
  · split
    · exact (wtAt_ok hb hk hj).1
    · exact Rat.le_refl
theorem highAt_more (h : MoreL b.length ds ds' ps ps') (hk : k < b.length) (hj : j < m) : highAt b ds' ps' k j ≤ highAt b ds ps k j := by
  by_cases h1 : knownB b ds ps k j
  · unfold highAt
    rw [if_pos h1, if_pos (known_more h hk h1)]; exact Rat.le_refl
  · by_cases h2 : knownB b ds' ps' k j
    · have : highAt b ds' ps' k j = wt (b.getD k []) j := by unfold highAt; rw [if_pos h2]
      rw [this]
      exact highAt_ge hb hk hj
    · unfold highAt
      rw [if_neg h1, if_neg h2]
      exact lastW_anti (hb.wts _ (getD_mem hk)) (h.1 k hk)
theorem col_range (hj : j < m) : col b j = (List.range b.length).map fun k => wt (b.getD k []) j := by
  unfold col
  apply List.ext_getElem
  · simp
  · intro k h1 h2
    rw [List.length_map] at h1
    simp only [List.getElem_map, List.getElem_range]
    rw [wt, List.getD_eq_getElem?_getD (l := b), List.getElem?_eq_getElem h1]; rfl
omit hb in
theorem zip_map_le {f g : Nat → Rat} {n : Nat} (h : ∀ k, k < n → f k ≤ g k) : ∀ p ∈ ((List.range n).map f).zip ((List.range n).map g), p.1 ≤ p.2 := by
  intro p hp
  rw [List.zip_map'] at hp
  obtain ⟨k, hk, rfl⟩ := List.mem_map.mp hp
  exact h k (List.mem_range.mp hk)
omit hb in
theorem worthBy_range {r : Rule} {f g : Nat → Rat} {n : Nat} (hr : Ru r n) (h1 : 1 ≤ n) (h0 : ∀ k, k < n → 0 ≤ f k) (h : ∀ k, k < n → f k ≤ g k) : worthBy r ((List.range n).map f) ≤ worthBy r ((List.range n).map g) :=
  worthBy_mono (by rw [List.length_map, List.length_range]; exact hr) (by simpa using h1) (by simp) (zip_map_le h) fun q hq => by
    obtain ⟨k, hk, rfl⟩ := List.mem_map.mp hq
    exact h0 k (List.mem_range.mp hk)
variable {r : Rule} (hr : Ru r b.length)
include hr
theorem own_between (hd : ds.length = b.length) (hj : j < m) : (bnd (boundsOf b r ds ps) j).1 ≤ worthBy r (col b j) ∧ worthBy r (col b j) ≤ (bnd (boundsOf b r ds ps) j).2 := by
  rw [bnd_boundsOf hb r ps hd hj, col_range hb hj]
  exact ⟨worthBy_range hr hb.l1 (fun k hk => (lowAt_le hb hk hj).1) fun k hk => (lowAt_le hb hk hj).2, worthBy_range hr hb.l1 (fun k hk => (wtAt_ok hb hk hj).1) fun k hk => highAt_ge hb hk hj⟩
theorem bounds_le (hd : ds.length = b.length) (hj : j < m) : (bnd (boundsOf b r ds ps) j).1 ≤ (bnd (boundsOf b r ds ps) j).2 :=
  Rat.le_trans (own_between hb hr hd hj).1 (own_between hb hr hd hj).2
theorem bounds_nn (hd : ds.length = b.length) (hj : j < m) : 0 ≤ (bnd (boundsOf b r ds ps) j).1 := by
  rw [bnd_boundsOf hb r ps hd hj]
  refine worthBy_nn (by rw [List.length_map, List.length_range]; exact hr) (fun q hq => ?_) (by simpa using hb.l1)
  obtain ⟨k, hk, rfl⟩ := List.mem_map.mp hq
  exact (lowAt_le hb (List.mem_range.mp hk) hj).1
theorem bounds_more (h : MoreL b.length ds ds' ps ps') (hd : ds.length = b.length) (hd' : ds'.length = b.length) (hj : j < m) :
    (bnd (boundsOf b r ds ps) j).1 ≤ (bnd (boundsOf b r ds' ps') j).1 ∧ (bnd (boundsOf b r ds' ps') j).2 ≤ (bnd (boundsOf b r ds ps) j).2 := by
  rw [bnd_boundsOf hb r ps hd hj, bnd_boundsOf hb r ps' hd' hj]
  exact ⟨worthBy_range hr hb.l1 (fun k hk => (lowAt_le hb hk hj).1) fun k hk => lowAt_more hb h hk hj,
    worthBy_range hr hb.l1 (fun k hk => Rat.le_trans (wtAt_ok hb hk hj).1 (highAt_ge hb hk hj)) fun k hk => highAt_more hb h hk hj⟩
omit hr in
/-- all read -/
theorem bounds_full (hd : ds.length = b.length) (hf : ∀ k, k < b.length → m ≤ ds.getD k 0) (hj : j < m) : bnd (boundsOf b r ds ps) j = (worthBy r (col b j), worthBy r (col b j)) := by
  rw [bnd_boundsOf hb r ps hd hj, col_range hb hj]
  have kn : ∀ k, k < b.length → knownB b ds ps k j := fun k hk => .inl (by
    unfold readL
    have hl := hb.len _ (getD_mem (d := []) hk)
    rw [List.take_of_length_le (by rw [orderOf_length, hl]; exact hf k hk)]
    exact mem_orderOf.mpr (by omega))
  refine Prod.ext (congrArg (worthBy r) (List.map_congr_left fun k hk => ?_)) (congrArg (worthBy r) (List.map_congr_left fun k hk => ?_))
  · unfold lowAt; rw [if_pos (kn k (List.mem_range.mp hk))]
  · unfold highAt; rw [if_pos (kn k (List.mem_range.mp hk))]
end
/-! who is sure -/
theorem aheadB_tot {bs : List (Rat × Rat)} {i j : Nat} (h : i ≠ j) : aheadB bs i j = !aheadB bs j i := by
  unfold aheadB
  by_cases h1 : (bnd bs i).1 = (bnd bs j).1
  · rw [if_pos h1, if_pos h1.symm]
    by_cases h2 : (bnd bs i).2 = (bnd bs j).2
    · rw [if_pos h2, if_pos h2.symm, ← decide_not, decide_eq_decide]; omega
    · rw [if_neg h2, if_neg (fun e => h2 e.symm), ← decide_not, decide_eq_decide]; grind
  · rw [if_neg h1, if_neg (fun e => h1 e.symm), ← decide_not, decide_eq_decide]; grind
theorem aheadB_irr (bs : List (Rat × Rat)) (i : Nat) : aheadB bs i i = false := by unfold aheadB; simp
theorem aheadB_tr {bs : List (Rat × Rat)} {i j k : Nat} (h1 : aheadB bs i j = true) (h2 : aheadB bs j k = true) : aheadB bs i k = true := by
  unfold aheadB at *
  generalize (bnd bs i) = p at *
  generalize (bnd bs j) = q at *
  generalize (bnd bs k) = s at *
  split at h1 <;> split at h2 <;> (try split at h1) <;> (try split at h2) <;> simp only [decide_eq_true_eq] at h1 h2 <;> (repeat' split) <;> simp only [decide_eq_true_eq] <;> grind
theorem ruz_up {n m : Nat} {r : Rule} (h : RuZ n r) (hm : n ≤ m) : RuZ m r := by
  cases r with
  | shares ws => exact fun w hw => (show Qz n w from h w hw).mono hm
  | _ => trivial
end TL
/-! # shifts; the order of those that are sure -/
namespace TL
open PySem PyProof.Rows L2
section
variable {X : Cx} {W : WX} {a b : Expr} {pos : Pos} {ea eb : DE}
abbrev dShl : DE → DE → DE := dBin (gI CPow fun i j => i * 2 ^ j.toNat)
abbrev dShr : DE → DE → DE := dBin (gI (fun _ j => 0 ≤ j) fun i j => i / 2 ^ j.toNat)
theorem d_shl (ha : PE X a (liftE X.K W ea)) (hb : PE X b (liftE X.K W eb)) : PE X (.BinOp a .LShift b pos) (liftE X.K W (dShl ea eb)) := d_op op_shl opd_i ha hb
theorem d_shr (ha : PE X a (liftE X.K W ea)) (hb : PE X b (liftE X.K W eb)) : PE X (.BinOp a .RShift b pos) (liftE X.K W (dShr ea eb)) := d_op op_shr opd_i ha hb
/-- x & 1 -/
def gOdd : D → D → (D → Prop) → Prop := fun x y k => asI x fun i => asI y fun j => (0 ≤ i ∧ j = 1) ∧ k (.int (i % 2))
def rOdd : R2 := fun x y H Q => ∃ n : Nat, x = .int (n : Int) ∧ y = .int 1 ∧ Q (.int ((n % 2 : Nat) : Int)) H
theorem opd_odd : OpD X rOdd gOdd := fun {fx M L σ F H v w x y k} sr h => by
  obtain ⟨i, rfl, h1⟩ := asI_iff.mp h
  obtain ⟨j, rfl, ⟨h0, rfl⟩, h2⟩ := asI_iff.mp h1
  have := sr.int; subst this
  have := sr.pop.int; subst this
  refine ⟨_, _, h2, .int _, fun Q z => ⟨i.toNat, by congr 1; omega, rfl, ?_⟩⟩
  have : ((i.toNat % 2 : Nat) : Int) = i % 2 := by omega
  rw [this]; exact z
theorem d_odd (ha : PE X a (liftE X.K W ea)) (hb : PE X b (liftE X.K W eb)) : PE X (.BinOp a .BitAnd b pos) (liftE X.K W (dBin gOdd ea eb)) := d_op (r := rOdd) op_odd opd_odd ha hb
end
/-! sorting by an order that is strict -/
section
variable {α : Type} {ge ge' : α → α → Bool}
theorem insBy_congr {f : List α} {x : α} (h : ∀ y ∈ f, ge y x = ge' y x) : insBy ge f x = insBy ge' f x := by
  unfold insBy
  rw [List.filter_congr h]
theorem foldl_insBy_congr : ∀ (l f : List α), (f ++ l).Nodup → (∀ x ∈ f ++ l, ∀ y ∈ f ++ l, x ≠ y → ge x y = ge' x y) → l.foldl (insBy ge) f = l.foldl (insBy ge') f
  | [], f, _, _ => rfl
  | x :: l, f, hn, h => by
    rw [List.foldl_cons, List.foldl_cons]
    have p : (insBy ge f x ++ l).Perm (f ++ x :: l) := ((insBy_perm ge f x).append_right l).trans (List.perm_middle.symm)
    have e : insBy ge f x = insBy ge' f x := insBy_congr fun y hy => h y (by simp [hy]) x (by simp) (fun e => by
      subst e
      have := (List.nodup_append.mp hn).2.2 y hy y (by simp)
      exact this rfl)
    rw [← e]
    exact foldl_insBy_congr l _ (p.nodup_iff.mpr hn) fun a ha b hb => h a (p.mem_iff.mp ha) b (p.mem_iff.mp hb)
theorem sortBy_congr {l : List α} (hn : l.Nodup) (h : ∀ x ∈ l, ∀ y ∈ l, x ≠ y → ge x y = ge' x y) : sortBy ge l = sortBy ge' l := foldl_insBy_congr l [] hn h
end
theorem aheadE_tot (bs : List (Rat × Rat)) : TotGe (fun i j => aheadB bs i j || i == j) where
  tot a b := by
    by_cases h : a = b
    · left; simp [h]
    · have := aheadB_tot (bs := bs) h
      cases e : aheadB bs b a with
      | true => right; simp [e]
      | false => left; rw [e] at this; simp [this]
  tr a b c h1 h2 := by
    simp only [Bool.or_eq_true, beq_iff_eq] at *
    rcases h1 with h1 | rfl
    · rcases h2 with h2 | rfl
      · exact .inl (aheadB_tr h1 h2)
      · exact .inl h1
    · exact h2
theorem inTurn_sorted (bs : List (Rat × Rat)) : (inTurn bs).Pairwise (fun i j => aheadB bs i j = true) := by
  have e : inTurn bs = sortBy (fun i j => aheadB bs i j || i == j) (List.range bs.length) := by
    unfold inTurn
    refine sortBy_congr List.nodup_range fun x _ y _ hxy => ?_
    rw [beq_eq_false_iff_ne.mpr hxy, Bool.or_false]
  have h := sortBy_sorted (aheadE_tot bs) (List.range bs.length)
  rw [← e] at h
  have hn := inTurn_nodup bs
  rw [List.pairwise_iff_getElem] at h ⊢
  intro i j hi hj hij
  have := h i j hi hj hij
  simp only [Bool.or_eq_true, beq_iff_eq] at this
  rcases this with this | this
  · exact this
  · exact absurd ((List.getElem_inj hn).mp this) (by omega)
/-- the one ahead of all -/
def bestOf (bs : List (Rat × Rat)) (b0 : Nat) (l : List Nat) : Nat := l.foldl (fun b t => if aheadB bs t b = true then t else b) b0
theorem bestOf_ok (bs : List (Rat × Rat)) : ∀ (l : List Nat) (b0 : Nat), (bestOf bs b0 l = b0 ∨ bestOf bs b0 l ∈ l) ∧ ∀ x, x = b0 ∨ x ∈ l → x = bestOf bs b0 l ∨ aheadB bs (bestOf bs b0 l) x = true
  | [], b0 => ⟨.inl rfl, fun x h => by rcases h with rfl | h; exact .inl rfl; cases h⟩
  | t :: l, b0 => by
    unfold bestOf
    rw [List.foldl_cons]
    by_cases h : aheadB bs t b0 = true
    · rw [if_pos h]
      obtain ⟨h1, h2⟩ := bestOf_ok bs l t
      unfold bestOf at h1 h2
      refine ⟨.inr ?_, fun x hx => ?_⟩
      · rcases h1 with h1 | h1
        · rw [h1]; exact List.mem_cons_self ..
        · exact List.mem_cons_of_mem _ h1
      · rcases hx with rfl | hx
        · rcases h2 t (.inl rfl) with e | e
          · right; rw [← e]; exact h
          · exact .inr (aheadB_tr e h)
        · rcases List.mem_cons.mp hx with rfl | hx
          · exact h2 _ (.inl rfl)
          · exact h2 x (.inr hx)
    · rw [if_neg h]
      obtain ⟨h1, h2⟩ := bestOf_ok bs l b0
      unfold bestOf at h1 h2
      refine ⟨?_, fun x hx => ?_⟩
      · rcases h1 with h1 | h1
        · exact .inl h1
        · exact .inr (List.mem_cons_of_mem _ h1)
      · rcases hx with rfl | hx
        · exact h2 _ (.inl rfl)
        · rcases List.mem_cons.mp hx with rfl | hx
          · by_cases e0 : x = b0
            · subst e0; exact h2 _ (.inl rfl)
            · have e1 : aheadB bs b0 x = true := by
                rw [aheadB_tot (fun e => e0 e.symm)]
                simpa using h
              rcases h2 b0 (.inl rfl) with e | e
              · right; rw [← e]; exact e1
              · exact .inr (aheadB_tr e e1)
          · exact h2 x (.inr hx)
/-- who is left behind the first k -/
def leftOf (bs : List (Rat × Rat)) (k : Nat) : List Nat := (List.range bs.length).filter fun t => !decide (t ∈ (inTurn bs).take k)
theorem mem_leftOf {bs : List (Rat × Rat)} {k t : Nat} : t ∈ leftOf bs k ↔ t ∈ (inTurn bs).drop k := by
  unfold leftOf
  rw [List.mem_filter, List.mem_range, Bool.not_eq_true', decide_eq_false_iff_not]
  have hn := inTurn_nodup bs
  rw [← List.take_append_drop k (inTurn bs)] at hn
  have hd := (List.nodup_append.mp hn).2.2
  constructor
  · intro ⟨h1, h2⟩
    exact (mem_take_or k (mem_inTurn.mpr h1)).resolve_left h2
  · intro h
    exact ⟨mem_inTurn.mp (List.mem_of_mem_drop h), fun h2 => hd t h2 t h rfl⟩
theorem leftOf_best {bs : List (Rat × Rat)} {k : Nat} (hk : k < bs.length) : ∃ x l, leftOf bs k = x :: l ∧ bestOf bs x (leftOf bs k) = (inTurn bs).getD k 0 := by
  have hl := inTurn_length bs
  have hm : (inTurn bs)[k]'(by omega) ∈ leftOf bs k := mem_leftOf.mpr (by rw [List.drop_eq_getElem_cons (by omega)]; exact List.mem_cons_self ..)
  cases e : leftOf bs k with
  | nil => rw [e] at hm; cases hm
  | cons x l =>
    refine ⟨x, l, rfl, ?_⟩
    obtain ⟨h1, h2⟩ := bestOf_ok bs (x :: l) x
    have hb : bestOf bs x (x :: l) ∈ leftOf bs k := by
      rw [e]
      rcases h1 with h1 | h1
      · rw [h1]; exact List.mem_cons_self ..
      · exact h1
    have g : (inTurn bs).getD k 0 = (inTurn bs)[k]'(by omega) := by rw [List.getD_eq_getElem?_getD, List.getElem?_eq_getElem (by omega)]; rfl
    rw [g]
    rcases h2 _ (.inr (by rw [← e]; exact hm)) with h3 | h3
    · exact h3.symm
    · have h4 := mem_leftOf.mp hb
      rw [List.drop_eq_getElem_cons (by omega)] at h4
      rcases List.mem_cons.mp h4 with h4 | h4
      · exact h4
      · have hs := inTurn_sorted bs
        rw [← List.take_append_drop k (inTurn bs), List.drop_eq_getElem_cons (by omega)] at hs
        have := (List.pairwise_cons.mp (List.pairwise_append.mp hs).2.1).1 _ h4
        have h5 := aheadB_tr this h3
        rw [aheadB_irr] at h5; cases h5
theorem leftOf_next {bs : List (Rat × Rat)} {k : Nat} (hk : k < bs.length) : (leftOf bs k).filter (fun t => !decide (t = (inTurn bs).getD k 0)) = leftOf bs (k + 1) := by
  have hl := inTurn_length bs
  have g : (inTurn bs).getD k 0 = (inTurn bs)[k]'(by omega) := by rw [List.getD_eq_getElem?_getD, List.getElem?_eq_getElem (by omega)]; rfl
  unfold leftOf
  rw [List.filter_filter]
  refine List.filter_congr fun t _ => ?_
  rw [g, List.take_succ_eq_append_getElem (by omega)]
  simp only [List.mem_append, List.mem_singleton]
  by_cases h1 : t = (inTurn bs)[k]'(by omega) <;> by_cases h2 : t ∈ (inTurn bs).take k <;> simp [h1, h2]
theorem areSure_congr {bs : List (Rat × Rat)} {s t : List Nat} (h : ∀ i, i ∈ s ↔ i ∈ t) : areSure bs s = areSure bs t := by
  rw [Bool.eq_iff_iff, areSure_iff, areSure_iff]
  constructor
  · intro g x hx o ho hn; exact g x ((h x).mpr hx) o ho fun z => hn ((h o).mp z)
  · intro g x hx o ho hn; exact g x ((h x).mp hx) o ho fun z => hn ((h o).mpr z)
theorem sureBy_eq (bs : List (Rat × Rat)) (c : Nat) : sureBy bs c = if areSure bs ((inTurn bs).take c) = true then some (sortN ((inTurn bs).take c)) else none := by
  unfold sureBy
  rw [areSure_congr (t := (inTurn bs).take c) fun i => mem_sortN]
/-- if any so many are sure, the first so many are -/
theorem sure_first {bs : List (Rat × Rat)} (hle : ∀ j, j < bs.length → (bnd bs j).1 ≤ (bnd bs j).2) {c : Nat} {T : List Nat} (hn : T.Nodup) (hT : ∀ t ∈ T, t < bs.length) (hc : T.length = c) (hs : areSure bs T = true) : areSure bs ((inTurn bs).take c) = true := by
  have hl := inTurn_length bs
  have ht := inTurn_sorted bs
  have hnd := inTurn_nodup bs
  have hs := areSure_iff.mp hs
  have hcl : c ≤ bs.length := by
    have := hn.length_le_of_subset (l₂ := List.range bs.length) (fun t h => List.mem_range.mpr (hT t h))
    rw [List.length_range] at this; omega
  have ltk : ((inTurn bs).take c).length = c := by rw [List.length_take]; omega
  have before : ∀ t ∈ (inTurn bs).take c, ∀ o, o < bs.length → o ∉ (inTurn bs).take c → aheadB bs t o = true := fun t ht2 o ho hno =>
    pairwise_take_drop ht c ht2 ((mem_take_or c (mem_inTurn.mpr ho)).resolve_left hno)
  have ah : ∀ i j, aheadB bs i j = true → (bnd bs j).1 ≤ (bnd bs i).1 ∧ ((bnd bs i).1 = (bnd bs j).1 → (bnd bs j).2 ≤ (bnd bs i).2) := by
    intro i j h
    unfold aheadB at h
    by_cases h1 : (bnd bs i).1 = (bnd bs j).1
    · rw [if_pos h1] at h
      refine ⟨by rw [h1]; exact Rat.le_refl, fun _ => ?_⟩
      by_cases h2 : (bnd bs i).2 = (bnd bs j).2
      · rw [h2]; exact Rat.le_refl
      · rw [if_neg h2] at h; exact Rat.le_of_lt (by simpa using h)
    · rw [if_neg h1] at h
      exact ⟨Rat.le_of_lt (by simpa using h), fun e => absurd e h1⟩
  -- one of T outside of the first ones, where one of the first ones is outside of T
  have other : ∀ {A B : List Nat}, A.Nodup → A.length = B.length → ∀ x ∈ B, x ∉ A → B.Nodup → ∃ y ∈ A, y ∉ B := by
    intro A B hA hAB x hx hxA hB
    cases hf : A.find? (fun y => !decide (y ∈ B)) with
    | some y => exact ⟨y, List.mem_of_find?_eq_some hf, by simpa using List.find?_some hf⟩
    | none =>
      exfalso
      have h0 := List.find?_eq_none.mp hf
      have hsub : ∀ y ∈ A, y ∈ B := fun y hy => by simpa using h0 y hy
      have h2 : (x :: A).Nodup := List.nodup_cons.mpr ⟨hxA, hA⟩
      have := h2.length_le_of_subset (l₂ := B) (fun y hy => by rcases List.mem_cons.mp hy with rfl | hy; exact hx; exact hsub y hy)
      rw [List.length_cons] at this; omega
  have ndk : ((inTurn bs).take c).Nodup := hnd.sublist (List.take_sublist _ _)
  refine areSure_iff.mpr fun t htk o ho hno => ?_
  have htl : t < bs.length := mem_inTurn.mp (List.mem_of_mem_take htk)
  have bo := ah _ _ (before t htk o ho hno)
  have t1 := hle t htl
  have o1 := hle o ho
  by_cases hT1 : t ∈ T
  · by_cases hO1 : o ∈ T
    · obtain ⟨u, hu1, hu2⟩ := other ndk (by rw [ltk, hc]) o hO1 hno hn
      have hul := mem_inTurn.mp (List.mem_of_mem_take hu1)
      have a1 := hs t hT1 u hul hu2
      have a2 := hs o hO1 u hul hu2
      have a3 := ah _ _ (before u hu1 o ho hno)
      have a4 := hle u hul
      have a5 := a3.2 (by grind)
      grind
    · exact hs t hT1 o ho hO1
  · obtain ⟨u, hu1, hu2⟩ := other hn (by rw [ltk, hc]) t htk hT1 ndk
    have hul := hT u hu1
    have a1 := hs u hu1 t htl hT1
    have a3 := ah _ _ (before t htk u hul hu2)
    have a4 := hle u hul
    have a5 := a3.2 (by grind)
    by_cases hO1 : o ∈ T
    · have a2 := hs o hO1 t htl hT1
      have a6 := bo.2 (by grind)
      grind
    · have a2 := hs u hu1 o ho hO1
      grind
/-- where low and high are one: the first are sure -/
theorem sure_full {bs : List (Rat × Rat)} (h : ∀ j, j < bs.length → (bnd bs j).1 = (bnd bs j).2) (c : Nat) : areSure bs ((inTurn bs).take c) = true := by
  refine areSure_iff.mpr fun t htk o ho hno => ?_
  have := pairwise_take_drop (inTurn_sorted bs) c htk ((mem_take_or c (mem_inTurn.mpr ho)).resolve_left hno)
  rw [← h o ho]
  unfold aheadB at this
  by_cases h1 : (bnd bs t).1 = (bnd bs o).1
  · rw [h1]; exact Rat.le_refl
  · rw [if_neg h1] at this; exact Rat.le_of_lt (by simpa using this)
/-- what is sure stays sure where the bounds come closer -/
theorem sure_more {bs bs' : List (Rat × Rat)} (hl : bs'.length = bs.length) (h : ∀ j, j < bs.length → (bnd bs j).1 ≤ (bnd bs' j).1 ∧ (bnd bs' j).2 ≤ (bnd bs j).2) {T : List Nat} (hT : ∀ t ∈ T, t < bs.length) (hs : areSure bs T = true) : areSure bs' T = true := by
  have hs := areSure_iff.mp hs
  refine areSure_iff.mpr fun t ht o ho hno => ?_
  exact Rat.le_trans (h o (by omega)).2 (Rat.le_trans (hs t ht o (by omega) hno) (h t (hT t ht)).1)
/-! subsets by numbers -/
def bitsOf (n code : Nat) : List Nat := (List.range n).filter fun i => decide (code / 2 ^ i % 2 = 1)
def someSure (bs : List (Rat × Rat)) (c : Nat) : Bool := (List.range (2 ^ bs.length)).any fun code => decide ((bitsOf bs.length code).length = c) && areSure bs (bitsOf bs.length code)
theorem code_of : ∀ (n : Nat) (p : Nat → Bool), ∃ c, c < 2 ^ n ∧ ∀ i, i < n → decide (c / 2 ^ i % 2 = 1) = p i
  | 0, p => ⟨0, by simp, fun i h => by omega⟩
  | n + 1, p => by
    obtain ⟨c, h1, h2⟩ := code_of n (fun i => p (i + 1))
    refine ⟨2 * c + (if p 0 then 1 else 0), ?_, fun i hi => ?_⟩
    · rw [Nat.pow_succ]; split <;> omega
    · cases i with
      | zero => rw [Nat.pow_zero, Nat.div_one]; cases p 0 <;> simp <;> omega
      | succ i =>
        have := h2 i (by omega)
        rw [← this, Nat.pow_succ, Nat.mul_comm (2 ^ i) 2, ← Nat.div_div_eq_div_mul]
        have : (2 * c + if p 0 = true then 1 else 0) / 2 = c := by split <;> omega
        rw [this]
theorem bitsOf_nodup (n code : Nat) : (bitsOf n code).Nodup := List.nodup_range.sublist List.filter_sublist
theorem bitsOf_lt {n code i : Nat} (h : i ∈ bitsOf n code) : i < n := List.mem_range.mp ((List.mem_filter.mp h).1)
theorem someSure_eq {bs : List (Rat × Rat)} (hle : ∀ j, j < bs.length → (bnd bs j).1 ≤ (bnd bs j).2) {c : Nat} (hc : c ≤ bs.length) : someSure bs c = areSure bs ((inTurn bs).take c) := by
  rw [Bool.eq_iff_iff]
  unfold someSure
  rw [List.any_eq_true]
  constructor
  · rintro ⟨code, -, h⟩
    rw [Bool.and_eq_true, decide_eq_true_iff] at h
    exact sure_first hle (bitsOf_nodup _ _) (fun t ht => bitsOf_lt ht) h.1 h.2
  · intro h
    obtain ⟨code, h1, h2⟩ := code_of bs.length fun i => decide (i ∈ (inTurn bs).take c)
    have hm : ∀ i, i ∈ bitsOf bs.length code ↔ i ∈ (inTurn bs).take c := by
      intro i
      unfold bitsOf
      rw [List.mem_filter, List.mem_range]
      constructor
      · intro ⟨g1, g2⟩
        rw [h2 i g1] at g2; simpa using g2
      · intro g
        have g1 := mem_inTurn.mp (List.mem_of_mem_take g)
        exact ⟨g1, by rw [h2 i g1]; simpa using g⟩
    refine ⟨code, List.mem_range.mpr h1, ?_⟩
    rw [Bool.and_eq_true, decide_eq_true_iff]
    refine ⟨?_, by rw [areSure_congr hm]; exact h⟩
    have ndk : ((inTurn bs).take c).Nodup := (inTurn_nodup bs).sublist (List.take_sublist _ _)
    have := (List.perm_ext_iff_of_nodup (bitsOf_nodup bs.length code) ndk).mpr hm
    rw [this.length_eq, List.length_take, inTurn_length]; omega
abbrev optO : Option (List Nat) → D
  | none => .non
  | some ts => .own (nL ts)
theorem frz_optO (o : Option (List Nat)) : (optO o).frz = optL o := by
  cases o with
  | none => rfl
  | some ts => exact frz_own_nL ts
end TL
/-! # a def that calls itself; ways of reading -/
namespace TL
open PySem PyProof.Rows L2
/-- what is known of a def that calls itself, one step down -/
def prevS (T : Nat → Spec) : Nat → Spec
  | 0 => fun _ _ _ => False
  | j + 1 => T j
theorem cal_false {P : Program} {w : World} {K : PySem.W.Frag} {mg : Str → Option Value} {base : Heap} {x : Str} {st : Stmt} {ps : List Str} {n : Nat} (D : DefAt K mg x st ps) : Cal P w K mg base 0 n x (fun _ _ _ => False) := by
  obtain ⟨a, fd, F, g, b⟩ := D
  refine ⟨a, fd, ps, ⟨fun vs H Q E h => ?_, fun hr he hb hv h => ?_⟩, g, F.kp, b⟩
  · obtain ⟨_, _, _, _, _, _, _, _, _, _, h, _⟩ := h
    exact h.elim
  · obtain ⟨_, _, _, _, _, _, _, _, _, _, h, _⟩ := h
    exact h.elim
theorem cal_rec {P : Program} {w : World} {K : PySem.W.Frag} {mg : Str → Option Value} {base : Heap} {x : Str} {st : Stmt} {N ps : List Str} {n m : Nat} {T : Nat → Spec} {r : Spec → DS} (D : DefAt K mg x st ps) (S : FnScope N ps (defScope st)) (hn : ps.length = n) (hm : N.length = n + m)
    (deriv : ∀ (k : Nat) (T' : Spec), Cal P w K mg base k n x T' → ∀ (f : Addr) (cdv : Value) (A : Around) (outer : List Env) (s : Shared) (H : Hp) (E : XK), RmG k (A.deeper (envOfC x (defScope st) s.heap.objs.size f cdv)) →
      PSs (cxOf (L2.CX P w) P w K mg base N x (defScope st) f cdv A outer s H E) (defBody st) (liftS K (fun cls d _ H => E cls d H) (r T')))
    (law : ∀ j as Q E, T j as Q E → r (prevS T j) (endsOf Q E) (as ++ List.replicate m .un)) : ∀ j, Cal P w K mg base (j + 1) n x (T j)
  | 0 => cal_ok D S hn hm (deriv 0 _ (cal_false D)) (law 0)
  | j + 1 => cal_ok D S hn hm (deriv (j + 1) _ (cal_rec D S hn hm deriv law j)) (law (j + 1))
/-! depths of one sum -/
def depthsOf : Nat → Nat → Nat → List (List Nat)
  | 0, _, t => if t = 0 then [[]] else []
  | l + 1, m, t => (List.range (min m t + 1)).flatMap fun d => (depthsOf l m (t - d)).map (d :: ·)
theorem mem_depthsOf : ∀ {l m t : Nat} {ds : List Nat}, ds ∈ depthsOf l m t ↔ ds.length = l ∧ (∀ d ∈ ds, d ≤ m) ∧ ds.sum = t
  | 0, m, t, ds => by
    unfold depthsOf
    constructor
    · intro h
      split at h
      · rename_i h0
        simp only [List.mem_singleton] at h
        subst h; subst h0
        exact ⟨rfl, (fun d hd => by cases hd), rfl⟩
      · cases h
    · rintro ⟨h1, -, h3⟩
      have := List.length_eq_zero_iff.mp h1
      subst this
      have h3 : t = 0 := h3.symm
      rw [if_pos h3]; exact List.mem_singleton.mpr rfl
  | l + 1, m, t, ds => by
    unfold depthsOf
    rw [List.mem_flatMap]
    constructor
    · rintro ⟨d, hd, h⟩
      obtain ⟨rest, hr, rfl⟩ := List.mem_map.mp h
      have hd := List.mem_range.mp hd
      obtain ⟨h1, h2, h3⟩ := mem_depthsOf.mp hr
      refine ⟨by rw [List.length_cons, h1], fun x hx => ?_, by rw [List.sum_cons, h3]; omega⟩
      rcases List.mem_cons.mp hx with rfl | hx
      · omega
      · exact h2 x hx
    · rintro ⟨h1, h2, h3⟩
      cases ds with
      | nil => simp at h1
      | cons d rest =>
        rw [List.sum_cons] at h3
        have hd := h2 d (List.mem_cons_self ..)
        refine ⟨d, List.mem_range.mpr (by omega), List.mem_map.mpr ⟨rest, mem_depthsOf.mpr ⟨by simpa using h1, fun x hx => h2 x (List.mem_cons_of_mem _ hx), by omega⟩, rfl⟩⟩
theorem flatMap_len {α β : Type} {f : α → List β} {B : Nat} : ∀ (l : List α), (∀ x ∈ l, (f x).length ≤ B) → (l.flatMap f).length ≤ l.length * B
  | [], _ => by simp
  | x :: l, h => by
    rw [List.flatMap_cons, List.length_append, List.length_cons, Nat.add_mul]
    have := flatMap_len l fun y hy => h y (List.mem_cons_of_mem _ hy)
    have := h x (List.mem_cons_self ..)
    omega
theorem depthsOf_len : ∀ (l m t : Nat), (depthsOf l m t).length ≤ (m + 1) ^ l
  | 0, m, t => by unfold depthsOf; split <;> simp
  | l + 1, m, t => by
    unfold depthsOf
    have := flatMap_len (f := fun d => (depthsOf l m (t - d)).map (d :: ·)) (B := (m + 1) ^ l) (List.range (min m t + 1)) fun d _ => by rw [List.length_map]; exact depthsOf_len l m (t - d)
    rw [List.length_range] at this
    rw [Nat.pow_succ, Nat.mul_comm]
    exact Nat.le_trans this (Nat.mul_le_mul_right _ (by omega))
abbrev nlD (l : List Nat) : D := .lst (nL l)
theorem noOwns_nlD (l : List (List Nat)) : D.noOwns (l.map nlD) = true := noOwns_map nlD (fun _ => rfl) l
theorem frz_nlD (l : List (List Nat)) : (D.own (l.map nlD)).frz = .lst (l.map nlD) := frz_ownN _ (noOwns_nlD l)
/-! who is sure by so many looks -/
def sureAt (b : List (List Rat)) (r : Rule) (c : Nat) (ds : List Nat) (ps : List (Nat × Nat)) : Option (List Nat) := sureBy (boundsOf b r ds ps) c
theorem sureBy_isSome (bs : List (Rat × Rat)) (c : Nat) : (sureBy bs c).isSome = areSure bs ((inTurn bs).take c) := by
  rw [sureBy_eq]
  cases areSure bs ((inTurn bs).take c) <;> rfl
section
variable {b : List (List Rat)} {m : Nat} (hb : Bk b m) {r : Rule} (hr : Ru r b.length) {c : Nat} {ds ds' : List Nat} {ps ps' : List (Nat × Nat)}
include hb hr
theorem sureAt_more (hc : c ≤ m) (h : MoreL b.length ds ds' ps ps') (hd : ds.length = b.length) (hd' : ds'.length = b.length) (hs : (sureAt b r c ds ps).isSome = true) : (sureAt b r c ds' ps').isSome = true := by
  unfold sureAt at *
  rw [sureBy_isSome] at *
  have l1 := boundsOf_length hb r ps hd
  have l2 := boundsOf_length hb r ps' hd'
  have hT : ∀ t ∈ (inTurn (boundsOf b r ds ps)).take c, t < (boundsOf b r ds ps).length := fun t ht => mem_inTurn.mp (List.mem_of_mem_take ht)
  have := sure_more (bs := boundsOf b r ds ps) (bs' := boundsOf b r ds' ps') (by omega) (fun j hj => bounds_more hb hr h hd hd' (by omega)) hT hs
  exact sure_first (fun j hj => bounds_le hb hr hd' (by omega)) ((inTurn_nodup _).sublist (List.take_sublist _ _)) (fun t ht => by have := hT t ht; omega) (by rw [List.length_take, inTurn_length]; omega) this
omit hr in
theorem sureAt_full (hd : ds.length = b.length) (hf : ∀ k, k < b.length → m ≤ ds.getD k 0) : (sureAt b r c ds ps).isSome = true := by
  unfold sureAt
  rw [sureBy_isSome]
  have l1 := boundsOf_length hb r ps hd
  exact sure_full (fun j hj => by rw [bounds_full hb hd hf (by omega)]) c
end
theorem replicate_getD {n k x : Nat} (h : k < n) : (List.replicate n x).getD k 0 = x := by
  rw [List.getD_eq_getElem?_getD, List.getElem?_replicate, if_pos h]; rfl
/-- looks that only read -/
theorem lk_of {l m : Nat} {ds : List Nat} (h1 : ds.length = l) (h2 : ∀ d ∈ ds, d ≤ m) : Lk l m ds [] := ⟨h1, h2, (fun p hp => by cases hp), List.Pairwise.nil⟩
theorem looksD_nil (ds : List Nat) : looksD ds [] = .tup [.lst (nL ds), .lst []] := rfl
theorem sum_ge {d : Nat} : ∀ {ds : List Nat}, d ∈ ds → d ≤ ds.sum
  | x :: ds, h => by
    rw [List.sum_cons]
    rcases List.mem_cons.mp h with rfl | h
    · omega
    · have := sum_ge h; omega
theorem sum_le {m : Nat} : ∀ {ds : List Nat}, (∀ d ∈ ds, d ≤ m) → ds.sum ≤ ds.length * m
  | [], _ => by simp
  | x :: ds, h => by
    rw [List.sum_cons, List.length_cons, Nat.add_mul]
    have := sum_le fun d hd => h d (List.mem_cons_of_mem _ hd)
    have := h x (List.mem_cons_self ..)
    omega
theorem sum_rep : ∀ n m : Nat, (List.replicate n m).sum = n * m
  | 0, m => by simp
  | n + 1, m => by rw [List.replicate_succ, List.sum_cons, sum_rep n m, Nat.add_mul]; omega
theorem cutD_butlast (l : List D) : cutD l none (some (-1)) = l.dropLast := by
  unfold cutD
  cases l with
  | nil => rfl
  | cons x l =>
    have e : HT.sIx (x :: l).length (x :: l).length (some (-1)) = l.length := by
      show HT.sIx (l.length + 1) (l.length + 1) (some (-1)) = l.length
      unfold HT.sIx
      simp
      omega
    rw [e]
    show List.take (l.length - 0) (List.drop 0 (x :: l)) = _
    rw [List.drop_zero, Nat.sub_zero, List.dropLast_eq_take]; rfl
theorem sum_cast : ∀ ds : List Nat, (ds.map fun i : Nat => (i : Int)).sum = (ds.sum : Int)
  | [] => rfl
  | x :: ds => by rw [List.map_cons, List.sum_cons, List.sum_cons, sum_cast ds]; push_cast; rfl
end TL
/-! # str of data -/
namespace TL
open PySem PyProof.Rows L2
/-- data that can be shown: leaves of at most B signs, of a weight of at most n -/
structure ShB (B n : Nat) (d : D) : Prop where
  lv : d.toP.leavesShort B = true
  sh : d.toP.showable = true
  wt : d.toP.weight ≤ n
abbrev Sh (n : Nat) (d : D) : Prop := ShB 1000 n d
structure ShOk (d : D) : Prop where
  ok : okD 8 d
  sh : d.toP.showable = true
  size : d.toP.shown.length ≤ sizeLine
theorem shokB {B n : Nat} {d : D} (ok : okD 8 d) (h : ShB B n d) (h8 : 8 ≤ B) (hn : (B + 2) * n + B ≤ 16777216) : ShOk d := by
  refine ⟨ok, h.sh, ?_⟩
  have := PyData.shown_le B h8 d.toP h.lv
  have h2 := Nat.mul_le_mul_left (B + 2) h.wt
  have e : sizeLine = 16777216 := by decide
  omega
theorem shok {d : D} (ok : okD 8 d) (h : Sh 16000 d) : ShOk d := shokB ok h (by decide) (by decide)
/-- str(..) of data -/
def strT : D → Str
  | .non => "None"
  | .bl b => if b then "True" else "False"
  | .int i => Str.ofString (toString i)
  | .str x => x
  | d => d.toP.shown
def gStr : D → (D → Prop) → Prop := fun d k => ShOk d ∧ k (.str (strT d))
def rStr (K : PySem.W.Frag) : List V → Hp → VK → Prop := fun xs H Q => (∃ i, xs = [.int i] ∧ i.natAbs.log2 < 1920 ∧ Q (.str (Str.ofString (toString i))) H) ∨ (∃ a, xs = [.str a] ∧ Q (.str a) H) ∨
  (∃ b : Bool, xs = [.bl b] ∧ Q (.str (if b then "True" else "False")) H) ∨ (xs = [.non] ∧ Q (.str "None") H) ∨
  ∃ (a : Addr) (d : PyData), xs = [.ref a] ∧ Dp K H (.ref a) d ∧ d.showable = true ∧ d.hasDict = false ∧ d.depth ≤ 8 ∧ d.shown.length ≤ sizeLine ∧ Q (.str d.shown) H
section
variable {X : Cx} {W : WX} {e : Expr} {pos : Pos} {ea : DE}
theorem call_strA (hg : X.A.guards = some []) (hu : X.A.units + 64 < cLine) : CallR X (.type "str") (rStr X.K) := by
  intro pins s σ H xs us Q I r h
  rcases h with h | h | ⟨b, rfl, q⟩ | ⟨rfl, q⟩ | ⟨a, d, rfl, hd, h1, h2, h3, h4, q⟩
  · exact call_str_int pins s σ H xs us Q I r h
  · exact SkE.call_str_str pins s σ H xs us Q I r h
  · obtain ⟨u, rfl, ru⟩ := vals1 r
    cases ru
    exact PySem.P.str_of_bool ⟨.str _, H, I.tok _, ⟨_, rfl⟩, q⟩
  · obtain ⟨u, rfl, ru⟩ := vals1 r
    cases ru
    exact PySem.P.str_of_none ⟨.str _, H, I.tok _, ⟨_, rfl⟩, q⟩
  · obtain ⟨u, rfl, ru⟩ := vals1 r
    obtain ⟨as, rd⟩ := Dp.reads I d (.ref a) u hd ru
    cases ru
    exact str_of_reads rd h1 (fun z => by rw [h2] at z; cases z) hg (by omega) (fun _ _ z => z) (fun h' u tk hk => ⟨.str _, H, I.kept hk, ⟨_, rfl⟩, q⟩) h4
theorem cal_str : Cal1 X (rStr X.K) gStr := fun {F H d v f k} s p h => by
  obtain ⟨ok, h⟩ := h
  have seq : d.toP.shown = strT d → (∃ a, v = .ref a) → ∃ x u, k x ∧ Rp X.K F H x u [] ∧ ∀ Q : VK, Q u H → rStr X.K [v] H Q := by
    intro et ⟨a, ea⟩
    obtain ⟨h1, h2, h3⟩ := okD_ok d ok.ok
    subst ea
    rw [← et] at h
    exact ⟨_, _, h, .str _, fun Q q => .inr (.inr (.inr (.inr ⟨a, d.toP, rfl, Rp.dp s _ _ _ h1 p, ok.sh, PyData.hasDict_of_canLay _ h2, h3, ok.size, q⟩)))⟩
  cases d
  case non => cases p; exact ⟨_, _, h, .str _, fun Q q => .inr (.inr (.inr (.inl ⟨rfl, q⟩)))⟩
  case bl b => cases p; exact ⟨_, _, h, .str _, fun Q q => .inr (.inr (.inl ⟨_, rfl, q⟩))⟩
  case int i =>
    cases p
    have : i.natAbs.log2 < 1920 := by
      have := ok.sh
      unfold D.toP at this
      rw [PyData.showable] at this
      exact of_decide_eq_true this
    exact ⟨_, _, h, .str _, fun Q q => .inl ⟨_, rfl, this, q⟩⟩
  case str x => cases p; exact ⟨_, _, h, .str _, fun Q q => .inr (.inl ⟨_, rfl, q⟩)⟩
  case tup l => exact seq rfl (by cases p; exact ⟨_, rfl⟩)
  case lst l => exact seq rfl (by cases p; exact ⟨_, rfl⟩)
  case own l => exact seq rfl (by cases p; exact ⟨_, rfl⟩)
  all_goals exact (by have := ok.ok; simp [okD] at this)
theorem d_strD {k : Nat} {p : Pos} (hr : RmG k X.A) (hm : X.mg "str" = none) (ha : PE X e (liftB X.K W ea)) (hg : Gl X "str" := by rfl) (he : starEach [e] X.env = [(false, eval e X.env)] := by rfl) : PE X (.Call (.Name "str" p) [e] [] pos) (liftE X.K W (dCal1 gStr ea)) :=
  d_calT (call_strA hr.gd (by have := hr.rm.un; omega)) cal_str hg hm (by decide +kernel) ha (by decide) (by decide) he
end
/-! what can be shown -/
theorem sh_int {n : Nat} {i : Int} (h : i.natAbs.log2 < n) (hn : n ≤ 900) : Sh n (.int i) := by
  have e : (D.int i).toP = .int i := by unfold D.toP; rfl
  refine ⟨?_, ?_, ?_⟩
  · rw [e, PyData.leavesShort]
    refine decide_eq_true (Nat.le_trans (show (PyData.shown (.int i)).length ≤ n + 1 from ?_) (by omega))
    rw [PyData.shown]
    show (Str.ofString (toString i)).length ≤ n + 1
    rw [PySem.ofString_length]
    exact int_text_length_le (by omega) h
  · rw [e, PyData.showable]; exact decide_eq_true (by omega)
  · rw [e, PyData.weight]; split <;> omega
theorem sh_bl {B : Nat} (n : Nat) (b : Bool) : ShB B n (.bl b) := by
  have e : (D.bl b).toP = .bool b := by unfold D.toP; rfl
  exact ⟨by rw [e, PyData.leavesShort], by rw [e, PyData.showable], by rw [e, PyData.weight]; omega⟩
theorem sh_non {B : Nat} (n : Nat) : ShB B n .non := by
  have e : (D.non).toP = .none := by unfold D.toP; rfl
  exact ⟨by rw [e, PyData.leavesShort], by rw [e, PyData.showable], by rw [e, PyData.weight]; omega⟩
theorem sh_str {B n : Nat} {x : Str} (h1 : ∀ c ∈ x.cps.toList, c < 16 ^ 8) (h2 : x.cps.size ≤ n) : ShB B n (.str x) := by
  have e : (D.str x).toP = .str x := by unfold D.toP; rfl
  refine ⟨?_, by rw [e, PyData.showable], by rw [e, PyData.weight]; exact h2⟩
  rw [e, PyData.leavesShort, List.all_eq_true]
  exact fun c hc => decide_eq_true (h1 c hc)
theorem sh_all {B n : Nat} : ∀ l : List D, (∀ d ∈ l, ShB B n d) → PyData.leavesShortAll B (D.toPs l) = true ∧ PyData.showableAll (D.toPs l) = true ∧ PyData.weightAll (D.toPs l) ≤ l.length * (n + 1)
  | [], _ => by unfold D.toPs; exact ⟨by rw [PyData.leavesShortAll], by rw [PyData.showableAll], by rw [PyData.weightAll]; omega⟩
  | d :: l, h => by
    obtain ⟨h1, h2, h3⟩ := sh_all l fun x hx => h x (List.mem_cons_of_mem _ hx)
    have hd := h d (List.mem_cons_self ..)
    unfold D.toPs
    refine ⟨by rw [PyData.leavesShortAll, hd.lv, h1]; rfl, by rw [PyData.showableAll, hd.sh, h2]; rfl, ?_⟩
    rw [PyData.weightAll, List.length_cons, Nat.add_mul]
    have := hd.wt
    omega
theorem sh_lst {B n m : Nat} {l : List D} (h : ∀ d ∈ l, ShB B n d) (hm : l.length * (n + 1) ≤ m) : ShB B m (.lst l) := by
  obtain ⟨h1, h2, h3⟩ := sh_all l h
  have e : (D.lst l).toP = .list (D.toPs l) := by unfold D.toP; rfl
  exact ⟨by rw [e, PyData.leavesShort]; exact h1, by rw [e, PyData.showable]; exact h2, by rw [e, PyData.weight]; omega⟩
theorem sh_own {B n m : Nat} {l : List D} (h : ∀ d ∈ l, ShB B n d) (hm : l.length * (n + 1) ≤ m) : ShB B m (.own l) := by
  obtain ⟨h1, h2, h3⟩ := sh_all l h
  have e : (D.own l).toP = .list (D.toPs l) := by unfold D.toP; rfl
  exact ⟨by rw [e, PyData.leavesShort]; exact h1, by rw [e, PyData.showable]; exact h2, by rw [e, PyData.weight]; omega⟩
theorem sh_tup {B n m : Nat} {l : List D} (h : ∀ d ∈ l, ShB B n d) (hm : l.length * (n + 1) ≤ m) : ShB B m (.tup l) := by
  obtain ⟨h1, h2, h3⟩ := sh_all l h
  have e : (D.tup l).toP = .tuple (D.toPs l) := by unfold D.toP; rfl
  exact ⟨by rw [e, PyData.leavesShort]; exact h1, by rw [e, PyData.showable]; exact h2, by rw [e, PyData.weight]; omega⟩
theorem ShB.mono {B n m : Nat} {d : D} (h : ShB B n d) (hm : n ≤ m) : ShB B m d := ⟨h.lv, h.sh, Nat.le_trans h.wt hm⟩
/-- own parts frozen: shown alike -/
theorem sh_frz {n : Nat} {d : D} : Sh n d.frz ↔ Sh n d := by
  constructor <;> intro h
  · exact ⟨by rw [← toP_frz]; exact h.lv, by rw [← toP_frz]; exact h.sh, by rw [← toP_frz]; exact h.wt⟩
  · exact ⟨by rw [toP_frz]; exact h.lv, by rw [toP_frz]; exact h.sh, by rw [toP_frz]; exact h.wt⟩
/-! texts compared -/
def gEqS : D → D → (D → Prop) → Prop := fun x y k => asStr x fun a => asStr y fun b => k (.bl (decide (a = b)))
def gNeS : D → D → (D → Prop) → Prop := fun x y k => asStr x fun a => asStr y fun b => k (.bl (!decide (a = b)))
section
variable {X : Cx} {W : WX} {a b : Expr} {pos : Pos} {ea eb : DE}
theorem opd_eqS : OpD X rEq gEqS := fun {fx M L σ F H v w x y k} sr h => by
  obtain ⟨i, rfl, h1⟩ := asStr_iff.mp h
  obtain ⟨j, rfl, h2⟩ := asStr_iff.mp h1
  have := sr.str; subst this
  have := sr.pop.str; subst this
  refine ⟨_, _, h2, .bl _, fun Q q => ⟨rfl, ?_⟩⟩
  rw [show decide (V.str i = V.str j) = decide (i = j) by rw [decide_eq_decide]; exact ⟨fun e => by cases e; rfl, fun e => by rw [e]⟩]
  exact q
theorem opd_neS : OpD X rNe gNeS := fun {fx M L σ F H v w x y k} sr h => by
  obtain ⟨i, rfl, h1⟩ := asStr_iff.mp h
  obtain ⟨j, rfl, h2⟩ := asStr_iff.mp h1
  have := sr.str; subst this
  have := sr.pop.str; subst this
  refine ⟨_, _, h2, .bl _, fun Q q => ⟨rfl, ?_⟩⟩
  rw [show decide (V.str i = V.str j) = decide (i = j) by rw [decide_eq_decide]; exact ⟨fun e => by cases e; rfl, fun e => by rw [e]⟩]
  exact q
abbrev dEqS : DE → DE → DE := dBin gEqS
abbrev dNeS : DE → DE → DE := dBin gNeS
theorem d_eqS (ha : PE X a (liftE X.K W ea)) (hb : PE X b (liftE X.K W eb)) : PE X (.Compare a [.Eq] [b] pos) (liftE X.K W (dEqS ea eb)) := d_cmp op_eq opd_eqS ha hb (nomark _)
theorem d_neS (ha : PE X a (liftE X.K W ea)) (hb : PE X b (liftE X.K W eb)) : PE X (.Compare a [.NotEq] [b] pos) (liftE X.K W (dNeS ea eb)) := d_cmp op_ne opd_neS ha hb (nomark _)
theorem t_eqS (ha : PE X a (liftE X.K W ea)) (hb : PE X b (liftE X.K W eb)) : PT X (.Compare a [.Eq] [b] pos) (liftT X.K W (dT (dEqS ea eb))) := t_cmp op_eq opd_eqS ha hb (nomark _)
theorem t_neS (ha : PE X a (liftE X.K W ea)) (hb : PE X b (liftE X.K W eb)) : PT X (.Compare a [.NotEq] [b] pos) (liftT X.K W (dT (dNeS ea eb))) := t_cmp op_ne opd_neS ha hb (nomark _)
end
theorem bnT {b : Bool} (h : (!b) = true) : b = false := by cases b <;> simp_all
theorem bnF {b : Bool} (h : (!b) = false) : b = true := by cases b <;> simp_all
def shB (n : Nat) (d : D) : Bool := d.toP.leavesShort 1000 && (d.toP.showable && decide (d.toP.weight ≤ n))
theorem shB_ok {n : Nat} {d : D} (h : shB n d = true) : Sh n d := by
  unfold shB at h
  simp only [Bool.and_eq_true, decide_eq_true_eq] at h
  exact ⟨h.1, h.2.1, h.2.2⟩
theorem getO_odd {l : List D} {a b : Nat} {k : Int} {K : D → Prop} (h : l.all (fun d => pdB a d && (shB b d && !isWorthD d)) = true) (h0 : 0 ≤ k) (h1 : k < (l.length : Int)) (hk : ∀ d, PD a d → Sh b d → isWorthD d = false → K d) : getO (ixl l k) K := by
  obtain ⟨d, e, hm⟩ := ixl_mem h0 h1
  have := List.all_eq_true.mp h d hm
  simp only [Bool.and_eq_true, Bool.not_eq_true'] at this
  exact getO_eq e (hk d (pdB_ok this.1) (shB_ok this.2.1) this.2.2)
/-! the rows of an own list frozen -/
section
variable {K : PySem.W.Frag} {F H : Hp} {fx : Fx} {M : MS} {L : List (V × D)} {σ : L2.St}
theorem SR.frzTopR {v : V} {l : List D} (h : SR K fx M ((v, .own l) :: L) σ F H) : ∃ F', SR K fx M ((v, .own (D.frzs l)) :: L) σ F' H ∧ Same F F' := by
  obtain ⟨sub, stay, agree, shape, fs, gs, r1, r2, c, g⟩ := h
  cases r2 with
  | @cons _ _ f0 _ gs q r =>
    generalize hd : D.own l = dd at q
    cases q <;> try (cases hd; done)
    rename_i a vs l0 f nF hH q
    cases hd
    have ca : ∀ x, (a :: f).count x = f.count x + if x = a then 1 else 0 := fun x => count_c x a f
    have c' : ∀ x, cnt x fs + (f.count x + (if x = a then 1 else 0) + cnt x gs) ≤ 1 := fun x => by have := c x; simp only [cnt] at this; rw [ca x] at this; exact this
    have af : a ∉ f := fun z => by
      have h1 := c' a
      have h2 := List.count_pos_iff.mpr z
      rw [if_pos rfl] at h1; omega
    have hF : Same F (fun b => if b ∈ f then H b else F b) := fun b o e => by
      have nb : b ∉ f := fun z => by have := (Rps.foot _ _ _ q b z).1; rw [e] at this; cases this
      show (if b ∈ f then H b else F b) = some o
      rw [if_neg nb]; exact e
    have nb : ∀ b, 0 < cnt b fs + cnt b gs → b ∉ f := fun b z hb => by
      have := List.count_pos_iff.mpr hb
      have := c' b
      omega
    have pf := Rps.frz (H' := H) hF _ _ _ (fun b z => by show (if b ∈ f then H b else F b) = H b; rw [if_pos z]) q
    have own : Rp K (fun b => if b ∈ f then H b else F b) H (.own (D.frzs l)) (.ref a) [a] := .own (by show (if a ∈ f then H a else F a) = none; rw [if_neg af]; exact nF) hH pf
    refine ⟨fun b => if b ∈ f then H b else F b, ⟨fun b o e => ?_, stay, fun b z => ?_, shape, fs, [a] :: gs, r1.mono hF fun b z => ?_, .cons own (r.mono hF fun b z => ?_), fun x => ?_, fun x z => ?_⟩, hF⟩
    · have e' : (if b ∈ f then H b else F b) = some o := e
      by_cases hb : b ∈ f
      · rw [if_pos hb] at e'; exact e'
      · rw [if_neg hb] at e'; exact sub b o e'
    · have hb : b ∉ f := fun hb => z (g b (by have := List.count_pos_iff.mpr hb; simp only [cnt]; rw [ca b]; omega))
      show (if b ∈ f then H b else F b) = _
      rw [if_neg hb]; exact agree b z
    · refine ⟨?_, rfl⟩
      show (if b ∈ f then H b else F b) = none
      rw [if_neg (nb b (by omega))]; exact (r1.foot b z).1
    · refine ⟨?_, rfl⟩
      show (if b ∈ f then H b else F b) = none
      rw [if_neg (nb b (by omega))]; exact (r.foot b z).1
    · have h1 := c' x
      have h2 := count_c x a []
      simp only [cnt]
      rw [h2]
      simp only [List.count_nil]
      omega
    · refine g x ?_
      have h2 := count_c x a []
      simp only [cnt] at z ⊢
      rw [h2] at z
      simp only [List.count_nil] at z
      rw [ca x]; omega
theorem SR.frzRowsAt (h : SR K fx M L σ F H) {i : Nat} {l : List D} (e : M[i]? = some (.va (.own l))) : ∃ F', SR K fx (M.set i (.va (.own (D.frzs l)))) L σ F' H ∧ Same F F' := by
  obtain ⟨v, hv, h1⟩ := h.move e
  obtain ⟨F', h2, s⟩ := h1.frzTopR
  have hi : i < M.length := (List.getElem?_eq_some_iff.mp e).1
  have h3 := h2.back (i := i) (by rw [List.getElem?_set_self hi]) hv
  rw [List.set_set] at h3
  exact ⟨F', h3, s⟩
end
def sPreR (i : Nat) (r : DS) : DS := fun D M => match M[i]? with
  | some (.va (.own l)) => ∃ l', TL.D.frzs l = l' ∧ stM (M.set i (.va (.own l'))) fun M' => r D M'
  | _ => False
theorem s_preR {X : Cx} {W : WX} {st : Stmt} {r : DS} {i : Nat} (h : PS X st (liftS X.K W r)) : PS X st (liftS X.K W (sPreR i r)) := psW h fun D σ H ⟨fx, M, F, D0, sr, he, h1, h2, h3, h4, h5⟩ => by
  unfold sPreR at he
  split at he
  · rename_i l e
    obtain ⟨_, rfl, he⟩ := he
    have he := stM_i he
    obtain ⟨F1, sr1, s1⟩ := sr.frzRowsAt e
    exact ⟨fx, _, F1, D0, sr1, he, fun M' σ' F' H' z s => h1 M' σ' F' H' z (s1.trans s), fun d M' v σ' F' H' z s => h2 d M' v σ' F' H' z (s1.trans s), fun M' σ' F' H' z s => h3 M' σ' F' H' z (s1.trans s),
        fun M' σ' F' H' z s => h4 M' σ' F' H' z (s1.trans s), fun C M' σ' F' H' z s => h5 C M' σ' F' H' z (s1.trans s)⟩
  · exact he.elim
theorem sz_log {n : Nat} {x : Int} (h : Sz n x) : x.natAbs.log2 < n + 1 := by
  unfold Sz at h
  exact PySem.Flt.log2_lt_of (by omega) (by have := Nat.pow_succ (n := 2) (m := n); omega)
theorem sh_qD {q : Rat} (h : Qz 40 q) : Sh 84 (qD q) := by
  refine sh_tup (n := 41) (fun d hd => ?_) (by simp)
  simp only [List.mem_cons, List.not_mem_nil, or_false] at hd
  rcases hd with rfl | rfl
  · exact sh_int (sz_log h.1) (by decide)
  · exact sh_int (sz_log h.2) (by decide)
theorem sh_qL {r : List Rat} (h : ∀ q ∈ r, Qz 40 q) (hl : r.length ≤ 13) : Sh 1105 (qL r) := by
  refine sh_lst (n := 84) (fun d hd => ?_) (by rw [List.length_map]; omega)
  obtain ⟨q, hq, rfl⟩ := List.mem_map.mp hd
  exact sh_qD (h q hq)
theorem sh_bkL {b : List (List Rat)} (h : BkZ 40 b) (hl : ∀ r ∈ b, r.length ≤ 13) (h8 : b.length ≤ 8) : Sh 8848 (bkL b) := by
  refine sh_lst (n := 1105) (fun d hd => ?_) (by rw [List.length_map]; omega)
  obtain ⟨r, hr, rfl⟩ := List.mem_map.mp hd
  exact sh_qL (h r hr) (hl r hr)
theorem pd_rows {b : List (List Rat)} (hl : ∀ r ∈ b, r.length ≤ 13) (h8 : b.length ≤ 8) : PD 4 (bkL b) := by
  refine pd_lst (n := 3) (by rw [List.length_map]; omega) fun d hd => ?_
  obtain ⟨r, hr, rfl⟩ := List.mem_map.mp hd
  exact pd_qL 1 r (by have := hl r hr; omega)
/-! bent books -/
/-- what may come of a bent book -/
def Bent (e : D) : Prop := PD 6 e ∧ Sh 14000 e ∧ ∀ b' m', e = bkL b' → Bk b' m' → BkZ 40 b'
theorem bent_rows {c : List (List Rat)} (hz : BkZ 40 c) (hl : ∀ r ∈ c, r.length ≤ 13) (h8 : c.length ≤ 8) : Bent (bkL c) :=
  ⟨(pd_rows hl h8).mono (by decide), (sh_bkL hz hl h8).mono (by decide), fun b' m' e _ => bkL_inj e ▸ hz⟩
theorem bent_no {e : D} (h1 : PD 6 e) (h2 : Sh 14000 e) (h3 : isBookD e = false) : Bent e :=
  ⟨h1, h2, fun b' m' eb hb => by subst eb; rw [isBookD_bkL hb] at h3; cases h3⟩
theorem frzs_set : ∀ (l : List D) (k : Nat) (d : D), D.frzs (l.set k d) = (D.frzs l).set k d.frz
  | [], k, d => by simp [D.frzs]
  | x :: l, 0, d => by rw [List.set_cons_zero, frzs_cons, frzs_cons, List.set_cons_zero]
  | x :: l, k + 1, d => by rw [List.set_cons_succ, frzs_cons, frzs_cons, List.set_cons_succ, frzs_set l k d]
theorem nbk_row {y : D} {L : List D} (h : ∀ r : List Rat, y ≠ qL r) (hy : y ∈ L) : isBookD (.lst L) = false := by
  cases e : isBookD (.lst L) with
  | false => rfl
  | true =>
    obtain ⟨b, m, e2, hb⟩ := isBookD_iff.mp e
    unfold bkL at e2
    simp only [D.lst.injEq] at e2
    rw [e2] at hy
    obtain ⟨r, _, er⟩ := List.mem_map.mp hy
    exact absurd er.symm (h r)
theorem mem_set_self {α : Type} {l : List α} {k : Nat} {x : α} (h : k < l.length) : x ∈ l.set k x := List.mem_iff_getElem.mpr ⟨k, by rw [List.length_set]; exact h, by rw [List.getElem_set_self]⟩
theorem erase_map {α β : Type} (f : α → β) : ∀ (l : List α) (k : Nat), (l.map f).eraseIdx k = (l.eraseIdx k).map f
  | [], k => by simp
  | x :: l, 0 => by simp
  | x :: l, k + 1 => by simp [erase_map f l k]
theorem sh_own2 {B a b n : Nat} {x y : D} (hx : ShB B a x) (hy : ShB B b y) (hn : a + b + 2 ≤ n) : ShB B n (.own [x, y]) := by
  have e : (D.own [x, y]).toP = .list (D.toPs [x, y]) := by unfold D.toP; rfl
  have e2 : D.toPs [x, y] = [x.toP, y.toP] := by simp only [D.toPs]
  refine ⟨?_, ?_, ?_⟩
  · rw [e, e2, PyData.leavesShort, PyData.leavesShortAll, PyData.leavesShortAll, PyData.leavesShortAll, hx.lv, hy.lv]; rfl
  · rw [e, e2, PyData.showable, PyData.showableAll, PyData.showableAll, PyData.showableAll, hx.sh, hy.sh]; rfl
  · rw [e, e2, PyData.weight, PyData.weightAll, PyData.weightAll, PyData.weightAll]
    have := hx.wt
    have := hy.wt
    omega
theorem sh_int2 {n : Nat} {i : Int} (h : i.natAbs.log2 < n) (hn : n ≤ 1050) : ShB 1051 n (.int i) := by
  have e : (D.int i).toP = .int i := by unfold D.toP; rfl
  refine ⟨?_, ?_, ?_⟩
  · rw [e, PyData.leavesShort]
    refine decide_eq_true (Nat.le_trans (show (PyData.shown (.int i)).length ≤ n + 1 from ?_) (by omega))
    rw [PyData.shown]
    show (Str.ofString (toString i)).length ≤ n + 1
    rw [PySem.ofString_length]
    exact int_text_length_le (by omega) h
  · rw [e, PyData.showable]; exact decide_eq_true (by omega)
  · rw [e, PyData.weight]; split <;> omega
/-- great fractions: their signs counted by tens -/
theorem sh_int3 {n : Nat} {i : Int} (h : i.natAbs < 10 ^ 259) (h2 : i.natAbs.log2 < n) (hn : n ≤ 1900) : ShB 300 n (.int i) := by
  have e : (D.int i).toP = .int i := by unfold D.toP; rfl
  refine ⟨?_, ?_, ?_⟩
  · rw [e, PyData.leavesShort]
    refine decide_eq_true (Nat.le_trans (show (PyData.shown (.int i)).length ≤ 259 + 1 from ?_) (by omega))
    rw [PyData.shown]
    show (Str.ofString (toString i)).length ≤ 259 + 1
    rw [PySem.ofString_length]
    exact int_text_length_le10 (by decide) h
  · rw [e, PyData.showable]; exact decide_eq_true (by omega)
  · rw [e, PyData.weight]; split <;> omega
theorem sh_q3 {q : Rat} (h : Qz 850 q) : ShB 300 1704 (qD q) := by
  have p : (2 : Nat) ^ 850 < 10 ^ 259 := by decide
  refine sh_tup (n := 851) (fun d hd => ?_) (by simp)
  simp only [List.mem_cons, List.not_mem_nil, or_false] at hd
  rcases hd with rfl | rfl
  · exact sh_int3 (Nat.lt_trans h.1 p) (sz_log h.1) (by decide)
  · exact sh_int3 (Nat.lt_trans h.2 p) (sz_log h.2) (by decide)
theorem sh_nat3 {n i : Nat} (h : i < 2 ^ n) (hn : n ≤ 800) (h0 : 1 ≤ n) : ShB 300 n (.int (i : Int)) := by
  have p : (2 : Nat) ^ 800 < 10 ^ 259 := by decide
  exact sh_int3 (Nat.lt_trans (Nat.lt_of_lt_of_le (by rw [Int.natAbs_natCast]; exact h) (Nat.pow_le_pow_right (by decide) hn)) p) (by rw [Int.natAbs_natCast]; exact PySem.Flt.log2_lt_of (by omega) h) (by omega)
end TL
/-! # layers and the few -/
namespace TL
open PySem PyProof.Rows L2
/-- shares above 0 -/
def PosR (r : Rule) : Prop := match r with
  | .shares ws => ∀ w ∈ ws, 0 < w
  | _ => False
theorem fold_sum_strict {ws : List Rat} (hw : ∀ w ∈ ws, 0 < w) : ∀ {l m : List Rat} {s t : Rat}, l.length = ws.length → m.length = ws.length → (∀ p ∈ l.zip m, p.1 ≤ p.2) → s ≤ t → (s < t ∨ ∃ p ∈ l.zip m, p.1 < p.2) →
    (ws.zip l).foldl (fun t p => t + p.1 * p.2) s < (ws.zip m).foldl (fun t p => t + p.1 * p.2) t := by
  induction ws with
  | nil =>
    intro l m s t h1 h2 _ _ h
    have e1 := List.length_eq_zero_iff.mp h1
    have e2 := List.length_eq_zero_iff.mp h2
    subst e1; subst e2
    rcases h with h | ⟨p, hp, _⟩
    · simpa using h
    · cases hp
  | cons w ws ih =>
    intro l m s t h1 h2 hle hst h
    cases l with
    | nil => simp at h1
    | cons a l =>
      cases m with
      | nil => simp at h2
      | cons b m =>
        rw [List.zip_cons_cons, List.zip_cons_cons, List.foldl_cons, List.foldl_cons]
        have hw0 := hw w (List.mem_cons_self ..)
        have hab : a ≤ b := hle (a, b) (by simp)
        have h3 : w * a ≤ w * b := Rat.mul_le_mul_of_nonneg_left hab (Rat.le_of_lt hw0)
        refine ih (fun w hm => hw w (List.mem_cons_of_mem _ hm)) (by simpa using h1) (by simpa using h2) (fun p hp => hle p (by simp [hp])) (by simp only; grind) ?_
        rcases h with h | ⟨p, hp, hlt⟩
        · left; simp only; grind
        · rw [List.zip_cons_cons] at hp
          rcases List.mem_cons.mp hp with rfl | hp
          · left
            have : w * a < w * b := Rat.mul_lt_mul_of_pos_left hlt hw0
            simp only; grind
          · exact .inr ⟨p, hp, hlt⟩
section
variable {b : List (List Rat)} {m : Nat} (hb : Bk b m) {r : Rule} {i j : Nat}
include hb
theorem col_zip_le (h : ∀ row ∈ b, wt row j ≤ wt row i) : ∀ p ∈ (col b j).zip (col b i), p.1 ≤ p.2 := by
  intro p hp
  unfold col at hp
  rw [List.zip_map'] at hp
  obtain ⟨row, hr, rfl⟩ := List.mem_map.mp hp
  exact h row hr
theorem col_nn (hj : j < m) : ∀ q ∈ col b j, 0 ≤ q := by
  intro q hq
  unfold col at hq
  obtain ⟨row, hr, rfl⟩ := List.mem_map.mp hq
  exact (hb.wts row hr _ (wt_mem (by rw [hb.len row hr]; exact hj))).1
theorem worth_beats (hr : Ru r b.length) (hj : j < m) (h : beatsQ b i j = true) : worthBy r (col b j) ≤ worthBy r (col b i) :=
  worthBy_mono (by rw [col_length]; exact hr) (by rw [col_length]; exact hb.l1) (by rw [col_length, col_length]) (col_zip_le hb (beatsQ_iff.mp h).1) (col_nn hb hj)
theorem worth_strict (hr : Ru r b.length) (hp : PosR r) (h : beatsQ b i j = true) : worthBy r (col b j) < worthBy r (col b i) := by
  cases r with
  | shares ws =>
    obtain ⟨h1, row, hrow, h2⟩ := beatsQ_iff.mp h
    refine fold_sum_strict hp (by rw [col_length]; exact hr.1.symm) (by rw [col_length]; exact hr.1.symm) (col_zip_le hb h1) Rat.le_refl (.inr ⟨(wt row j, wt row i), ?_, h2⟩)
    unfold col
    rw [List.zip_map']
    exact List.mem_map.mpr ⟨row, hrow, rfl⟩
  | _ => exact hp.elim
omit hb in
/-- somebody unbeaten stands above -/
theorem above {ts : List Nat} (hj : j ∈ ts) : ∃ u ∈ firstLayer b ts, u = j ∨ beatsQ b u j = true := by
  have hne : (ts.filter fun x => decide (x = j) || beatsQ b x j) ≠ [] := List.ne_nil_of_mem (List.mem_filter.mpr ⟨hj, by simp⟩)
  obtain ⟨u, hu, hm⟩ := exists_top (sumAt b) hne
  obtain ⟨u1, u2⟩ := List.mem_filter.mp hu
  have u2 : u = j ∨ beatsQ b u j = true := by simpa using u2
  refine ⟨u, mem_firstLayer.mpr ⟨u1, fun x hx => ?_⟩, u2⟩
  cases e : beatsQ b x u with
  | false => rfl
  | true =>
    have hx2 : beatsQ b x j = true := by
      rcases u2 with rfl | u2
      · exact e
      · exact beats_tr e u2
    have := hm x (List.mem_filter.mpr ⟨hx, by simp [hx2]⟩)
    have := beats_sum e
    grind
omit hb in
/-- who stands in layer d has d others above -/
theorem chain : ∀ (n : Nat) {ts : List Nat}, ts.length ≤ n → ∀ {d : Nat} {l : List Nat} {j : Nat}, (layers b ts)[d]? = some l → j ∈ l → ∃ S : List Nat, S.Nodup ∧ S.length = d ∧ ∀ s ∈ S, s ∈ ts ∧ beatsQ b s j = true
  | 0, ts, hn, d, l, j, h, _ => by
    have : ts = [] := List.length_eq_zero_iff.mp (by omega)
    subst this
    rw [layers_nil] at h; simp at h
  | n + 1, ts, hn, d, l, j, h, hj => by
    by_cases e : ts = []
    · subst e; rw [layers_nil] at h; simp at h
    · rw [layers_cons e] at h
      cases d with
      | zero => exact ⟨[], .nil, rfl, fun s hs => nomatch hs⟩
      | succ d =>
        rw [List.getElem?_cons_succ] at h
        have hl := rest_lt (b := b) e
        obtain ⟨S, s1, s2, s3⟩ := chain n (by omega) h hj
        have hjr := layers_mem n (by omega) h hj
        obtain ⟨j1, j2⟩ := List.mem_filter.mp hjr
        obtain ⟨u, u1, u2⟩ := above (b := b) j1
        have uj : u ≠ j := fun z => by subst z; simp [u1] at j2
        refine ⟨u :: S, List.nodup_cons.mpr ⟨fun z => ?_, s1⟩, by rw [List.length_cons, s2], fun s hs => ?_⟩
        · have := (List.mem_filter.mp (s3 u z).1).2
          simp [u1] at this
        · rcases List.mem_cons.mp hs with rfl | hs
          · exact ⟨(mem_firstLayer.mp u1).1, u2.resolve_left uj⟩
          · exact ⟨(List.mem_filter.mp (s3 s hs).1).1, (s3 s hs).2⟩
where
  layers_mem : ∀ (n : Nat) {ts : List Nat}, ts.length ≤ n → ∀ {d : Nat} {l : List Nat} {j : Nat}, (layers b ts)[d]? = some l → j ∈ l → j ∈ ts
  | 0, ts, hn, d, l, j, h, _ => by
    have : ts = [] := List.length_eq_zero_iff.mp (by omega)
    subst this
    rw [layers_nil] at h; simp at h
  | n + 1, ts, hn, d, l, j, h, hj => by
    by_cases e : ts = []
    · subst e; rw [layers_nil] at h; simp at h
    · rw [layers_cons e] at h
      cases d with
      | zero =>
        rw [List.getElem?_cons_zero] at h
        cases h
        exact (mem_firstLayer.mp hj).1
      | succ d =>
        rw [List.getElem?_cons_succ] at h
        have hl := rest_lt (b := b) e
        exact (List.mem_filter.mp (layers_mem n (by omega) h hj)).1
omit hb in
/-- everybody stands in a layer -/
theorem in_layer : ∀ (n : Nat) {ts : List Nat}, ts.length ≤ n → ∀ {j : Nat}, j ∈ ts → ∃ (d : Nat) (l : List Nat), (layers b ts)[d]? = some l ∧ j ∈ l
  | 0, ts, hn, j, hj => by
    have : ts = [] := List.length_eq_zero_iff.mp (by omega)
    subst this; cases hj
  | n + 1, ts, hn, j, hj => by
    have e : ts ≠ [] := fun e => by subst e; cases hj
    have hl := rest_lt (b := b) e
    rw [layers_cons e]
    by_cases h1 : j ∈ firstLayer b ts
    · exact ⟨0, _, rfl, h1⟩
    · obtain ⟨d, l, h2, h3⟩ := in_layer n (ts := ts.filter fun j => !decide (j ∈ firstLayer b ts)) (by omega) (j := j) (List.mem_filter.mpr ⟨hj, by simp [h1]⟩)
      exact ⟨d + 1, l, by rw [List.getElem?_cons_succ]; exact h2, h3⟩
omit hb in
theorem layers_len : ∀ (n : Nat) {ts : List Nat}, ts.length ≤ n → (layers b ts).length ≤ ts.length ∧ ∀ l ∈ layers b ts, l.length ≤ ts.length ∧ ∀ t ∈ l, t ∈ ts
  | 0, ts, hn => by
    have : ts = [] := List.length_eq_zero_iff.mp (by omega)
    subst this
    rw [layers_nil]; exact ⟨by simp, fun l hl => by cases hl⟩
  | n + 1, ts, hn => by
    by_cases e : ts = []
    · subst e; rw [layers_nil]; exact ⟨by simp, fun l hl => by cases hl⟩
    · have hl := rest_lt (b := b) e
      obtain ⟨h1, h2⟩ := layers_len n (ts := ts.filter fun j => !decide (j ∈ firstLayer b ts)) (by omega)
      rw [layers_cons e]
      refine ⟨by rw [List.length_cons]; omega, fun l hm => ?_⟩
      rcases List.mem_cons.mp hm with rfl | hm
      · exact ⟨by unfold firstLayer; exact List.length_filter_le _ _, fun t ht => (mem_firstLayer.mp ht).1⟩
      · obtain ⟨h3, h4⟩ := h2 l hm
        exact ⟨by omega, fun t ht => (List.mem_filter.mp (h4 t ht)).1⟩
omit hb in
/-- the first of any order by a worth that goes up with beating stand in so many layers -/
theorem first_in_layers {W : Nat → Rat} (hW : ∀ i j, i < m → j < m → beatsQ b i j = true → W j < W i) {l : List Nat} (hp : l.Perm (List.range m)) (hs : l.Pairwise fun i j => W j ≤ W i) {c t : Nat} (ht : t ∈ l.take c) :
    t ∈ ((layers b (List.range m)).take c).flatten := by
  have htm : t < m := List.mem_range.mp (hp.mem_iff.mp (List.mem_of_mem_take ht))
  obtain ⟨d, la, h1, h2⟩ := in_layer (b := b) m (by simp) (List.mem_range.mpr htm)
  obtain ⟨S, s1, s2, s3⟩ := chain (b := b) m (by simp) h1 h2
  have hd : d < c := by
    rw [List.mem_take_iff_getElem] at ht
    obtain ⟨p, hp1, hp2⟩ := ht
    have hsub : ∀ s ∈ S, s ∈ l.take p := by
      intro s hs'
      obtain ⟨g1, g2⟩ := s3 s hs'
      have hsm := List.mem_range.mp g1
      have hlt := hW s t hsm htm g2
      have hsl : s ∈ l := hp.mem_iff.mpr g1
      rcases mem_take_or p hsl with g | g
      · exact g
      · exfalso
        rw [List.drop_eq_getElem_cons (by omega)] at g
        rcases List.mem_cons.mp g with g | g
        · rw [hp2] at g; subst g; exact absurd hlt Rat.lt_irrefl
        · obtain ⟨q, hq, eq⟩ := List.mem_iff_getElem.mp g
          rw [List.getElem_drop] at eq
          rw [List.length_drop] at hq
          have := List.pairwise_iff_getElem.mp hs p (p + 1 + q) (by omega) (by omega) (by omega)
          rw [hp2, eq] at this
          grind
    have := s1.length_le_of_subset hsub
    rw [List.length_take] at this
    omega
  refine List.mem_flatten.mpr ⟨la, ?_, h2⟩
  refine List.mem_iff_getElem?.mpr ⟨d, ?_⟩
  rw [List.getElem?_take, if_pos hd]; exact h1
end
theorem wt_worthsOf {b : List (List Rat)} {r : Rule} {j : Nat} (hj : j < thingsN b) : wt (worthsOf b r) j = worthBy r (col b j) := by
  unfold worthsOf wt
  rw [List.getD_eq_getElem?_getD, List.getElem?_map, List.getElem?_range hj]; rfl
theorem few_ok (b : List (List Rat)) (r : Rule) : ((fewBy b r).map Prod.fst).Perm (List.range (thingsN b)) ∧ ((fewBy b r).map Prod.fst).Pairwise (fun i j => wt (worthsOf b r) j ≤ wt (worthsOf b r) i) ∧
    ∀ p ∈ fewBy b r, p.1 < thingsN b ∧ p.2 = wt (worthsOf b r) p.1 := by
  have hm : ∀ p ∈ fewBy b r, p.1 < thingsN b ∧ p.2 = wt (worthsOf b r) p.1 := by
    intro p hp
    unfold fewBy at hp
    obtain ⟨x, hx, rfl⟩ := List.mem_map.mp (mem_sortBy.mp hp)
    have := zipIdx_wt hx
    rw [worthsOf_length] at this
    exact this
  refine ⟨?_, ?_, hm⟩
  · have h1 : (fewBy b r).Perm ((worthsOf b r).zipIdx.map fun p => (p.2, p.1)) := sortBy_perm _ _
    have h2 := h1.map Prod.fst
    have h3 : ((worthsOf b r).zipIdx.map fun p => (p.2, p.1)).map Prod.fst = List.range (thingsN b) := by
      rw [List.map_map]
      apply List.ext_getElem
      · simp [worthsOf_length]
      · intro i h1 h2; simp
    rw [h3] at h2
    exact h2
  · have T : TotGe (fun p q : Nat × Rat => geQ p.2 q.2) := geQ_tot.on fun p : Nat × Rat => p.2
    have h1 : (fewBy b r).Pairwise (fun p q => geQ p.2 q.2 = true) := sortBy_sorted T _
    rw [List.pairwise_map]
    refine h1.imp_of_mem fun {p q} hp hq h => ?_
    rw [← (hm p hp).2, ← (hm q hq).2]
    exact geQ_iff.mp h
end TL
/-! # weights of two lists -/
namespace TL
open PySem PyProof.Rows L2
theorem worthBy_zw {r : Rule} {l : List Rat} (h : Ru r l.length) (hr : RuZ 620 r) (hl : ∀ q ∈ l, Qz 50 q) (h1 : 1 ≤ l.length) (h4 : l.length ≤ 4) : Qz 4000 (worthBy r l) := by
  refine Qz.mono (worthBy_qz h hr hl h1) ?_
  have := Nat.mul_le_mul_right (620 + 50 + 1) h4
  omega
theorem wby_zw {b : List (List Rat)} {m j : Nat} {r : Rule} (h : Bk b m) (hz : BkZ 50 b) (hr : Ru r b.length) (hrz : RuZ 620 r) (hj : j < m) : Ru r (col b j).length ∧ (∀ q ∈ col b j, Qz 50 q) ∧ 1 ≤ (col b j).length ∧ (col b j).length ≤ 4 ∧ Qz 4000 (worthBy r (col b j)) := by
  have h1 : ∀ q ∈ col b j, Qz 50 q := fun q hq => by obtain ⟨r, hr, hq⟩ := mem_col h hj hq; exact hz r hr q hq
  have l1 := h.l1
  have l4 := h.l4
  have e := col_length b j
  have hr' : Ru r (col b j).length := by rw [e]; exact hr
  exact ⟨hr', h1, by omega, by omega, worthBy_zw hr' hrz h1 (by omega) (by omega)⟩
theorem mem_worthsOfw {b : List (List Rat)} {m : Nat} {r : Rule} (h : Bk b m) (hz : BkZ 50 b) (hr : Ru r b.length) (hrz : RuZ 620 r) : ∀ q ∈ worthsOf b r, Qz 4000 q := by
  intro q hq
  unfold worthsOf at hq
  obtain ⟨j, hj, rfl⟩ := List.mem_map.mp hq
  rw [List.mem_range, h.things] at hj
  exact (wby_zw h hz hr hrz hj).2.2.2.2
/-- the weight at which two things are worth the same -/
def crossQ (b : List (List Rat)) (i j : Nat) : Option Rat :=
  if wt (b.getD 0 []) i - wt (b.getD 0 []) j = wt (b.getD 1 []) i - wt (b.getD 1 []) j then none
  else some ((0 - (wt (b.getD 1 []) i - wt (b.getD 1 []) j)) / ((wt (b.getD 0 []) i - wt (b.getD 0 []) j) - (wt (b.getD 1 []) i - wt (b.getD 1 []) j)))
theorem crossQ_z {b : List (List Rat)} {m i j : Nat} (hb : Bk b m) (hz : BkZ 50 b) (h2 : b.length = 2) (hi : i < m) (hj : j < m) {w : Rat} (h : crossQ b i j = some w) : Qz 306 w := by
  unfold crossQ at h
  split at h
  · cases h
  · rename_i ne
    cases h
    have h0 := getD_mem (b := b) (k := 0) (d := []) (by omega)
    have h1 := getD_mem (b := b) (k := 1) (d := []) (by omega)
    have z : ∀ k, b.getD k [] ∈ b → ∀ t, t < m → Qz 50 (wt (b.getD k []) t) := fun k hk t ht => hz _ hk _ (wt_mem (by rw [hb.len _ hk]; exact ht))
    have y := (z 1 h1 i hi).sub (z 1 h1 j hj)
    have x := (z 0 h0 i hi).sub (z 0 h0 j hj)
    refine ((qz_0.sub y).div (x.sub y) fun e => ne ?_).mono (by decide)
    grind
def markIns (ms : List Rat) (o : Option Rat) : List Rat := match o with
  | none => ms
  | some w => if w ∈ ms then ms else if 0 < w ∧ w < 1 then insAt ms (ms.filter fun x => decide (x < w)).length w else ms
def marksOf (b : List (List Rat)) (m : Nat) : List Rat := (List.range m).foldl (fun ms i => (List.range i).foldl (fun ms j => markIns ms (crossQ b i j)) ms) [0, 1]
/-- fractions between 0 and 1, not too great, not too many -/
structure MkOk (n : Nat) (ms : List Rat) : Prop where
  l2 : 2 ≤ ms.length
  ln : ms.length ≤ n
  el : ∀ w ∈ ms, 0 ≤ w ∧ w ≤ 1 ∧ Qz 306 w
theorem MkOk.mono' {n m : Nat} {ms : List Rat} (h : MkOk n ms) (hm : n ≤ m) : MkOk m ms := ⟨h.l2, Nat.le_trans h.ln hm, h.el⟩
theorem MkOk.ins {n : Nat} {ms : List Rat} (h : MkOk n ms) {o : Option Rat} (ho : ∀ w, o = some w → Qz 306 w) : MkOk (n + 1) (markIns ms o) := by
  cases o with
  | none => exact ⟨h.l2, by show ms.length ≤ n + 1; have := h.ln; omega, h.el⟩
  | some w =>
    show MkOk (n + 1) (if w ∈ ms then ms else if 0 < w ∧ w < 1 then insAt ms (ms.filter fun x => decide (x < w)).length w else ms)
    split
    · exact ⟨h.l2, by have := h.ln; omega, h.el⟩
    · split
      · rename_i hw
        refine ⟨?_, ?_, fun x hx => ?_⟩
        · rw [insAt_length]; have := h.l2; omega
        · rw [insAt_length]; have := h.ln; omega
        · rcases mem_insAt.mp hx with rfl | hx
          · exact ⟨Rat.le_of_lt hw.1, Rat.le_of_lt hw.2, ho _ rfl⟩
          · exact h.el x hx
      · exact ⟨h.l2, by have := h.ln; omega, h.el⟩
/-- the rule of a weight -/
def ruleAt (w : Rat) : Rule := .shares [w, 1 - w]
theorem ruleAt_ok {w : Rat} (h0 : 0 ≤ w) (h1 : w ≤ 1) : Ru (ruleAt w) 2 := ⟨rfl, fun x hx => by
  simp only [List.mem_cons, List.not_mem_nil, or_false] at hx
  rcases hx with rfl | rfl
  · exact h0
  · grind⟩
theorem ruleAt_z {w : Rat} (h : Qz 617 w) : RuZ 620 (ruleAt w) := fun x hx => by
  simp only [List.mem_cons, List.not_mem_nil, or_false] at hx
  rcases hx with rfl | rfl
  · exact h.mono (by decide)
  · exact (qz_1.sub h).mono (by decide)
def fewAt (b : List (List Rat)) (c : Nat) (lo hi : Rat) : List Nat := sortN (((fewBy b (ruleAt (1 / 2 * (lo + hi)))).take c).map Prod.fst)
theorem inD_qD (w : Rat) (l : List Rat) : inD (qD w) (l.map qD) = decide (w ∈ l) := by
  unfold inD
  rw [List.any_map, Bool.eq_iff_iff, List.any_eq_true, decide_eq_true_iff]
  constructor
  · rintro ⟨x, hx, e⟩
    rw [Function.comp, eqv_qD, decide_eq_true_iff] at e
    rw [← e]; exact hx
  · intro h
    exact ⟨w, h, by rw [Function.comp, eqv_qD]; exact decide_eq_true rfl⟩
theorem eqOk_inQ (w : Rat) (l : List Rat) : eqOk (qD w) (.own (l.map qD)) := ⟨okD_qD w 7, by unfold okD; exact okD_map (fun q => okD_qD q 6) l⟩
/-- stretches of weights: from, to, whom -/
abbrev St := Rat × Rat × List Nat
def stD (s : St) : D := .tup [qD s.1, qD s.2.1, .lst (nL s.2.2)]
def addSt (acc : List St) (p : Rat × Rat) (ts : List Nat) : List St := match acc.getLast? with
  | none => acc ++ [(p.1, p.2, ts)]
  | some l => if l.2.2 = ts then acc.dropLast ++ [(l.1, p.2, ts)] else acc ++ [(p.1, p.2, ts)]
def stretches (b : List (List Rat)) (c m : Nat) : List St := ((marksOf b m).zip ((marksOf b m).drop 1)).foldl (fun acc p => addSt acc p (fewAt b c p.1 p.2)) []
theorem addSt_len (acc : List St) (p : Rat × Rat) (ts : List Nat) : (addSt acc p ts).length ≤ acc.length + 1 := by
  unfold addSt
  split
  · simp
  · split
    · rw [List.length_append, List.length_dropLast, List.length_singleton]; omega
    · simp
theorem eqv_nL (l m : List Nat) : D.eqv (.lst (nL l)) (.lst (nL m)) = decide (l = m) := by
  rw [eqv_lst]
  exact eqvs_map (fun i : Nat => D.int (i : Int)) (fun a b => by rw [eqv_int, Bool.eq_iff_iff, beq_iff_eq, decide_eq_true_iff]; omega) l m
/-! xs.count(True), xs.index(True) of truths -/
def rCntV (K : PySem.W.Frag) : V → List V → Hp → VK → Prop := fun x xs H Q => ∃ (p : Addr) (ys : List V) (y : V), x = .ref p ∧ xs = [y] ∧ SqL K H p ys ∧ flatV y = true ∧ ys.all flatV = true ∧ Q (.int (ys.countP (fun z => eqV z y) : Nat)) H
theorem cnt_eqU {x : V} : ∀ {xs : List V} {us : List Value}, Vals xs us → xs.all flatV = true → us.countP (eqU x) = xs.countP fun y => eqV y x
  | _, _, .nil, _ => rfl
  | y :: xs, u :: us, .cons r t, f => by
    rw [List.all_cons, Bool.and_eq_true] at f
    rw [List.countP_cons, List.countP_cons, eqU_of r f.1, cnt_eqU t f.2]
theorem mt_cntV {X : Cx} : MtR X "list.count" (rCntV X.K) := by
  intro pins s σ H x xs v us Q I rx rxs h
  obtain ⟨p, ys, y, rfl, rfl, hs, fy, fys, q⟩ := h
  cases rx
  cases rxs with
  | cons ry rt =>
    rename_i uy ut
    cases rt
    obtain ⟨its, rv, ⟨⟨cls, dd, data, sl⟩, n, ho, hc, hdn, hd⟩, hlen⟩ := I.list hs
    simp only at hc hd
    subst hc hd
    refine call_meets PySem.F.slot_list_count ⟨_, ho, rfl⟩ PySem.F.entry_list_count (PySem.F.args_list_count_2 _ _)
      (SeqAt.list_countAt p its.toArray n dd sl uy (eqU y)) ⟨ho, fun u' hu' => mem_eqAt ry fy rv fys u' (by simpa using hu'), ?_⟩
    have ec : its.toArray.toList.countP (eqU y) = ys.countP fun z => eqV z y := cnt_eqU rv fys
    refine ⟨.int (ys.countP (fun z => eqV z y) : Nat), H, I.tok _, ⟨s.toks, ?_⟩, q⟩
    show Value.int ((its.toArray.toList.countP (eqU y) : Nat) : Int) s.toks = Value.int ((ys.countP (fun z => eqV z y) : Nat) : Int) s.toks
    rw [ec]
section
variable {X : Cx} {W : WX} {o : Expr} {apos cpos p : Pos} {ea : DE}
/-- xs.count(True) -/
def dCntB (ea : DE) : DE := fun M Q E => ea M (fun x M1 => lsD x fun l => getO (asBls l) fun bs => Q (.int (bs.count true : Nat)) M1) E
theorem flat_bls (bs : List Bool) : (bs.map V.bl).all flatV = true := by
  rw [List.all_map, List.all_eq_true]; intro b _; rfl
theorem cnt_bls : ∀ bs : List Bool, (bs.map V.bl).countP (fun z => eqV z (.bl true)) = bs.count true
  | [] => rfl
  | b :: bs => by
    rw [List.map_cons, List.countP_cons, List.count_cons, cnt_bls bs]
    cases b <;> rfl
theorem d_cntB {j} (ho : PE X o (liftE X.K W ea)) (hbase : attributeBase o "count" X.env (eval o X.env) = eval o X.env := by rfl)
    (hfew : ((backTo cpos (starEach [.Constant (.bool true) j p] X.env)).all (fun x => !x.1) && (backToKw cpos (keywordEach [] X.env)).all (fun x => x.1.isSome) && decide (([.Constant (.bool true) j p] : List Expr).length + ([] : List Keyword).length + (if ([] : List Keyword).isEmpty then 0 else 1) < 30)) = true := by rfl)
    (hline : (apos.endLine == cpos.line) = true := by rfl) (hs : starEach [.Constant (.bool true) j p] X.env = (false, eval (.Constant (.bool true) j p) X.env) :: starEach [] X.env := by rfl) (hplain : (backTo cpos (starEach [] X.env)).any (·.1) = false := by rfl) :
    PE X (.Call (.Attribute o "count" apos) [.Constant (.bool true) j p] [] cpos) (liftE X.K W (dCntB ea)) :=
  peW (pe_bm PySem.F.plainAttrs_list PySem.F.slot_list_count PySem.F.type_list_count mt_cntV ho (pa_cons pe_bl pa_nil hs) hbase hfew hline hs hplain) fun σ H Q ⟨fx, M, L, F, Q0, E0, sr, he, hq, hx⟩ =>
  ⟨fx, M, L, F, _, E0, sr, he, fun x M1 v F1 H1 q1 s1 sr1 => (by
    obtain ⟨f, pt⟩ := sr1.top
    obtain ⟨l, a, vs, g, h, rfl, hH, r⟩ := lsD_ok sr1.sub pt q1
    obtain ⟨bs, hb, h⟩ := getO_iff.mp h
    have e := asBls_ok r hb
    subst e
    refine ⟨.inl ⟨rfl, _, SqL.of hH⟩, a, _, _, rfl, rfl, SqL.of hH, rfl, flat_bls bs, ?_⟩
    rw [cnt_bls]
    exact hq _ M1 _ F1 _ h s1 (sr1.pop.push (.int _))), hx⟩
/-- xs.index(True) -/
def dIdxB (ea : DE) : DE := fun M Q E => ea M (fun x M1 => lsD x fun l => getO (asBls l) fun bs => getO (bs.findIdx? id) fun j => Q (.int (j : Nat)) M1) E
theorem d_idxB {j} (ho : PE X o (liftE X.K W ea)) (hbase : attributeBase o "index" X.env (eval o X.env) = eval o X.env := by rfl)
    (hfew : ((backTo cpos (starEach [.Constant (.bool true) j p] X.env)).all (fun x => !x.1) && (backToKw cpos (keywordEach [] X.env)).all (fun x => x.1.isSome) && decide (([.Constant (.bool true) j p] : List Expr).length + ([] : List Keyword).length + (if ([] : List Keyword).isEmpty then 0 else 1) < 30)) = true := by rfl)
    (hline : (apos.endLine == cpos.line) = true := by rfl) (hs : starEach [.Constant (.bool true) j p] X.env = (false, eval (.Constant (.bool true) j p) X.env) :: starEach [] X.env := by rfl) (hplain : (backTo cpos (starEach [] X.env)).any (·.1) = false := by rfl) :
    PE X (.Call (.Attribute o "index" apos) [.Constant (.bool true) j p] [] cpos) (liftE X.K W (dIdxB ea)) :=
  peW (pe_bm PySem.F.plainAttrs_list PySem.F.slot_list_index PySem.F.type_list_index mt_index ho (pa_cons pe_bl pa_nil hs) hbase hfew hline hs hplain) fun σ H Q ⟨fx, M, L, F, Q0, E0, sr, he, hq, hx⟩ =>
  ⟨fx, M, L, F, _, E0, sr, he, fun x M1 v F1 H1 q1 s1 sr1 => (by
    obtain ⟨f, pt⟩ := sr1.top
    obtain ⟨l, a, vs, g, h, rfl, hH, r⟩ := lsD_ok sr1.sub pt q1
    obtain ⟨bs, hb, h⟩ := getO_iff.mp h
    obtain ⟨k, hk, h⟩ := getO_iff.mp h
    have e := asBls_ok r hb
    subst e
    obtain ⟨k1, k2, k3⟩ := List.findIdx?_eq_some_iff_getElem.mp hk
    have k2 : bs[k] = true := k2
    refine ⟨.inl ⟨rfl, _, SqL.of hH⟩, a, _, .bl true, k, .bl true, rfl, rfl, SqL.of hH, rfl, flat_bls bs, ?_, rfl, fun m z hm hz => ?_, hq _ M1 _ F1 _ h s1 (sr1.pop.push (.int _))⟩
    · rw [List.getElem?_map, List.getElem?_eq_getElem k1, k2]; rfl
    · have hm2 : m < bs.length := by omega
      rw [List.getElem?_map, List.getElem?_eq_getElem hm2] at hz
      have hz : V.bl bs[m] = z := by simpa using hz
      have k4 : ¬ (bs[m] = true) := k3 m hm
      subst hz
      cases hbm : bs[m] with
      | true => exact absurd hbm k4
      | false => rfl), hx⟩
end
end TL
/-! # own trees looked at as if nobody changed them; sorted data -/
namespace TL
open PySem PyProof.Rows L2
def viewM (ks : List Nat) : Nat → MS → MS
  | _, [] => []
  | j, s :: M => (if ks.elem j then (match s with | .va d => .va d.frz | .io d => .va d.frz | _ => .un) else .un) :: viewM ks (j + 1) M
/-- the slots ks frozen, nothing else known -/
def viewK (ks : List Nat) : Nat → MS → (MS → Prop) → Prop
  | _, [], k => k []
  | j, s :: M, k => match ks.elem j with
    | true => (match s with
      | .va d => ∃ dz, d.frz = dz ∧ viewK ks (j + 1) M fun M' => k (.va dz :: M')
      | .io d => ∃ dz, d.frz = dz ∧ viewK ks (j + 1) M fun M' => k (.va dz :: M')
      | _ => viewK ks (j + 1) M fun M' => k (.un :: M'))
    | false => viewK ks (j + 1) M fun M' => k (.un :: M')
theorem viewK_ok {ks : List Nat} : ∀ {M : MS} {j : Nat} {k : MS → Prop}, viewK ks j M k → k (viewM ks j M)
  | [], _, _, h => h
  | s :: M, j, k, h => by
    unfold viewK at h
    unfold viewM
    cases c : ks.elem j with
    | true =>
      rw [c] at h
      cases s with
      | va d => obtain ⟨_, rfl, h⟩ := h; exact viewK_ok h
      | io d => obtain ⟨_, rfl, h⟩ := h; exact viewK_ok h
      | un => exact viewK_ok h
      | ol => exact viewK_ok h
    | false =>
      rw [c] at h
      exact viewK_ok h
theorem nils_len : ∀ M : MS, (nils M).length = M.length
  | [] => rfl
  | _ :: M => by simp [nils, nils_len M]
section
variable {K : PySem.W.Frag} {F F' H H' : Hp} {P : List V}
theorem SlR.footL : ∀ {i : Nat} {M : MS} {σ : L2.St} {fs : List (List Addr)}, SlR K F H P i M σ fs → ∀ b, 0 < cnt b fs → ∃ o, H b = some o ∧ LI o
  | _, _, _, _, .nil, b, z => by simp [cnt] at z
  | _, _, _, _, .un r, b, z => r.footL b (by simpa [cnt] using z)
  | _, _, _, _, .ol _ r, b, z => r.footL b (by simpa [cnt] using z)
  | _, _, _, _, .va (f := f) p r, b, z => by
    by_cases hb : b ∈ f
    · exact Rp.footL _ _ _ p b hb
    · refine r.footL b ?_
      have := List.count_eq_zero.mpr hb
      simp only [cnt] at z; omega
  | _, _, _, _, .io (f := f) _ p r, b, z => by
    by_cases hb : b ∈ f
    · exact Rp.footL _ _ _ p b hb
    · refine r.footL b ?_
      have := List.count_eq_zero.mpr hb
      simp only [cnt] at z; omega
theorem slr_view (ks : List Nat) (sF : Same F F') : ∀ {j : Nat} {M : MS} {σ : L2.St} {fs : List (List Addr)}, SlR K F H P j M σ fs → (∀ b, 0 < cnt b fs → F' b = H b) → SlR K F' H P j (viewM ks j M) σ (nils (viewM ks j M)) := by
  intro j M σ fs r
  induction r with
  | nil => intro _; exact .nil
  | @un j o M σ fs r ih =>
    intro h
    have ih := ih fun b z => h b (by simpa [cnt] using z)
    unfold viewM
    cases ks.elem j <;> exact .un ih
  | @ol j w M σ fs y r ih =>
    intro h
    have ih := ih fun b z => h b (by simpa [cnt] using z)
    unfold viewM
    cases ks.elem j <;> exact .un ih
  | @va j d0 w f0 M σ fs p r ih =>
    intro h
    have ih := ih fun b z => h b (by simp only [cnt]; omega)
    unfold viewM
    cases ks.elem j with
    | true => exact .va (Rp.frz sF _ _ _ (fun b z => h b (by have := List.count_pos_iff.mpr z; simp only [cnt]; omega)) p) ih
    | false => exact .un ih
  | @io j d0 w f0 M σ fs y p r ih =>
    intro h
    have ih := ih fun b z => h b (by simp only [cnt]; omega)
    unfold viewM
    cases ks.elem j with
    | true => exact .va (Rp.frz sF _ _ _ (fun b z => h b (by have := List.count_pos_iff.mpr z; simp only [cnt]; omega)) p) ih
    | false => exact .un ih
set_option maxHeartbeats 2000000 in
/-- another look at a state: all that is one's own may be looked at as frozen, as long as nothing of what is looked at is kept -/
theorem SR.view {fx : Fx} {M M' : MS} {L : List (V × D)} {σ : L2.St} (sr : SR K fx M L σ F H)
    (mk : ∀ F1 fs, Same F F1 → (∀ b, 0 < cnt b fs → F1 b = H b) → SlR K F H fx.P 0 M σ fs → SlR K F1 H fx.P 0 M' σ (nils M')) :
    ∃ fx1 F1, SR K fx1 M' [] σ F1 H ∧ Same F F1 ∧ ∀ {M1 : MS} {Z : List (V × D)} {F' H' : Hp}, (∀ p ∈ Z, p.2.noLst = true) → Same F1 F' → SR K fx1 M1 Z σ F' H' → ∃ F2, Same F F2 ∧ SR K fx M (Z ++ L) σ F2 H' := by
  obtain ⟨sub, stay, agree, shape, fs, gs, r1, r2, c, g⟩ := sr
  have fF : ∀ b, 0 < cnt b fs → F b = none := fun b z => (r1.foot b z).1
  have fL := r1.footL
  obtain ⟨F1, hF1⟩ : ∃ F1 : Hp, F1 = fun b => if 0 < cnt b fs then H b else F b := ⟨_, rfl⟩
  have F1in : ∀ b, 0 < cnt b fs → F1 b = H b := fun b z => by rw [hF1]; exact if_pos z
  have F1out : ∀ b, ¬ 0 < cnt b fs → F1 b = F b := fun b z => by rw [hF1]; exact if_neg z
  have s1 : Same F F1 := fun b o e => by rw [F1out b fun z => by rw [fF b z] at e; cases e]; exact e
  have s2 : Same F1 H := fun b o e => by
    by_cases z : 0 < cnt b fs
    · rw [F1in b z] at e; exact e
    · rw [F1out b z] at e; exact sub b o e
  have pz := mk F1 fs s1 F1in r1
  obtain ⟨G1, hG1⟩ : ∃ G1 : Hp, G1 = fun b => if 0 < cnt b gs then H b else fx.G b := ⟨_, rfl⟩
  have G1in : ∀ b, 0 < cnt b gs → G1 b = H b := fun b z => by rw [hG1]; exact if_pos z
  have G1out : ∀ b, ¬ 0 < cnt b gs → G1 b = fx.G b := fun b z => by rw [hG1]; exact if_neg z
  have GG : ∀ b o, fx.G b = some o → G1 b = some o ∧ ¬ 0 < cnt b fs := fun b o e => by
    have z0 : ¬ 0 < cnt b fs + cnt b gs := fun z => by rw [g b z] at e; cases e
    exact ⟨by rw [G1out b (by omega)]; exact e, by omega⟩
  refine ⟨⟨fx.P, G1, F1, M'.map Slot.isIo⟩, F1, ⟨s2, fun b o e => ?_, fun b _ => rfl, rfl, nils M', [], pz, .nil, fun a => by rw [cnt_nils]; simp [cnt], fun a z => by rw [cnt_nils] at z; simp [cnt] at z⟩, s1, ?_⟩
  · have e : G1 b = some o := e
    by_cases z : 0 < cnt b gs
    · rw [G1in b z] at e; exact e
    · rw [G1out b z] at e; exact stay b o e
  intro M1 Z F' H' nZ sF k
  obtain ⟨ksub, kstay, kagree, _, kfs, kgs, k1, k2, kc, kg⟩ := k
  have inF' : ∀ b, 0 < cnt b fs → F' b = H b ∧ H' b = H b := fun b z => by
    obtain ⟨ws, e, ho⟩ := fL b z
    have e1 := sF b _ ((F1in b z).trans e)
    exact ⟨e1.trans e.symm, (ksub b _ e1).trans e.symm⟩
  have outF' : ∀ b, 0 < cnt b gs → F' b = none ∧ H' b = H b ∧ ¬ 0 < cnt b fs := fun b z => by
    have z3 : ¬ 0 < cnt b fs := by have := c b; omega
    obtain ⟨z1, o, z2⟩ := r2.foot b z
    have e1 : G1 b = some o := (G1in b z).trans z2
    exact ⟨(kagree b (by show G1 b ≠ none; rw [e1]; simp)).trans ((F1out b z3).trans z1), (kstay b o e1).trans z2.symm, z3⟩
  obtain ⟨F2, hF2⟩ : ∃ F2 : Hp, F2 = fun b => if 0 < cnt b fs then none else F' b := ⟨_, rfl⟩
  have in2 : ∀ b, 0 < cnt b fs → F2 b = none := fun b z => by rw [hF2]; exact if_pos z
  have out2 : ∀ b, ¬ 0 < cnt b fs → F2 b = F' b := fun b z => by rw [hF2]; exact if_neg z
  have less : Less F' F2 := ⟨fun b o e => by
      by_cases z : 0 < cnt b fs
      · rw [in2 b z] at e; cases e
      · rw [out2 b z] at e; exact e, fun b o e => by
      by_cases z : 0 < cnt b fs
      · obtain ⟨ws, e', ho⟩ := fL b z
        rw [(inF' b z).1, e'] at e
        cases e; exact .inr ho
      · exact .inl (by rw [out2 b z]; exact e)⟩
  have sFF : Same F F2 := fun b o e => by
    have nb : ¬ 0 < cnt b fs := fun z => by rw [fF b z] at e; cases e
    rw [out2 b nb]
    exact sF b o (by rw [F1out b nb]; exact e)
  have all : ∀ {Z : List (V × D)} {kgs : List (List Addr)}, (∀ p ∈ Z, p.2.noLst = true) → HdR K F' H' Z kgs → HdR K F2 H' L gs → HdR K F2 H' (Z ++ L) (kgs ++ gs) := by
    intro Z kgs h r
    induction r with
    | nil => intro q; exact q
    | cons q r ih => intro q2; exact .cons (Rp.less less _ _ _ (h _ (List.mem_cons_self ..)) q) (ih (fun p hp => h p (List.mem_cons_of_mem _ hp)) q2)
  have keep1 : ∀ b, 0 < cnt b fs → F2 b = none ∧ H' b = H b := fun b z => ⟨in2 b z, (inF' b z).2⟩
  have keep2 : ∀ b, 0 < cnt b gs → F2 b = none ∧ H' b = H b := fun b z => by
    obtain ⟨a1, a2, a3⟩ := outF' b z
    exact ⟨(out2 b a3).trans a1, a2⟩
  refine ⟨F2, sFF, fun b o e => ksub b o (less.sub b o e), fun b o e => kstay b o (GG b o e).1, fun b z => ?_, shape, fs, kgs ++ gs, r1.mono sFF keep1, all nZ k2 (r2.mono sFF keep2), fun a => ?_, fun a z => ?_⟩
  · cases e : fx.G b with
    | none => exact absurd e z
    | some o =>
      obtain ⟨e1, nb⟩ := GG b o e
      rw [out2 b nb, kagree b (by show G1 b ≠ none; rw [e1]; simp)]
      show F1 b = _
      rw [F1out b nb]
      exact agree b z
  · rw [cnt_append]
    have h1 := kc a
    have h2 := c a
    by_cases z : 0 < cnt a kgs
    · have n1 : ¬ 0 < cnt a gs := fun y => by
        have e1 : G1 a = none := kg a (by omega)
        obtain ⟨_, o, e2⟩ := r2.foot a y
        rw [G1in a y, e2] at e1; cases e1
      have n2 : ¬ 0 < cnt a fs := fun y => by
        have e1 := (k2.foot a z).1
        obtain ⟨ws, e2, ho⟩ := fL a y
        rw [(inF' a y).1, e2] at e1; cases e1
      omega
    · omega
  · rw [cnt_append] at z
    by_cases y : 0 < cnt a fs + cnt a gs
    · exact g a y
    · have e1 : G1 a = none := kg a (by omega)
      rw [G1out a (by omega)] at e1
      exact e1
end
/-- an expression that looks at the slots ks as if nobody changed them -/
def dView (ks : List Nat) (ea : DE) : DE := fun M Q E => viewK ks 0 M fun M' => ea M' (fun x _ => x.noLst = true ∧ Q x M) (fun C _ => E C M)
theorem d_view {X : Cx} {W : WX} {e : Expr} {ea : DE} {ks : List Nat} (h : PE X e (liftE X.K W ea)) : PE X e (liftE X.K W (dView ks ea)) := peW h fun σ H Q ⟨fx, M, L, F, Q0, E0, sr, he, hq, hx⟩ => by
  have he := viewK_ok he
  obtain ⟨fx1, F1, sr1, s1, back⟩ := sr.view (M' := viewM ks 0 M) fun F1 fs s h r => slr_view ks s r h
  refine ⟨fx1, _, [], F1, _, _, sr1, he, fun x M1 v1 F' H' z s k => ?_, fun C M1 F' H' z s k => ?_⟩
  · obtain ⟨F2, a1, a2⟩ := back (Z := [(v1, x)]) (fun p hp => by rw [List.mem_singleton.mp hp]; exact z.1) s k
    exact hq x M v1 F2 H' z.2 a1 a2
  · obtain ⟨F2, a1, a2⟩ := back (Z := []) (fun p hp => nomatch hp) s k
    exact hx C M F2 H' z a1 a2
/-! ### sorted, data -/
section
variable {X : Cx}
theorem each_zip {R : Value → V × D → Prop} : ∀ {vs : List V} {l : List D} {us : List Value}, vs.length = l.length → Vals vs us → (∀ p ∈ vs.zip l, ∀ u, RelV p.1 u → R u p) → PySem.W.EachIs R us (vs.zip l)
  | [], [], _, _, .nil, _ => .nil
  | v :: vs, d :: l, _, e, .cons r t, h => .cons (h (v, d) (List.mem_cons_self ..) _ r) (each_zip (by simpa using e) t fun p hp => h p (List.mem_cons_of_mem _ hp))
  | [], _ :: _, _, e, _, _ => by simp at e
  | _ :: _, [], _, e, _, _ => by simp at e
theorem vals_each {R : Value → V × D → Prop} (hR : ∀ u p, R u p → RelV p.1 u) : ∀ {us : List Value} {ps : List (V × D)}, PySem.W.EachIs R us ps → Vals (ps.map Prod.fst) us
  | _, _, .nil => .nil
  | _, _, .cons h t => .cons (hR _ _ h) (vals_each hR t)
def leD (x y : D) : Bool := PySem.W.dataLe false D.toP x y
/-- sorted(xs) of data -/
def rSortD (A : Around) (K : PySem.W.Frag) : List V → Hp → VK → Prop := fun vs H Q => ∃ (a : Addr) (xs : List V) (l : List D), vs = [V.ref a] ∧ SqL K H a xs ∧ xs.length = l.length ∧ (∀ p ∈ xs.zip l, Dp K H p.1 p.2.toP) ∧
  PySem.W.AllAlike (l.map D.toP) ∧ PySem.W.Sortable (l.map D.toP) ∧ (∀ d ∈ l, A.units + 2 + d.toP.depth < cLine) ∧
  ∀ p, H p = none → Q (.ref p) (upd H p (.lst (((xs.zip l).mergeSort fun x y => leD x.2 y.2).map Prod.fst)))
theorem cr_sortD : CallR X (.builtin "sorted") (rSortD X.A X.K) := by
  intro pins s σ H vs us Q I r h
  obtain ⟨a, xs, l, rfl, hs, hlen, hd, hal, hk, hu, q⟩ := h
  obtain ⟨its, rv, hl, hz⟩ := I.list hs
  obtain ⟨u, rfl, ru⟩ := vals1 r
  obtain rfl : u = Value.ref a := ru
  have em : (xs.zip l).map Prod.snd = l := List.map_snd_zip (by omega)
  have emP : (xs.zip l).map (fun b => b.2.toP) = l.map D.toP := by have := congrArg (List.map D.toP) em; rw [List.map_map] at this; exact this
  have e1 : PySem.W.EachIs (fun u b => RelV b.1 u) its (xs.zip l) := each_zip hlen rv fun p _ u h => h
  have e2 : PySem.W.EachIs (fun u b => ∃ as, Reads s.heap u b.2.toP as) its (xs.zip l) := each_zip hlen rv fun p hp u h => Dp.reads I _ _ _ (hd p hp) h
  refine PySem.W.sorted_data (β := V × D) (enc := fun b => b.2.toP) (bs := xs.zip l) hl.isList e1 e2 (by rw [emP]; exact hal) (by rw [emP]; exact hk) (by rw [← e1.length, ← rv.length]; exact hz) (fun b hb => hu _ (by rw [← em]; exact List.mem_map_of_mem hb)) fun out ho he => ?_
  have hv := vals_each (fun u p h => h) he
  have hlx : (((xs.zip l).mergeSort fun x y => leD x.2 y.2).map Prod.fst).length ≤ sizeLine := by
    rw [List.length_map, List.length_mergeSort, List.length_zip]
    have : xs.length ≤ sizeLine := hz
    omega
  refine ⟨.ref (s.heap.objs.size + 1), upd H (s.heap.objs.size + 1) (.lst (((xs.zip l).mergeSort fun x y => leD x.2 y.2).map Prod.fst)), I.laid (t' := s.toks) (fun b o e => sortedAll_old e) (Nat.le_succ _) ⟨hlx, out, _, hv, (sortedAll_at s.heap its out.toArray).choose_spec⟩, rfl, q _ (I.hok.fresh (Nat.le_succ _))⟩
end
section
variable {X : Cx} {W : WX} {e : Expr} {pos : Pos} {ea : DE}
/-- what can be sorted -/
def srtOk (l : List D) : Prop := (∀ d ∈ l, okD 8 d) ∧ PySem.W.AllAlike (l.map D.toP) ∧ PySem.W.Sortable (l.map D.toP)
def dSortD (ea : DE) : DE := fun M Q E => ea M (fun d M1 => lsD d fun l => D.noOwns l = true ∧ srtOk l ∧ Q (.own (l.mergeSort leD)) M1) E
theorem rps_zip {K : PySem.W.Frag} {F H : Hp} : ∀ {l : List D} {vs : List V}, Rps K F H l vs [] → ∀ p ∈ vs.zip l, Rp K F H p.2 p.1 []
  | [], _, _, p, hp => by simp at hp
  | d :: l, _, h, p, hp => by
    generalize hz : ([] : List Addr) = z at h
    cases h with
    | @cons d v f g ds vs q r =>
      obtain ⟨rfl, rfl⟩ := List.append_eq_nil_iff.mp hz.symm
      rw [List.zip_cons_cons] at hp
      rcases List.mem_cons.mp hp with rfl | hp
      · exact q
      · exact rps_zip r p hp
theorem zip_rps {K : PySem.W.Frag} {F H : Hp} : ∀ {ps : List (V × D)}, (∀ p ∈ ps, Rp K F H p.2 p.1 []) → Rps K F H (ps.map Prod.snd) (ps.map Prod.fst) []
  | [], _ => .nil
  | p :: ps, h => .cons (f := []) (g := []) (h p (List.mem_cons_self ..)) (zip_rps fun q hq => h q (List.mem_cons_of_mem _ hq))
theorem d_sortD {p : Pos} (hm : X.mg "sorted" = none) (hu : X.A.units + 65 < cLine) (ha : PE X e (liftB X.K W ea)) (hg : Gl X "sorted" := by rfl) (he : starEach [e] X.env = [(false, eval e X.env)] := by rfl) : PE X (.Call (.Name "sorted" p) [e] [] pos) (liftE X.K W (dSortD ea)) :=
  peW (pe_callB cr_sortD hg hm (by decide +kernel) (pa_cons ha pa_nil (by rw [he]; rfl)) (by decide) (by decide) (by rw [he]; rfl) (by rfl)) fun σ H Q ⟨fx, M, L, F, Q0, E0, sr, hh, hq, hx⟩ =>
    ⟨fx, M, L, F, _, E0, sr, hh, fun d M1 v f F1 H1 q1 s1 sr1 p1 => (by
      obtain ⟨l, a, vs, g, h, rfl, hH, r⟩ := lsD_ok sr1.sub p1 q1
      obtain ⟨nl, ⟨ok, al, so⟩, h⟩ := h
      have := Rps.clean _ _ _ nl r
      subst this
      have rz := rps_zip r
      have hlen := r.len
      refine ⟨a, vs, l, rfl, SqL.of hH, hlen.symm, fun p hp => Rp.dp sr1.sub _ _ _ (okD_ok _ (ok p.2 (List.of_mem_zip hp).2)).1 (rz p hp), al, so, fun d hd => by have := (okD_ok d (ok d hd)).2.2; omega, fun p hp => ?_⟩
      have em : (vs.zip l).map Prod.snd = l := List.map_snd_zip (by omega)
      have e3 : ((vs.zip l).mergeSort fun x y => leD x.2 y.2).map Prod.snd = l.mergeSort leD := by
        rw [List.map_mergeSort (s := leD) (fun _ _ _ _ => rfl), em]
      have r2 : Rps X.K F1 H1 (l.mergeSort leD) (((vs.zip l).mergeSort fun x y => leD x.2 y.2).map Prod.fst) [] := by
        rw [← e3]
        exact zip_rps fun p hp => rz p ((List.mergeSort_perm _ _).mem_iff.mp hp)
      exact hq _ M1 _ F1 _ h s1 (sr1.ownOf r2 hp)), hx⟩
end
/-! ### x[..].append of a new object that nobody looks at -/
section
variable {X : Cx} {W : WX} {e : Expr}
def dAppPC (i : Nat) (ps : List IK) : DE := fun M Q _ => ownAtP M i ps fun l put => l.length ≤ 10000 ∧ ∀ p : Addr, Q .non (put (l ++ [.cls p]))
def tNew (ta : TE) : Prop := ∀ (σ : L2.St) (H : Hp) (Q : VK), (∀ p xs, H p = none → Q (.ref p) (upd H p (.tup xs))) → ta σ H Q
theorem upd_comm {H : Hp} {p q : Addr} {x y : HO} (h : p ≠ q) : upd (upd H p x) q y = upd (upd H q y) p x := by
  funext b
  by_cases h1 : b = q
  · subst h1; rw [upd_same, upd_ne (fun z => h z.symm), upd_same]
  · rw [upd_ne h1]
    by_cases h2 : b = p
    · subst h2; rw [upd_same, upd_same]
    · rw [upd_ne h2, upd_ne h2, upd_ne h1]
theorem d_appPC {i : Nat} {ps : List IK} {ta : TE} (h : PE X e (tBM X.K "list" rAppend (tIK X.K (pathK i ps)) (tCons ta tNil))) (hn : tNew ta := by exact fun σ H Q h => ⟨by decide, fun p n => h p _ n⟩) : PE X e (liftE X.K W (dAppPC i ps)) := peW h fun σ H Q ⟨fx, M, L, F, Q0, E0, sr, he, hq, hx⟩ => by
  obtain ⟨b, d, js, l, e1, e2, e3, hl10, q⟩ := ownAtP_iff he
  obtain ⟨v, hv⟩ := sr.slotV e1
  obtain ⟨a, vs, rch, hH, hl, mk⟩ := SR.writeP (Z := []) sr e1 hv e3
  refine path_ok sr ps js (.s i) v _ e2 rch (fun Q q => ⟨v, hv, q⟩) _ ⟨.inl ⟨rfl, vs, SqL.of hH⟩, hn σ H _ fun p xs np => ?_⟩
  have ne : a ≠ p := fun z => by rw [z, np] at hH; cases hH
  refine ⟨_, vs, .ref p, rfl, rfl, by rw [upd_ne ne]; exact hH, by rw [← hl, sizeLine_eq]; omega, ?_⟩
  have s1 := mk (l ++ [.cls p]) [] (vs ++ [.ref p]) fun f gs r1 r2 => by
    cases r2
    exact ⟨f ++ ([] ++ []), [], r1.append (.cons (.cls p) .nil), .nil, fun x => by simp [cnt]⟩
  have np2 : (upd H a (.lst (vs ++ [.ref p]))) p = none := by rw [upd_ne (fun z => ne z.symm)]; exact np
  obtain ⟨s2, s3⟩ := SR.learn (o := .tup xs) s1 np2
  rw [upd_comm (fun z => ne z.symm)]
  exact hq .non _ .non _ _ (q p) s3 (SR.push s2 .non)
end
/-! ### data compared -/
section
variable {X : Cx} {W : WX} {a b : Expr} {pos : Pos} {ea eb : DE}
def rLtD (K : PySem.W.Frag) : R2 := fun x y H Q => ∃ d e, Dp K H x d ∧ Dp K H y e ∧ PySem.W.alike d e = true ∧ d ≠ .none ∧ d.depth ≤ 8 ∧ Q (.bl (PySem.W.dataLt d e)) H
theorem op_ltD (hu : X.A.units + 65 < cLine) : OpR X (compareOp .Lt) (rLtD X.K) := by
  intro pins s σ H x y v u Q I rx ry h
  obtain ⟨d, e, hd, he, al, ne, dp, q⟩ := h
  obtain ⟨as, r1⟩ := Dp.reads I d x v hd rx
  obtain ⟨bs, r2⟩ := Dp.reads I e y u he ry
  exact PySem.W.lt_data r1 r2 al ne (by omega) ⟨.bl _, H, I, rfl, q⟩
def gLtD : D → D → (D → Prop) → Prop := fun x y k => (okD 8 x ∧ okD 8 y ∧ PySem.W.alike x.toP y.toP = true ∧ x.toP ≠ .none) ∧ k (.bl (PySem.W.dataLt x.toP y.toP))
theorem opd_ltD : OpD X (rLtD X.K) gLtD := fun {fx M L σ F H v w x y k} sr h => by
  obtain ⟨⟨h1, h2, h3, h4⟩, h⟩ := h
  obtain ⟨f, p⟩ := sr.top
  obtain ⟨g, q⟩ := sr.pop.top
  exact ⟨_, _, h, .bl _, fun Q z => ⟨_, _, Rp.dp sr.sub _ _ _ (okD_ok _ h1).1 q, Rp.dp sr.sub _ _ _ (okD_ok _ h2).1 p, h3, h4, (okD_ok _ h1).2.2, z⟩⟩
theorem d_ltD (hu : X.A.units + 65 < cLine) (ha : PE X a (liftE X.K W ea)) (hb : PE X b (liftE X.K W eb)) : PE X (.Compare a [.Lt] [b] pos) (liftE X.K W (dBin gLtD ea eb)) := d_cmp (op_ltD hu) opd_ltD ha hb (nomark _)
theorem t_ltD (hu : X.A.units + 65 < cLine) (ha : PE X a (liftE X.K W ea)) (hb : PE X b (liftE X.K W eb)) : PT X (.Compare a [.Lt] [b] pos) (liftT X.K W (dT (dBin gLtD ea eb))) := t_cmp (op_ltD hu) opd_ltD ha hb (nomark _)
end
/-- a number and a list of numbers -/
def inD2 (s : Nat) (l : List Nat) : D := .tup [.int (s : Int), .lst (nL l)]
theorem toPs_nL : ∀ l : List Nat, D.toPs (nL l) = (l.map fun i : Nat => (i : Int)).map PyData.int
  | [] => rfl
  | i :: l => by show PyData.int _ :: D.toPs (nL l) = _; rw [toPs_nL l]; rfl
theorem toP_inD2 (s : Nat) (l : List Nat) : (inD2 s l).toP = .tuple [.int (s : Int), .list ((l.map fun i : Nat => (i : Int)).map PyData.int)] := by
  show PyData.tuple [.int (s : Int), .list (D.toPs (nL l))] = _
  rw [toPs_nL]
theorem alike_inD2 (s t : Nat) (l m : List Nat) : PySem.W.alike (inD2 s l).toP (inD2 t m).toP = true := by
  rw [toP_inD2, toP_inD2]
  have := PySem.W.alike_ints (l.map fun i : Nat => (i : Int)) (m.map fun i : Nat => (i : Int))
  simp only [PySem.W.alike, PySem.W.alikeAll, Bool.and_true, Bool.true_and]
  exact this
theorem okD_inD2 (s : Nat) (l : List Nat) (n : Nat) : okD (n + 2) (inD2 s l) := okD_t2 (okD_int _ _) (okD_nL n l)
theorem lt_cast : ∀ l m : List Nat, decide ((l.map fun i : Nat => (i : Int)) < (m.map fun i : Nat => (i : Int))) = decide (l < m)
  | [], [] => by simp
  | [], _ :: _ => by simp
  | _ :: _, [] => by simp
  | x :: l, y :: m => by
    have ih := lt_cast l m
    rw [decide_eq_decide] at ih ⊢
    simp only [List.map_cons, List.cons_lt_cons_iff]
    rw [ih]
    constructor
    · rintro (h | ⟨h1, h2⟩)
      · exact .inl (by omega)
      · exact .inr ⟨by omega, h2⟩
    · rintro (h | ⟨h1, h2⟩)
      · exact .inl (by omega)
      · exact .inr ⟨by omega, h2⟩
theorem lt_inD2 (s t : Nat) (l m : List Nat) : PySem.W.dataLt (inD2 s l).toP (inD2 t m).toP = decide (s < t ∨ s = t ∧ l < m) := by
  have hal := PySem.W.alike_ints (l.map fun i : Nat => (i : Int)) (m.map fun i : Nat => (i : Int))
  rw [toP_inD2, toP_inD2, PySem.W.dataLt_pair (by simp [PySem.W.alike]) (by simpa [PySem.W.alike] using hal)]
  have e1 : PyData.eqv (.int (s : Int)) (.int (t : Int)) = decide (s = t) := by
    simp only [PyData.eqv]
    rw [Bool.eq_iff_iff, beq_iff_eq, decide_eq_true_iff]; omega
  have e2 : PySem.W.dataLt (.list ((l.map fun i : Nat => (i : Int)).map PyData.int)) (.list ((m.map fun i : Nat => (i : Int)).map PyData.int)) = decide (l < m) := by
    rw [← lt_cast]
    exact PySem.W.dataLt_ints _ _
  have e3 : PyData.eqv (.list ((l.map fun i : Nat => (i : Int)).map PyData.int)) (.list ((m.map fun i : Nat => (i : Int)).map PyData.int)) = decide (l = m) := by
    have := eqv_nL l m
    unfold D.eqv at this
    show PyData.eqv _ _ = _
    rw [← toPs_nL, ← toPs_nL]
    exact this
  rw [e1, e2, e3]
  by_cases h1 : s = t
  · rw [decide_eq_true h1, if_pos rfl]
    by_cases h2 : l = m
    · rw [decide_eq_true h2, if_pos rfl]
      subst h1; subst h2
      simp
    · rw [decide_eq_false h2, if_neg (by decide), decide_eq_decide]
      subst h1
      simp
  · rw [decide_eq_false h1, if_neg (by decide)]
    have : PySem.W.dataLt (.int (s : Int)) (.int (t : Int)) = decide ((s : Int) < (t : Int)) := by
      have h := congrFun (congrFun (PySem.W.dataLe_int (β := Int) id) (t : Int)) (s : Int)
      rw [PySem.W.dataLe_eq] at h
      simp only [id, cond_false] at h
      rw [Bool.not_eq_eq_eq_not] at h
      rw [h, ← decide_not, decide_eq_decide]; omega
    rw [this, decide_eq_decide]
    omega
end TL
/-! # how far one worth can move, plain -/
namespace TL
open PySem PyProof.Rows L2
def edgesOf (r : Rule) (l : List Rat) (k : Nat) : Rat × Rat :=
  ((falling (l.eraseIdx k)).getD (placeOf r l.length - 1) 0, if 1 < placeOf r l.length then (falling (l.eraseIdx k)).getD (placeOf r l.length - 2) 0 else 1)
def crossR (r : Rule) (l : List Rat) (k : Nat) (w : Rat) : Option Rat := match r with
  | .shares ws => if ws.getD k 0 = 0 then none else some ((w - worthBy (.shares ws) (l.set k 0)) / ws.getD k 0)
  | r => if worthBy r (l.set k 1) = 0 then none else some (w / worthBy r (l.set k 1))
def crossing? : Rule → Bool
  | .shares _ => true
  | .product => true
  | _ => false
def leastFor (r : Rule) (l : List Rat) (k : Nat) (w : Rat) : Rat :=
  if crossing? r = true then (match crossR r l k w with | none => 0 | some c => if c < 0 then 0 else c) else if (edgesOf r l k).1 < w then w else 0
def greatestFor (r : Rule) (l : List Rat) (k : Nat) (w : Rat) : Rat :=
  if crossing? r = true then (match crossR r l k w with | none => 1 | some c => if 1 < c then 1 else c) else if w < (edgesOf r l k).2 then w else 1
theorem fold_sum_shift (c : Rat) : ∀ (l : List (Rat × Rat)) (s : Rat), l.foldl (fun t p => t + p.1 * p.2) (s + c) = l.foldl (fun t p => t + p.1 * p.2) s + c
  | [], s => rfl
  | p :: l, s => by
    rw [List.foldl_cons, List.foldl_cons, ← fold_sum_shift c l]
    congr 1; grind
theorem fold_mul_shift (c : Rat) : ∀ (l : List Rat) (s : Rat), l.foldl (fun t w => t * w) (s * c) = l.foldl (fun t w => t * w) s * c
  | [], s => rfl
  | p :: l, s => by
    rw [List.foldl_cons, List.foldl_cons, ← fold_mul_shift c l]
    congr 1; grind
theorem shares_set (q : Rat) : ∀ {ws l : List Rat} {k : Nat} (s : Rat), ws.length = l.length → k < l.length →
    (ws.zip (l.set k q)).foldl (fun t p => t + p.1 * p.2) s = (ws.zip (l.set k 0)).foldl (fun t p => t + p.1 * p.2) s + ws.getD k 0 * q
  | [], [], k, s, h1, h2 => by simp at h2
  | w :: ws, x :: l, 0, s, h1, h2 => by
    simp only [List.set_cons_zero, List.zip_cons_cons, List.foldl_cons, List.getD_cons_zero]
    rw [← fold_sum_shift]
    congr 1; grind
  | w :: ws, x :: l, k + 1, s, h1, h2 => by
    simp only [List.set_cons_succ, List.zip_cons_cons, List.foldl_cons, List.getD_cons_succ]
    exact shares_set q _ (by simpa using h1) (by simpa using h2)
  | [], _ :: _, _, _, h1, _ => by simp at h1
  | _ :: _, [], _, _, h1, _ => by simp at h1
theorem mul_set (q : Rat) : ∀ {l : List Rat} {k : Nat} (s : Rat), k < l.length → (l.set k q).foldl (fun t w => t * w) s = (l.set k 1).foldl (fun t w => t * w) s * q
  | [], k, s, h => by simp at h
  | x :: l, 0, s, h => by
    simp only [List.set_cons_zero, List.foldl_cons]
    rw [← fold_mul_shift]
    congr 1; grind
  | x :: l, k + 1, s, h => by
    simp only [List.set_cons_succ, List.foldl_cons]
    exact mul_set q _ (by simpa using h)
theorem set_perm {α : Type} (q : α) : ∀ {l : List α} {k : Nat}, k < l.length → (l.set k q).Perm (q :: l.eraseIdx k)
  | [], k, h => by simp at h
  | x :: l, 0, h => by simp
  | x :: l, k + 1, h => by
    rw [List.set_cons_succ, List.eraseIdx_cons_succ]
    exact ((set_perm q (by simpa using h)).cons x).trans (List.Perm.swap _ _ _)
theorem falling_perm_eq {l m : List Rat} (h : l.Perm m) : falling l = falling m :=
  List.Perm.eq_of_pairwise (fun a b _ _ h1 h2 => Rat.le_antisymm (geQ_iff.mp h2) (geQ_iff.mp h1)) (falling_sorted l) (falling_sorted m) ((falling_perm l).trans (h.trans (falling_perm m).symm))
theorem falling_set {l : List Rat} {k : Nat} (q : Rat) (hk : k < l.length) : falling (l.set k q) = insBy geQ (falling (l.eraseIdx k)) q := by
  rw [falling_perm_eq ((set_perm q hk).trans (List.perm_append_singleton q (l.eraseIdx k)).symm)]
  unfold falling sortBy
  rw [List.foldl_append]; rfl
/-- the place-th greatest of some and one more: that one, held between two -/
theorem clamp {os : List Rat} (hs : os.Pairwise (fun a b => geQ a b = true)) {q : Rat} (h0 : 0 ≤ q) (hq1 : q ≤ 1) (ho : ∀ x ∈ os, 0 ≤ x ∧ x ≤ 1) {p : Nat} (hp : 1 ≤ p) (hp2 : p ≤ os.length + 1) :
    ∃ lo hi, lo = os.getD (p - 1) 0 ∧ hi = (if 1 < p then os.getD (p - 2) 0 else 1) ∧ 0 ≤ lo ∧ lo ≤ hi ∧ hi ≤ 1 ∧
      ((insBy geQ os q).getD (p - 1) 0 = if q ≤ lo then lo else if hi ≤ q then hi else q) := by
  have hge : ∀ i j (hi : i < os.length) (hj : j < os.length), i ≤ j → os[j] ≤ os[i] := fun i j hi hj hij => by
    rcases Nat.lt_or_eq_of_le hij with h | h
    · exact geQ_iff.mp (List.pairwise_iff_getElem.mp hs i j hi hj h)
    · subst h; exact Rat.le_refl
  have get : ∀ i (hi : i < os.length), os.getD i 0 = os[i] := fun i hi => by rw [List.getD_eq_getElem?_getD, List.getElem?_eq_getElem hi]; rfl
  have out : ∀ i, os.length ≤ i → os.getD i 0 = 0 := fun i hi => by rw [List.getD_eq_getElem?_getD, List.getElem?_eq_none hi]; rfl
  have lo0 : 0 ≤ os.getD (p - 1) 0 := by
    by_cases h : p - 1 < os.length
    · rw [get _ h]; exact (ho _ (List.getElem_mem _)).1
    · rw [out _ (by omega)]; exact Rat.le_refl
  have hi1 : (if 1 < p then os.getD (p - 2) 0 else 1) ≤ 1 := by
    split
    · rw [get _ (by omega)]; exact (ho _ (List.getElem_mem _)).2
    · exact Rat.le_refl
  have lohi : os.getD (p - 1) 0 ≤ (if 1 < p then os.getD (p - 2) 0 else 1) := by
    split
    · rw [get (p - 2) (by omega)]
      by_cases h : p - 1 < os.length
      · rw [get _ h]; exact hge _ _ _ _ (by omega)
      · rw [out _ (by omega)]; exact (ho _ (List.getElem_mem _)).1
    · by_cases h : p - 1 < os.length
      · rw [get _ h]; exact (ho _ (List.getElem_mem _)).2
      · rw [out _ (by omega)]; decide
  refine ⟨_, _, rfl, rfl, lo0, lohi, hi1, ?_⟩
  rw [insBy_tw geQ_tot hs]
  obtain ⟨n, hn⟩ : ∃ n, n = (os.takeWhile fun y => geQ y q).length := ⟨_, rfl⟩
  rw [← hn]
  have nle : n ≤ os.length := by rw [hn]; exact tw_le _ _
  have ins : ∀ i, (insAt os n q).getD i 0 = if i < n then os.getD i 0 else if i = n then q else os.getD (i - 1) 0 := fun i => by
    unfold insAt
    rw [List.getD_eq_getElem?_getD]
    by_cases h1 : i < n
    · rw [if_pos h1, List.append_assoc, List.getElem?_append_left (by rw [List.length_take]; omega), List.getElem?_take, if_pos h1, List.getD_eq_getElem?_getD]
    · rw [if_neg h1]
      by_cases h2 : i = n
      · rw [if_pos h2, List.append_assoc, List.getElem?_append_right (by rw [List.length_take]; omega), List.length_take, h2, Nat.min_eq_left nle, Nat.sub_self]; rfl
      · rw [if_neg h2, List.getElem?_append_right (by rw [List.length_append, List.length_take, List.length_singleton]; omega), List.length_append, List.length_take, List.length_singleton, Nat.min_eq_left nle, List.getElem?_drop, List.getD_eq_getElem?_getD]
        congr 2; omega
  rw [ins]
  have ge : ∀ i, i < n → q ≤ os.getD i 0 := fun i hi => by
    rw [hn] at hi
    obtain ⟨h3, h4⟩ := tw_lt hi
    rw [get _ h3]; exact geQ_iff.mp h4
  have lt : ∀ i, n ≤ i → i < os.length → os.getD i 0 < q := fun i hi hl => by
    have h3 : n < os.length := by omega
    have h4 : geQ os[n] q = false := by
      have := tw_end (p := fun y => geQ y q) (f := os) (by rw [← hn]; exact h3)
      simpa [← hn] using this
    have h5 : os[n] < q := by
      refine Rat.not_le.mp fun h6 => ?_
      rw [geQ_iff.mpr h6] at h4; cases h4
    have := hge n i h3 hl hi
    rw [get _ hl]; grind
  by_cases h1 : p - 1 < n
  · rw [if_pos h1, if_pos (ge _ h1)]
  · rw [if_neg h1]
    have h2 : ¬ (q ≤ os.getD (p - 1) 0) ∨ q = os.getD (p - 1) 0 := by
      by_cases hl : p - 1 < os.length
      · left; have := lt (p - 1) (by omega) hl; grind
      · rw [out _ (by omega)]; by_cases hq : q = 0
        · right; exact hq
        · left; grind
    by_cases h3 : p - 1 = n
    · rw [if_pos h3]
      have h4 : q ≤ (if 1 < p then os.getD (p - 2) 0 else 1) := by
        split
        · exact ge _ (by omega)
        · exact hq1
      grind
    · rw [if_neg h3]
      have hp1 : 1 < p := by omega
      have h4 := lt (p - 2) (by omega) (by omega)
      rw [if_pos hp1]
      rw [if_pos hp1] at lohi
      have : p - 1 - 1 = p - 2 := by omega
      rw [this]
      rcases h2 with h2 | h2 <;> grind
theorem mul_le_iff {a x y : Rat} (h : 0 < a) : a * x ≤ a * y ↔ x ≤ y :=
  ⟨fun g => Rat.not_lt.mp fun z => by have := Rat.mul_lt_mul_of_pos_left z h; grind, fun g => Rat.mul_le_mul_of_nonneg_left g (Rat.le_of_lt h)⟩
theorem crossing_shares (ws : List Rat) : crossing? (.shares ws) = true := rfl
theorem sh_at {ws l : List Rat} {k : Nat} (hr : Ru (.shares ws) l.length) (hk : k < l.length) (q : Rat) : worthBy (.shares ws) (l.set k q) = worthBy (.shares ws) (l.set k 0) + ws.getD k 0 * q := shares_set q 0 hr.1 hk
theorem pr_at {l : List Rat} {k : Nat} (hk : k < l.length) (q : Rat) : worthBy .product (l.set k q) = worthBy .product (l.set k 1) * q := mul_set q 1 hk
theorem mid_at {r : Rule} {l : List Rat} {k : Nat} (hr : Ru r l.length) (hc : crossing? r = false) (hk : k < l.length) (hl : Wts l) {q : Rat} (h0 : 0 ≤ q) (h1 : q ≤ 1) :
    0 ≤ (edgesOf r l k).1 ∧ (edgesOf r l k).1 ≤ (edgesOf r l k).2 ∧ (edgesOf r l k).2 ≤ 1 ∧ worthBy r (l.set k q) = if q ≤ (edgesOf r l k).1 then (edgesOf r l k).1 else if (edgesOf r l k).2 ≤ q then (edgesOf r l k).2 else q := by
  have hp : r ≠ .product := fun e => by subst e; cases hc
  have hs : ∀ ws, r ≠ .shares ws := fun ws e => by subst e; cases hc
  have hpl := placeOf_ok hr (by omega) hp hs
  have hlen : (l.set k q).length = l.length := List.length_set ..
  have hw : worthBy r (l.set k q) = (falling (l.set k q)).getD (placeOf r l.length - 1) 0 := by
    have := (worthBy_mid r (l.set k q) (by rw [hlen]; exact hr) (by omega) hp hs).1
    rw [hlen] at this
    rw [List.getD_eq_getElem?_getD, this]; rfl
  have ho : ∀ x ∈ falling (l.eraseIdx k), 0 ≤ x ∧ x ≤ 1 := fun x hx => hl x (List.mem_of_mem_eraseIdx (mem_falling.mp hx))
  have he : (falling (l.eraseIdx k)).length = l.length - 1 := by rw [falling_length, List.length_eraseIdx, if_pos hk]
  obtain ⟨lo, hi, e1, e2, a1, a2, a3, a4⟩ := clamp (falling_sorted (l.eraseIdx k)) h0 h1 ho hpl.1 (by omega)
  rw [hw, falling_set q hk]
  unfold edgesOf
  simp only
  rw [← e1, ← e2]
  exact ⟨a1, a2, a3, a4⟩
section
variable {r : Rule} {l : List Rat} {k : Nat} (hr : Ru r l.length) (hk : k < l.length) (hl : Wts l)
include hr hk hl
theorem set_self : l.set k (l.getD k 0) = l := by
  rw [List.getD_eq_getElem?_getD, List.getElem?_eq_getElem hk, Option.getD_some, List.set_getElem_self]
theorem wts_set {q : Rat} (h0 : 0 ≤ q) (h1 : q ≤ 1) : Wts (l.set k q) := fun x hx => by
  rcases List.mem_or_eq_of_mem_set hx with h | h
  · exact hl x h
  · rw [h]; exact ⟨h0, h1⟩
theorem at_self : 0 ≤ l.getD k 0 ∧ l.getD k 0 ≤ 1 := by
  rw [List.getD_eq_getElem?_getD, List.getElem?_eq_getElem hk, Option.getD_some]; exact hl _ (List.getElem_mem _)
theorem least_for {w : Rat} (hw0 : 0 ≤ w) (hw : w ≤ worthBy r l) : 0 ≤ leastFor r l k w ∧ leastFor r l k w ≤ l.getD k 0 ∧ ∀ q, 0 ≤ q → q ≤ 1 → (w ≤ worthBy r (l.set k q) ↔ leastFor r l k w ≤ q) := by
  have es := set_self hr hk hl
  obtain ⟨a0, a1⟩ := at_self hr hk hl
  rw [← es] at hw
  generalize l.getD k 0 = x at *
  cases hc : crossing? r with
  | true =>
    unfold leastFor
    rw [if_pos hc]
    cases r with
    | shares ws =>
      rw [sh_at hr hk] at hw
      obtain ⟨B, hB⟩ : ∃ B, worthBy (.shares ws) (l.set k 0) = B := ⟨_, rfl⟩
      have hg : ∀ q, worthBy (.shares ws) (l.set k q) = B + ws.getD k 0 * q := fun q => by rw [← hB]; exact sh_at hr hk q
      have hn : 0 ≤ ws.getD k 0 := by
        have hkw : k < ws.length := by rw [hr.1]; exact hk
        rw [List.getD_eq_getElem?_getD, List.getElem?_eq_getElem hkw]; exact hr.2 _ (List.getElem_mem _)
      unfold crossR
      rw [hB] at hw
      simp only [hB, hg]
      clear hg hB
      generalize ws.getD k 0 = a at *
      by_cases ha : a = 0
      · rw [if_pos ha]
        subst ha
        refine ⟨Rat.le_refl, a0, fun q h0 h1 => ?_⟩
        simp only [Rat.zero_mul, Rat.add_zero] at *
        exact ⟨fun _ => h0, fun _ => hw⟩
      · rw [if_neg ha]
        have hap : 0 < a := by grind
        have ec : (w - B) / a * a = w - B := Rat.div_mul_cancel ha
        generalize (w - B) / a = c at *
        have key : ∀ q, w ≤ B + a * q ↔ c ≤ q := fun q => by
          have := mul_le_iff (x := c) (y := q) hap
          grind
        have h2 := (key x).mp hw
        simp only
        split
        · exact ⟨Rat.le_refl, a0, fun q h0 h1 => by rw [key]; constructor <;> intro _ <;> grind⟩
        · exact ⟨by grind, h2, fun q _ _ => key q⟩
    | product =>
      rw [pr_at hk] at hw
      obtain ⟨a, hB⟩ : ∃ a, worthBy .product (l.set k 1) = a := ⟨_, rfl⟩
      have hg : ∀ q, worthBy .product (l.set k q) = a * q := fun q => by rw [← hB]; exact pr_at hk q
      have hn : 0 ≤ worthBy .product (l.set k 1) := worthBy_nn (by trivial) (fun q hq => (wts_set hr hk hl (by decide) Rat.le_refl q hq).1) (by rw [List.length_set]; omega)
      unfold crossR
      rw [hB] at hw hn
      simp only [hB, hg]
      try simp only [Rat.mul_one]
      clear hg hB
      by_cases ha : a = 0
      · rw [if_pos ha]
        subst ha
        refine ⟨Rat.le_refl, a0, fun q h0 h1 => ?_⟩
        simp only [Rat.zero_mul] at *
        exact ⟨fun _ => h0, fun _ => hw⟩
      · rw [if_neg ha]
        have hap : 0 < a := by grind
        have ec : w / a * a = w := Rat.div_mul_cancel ha
        generalize w / a = c at *
        have key : ∀ q, w ≤ a * q ↔ c ≤ q := fun q => by
          have := mul_le_iff (x := c) (y := q) hap
          grind
        have h2 := (key x).mp hw
        simp only
        split
        · exact ⟨Rat.le_refl, a0, fun q h0 h1 => by rw [key]; constructor <;> intro _ <;> grind⟩
        · exact ⟨by grind, h2, fun q _ _ => key q⟩
    | least => cases hc
    | greatest => cases hc
    | middle p => cases hc
  | false =>
    unfold leastFor
    rw [hc]
    simp only [Bool.false_eq_true, if_false]
    obtain ⟨b0, b1, b2, e⟩ := mid_at hr hc hk hl a0 a1
    rw [e] at hw
    split
    · rename_i hlt
      refine ⟨hw0, ?_, fun q h0 h1 => ?_⟩
      · grind
      · rw [(mid_at hr hc hk hl h0 h1).2.2.2]
        constructor
        · intro h; grind
        · intro h; grind
    · rename_i hlt
      refine ⟨Rat.le_refl, a0, fun q h0 h1 => ?_⟩
      rw [(mid_at hr hc hk hl h0 h1).2.2.2]
      refine ⟨fun _ => h0, fun _ => ?_⟩
      grind
theorem greatest_for {w : Rat} (hw : worthBy r l ≤ w) : greatestFor r l k w ≤ 1 ∧ l.getD k 0 ≤ greatestFor r l k w ∧ ∀ q, 0 ≤ q → q ≤ 1 → (worthBy r (l.set k q) ≤ w ↔ q ≤ greatestFor r l k w) := by
  have es := set_self hr hk hl
  obtain ⟨a0, a1⟩ := at_self hr hk hl
  rw [← es] at hw
  generalize l.getD k 0 = x at *
  cases hc : crossing? r with
  | true =>
    unfold greatestFor
    rw [if_pos hc]
    cases r with
    | shares ws =>
      rw [sh_at hr hk] at hw
      obtain ⟨B, hB⟩ : ∃ B, worthBy (.shares ws) (l.set k 0) = B := ⟨_, rfl⟩
      have hg : ∀ q, worthBy (.shares ws) (l.set k q) = B + ws.getD k 0 * q := fun q => by rw [← hB]; exact sh_at hr hk q
      have hn : 0 ≤ ws.getD k 0 := by
        have hkw : k < ws.length := by rw [hr.1]; exact hk
        rw [List.getD_eq_getElem?_getD, List.getElem?_eq_getElem hkw]; exact hr.2 _ (List.getElem_mem _)
      unfold crossR
      rw [hB] at hw
      simp only [hB, hg]
      clear hg hB
      generalize ws.getD k 0 = a at *
      by_cases ha : a = 0
      · rw [if_pos ha]
        subst ha
        refine ⟨Rat.le_refl, a1, fun q h0 h1 => ?_⟩
        simp only [Rat.zero_mul, Rat.add_zero] at *
        exact ⟨fun _ => h1, fun _ => hw⟩
      · rw [if_neg ha]
        have hap : 0 < a := by grind
        have ec : (w - B) / a * a = w - B := Rat.div_mul_cancel ha
        generalize (w - B) / a = c at *
        have key : ∀ q, B + a * q ≤ w ↔ q ≤ c := fun q => by
          have := mul_le_iff (x := q) (y := c) hap
          grind
        have h2 := (key x).mp hw
        simp only
        split
        · exact ⟨Rat.le_refl, a1, fun q h0 h1 => by rw [key]; constructor <;> intro _ <;> grind⟩
        · exact ⟨by grind, h2, fun q _ _ => key q⟩
    | product =>
      rw [pr_at hk] at hw
      obtain ⟨a, hB⟩ : ∃ a, worthBy .product (l.set k 1) = a := ⟨_, rfl⟩
      have hg : ∀ q, worthBy .product (l.set k q) = a * q := fun q => by rw [← hB]; exact pr_at hk q
      have hn : 0 ≤ worthBy .product (l.set k 1) := worthBy_nn (by trivial) (fun q hq => (wts_set hr hk hl (by decide) Rat.le_refl q hq).1) (by rw [List.length_set]; omega)
      unfold crossR
      rw [hB] at hw hn
      simp only [hB, hg]
      try simp only [Rat.mul_one]
      clear hg hB
      by_cases ha : a = 0
      · rw [if_pos ha]
        subst ha
        refine ⟨Rat.le_refl, a1, fun q h0 h1 => ?_⟩
        simp only [Rat.zero_mul] at *
        exact ⟨fun _ => h1, fun _ => hw⟩
      · rw [if_neg ha]
        have hap : 0 < a := by grind
        have ec : w / a * a = w := Rat.div_mul_cancel ha
        generalize w / a = c at *
        have key : ∀ q, a * q ≤ w ↔ q ≤ c := fun q => by
          have := mul_le_iff (x := q) (y := c) hap
          grind
        have h2 := (key x).mp hw
        simp only
        split
        · exact ⟨Rat.le_refl, a1, fun q h0 h1 => by rw [key]; constructor <;> intro _ <;> grind⟩
        · exact ⟨by grind, h2, fun q _ _ => key q⟩
    | least => cases hc
    | greatest => cases hc
    | middle p => cases hc
  | false =>
    unfold greatestFor
    rw [hc]
    simp only [Bool.false_eq_true, if_false]
    obtain ⟨b0, b1, b2, e⟩ := mid_at hr hc hk hl a0 a1
    rw [e] at hw
    split
    · rename_i hlt
      refine ⟨by grind, ?_, fun q h0 h1 => ?_⟩
      · grind
      · rw [(mid_at hr hc hk hl h0 h1).2.2.2]
        constructor
        · intro h; grind
        · intro h; grind
    · rename_i hlt
      refine ⟨Rat.le_refl, a1, fun q h0 h1 => ?_⟩
      rw [(mid_at hr hc hk hl h0 h1).2.2.2]
      refine ⟨fun _ => h1, fun _ => ?_⟩
      grind
end
/-! ### a worth of a book moved -/
def setB (b : List (List Rat)) (k t : Nat) (q : Rat) : List (List Rat) := b.set k ((b.getD k []).set t q)
theorem setB_length (b : List (List Rat)) (k t : Nat) (q : Rat) : (setB b k t q).length = b.length := List.length_set ..
theorem col_setB {b : List (List Rat)} {m k t j : Nat} {q : Rat} (hb : Bk b m) (hk : k < b.length) (ht : t < m) (hj : j < m) : col (setB b k t q) j = if j = t then (col b t).set k q else col b j := by
  have hkl : (b.getD k []).length = m := hb.len _ (getD_mem hk)
  unfold col setB
  rw [List.map_set]
  by_cases e : j = t
  · rw [if_pos e, e]
    congr 1
    rw [List.getD_eq_getElem?_getD, List.getElem?_set_self (by omega)]; rfl
  · rw [if_neg e]
    have : ((b.getD k []).set t q).getD j 0 = (b.map fun r => r.getD j 0)[k]'(by rw [List.length_map]; exact hk) := by
      rw [List.getElem_map, List.getD_eq_getElem?_getD, List.getElem?_set_ne (Ne.symm e), List.getD_eq_getElem?_getD (l := b), List.getElem?_eq_getElem hk, Option.getD_some, List.getD_eq_getElem?_getD]
    rw [this, List.set_getElem_self]
theorem setB_bk {b : List (List Rat)} {m k t : Nat} {q : Rat} (hb : Bk b m) (hk : k < b.length) (h0 : 0 ≤ q) (h1 : q ≤ 1) : Bk (setB b k t q) m := by
  refine ⟨by rw [setB_length]; exact hb.l1, by rw [setB_length]; exact hb.l4, hb.m1, hb.m12, fun r hr => ?_, fun r hr => ?_⟩
  · rcases List.mem_or_eq_of_mem_set hr with h | h
    · exact hb.len r h
    · rw [h, List.length_set]; exact hb.len _ (getD_mem hk)
  · rcases List.mem_or_eq_of_mem_set hr with h | h
    · exact hb.wts r h
    · rw [h]
      intro x hx
      rcases List.mem_or_eq_of_mem_set hx with h2 | h2
      · exact hb.wts _ (getD_mem hk) x h2
      · rw [h2]; exact ⟨h0, h1⟩
theorem setB_z {n : Nat} {b : List (List Rat)} {k t : Nat} {q : Rat} (hz : BkZ n b) (hk : k < b.length) (hq : Qz n q) : BkZ n (setB b k t q) := by
  intro r hr x hx
  rcases List.mem_or_eq_of_mem_set hr with h | h
  · exact hz r h x hx
  · rw [h] at hx
    rcases List.mem_or_eq_of_mem_set hx with h2 | h2
    · exact hz _ (getD_mem hk) x h2
    · rw [h2]; exact hq
/-- no other thing is worth more than one of these -/
def BestIn (W : Nat → Rat) (m : Nat) (ts : List Nat) : Prop := ∀ i ∈ ts, ∀ j, j < m → j ∉ ts → W j ≤ W i
def bestB (W : Nat → Rat) (m : Nat) (ts : List Nat) : Bool := ts.all fun i => (List.range m).all fun j => decide (j ∈ ts) || decide (W j ≤ W i)
theorem bestB_iff {W : Nat → Rat} {m : Nat} {ts : List Nat} : bestB W m ts = true ↔ BestIn W m ts := by
  unfold bestB BestIn
  rw [List.all_eq_true]
  refine forall_congr' fun i => forall_congr' fun _ => ?_
  rw [List.all_eq_true]
  refine forall_congr' fun j => ?_
  rw [List.mem_range, Bool.or_eq_true, decide_eq_true_iff, decide_eq_true_iff]
  refine forall_congr' fun _ => ?_
  constructor
  · intro h hn; exact h.resolve_left hn
  · intro h; exact (Decidable.em (j ∈ ts)).imp_right h
def wAtB (b : List (List Rat)) (r : Rule) (j : Nat) : Rat := worthBy r (col b j)
def outside (m : Nat) (ts : List Nat) : List Nat := (List.range m).filter fun j => !decide (j ∈ ts)
def roomOf (b : List (List Rat)) (m : Nat) (r : Rule) (ts : List Nat) (k t : Nat) : Rat × Rat :=
  if ts = [] ∨ outside m ts = [] then (0, 1)
  else if t ∈ ts then (leastFor r (col b t) k ((falling ((outside m ts).map (wAtB b r))).getD 0 0), 1)
  else (0, greatestFor r (col b t) k ((falling (ts.map (wAtB b r))).getD ((falling (ts.map (wAtB b r))).length - 1) 0))
theorem falling_top {l : List Rat} (h : l ≠ []) : (falling l).getD 0 0 ∈ l ∧ ∀ x ∈ l, x ≤ (falling l).getD 0 0 := by
  have hs := falling_sorted l
  have hp := falling_perm l
  cases e : falling l with
  | nil => rw [e] at hp; exact absurd hp.nil_eq.symm h
  | cons y m =>
    rw [e] at hs hp
    refine ⟨hp.mem_iff.mp (List.mem_cons_self ..), fun x hx => ?_⟩
    rcases List.mem_cons.mp (hp.mem_iff.mpr hx) with rfl | hx
    · exact Rat.le_refl
    · exact geQ_iff.mp ((List.pairwise_cons.mp hs).1 x hx)
theorem falling_bot {l : List Rat} (h : l ≠ []) : (falling l).getD ((falling l).length - 1) 0 ∈ l ∧ ∀ x ∈ l, (falling l).getD ((falling l).length - 1) 0 ≤ x := by
  have hs := falling_sorted l
  have hp := falling_perm l
  have hl : (falling l).length = l.length := falling_length l
  have h0 := List.length_pos_iff.mpr h
  have hlt : (falling l).length - 1 < (falling l).length := by omega
  rw [List.getD_eq_getElem?_getD, List.getElem?_eq_getElem hlt, Option.getD_some]
  refine ⟨hp.mem_iff.mp (List.getElem_mem _), fun x hx => ?_⟩
  obtain ⟨i, hi, e⟩ := List.mem_iff_getElem.mp (hp.mem_iff.mpr hx)
  rw [← e]
  rcases Nat.lt_or_eq_of_le (show i ≤ (falling l).length - 1 by omega) with g | g
  · exact geQ_iff.mp (List.pairwise_iff_getElem.mp hs i _ hi hlt g)
  · subst g; exact Rat.le_refl
section
variable {b : List (List Rat)} {m : Nat} (hb : Bk b m) {r : Rule} (hr : Ru r b.length) {k t : Nat} (hk : k < b.length) (ht : t < m)
include hb
theorem col_wts {j : Nat} (hj : j < m) : Wts (col b j) := fun q hq => by
  obtain ⟨row, hrow, hq⟩ := mem_col hb hj hq
  exact hb.wts row hrow q hq
include hr in
theorem wAtB_nn {j : Nat} (hj : j < m) : 0 ≤ wAtB b r j := worthBy_nn (by rw [col_length]; exact hr) (fun q hq => (col_wts hb hj q hq).1) (by rw [col_length]; exact hb.l1)
include hk ht
theorem col_at : (col b t).getD k 0 = wt (b.getD k []) t := by
  unfold col wt
  rw [List.getD_eq_getElem?_getD, List.getElem?_map, List.getElem?_eq_getElem hk, List.getD_eq_getElem?_getD (l := b), List.getElem?_eq_getElem hk]; rfl
theorem wAtB_set {q : Rat} {j : Nat} (hj : j < m) : wAtB (setB b k t q) r j = if j = t then worthBy r ((col b t).set k q) else wAtB b r j := by
  unfold wAtB
  rw [col_setB hb hk ht hj]
  split <;> rfl
include hr
theorem room_ok {ts : List Nat} (hts : ∀ i ∈ ts, i < m) (hbest : BestIn (wAtB b r) m ts) :
    0 ≤ (roomOf b m r ts k t).1 ∧ (roomOf b m r ts k t).1 ≤ wt (b.getD k []) t ∧ wt (b.getD k []) t ≤ (roomOf b m r ts k t).2 ∧ (roomOf b m r ts k t).2 ≤ 1 ∧
    ∀ q, 0 ≤ q → q ≤ 1 → (BestIn (wAtB (setB b k t q) r) m ts ↔ (roomOf b m r ts k t).1 ≤ q ∧ q ≤ (roomOf b m r ts k t).2) := by
  have cl := col_length b t
  have hr' : Ru r (col b t).length := by rw [cl]; exact hr
  have hk' : k < (col b t).length := by rw [cl]; exact hk
  have hw := col_wts hb ht
  have hx := at_self hr' hk' hw
  rw [col_at hb hk ht] at hx
  have ws : ∀ q j, j < m → wAtB (setB b k t q) r j = if j = t then worthBy r ((col b t).set k q) else wAtB b r j := fun q j hj => wAtB_set hb hk ht hj
  unfold roomOf
  split
  · rename_i he
    refine ⟨Rat.le_refl, hx.1, hx.2, Rat.le_refl, fun q h0 h1 => ⟨fun _ => ⟨h0, h1⟩, fun _ i hi j hj hn => ?_⟩⟩
    rcases he with he | he
    · rw [he] at hi; cases hi
    · have : j ∈ outside m ts := List.mem_filter.mpr ⟨List.mem_range.mpr hj, by simp [hn]⟩
      rw [he] at this; cases this
  · rename_i he
    obtain ⟨he1, he2⟩ := not_or.mp he
    split
    · rename_i hin
      obtain ⟨o1, o2⟩ := falling_top (l := (outside m ts).map (wAtB b r)) (by simpa using he2)
      obtain ⟨jo, hjo, ejo⟩ := List.mem_map.mp o1
      obtain ⟨jo1, jo2⟩ := List.mem_filter.mp hjo
      have jo1 := List.mem_range.mp jo1
      have jo2 : jo ∉ ts := by simpa using jo2
      generalize (falling ((outside m ts).map (wAtB b r))).getD 0 0 = w at *
      have hle : ∀ j, j < m → j ∉ ts → wAtB b r j ≤ w := fun j hj hn => o2 _ (List.mem_map.mpr ⟨j, List.mem_filter.mpr ⟨List.mem_range.mpr hj, by simp [hn]⟩, rfl⟩)
      have w0 : 0 ≤ w := by rw [← ejo]; exact wAtB_nn hb hr jo1
      obtain ⟨l0, l1, l2⟩ := least_for hr' hk' hw w0 (by rw [← ejo]; exact hbest t hin jo jo1 jo2)
      rw [col_at hb hk ht] at l1
      refine ⟨l0, l1, hx.2, Rat.le_refl, fun q h0 h1 => ?_⟩
      rw [← l2 q h0 h1]
      constructor
      · intro h
        have := h t hin jo jo1 jo2
        rw [ws q t ht, if_pos rfl, ws q jo jo1, if_neg (show jo ≠ t from fun e => jo2 (e ▸ hin)), ejo] at this
        exact ⟨this, h1⟩
      · rintro ⟨h, -⟩ i hi j hj hn
        rw [ws q j hj, if_neg (show j ≠ t from fun e => hn (e ▸ hin)), ws q i (hts i hi)]
        split
        · exact Rat.le_trans (hle j hj hn) h
        · exact hbest i hi j hj hn
    · rename_i hin
      obtain ⟨o1, o2⟩ := falling_bot (l := ts.map (wAtB b r)) (by simpa using he1)
      obtain ⟨jo, hjo, ejo⟩ := List.mem_map.mp o1
      generalize (falling (ts.map (wAtB b r))).getD ((falling (ts.map (wAtB b r))).length - 1) 0 = w at *
      have hge : ∀ i ∈ ts, w ≤ wAtB b r i := fun i hi => o2 _ (List.mem_map.mpr ⟨i, hi, rfl⟩)
      obtain ⟨l0, l1, l2⟩ := greatest_for hr' hk' hw (w := w) (by rw [← ejo]; exact hbest jo hjo t ht hin)
      rw [col_at hb hk ht] at l1
      refine ⟨Rat.le_refl, hx.1, l1, l0, fun q h0 h1 => ?_⟩
      rw [← l2 q h0 h1]
      constructor
      · intro h
        have := h jo hjo t ht hin
        rw [ws q t ht, if_pos rfl, ws q jo (hts jo hjo), if_neg (show jo ≠ t from fun e => hin (e ▸ hjo)), ejo] at this
        exact ⟨h0, this⟩
      · rintro ⟨-, h⟩ i hi j hj hn
        rw [ws q i (hts i hi), if_neg (show i ≠ t from fun e => hin (e ▸ hi)), ws q j hj]
        split
        · exact Rat.le_trans h (hge i hi)
        · exact hbest i hi j hj hn
end
theorem crossR_z {r : Rule} {l : List Rat} {k : Nat} {w : Rat} (hr : Ru r l.length) (hrz : RuZ 100 r) (hq : ∀ q ∈ l.set k 0, Qz 140 q) (hw : Qz 1000 w) (h4 : l.length ≤ 4) (hk : k < l.length) : ∀ c, crossR r l k w = some c → Qz 2100 c := by
  have hz1 : ∀ q ∈ l.set k 1, Qz 140 q := fun q hm => by
    obtain ⟨i, hi, e⟩ := List.mem_iff_getElem.mp hm
    rw [List.length_set] at hi
    rw [List.getElem_set] at e
    split at e
    · rw [← e]; exact qz_1.mono (by decide)
    · rename_i ne
      rw [← e]
      refine hq _ (List.mem_iff_getElem.mpr ⟨i, by rw [List.length_set]; exact hi, ?_⟩)
      rw [List.getElem_set, if_neg ne]
  have zW : ∀ x, (∀ q ∈ l.set k x, Qz 140 q) → Qz 965 (worthBy r (l.set k x)) := fun x hx => by
    refine Qz.mono (worthBy_qz (by rw [List.length_set]; exact hr) hrz hx (by rw [List.length_set]; omega)) ?_
    have := Nat.mul_le_mul_right (100 + 140 + 1) (show (l.set k x).length ≤ 4 by rw [List.length_set]; exact h4)
    omega
  intro c e
  cases r with
  | shares ws =>
    unfold crossR at e
    simp only at e
    split at e
    · cases e
    · rename_i ne
      cases e
      have hkw : k < ws.length := by rw [hr.1]; exact hk
      have zk : Qz 100 (ws.getD k 0) := by
        rw [List.getD_eq_getElem?_getD, List.getElem?_eq_getElem hkw]; exact hrz _ (List.getElem_mem _)
      exact ((hw.sub (zW 0 hq)).div zk ne).mono (by decide)
  | _ =>
    unfold crossR at e
    simp only at e
    split at e
    · cases e
    · rename_i ne
      cases e
      exact (hw.div (zW 1 hz1) ne).mono (by decide)
theorem edgesOf_z {r : Rule} {l : List Rat} {k : Nat} (hq : ∀ q ∈ l, Qz 850 q) : Qz 4000 (edgesOf r l k).1 ∧ Qz 4000 (edgesOf r l k).2 := by
  have g : ∀ i, Qz 4000 ((falling (l.eraseIdx k)).getD i 0) := fun i => by
    rw [List.getD_eq_getElem?_getD]
    cases e : (falling (l.eraseIdx k))[i]? with
    | none => exact qz_0.mono (by decide)
    | some q => exact (hq q (List.mem_of_mem_eraseIdx (mem_falling.mp (List.mem_of_getElem? e)))).mono (by decide)
  unfold edgesOf
  refine ⟨g _, ?_⟩
  simp only
  split
  · exact g _
  · exact qz_1.mono (by decide)
theorem enum_range (g : Nat → D) (m : Nat) : enumD ((List.range m).map g) = (List.range m).map fun j => .tup [.int ((j : Nat) : Int), g j] := by
  unfold enumD
  apply List.ext_getElem
  · simp
  · intro i h1 h2
    simp
section
variable {b : List (List Rat)} {m : Nat} (hb : Bk b m) {r : Rule} {k t : Nat} (hk : k < b.length) (ht : t < m) {n : Nat} (hz : BkZ n (setB b k t 0))
include hb hk ht hz
theorem col_small {j : Nat} (hj : j < m) (hn : j ≠ t) : ∀ q ∈ col b j, Qz n q := fun q hq => by
  have e := col_setB (q := 0) hb hk ht hj
  rw [if_neg hn] at e
  rw [← e] at hq
  obtain ⟨row, hr, hq⟩ := mem_col (setB_bk hb hk (by decide) (by decide)) hj hq
  exact hz row hr q hq
theorem col_small0 : ∀ q ∈ (col b t).set k 0, Qz n q := fun q hq => by
  have e := col_setB (q := 0) hb hk ht ht
  rw [if_pos rfl] at e
  rw [← e] at hq
  obtain ⟨row, hr, hq⟩ := mem_col (setB_bk hb hk (by decide) (by decide)) ht hq
  exact hz row hr q hq
end
theorem wAtB_z {b : List (List Rat)} {m k t : Nat} {r : Rule} (hb : Bk b m) (hk : k < b.length) (ht : t < m) (hz : BkZ 140 (setB b k t 0)) (hr : Ru r b.length) (hrz : RuZ 100 r) {j : Nat} (hj : j < m) (hn : j ≠ t) : Qz 1000 (wAtB b r j) := by
  have e := col_length b j
  have l1 := hb.l1
  refine Qz.mono (worthBy_qz (by rw [e]; exact hr) hrz (col_small hb hk ht hz hj hn) (by omega)) ?_
  have := Nat.mul_le_mul_right (100 + 140 + 1) (show (col b j).length ≤ 4 by rw [e]; exact hb.l4)
  omega
theorem fewBy_fst (b : List (List Rat)) (r : Rule) : (fewBy b r).map Prod.fst = orderOf (worthsOf b r) := by
  unfold fewBy orderOf
  have hr : ((worthsOf b r).zipIdx.map fun p => (p.2, p.1)).map Prod.fst = List.range (worthsOf b r).length := by
    rw [List.map_map]
    apply List.ext_getElem
    · simp
    · intro i h1 h2; simp
  rw [← hr]
  refine sortBy_map _ _ Prod.fst _ fun x hx y hy => ?_
  obtain ⟨p, hp, rfl⟩ := List.mem_map.mp hx
  obtain ⟨q, hq, rfl⟩ := List.mem_map.mp hy
  rw [(zipIdx_wt hp).2, (zipIdx_wt hq).2]
/-- the few by index -/
def fewI (b : List (List Rat)) (r : Rule) (c : Nat) : List Nat := ((fewBy b r).take c).map Prod.fst
theorem fewI_eq (b : List (List Rat)) (r : Rule) (c : Nat) : fewI b r c = (orderOf (worthsOf b r)).take c := by
  unfold fewI
  rw [List.map_take, fewBy_fst]
theorem fewI_ok {b : List (List Rat)} {m : Nat} (hb : Bk b m) {r : Rule} {c : Nat} (hc : c ≤ m) : (∀ i ∈ fewI b r c, i < m) ∧ (fewI b r c).length = c ∧ (fewI b r c).Nodup ∧ BestIn (wAtB b r) m (fewI b r c) := by
  obtain ⟨h1, h2, h3⟩ := few_ok b r
  rw [hb.things] at h1
  unfold fewI
  rw [List.map_take]
  have hm : ∀ i, i ∈ (fewBy b r).map Prod.fst ↔ i < m := fun i => by rw [h1.mem_iff, List.mem_range]
  have hw : ∀ i, i < m → wt (worthsOf b r) i = wAtB b r i := fun i hi => wt_worthsOf (by rw [hb.things]; exact hi)
  have hl : ((fewBy b r).map Prod.fst).length = m := by rw [h1.length_eq, List.length_range]
  refine ⟨fun i hi => (hm i).mp (List.mem_of_mem_take hi), by rw [List.length_take, hl]; omega, (h1.nodup_iff.mpr List.nodup_range).sublist (List.take_sublist ..), fun i hi j hj hn => ?_⟩
  have hi2 := (hm i).mp (List.mem_of_mem_take hi)
  have hjd := (mem_take_or c ((hm j).mpr hj)).resolve_left hn
  have := pairwise_take_drop h2 c hi hjd
  rw [hw j hj, hw i hi2] at this
  exact this
/-! sizes of a drawn book's rooms -/
section
variable {r : Rule} {l : List Rat} {k : Nat} (hr : Ru r l.length) (hrz : RuZ 45 r) (hq : ∀ q ∈ l, Qz 40 q) (h4 : l.length ≤ 4) (hk : k < l.length)
include hr hrz hq h4 hk
theorem set_z45 {x : Rat} (hx : Qz 40 x) : Qz 345 (worthBy r (l.set k x)) := by
  refine Qz.mono (worthBy_qz (m := 40) (by rw [List.length_set]; exact hr) hrz (fun q hm => ?_) (by rw [List.length_set]; omega)) ?_
  · rcases List.mem_or_eq_of_mem_set hm with h | h
    · exact hq q h
    · rw [h]; exact hx
  · have := Nat.mul_le_mul_right (45 + 40 + 1) (show (l.set k x).length ≤ 4 by rw [List.length_set]; exact h4)
    omega
theorem crossR_z45 {w : Rat} (hw : Qz 345 w) : ∀ c, crossR r l k w = some c → Qz 740 c := by
  intro c e
  cases r with
  | shares ws =>
    unfold crossR at e
    simp only at e
    split at e
    · cases e
    · rename_i ne
      cases e
      have hkw : k < ws.length := by rw [hr.1]; exact hk
      have zk : Qz 45 (ws.getD k 0) := by
        rw [List.getD_eq_getElem?_getD, List.getElem?_eq_getElem hkw]; exact hrz _ (List.getElem_mem _)
      exact ((hw.sub (set_z45 hr hrz hq h4 hk (qz_0.mono (by decide)))).div zk ne).mono (by decide)
  | _ =>
    unfold crossR at e
    simp only at e
    split at e
    · cases e
    · rename_i ne
      cases e
      exact (hw.div (set_z45 hr hrz hq h4 hk (qz_1.mono (by decide))) ne).mono (by decide)
theorem edges_z45 : Qz 740 (edgesOf r l k).1 ∧ Qz 740 (edgesOf r l k).2 := by
  have g : ∀ i, Qz 740 ((falling (l.eraseIdx k)).getD i 0) := fun i => by
    rw [List.getD_eq_getElem?_getD]
    cases e : (falling (l.eraseIdx k))[i]? with
    | none => exact qz_0.mono (by decide)
    | some q => exact (hq q (List.mem_of_mem_eraseIdx (mem_falling.mp (List.mem_of_getElem? e)))).mono (by decide)
  unfold edgesOf
  refine ⟨g _, ?_⟩
  simp only
  split
  · exact g _
  · exact qz_1.mono (by decide)
theorem for_z45 {w : Rat} (hw : Qz 345 w) : Qz 740 (leastFor r l k w) ∧ Qz 740 (greatestFor r l k w) := by
  have z0 : Qz 740 (0 : Rat) := qz_0.mono (by decide)
  have z1 : Qz 740 (1 : Rat) := qz_1.mono (by decide)
  have zw : Qz 740 w := hw.mono (by decide)
  have hc := crossR_z45 hr hrz hq h4 hk hw
  unfold leastFor greatestFor
  split
  · cases e : crossR r l k w with
    | none => exact ⟨z0, z1⟩
    | some c =>
      have := hc c e
      exact ⟨by simp only; split <;> assumption, by simp only; split <;> assumption⟩
  · exact ⟨by split <;> assumption, by split <;> assumption⟩
end
theorem room_z {b : List (List Rat)} {m : Nat} (hb : Bk b m) (hz : BkZ 40 b) {r : Rule} (hr : Ru r b.length) (hrz : RuZ 45 r) {k t : Nat} (hk : k < b.length) (ht : t < m) {ts : List Nat} (hts : ∀ i ∈ ts, i < m) : Qz 740 (roomOf b m r ts k t).1 ∧ Qz 740 (roomOf b m r ts k t).2 := by
  have z0 : Qz 740 (0 : Rat) := qz_0.mono (by decide)
  have z1 : Qz 740 (1 : Rat) := qz_1.mono (by decide)
  have e := col_length b t
  have hq : ∀ j, j < m → ∀ q ∈ col b j, Qz 40 q := fun j hj q hq => by
    obtain ⟨row, hrow, hq⟩ := mem_col hb hj hq
    exact hz row hrow q hq
  have hW : ∀ j, j < m → Qz 345 (wAtB b r j) := fun j hj => by
    refine Qz.mono (worthBy_qz (m := 40) (by rw [col_length]; exact hr) hrz (hq j hj) (by rw [col_length]; exact hb.l1)) ?_
    have := Nat.mul_le_mul_right (45 + 40 + 1) (show (col b j).length ≤ 4 by rw [col_length]; exact hb.l4)
    omega
  have F := fun w hw => for_z45 (w := w) (by rw [e]; exact hr) hrz (hq t ht) (by rw [e]; exact hb.l4) (show k < (col b t).length by rw [e]; exact hk) hw
  unfold roomOf
  split
  · exact ⟨z0, z1⟩
  · rename_i he
    obtain ⟨he1, he2⟩ := not_or.mp he
    split
    · refine ⟨(F _ ?_).1, z1⟩
      obtain ⟨j, hj, ej⟩ := List.mem_map.mp (falling_top (l := (outside m ts).map (wAtB b r)) (by simpa using he2)).1
      rw [← ej]; exact hW j (List.mem_range.mp (List.mem_filter.mp hj).1)
    · refine ⟨z0, (F _ ?_).2⟩
      obtain ⟨j, hj, ej⟩ := List.mem_map.mp (falling_bot (l := ts.map (wAtB b r)) (by simpa using he1)).1
      rw [← ej]; exact hW j (hts j hj)
theorem qD_less1 (p : Rat) : D.tup [.int ((p.den : Int) - p.num), .int (p.den : Int)] = qD (1 - p) := by
  have hc : ((p.den : Int) - p.num).natAbs.Coprime p.den := by
    have h1 : Int.gcd ((p.den : Int) - p.num) (p.den : Int) = Int.gcd p.num (p.den : Int) := by
      rw [Int.gcd_comm, Int.gcd_comm p.num]
      first
        | (rw [Int.sub_eq_add_neg, Int.add_comm]; simp)
        | simp
    have h2 : Int.gcd p.num (p.den : Int) = 1 := by
      have := p.reduced
      unfold Int.gcd
      simpa using this
    rw [h2] at h1
    unfold Int.gcd at h1
    simpa using h1
  have e : (⟨(p.den : Int) - p.num, p.den, p.den_nz, hc⟩ : Rat) = 1 - p := by
    have h1 := rat_self ⟨(p.den : Int) - p.num, p.den, p.den_nz, hc⟩
    have h2 := rat_self p
    have h3 := rat_dn p
    rw [← h1]
    simp only
    rw [Rat.intCast_sub]
    conv => rhs; rw [← h2]
    have : (((p.den : Int) : Int) : Rat) = (p.den : Rat) := rfl
    grind
  rw [← e]; rfl
end TL
/-! # texts cut -/
namespace TL
open PySem PyProof.Rows L2
section
variable {X : Cx} {W : WX} {pos : Pos} {e : Expr} {ea : DE} {lo hi : Option Expr} {ol oh : DO} {p2 : Pos}
def dSlX (ea : DE) (lo hi : DO) : DE := fun M Q E => ea M (fun d M0 => lo M0 (fun x M1 => hi M1 (fun y M2 => asStr d fun z => z.length ≤ 10000 ∧ Q (.str (cutS z x y)) M2) E) E) E
theorem d_slX (h : PE X e (tSl rSlS (liftE X.K W (ea)) (liftO X.K W ol) (liftO X.K W oh))) : PE X e (liftE X.K W (dSlX ea ol oh)) := peW h fun σ H Q ⟨fx, M, L, F, Q0, E0, sr, he, hq, hx⟩ => by
  refine ⟨fx, M, L, F, _, E0, sr, he, fun d M0 v F0 H0 q0 s0 sr0 => ⟨fx, M0, _, F0, _, E0, sr0, q0, fun x M1 F1 H1 q1 s1 sr1 => ⟨fx, M1, _, F1, _, E0, sr1, q1, fun y M2 F2 H2 q2 s2 sr2 => ?_, fun C M' F' H' z s sr' => hx C M' F' H' z (s0.trans (s1.trans s)) sr'.pop⟩, fun C M' F' H' z s sr' => hx C M' F' H' z (s0.trans s) sr'.pop⟩, hx⟩
  obtain ⟨z, rfl, hl, q⟩ := asStr_iff.mp q2
  have p := sr2.topC (d := .str z) rfl
  cases p
  exact ⟨z, rfl, by rw [sizeLine_eq]; omega, hq _ M2 _ F2 H2 q (s0.trans (s1.trans s2)) (sr2.pop.push (.str _))⟩
end
theorem cal_falseL {P : Program} {w : World} {K : PySem.W.Frag} {mg : Str → Option Value} {base : Heap} {x : Str} {st : Stmt} {ps : List Str} {n l : Nat} (D : DefAt K mg x st ps) : Cal P w K mg base l n x (fun _ _ _ => False) := by
  obtain ⟨a, fd, F, g, b⟩ := D
  refine ⟨a, fd, ps, ⟨fun vs H Q E h => ?_, fun hr he hb hv h => ?_⟩, g, F.kp, b⟩
  · obtain ⟨_, _, _, _, _, _, _, _, _, _, h, _⟩ := h
    exact h.elim
  · obtain ⟨_, _, _, _, _, _, _, _, _, _, h, _⟩ := h
    exact h.elim
/-- a def that calls itself and others -/
theorem cal_recL {P : Program} {w : World} {K : PySem.W.Frag} {mg : Str → Option Value} {base : Heap} {x : Str} {st : Stmt} {N ps : List Str} {n m l0 : Nat} {T : Nat → Spec} {r : Spec → DS} (D : DefAt K mg x st ps) (S : FnScope N ps (defScope st)) (hn : ps.length = n) (hm : N.length = n + m)
    (deriv : ∀ (k : Nat) (T' : Spec), l0 ≤ k → Cal P w K mg base k n x T' → ∀ (f : Addr) (cdv : Value) (A : Around) (outer : List Env) (s : Shared) (H : Hp) (E : XK), RmG k (A.deeper (envOfC x (defScope st) s.heap.objs.size f cdv)) →
      PSs (cxOf (L2.CX P w) P w K mg base N x (defScope st) f cdv A outer s H E) (defBody st) (liftS K (fun cls d _ H => E cls d H) (r T')))
    (law : ∀ j as Q E, T j as Q E → r (prevS T j) (endsOf Q E) (as ++ List.replicate m .un)) : ∀ j, Cal P w K mg base (l0 + j + 1) n x (T j)
  | 0 => cal_ok D S hn hm (deriv l0 _ (Nat.le_refl _) (cal_falseL D)) (law 0)
  | j + 1 => cal_ok D S hn hm (deriv (l0 + j + 1) _ (by omega) (cal_recL D S hn hm deriv law j)) (law (j + 1))
section
variable {X : Cx} {W : WX} {pos : Pos} {a b : Expr} {ea eb : DE}
/-! list(range(i, j)) -/
def dLR2 (ea eb : DE) : DE := fun M Q E => ea M (fun x M1 => eb M1 (fun y M2 => asI x fun i => asI y fun j => smallI i ∧ smallI j ∧ j - i ≤ 10000 ∧ Q (.own (rngD i j)) M2) E) E
theorem d_lr2 {p p2 pos2 : Pos} (hc : X.calm = true) (hml : X.mg "list" = none) (hmr : X.mg "range" = none) (ha : PE X a (liftE X.K W ea)) (hb : PE X b (liftE X.K W eb)) (hg : Gl X "list" := by rfl) (hr : Gl X "range" := by rfl)
    (na : starEach [a, b] X.env = (false, eval a X.env) :: starEach [b] X.env := by rfl) (nb : starEach [b] X.env = (false, eval b X.env) :: starEach [] X.env := by rfl) (nc : ((backTo pos2 (starEach [b] X.env)).any fun x => x.fst) = false := by rfl)
    (nd : starEach [.Call (.Name "range" p2) [a, b] [] pos2] X.env = (false, eval (.Call (.Name "range" p2) [a, b] [] pos2) X.env) :: starEach [] X.env := by rfl) :
    PE X (.Call (.Name "list" p) [.Call (.Name "range" p2) [a, b] [] pos2] [] pos) (liftE X.K W (dLR2 ea eb)) := peW (pe_listRg hc hg hml (prg_2 hr hmr ha hb na nb nc) nd) fun σ H Q ⟨fx, M, L, F, Q0, E0, sr, he, hq, hx⟩ =>
  ⟨fx, M, L, F, _, E0, sr, he, fun x M1 v F1 H1 q1 s1 sr1 => ⟨fx, M1, _, F1, _, E0, sr1, q1, fun y M2 w F2 H2 q2 s2 sr2 => (by
    obtain ⟨i, rfl, q3⟩ := asI_iff.mp q2
    obtain ⟨j, rfl, hi, hj, h10, q⟩ := asI_iff.mp q3
    have := sr2.int; subst this
    have := sr2.pop.int; subst this
    unfold smallI at hi hj
    exact ⟨i, j, rfl, rfl, ⟨by omega, by omega, by omega, by omega, by omega⟩, fun p hp => hq _ M2 _ F2 _ q (s1.trans s2) (sr2.pop.pop.ownOf (rps_rng i j) hp)⟩), fun C M' F' H' z s sr' => hx C M' F' H' z (s1.trans s) sr'.pop⟩, hx⟩
end
end TL
/-! # texts: +, join, split, int -/
namespace TL
open PySem PyProof.Rows L2
section
variable {X : Cx} {W : WX} {a b e : Expr} {pos : Pos} {ea eb : DE}
def catOk (x y : Str) : Prop := x.length + y.length ≤ 16777216
def gCatS : D → D → (D → Prop) → Prop := fun x y k => asStr x fun s => asStr y fun t => catOk s t ∧ k (.str (s ++ t))
theorem opd_catS : OpD X (fun x y H Q => ∃ i j, x = .str i ∧ y = .str j ∧ i.length + j.length ≤ sizeLine ∧ Q (.str (i ++ j)) H) gCatS := fun {fx M L σ F H v w x y k} sr h => by
  obtain ⟨s, rfl, h1⟩ := asStr_iff.mp (show asStr x fun s => asStr y fun t => catOk s t ∧ k (.str (s ++ t)) from h)
  obtain ⟨t, rfl, hz, h⟩ := asStr_iff.mp h1
  have e1 := sr.str
  have e2 := sr.pop.str
  subst e1 e2
  exact ⟨_, _, h, .str _, fun Q q => ⟨s, t, rfl, rfl, by rw [sizeLine_eq]; exact hz, q⟩⟩
theorem d_catS (ha : PE X a (liftE X.K W ea)) (hb : PE X b (liftE X.K W eb)) : PE X (.BinOp a .Add b pos) (liftE X.K W (dBin gCatS ea eb)) := d_op op_add_str opd_catS ha hb
/-! sep.join(list) -/
def asStrs : List D → Option (List Str)
  | [] => some []
  | .str b :: l => (asStrs l).map (b :: ·)
  | _ => none
theorem asStrs_ok {K : PySem.W.Frag} {F H : Hp} : ∀ {l : List D} {vs : List V} {f : List Addr} {bs : List Str}, Rps K F H l vs f → asStrs l = some bs → vs = bs.map V.str
  | [], _, _, _, h, e => by cases h; simp [asStrs] at e; subst e; rfl
  | d :: l, _, _, bs, h, e => by
    cases h with
    | cons p q =>
      cases d <;> try (cases e)
      unfold asStrs at e
      obtain ⟨cs, e1, rfl⟩ := Option.map_eq_some_iff.mp e
      cases p
      rw [asStrs_ok q e1]; rfl
theorem asStrs_map (l : List Str) : asStrs (l.map D.str) = some l := by
  induction l with
  | nil => rfl
  | cons x l ih => rw [List.map_cons]; unfold asStrs; rw [ih]; rfl
def joinOk (s : Str) (ys : List Str) : Prop := (ys.map (·.length)).sum + ys.length * s.length ≤ 16777216
def dJoin (ea eb : DE) : DE := fun M Q E => ea M (fun x M1 => asStr x fun s => eb M1 (fun y M2 => lsD y fun l => getO (asStrs l) fun ys => joinOk s ys ∧ Q (.str (Txt.join s ys)) M2) E) E
theorem d_join {apos : Pos} (ha : PE X a (liftE X.K W ea)) (hb : PE X b (liftE X.K W eb)) (hs : starEach [b] X.env = [(false, eval b X.env)] := by rfl) (hbase : attributeBase a "join" X.env (eval a X.env) = eval a X.env := by rfl) (hline : (apos.endLine == pos.line) = true := by rfl) :
    PE X (.Call (.Attribute a "join" apos) [b] [] pos) (liftE X.K W (dJoin ea eb)) := peW (pe_join ha hb hs hbase hline) fun σ H Q ⟨fx, M, L, F, Q0, E0, sr, he, hq, hx⟩ =>
  ⟨fx, M, L, F, _, E0, sr, he, fun x M1 v F1 H1 q1 s1 sr1 => (by
    obtain ⟨s, rfl, q1⟩ := asStr_iff.mp q1
    have ev := sr1.str
    subst ev
    refine ⟨⟨s, rfl⟩, fx, M1, _, F1, _, E0, sr1, q1, fun y M2 w F2 H2 q2 s2 sr2 => ?_, fun C M' F' H' z s sr' => hx C M' F' H' z (s1.trans s) sr'.pop⟩
    obtain ⟨f, p⟩ := sr2.top
    obtain ⟨l, ad, vs, g, q3, rfl, hH, r⟩ := lsD_ok sr2.sub p q2
    obtain ⟨ys, hy, hz, q4⟩ := getO_iff.mp q3
    have := asStrs_ok r hy
    subst this
    exact ⟨s, ad, ys, rfl, rfl, .inl (SqL.of hH), hz, hq _ M2 _ F2 H2 q4 (s1.trans s2) (sr2.pop.pop.push (.str _))⟩), hx⟩
/-! a text, split -/
theorem rps_strs {K : PySem.W.Frag} {F H : Hp} : ∀ ys : List Str, Rps K F H (ys.map D.str) (ys.map V.str) []
  | [] => .nil
  | y :: ys => .cons (f := []) (.str y) (rps_strs ys)
def dSplit (ea eb : DE) : DE := fun M Q E => ea M (fun x M1 => asStr x fun s => eb M1 (fun y M2 => asStr y fun t => (t.length == 0) = false ∧ s.length ≤ 16000000 ∧ Q (.own ((Txt.split s t).map D.str)) M2) E) E
theorem d_split {apos : Pos} (ha : PE X a (liftE X.K W ea)) (hb : PE X b (liftE X.K W eb)) (hs : starEach [b] X.env = [(false, eval b X.env)] := by rfl) (hbase : attributeBase a "split" X.env (eval a X.env) = eval a X.env := by rfl) (hline : (apos.endLine == pos.line) = true := by rfl) :
    PE X (.Call (.Attribute a "split" apos) [b] [] pos) (liftE X.K W (dSplit ea eb)) := peW (pe_split ha hb hs hbase hline) fun σ H Q ⟨fx, M, L, F, Q0, E0, sr, he, hq, hx⟩ =>
  ⟨fx, M, L, F, _, E0, sr, he, fun x M1 v F1 H1 q1 s1 sr1 => (by
    obtain ⟨s, rfl, q1⟩ := asStr_iff.mp q1
    have ev := sr1.str
    subst ev
    refine ⟨⟨s, rfl⟩, fx, M1, _, F1, _, E0, sr1, q1, fun y M2 w F2 H2 q2 s2 sr2 => ?_, fun C M' F' H' z s sr' => hx C M' F' H' z (s1.trans s) sr'.pop⟩
    obtain ⟨t, rfl, h0, hz, q4⟩ := asStr_iff.mp q2
    have ev := sr2.str
    subst ev
    exact ⟨s, t, rfl, rfl, h0, by rw [sizeLine_eq]; omega, fun p hp => hq _ M2 _ F2 _ q4 (s1.trans s2) (sr2.pop.pop.ownOf (rps_strs _) hp)⟩), hx⟩
/-! int(text) -/
def gIntS : D → (D → Prop) → Prop := fun d k => asStr d fun s => getO (PySem.intText? s) fun n => s.length ≤ 640 ∧ k (.int n)
theorem cal_intS : Cal1 X (fun xs H Q => ∃ a n, xs = [.str a] ∧ PySem.intText? a = some n ∧ a.length ≤ 640 ∧ Q (.int n) H) gIntS := fun {F H d v f k} s p h => by
  obtain ⟨x, rfl, h⟩ := asStr_iff.mp h
  obtain ⟨n, hn, hl, h⟩ := getO_iff.mp h
  cases p
  exact ⟨_, _, h, .int _, fun Q q => ⟨x, n, rfl, hn, hl, q⟩⟩
theorem d_intS {p : Pos} (hm : X.mg "int" = none) (ha : PE X e (liftB X.K W ea)) (hg : Gl X "int" := by rfl) (he : starEach [e] X.env = [(false, eval e X.env)] := by rfl) : PE X (.Call (.Name "int" p) [e] [] pos) (liftE X.K W (dCal1 gIntS ea)) :=
  d_calT call_int_str cal_intS hg hm (by decide +kernel) ha (by decide) (by decide) he
/-! a sign in a text -/
def sgn (c : Nat) : D := .str ⟨#[c]⟩
def sgnOf (s : Str) : Option Nat := match s.cps.toList with | [c] => some c | _ => none
theorem sgnOf_iff {s : Str} {c : Nat} (h : sgnOf s = some c) : s = ⟨#[c]⟩ := by
  unfold sgnOf at h
  obtain ⟨⟨l⟩⟩ := s
  match l, h with
  | [x], h => cases h; rfl
def gInS : D → D → (D → Prop) → Prop := fun x y k => asStr x fun s => asStr y fun t => getO (sgnOf s) fun c => k (.bl (decide (c ∈ t.cps.toList)))
def gNinS : D → D → (D → Prop) → Prop := fun x y k => asStr x fun s => asStr y fun t => getO (sgnOf s) fun c => k (.bl (!decide (c ∈ t.cps.toList)))
theorem opd_inS : OpD X (fun x y H Q => ∃ (c : Nat) (z : Str), x = .str ⟨#[c]⟩ ∧ y = .str z ∧ Q (.bl (decide (c ∈ z.cps.toList))) H) gInS := fun {fx M L σ F H v w x y k} sr h => by
  obtain ⟨s, rfl, h1⟩ := asStr_iff.mp (show asStr x fun s => asStr y fun t => getO (sgnOf s) fun c => k (.bl (decide (c ∈ t.cps.toList))) from h)
  obtain ⟨t, rfl, h2⟩ := asStr_iff.mp h1
  obtain ⟨c, hc, h3⟩ := getO_iff.mp h2
  have e1 := sr.str
  have e2 := sr.pop.str
  subst e1 e2
  exact ⟨_, _, h3, .bl _, fun Q q => ⟨c, t, by rw [sgnOf_iff hc], rfl, q⟩⟩
theorem opd_ninS : OpD X (fun x y H Q => ∃ (c : Nat) (z : Str), x = .str ⟨#[c]⟩ ∧ y = .str z ∧ Q (.bl (!decide (c ∈ z.cps.toList))) H) gNinS := fun {fx M L σ F H v w x y k} sr h => by
  obtain ⟨s, rfl, h1⟩ := asStr_iff.mp (show asStr x fun s => asStr y fun t => getO (sgnOf s) fun c => k (.bl (!decide (c ∈ t.cps.toList))) from h)
  obtain ⟨t, rfl, h2⟩ := asStr_iff.mp h1
  obtain ⟨c, hc, h3⟩ := getO_iff.mp h2
  have e1 := sr.str
  have e2 := sr.pop.str
  subst e1 e2
  exact ⟨_, _, h3, .bl _, fun Q q => ⟨c, t, by rw [sgnOf_iff hc], rfl, q⟩⟩
theorem d_inS (ha : PE X a (liftE X.K W ea)) (hb : PE X b (liftE X.K W eb)) (hm : behindInMarks .In b = false := by rfl) : PE X (.Compare a [.In] [b] pos) (liftE X.K W (dBin gInS ea eb)) := d_cmp op_in_sign opd_inS ha hb hm
theorem d_ninS (ha : PE X a (liftE X.K W ea)) (hb : PE X b (liftE X.K W eb)) (hm : behindInMarks .NotIn b = false := by rfl) : PE X (.Compare a [.NotIn] [b] pos) (liftE X.K W (dBin gNinS ea eb)) := d_cmp op_notIn_sign opd_ninS ha hb hm
theorem t_inS (ha : PE X a (liftE X.K W ea)) (hb : PE X b (liftE X.K W eb)) (hm : behindInMarks .In b = false := by rfl) : PT X (.Compare a [.In] [b] pos) (liftT X.K W (dT (dBin gInS ea eb))) := t_cmp op_in_sign opd_inS ha hb hm
theorem t_ninS (ha : PE X a (liftE X.K W ea)) (hb : PE X b (liftE X.K W eb)) (hm : behindInMarks .NotIn b = false := by rfl) : PT X (.Compare a [.NotIn] [b] pos) (liftT X.K W (dT (dBin gNinS ea eb))) := t_cmp op_notIn_sign opd_ninS ha hb hm
/-! over the signs of a text -/
def signs (s : Str) : List D := s.cps.toList.map sgn
theorem walks_str {K : PySem.W.Frag} {F0 : Hp} {σ0 : L2.St} (s : Str) : Walks K (Its s) F0 σ0 none (signs s) where
  go := fun {fx M L σ F H i d} sr _ sm hi => by
    unfold signs at hi
    rw [List.getElem?_map] at hi
    obtain ⟨c, hc, rfl⟩ := Option.map_eq_some_iff.mp hi
    have hc : s.cps[i]? = some c := by rw [← Array.getElem?_toList]; exact hc
    have hl : i < s.cps.size := by
      rcases Nat.lt_or_ge i s.cps.size with z | z
      · exact z
      · rw [Array.getElem?_eq_none z] at hc; cases hc
    refine ⟨hl, fun x H' y => ?_⟩
    obtain ⟨rfl, c', hc', rfl⟩ := y
    rw [hc] at hc'; cases hc'
    exact ⟨F, Same.refl _, sr, .str _⟩
  stop := fun {fx M L σ F H} sr _ sm => by
    show s.cps.size ≤ (signs s).length
    unfold signs
    rw [List.length_map, Array.length_toList]; exact Nat.le_refl _
def itStr (ea : DE) : DI := fun M Q E => ea M (fun d M1 => asStr d fun s => Q (signs s) none M1) E
theorem i_str {tg : Expr} (h : PE X e (liftE X.K W ea)) : PI X tg e (liftI X.K W (itStr ea)) := piW (pi_str h) fun σ H R ⟨fx, M, L, F, Q0, E0, sr, he, hq, hx⟩ =>
  ⟨fx, M, L, F, _, E0, sr, he, fun d M1 v F1 H1 q s1 sr1 => (by
    obtain ⟨s, rfl, q⟩ := asStr_iff.mp q
    have ev := sr1.str
    subst ev
    exact ⟨s, rfl, hq _ _ M1 _ F1 H1 q s1 sr1.pop (walks_str s)⟩), hx⟩
end
end TL
/-! # texts of numbers, fractions, books, rules -/
namespace TL
open PySem PyProof.Rows L2
theorem str_beq (a b : Str) : (a == b) = decide (tl a = tl b) := by
  rw [show (a == b) = (tl a == tl b) from (PyProof.Rows.toList_beq a b).symm]
  rw [Bool.eq_iff_iff, beq_iff_eq, decide_eq_true_iff]
theorem tl_inj {a b : Str} (h : tl a = tl b) : a = b := ext_tl h
theorem eqv_strT (a b : Str) : D.eqv (.str a) (.str b) = decide (a = b) := by
  rw [eqv_str, str_beq, decide_eq_decide]
  exact ⟨tl_inj, fun h => by rw [h]⟩
def iT (n : Nat) : Str := Str.ofString (toString ((n : Nat) : Int))
theorem tl_iT (n : Nat) : tl (iT n) = numL n := tl_num n
theorem iT_len {n k : Nat} (hk : 0 < k) (h : n < 10 ^ k) : (iT n).length ≤ k := by rw [len_tl, tl_iT]; exact numL_len hk h
theorem strT_nat (n : Nat) : strT (.int (n : Int)) = iT n := rfl
/-- what a number's text says, refused otherwise -/
def figs (l : List Nat) : Bool := l.all fun c => decide (48 ≤ c ∧ c ≤ 57)
def numRead (s : Str) (most : Nat) : Option Nat := if tl s = [] ∨ most < (tl s).length ∨ figs (tl s) = false then none else if (tl s).head? = some 48 ∧ tl s ≠ [48] then none else some (NumText.digitsVal (tl s))
theorem figs_all {l : List Nat} : figs l = true ↔ NumText.AllDigits l := by
  unfold figs
  rw [List.all_eq_true]
  constructor
  · intro h c hc; exact of_decide_eq_true (h c hc)
  · intro h c hc; exact decide_eq_true (h c hc)
theorem numL_head : ∀ n : Nat, (numL n).head? = some 48 → n = 0 := by
  intro n
  induction n using Nat.strongRecOn with
  | ind n ih =>
    intro h
    by_cases h10 : n < 10
    · rw [numL_lt h10] at h
      have : 48 + n = 48 := by simpa using h
      omega
    · rw [numL_step (by omega)] at h
      have hne := numL_ne (n / 10)
      rw [List.head?_append, show ((numL (n / 10)).head?).or _ = (numL (n / 10)).head? from (by cases hq : numL (n / 10) with | nil => exact absurd hq hne | cons a l => rfl)] at h
      have := ih (n / 10) (by omega) h
      omega
theorem numRead_iT {n most : Nat} (h : (numL n).length ≤ most) : numRead (iT n) most = some n := by
  unfold numRead
  rw [tl_iT, if_neg, if_neg, numL_val]
  · rintro ⟨h1, h2⟩
    have := numL_head n h1
    subst this
    exact h2 (by decide)
  · rintro (h1 | h1 | h1)
    · exact numL_ne n h1
    · omega
    · rw [figs_all.mpr (numL_digits n)] at h1; cases h1
theorem fig_mem (c : Nat) : decide (c ∈ ("0123456789" : Str).cps.toList) = decide (48 ≤ c ∧ c ≤ 57) := by
  have : ("0123456789" : Str).cps.toList = [48, 49, 50, 51, 52, 53, 54, 55, 56, 57] := by decide +kernel
  rw [this, decide_eq_decide]
  simp only [List.mem_cons, List.not_mem_nil, or_false]
  omega
/-! a fraction -/
def fracS (q : Rat) : Str := if q.den = 1 then iT q.num.toNat else iT q.num.toNat ++ "/" ++ iT q.den
theorem tl_cat (a b : Str) : tl (a ++ b) = tl a ++ tl b := tl_append a b
theorem tl_fracS (q : Rat) : tl (fracS q) = if q.den = 1 then numL q.num.toNat else numL q.num.toNat ++ 47 :: numL q.den := by
  unfold fracS
  split
  · exact tl_iT _
  · rw [tl_cat, tl_cat, tl_iT, tl_iT, List.append_assoc]; rfl
theorem strT_num {q : Rat} (h : 0 ≤ q) : strT (.int q.num) = iT q.num.toNat := by
  have := Rat.num_nonneg.mpr h
  obtain ⟨n, hn⟩ := Int.eq_ofNat_of_zero_le this
  rw [hn]; rfl
theorem two850 : (2 : Nat) ^ 850 ≤ 10 ^ 256 := by decide +kernel
theorem num_lt {q : Rat} (h : Qz 850 q) : q.num.toNat < 10 ^ 256 ∧ q.den < 10 ^ 256 := by
  have h1 : q.num.natAbs < 2 ^ 850 := h.1
  have h2 : ((q.den : Nat) : Int).natAbs < 2 ^ 850 := h.2
  have := two850
  refine ⟨?_, ?_⟩ <;> omega
theorem fracS_len {q : Rat} (h : Qz 850 q) : (fracS q).length ≤ 513 := by
  obtain ⟨h1, h2⟩ := num_lt h
  have a1 := numL_len (by decide) h1
  have a2 := numL_len (by decide) h2
  rw [len_tl, tl_fracS]
  split
  · omega
  · rw [List.length_append, List.length_cons]; omega
theorem shok_num {q : Rat} (h : Qz 850 q) : ShOk (.int q.num) ∧ ShOk (.int (q.den : Int)) := by
  have k : ∀ i : Int, i.natAbs < 2 ^ 850 → ShOk (.int i) := fun i hi => shok trivial ((sh_int (n := 851) (sz_log hi) (by decide)).mono (by decide))
  exact ⟨k _ h.1, k _ h.2⟩
/-! a text, split at one sign -/
theorem pre_one (c x : Nat) (r : List Nat) : pre [c] (x :: r) = decide (x = c) := by
  unfold pre
  show ([x] == [c]) = _
  rw [Bool.eq_iff_iff, beq_iff_eq, decide_eq_true_iff]
  simp
theorem spl_facts (c : Nat) : ∀ (l acc : List Nat), c ∉ acc → spl [c] 0 acc l ≠ [] ∧ joinL [c] (spl [c] 0 acc l) = acc ++ l ∧ ∀ p ∈ spl [c] 0 acc l, c ∉ p := by
  intro l
  induction l with
  | nil =>
    intro acc h
    rw [spl_nil]
    exact ⟨by simp, by simp [joinL], fun p hp => by rw [List.mem_singleton.mp hp]; exact h⟩
  | cons x r ih =>
    intro acc h
    by_cases e : x = c
    · subst e
      obtain ⟨i1, i2, i3⟩ := ih [] (by simp)
      rw [spl_hit (by rw [pre_one]; exact decide_eq_true rfl)]
      show acc :: spl [x] 0 [] r ≠ [] ∧ _ ∧ _
      refine ⟨by simp, ?_, fun p hp => ?_⟩
      · show joinL [x] (acc :: spl [x] 0 [] r) = _
        cases q : spl [x] 0 [] r with
        | nil => exact absurd q i1
        | cons a b =>
          rw [q] at i2
          show acc ++ ([x] ++ joinL [x] (a :: b)) = _
          rw [i2]; rfl
      · rcases List.mem_cons.mp hp with rfl | hp
        · exact h
        · exact i3 p hp
    · rw [spl_miss (by rw [pre_one]; exact decide_eq_false e)]
      obtain ⟨i1, i2, i3⟩ := ih (acc ++ [x]) (by
        intro z
        rcases List.mem_append.mp z with z | z
        · exact h z
        · exact e (List.mem_singleton.mp z).symm)
      exact ⟨i1, by rw [i2, List.append_assoc]; rfl, i3⟩
theorem joinL_len (c : Nat) : ∀ (ps : List (List Nat)), ∀ p ∈ ps, p.length ≤ (joinL [c] ps).length
  | [], p, h => by cases h
  | [a], p, h => by rw [List.mem_singleton.mp h]; exact Nat.le_refl _
  | a :: b :: r, p, h => by
    show p.length ≤ (a ++ ([c] ++ joinL [c] (b :: r))).length
    rw [List.length_append, List.length_append]
    rcases List.mem_cons.mp h with rfl | h
    · omega
    · have := joinL_len c (b :: r) p h
      omega
theorem joinL_count (c : Nat) : ∀ (ps : List (List Nat)), ps.length ≤ (joinL [c] ps).length + 1
  | [] => by simp
  | [a] => by simp
  | a :: b :: r => by
    show (a :: b :: r).length ≤ (a ++ ([c] ++ joinL [c] (b :: r))).length + 1
    rw [List.length_append, List.length_append, List.length_cons]
    have := joinL_count c (b :: r)
    simp only [List.length_singleton]
    omega
structure IsSplit (c : Nat) (s : Str) (ps : List Str) : Prop where
  ne : ps ≠ []
  jn : joinL [c] (ps.map tl) = tl s
  fr : ∀ p ∈ ps, c ∉ tl p
theorem split_is (s y : Str) (c : Nat) (hy : tl y = [c]) (hc : c < 256) : IsSplit c s (Txt.split s y) := by
  have h := split_spl s y (by rw [hy]; simp) (kind_ok (by rw [← Array.all_toList]; show (tl y).all _ = true; rw [hy]; simpa using hc))
  rw [hy] at h
  obtain ⟨h1, h2, h3⟩ := spl_facts c (tl s) [] (by simp)
  rw [← h] at h1 h2 h3
  exact ⟨fun z => h1 (by rw [z]; rfl), h2, fun p hp => h3 _ (List.mem_map.mpr ⟨p, hp, rfl⟩)⟩
theorem IsSplit.len {c : Nat} {s : Str} {ps : List Str} (h : IsSplit c s ps) : ∀ p ∈ ps, p.length ≤ s.length := fun p hp => by
  rw [len_tl, len_tl, ← h.jn]
  exact joinL_len c _ _ (List.mem_map.mpr ⟨p, hp, rfl⟩)
theorem IsSplit.count {c : Nat} {s : Str} {ps : List Str} (h : IsSplit c s ps) : ps.length ≤ s.length + 1 := by
  rw [len_tl, ← h.jn]
  have := joinL_count c (ps.map tl)
  rw [List.length_map] at this
  exact this
/-- a fraction that a text of so many figures writes -/
def fracRead (s : Str) (most : Nat) : Option Rat := match Txt.split s "/" with
  | [a] => (numRead a most).map fun n : Nat => ((n : Int) : Rat)
  | [a, b] => match numRead a most, numRead b most with
    | some n, some d => if d < 2 ∨ n.gcd d ≠ 1 then none else some (Rat.divInt n d)
    | _, _ => none
  | _ => none
theorem frz_strs (l : List Str) : (D.own (l.map D.str)).frz = .lst (l.map D.str) := frz_ownN _ (noOwns_map D.str (fun _ => rfl) l)
theorem noOwns_strs (l : List Str) : D.noOwns (l.map D.str) = true := noOwns_map D.str (fun _ => rfl) l
theorem dig_lt : ∀ (l : List Nat) (a : Nat), (∀ c ∈ l, 48 ≤ c ∧ c ≤ 57) → l.foldl (fun acc c => acc * 10 + (c - 48)) a < (a + 1) * 10 ^ l.length
  | [], a, _ => by simp
  | c :: r, a, h => by
    have hc := h c List.mem_cons_self
    have ih := dig_lt r (a * 10 + (c - 48)) fun x hx => h x (List.mem_cons_of_mem _ hx)
    rw [List.foldl_cons, List.length_cons]
    refine Nat.lt_of_lt_of_le ih ?_
    rw [Nat.pow_succ, Nat.mul_comm (10 ^ r.length) 10, ← Nat.mul_assoc]
    exact Nat.mul_le_mul_right _ (by omega)
theorem numRead_lt {s : Str} {most n : Nat} (h : numRead s most = some n) : n < 10 ^ most := by
  unfold numRead at h
  split at h
  · cases h
  · rename_i h0
    obtain ⟨_, h2⟩ := not_or.mp h0
    obtain ⟨h2, h3⟩ := not_or.mp h2
    split at h
    · cases h
    · cases h
      have h3 : figs (tl s) = true := by simpa using h3
      have := dig_lt (tl s) 0 (figs_all.mp h3)
      refine Nat.lt_of_lt_of_le this ?_
      rw [Nat.zero_add, Nat.one_mul]
      exact Nat.pow_le_pow_right (by decide) (by omega)
theorem low_rat {n d : Nat} (hd : d ≠ 0) (h : n.gcd d = 1) : (Rat.divInt n d).num = n ∧ (Rat.divInt n d).den = d := by
  have e := Rat.num_divInt_den (⟨(n : Int), d, hd, h⟩ : Rat)
  simp only at e
  rw [e]; exact ⟨rfl, rfl⟩
theorem low_iff {n d : Nat} (hd : d ≠ 0) : D.eqv (qD (Rat.divInt n d)) (.tup [.int (n : Int), .int (d : Int)]) = decide (n.gcd d = 1) := by
  show D.eqv (fD ((Rat.divInt n d).num, ((Rat.divInt n d).den : Int))) (fD ((n : Int), (d : Int))) = _
  rw [eqv_fD, decide_eq_decide]
  constructor
  · intro h
    injection h with h1 h2
    have := (Rat.divInt n d).reduced
    rw [h1, show (Rat.divInt n d).den = d by omega] at this
    exact this
  · intro h
    obtain ⟨h1, h2⟩ := low_rat hd h
    rw [h1, h2]
theorem sz_600 {n most : Nat} (h : n < 10 ^ most) (hm : most ≤ 600) : Sz 9000 (n : Int) := by
  have h1 : (10 : Nat) ^ most ≤ 10 ^ 600 := Nat.pow_le_pow_right (by decide) hm
  have h2 : (10 : Nat) ^ 600 ≤ 2 ^ 9000 := by decide +kernel
  show ((n : Int)).natAbs < 2 ^ 9000
  omega
theorem seq_tl (s t : Str) : decide (s = t) = decide (tl s = tl t) := by rw [decide_eq_decide]; exact ⟨fun h => by rw [h], tl_inj⟩
theorem sgnOf_sgn (c : Nat) : sgnOf ⟨#[c]⟩ = some c := rfl
/-! rows and books -/
def rowS (r : List Rat) : Str := Txt.join " " (r.map fracS)
def bookS (b : List (List Rat)) : Str := Txt.join "\n" (b.map rowS)
def fracL (q : Rat) : List Nat := tl (fracS q)
def rowL (r : List Rat) : List Nat := joinL [32] (r.map fracL)
def bookL (b : List (List Rat)) : List Nat := joinL [10] (b.map rowL)
theorem tl_joinT (y : Str) (ps : List Str) : tl (Txt.join y ps) = joinL (tl y) (ps.map tl) := by rw [join_eq, tl_join]
theorem tl_rowS (r : List Rat) : tl (rowS r) = rowL r := by
  unfold rowS rowL fracL
  rw [tl_joinT, List.map_map]; rfl
theorem tl_bookS (b : List (List Rat)) : tl (bookS b) = bookL b := by
  unfold bookS bookL
  rw [tl_joinT, List.map_map]
  congr 1
  exact List.map_congr_left fun r _ => tl_rowS r
theorem mem_joinL {s c : Nat} : ∀ {ps : List (List Nat)}, c ∈ joinL [s] ps → c = s ∨ ∃ p ∈ ps, c ∈ p
  | [], h => by cases h
  | [p], h => .inr ⟨p, by simp, h⟩
  | p :: q :: r, h => by
    have h : c ∈ p ++ ([s] ++ joinL [s] (q :: r)) := h
    rcases List.mem_append.mp h with h | h
    · exact .inr ⟨p, by simp, h⟩
    · rcases List.mem_append.mp h with h | h
      · exact .inl (List.mem_singleton.mp h)
      · rcases mem_joinL h with h | ⟨x, hx, h⟩
        · exact .inl h
        · exact .inr ⟨x, List.mem_cons_of_mem _ hx, h⟩
theorem fracL_mem {q : Rat} {c : Nat} (h : c ∈ fracL q) : c = 47 ∨ (48 ≤ c ∧ c ≤ 57) := by
  unfold fracL at h
  rw [tl_fracS] at h
  have k : ∀ n, c ∈ numL n → 48 ≤ c ∧ c ≤ 57 := fun n h => numL_digits n c h
  split at h
  · exact .inr (k _ h)
  · rcases List.mem_append.mp h with h | h
    · exact .inr (k _ h)
    · rcases List.mem_cons.mp h with h | h
      · exact .inl h
      · exact .inr (k _ h)
theorem rowL_mem {r : List Rat} {c : Nat} (h : c ∈ rowL r) : c = 32 ∨ c = 47 ∨ (48 ≤ c ∧ c ≤ 57) := by
  rcases mem_joinL h with h | ⟨p, hp, h⟩
  · exact .inl h
  · obtain ⟨q, _, rfl⟩ := List.mem_map.mp hp
    exact .inr (fracL_mem h)
theorem split_rowS {r : List Rat} (h : r ≠ []) : Txt.split (rowS r) " " = r.map fracS := by
  unfold rowS
  refine split_join (s := 32) (S := []) rfl (by decide +kernel) (by simpa using h) fun p hp => ?_
  obtain ⟨q, _, rfl⟩ := List.mem_map.mp hp
  intro z
  have := fracL_mem (q := q) z
  omega
theorem split_bookS {b : List (List Rat)} (h : b ≠ []) : Txt.split (bookS b) "\n" = b.map rowS := by
  unfold bookS
  refine split_join (s := 10) (S := []) rfl (by decide +kernel) (by simpa using h) fun p hp => ?_
  obtain ⟨r, _, rfl⟩ := List.mem_map.mp hp
  rw [tl_rowS]
  intro z
  have := rowL_mem z
  omega
theorem num_lt40 {q : Rat} (h : Qz 40 q) : q.num.toNat < 10 ^ 13 ∧ q.den < 10 ^ 13 := by
  have h1 : q.num.natAbs < 2 ^ 40 := h.1
  have h2 : ((q.den : Nat) : Int).natAbs < 2 ^ 40 := h.2
  have e : (2 : Nat) ^ 40 ≤ 10 ^ 13 := by decide
  refine ⟨?_, ?_⟩ <;> omega
theorem fracL_len40 {q : Rat} (h : Qz 40 q) : (fracL q).length ≤ 27 := by
  obtain ⟨h1, h2⟩ := num_lt40 h
  have a1 := numL_len (by decide) h1
  have a2 := numL_len (by decide) h2
  unfold fracL
  rw [tl_fracS]
  split
  · omega
  · rw [List.length_append, List.length_cons]; omega
theorem fracRead_of {n d : Nat} {most : Nat} {q : Rat} (q0 : 0 ≤ q) (en : q.num.toNat = n) (ed : q.den = d) (hn : (numL n).length ≤ most) (hd : (numL d).length ≤ most) : fracRead (fracS q) most = some q := by
  have nn := Rat.num_nonneg.mpr q0
  have en2 : (n : Int) = q.num := by omega
  have free : ∀ k, 47 ∉ numL k := fun k => numL_free (by omega)
  unfold fracRead fracS
  by_cases e : q.den = 1
  · rw [if_pos e, en]
    have : Txt.split (iT n) "/" = [iT n] := by
      have := split_join (y := "/") (s := 47) (S := []) rfl (by decide +kernel) (parts := [iT n]) (by simp) (fun p hp => by rw [List.mem_singleton.mp hp, tl_iT]; exact free n)
      rw [show Txt.join "/" [iT n] = iT n from ext_tl (by rw [tl_joinT]; rfl)] at this
      exact this
    rw [this]
    simp only
    rw [numRead_iT hn]
    show some ((n : Int) : Rat) = some q
    rw [en2]
    congr 1
    exact Rat.ext rfl (by rw [e]; rfl)
  · rw [if_neg e, en, ed]
    have : Txt.split (iT n ++ "/" ++ iT d) "/" = [iT n, iT d] := by
      have := split_join (y := "/") (s := 47) (S := []) rfl (by decide +kernel) (parts := [iT n, iT d]) (by simp) (fun p hp => by
        rcases List.mem_cons.mp hp with rfl | hp
        · rw [tl_iT]; exact free n
        · rw [List.mem_singleton.mp hp, tl_iT]; exact free d)
      rw [show Txt.join "/" [iT n, iT d] = iT n ++ "/" ++ iT d from ext_tl (by rw [tl_joinT, tl_cat, tl_cat, List.append_assoc]; rfl)] at this
      exact this
    rw [this]
    simp only
    rw [numRead_iT hn, numRead_iT hd]
    simp only
    have hr := q.reduced
    have dp := q.den_pos
    rw [if_neg]
    · rw [en2, ← ed]; exact congrArg some (Rat.num_divInt_den q)
    · rintro (h | h)
      · omega
      · exact h (by rw [← en, ← ed, show q.num.toNat = q.num.natAbs by omega]; exact hr)
theorem fracRead_40 {q : Rat} (q0 : 0 ≤ q) (hz : Qz 40 q) : fracRead (fracS q) 40 = some q := by
  obtain ⟨h1, h2⟩ := num_lt40 hz
  exact fracRead_of q0 rfl rfl (Nat.le_trans (numL_len (by decide) h1) (by decide)) (Nat.le_trans (numL_len (by decide) h2) (by decide))
theorem joinL_le (s k : Nat) : ∀ (ps : List (List Nat)), (∀ p ∈ ps, p.length ≤ k) → (joinL [s] ps).length ≤ ps.length * (k + 1)
  | [], _ => by simp [joinL]
  | [p], h => by have := h p (by simp); show p.length ≤ _; simp only [List.length_singleton]; omega
  | p :: q :: r, h => by
    have h1 := h p (by simp)
    have h2 := joinL_le s k (q :: r) fun x hx => h x (List.mem_cons_of_mem _ hx)
    show (p ++ ([s] ++ joinL [s] (q :: r))).length ≤ (p :: q :: r).length * (k + 1)
    have e : (p :: q :: r).length * (k + 1) = (q :: r).length * (k + 1) + (k + 1) := by rw [show (p :: q :: r).length = (q :: r).length + 1 from rfl, Nat.add_mul, Nat.one_mul]
    rw [List.length_append, List.length_append, e, List.length_singleton]
    omega
theorem rowL_len40 {r : List Rat} (h : ∀ q ∈ r, Qz 40 q) : (rowL r).length ≤ r.length * 28 := by
  have := joinL_le 32 27 (r.map fracL) fun p hp => by obtain ⟨q, hq, rfl⟩ := List.mem_map.mp hp; exact fracL_len40 (h q hq)
  rw [List.length_map] at this
  exact this
theorem bookL_len40 {b : List (List Rat)} {m : Nat} (hb : Bk b m) (h : BkZ 40 b) : (bookL b).length ≤ 4 * 337 := by
  have m12 := hb.m12
  have l4 := hb.l4
  have := joinL_le 10 336 (b.map rowL) fun p hp => by
    obtain ⟨r, hr, rfl⟩ := List.mem_map.mp hp
    have h1 := rowL_len40 (h r hr)
    rw [hb.len r hr] at h1
    omega
  rw [List.length_map] at this
  have h2 := Nat.mul_le_mul_right 337 l4
  exact Nat.le_trans this h2
theorem rowS_len {r : List Rat} (h : r.length ≤ 12) (hz : ∀ q ∈ r, Qz 850 q) : (rowS r).length ≤ 10000 := by
  rw [len_tl, tl_rowS]
  have := joinL_le 32 513 (r.map fracL) fun p hp => by obtain ⟨q, hq, rfl⟩ := List.mem_map.mp hp; have := fracS_len (hz q hq); rw [len_tl] at this; exact this
  rw [List.length_map] at this
  have h2 := Nat.mul_le_mul_right 514 h
  exact Nat.le_trans this (Nat.le_trans h2 (by decide))
theorem joinOk_le {s : Str} {ys : List Str} (k : Nat) (h : ys.length ≤ 1000) (hk : k ≤ 15000) (hy : ∀ p ∈ ys, p.length ≤ k) (hs : s.length ≤ 1 := by decide) : joinOk s ys := by
  unfold joinOk
  have h1 : (ys.map (·.length)).sum ≤ ys.length * k := by
    clear h
    induction ys with
    | nil => simp
    | cons y ys ih =>
      have a := hy y (by simp)
      have b := ih fun p hp => hy p (List.mem_cons_of_mem _ hp)
      rw [List.map_cons, List.sum_cons, List.length_cons, Nat.add_mul]
      omega
  have h2 := Nat.mul_le_mul h hk
  have h3 := Nat.mul_le_mul h hs
  omega
/-! parts, one behind the other, each with a sign behind it -/
theorem flat_le (s k : Nat) : ∀ (ps : List (List Nat)) {n : Nat}, (∀ p ∈ ps, p.length ≤ k) → ps.length * (k + 1) ≤ n → (ps.flatMap (· ++ [s])).length ≤ n
  | [], n, _, _ => by simp
  | p :: ps, n, h, hn => by
    have h1 := h p (by simp)
    rw [List.length_cons, Nat.add_mul] at hn
    have h2 := flat_le s k ps (n := n - (k + 1)) (fun x hx => h x (List.mem_cons_of_mem _ hx)) (by omega)
    rw [List.flatMap_cons, List.length_append, List.length_append, List.length_singleton]
    omega
theorem flat_one (s : Nat) (p : List Nat) : ([p].flatMap (· ++ [s])) = p ++ [s] := by rw [List.flatMap_cons, List.flatMap_nil, List.append_nil]
theorem flat_join (s : Nat) : ∀ (ps : List (List Nat)), ps ≠ [] → (ps.flatMap (· ++ [s])).dropLast = joinL [s] ps
  | [], h => absurd rfl h
  | [p], _ => by
    rw [List.flatMap_cons, List.flatMap_nil, List.append_nil]
    exact List.dropLast_concat
  | p :: q :: r, _ => by
    rw [List.flatMap_cons, List.dropLast_append_of_ne_nil (by simp [List.flatMap_cons]), flat_join s (q :: r) (by simp), List.append_assoc]
    rfl
theorem tl_but {s : Str} (h : tl s ≠ []) : tl (cutS s none (some (-1))) = (tl s).dropLast := by
  have e := SX.slice_butlast (a := tl s) h
  rw [C8.cutS_slice]
  rw [show SX.S (tl s) = s from SX.S_tl s] at e
  rw [e, List.dropLast_eq_take]
theorem zipD_self {α : Type} (f : α → D) : ∀ l : List α, zipD (l.map f) (l.map f) = l.map fun x => .tup [f x, f x]
  | [] => rfl
  | x :: l => congrArg (fun z => D.tup [f x, f x] :: z) (zipD_self f l)
theorem isTy_int (i : Int) : (isTy .int (.int i) && !isTy .bool (.int i)) = true := rfl
theorem setRow_bk {b : List (List Rat)} {m : Nat} (hb : Bk b m) {r : List Rat} (h : r ∈ b) : Bk (b.set 0 r.reverse) m := by
  refine ⟨by rw [List.length_set]; exact hb.l1, by rw [List.length_set]; exact hb.l4, hb.m1, hb.m12, fun x hx => ?_, fun x hx => ?_⟩
  · rcases List.mem_or_eq_of_mem_set hx with hx | rfl
    · exact hb.len x hx
    · rw [List.length_reverse]; exact hb.len r h
  · rcases List.mem_or_eq_of_mem_set hx with hx | rfl
    · exact hb.wts x hx
    · exact fun q hq => hb.wts r h q (List.mem_reverse.mp hq)
theorem setRow_z {n : Nat} {b : List (List Rat)} (hz : BkZ n b) {r : List Rat} (h : r ∈ b) : BkZ n (b.set 0 r.reverse) := fun x hx q hq => by
  rcases List.mem_or_eq_of_mem_set hx with hx | rfl
  · exact hz x hx q hq
  · exact hz r h q (List.mem_reverse.mp hq)
/-! rules -/
def ruleS : Rule → Str
  | .shares ws => Txt.join " " ("shares" :: ws.map fracS)
  | .middle k => "middle " ++ iT k
  | .least => "least"
  | .greatest => "greatest"
  | .product => "product"
theorem joinL_snoc (s : Nat) : ∀ (ps : List (List Nat)) (p : List Nat), ps ≠ [] → joinL [s] (ps ++ [p]) = joinL [s] ps ++ s :: p
  | [], _, h => absurd rfl h
  | [a], p, _ => rfl
  | a :: b :: r, p, _ => by
    show a ++ ([s] ++ joinL [s] (b :: r ++ [p])) = a ++ ([s] ++ joinL [s] (b :: r)) ++ s :: p
    rw [show b :: r ++ [p] = (b :: r) ++ [p] from rfl, joinL_snoc s (b :: r) p (by simp), List.append_assoc, List.append_assoc]
theorem join_snoc (ps : List Str) (p : Str) (h : ps ≠ []) : Txt.join " " (ps ++ [p]) = Txt.join " " ps ++ " " ++ p := by
  refine tl_inj ?_
  rw [tl_joinT, tl_cat, tl_cat, tl_joinT, List.map_append, List.map_singleton]
  rw [show tl (" " : Str) = [32] from rfl, joinL_snoc 32 _ _ (by simpa using h), List.append_assoc]; rfl
theorem join_one (y x : Str) : Txt.join y [x] = x := tl_inj (by rw [tl_joinT]; rfl)
theorem join_len {k : Nat} {ps : List Str} (h : ∀ p ∈ ps, p.length ≤ k) : (Txt.join " " ps).length ≤ ps.length * (k + 1) := by
  rw [len_tl, tl_joinT]
  have := joinL_le 32 k (ps.map tl) fun p hp => by obtain ⟨q, hq, rfl⟩ := List.mem_map.mp hp; rw [← len_tl]; exact h q hq
  rw [List.length_map] at this
  exact this
theorem middle_join (k : Nat) : "middle " ++ iT k = Txt.join " " ["middle", iT k] := tl_inj (by rw [tl_joinT, tl_cat]; rfl)
theorem free_word {p : Str} (h : p ∈ (["shares", "middle", "least", "greatest", "product"] : List Str)) : 32 ∉ tl p := by
  have k : (["shares", "middle", "least", "greatest", "product"] : List Str).all (fun p => decide (32 ∉ tl p)) = true := by decide +kernel
  exact of_decide_eq_true (List.all_eq_true.mp k p h)
theorem free_fracS (q : Rat) : 32 ∉ tl (fracS q) := fun z => by have := fracL_mem (q := q) z; omega
theorem split_sp {ps : List Str} (h : ps ≠ []) (hp : ∀ p ∈ ps, 32 ∉ tl p) : Txt.split (Txt.join " " ps) " " = ps := split_join (s := 32) (S := []) rfl (by decide +kernel) h hp
/-- the words of a rule -/
def ruleW : Rule → List Str
  | .shares ws => "shares" :: ws.map fracS
  | .middle k => ["middle", iT k]
  | .least => ["least"]
  | .greatest => ["greatest"]
  | .product => ["product"]
theorem ruleS_join (r : Rule) : ruleS r = Txt.join " " (ruleW r) := by
  cases r with
  | shares ws => rfl
  | middle k => exact middle_join k
  | _ => exact (join_one _ _).symm
theorem split_rule (r : Rule) : Txt.split (ruleS r) " " = ruleW r := by
  rw [ruleS_join]
  refine split_sp (by cases r <;> simp [ruleW]) fun p hp => ?_
  cases r with
  | shares ws =>
    rcases List.mem_cons.mp hp with rfl | hp
    · exact free_word (by simp)
    · obtain ⟨q, _, rfl⟩ := List.mem_map.mp hp
      exact free_fracS q
  | middle k =>
    rcases List.mem_cons.mp hp with rfl | hp
    · exact free_word (by simp)
    · rw [List.mem_singleton.mp hp, tl_iT]; exact numL_free (by omega)
  | least => rw [List.mem_singleton.mp hp]; exact free_word (by simp)
  | greatest => rw [List.mem_singleton.mp hp]; exact free_word (by simp)
  | product => rw [List.mem_singleton.mp hp]; exact free_word (by simp)
theorem shok_nat {k : Nat} (h : k ≤ 1000) : ShOk (.int (k : Int)) := shok trivial ((sh_int (n := 60) (sz_log (n := 50) (by
  have e : (2 : Nat) ^ 50 = 1125899906842624 := by decide
  show ((k : Int)).natAbs < 2 ^ 50
  omega) |> fun z => Nat.lt_of_lt_of_le z (by decide)) (by decide)).mono (by decide))
theorem iT_small {k : Nat} (h : k ≤ 1000) : (iT k).length ≤ 4 := iT_len (by decide) (by omega)
theorem ruleW_len {r : Rule} {n : Nat} (hr : Ru r n) (h4 : n ≤ 4) (hz : RuZ 850 r) : ∀ p ∈ ruleW r, p.length ≤ 513 := by
  intro p hp
  cases r with
  | shares ws =>
    rcases List.mem_cons.mp hp with rfl | hp
    · decide
    · obtain ⟨q, hq, rfl⟩ := List.mem_map.mp hp
      exact fracS_len (hz q hq)
  | middle k =>
    rcases List.mem_cons.mp hp with rfl | hp
    · decide
    · rw [List.mem_singleton.mp hp]
      have := iT_small (k := k) (by have := hr.2; omega)
      omega
  | least => rw [List.mem_singleton.mp hp]; decide
  | greatest => rw [List.mem_singleton.mp hp]; decide
  | product => rw [List.mem_singleton.mp hp]; decide
theorem ruleW_count {r : Rule} {n : Nat} (hr : Ru r n) (h4 : n ≤ 4) : (ruleW r).length ≤ 5 := by
  cases r with
  | shares ws => unfold ruleW; rw [List.length_cons, List.length_map, hr.1]; omega
  | _ => unfold ruleW; simp
theorem okD_rng (n : Nat) (a b : Int) : okD (n + 1) (.own (rngD a b)) := by
  unfold okD rngD
  intro d hd
  obtain ⟨i, _, rfl⟩ := List.mem_map.mp hd
  exact okD_int _ _
theorem inD_rng (k : Int) (n : Nat) : inD (.int k) (rngD 1 ((n : Int) + 1)) = (decide (0 < k) && decide (k ≤ (n : Int))) := by
  unfold inD rngD
  rw [Bool.eq_iff_iff, List.any_eq_true, Bool.and_eq_true, decide_eq_true_iff, decide_eq_true_iff]
  constructor
  · rintro ⟨d, hd, e⟩
    obtain ⟨i, hi, rfl⟩ := List.mem_map.mp hd
    rw [eqv_int, beq_iff_eq] at e
    have := List.mem_range.mp hi
    omega
  · rintro ⟨h1, h2⟩
    refine ⟨.int k, List.mem_map.mpr ⟨(k - 1).toNat, List.mem_range.mpr (by omega), by congr 1; omega⟩, ?_⟩
    rw [eqv_int]; exact beq_self_eq_true _
end TL
/-! # rules, bent -/
namespace TL
open PySem PyProof.Rows L2
structure BentR (e : D) : Prop where
  pd : PD 6 e
  sh : Sh 14000 e
  z : ∀ r, e = ruD r → RuZ 45 r
def nsh (e : D) : Prop := ∀ l, e ≠ .tup [.str "shares", .lst l]
theorem bentR_no {e : D} (h1 : PD 6 e) (h2 : Sh 14000 e) (h3 : nsh e) : BentR e := ⟨h1, h2, fun r er => by
  cases r with
  | shares ws => exact absurd er (h3 _)
  | _ => trivial⟩
theorem sh_word (x : Str) (h : x ∈ (["shares", "middle", "least", "greatest", "product"] : List Str)) : Sh 20 (.str x) := by
  have k : (["shares", "middle", "least", "greatest", "product"] : List Str).all (fun p => shB 20 (.str p)) = true := by decide +kernel
  exact shB_ok (List.all_eq_true.mp k x h)
theorem pd_word (n : Nat) (x : Str) (h : x ∈ (["shares", "middle", "least", "greatest", "product"] : List Str)) : PD n (.str x) := by
  have k : (["shares", "middle", "least", "greatest", "product"] : List Str).all (fun p => PyData.strOk p && decide (p.length ≤ 4000)) = true := by decide +kernel
  have := List.all_eq_true.mp k x h
  simp only [Bool.and_eq_true, decide_eq_true_eq] at this
  exact pd_str n x this.1 this.2
/-- an item of a bent list of weights -/
def ItR (x : D) : Prop := PD 3 x ∧ Sh 200 x ∧ ∀ q, x = qD q → Qz 45 q
theorem itR_q {q : Rat} (h : Qz 40 q) : ItR (qD q) := ⟨pd_qD 2 q, (sh_qD h).mono (by decide), fun p e => by rw [← qD_inj e]; exact h.mono (by decide)⟩
def smallPair : D → Bool
  | .tup [.int a, .int b] => decide (a.natAbs < 2 ^ 45) && decide (b.natAbs < 2 ^ 45)
  | _ => true
theorem itR_c {x : D} (h1 : pdB 3 x = true) (h2 : shB 200 x = true) (h3 : smallPair x = true) : ItR x := ⟨pdB_ok h1, shB_ok h2, fun q e => by
  subst e
  have h3 : (decide (q.num.natAbs < 2 ^ 45) && decide (((q.den : Nat) : Int).natAbs < 2 ^ 45)) = true := h3
  rw [Bool.and_eq_true] at h3
  exact ⟨of_decide_eq_true h3.1, of_decide_eq_true h3.2⟩⟩
theorem itR_noOwns {l : List D} (h : ∀ x ∈ l, ItR x) : D.noOwns l = true := PD.noOwns fun d hd => (h d hd).1
theorem frz_sh {L : List D} (h : D.noOwns L = true) : (D.tup [.str "shares", .own L]).frz = .tup [.str "shares", .lst L] := by
  rw [frz_tup, frzs_cons, frzs_cons, frzs_nil, frz_ownN _ h]; rfl
theorem frz_own1 {d : D} (h : d.noOwn = true) : (D.own [d]).frz = .lst [d] := by rw [frz_own, frzs_cons, frzs_nil, frz_of _ h]
theorem mem_rep1 {d x : D} {k : Nat} (h : x ∈ repL [d] k) : x = d := List.mem_singleton.mp (mem_repL h)
theorem rep1_len (d : D) : ∀ k, (repL [d] k).length = k := fun k => by unfold repL; simp
theorem bentR_sh {L : List D} (h : ∀ x ∈ L, ItR x) (hl : L.length ≤ 10) : BentR (.tup [.str "shares", .lst L]) where
  pd := pd_tup (n := 5) (by simp) fun d hd => by
    simp only [List.mem_cons, List.not_mem_nil, or_false] at hd
    rcases hd with rfl | rfl
    · exact pd_word _ _ (by simp)
    · exact pd_lst (n := 4) (by omega) fun x hx => (h x hx).1.mono (by decide)
  sh := sh_tup (n := 3000) (fun d hd => by
    simp only [List.mem_cons, List.not_mem_nil, or_false] at hd
    rcases hd with rfl | rfl
    · exact (sh_word _ (by simp)).mono (by decide)
    · exact sh_lst (n := 200) (fun x hx => (h x hx).2.1) (by omega)) (by simp only [List.length_cons, List.length_nil]; omega)
  z := fun r er => by
    cases r with
    | shares ws =>
      intro q hq
      have er : D.tup [.str "shares", .lst L] = .tup [.str "shares", .lst (ws.map qD)] := er
      simp only [D.tup.injEq, List.cons.injEq, D.lst.injEq, and_true, true_and] at er
      exact (h (qD q) (by rw [er]; exact List.mem_map.mpr ⟨q, hq, rfl⟩)).2.2 q rfl
    | _ => trivial
theorem sh_ruD {r : Rule} {n : Nat} (hr : Ru r n) (hn : n ≤ 4) (hz : RuZ 40 r) : Sh 2400 (ruD r) := by
  cases r with
  | shares ws => exact sh_tup (n := 1105) (fun d hd => by
      simp only [List.mem_cons, List.not_mem_nil, or_false] at hd
      rcases hd with rfl | rfl
      · exact (sh_word _ (by simp)).mono (by decide)
      · exact sh_qL hz (by rw [hr.1]; omega)) (by simp only [List.length_cons, List.length_nil]; omega)
  | middle k => exact sh_tup (n := 60) (fun d hd => by
      simp only [List.mem_cons, List.not_mem_nil, or_false] at hd
      rcases hd with rfl | rfl
      · exact (sh_word _ (by simp)).mono (by decide)
      · exact sh_int (n := 60) (Nat.lt_of_lt_of_le (sz_log (n := 50) (show ((k : Int)).natAbs < 2 ^ 50 from by have := hr.2; have e : (2 : Nat) ^ 50 = 1125899906842624 := by decide
                                                                                                               omega)) (by decide)) (by decide)) (by simp only [List.length_cons, List.length_nil]; omega)
  | least => exact (shB_ok (n := 40) (by decide +kernel)).mono (by decide)
  | greatest => exact (shB_ok (n := 40) (by decide +kernel)).mono (by decide)
  | product => exact (shB_ok (n := 40) (by decide +kernel)).mono (by decide)
theorem ruD_parts {r : Rule} {n : Nat} (hr : Ru r n) (hn : n ≤ 4) (hz : RuZ 40 r) : ∃ l, ruD r = .tup l ∧ 1 ≤ l.length ∧ l.length ≤ 2 ∧ (∀ x ∈ l, PD 4 x ∧ Sh 1200 x) ∧ ∀ x, nsh (.tup (l ++ [x])) := by
  have w : ∀ x : Str, x ∈ (["shares", "middle", "least", "greatest", "product"] : List Str) → PD 4 (.str x) ∧ Sh 1200 (.str x) := fun x h => ⟨pd_word _ x h, (sh_word x h).mono (by decide)⟩
  have ne : ∀ {x : Str}, decide (tl x = tl "shares") = false → D.str x ≠ .str "shares" := fun h e => by injection e with e; exact of_decide_eq_false h (by rw [e])
  have one : ∀ x : Str, x ∈ (["shares", "middle", "least", "greatest", "product"] : List Str) → decide (tl x = tl "shares") = false → ∃ l, D.tup [.str x] = .tup l ∧ 1 ≤ l.length ∧ l.length ≤ 2 ∧ (∀ x ∈ l, PD 4 x ∧ Sh 1200 x) ∧ ∀ x, nsh (.tup (l ++ [x])) := fun x h h2 =>
    ⟨[.str x], rfl, Nat.le_refl _, by simp, fun y hy => by rw [List.mem_singleton.mp hy]; exact w x h, fun y L e => by
      have e : D.tup [.str x, y] = .tup [.str "shares", .lst L] := e
      simp only [D.tup.injEq, List.cons.injEq] at e
      exact ne h2 e.1⟩
  cases r with
  | shares ws => exact ⟨_, rfl, by simp, by simp, fun x hx => by
      simp only [List.mem_cons, List.not_mem_nil, or_false] at hx
      rcases hx with rfl | rfl
      · exact w _ (by simp)
      · exact ⟨pd_qL 2 ws (by rw [hr.1]; omega), (sh_qL hz (by rw [hr.1]; omega)).mono (by decide)⟩, fun x L e => by
      have := congrArg (fun d => match d with | D.tup l => l.length | _ => 0) e
      simp at this⟩
  | middle k => exact ⟨_, rfl, by simp, by simp, fun x hx => by
      simp only [List.mem_cons, List.not_mem_nil, or_false] at hx
      rcases hx with rfl | rfl
      · exact w _ (by simp)
      · exact ⟨pd_int _ _, (sh_int (n := 60) (Nat.lt_of_lt_of_le (sz_log (n := 50) (show ((k : Int)).natAbs < 2 ^ 50 from by
          have := hr.2
          have e : (2 : Nat) ^ 50 = 1125899906842624 := by decide
          omega)) (by decide)) (by decide)).mono (by decide)⟩, fun x L e => by
      have := congrArg (fun d => match d with | D.tup l => l.length | _ => 0) e
      simp at this⟩
  | least => exact one _ (by simp) (by decide +kernel)
  | greatest => exact one _ (by simp) (by decide +kernel)
  | product => exact one _ (by simp) (by decide +kernel)
/-! texts of books and rules can be compared -/
theorem strOk_of {s : Str} (h : ∀ c ∈ tl s, c < 1000) : PyData.strOk s = true := by
  unfold PyData.strOk
  rw [← Array.all_toList, List.all_eq_true]
  intro c hc
  exact decide_eq_true (Nat.lt_trans (h c hc) (by decide))
theorem strOk_book (b : List (List Rat)) : PyData.strOk (bookS b) = true := strOk_of fun c hc => by
  rw [tl_bookS] at hc
  rcases mem_joinL hc with rfl | ⟨p, hp, h⟩
  · decide
  · obtain ⟨r, _, rfl⟩ := List.mem_map.mp hp
    have := rowL_mem h
    omega
theorem strOk_rule (r : Rule) : PyData.strOk (ruleS r) = true := strOk_of fun c hc => by
  rw [ruleS_join, tl_joinT] at hc
  have w : ∀ x : Str, x ∈ (["shares", "middle", "least", "greatest", "product"] : List Str) → c ∈ tl x → c < 1000 := fun x hx hc => by
    have k : (["shares", "middle", "least", "greatest", "product"] : List Str).all (fun p => (tl p).all fun c => decide (c < 1000)) = true := by decide +kernel
    exact of_decide_eq_true (List.all_eq_true.mp (List.all_eq_true.mp k x hx) c hc)
  rcases mem_joinL (s := 32) hc with rfl | ⟨p, hp, h⟩
  · decide
  · obtain ⟨x, hx, rfl⟩ := List.mem_map.mp hp
    cases r with
    | shares ws =>
      rcases List.mem_cons.mp hx with rfl | hx
      · exact w _ (by simp) h
      · obtain ⟨q, _, rfl⟩ := List.mem_map.mp hx
        have := fracL_mem (q := q) h
        omega
    | middle k =>
      rcases List.mem_cons.mp hx with rfl | hx
      · exact w _ (by simp) h
      · rw [List.mem_singleton.mp hx, tl_iT] at h
        have := numL_digits k c h
        omega
    | least => rw [List.mem_singleton.mp hx] at h; exact w _ (by simp) h
    | greatest => rw [List.mem_singleton.mp hx] at h; exact w _ (by simp) h
    | product => rw [List.mem_singleton.mp hx] at h; exact w _ (by simp) h
end TL
namespace TL
open PySem PyProof.Rows L2
local macro_rules | `(tactic| walk_at "ok") => `(tactic| first | (with_reducible assumption) | (with_reducible rfl) | (with_reducible exact Int.natCast_nonneg _) | ((with_reducible refine Qz.mono (n := _) ?_ ?_) <;> first | (with_reducible assumption) | decide) | ((with_reducible refine eqOk_b ?_ ?_) <;> first | rfl | assumption | decide +kernel) | ((with_reducible refine pdB_ok ?_) <;> decide +kernel) | ((with_reducible refine imo_r ?_ ?_) <;> first | decide | omega) | ((with_reducible refine imo_l ?_ ?_) <;> first | decide | omega) | ((with_reducible refine cpow_ok ?_) <;> first | decide | omega) | ((with_reducible refine sz_small ?_) <;> first | decide | omega) | ((with_reducible refine sz_om ?_ ?_) <;> first | decide | omega) | ((with_reducible refine smallI_ok ?_ ?_) <;> first | decide | omega) | ((with_reducible refine divOk_small ?_ ?_) <;> first | decide | omega) | (decide +kernel) | rfl | exact Nat.le_of_ble_eq_true rfl | (intro _ h; cases h; done) | omega | assumption | (dsimp only; first | (with_reducible assumption) | ((with_reducible refine imo_r ?_ ?_) <;> first | decide | omega) | ((with_reducible refine imo_l ?_ ?_) <;> first | decide | omega) | ((with_reducible refine cpow_ok ?_) <;> first | decide | omega) | ((with_reducible refine sz_small ?_) <;> first | decide | omega) | ((with_reducible refine sz_om ?_ ?_) <;> first | decide | omega) | ((with_reducible refine smallI_ok ?_ ?_) <;> first | decide | omega) | ((with_reducible refine divOk_small ?_ ?_) <;> first | decide | omega) | decide +kernel | omega | assumption))
local macro_rules | `(tactic| walk_at "fz") => `(tactic| ((with_reducible show @Eq TL.D (TL.D.frz _) _); first | (with_reducible exact frz_own_qD _) | (with_reducible exact frz_own_qL _) | (with_reducible exact frz_bkO _) | (with_reducible exact frz_bkM _) | (with_reducible exact frz_qO _) | (with_reducible exact frz_qD _) | (with_reducible exact frz_qL _) | (with_reducible exact frz_ruD _) | (with_reducible exact frz_ruO _) | exact frz_of _ (by first | rfl | (with_reducible assumption)) | exact frz_ownN _ (by first | rfl | (with_reducible assumption) | exact noOwns_qD _ | exact noOwns_qL _ | exact noOwns_int _) | (simp only [frz_tup, frzs_cons, frzs_nil, frz_qO, frz_qL, frz_bkO, frz_bkM, frz_qD, frz_ruD, frz_ruO, frz_own_qD, frz_own_qL, frz_own_rep, frzs_qDs, frz_int, frz_str, frz_bl, frz_non, frz_lst]; (try simp only [frz_own, frzs_cons, frzs_nil, frz_qD, frz_qL, frz_int, frz_str, frz_bl, frz_non, frz_tup, frz_lst]); rfl)))
local macro_rules | `(tactic| walk_at "cl") => `(tactic| ((first | refine ⟨_, @rfl (List Slot) _, ?_⟩ | refine ⟨_, _, @rfl (List Slot) _, ?_⟩ | refine ⟨_, _, _, @rfl (List Slot) _, ?_⟩ | refine ⟨_, _, _, _, @rfl (List Slot) _, ?_⟩ | refine ⟨_, _, _, _, _, @rfl (List Slot) _, ?_⟩ | refine ⟨_, _, _, _, _, _, @rfl (List Slot) _, ?_⟩); (repeat (refine And.intro (by first | (with_reducible assumption) | (with_reducible rfl) | (with_reducible exact Int.natCast_nonneg _) | ((with_reducible refine Qz.mono (n := _) ?_ ?_) <;> first | (with_reducible assumption) | decide) | ((with_reducible refine eqOk_b ?_ ?_) <;> first | rfl | assumption | decide +kernel) | ((with_reducible refine pdB_ok ?_) <;> decide +kernel) | ((with_reducible refine imo_r ?_ ?_) <;> first | decide | omega) | ((with_reducible refine imo_l ?_ ?_) <;> first | decide | omega) | ((with_reducible refine cpow_ok ?_) <;> first | decide | omega) | ((with_reducible refine sz_small ?_) <;> first | decide | omega) | ((with_reducible refine sz_om ?_ ?_) <;> first | decide | omega) | ((with_reducible refine smallI_ok ?_ ?_) <;> first | decide | omega) | ((with_reducible refine divOk_small ?_ ?_) <;> first | decide | omega) | (decide +kernel) | rfl | exact Nat.le_of_ble_eq_true rfl | (intro _ h; cases h; done) | omega | assumption | (dsimp only; first | (with_reducible assumption) | ((with_reducible refine imo_r ?_ ?_) <;> first | decide | omega) | ((with_reducible refine imo_l ?_ ?_) <;> first | decide | omega) | ((with_reducible refine cpow_ok ?_) <;> first | decide | omega) | ((with_reducible refine sz_small ?_) <;> first | decide | omega) | ((with_reducible refine sz_om ?_ ?_) <;> first | decide | omega) | ((with_reducible refine smallI_ok ?_ ?_) <;> first | decide | omega) | ((with_reducible refine divOk_small ?_ ?_) <;> first | decide | omega) | decide +kernel | omega | assumption)) ?_))))
local macro_rules | `(tactic| walk_at "st") => `(tactic| first | (with_reducible refine stopF ?_) | (with_reducible refine stopC ?_) | ((conv => whnf); first | (refine And.intro (by first | (with_reducible assumption) | (with_reducible rfl) | (with_reducible exact Int.natCast_nonneg _) | ((with_reducible refine Qz.mono (n := _) ?_ ?_) <;> first | (with_reducible assumption) | decide) | ((with_reducible refine eqOk_b ?_ ?_) <;> first | rfl | assumption | decide +kernel) | ((with_reducible refine pdB_ok ?_) <;> decide +kernel) | ((with_reducible refine imo_r ?_ ?_) <;> first | decide | omega) | ((with_reducible refine imo_l ?_ ?_) <;> first | decide | omega) | ((with_reducible refine cpow_ok ?_) <;> first | decide | omega) | ((with_reducible refine sz_small ?_) <;> first | decide | omega) | ((with_reducible refine sz_om ?_ ?_) <;> first | decide | omega) | ((with_reducible refine smallI_ok ?_ ?_) <;> first | decide | omega) | ((with_reducible refine divOk_small ?_ ?_) <;> first | decide | omega) | (decide +kernel) | rfl | exact Nat.le_of_ble_eq_true rfl | (intro _ h; cases h; done) | omega | assumption | (dsimp only; first | (with_reducible assumption) | ((with_reducible refine imo_r ?_ ?_) <;> first | decide | omega) | ((with_reducible refine imo_l ?_ ?_) <;> first | decide | omega) | ((with_reducible refine cpow_ok ?_) <;> first | decide | omega) | ((with_reducible refine sz_small ?_) <;> first | decide | omega) | ((with_reducible refine sz_om ?_ ?_) <;> first | decide | omega) | ((with_reducible refine smallI_ok ?_ ?_) <;> first | decide | omega) | ((with_reducible refine divOk_small ?_ ?_) <;> first | decide | omega) | decide +kernel | omega | assumption)) ?_; walk_at "st") | (refine Exists.intro _ (And.intro (by ((with_reducible show @Eq TL.D (TL.D.frz _) _); first | (with_reducible exact frz_own_qD _) | (with_reducible exact frz_own_qL _) | (with_reducible exact frz_bkO _) | (with_reducible exact frz_bkM _) | (with_reducible exact frz_qO _) | (with_reducible exact frz_qD _) | (with_reducible exact frz_qL _) | (with_reducible exact frz_ruD _) | (with_reducible exact frz_ruO _) | exact frz_of _ (by first | rfl | (with_reducible assumption)) | exact frz_ownN _ (by first | rfl | (with_reducible assumption) | exact noOwns_qD _ | exact noOwns_qL _ | exact noOwns_int _) | (simp only [frz_tup, frzs_cons, frzs_nil, frz_qO, frz_qL, frz_bkO, frz_bkM, frz_qD, frz_ruD, frz_ruO, frz_own_qD, frz_own_qL, frz_own_rep, frzs_qDs, frz_int, frz_str, frz_bl, frz_non, frz_lst]; (try simp only [frz_own, frzs_cons, frzs_nil, frz_qD, frz_qL, frz_int, frz_str, frz_bl, frz_non, frz_tup, frz_lst]); rfl))) ?_); walk_at "st") | (((first | refine ⟨_, @rfl (List Slot) _, ?_⟩ | refine ⟨_, _, @rfl (List Slot) _, ?_⟩ | refine ⟨_, _, _, @rfl (List Slot) _, ?_⟩ | refine ⟨_, _, _, _, @rfl (List Slot) _, ?_⟩ | refine ⟨_, _, _, _, _, @rfl (List Slot) _, ?_⟩ | refine ⟨_, _, _, _, _, _, @rfl (List Slot) _, ?_⟩); (repeat (refine And.intro (by first | (with_reducible assumption) | (with_reducible rfl) | (with_reducible exact Int.natCast_nonneg _) | ((with_reducible refine Qz.mono (n := _) ?_ ?_) <;> first | (with_reducible assumption) | decide) | ((with_reducible refine eqOk_b ?_ ?_) <;> first | rfl | assumption | decide +kernel) | ((with_reducible refine pdB_ok ?_) <;> decide +kernel) | ((with_reducible refine imo_r ?_ ?_) <;> first | decide | omega) | ((with_reducible refine imo_l ?_ ?_) <;> first | decide | omega) | ((with_reducible refine cpow_ok ?_) <;> first | decide | omega) | ((with_reducible refine sz_small ?_) <;> first | decide | omega) | ((with_reducible refine sz_om ?_ ?_) <;> first | decide | omega) | ((with_reducible refine smallI_ok ?_ ?_) <;> first | decide | omega) | ((with_reducible refine divOk_small ?_ ?_) <;> first | decide | omega) | (decide +kernel) | rfl | exact Nat.le_of_ble_eq_true rfl | (intro _ h; cases h; done) | omega | assumption | (dsimp only; first | (with_reducible assumption) | ((with_reducible refine imo_r ?_ ?_) <;> first | decide | omega) | ((with_reducible refine imo_l ?_ ?_) <;> first | decide | omega) | ((with_reducible refine cpow_ok ?_) <;> first | decide | omega) | ((with_reducible refine sz_small ?_) <;> first | decide | omega) | ((with_reducible refine sz_om ?_ ?_) <;> first | decide | omega) | ((with_reducible refine smallI_ok ?_ ?_) <;> first | decide | omega) | ((with_reducible refine divOk_small ?_ ?_) <;> first | decide | omega) | decide +kernel | omega | assumption)) ?_))); walk_at "st") | (refine ⟨_, _, @rfl (Option Slot) _, (by ((with_reducible show @Eq TL.D (TL.D.frz _) _); first | (with_reducible exact frz_own_qD _) | (with_reducible exact frz_own_qL _) | (with_reducible exact frz_bkO _) | (with_reducible exact frz_bkM _) | (with_reducible exact frz_qO _) | (with_reducible exact frz_qD _) | (with_reducible exact frz_qL _) | (with_reducible exact frz_ruD _) | (with_reducible exact frz_ruO _) | exact frz_of _ (by first | rfl | (with_reducible assumption)) | exact frz_ownN _ (by first | rfl | (with_reducible assumption) | exact noOwns_qD _ | exact noOwns_qL _ | exact noOwns_int _) | (simp only [frz_tup, frzs_cons, frzs_nil, frz_qO, frz_qL, frz_bkO, frz_bkM, frz_qD, frz_ruD, frz_ruO, frz_own_qD, frz_own_qL, frz_own_rep, frzs_qDs, frz_int, frz_str, frz_bl, frz_non, frz_lst]; (try simp only [frz_own, frzs_cons, frzs_nil, frz_qD, frz_qL, frz_int, frz_str, frz_bl, frz_non, frz_tup, frz_lst]); rfl))), ?_⟩; walk_at "st") | (refine Or.inl ?_; ((first | refine ⟨_, @rfl (List Slot) _, ?_⟩ | refine ⟨_, _, @rfl (List Slot) _, ?_⟩ | refine ⟨_, _, _, @rfl (List Slot) _, ?_⟩ | refine ⟨_, _, _, _, @rfl (List Slot) _, ?_⟩ | refine ⟨_, _, _, _, _, @rfl (List Slot) _, ?_⟩ | refine ⟨_, _, _, _, _, _, @rfl (List Slot) _, ?_⟩); (repeat (refine And.intro (by first | (with_reducible assumption) | (with_reducible rfl) | (with_reducible exact Int.natCast_nonneg _) | ((with_reducible refine Qz.mono (n := _) ?_ ?_) <;> first | (with_reducible assumption) | decide) | ((with_reducible refine eqOk_b ?_ ?_) <;> first | rfl | assumption | decide +kernel) | ((with_reducible refine pdB_ok ?_) <;> decide +kernel) | ((with_reducible refine imo_r ?_ ?_) <;> first | decide | omega) | ((with_reducible refine imo_l ?_ ?_) <;> first | decide | omega) | ((with_reducible refine cpow_ok ?_) <;> first | decide | omega) | ((with_reducible refine sz_small ?_) <;> first | decide | omega) | ((with_reducible refine sz_om ?_ ?_) <;> first | decide | omega) | ((with_reducible refine smallI_ok ?_ ?_) <;> first | decide | omega) | ((with_reducible refine divOk_small ?_ ?_) <;> first | decide | omega) | (decide +kernel) | rfl | exact Nat.le_of_ble_eq_true rfl | (intro _ h; cases h; done) | omega | assumption | (dsimp only; first | (with_reducible assumption) | ((with_reducible refine imo_r ?_ ?_) <;> first | decide | omega) | ((with_reducible refine imo_l ?_ ?_) <;> first | decide | omega) | ((with_reducible refine cpow_ok ?_) <;> first | decide | omega) | ((with_reducible refine sz_small ?_) <;> first | decide | omega) | ((with_reducible refine sz_om ?_ ?_) <;> first | decide | omega) | ((with_reducible refine smallI_ok ?_ ?_) <;> first | decide | omega) | ((with_reducible refine divOk_small ?_ ?_) <;> first | decide | omega) | decide +kernel | omega | assumption)) ?_))); walk_at "st") | (refine ifT (by first | assumption | (rw [eqv_str]; decide) | (rw [eqv_int]; decide) | decide +kernel) ?_; walk_at "st") | (refine ifF (by first | assumption | (rw [eqv_str]; decide) | (rw [eqv_int]; decide) | decide +kernel) ?_; walk_at "st") | (dsimp only) | skip))
local macro_rules | `(tactic| walk_at "s1") => `(tactic| (conv => whnf); first | (refine And.intro (by first | (with_reducible assumption) | (with_reducible rfl) | (with_reducible exact Int.natCast_nonneg _) | ((with_reducible refine Qz.mono (n := _) ?_ ?_) <;> first | (with_reducible assumption) | decide) | ((with_reducible refine eqOk_b ?_ ?_) <;> first | rfl | assumption | decide +kernel) | ((with_reducible refine pdB_ok ?_) <;> decide +kernel) | ((with_reducible refine imo_r ?_ ?_) <;> first | decide | omega) | ((with_reducible refine imo_l ?_ ?_) <;> first | decide | omega) | ((with_reducible refine cpow_ok ?_) <;> first | decide | omega) | ((with_reducible refine sz_small ?_) <;> first | decide | omega) | ((with_reducible refine sz_om ?_ ?_) <;> first | decide | omega) | ((with_reducible refine smallI_ok ?_ ?_) <;> first | decide | omega) | ((with_reducible refine divOk_small ?_ ?_) <;> first | decide | omega) | (decide +kernel) | rfl | exact Nat.le_of_ble_eq_true rfl | (intro _ h; cases h; done) | omega | assumption | (dsimp only; first | (with_reducible assumption) | ((with_reducible refine imo_r ?_ ?_) <;> first | decide | omega) | ((with_reducible refine imo_l ?_ ?_) <;> first | decide | omega) | ((with_reducible refine cpow_ok ?_) <;> first | decide | omega) | ((with_reducible refine sz_small ?_) <;> first | decide | omega) | ((with_reducible refine sz_om ?_ ?_) <;> first | decide | omega) | ((with_reducible refine smallI_ok ?_ ?_) <;> first | decide | omega) | ((with_reducible refine divOk_small ?_ ?_) <;> first | decide | omega) | decide +kernel | omega | assumption)) ?_; walk_at "st") | (refine Exists.intro _ (And.intro (by ((with_reducible show @Eq TL.D (TL.D.frz _) _); first | (with_reducible exact frz_own_qD _) | (with_reducible exact frz_own_qL _) | (with_reducible exact frz_bkO _) | (with_reducible exact frz_bkM _) | (with_reducible exact frz_qO _) | (with_reducible exact frz_qD _) | (with_reducible exact frz_qL _) | (with_reducible exact frz_ruD _) | (with_reducible exact frz_ruO _) | exact frz_of _ (by first | rfl | (with_reducible assumption)) | exact frz_ownN _ (by first | rfl | (with_reducible assumption) | exact noOwns_qD _ | exact noOwns_qL _ | exact noOwns_int _) | (simp only [frz_tup, frzs_cons, frzs_nil, frz_qO, frz_qL, frz_bkO, frz_bkM, frz_qD, frz_ruD, frz_ruO, frz_own_qD, frz_own_qL, frz_own_rep, frzs_qDs, frz_int, frz_str, frz_bl, frz_non, frz_lst]; (try simp only [frz_own, frzs_cons, frzs_nil, frz_qD, frz_qL, frz_int, frz_str, frz_bl, frz_non, frz_tup, frz_lst]); rfl))) ?_); walk_at "st") | (((first | refine ⟨_, @rfl (List Slot) _, ?_⟩ | refine ⟨_, _, @rfl (List Slot) _, ?_⟩ | refine ⟨_, _, _, @rfl (List Slot) _, ?_⟩ | refine ⟨_, _, _, _, @rfl (List Slot) _, ?_⟩ | refine ⟨_, _, _, _, _, @rfl (List Slot) _, ?_⟩ | refine ⟨_, _, _, _, _, _, @rfl (List Slot) _, ?_⟩); (repeat (refine And.intro (by first | (with_reducible assumption) | (with_reducible rfl) | (with_reducible exact Int.natCast_nonneg _) | ((with_reducible refine Qz.mono (n := _) ?_ ?_) <;> first | (with_reducible assumption) | decide) | ((with_reducible refine eqOk_b ?_ ?_) <;> first | rfl | assumption | decide +kernel) | ((with_reducible refine pdB_ok ?_) <;> decide +kernel) | ((with_reducible refine imo_r ?_ ?_) <;> first | decide | omega) | ((with_reducible refine imo_l ?_ ?_) <;> first | decide | omega) | ((with_reducible refine cpow_ok ?_) <;> first | decide | omega) | ((with_reducible refine sz_small ?_) <;> first | decide | omega) | ((with_reducible refine sz_om ?_ ?_) <;> first | decide | omega) | ((with_reducible refine smallI_ok ?_ ?_) <;> first | decide | omega) | ((with_reducible refine divOk_small ?_ ?_) <;> first | decide | omega) | (decide +kernel) | rfl | exact Nat.le_of_ble_eq_true rfl | (intro _ h; cases h; done) | omega | assumption | (dsimp only; first | (with_reducible assumption) | ((with_reducible refine imo_r ?_ ?_) <;> first | decide | omega) | ((with_reducible refine imo_l ?_ ?_) <;> first | decide | omega) | ((with_reducible refine cpow_ok ?_) <;> first | decide | omega) | ((with_reducible refine sz_small ?_) <;> first | decide | omega) | ((with_reducible refine sz_om ?_ ?_) <;> first | decide | omega) | ((with_reducible refine smallI_ok ?_ ?_) <;> first | decide | omega) | ((with_reducible refine divOk_small ?_ ?_) <;> first | decide | omega) | decide +kernel | omega | assumption)) ?_))); walk_at "st") | (refine ⟨_, _, @rfl (Option Slot) _, (by ((with_reducible show @Eq TL.D (TL.D.frz _) _); first | (with_reducible exact frz_own_qD _) | (with_reducible exact frz_own_qL _) | (with_reducible exact frz_bkO _) | (with_reducible exact frz_bkM _) | (with_reducible exact frz_qO _) | (with_reducible exact frz_qD _) | (with_reducible exact frz_qL _) | (with_reducible exact frz_ruD _) | (with_reducible exact frz_ruO _) | exact frz_of _ (by first | rfl | (with_reducible assumption)) | exact frz_ownN _ (by first | rfl | (with_reducible assumption) | exact noOwns_qD _ | exact noOwns_qL _ | exact noOwns_int _) | (simp only [frz_tup, frzs_cons, frzs_nil, frz_qO, frz_qL, frz_bkO, frz_bkM, frz_qD, frz_ruD, frz_ruO, frz_own_qD, frz_own_qL, frz_own_rep, frzs_qDs, frz_int, frz_str, frz_bl, frz_non, frz_lst]; (try simp only [frz_own, frzs_cons, frzs_nil, frz_qD, frz_qL, frz_int, frz_str, frz_bl, frz_non, frz_tup, frz_lst]); rfl))), ?_⟩; walk_at "st") | (refine Or.inl ?_; ((first | refine ⟨_, @rfl (List Slot) _, ?_⟩ | refine ⟨_, _, @rfl (List Slot) _, ?_⟩ | refine ⟨_, _, _, @rfl (List Slot) _, ?_⟩ | refine ⟨_, _, _, _, @rfl (List Slot) _, ?_⟩ | refine ⟨_, _, _, _, _, @rfl (List Slot) _, ?_⟩ | refine ⟨_, _, _, _, _, _, @rfl (List Slot) _, ?_⟩); (repeat (refine And.intro (by first | (with_reducible assumption) | (with_reducible rfl) | (with_reducible exact Int.natCast_nonneg _) | ((with_reducible refine Qz.mono (n := _) ?_ ?_) <;> first | (with_reducible assumption) | decide) | ((with_reducible refine eqOk_b ?_ ?_) <;> first | rfl | assumption | decide +kernel) | ((with_reducible refine pdB_ok ?_) <;> decide +kernel) | ((with_reducible refine imo_r ?_ ?_) <;> first | decide | omega) | ((with_reducible refine imo_l ?_ ?_) <;> first | decide | omega) | ((with_reducible refine cpow_ok ?_) <;> first | decide | omega) | ((with_reducible refine sz_small ?_) <;> first | decide | omega) | ((with_reducible refine sz_om ?_ ?_) <;> first | decide | omega) | ((with_reducible refine smallI_ok ?_ ?_) <;> first | decide | omega) | ((with_reducible refine divOk_small ?_ ?_) <;> first | decide | omega) | (decide +kernel) | rfl | exact Nat.le_of_ble_eq_true rfl | (intro _ h; cases h; done) | omega | assumption | (dsimp only; first | (with_reducible assumption) | ((with_reducible refine imo_r ?_ ?_) <;> first | decide | omega) | ((with_reducible refine imo_l ?_ ?_) <;> first | decide | omega) | ((with_reducible refine cpow_ok ?_) <;> first | decide | omega) | ((with_reducible refine sz_small ?_) <;> first | decide | omega) | ((with_reducible refine sz_om ?_ ?_) <;> first | decide | omega) | ((with_reducible refine smallI_ok ?_ ?_) <;> first | decide | omega) | ((with_reducible refine divOk_small ?_ ?_) <;> first | decide | omega) | decide +kernel | omega | assumption)) ?_))); walk_at "st") | (refine ifT (by first | assumption | (rw [eqv_str]; decide) | (rw [eqv_int]; decide) | decide +kernel) ?_; walk_at "st") | (refine ifF (by first | assumption | (rw [eqv_str]; decide) | (rw [eqv_int]; decide) | decide +kernel) ?_; walk_at "st") | (dsimp only) | skip)

def nms : List Str := ["HeadError", "NoBottom", "NoBook", "NoList", "NoRule", "NoCount", "NoLooks", "NoThings", "NotSure", "NoSlack", "NoThing", "NoWorth", "TooMany", "NoText", "NoLine"]
def top (i : Nat) : Stmt := PySem.Challenge.pw_bestheads_k71_refused_books_and_rules.main.body.getD i (.Pass ⟨0, 0, 0, 0⟩)
abbrev v_LISTS_AT_MOST : D := .int 4
abbrev v_THINGS_AT_MOST : D := .int 12
abbrev v_ALONE : D := .tup [.tup [.str "least"], .tup [.str "greatest"], .tup [.str "product"]]
/-! common_of -/
abbrev s_common_of : Stmt := top 17
theorem sc_common_of : FnScope ["one", "other"] ["one", "other"] (defScope s_common_of) := ⟨rfl, rfl, rfl, by decide +kernel, rfl, by decide +kernel, by decide +kernel⟩
def T_common_of (cl : Nat → Addr) : Spec := fun as Q _ => ∃ a b : Int, as = [.va (.int a), .va (.int b)] ∧ Q (.int (Int.gcd a b)) []

def lb1_common_of (cl : Nat → Addr) : DS :=
    (sPar 0 1 (dVar 1) (dMod (dVar 0) (dVar 1)))
def r_common_of (cl : Nat → Addr) : DS :=
    (sSeq (sWhile [] (dT (dNe (dVar 1) (dC (.int 0)))) (lb1_common_of cl))
    (sRet (dCal1 gAbs (dLook 0))))
-- LAW
theorem law_common_of {cl : Nat → Addr} : ∀ as Q E, T_common_of cl as Q E → r_common_of cl (endsOf Q E) (as ++ List.replicate 0 .un) := by
  rintro as Q E ⟨a, b, rfl, h⟩
  unfold r_common_of
  walk_at "st"
  refine ⟨fun M => ∃ x y : Int, M = [.va (.int x), .va (.int y)] ∧ Int.gcd x y = Int.gcd a b, fun M => match M with | [_, .va (.int y)] => y.natAbs | _ => 0, ⟨a, b, rfl, rfl⟩, ?_⟩
  rintro M ⟨x, y, rfl, e⟩
  walk_at "s1"
  refine ifB (fun c => ?_) (fun c => ?_)
  · rw [eqv_int] at c
    have hy : y ≠ 0 := by simpa using c
    walk_at "s1"
    exact ⟨⟨y, x.fmod y, rfl, by rw [gcd_fmod]; exact e⟩, fmod_small x y hy⟩
  · rw [eqv_int] at c
    have hy : y = 0 := by simpa using c
    subst hy
    walk_at "s1"
    have : Int.gcd a b = x.natAbs := by rw [← e]; exact Int.gcd_zero_right x
    rw [this] at h
    have e2 : (if x < 0 then -x else x) = (x.natAbs : Int) := by split <;> omega
    have h2 : Q (.int (if x < 0 then -x else x)) [] := by rw [e2]; exact h
    exact h2

theorem dv_common_of {P : Program} {w : World} {K : PySem.W.Frag} {mg : Str → Option Value} {base : Heap} {cl : Nat → Addr} (B : Bl mg) (Er : Er K mg nms cl)    (f : Addr) (cdv : Value) (A : Around) (outer : List Env) (s : Shared) (H : Hp) (E : XK) (hrG : RmG 0 (A.deeper (envOfC "common_of" (defScope s_common_of) s.heap.objs.size f cdv))) :
    PSs (cxOf (L2.CX P w) P w K mg base ["one", "other"] "common_of" (defScope s_common_of) f cdv A outer s H E) (defBody s_common_of) (liftS K (fun cls d _ H => E cls d H) (r_common_of cl)) := by
  have nd := sc_common_of.nd
  have hr := hrG.rm
  exact (s_cons (s_while (vs := []) po_fn (t_ne hr (d_var (pv 1)) (d_int)) (s_one (s_par (i := 0) (j := 1) rfl nd (d_var (pv 1)) (d_mod (d_var (pv 0)) (d_var (pv 1))))))
      (s_one (s_ret (d_abs B.abs (d_look (pv 0))))))
theorem ok_common_of {P : Program} {w : World} {K : PySem.W.Frag} {mg : Str → Option Value} {base : Heap} {cl : Nat → Addr} (B : Bl mg) (Er : Er K mg nms cl) (D : DefAt K mg "common_of" s_common_of ["one", "other"])    : Cal P w K mg base 1 2 "common_of" (T_common_of cl) :=
  cal_ok (m := 0) D sc_common_of rfl rfl (fun f cdv A outer s H E hr => dv_common_of B Er  f cdv A outer s H E hr) (law_common_of)
/-! is_whole -/
abbrev s_is_whole : Stmt := top 18
theorem sc_is_whole : FnScope ["thing"] ["thing"] (defScope s_is_whole) := ⟨rfl, rfl, rfl, by decide +kernel, rfl, by decide +kernel, by decide +kernel⟩
def T_is_whole (cl : Nat → Addr) : Spec := fun as Q _ => ∃ d : D, as = [.va d] ∧ plainD d = true ∧ Q (.bl (isIntD d)) []

def r_is_whole (cl : Nat → Addr) : DS :=
    (sRet ((dBool (dAndV (dIsi .int (dLook 0)) (dNotV (dIsi .bool (dLook 0)))))))
-- LAW
theorem law_is_whole {cl : Nat → Addr} : ∀ as Q E, T_is_whole cl as Q E → r_is_whole cl (endsOf Q E) (as ++ List.replicate 0 .un) := by
  rintro as Q E ⟨d, rfl, hd, h⟩
  unfold r_is_whole
  rw [← isIntD_eq] at h
  have no : d.noOwn = true → True := fun _ => trivial
  cases d <;> first | (cases hd; done) | (walk_at "st"; refine boolS (isTy .int _ && !isTy .bool _) (fun Q' h' => ?_) (by walk_at "s1"; exact h); walk_at "s1"; exact h')

theorem dv_is_whole {P : Program} {w : World} {K : PySem.W.Frag} {mg : Str → Option Value} {base : Heap} {cl : Nat → Addr} (B : Bl mg) (Er : Er K mg nms cl)    (f : Addr) (cdv : Value) (A : Around) (outer : List Env) (s : Shared) (H : Hp) (E : XK) (hrG : RmG 0 (A.deeper (envOfC "is_whole" (defScope s_is_whole) s.heap.objs.size f cdv))) :
    PSs (cxOf (L2.CX P w) P w K mg base ["thing"] "is_whole" (defScope s_is_whole) f cdv A outer s H E) (defBody s_is_whole) (liftS K (fun cls d _ H => E cls d H) (r_is_whole cl)) := by
  have nd := sc_is_whole.nd
  have hr := hrG.rm
  exact (s_one (s_ret ((d_bool (d_and (d_isi .int B.isinstance B.int (by decide +kernel) (d_look (pv 0))) (d_one (d_not (d_isi .bool B.isinstance B.bool (by decide +kernel) (d_look (pv 0))))))))))
theorem ok_is_whole {P : Program} {w : World} {K : PySem.W.Frag} {mg : Str → Option Value} {base : Heap} {cl : Nat → Addr} (B : Bl mg) (Er : Er K mg nms cl) (D : DefAt K mg "is_whole" s_is_whole ["thing"])    : Cal P w K mg base 1 1 "is_whole" (T_is_whole cl) :=
  cal_ok (m := 0) D sc_is_whole rfl rfl (fun f cdv A outer s H E hr => dv_is_whole B Er  f cdv A outer s H E hr) (law_is_whole)
/-! is_fraction -/
abbrev s_is_fraction : Stmt := top 19
theorem sc_is_fraction : FnScope ["thing"] ["thing"] (defScope s_is_fraction) := ⟨rfl, rfl, rfl, by decide +kernel, rfl, by decide +kernel, by decide +kernel⟩
def T_is_fraction (cl : Nat → Addr) : Spec := fun as Q _ => ∃ d : D, as = [.va d] ∧ PD 8 d ∧ Q (.bl (isFracD d)) []

def r_is_fraction (cl : Nat → Addr) : DS :=
    (sSeq (sIf (tBool (dOr (dNot (dT (dIsi .tuple (dLook 0)))) (dOr (dT (dNe (dCal1 gLen (dLook 0)) (dC (.int 2)))) (dOr (dNot (dT (dCall 1 (T_is_whole cl) (cEx (dIxS 0 (dC (.int 0))) cNil)))) (dNot (dT (dCall 1 (T_is_whole cl) (cEx (dIxS 0 (dC (.int 1))) cNil)))))))) (sRet (dC (.bl false))) (sNext))
    (sRet ((dBool (dAndV (dGe (dIxS 0 (dC (.int 1))) (dC (.int 1))) (dEq (dCall 2 (T_common_of cl) (cEx (dIxS 0 (dC (.int 0))) (cEx (dIxS 0 (dC (.int 1))) cNil))) (dC (.int 1))))))))
-- LAW
theorem law_is_fraction {cl : Nat → Addr} : ∀ as Q E, T_is_fraction cl as Q E → r_is_fraction cl (endsOf Q E) (as ++ List.replicate 0 .un) := by
  rintro as Q E ⟨d, rfl, hd, h⟩
  unfold r_is_fraction
  have no := hd.noOwn
  have pl := hd.plain
  by_cases ht : ∃ x y, d = .tup [x, y]
  · obtain ⟨x, y, rfl⟩ := ht
    have hx := hd.tup.2 x (by simp)
    have hy := hd.tup.2 y (by simp)
    have nx := hx.noOwn
    have ny := hy.noOwn
    have px := hx.plain
    have py := hy.plain
    walk_at "st"
    refine boolT (!(isIntD x && isIntD y)) (fun Q' h' => ?_) ?_
    · walk_at "s1"
      refine ifB (fun c => ?_) (fun c => ?_)
      · have c : isIntD x = false := by simpa using c
        rw [c] at h'
        exact h'
      · have c : isIntD x = true := by simpa using c
        rw [c] at h'
        walk_at "s1"
        exact h'
    walk_at "s1"
    refine ifB (fun c => ?_) (fun c => ?_)
    · walk_at "s1"
      have e : isFracD (.tup [x, y]) = false := by
        cases x <;> cases y <;> first | rfl | (simp [isIntD] at c)
      rw [e] at h
      exact h
    · have c : isIntD x = true ∧ isIntD y = true := by simpa using c
      obtain ⟨a, rfl⟩ := isIntD_iff.mp c.1
      obtain ⟨b, rfl⟩ := isIntD_iff.mp c.2
      walk_at "s1"
      refine boolS (isFracD (.tup [.int a, .int b])) (fun Q' h' => ?_) (by walk_at "s1"; exact h)
      walk_at "s1"
      refine ifB (fun c => ?_) (fun c => ?_)
      · walk_at "s1"
        have e : (D.eqv (.int (Int.gcd a b : Int)) (.int 1)) = isFracD (.tup [.int a, .int b]) := by
          have c : 1 ≤ b := of_decide_eq_true c
          rw [eqv_int]
          unfold isFracD
          simp only [c, decide_true, Bool.true_and]
          by_cases g : Int.gcd a b = 1
          · simp [g]
          · have : ¬ (Int.gcd a b : Int) = 1 := by omega
            simp [g, this]
        rw [e]
        exact h'
      · have c : ¬ 1 ≤ b := of_decide_eq_false c
        have e : isFracD (.tup [.int a, .int b]) = false := by unfold isFracD; simp [c]
        rw [e] at h'
        exact h'
  · have e : isFracD d = false := by
      cases hb : isFracD d with
      | false => rfl
      | true => obtain ⟨q, rfl⟩ := isFracD_iff.mp hb; exact absurd ⟨_, _, rfl⟩ ht
    walk_at "st"
    refine boolT true (fun Q' h' => ?_) ?_
    · cases d <;> first | (cases pl; done) | skip
      all_goals
        walk_at "s1"
        first | exact h' | skip
      rename_i l
      refine ifB (fun _ => ?_) (fun c => ?_)
      · exact h'
      · exfalso
        rw [eqv_int] at c
        have c : (l.length : Int) = 2 := by simpa using c
        match l, c with
        | [x, y], _ => exact ht ⟨x, y, rfl⟩
    · rw [e] at h
      walk_at "s1"
      exact h

theorem dv_is_fraction {P : Program} {w : World} {K : PySem.W.Frag} {mg : Str → Option Value} {base : Heap} {cl : Nat → Addr} (B : Bl mg) (Er : Er K mg nms cl)   (G_is_whole : Cal P w K mg base 1 1 "is_whole" (T_is_whole cl)) (G_common_of : Cal P w K mg base 1 2 "common_of" (T_common_of cl)) (f : Addr) (cdv : Value) (A : Around) (outer : List Env) (s : Shared) (H : Hp) (E : XK) (hrG : RmG 1 (A.deeper (envOfC "is_fraction" (defScope s_is_fraction) s.heap.objs.size f cdv))) :
    PSs (cxOf (L2.CX P w) P w K mg base ["thing"] "is_fraction" (defScope s_is_fraction) f cdv A outer s H E) (defBody s_is_fraction) (liftS K (fun cls d _ H => E cls d H) (r_is_fraction cl)) := by
  have nd := sc_is_fraction.nd
  have hr := hrG.rm
  exact (s_cons (s_if (t_bool (PW.pt (t_or (t_not (t_val (d_isi .tuple B.isinstance B.tuple (by decide +kernel) (d_look (pv 0))))) (t_or (t_ne hr (d_len B.len (d_look (pv 0))) (d_int)) (t_or (t_not (t_val (d_cl G_is_whole tk_fn hrG (c_ex (d_ixS (pv 0) (d_int)) c_nil)))) (t_or1 (t_not (t_val (d_cl G_is_whole tk_fn hrG (c_ex (d_ixS (pv 0) (d_int)) c_nil)))))))))) (s_one (s_ret (d_bl))) (s_nil))
      (s_one (s_ret ((d_bool (d_and (d_ge (d_ixS (pv 0) (d_int)) (d_int)) (d_one (d_eq hr (d_cl G_common_of tk_fn hrG (c_ex (d_ixS (pv 0) (d_int)) (c_ex (d_ixS (pv 0) (d_int)) c_nil))) (d_int)))))))))
theorem ok_is_fraction {P : Program} {w : World} {K : PySem.W.Frag} {mg : Str → Option Value} {base : Heap} {cl : Nat → Addr} (B : Bl mg) (Er : Er K mg nms cl) (D : DefAt K mg "is_fraction" s_is_fraction ["thing"])   (G_is_whole : Cal P w K mg base 1 1 "is_whole" (T_is_whole cl)) (G_common_of : Cal P w K mg base 1 2 "common_of" (T_common_of cl)) : Cal P w K mg base 2 1 "is_fraction" (T_is_fraction cl) :=
  cal_ok (m := 0) D sc_is_fraction rfl rfl (fun f cdv A outer s H E hr => dv_is_fraction B Er G_is_whole G_common_of f cdv A outer s H E hr) (law_is_fraction)
/-! is_worth -/
abbrev s_is_worth : Stmt := top 23
theorem sc_is_worth : FnScope ["thing"] ["thing"] (defScope s_is_worth) := ⟨rfl, rfl, rfl, by decide +kernel, rfl, by decide +kernel, by decide +kernel⟩
def T_is_worth (cl : Nat → Addr) : Spec := fun as Q _ => ∃ d : D, as = [.va d] ∧ PD 8 d ∧ Q (.bl (isWorthD d)) []

def r_is_worth (cl : Nat → Addr) : DS :=
    (sRet ((dBool (dAndV (dCall 1 (T_is_fraction cl) (cEx (dVar 0) cNil)) (dAndV (dGe (dIxS 0 (dC (.int 0))) (dC (.int 0))) (dLe (dIxS 0 (dC (.int 0))) (dIxS 0 (dC (.int 1)))))))))
-- LAW
theorem law_is_worth {cl : Nat → Addr} : ∀ as Q E, T_is_worth cl as Q E → r_is_worth cl (endsOf Q E) (as ++ List.replicate 0 .un) := by
  rintro as Q E ⟨d, rfl, hd, h⟩
  unfold r_is_worth
  have no := hd.noOwn
  walk_at "st"
  refine boolS (isWorthD d) (fun Q' h' => ?_) (by walk_at "s1"; exact h)
  walk_at "s1"
  refine ifB (fun c => ?_) (fun c => ?_)
  · obtain ⟨q, rfl⟩ := isFracD_iff.mp c
    walk_at "s1"
    have e : isWorthD (qD q) = (decide (0 ≤ q.num) && decide (q.num ≤ (q.den : Int))) := by
      show (isFracD (qD q) && _) = _
      rw [isFracD_qD, Bool.true_and]
    rw [e] at h'
    refine ifB (fun c => ?_) (fun c => ?_)
    · have c : 0 ≤ q.num := of_decide_eq_true c
      rw [decide_eq_true c, Bool.true_and] at h'
      walk_at "s1"
      exact h'
    · have c : ¬ 0 ≤ q.num := of_decide_eq_false c
      rw [decide_eq_false c, Bool.false_and] at h'
      walk_at "s1"
      exact h'
  · walk_at "s1"
    have e : isWorthD d = false := by
      cases hb : isWorthD d with
      | false => rfl
      | true => obtain ⟨q, rfl, _⟩ := isWorthD_iff.mp hb; rw [isFracD_qD] at c; cases c
    rw [e] at h'
    exact h'

theorem dv_is_worth {P : Program} {w : World} {K : PySem.W.Frag} {mg : Str → Option Value} {base : Heap} {cl : Nat → Addr} (B : Bl mg) (Er : Er K mg nms cl)   (G_is_fraction : Cal P w K mg base 2 1 "is_fraction" (T_is_fraction cl)) (f : Addr) (cdv : Value) (A : Around) (outer : List Env) (s : Shared) (H : Hp) (E : XK) (hrG : RmG 2 (A.deeper (envOfC "is_worth" (defScope s_is_worth) s.heap.objs.size f cdv))) :
    PSs (cxOf (L2.CX P w) P w K mg base ["thing"] "is_worth" (defScope s_is_worth) f cdv A outer s H E) (defBody s_is_worth) (liftS K (fun cls d _ H => E cls d H) (r_is_worth cl)) := by
  have nd := sc_is_worth.nd
  have hr := hrG.rm
  exact (s_one (s_ret ((d_bool (d_and (d_cl G_is_fraction tk_fn hrG (c_ex (d_var (pv 0)) c_nil)) (d_and (d_ge (d_ixS (pv 0) (d_int)) (d_int)) (d_one (d_le (d_ixS (pv 0) (d_int)) (d_ixS (pv 0) (d_int))))))))))
theorem ok_is_worth {P : Program} {w : World} {K : PySem.W.Frag} {mg : Str → Option Value} {base : Heap} {cl : Nat → Addr} (B : Bl mg) (Er : Er K mg nms cl) (D : DefAt K mg "is_worth" s_is_worth ["thing"])   (G_is_fraction : Cal P w K mg base 2 1 "is_fraction" (T_is_fraction cl)) : Cal P w K mg base 3 1 "is_worth" (T_is_worth cl) :=
  cal_ok (m := 0) D sc_is_worth rfl rfl (fun f cdv A outer s H E hr => dv_is_worth B Er G_is_fraction f cdv A outer s H E hr) (law_is_worth)
/-! are_worths -/
abbrev s_are_worths : Stmt := top 24
theorem sc_are_worths : FnScope ["thing", "many", "worth"] ["thing", "many"] (defScope s_are_worths) := ⟨rfl, rfl, rfl, by decide +kernel, rfl, by decide +kernel, by decide +kernel⟩
def T_are_worths (cl : Nat → Addr) : Spec := fun as Q _ => ∃ (d : D) (m : Int), as = [.va d, .va (.int m)] ∧ PD 8 d ∧ Q (.bl (areWorthsD d m)) []

def r_are_worths (cl : Nat → Addr) : DS :=
    (sRet ((dBool (dAndV (dIsi .list (dLook 0)) (dAndV (dEq (dCal1 gLen (dLook 0)) (dVar 1)) (dCal1 gAll (dComp (itS 0) (tgName 2) tYesD (dCall 1 (T_is_worth cl) (cEx (dVar 2) cNil)) [2])))))))
-- LAW
theorem law_are_worths {cl : Nat → Addr} : ∀ as Q E, T_are_worths cl as Q E → r_are_worths cl (endsOf Q E) (as ++ List.replicate 1 .un) := by
  rintro as Q E ⟨d, m, rfl, hd, h⟩
  unfold r_are_worths
  have no := hd.noOwn
  have pl := hd.plain
  walk_at "st"
  refine boolS (areWorthsD d m) (fun Q' h' => ?_) (by walk_at "s1"; exact h)
  cases d <;> first | (cases pl; done) | (cases no; done) | (walk_at "s1"; exact h'; done) | skip
  rename_i l
  have h10 : l.length ≤ 10000 := by have := hd.lst.1; omega
  rw [show areWorthsD (.lst l) m = (decide ((l.length : Int) = m) && l.all isWorthD) from rfl] at h'
  walk_at "s1"
  refine ifB (fun c => ?_) (fun c => ?_)
  · rw [eqv_int] at c
    have c : (l.length : Int) = m := by simpa using c
    rw [decide_eq_true c, Bool.true_and] at h'
    walk_at "s1"
    rw [← List.map_id l]
    refine compL_map id (fun d => .bl (isWorthD d)) l (fun i hi => by cases hi) (fun x hx C hC => ?_) ?_
    · have hx := (hd.lst.2 x hx).mono (show _ ≤ 8 by decide)
      have nx := hx.noOwn
      walk_at "s1"
      exact hC
    · rw [List.map_id]
      refine getO_eq (show asBls (l.map fun d => D.bl (isWorthD d)) = some (l.map isWorthD) by rw [← asBls_map, List.map_map]; rfl) ?_
      have e2 : (l.map isWorthD).all id = l.all isWorthD := by rw [List.all_map]; rfl
      rw [← e2] at h'
      walk_at "s1"
      exact h'
  · rw [eqv_int] at c
    have c : ¬ (l.length : Int) = m := by simpa using c
    rw [decide_eq_false c, Bool.false_and] at h'
    walk_at "s1"
    exact h'

theorem dv_are_worths {P : Program} {w : World} {K : PySem.W.Frag} {mg : Str → Option Value} {base : Heap} {cl : Nat → Addr} (B : Bl mg) (Er : Er K mg nms cl)   (G_is_worth : Cal P w K mg base 3 1 "is_worth" (T_is_worth cl)) (f : Addr) (cdv : Value) (A : Around) (outer : List Env) (s : Shared) (H : Hp) (E : XK) (hrG : RmG 3 (A.deeper (envOfC "are_worths" (defScope s_are_worths) s.heap.objs.size f cdv))) :
    PSs (cxOf (L2.CX P w) P w K mg base ["thing", "many", "worth"] "are_worths" (defScope s_are_worths) f cdv A outer s H E) (defBody s_are_worths) (liftS K (fun cls d _ H => E cls d H) (r_are_worths cl)) := by
  have nd := sc_are_worths.nd
  have hr := hrG.rm
  exact (s_one (s_ret ((d_bool (d_and (d_isi .list B.isinstance B.list (by decide +kernel) (d_look (pv 0))) (d_and (d_eq hr (d_len B.len (d_look (pv 0))) (d_var (pv 1))) (d_one (d_all rfl B.all (d_eb (d_comp (own := [("worth", 2)]) (g := gName 2) rfl nd (i_slot (pv 0)) (show blkC ["thing", "many", "worth"] (defScope s_are_worths) _ _ = true by decide +kernel) rfl (fun hk => tg_name) (fun _ _ _ _ _ => pg_name (i := 2) nd rfl (.inl rfl)) (fun _ _ _ _ _ => ts_nil) (fun _ _ _ _ _ => (d_cl G_is_worth takes0 hrG (c_ex (d_var (pv 2)) c_nil)))))))))))))
theorem ok_are_worths {P : Program} {w : World} {K : PySem.W.Frag} {mg : Str → Option Value} {base : Heap} {cl : Nat → Addr} (B : Bl mg) (Er : Er K mg nms cl) (D : DefAt K mg "are_worths" s_are_worths ["thing", "many"])   (G_is_worth : Cal P w K mg base 3 1 "is_worth" (T_is_worth cl)) : Cal P w K mg base 4 2 "are_worths" (T_are_worths cl) :=
  cal_ok (m := 1) D sc_are_worths rfl rfl (fun f cdv A outer s H E hr => dv_are_worths B Er G_is_worth f cdv A outer s H E hr) (law_are_worths)
/-! is_book -/
abbrev s_is_book : Stmt := top 25
theorem sc_is_book : FnScope ["thing", "many", "worths"] ["thing"] (defScope s_is_book) := ⟨rfl, rfl, rfl, by decide +kernel, rfl, by decide +kernel, by decide +kernel⟩
def T_is_book (cl : Nat → Addr) : Spec := fun as Q _ => ∃ (d : D), as = [.va d] ∧ PD 8 d ∧ Q (.bl (isBookD d)) []

def r_is_book (cl : Nat → Addr) : DS :=
    (sSeq (sIf (tBool (dOr (dNot (dT (dIsi .list (dLook 0)))) (dOr (dT (dLt (dCal1 gLen (dLook 0)) (dC (.int 1)))) (dOr (dT (dGt (dCal1 gLen (dLook 0)) (dC v_LISTS_AT_MOST))) (dNot (dT (dIsi .list (dIxS 0 (dC (.int 0)))))))))) (sRet (dC (.bl false))) (sNext))
    (sSeq (sSet 1 (dCal1 gLen (dIxS 0 (dC (.int 0)))))
    (sRet ((dBool (dAndV (dGe (dVar 1) (dC (.int 1))) (dAndV (dLe (dVar 1) (dC v_THINGS_AT_MOST)) (dCal1 gAll (dComp (itS 0) (tgName 2) tYesD (dCall 2 (T_are_worths cl) (cEx (dVar 2) (cEx (dVar 1) cNil))) [2])))))))))
-- LAW
theorem law_is_book {cl : Nat → Addr} : ∀ as Q E, T_is_book cl as Q E → r_is_book cl (endsOf Q E) (as ++ List.replicate 2 .un) := by
  rintro as Q E ⟨d, rfl, hd, h⟩
  unfold r_is_book
  have no := hd.noOwn
  have pl := hd.plain
  by_cases ht : ∃ w r, d = .lst (.lst w :: r) ∧ r.length + 1 ≤ 4
  · obtain ⟨w, r, rfl, hr⟩ := ht
    have pr := hd.lst.2
    have pw := (pr (.lst w) (by simp)).lst.1
    have h10 : (D.lst w :: r).length ≤ 10000 := by rw [List.length_cons]; omega
    walk_at "st"
    refine boolT false (fun Q' h' => ?_) ?_
    · walk_at "s1"
      refine ifB (fun c => ?_) (fun c => ?_)
      · have c : (4 : Int) < (((D.lst w :: r).length : Nat) : Int) := of_decide_eq_true c
        rw [List.length_cons] at c; omega
      · walk_at "s1"
        exact h'
    walk_at "s1"
    have eb : isBookD (.lst (.lst w :: r)) = (decide (1 ≤ (w.length : Int)) && (decide ((w.length : Int) ≤ 12) && (D.lst w :: r).all fun x => areWorthsD x w.length)) := by
      show (decide (r.length + 1 ≤ 4) && (decide (1 ≤ w.length) && (decide (w.length ≤ 12) && _))) = _
      rw [decide_eq_true hr, Bool.true_and, show decide (1 ≤ w.length) = decide (1 ≤ (w.length : Int)) by rw [decide_eq_decide]; omega, show decide (w.length ≤ 12) = decide ((w.length : Int) ≤ 12) by rw [decide_eq_decide]; omega]
    refine boolS (isBookD (.lst (.lst w :: r))) (fun Q' h' => ?_) (by walk_at "s1"; exact h)
    rw [eb] at h'
    walk_at "s1"
    refine ifB (fun c => ?_) (fun c => ?_)
    · have c : 1 ≤ (w.length : Int) := of_decide_eq_true c
      rw [decide_eq_true c, Bool.true_and] at h'
      walk_at "s1"
      refine ifB (fun c => ?_) (fun c => ?_)
      · have c : (w.length : Int) ≤ 12 := of_decide_eq_true c
        rw [decide_eq_true c, Bool.true_and] at h'
        walk_at "s1"
        refine ⟨(pr (.lst w) (by simp)).mono (by decide), stM_r ?_⟩
        have er : r = r.map id := (List.map_id r).symm
        rw [show compL none (D.lst w :: r) (tgName 2) tYesD _ [2] r = compL none (D.lst w :: r) (tgName 2) tYesD _ [2] (r.map id) from congrArg _ er]
        refine compL_mapA id (fun d => .bl (areWorthsD d w.length)) r _ (fun i hi => by cases hi) (fun x hx C hC => ?_) ?_
        · have hx := (pr x (List.mem_cons_of_mem _ hx)).mono (show _ ≤ 8 by decide)
          have nx := hx.noOwn
          walk_at "s1"
          exact hC
        · refine getO_eq (show asBls ((D.lst w :: r).map fun d => D.bl (areWorthsD d w.length)) = some ((D.lst w :: r).map fun d => areWorthsD d w.length) by rw [← asBls_map, List.map_map]; rfl) ?_
          have e2 : ((D.lst w :: r).map fun d => areWorthsD d w.length).all id = (D.lst w :: r).all fun d => areWorthsD d w.length := by rw [List.all_map]; rfl
          rw [← e2] at h'
          walk_at "s1"
          exact h'
      · have c : ¬ (w.length : Int) ≤ 12 := of_decide_eq_false c
        rw [decide_eq_false c, Bool.false_and] at h'
        walk_at "s1"
        exact h'
    · have c : ¬ 1 ≤ (w.length : Int) := of_decide_eq_false c
      rw [decide_eq_false c, Bool.false_and] at h'
      walk_at "s1"
      exact h'
  · have e : isBookD d = false := by
      unfold isBookD
      split
      · rename_i w r
        have : ¬ r.length + 1 ≤ 4 := fun z => ht ⟨w, r, rfl, z⟩
        rw [decide_eq_false this]; rfl
      · rfl
    rw [e] at h
    walk_at "st"
    refine boolT true (fun Q' h' => ?_) (by walk_at "s1"; exact h)
    cases d <;> first | (cases pl; done) | (cases no; done) | (walk_at "s1"; exact h'; done) | skip
    rename_i l
    cases l with
    | nil => walk_at "s1"; exact h'
    | cons x r =>
      have hx := hd.lst.2 x (by simp)
      have nx := hx.noOwn
      have px := hx.plain
      walk_at "s1"
      refine ifB (fun c => ?_) (fun c => ?_)
      · walk_at "s1"
        exact h'
      · have c : ¬ (4 : Int) < (((x :: r).length : Nat) : Int) := of_decide_eq_false c
        rw [List.length_cons] at c
        have hs : isTy .list x = false := by
          cases x <;> first | rfl | exact absurd ⟨_, r, rfl, by omega⟩ ht | (cases nx; done) | (cases px; done)
        walk_at "s1"
        rw [hs]
        exact h'

theorem dv_is_book {P : Program} {w : World} {K : PySem.W.Frag} {mg : Str → Option Value} {base : Heap} {cl : Nat → Addr} (B : Bl mg) (Er : Er K mg nms cl) (C_LISTS_AT_MOST : CnD K mg "LISTS_AT_MOST" v_LISTS_AT_MOST) (C_THINGS_AT_MOST : CnD K mg "THINGS_AT_MOST" v_THINGS_AT_MOST)  (G_are_worths : Cal P w K mg base 4 2 "are_worths" (T_are_worths cl)) (f : Addr) (cdv : Value) (A : Around) (outer : List Env) (s : Shared) (H : Hp) (E : XK) (hrG : RmG 4 (A.deeper (envOfC "is_book" (defScope s_is_book) s.heap.objs.size f cdv))) :
    PSs (cxOf (L2.CX P w) P w K mg base ["thing", "many", "worths"] "is_book" (defScope s_is_book) f cdv A outer s H E) (defBody s_is_book) (liftS K (fun cls d _ H => E cls d H) (r_is_book cl)) := by
  have nd := sc_is_book.nd
  have hr := hrG.rm
  exact (s_cons (s_if (t_bool (PW.pt (t_or (t_not (t_val (d_isi .list B.isinstance B.list (by decide +kernel) (d_look (pv 0))))) (t_or (t_lt (d_len B.len (d_look (pv 0))) (d_int)) (t_or (t_gt (d_len B.len (d_look (pv 0))) (d_cn C_LISTS_AT_MOST)) (t_or1 (t_not (t_val (d_isi .list B.isinstance B.list (by decide +kernel) (d_eb (d_ixS (pv 0) (d_int)))))))))))) (s_one (s_ret (d_bl))) (s_nil))
      (s_cons (s_set (i := 1) nd (d_len B.len (d_eb (d_ixS (pv 0) (d_int)))) rfl (.inr rfl))
      (s_one (s_ret ((d_bool (d_and (d_ge (d_var (pv 1)) (d_int)) (d_and (d_le (d_var (pv 1)) (d_cn C_THINGS_AT_MOST)) (d_one (d_all rfl B.all (d_eb (d_comp (own := [("worths", 2)]) (g := gName 2) rfl nd (i_slot (pv 0)) (show blkC ["thing", "many", "worths"] (defScope s_is_book) _ _ = true by decide +kernel) rfl (fun hk => tg_name) (fun _ _ _ _ _ => pg_name (i := 2) nd rfl (.inl rfl)) (fun _ _ _ _ _ => ts_nil) (fun _ _ _ _ _ => (d_cl G_are_worths takes0 hrG (c_ex (d_var (pv 2)) (c_ex (d_var (pv 1)) c_nil))))))))))))))))
theorem ok_is_book {P : Program} {w : World} {K : PySem.W.Frag} {mg : Str → Option Value} {base : Heap} {cl : Nat → Addr} (B : Bl mg) (Er : Er K mg nms cl) (D : DefAt K mg "is_book" s_is_book ["thing"]) (C_LISTS_AT_MOST : CnD K mg "LISTS_AT_MOST" v_LISTS_AT_MOST) (C_THINGS_AT_MOST : CnD K mg "THINGS_AT_MOST" v_THINGS_AT_MOST)  (G_are_worths : Cal P w K mg base 4 2 "are_worths" (T_are_worths cl)) : Cal P w K mg base 5 1 "is_book" (T_is_book cl) :=
  cal_ok (m := 2) D sc_is_book rfl rfl (fun f cdv A outer s H E hr => dv_is_book B Er C_LISTS_AT_MOST C_THINGS_AT_MOST G_are_worths f cdv A outer s H E hr) (law_is_book)
/-! look_at_book -/
abbrev s_look_at_book : Stmt := top 26
theorem sc_look_at_book : FnScope ["book"] ["book"] (defScope s_look_at_book) := ⟨rfl, rfl, rfl, by decide +kernel, rfl, by decide +kernel, by decide +kernel⟩
def T_look_at_book (cl : Nat → Addr) : Spec := fun as Q E => ∃ (d : D), as = [.va d] ∧ PD 8 d ∧ (isBookD d = false → E (cl 2) []) ∧ (isBookD d = true → Q .non [])

def r_look_at_book (cl : Nat → Addr) : DS :=
    (sIf (dNot (dT (dCall 1 (T_is_book cl) (cEx (dVar 0) cNil)))) (sRaise (cl 2)) (sNext))
-- LAW
theorem law_look_at_book {cl : Nat → Addr} : ∀ as Q E, T_look_at_book cl as Q E → r_look_at_book cl (endsOf Q E) (as ++ List.replicate 0 .un) := by
  rintro as Q E ⟨d, rfl, hd, h0, h1⟩
  unfold r_look_at_book
  have no := hd.noOwn
  walk_at "st"
  refine ifB (fun c => ?_) (fun c => ?_)
  · walk_at "s1"
    exact h0 (by simpa using c)
  · walk_at "s1"
    exact h1 (by simpa using c)

theorem dv_look_at_book {P : Program} {w : World} {K : PySem.W.Frag} {mg : Str → Option Value} {base : Heap} {cl : Nat → Addr} (B : Bl mg) (Er : Er K mg nms cl)   (G_is_book : Cal P w K mg base 5 1 "is_book" (T_is_book cl)) (f : Addr) (cdv : Value) (A : Around) (outer : List Env) (s : Shared) (H : Hp) (E : XK) (hrG : RmG 5 (A.deeper (envOfC "look_at_book" (defScope s_look_at_book) s.heap.objs.size f cdv))) :
    PSs (cxOf (L2.CX P w) P w K mg base ["book"] "look_at_book" (defScope s_look_at_book) f cdv A outer s H E) (defBody s_look_at_book) (liftS K (fun cls d _ H => E cls d H) (r_look_at_book cl)) := by
  have nd := sc_look_at_book.nd
  have hr := hrG.rm
  exact (s_one (s_if (t_not (t_val (d_cl G_is_book tk_fn hrG (c_ex (d_var (pv 0)) c_nil)))) (s_one (s_raiseJ Er 2 tk_fn rfl)) (s_nil)))
theorem ok_look_at_book {P : Program} {w : World} {K : PySem.W.Frag} {mg : Str → Option Value} {base : Heap} {cl : Nat → Addr} (B : Bl mg) (Er : Er K mg nms cl) (D : DefAt K mg "look_at_book" s_look_at_book ["book"])   (G_is_book : Cal P w K mg base 5 1 "is_book" (T_is_book cl)) : Cal P w K mg base 6 1 "look_at_book" (T_look_at_book cl) :=
  cal_ok (m := 0) D sc_look_at_book rfl rfl (fun f cdv A outer s H E hr => dv_look_at_book B Er G_is_book f cdv A outer s H E hr) (law_look_at_book)
/-! is_weight -/
abbrev s_is_weight : Stmt := top 29
theorem sc_is_weight : FnScope ["thing"] ["thing"] (defScope s_is_weight) := ⟨rfl, rfl, rfl, by decide +kernel, rfl, by decide +kernel, by decide +kernel⟩
def T_is_weight (cl : Nat → Addr) : Spec := fun as Q _ => ∃ d : D, as = [.va d] ∧ PD 8 d ∧ Q (.bl (isWeightD d)) []

def r_is_weight (cl : Nat → Addr) : DS :=
    (sRet ((dBool (dAndV (dCall 1 (T_is_fraction cl) (cEx (dVar 0) cNil)) (dGe (dIxS 0 (dC (.int 0))) (dC (.int 0)))))))
-- LAW
theorem law_is_weight {cl : Nat → Addr} : ∀ as Q E, T_is_weight cl as Q E → r_is_weight cl (endsOf Q E) (as ++ List.replicate 0 .un) := by
  rintro as Q E ⟨d, rfl, hd, h⟩
  unfold r_is_weight
  have no := hd.noOwn
  walk_at "st"
  refine boolS (isWeightD d) (fun Q' h' => ?_) (by walk_at "s1"; exact h)
  walk_at "s1"
  refine ifB (fun c => ?_) (fun c => ?_)
  · obtain ⟨q, rfl⟩ := isFracD_iff.mp c
    walk_at "s1"
    have e : isWeightD (qD q) = decide (0 ≤ q.num) := by
      show (isFracD (qD q) && _) = _
      rw [isFracD_qD, Bool.true_and]
    rw [e] at h'
    exact h'
  · walk_at "s1"
    have e : isWeightD d = false := by
      cases hb : isWeightD d with
      | false => rfl
      | true => obtain ⟨q, rfl, _⟩ := isWeightD_iff.mp hb; rw [isFracD_qD] at c; cases c
    rw [e] at h'
    exact h'

theorem dv_is_weight {P : Program} {w : World} {K : PySem.W.Frag} {mg : Str → Option Value} {base : Heap} {cl : Nat → Addr} (B : Bl mg) (Er : Er K mg nms cl)   (G_is_fraction : Cal P w K mg base 2 1 "is_fraction" (T_is_fraction cl)) (f : Addr) (cdv : Value) (A : Around) (outer : List Env) (s : Shared) (H : Hp) (E : XK) (hrG : RmG 2 (A.deeper (envOfC "is_weight" (defScope s_is_weight) s.heap.objs.size f cdv))) :
    PSs (cxOf (L2.CX P w) P w K mg base ["thing"] "is_weight" (defScope s_is_weight) f cdv A outer s H E) (defBody s_is_weight) (liftS K (fun cls d _ H => E cls d H) (r_is_weight cl)) := by
  have nd := sc_is_weight.nd
  have hr := hrG.rm
  exact (s_one (s_ret ((d_bool (d_and (d_cl G_is_fraction tk_fn hrG (c_ex (d_var (pv 0)) c_nil)) (d_one (d_ge (d_ixS (pv 0) (d_int)) (d_int))))))))
theorem ok_is_weight {P : Program} {w : World} {K : PySem.W.Frag} {mg : Str → Option Value} {base : Heap} {cl : Nat → Addr} (B : Bl mg) (Er : Er K mg nms cl) (D : DefAt K mg "is_weight" s_is_weight ["thing"])   (G_is_fraction : Cal P w K mg base 2 1 "is_fraction" (T_is_fraction cl)) : Cal P w K mg base 3 1 "is_weight" (T_is_weight cl) :=
  cal_ok (m := 0) D sc_is_weight rfl rfl (fun f cdv A outer s H E hr => dv_is_weight B Er G_is_fraction f cdv A outer s H E hr) (law_is_weight)
/-! is_rule -/
abbrev s_is_rule : Stmt := top 30
theorem sc_is_rule : FnScope ["thing", "many", "weight"] ["thing", "many"] (defScope s_is_rule) := ⟨rfl, rfl, rfl, by decide +kernel, rfl, by decide +kernel, by decide +kernel⟩
def T_is_rule (cl : Nat → Addr) : Spec := fun as Q _ => ∃ (d : D) (n : Int), as = [.va d, .va (.int n)] ∧ PD 8 d ∧ Q (.bl (isRuleD d n)) []

def r_is_rule (cl : Nat → Addr) : DS :=
    (sSeq (sIf (tBool (dOr (dNot (dT (dIsi .tuple (dLook 0)))) (dOr (dT (dEq (dCal1 gLen (dLook 0)) (dC (.int 0)))) (dNot (dT (dIsi .str (dIxS 0 (dC (.int 0))))))))) (sRet (dC (.bl false))) (sNext))
    (sSeq (sIf (tBool (dAnd (dT (dEq (dIxS 0 (dC (.int 0))) (dC (.str "shares")))) (dAnd (dT (dEq (dCal1 gLen (dLook 0)) (dC (.int 2)))) (dT (dIsi .list (dIxS 0 (dC (.int 1)))))))) (sRet ((dBool (dAndV (dEq (dCal1 gLen (dIxS 0 (dC (.int 1)))) (dVar 1)) (dCal1 gAll (dComp (itL (dIxS 0 (dC (.int 1)))) (tgName 2) tYesD (dCall 1 (T_is_weight cl) (cEx (dVar 2) cNil)) [2])))))) (sNext))
    (sSeq (sIf (tBool (dAnd (dT (dEq (dIxS 0 (dC (.int 0))) (dC (.str "middle")))) (dAnd (dT (dEq (dCal1 gLen (dLook 0)) (dC (.int 2)))) (dT (dCall 1 (T_is_whole cl) (cEx (dIxS 0 (dC (.int 1))) cNil)))))) (sRet ((dBool (dAndV (dGt (dIxS 0 (dC (.int 1))) (dC (.int 0))) (dLe (dIxS 0 (dC (.int 1))) (dVar 1)))))) (sNext))
    (sRet ((dBool (dAndV (dEq (dCal1 gLen (dLook 0)) (dC (.int 1))) (dIn (dVar 0) (dC v_ALONE)))))))))
-- LAW
theorem law_is_rule {cl : Nat → Addr} : ∀ as Q E, T_is_rule cl as Q E → r_is_rule cl (endsOf Q E) (as ++ List.replicate 1 .un) := by
  rintro as Q E ⟨d, n, rfl, hd, h⟩
  unfold r_is_rule
  have no := hd.noOwn
  have pl := hd.plain
  by_cases ht : ∃ x r, d = .tup (.str x :: r)
  · obtain ⟨x, r, rfl⟩ := ht
    have hx := hd.tup.2 (.str x) (by simp)
    have q1 : eqOk (.str x) (.str "shares") := ⟨hx.okD.mono (by decide), okB_ok _ 8 (by decide +kernel)⟩
    have q2 : eqOk (.str x) (.str "middle") := ⟨hx.okD.mono (by decide), okB_ok _ 8 (by decide +kernel)⟩
    have q3 : eqOk (.tup (.str x :: r)) v_ALONE := ⟨hd.okD, okB_ok _ 8 (by decide +kernel)⟩
    walk_at "st"
    refine boolT false (fun Q' h' => ?_) ?_
    · walk_at "s1"
      exact h'
    walk_at "s1"
    rcases r with _ | ⟨y, _ | ⟨z, r⟩⟩
    · refine boolT false (fun Q' h' => ?_) ?_
      · walk_at "s1"
        refine ifB (fun c => ?_) (fun c => ?_) <;> walk_at "s1" <;> exact h'
      walk_at "s1"
      refine boolT false (fun Q' h' => ?_) ?_
      · walk_at "s1"
        refine ifB (fun c => ?_) (fun c => ?_) <;> walk_at "s1" <;> exact h'
      walk_at "s1"
      refine boolS (isRuleD (.tup [.str x]) n) (fun Q' h' => ?_) (by walk_at "s1"; exact h)
      walk_at "s1"
      have e : inD (.tup [.str x]) [.tup [.str "least"], .tup [.str "greatest"], .tup [.str "product"]] = isRuleD (.tup [.str x]) n := by
        unfold isRuleD inD
        simp only [List.any_cons, List.any_nil, eqv_tup, eqvs_cons, eqv_str, eqvs_nil, Bool.and_true, Bool.or_false]
        by_cases h1 : x = "least"
        · subst h1; decide +kernel
        · by_cases h2 : x = "greatest"
          · subst h2; decide +kernel
          · by_cases h3 : x = "product"
            · subst h3; decide +kernel
            · rw [decide_eq_false h1, decide_eq_false h2, decide_eq_false h3, beq_eq_false_iff_ne.mpr (Ne.symm h1), beq_eq_false_iff_ne.mpr (Ne.symm h2), beq_eq_false_iff_ne.mpr (Ne.symm h3)]
      rw [← e] at h'
      exact h'
    · have hy := hd.tup.2 y (by simp)
      have ny := hy.noOwn
      have py := hy.plain
      by_cases hs : x = "shares" ∧ isTy .list y = true
      · obtain ⟨rfl, hl⟩ := hs
        obtain ⟨l, rfl⟩ : ∃ l, y = .lst l := by cases y <;> first | exact ⟨_, rfl⟩ | (cases hl; done) | (cases py; done) | (cases ny; done)
        refine boolT true (fun Q' h' => ?_) ?_
        · walk_at "s1"
          exact h'
        walk_at "s1"
        refine boolS (isRuleD (.tup [.str "shares", .lst l]) n) (fun Q' h' => ?_) (by walk_at "s1"; exact h)
        have e : isRuleD (.tup [.str "shares", .lst l]) n = (decide ((l.length : Int) = n) && l.all isWeightD) := by unfold isRuleD; simp
        rw [e] at h'
        have h10 : l.length ≤ 10000 := by have := hy.lst.1; omega
        walk_at "s1"
        refine ifB (fun c => ?_) (fun c => ?_)
        · rw [eqv_int] at c
          have c : (l.length : Int) = n := by simpa using c
          rw [decide_eq_true c, Bool.true_and] at h'
          walk_at "s1"
          rw [← List.map_id l]
          refine compL_map id (fun d => .bl (isWeightD d)) l (fun i hi => by cases hi) (fun x hx C hC => ?_) ?_
          · have hx := (hy.lst.2 x hx).mono (show _ ≤ 8 by decide)
            have nx := hx.noOwn
            walk_at "s1"
            exact hC
          · show getO (asBls (l.map fun d => D.bl (isWeightD d))) _
            rw [show (l.map fun d => D.bl (isWeightD d)) = (l.map isWeightD).map D.bl by simp, asBls_map]
            walk_at "s1"
            have e2 : (l.map isWeightD).all id = l.all isWeightD := by rw [List.all_map]; rfl
            rw [← e2] at h'
            rw [List.map_id]
            exact h'
        · rw [eqv_int] at c
          have c : ¬ (l.length : Int) = n := by simpa using c
          rw [decide_eq_false c, Bool.false_and] at h'
          walk_at "s1"
          exact h'
      · refine boolT false (fun Q' h' => ?_) ?_
        · walk_at "s1"
          refine ifB (fun c => ?_) (fun c => ?_)
          · rw [eqv_str] at c
            have c : x = "shares" := by simpa using c
            subst c
            have : isTy .list y = false := by simpa using hs
            walk_at "s1"
            rw [this]
            exact h'
          · walk_at "s1"
            exact h'
        walk_at "s1"
        by_cases hm : x = "middle" ∧ isIntD y = true
        · obtain ⟨rfl, hi⟩ := hm
          obtain ⟨k, rfl⟩ := isIntD_iff.mp hi
          refine boolT true (fun Q' h' => ?_) ?_
          · walk_at "s1"
            exact h'
          walk_at "s1"
          refine boolS (isRuleD (.tup [.str "middle", .int k]) n) (fun Q' h' => ?_) (by walk_at "s1"; exact h)
          have e : isRuleD (.tup [.str "middle", .int k]) n = (decide (0 < k) && decide (k ≤ n)) := by unfold isRuleD; simp
          rw [e] at h'
          walk_at "s1"
          refine ifB (fun c => ?_) (fun c => ?_)
          · have c : 0 < k := of_decide_eq_true c
            rw [decide_eq_true c, Bool.true_and] at h'
            walk_at "s1"
            exact h'
          · have c : ¬ 0 < k := of_decide_eq_false c
            rw [decide_eq_false c, Bool.false_and] at h'
            walk_at "s1"
            exact h'
        · refine boolT false (fun Q' h' => ?_) ?_
          · walk_at "s1"
            refine ifB (fun c => ?_) (fun c => ?_)
            · rw [eqv_str] at c
              have c : x = "middle" := by simpa using c
              subst c
              have : isIntD y = false := by simpa using hm
              walk_at "s1"
              rw [this]
              exact h'
            · walk_at "s1"
              exact h'
          walk_at "s1"
          have e : isRuleD (.tup [.str x, y]) n = false := by
            unfold isRuleD
            split
            · rename_i z; cases z
            · rename_i z
              cases z
              have : ¬ x = "shares" := fun z => hs ⟨z, rfl⟩
              simp [this]
            · rename_i z
              cases z
              have : ¬ x = "middle" := fun z => hm ⟨z, rfl⟩
              simp [this]
            · rfl
          rw [e] at h
          refine boolS false (fun Q' h' => ?_) (by walk_at "s1"; exact h)
          walk_at "s1"
          exact h'
    · have e : isRuleD (.tup (.str x :: y :: z :: r)) n = false := by
        unfold isRuleD
        split <;> first | rfl | (rename_i z; cases z)
      rw [e] at h
      have hl : ∀ k : Int, k < 3 → D.eqv (.int (((D.str x :: y :: z :: r).length : Nat) : Int)) (.int k) = false := by
        intro k hk
        rw [eqv_int]
        simp only [List.length_cons, beq_eq_false_iff_ne, ne_eq]
        omega
      have l2 := hl 2 (by decide)
      have l1 := hl 1 (by decide)
      refine boolT false (fun Q' h' => ?_) ?_
      · walk_at "s1"
        refine ifB (fun c => ?_) (fun c => ?_)
        · walk_at "s1"
          exact h'
        · walk_at "s1"
          exact h'
      walk_at "s1"
      refine boolT false (fun Q' h' => ?_) ?_
      · walk_at "s1"
        refine ifB (fun c => ?_) (fun c => ?_)
        · walk_at "s1"
          exact h'
        · walk_at "s1"
          exact h'
      walk_at "s1"
      refine boolS false (fun Q' h' => ?_) (by walk_at "s1"; exact h)
      walk_at "s1"
      exact h'
  · have e : isRuleD d n = false := by
      unfold isRuleD
      split <;> first | rfl | exact absurd ⟨_, _, rfl⟩ ht
    walk_at "st"
    refine boolT true (fun Q' h' => ?_) ?_
    · cases d <;> first | (cases pl; done) | skip
      all_goals
        walk_at "s1"
        first | exact h' | skip
      rename_i l
      cases l with
      | nil => walk_at "s1"; exact h'
      | cons y l =>
        have hy := hd.tup.2 y (by simp)
        have ny := hy.noOwn
        have py := hy.plain
        have hs : isTy .str y = false := by cases y <;> first | rfl | exact absurd ⟨_, _, rfl⟩ ht
        split
        · exact h'
        · walk_at "s1"
          rw [hs]
          exact h'
    · rw [e] at h
      walk_at "s1"
      exact h

theorem dv_is_rule {P : Program} {w : World} {K : PySem.W.Frag} {mg : Str → Option Value} {base : Heap} {cl : Nat → Addr} (B : Bl mg) (Er : Er K mg nms cl) (C_ALONE : CnD K mg "ALONE" v_ALONE)  (G_is_whole : Cal P w K mg base 1 1 "is_whole" (T_is_whole cl)) (G_is_weight : Cal P w K mg base 3 1 "is_weight" (T_is_weight cl)) (f : Addr) (cdv : Value) (A : Around) (outer : List Env) (s : Shared) (H : Hp) (E : XK) (hrG : RmG 3 (A.deeper (envOfC "is_rule" (defScope s_is_rule) s.heap.objs.size f cdv))) :
    PSs (cxOf (L2.CX P w) P w K mg base ["thing", "many", "weight"] "is_rule" (defScope s_is_rule) f cdv A outer s H E) (defBody s_is_rule) (liftS K (fun cls d _ H => E cls d H) (r_is_rule cl)) := by
  have nd := sc_is_rule.nd
  have hr := hrG.rm
  exact (s_cons (s_if (t_bool (PW.pt (t_or (t_not (t_val (d_isi .tuple B.isinstance B.tuple (by decide +kernel) (d_look (pv 0))))) (t_or (t_eq hr (d_len B.len (d_look (pv 0))) (d_int)) (t_or1 (t_not (t_val (d_isi .str B.isinstance B.str (by decide +kernel) (d_eb (d_ixS (pv 0) (d_int))))))))))) (s_one (s_ret (d_bl))) (s_nil))
      (s_cons (s_if (t_bool (PW.pt (t_and (t_eq hr (d_ixS (pv 0) (d_int)) (d_str)) (t_and (t_eq hr (d_len B.len (d_look (pv 0))) (d_int)) (t_and1 (t_val (d_isi .list B.isinstance B.list (by decide +kernel) (d_eb (d_ixS (pv 0) (d_int)))))))))) (s_one (s_ret ((d_bool (d_and (d_eq hr (d_len B.len (d_eb (d_ixS (pv 0) (d_int)))) (d_var (pv 1))) (d_one (d_all rfl B.all (d_eb (d_comp (own := [("weight", 2)]) (g := gName 2) rfl nd (i_lst (d_ixS (pv 0) (d_int))) (show blkC ["thing", "many", "weight"] (defScope s_is_rule) _ _ = true by decide +kernel) rfl (fun hk => tg_name) (fun _ _ _ _ _ => pg_name (i := 2) nd rfl (.inl rfl)) (fun _ _ _ _ _ => ts_nil) (fun _ _ _ _ _ => (d_cl G_is_weight takes0 hrG (c_ex (d_var (pv 2)) c_nil)))))))))))) (s_nil))
      (s_cons (s_if (t_bool (PW.pt (t_and (t_eq hr (d_ixS (pv 0) (d_int)) (d_str)) (t_and (t_eq hr (d_len B.len (d_look (pv 0))) (d_int)) (t_and1 (t_val (d_cl G_is_whole tk_fn hrG (c_ex (d_ixS (pv 0) (d_int)) c_nil)))))))) (s_one (s_ret ((d_bool (d_and (d_gt (d_ixS (pv 0) (d_int)) (d_int)) (d_one (d_le (d_ixS (pv 0) (d_int)) (d_var (pv 1))))))))) (s_nil))
      (s_one (s_ret ((d_bool (d_and (d_eq hr (d_len B.len (d_look (pv 0))) (d_int)) (d_one (d_in hr (d_var (pv 0)) (d_cn C_ALONE)))))))))))
theorem ok_is_rule {P : Program} {w : World} {K : PySem.W.Frag} {mg : Str → Option Value} {base : Heap} {cl : Nat → Addr} (B : Bl mg) (Er : Er K mg nms cl) (D : DefAt K mg "is_rule" s_is_rule ["thing", "many"]) (C_ALONE : CnD K mg "ALONE" v_ALONE)  (G_is_whole : Cal P w K mg base 1 1 "is_whole" (T_is_whole cl)) (G_is_weight : Cal P w K mg base 3 1 "is_weight" (T_is_weight cl)) : Cal P w K mg base 4 2 "is_rule" (T_is_rule cl) :=
  cal_ok (m := 1) D sc_is_rule rfl rfl (fun f cdv A outer s H E hr => dv_is_rule B Er C_ALONE G_is_whole G_is_weight f cdv A outer s H E hr) (law_is_rule)
/-! look_at_rule -/
abbrev s_look_at_rule : Stmt := top 31
theorem sc_look_at_rule : FnScope ["rule", "many"] ["rule", "many"] (defScope s_look_at_rule) := ⟨rfl, rfl, rfl, by decide +kernel, rfl, by decide +kernel, by decide +kernel⟩
def T_look_at_rule (cl : Nat → Addr) : Spec := fun as Q E => ∃ (d : D) (n : Int), as = [.va d, .va (.int n)] ∧ PD 8 d ∧ (isRuleD d n = false → E (cl 4) []) ∧ (isRuleD d n = true → Q .non [])

def r_look_at_rule (cl : Nat → Addr) : DS :=
    (sIf (dNot (dT (dCall 2 (T_is_rule cl) (cEx (dVar 0) (cEx (dVar 1) cNil))))) (sRaise (cl 4)) (sNext))
-- LAW
theorem law_look_at_rule {cl : Nat → Addr} : ∀ as Q E, T_look_at_rule cl as Q E → r_look_at_rule cl (endsOf Q E) (as ++ List.replicate 0 .un) := by
  rintro as Q E ⟨d, n, rfl, hd, h0, h1⟩
  unfold r_look_at_rule
  have no := hd.noOwn
  walk_at "st"
  refine ifB (fun c => ?_) (fun c => ?_)
  · walk_at "s1"
    exact h0 (by simpa using c)
  · walk_at "s1"
    exact h1 (by simpa using c)

theorem dv_look_at_rule {P : Program} {w : World} {K : PySem.W.Frag} {mg : Str → Option Value} {base : Heap} {cl : Nat → Addr} (B : Bl mg) (Er : Er K mg nms cl)   (G_is_rule : Cal P w K mg base 4 2 "is_rule" (T_is_rule cl)) (f : Addr) (cdv : Value) (A : Around) (outer : List Env) (s : Shared) (H : Hp) (E : XK) (hrG : RmG 4 (A.deeper (envOfC "look_at_rule" (defScope s_look_at_rule) s.heap.objs.size f cdv))) :
    PSs (cxOf (L2.CX P w) P w K mg base ["rule", "many"] "look_at_rule" (defScope s_look_at_rule) f cdv A outer s H E) (defBody s_look_at_rule) (liftS K (fun cls d _ H => E cls d H) (r_look_at_rule cl)) := by
  have nd := sc_look_at_rule.nd
  have hr := hrG.rm
  exact (s_one (s_if (t_not (t_val (d_cl G_is_rule tk_fn hrG (c_ex (d_var (pv 0)) (c_ex (d_var (pv 1)) c_nil))))) (s_one (s_raiseJ Er 4 tk_fn rfl)) (s_nil)))
theorem ok_look_at_rule {P : Program} {w : World} {K : PySem.W.Frag} {mg : Str → Option Value} {base : Heap} {cl : Nat → Addr} (B : Bl mg) (Er : Er K mg nms cl) (D : DefAt K mg "look_at_rule" s_look_at_rule ["rule", "many"])   (G_is_rule : Cal P w K mg base 4 2 "is_rule" (T_is_rule cl)) : Cal P w K mg base 5 2 "look_at_rule" (T_look_at_rule cl) :=
  cal_ok (m := 0) D sc_look_at_rule rfl rfl (fun f cdv A outer s H E hr => dv_look_at_rule B Er G_is_rule f cdv A outer s H E hr) (law_look_at_rule)
/-! shown_fraction -/
abbrev s_shown_fraction : Stmt := top 33
theorem sc_shown_fraction : FnScope ["some", "top", "bottom"] ["some"] (defScope s_shown_fraction) := ⟨rfl, rfl, rfl, by decide +kernel, rfl, by decide +kernel, by decide +kernel⟩
def T_shown_fraction (cl : Nat → Addr) : Spec := fun as Q _ => ∃ q : Rat, as = [.va (qD q)] ∧ 0 ≤ q ∧ Qz 850 q ∧ Q (.str (fracS q)) []

def r_shown_fraction (cl : Nat → Addr) : DS :=
    (sSeq (sUnp [1, 2] (dVar 0))
    (sSeq (sIf (dT (dEq (dVar 2) (dC (.int 1)))) (sRet (dCal1 gStr (dLook 1))) (sNext))
    (sRet (dBin gCatS (dBin gCatS (dCal1 gStr (dLook 1)) (dC (.str "/"))) (dCal1 gStr (dLook 2))))))
-- LAW
theorem law_shown_fraction {cl : Nat → Addr} : ∀ as Q E, T_shown_fraction cl as Q E → r_shown_fraction cl (endsOf Q E) (as ++ List.replicate 2 .un) := by
  rintro as Q E ⟨q, rfl, q0, hz, h⟩
  unfold r_shown_fraction
  obtain ⟨s1, s2⟩ := shok_num hz
  obtain ⟨l1, l2⟩ := num_lt hz
  have n1 := iT_len (by decide) l1
  have n2 := iT_len (by decide) l2
  have e1 := strT_num q0
  have e2 := strT_nat q.den
  have ls : ("/" : Str).length = 1 := rfl
  have c1 : catOk (iT q.num.toNat) "/" := by unfold catOk; omega
  have c2 : catOk (iT q.num.toNat ++ "/") (iT q.den) := by
    unfold catOk
    have : (iT q.num.toNat ++ "/").length = (iT q.num.toNat).length + 1 := by rw [len_tl, tl_cat, List.length_append, ← len_tl]; rfl
    omega
  unfold fracS at h
  walk_at "st"
  rw [show D.eqv (.int (q.den : Int)) (.int 1) = decide (q.den = 1) by rw [eqv_int, Bool.eq_iff_iff, beq_iff_eq, decide_eq_true_iff]; omega]
  refine ifB (fun g => ?_) (fun g => ?_)
  · rw [if_pos (of_decide_eq_true g)] at h
    walk_at "s1"
    rw [e1]
    exact h
  · rw [if_neg (of_decide_eq_false g)] at h
    walk_at "s1"
    rw [e1]
    refine ⟨c1, ?_⟩
    walk_at "s1"
    rw [e2]
    walk_at "s1"
    exact h

theorem dv_shown_fraction {P : Program} {w : World} {K : PySem.W.Frag} {mg : Str → Option Value} {base : Heap} {cl : Nat → Addr} (B : Bl mg) (Er : Er K mg nms cl)    (f : Addr) (cdv : Value) (A : Around) (outer : List Env) (s : Shared) (H : Hp) (E : XK) (hrG : RmG 0 (A.deeper (envOfC "shown_fraction" (defScope s_shown_fraction) s.heap.objs.size f cdv))) :
    PSs (cxOf (L2.CX P w) P w K mg base ["some", "top", "bottom"] "shown_fraction" (defScope s_shown_fraction) f cdv A outer s H E) (defBody s_shown_fraction) (liftS K (fun cls d _ H => E cls d H) (r_shown_fraction cl)) := by
  have nd := sc_shown_fraction.nd
  have hr := hrG.rm
  exact (s_cons (s_unp (is := [1, 2]) (.cons (.cons .nil)) rfl (d_var (pv 0)) (pgs_cons (pg_name (i := 1) nd rfl (.inl rfl)) (pgs_cons (pg_name (i := 2) nd rfl (.inl rfl)) pgs_nil)) rfl)
      (s_cons (s_if (t_eq hr (d_var (pv 2)) (d_int)) (s_one (s_ret (d_strD hrG B.str (d_look (pv 1))))) (s_nil))
      (s_one (s_ret (d_catS (d_catS (d_strD hrG B.str (d_look (pv 1))) (d_str)) (d_strD hrG B.str (d_look (pv 2))))))))
theorem ok_shown_fraction {P : Program} {w : World} {K : PySem.W.Frag} {mg : Str → Option Value} {base : Heap} {cl : Nat → Addr} (B : Bl mg) (Er : Er K mg nms cl) (D : DefAt K mg "shown_fraction" s_shown_fraction ["some"])    : Cal P w K mg base 1 1 "shown_fraction" (T_shown_fraction cl) :=
  cal_ok (m := 2) D sc_shown_fraction rfl rfl (fun f cdv A outer s H E hr => dv_shown_fraction B Er  f cdv A outer s H E hr) (law_shown_fraction)
/-! shown_book -/
abbrev s_shown_book : Stmt := top 34
theorem sc_shown_book : FnScope ["book", "worths", "worth"] ["book"] (defScope s_shown_book) := ⟨rfl, rfl, rfl, by decide +kernel, rfl, by decide +kernel, by decide +kernel⟩
def T_shown_book (cl : Nat → Addr) : Spec := fun as Q E => ∃ (d : D), as = [.va d] ∧ PD 8 d ∧ (isBookD d = false → E (cl 2) []) ∧ ∀ b m, d = bkL b → Bk b m → BkZ 850 b ∧ Q (.str (bookS b)) []

def r_shown_book (cl : Nat → Addr) : DS :=
    (sSeq (sExpr (dCall 1 (T_look_at_book cl) (cEx (dVar 0) cNil)))
    (sRet (dJoin (dC (.str "\n")) (dComp (itS 0) (tgName 1) tYesD (dJoin (dC (.str " ")) (dComp (itS 1) (tgName 2) tYesD (dCall 1 (T_shown_fraction cl) (cEx (dVar 2) cNil)) [2])) [1]))))
-- LAW
theorem law_shown_book {cl : Nat → Addr} : ∀ as Q E, T_shown_book cl as Q E → r_shown_book cl (endsOf Q E) (as ++ List.replicate 2 .un) := by
  rintro as Q E ⟨d, rfl, pd, h0, h1⟩
  unfold r_shown_book
  have nd := pd.noOwn
  walk_at "st"
  refine ⟨fun z => ?_, fun z => ?_⟩
  · walk_at "s1"
    exact h0 z
  obtain ⟨b, m, rfl, hb⟩ := isBookD_iff.mp z
  obtain ⟨hz, h⟩ := h1 b m rfl hb
  have m12 := hb.m12
  have b4 := hb.l4
  have b10 : (b.map qL).length ≤ 10000 := by rw [List.length_map]; omega
  walk_at "s1"
  refine compL_map qL (fun r => D.str (rowS r)) b (fun i hi => by cases hi) (fun r hr K hK => ?_) ?_
  · have lr := hb.len r hr
    have hrz := hz r hr
    have hw := hb.wts r hr
    have l10 : (r.map qD).length ≤ 10000 := by rw [List.length_map]; omega
    walk_at "s1"
    refine compL_map qD (fun q => D.str (fracS q)) r (fun i hi => by cases hi) (fun q hq K2 hK2 => ?_) ?_
    · have q0 := (hw q hq).1
      have qz := hrz q hq
      walk_at "s1"
      exact hK2
    have ea : asStrs (r.map fun q => D.str (fracS q)) = some (r.map fracS) := by rw [show (r.map fun q => D.str (fracS q)) = (r.map fracS).map D.str by rw [List.map_map]; rfl]; exact asStrs_map _
    have jo : joinOk " " (r.map fracS) := joinOk_le 513 (by rw [List.length_map]; omega) (by decide) fun p hp => by obtain ⟨q, hq, rfl⟩ := List.mem_map.mp hp; exact fracS_len (hrz q hq)
    walk_at "s1"
    refine getO_eq ea ?_
    walk_at "s1"
    exact hK
  have ea : asStrs (b.map fun q => D.str (rowS q)) = some (b.map rowS) := by rw [show (b.map fun q => D.str (rowS q)) = (b.map rowS).map D.str by rw [List.map_map]; rfl]; exact asStrs_map _
  have jo : joinOk "\n" (b.map rowS) := joinOk_le 10000 (by rw [List.length_map]; omega) (by decide) fun p hp => by obtain ⟨r, hr, rfl⟩ := List.mem_map.mp hp; exact rowS_len (by rw [hb.len r hr]; exact m12) (hz r hr)
  walk_at "s1"
  refine getO_eq ea ?_
  walk_at "s1"
  exact h

theorem dv_shown_book {P : Program} {w : World} {K : PySem.W.Frag} {mg : Str → Option Value} {base : Heap} {cl : Nat → Addr} (B : Bl mg) (Er : Er K mg nms cl)   (G_look_at_book : Cal P w K mg base 6 1 "look_at_book" (T_look_at_book cl)) (G_shown_fraction : Cal P w K mg base 1 1 "shown_fraction" (T_shown_fraction cl)) (f : Addr) (cdv : Value) (A : Around) (outer : List Env) (s : Shared) (H : Hp) (E : XK) (hrG : RmG 6 (A.deeper (envOfC "shown_book" (defScope s_shown_book) s.heap.objs.size f cdv))) :
    PSs (cxOf (L2.CX P w) P w K mg base ["book", "worths", "worth"] "shown_book" (defScope s_shown_book) f cdv A outer s H E) (defBody s_shown_book) (liftS K (fun cls d _ H => E cls d H) (r_shown_book cl)) := by
  have nd := sc_shown_book.nd
  have hr := hrG.rm
  exact (s_cons (s_expr (d_cl G_look_at_book tk_fn hrG (c_ex (d_var (pv 0)) c_nil)))
      (s_one (s_ret (d_join (d_str) (d_comp (own := [("worths", 1)]) (g := gName 1) rfl nd (i_slot (pv 0)) (show blkC ["book", "worths", "worth"] (defScope s_shown_book) _ _ = true by decide +kernel) rfl (fun hk => tg_name) (fun _ _ _ _ _ => pg_name (i := 1) nd rfl (.inl rfl)) (fun _ _ _ _ _ => ts_nil) (fun _ _ _ _ _ => (d_join (d_str) (d_comp (own := [("worth", 2)]) (g := gName 2) rfl nd (i_slot (pv 1)) (by rfl) rfl (fun hk => tg_name) (fun _ _ _ _ _ => pg_name (i := 2) nd rfl (.inl rfl)) (fun _ _ _ _ _ => ts_nil) (fun _ _ _ _ _ => (d_cl G_shown_fraction takes0 hrG (c_ex (d_var (pv 2)) c_nil)))))))))))
theorem ok_shown_book {P : Program} {w : World} {K : PySem.W.Frag} {mg : Str → Option Value} {base : Heap} {cl : Nat → Addr} (B : Bl mg) (Er : Er K mg nms cl) (D : DefAt K mg "shown_book" s_shown_book ["book"])   (G_look_at_book : Cal P w K mg base 6 1 "look_at_book" (T_look_at_book cl)) (G_shown_fraction : Cal P w K mg base 1 1 "shown_fraction" (T_shown_fraction cl)) : Cal P w K mg base 7 1 "shown_book" (T_shown_book cl) :=
  cal_ok (m := 2) D sc_shown_book rfl rfl (fun f cdv A outer s H E hr => dv_shown_book B Er G_look_at_book G_shown_fraction f cdv A outer s H E hr) (law_shown_book)
/-! shown_rule -/
abbrev s_shown_rule : Stmt := top 35
theorem sc_shown_rule : FnScope ["rule", "many", "weight"] ["rule", "many"] (defScope s_shown_rule) := ⟨rfl, rfl, rfl, by decide +kernel, rfl, by decide +kernel, by decide +kernel⟩
def T_shown_rule (cl : Nat → Addr) : Spec := fun as Q E => ∃ (d : D) (n : Nat), as = [.va d, .va (.int (n : Int))] ∧ PD 8 d ∧ n ≤ 4 ∧ (isRuleD d (n : Int) = false → E (cl 4) []) ∧ ∀ r, d = ruD r → Ru r n → RuZ 850 r ∧ Q (.str (ruleS r)) []

def r_shown_rule (cl : Nat → Addr) : DS :=
    (sSeq (sExpr (dCall 2 (T_look_at_rule cl) (cEx (dVar 0) (cEx (dVar 1) cNil))))
    (sSeq (sIf (dT (dEq (dIxS 0 (dC (.int 0))) (dC (.str "shares")))) (sRet (dJoin (dC (.str " ")) (dCat (dLst (aCons (dC (.str "shares")) aNil)) (dComp (itL (dIxS 0 (dC (.int 1)))) (tgName 2) tYesD (dCall 1 (T_shown_fraction cl) (cEx (dVar 2) cNil)) [2])))) (sNext))
    (sSeq (sIf (dT (dEq (dIxS 0 (dC (.int 0))) (dC (.str "middle")))) (sRet (dBin gCatS (dC (.str "middle ")) (dCal1 gStr (dIxS 0 (dC (.int 1)))))) (sNext))
    (sRet (dIxS 0 (dC (.int 0)))))))
-- LAW
theorem law_shown_rule {cl : Nat → Addr} : ∀ as Q E, T_shown_rule cl as Q E → r_shown_rule cl (endsOf Q E) (as ++ List.replicate 1 .un) := by
  rintro as Q E ⟨d, n, rfl, pd, n4, h0, h1⟩
  unfold r_shown_rule
  have nd := pd.noOwn
  walk_at "st"
  refine ⟨fun z => ?_, fun z => ?_⟩
  · walk_at "s1"
    exact h0 z
  obtain ⟨r, rfl, hr⟩ := isRuleD_iff.mp z
  obtain ⟨hz, h⟩ := h1 r rfl hr
  cases r with
  | shares ws =>
    have lw : ws.length ≤ 4 := by rw [hr.1]; exact n4
    have l10 : (ws.map qD).length ≤ 10000 := by rw [List.length_map]; omega
    walk_at "s1"
    refine compL_map qD (fun q => D.str (fracS q)) ws (fun i hi => by cases hi) (fun q hq K2 hK2 => ?_) ?_
    · have q0 := hr.2 q hq
      have qz := hz q hq
      walk_at "s1"
      exact hK2
    have ns := noOwns_strs (("shares" : Str) :: ws.map fracS)
    have ea : asStrs ([.str "shares"] ++ ws.map fun q => D.str (fracS q)) = some (("shares" : Str) :: ws.map fracS) := by rw [show ([.str "shares"] ++ ws.map fun q => D.str (fracS q)) = (("shares" : Str) :: ws.map fracS).map D.str by rw [List.map_cons, List.map_map]; rfl]; exact asStrs_map _
    have jo : joinOk " " (("shares" : Str) :: ws.map fracS) := joinOk_le 513 (by rw [List.length_cons, List.length_map]; omega) (by decide) fun p hp => by
      rcases List.mem_cons.mp hp with rfl | hp
      · decide
      · obtain ⟨q, hq, rfl⟩ := List.mem_map.mp hp; exact fracS_len (hz q hq)
    walk_at "s1"
    refine ⟨noOwns_map _ (fun _ => rfl) _, by rw [List.length_map]; simp only [List.length_singleton]; omega, ?_⟩
    walk_at "s1"
    refine getO_eq ea ?_
    walk_at "s1"
    exact h
  | middle k =>
    have k4 : k ≤ 1000 := by have := hr.2; omega
    have sk := shok_nat k4
    have lk := iT_small k4
    have c1 : catOk "middle " (iT k) := by unfold catOk; have : ("middle " : Str).length = 7 := rfl; omega
    walk_at "s1"
    rw [strT_nat]
    walk_at "s1"
    exact h
  | least => walk_at "s1"; exact h
  | greatest => walk_at "s1"; exact h
  | product => walk_at "s1"; exact h

theorem dv_shown_rule {P : Program} {w : World} {K : PySem.W.Frag} {mg : Str → Option Value} {base : Heap} {cl : Nat → Addr} (B : Bl mg) (Er : Er K mg nms cl)   (G_look_at_rule : Cal P w K mg base 5 2 "look_at_rule" (T_look_at_rule cl)) (G_shown_fraction : Cal P w K mg base 1 1 "shown_fraction" (T_shown_fraction cl)) (f : Addr) (cdv : Value) (A : Around) (outer : List Env) (s : Shared) (H : Hp) (E : XK) (hrG : RmG 5 (A.deeper (envOfC "shown_rule" (defScope s_shown_rule) s.heap.objs.size f cdv))) :
    PSs (cxOf (L2.CX P w) P w K mg base ["rule", "many", "weight"] "shown_rule" (defScope s_shown_rule) f cdv A outer s H E) (defBody s_shown_rule) (liftS K (fun cls d _ H => E cls d H) (r_shown_rule cl)) := by
  have nd := sc_shown_rule.nd
  have hr := hrG.rm
  exact (s_cons (s_expr (d_cl G_look_at_rule tk_fn hrG (c_ex (d_var (pv 0)) (c_ex (d_var (pv 1)) c_nil))))
      (s_cons (s_if (t_eq hr (d_ixS (pv 0) (d_int)) (d_str)) (s_one (s_ret (d_join (d_str) (d_cat (d_lst (a_cons (d_str) a_nil)) (d_comp (own := [("weight", 2)]) (g := gName 2) rfl nd (i_lst (d_ixS (pv 0) (d_int))) (show blkC ["rule", "many", "weight"] (defScope s_shown_rule) _ _ = true by decide +kernel) rfl (fun hk => tg_name) (fun _ _ _ _ _ => pg_name (i := 2) nd rfl (.inl rfl)) (fun _ _ _ _ _ => ts_nil) (fun _ _ _ _ _ => (d_cl G_shown_fraction takes0 hrG (c_ex (d_var (pv 2)) c_nil)))))))) (s_nil))
      (s_cons (s_if (t_eq hr (d_ixS (pv 0) (d_int)) (d_str)) (s_one (s_ret (d_catS (d_str) (d_strD hrG B.str (d_eb (d_ixS (pv 0) (d_int))))))) (s_nil))
      (s_one (s_ret (d_ixS (pv 0) (d_int)))))))
theorem ok_shown_rule {P : Program} {w : World} {K : PySem.W.Frag} {mg : Str → Option Value} {base : Heap} {cl : Nat → Addr} (B : Bl mg) (Er : Er K mg nms cl) (D : DefAt K mg "shown_rule" s_shown_rule ["rule", "many"])   (G_look_at_rule : Cal P w K mg base 5 2 "look_at_rule" (T_look_at_rule cl)) (G_shown_fraction : Cal P w K mg base 1 1 "shown_fraction" (T_shown_fraction cl)) : Cal P w K mg base 6 2 "shown_rule" (T_shown_rule cl) :=
  cal_ok (m := 1) D sc_shown_rule rfl rfl (fun f cdv A outer s H E hr => dv_shown_rule B Er G_look_at_rule G_shown_fraction f cdv A outer s H E hr) (law_shown_rule)
/-! _law_mixed -/
abbrev s__law_mixed : Stmt := top 37
theorem sc__law_mixed : FnScope ["_law_cell", "_law_k", "_law_number"] ["_law_cell", "_law_k"] (defScope s__law_mixed) := ⟨rfl, rfl, rfl, by decide +kernel, rfl, by decide +kernel, by decide +kernel⟩
def T__law_mixed (cl : Nat → Addr) : Spec := fun as Q _ => ∃ c k : Int, as = [.va (.int c), .va (.int k)] ∧ 0 ≤ k ∧ k < 1000000 ∧ ∀ r : Int, 0 ≤ r → r < 2147483587 → Q (.int r) []

def r__law_mixed (cl : Nat → Addr) : DS :=
    (sSeq (sSet 2 (dAdd (dMul (dMod (dVar 0) (dC (.int 2147483629))) (dC (.int 69621))) (dMul (dMul (dC (.int 40503)) (dVar 1)) (dVar 1))))
    (sSeq (sSet 2 (dMod (dAdd (dAdd (dVar 2) (dMul (dC (.int 16807)) (dVar 1))) (dC (.int 1048583))) (dC (.int 2147483647))))
    (sSeq (sSet 2 (dMod (dMul (dVar 2) (dVar 2)) (dC (.int 2147483629))))
    (sRet (dMod (dMul (dVar 2) (dAdd (dVar 2) (dC (.int 2)))) (dC (.int 2147483587)))))))
-- LAW
theorem law__law_mixed {cl : Nat → Addr} : ∀ as Q E, T__law_mixed cl as Q E → r__law_mixed cl (endsOf Q E) (as ++ List.replicate 1 .un) := by
  rintro as Q E ⟨c, k, rfl, hk, hk2, h⟩
  unfold r__law_mixed
  have f : ∀ (x y : Int), 0 < y → 0 ≤ x.fmod y ∧ x.fmod y < y := fun x y hy => ⟨Int.fmod_nonneg_of_pos x hy, Int.fmod_lt_of_pos x hy⟩
  have i1 : IntMulOk (c.fmod 2147483629) 69621 := imo_r (by decide) (by decide)
  have i2 : IntMulOk 40503 k := imo_l (by decide) (by decide)
  have i3 : IntMulOk (40503 * k) k := imo_r (by omega) (by omega)
  have i4 : IntMulOk 16807 k := imo_l (by decide) (by decide)
  walk_at "st"
  generalize ((c.fmod 2147483629 * 69621 + 40503 * k * k) + 16807 * k + 1048583) = x
  have h1 := f x 2147483647 (by decide)
  generalize x.fmod 2147483647 = y at *
  have h2 := f (y * y) 2147483629 (by decide)
  have i5 : IntMulOk y y := imo_r (by omega) (by omega)
  generalize hz : (y * y).fmod 2147483629 = z at *
  have h3 := f (z * (z + 2)) 2147483587 (by decide)
  have i6 : IntMulOk z (z + 2) := imo_r (by omega) (by omega)
  refine ⟨i5, ?_⟩
  walk_at "s1"
  rw [hz]
  walk_at "s1"
  exact h _ h3.1 h3.2

theorem dv__law_mixed {P : Program} {w : World} {K : PySem.W.Frag} {mg : Str → Option Value} {base : Heap} {cl : Nat → Addr} (B : Bl mg) (Er : Er K mg nms cl)    (f : Addr) (cdv : Value) (A : Around) (outer : List Env) (s : Shared) (H : Hp) (E : XK) (hrG : RmG 0 (A.deeper (envOfC "_law_mixed" (defScope s__law_mixed) s.heap.objs.size f cdv))) :
    PSs (cxOf (L2.CX P w) P w K mg base ["_law_cell", "_law_k", "_law_number"] "_law_mixed" (defScope s__law_mixed) f cdv A outer s H E) (defBody s__law_mixed) (liftS K (fun cls d _ H => E cls d H) (r__law_mixed cl)) := by
  have nd := sc__law_mixed.nd
  have hr := hrG.rm
  exact (s_cons (s_set (i := 2) nd (d_add (d_mul (d_mod (d_var (pv 0)) (d_int)) (d_int)) (d_mul (d_mul (d_int) (d_var (pv 1))) (d_var (pv 1)))) rfl (.inl rfl))
      (s_cons (s_set (i := 2) nd (d_mod (d_add (d_add (d_var (pv 2)) (d_mul (d_int) (d_var (pv 1)))) (d_int)) (d_int)) rfl (.inl rfl))
      (s_cons (s_set (i := 2) nd (d_mod (d_mul (d_var (pv 2)) (d_var (pv 2))) (d_int)) rfl (.inl rfl))
      (s_one (s_ret (d_mod (d_mul (d_var (pv 2)) (d_add (d_var (pv 2)) (d_int))) (d_int)))))))
theorem ok__law_mixed {P : Program} {w : World} {K : PySem.W.Frag} {mg : Str → Option Value} {base : Heap} {cl : Nat → Addr} (B : Bl mg) (Er : Er K mg nms cl) (D : DefAt K mg "_law_mixed" s__law_mixed ["_law_cell", "_law_k"])    : Cal P w K mg base 1 2 "_law_mixed" (T__law_mixed cl) :=
  cal_ok (m := 1) D sc__law_mixed rfl rfl (fun f cdv A outer s H E hr => dv__law_mixed B Er  f cdv A outer s H E hr) (law__law_mixed)
/-! _law_pile -/
abbrev s__law_pile : Stmt := top 38
theorem sc__law_pile : FnScope ["_law_script", "_law_k", "_law_cell", "_law_found", "_law_j"] ["_law_script", "_law_k"] (defScope s__law_pile) := ⟨rfl, rfl, rfl, by decide +kernel, rfl, by decide +kernel, by decide +kernel⟩
def T__law_pile (cl : Nat → Addr) : Spec := fun as Q _ => ∃ (ns : List Int) (k : Nat), as = [.va (.scr ns), .va (.int k)] ∧ k ≤ 1000 ∧ ∀ n : Int, 0 ≤ n → Q (.own [.int n]) []

def lb1__law_pile (cl : Nat → Addr) : DS :=
    (sSet 3 (dAdd (dMul (dVar 3) (dC (.int 2147483587))) (dCall 2 (T__law_mixed cl) (cEx (dVar 2) (cEx (dAdd (dMul (dC (.int 31)) (dVar 1)) (dVar 4)) cNil)))))
def r__law_pile (cl : Nat → Addr) : DS :=
    (sSeq (sSet 2 (dC (.int 0)))
    (sCut (sIf (dT (dLt (dVar 1) (dCal1 gLen (dLook 0)))) (sSet 2 (dIxS 0 (dVar 1))) (sNext))
    (sSeq (sIf (dT (dGe (dVar 2) (dPow (dC (.int 10)) (dC (.int 18))))) (sRet (dLst (aCons (dSub (dVar 2) (dPow (dC (.int 10)) (dC (.int 18)))) aNil))) (sNext))
    (sSeq (sSet 3 (dC (.int 0)))
    (sSeq (sFor [0, 4] (itR1 (dC (.int 20))) (tgName 4) (lb1__law_pile cl))
    (sRet (dLst (aCons (dVar 3) aNil))))))))
-- LAW
theorem law__law_pile {cl : Nat → Addr} : ∀ as Q E, T__law_pile cl as Q E → r__law_pile cl (endsOf Q E) (as ++ List.replicate 3 .un) := by
  rintro as Q E ⟨ns, k, rfl, hk, h⟩
  unfold r__law_pile
  walk_at "st"
  refine ⟨fun M => ∃ c : Int, M = [.va (.scr ns), .va (.int (k : Int)), .va (.int c), .un, .un], ?_, ?_⟩
  · walk_at "s1"
    refine ifB (fun c => ?_) (fun c => ?_)
    · have c := of_decide_eq_true c
      have hl : k < ns.length := by omega
      have e : ixl ns (k : Int) = some ns[k] := by simp [ixl, hl]
      walk_at "s1"
      refine getO_eq e ?_
      walk_at "s1"
      exact ⟨_, rfl⟩
    · walk_at "s1"
      exact ⟨_, rfl⟩
  rintro M ⟨c, rfl⟩
  walk_at "s1"
  refine ifB (fun g => ?_) (fun g => ?_)
  · have g := of_decide_eq_true g
    walk_at "s1"
    exact h _ (by omega)
  walk_at "s1"
  rw [show rngD 0 20 = (List.range 20).map fun i => .int (i : Int) from rngD_nat 20]
  refine forL_inv (fun i : Nat => .int (i : Int)) (fun _ _ M => ∃ f : Int, 0 ≤ f ∧ M = [.un, .va (.int (k : Int)), .va (.int c), .va (.int f), .un]) (List.range 20) _ ⟨0, by decide, rfl⟩ ?_ ?_
  · rintro pre j suf M e ⟨f, hf, rfl⟩ C hC
    have hj : j < 20 := by
      have : j ∈ List.range 20 := by rw [e]; simp
      simpa using this
    have i1 : IntMulOk f 2147483587 := imo_r (by decide) (by decide)
    have i2 : IntMulOk 31 (k : Int) := imo_l (by decide) (by decide)
    have k1 : 0 ≤ 31 * (k : Int) + (j : Int) := by omega
    have k2 : 31 * (k : Int) + (j : Int) < 1000000 := by omega
    walk_at "s1"
    intro r r0 r1
    walk_at "s1"
    exact hC _ ⟨_, by omega, rfl⟩
  · rintro M ⟨f, hf, rfl⟩
    walk_at "s1"
    exact h _ hf

theorem dv__law_pile {P : Program} {w : World} {K : PySem.W.Frag} {mg : Str → Option Value} {base : Heap} {cl : Nat → Addr} (B : Bl mg) (Er : Er K mg nms cl)   (G__law_mixed : Cal P w K mg base 1 2 "_law_mixed" (T__law_mixed cl)) (f : Addr) (cdv : Value) (A : Around) (outer : List Env) (s : Shared) (H : Hp) (E : XK) (hrG : RmG 1 (A.deeper (envOfC "_law_pile" (defScope s__law_pile) s.heap.objs.size f cdv))) :
    PSs (cxOf (L2.CX P w) P w K mg base ["_law_script", "_law_k", "_law_cell", "_law_found", "_law_j"] "_law_pile" (defScope s__law_pile) f cdv A outer s H E) (defBody s__law_pile) (liftS K (fun cls d _ H => E cls d H) (r__law_pile cl)) := by
  have nd := sc__law_pile.nd
  have hr := hrG.rm
  exact (s_cons (s_set (i := 2) nd (d_int) rfl (.inl rfl))
      (s_cut (s_if (t_lt (d_var (pv 1)) (d_len B.len (d_look (pv 0)))) (s_one (s_set (i := 2) nd (d_ixS (pv 0) (d_var (pv 1))) rfl (.inl rfl))) (s_nil))
      (s_cons (s_if (t_ge (d_var (pv 2)) (d_pow (d_int) (d_int))) (s_one (s_ret (d_lst (a_cons (d_sub (d_var (pv 2)) (d_pow (d_int) (d_int))) a_nil)))) (s_nil))
      (s_cons (s_set (i := 3) nd (d_int) rfl (.inl rfl))
      (s_cons (s_for (vs := [0, 4]) (g := gName 4) po_fn rfl (i_range1 B.range (d_int)) (pg_name (i := 4) nd rfl (.inl rfl)) (tg_name) (s_one (s_set (i := 3) nd (d_add (d_mul (d_var (pv 3)) (d_int)) (d_cl G__law_mixed tk_fn hrG (c_ex (d_var (pv 2)) (c_ex (d_add (d_mul (d_int) (d_var (pv 1))) (d_var (pv 4))) c_nil)))) rfl (.inl rfl))))
      (s_one (s_ret (d_lst (a_cons (d_var (pv 3)) a_nil)))))))))
theorem ok__law_pile {P : Program} {w : World} {K : PySem.W.Frag} {mg : Str → Option Value} {base : Heap} {cl : Nat → Addr} (B : Bl mg) (Er : Er K mg nms cl) (D : DefAt K mg "_law_pile" s__law_pile ["_law_script", "_law_k"])   (G__law_mixed : Cal P w K mg base 1 2 "_law_mixed" (T__law_mixed cl)) : Cal P w K mg base 2 2 "_law_pile" (T__law_pile cl) :=
  cal_ok (m := 3) D sc__law_pile rfl rfl (fun f cdv A outer s H E hr => dv__law_pile B Er G__law_mixed f cdv A outer s H E hr) (law__law_pile)
/-! _law_take -/
abbrev s__law_take : Stmt := top 39
theorem sc__law_take : FnScope ["_law_pile_here", "_law_size", "_law_digit"] ["_law_pile_here", "_law_size"] (defScope s__law_take) := ⟨rfl, rfl, rfl, by decide +kernel, rfl, by decide +kernel, by decide +kernel⟩
def T__law_take (cl : Nat → Addr) : Spec := fun as Q _ => ∃ n s : Int, as = [.io (.own [.int n]), .va (.int s)] ∧ 0 ≤ n ∧ 0 < s ∧ Sz 9000 s ∧ ∀ r n' : Int, 0 ≤ r → r < s → 0 ≤ n' → Q (.int r) [.own [.int n']]

def r__law_take (cl : Nat → Addr) : DS :=
    (sSeq (sSet 2 (dMod (dIxS 0 (dC (.int 0))) (dVar 1)))
    (sSeq (sPut 0 (dDiv (dIxS 0 (dC (.int 0))) (dVar 1)) (dC (.int 0)))
    (sRet (dVar 2))))
-- LAW
theorem law__law_take {cl : Nat → Addr} : ∀ as Q E, T__law_take cl as Q E → r__law_take cl (endsOf Q E) (as ++ List.replicate 1 .un) := by
  rintro as Q E ⟨n, s, rfl, hn, hs, hz, h⟩
  unfold r__law_take
  have s0 : s ≠ 0 := by omega
  have hd := Sz.div hz s0 (Nat.le_refl _)
  walk_at "st"
  exact h _ _ (Int.fmod_nonneg_of_pos n hs) (Int.fmod_lt_of_pos n hs) (Int.fdiv_nonneg hn (by omega))

theorem dv__law_take {P : Program} {w : World} {K : PySem.W.Frag} {mg : Str → Option Value} {base : Heap} {cl : Nat → Addr} (B : Bl mg) (Er : Er K mg nms cl)    (f : Addr) (cdv : Value) (A : Around) (outer : List Env) (s : Shared) (H : Hp) (E : XK) (hrG : RmG 0 (A.deeper (envOfC "_law_take" (defScope s__law_take) s.heap.objs.size f cdv))) :
    PSs (cxOf (L2.CX P w) P w K mg base ["_law_pile_here", "_law_size", "_law_digit"] "_law_take" (defScope s__law_take) f cdv A outer s H E) (defBody s__law_take) (liftS K (fun cls d _ H => E cls d H) (r__law_take cl)) := by
  have nd := sc__law_take.nd
  have hr := hrG.rm
  exact (s_cons (s_set (i := 2) nd (d_mod (d_ixS (pv 0) (d_int)) (d_var (pv 1))) rfl (.inl rfl))
      (s_cons (s_put (ps_asg (d_div (d_ixS (pv 0) (d_int)) (d_var (pv 1))) (pg_sub (pv 0) (d_int) set_list)))
      (s_one (s_ret (d_var (pv 2))))))
theorem ok__law_take {P : Program} {w : World} {K : PySem.W.Frag} {mg : Str → Option Value} {base : Heap} {cl : Nat → Addr} (B : Bl mg) (Er : Er K mg nms cl) (D : DefAt K mg "_law_take" s__law_take ["_law_pile_here", "_law_size"])    : Cal P w K mg base 1 2 "_law_take" (T__law_take cl) :=
  cal_ok (m := 1) D sc__law_take rfl rfl (fun f cdv A outer s H E hr => dv__law_take B Er  f cdv A outer s H E hr) (law__law_take)
/-! _law_shared -/
abbrev s__law_shared : Stmt := top 40
theorem sc__law_shared : FnScope ["_law_one", "_law_other"] ["_law_one", "_law_other"] (defScope s__law_shared) := ⟨rfl, rfl, rfl, by decide +kernel, rfl, by decide +kernel, by decide +kernel⟩
def T__law_shared (cl : Nat → Addr) : Spec := fun as Q _ => ∃ a b : Int, as = [.va (.int a), .va (.int b)] ∧ Q (.int (Int.gcd a b)) []

def lb1__law_shared (cl : Nat → Addr) : DS :=
    (sPar 0 1 (dVar 1) (dMod (dVar 0) (dVar 1)))
def r__law_shared (cl : Nat → Addr) : DS :=
    (sSeq (sWhile [] (dT (dNe (dVar 1) (dC (.int 0)))) (lb1__law_shared cl))
    (sRet (dCal1 gAbs (dLook 0))))
-- LAW
theorem law__law_shared {cl : Nat → Addr} : ∀ as Q E, T__law_shared cl as Q E → r__law_shared cl (endsOf Q E) (as ++ List.replicate 0 .un) := by
  rintro as Q E ⟨a, b, rfl, h⟩
  unfold r__law_shared
  walk_at "st"
  refine ⟨fun M => ∃ x y : Int, M = [.va (.int x), .va (.int y)] ∧ Int.gcd x y = Int.gcd a b, fun M => match M with | [_, .va (.int y)] => y.natAbs | _ => 0, ⟨a, b, rfl, rfl⟩, ?_⟩
  rintro M ⟨x, y, rfl, e⟩
  walk_at "s1"
  refine ifB (fun c => ?_) (fun c => ?_)
  · rw [eqv_int] at c
    have hy : y ≠ 0 := by simpa using c
    walk_at "s1"
    exact ⟨⟨y, x.fmod y, rfl, by rw [gcd_fmod]; exact e⟩, fmod_small x y hy⟩
  · rw [eqv_int] at c
    have hy : y = 0 := by simpa using c
    subst hy
    walk_at "s1"
    have : Int.gcd a b = x.natAbs := by rw [← e]; exact Int.gcd_zero_right x
    rw [this] at h
    have e2 : (if x < 0 then -x else x) = (x.natAbs : Int) := by split <;> omega
    have h2 : Q (.int (if x < 0 then -x else x)) [] := by rw [e2]; exact h
    exact h2

theorem dv__law_shared {P : Program} {w : World} {K : PySem.W.Frag} {mg : Str → Option Value} {base : Heap} {cl : Nat → Addr} (B : Bl mg) (Er : Er K mg nms cl)    (f : Addr) (cdv : Value) (A : Around) (outer : List Env) (s : Shared) (H : Hp) (E : XK) (hrG : RmG 0 (A.deeper (envOfC "_law_shared" (defScope s__law_shared) s.heap.objs.size f cdv))) :
    PSs (cxOf (L2.CX P w) P w K mg base ["_law_one", "_law_other"] "_law_shared" (defScope s__law_shared) f cdv A outer s H E) (defBody s__law_shared) (liftS K (fun cls d _ H => E cls d H) (r__law_shared cl)) := by
  have nd := sc__law_shared.nd
  have hr := hrG.rm
  exact (s_cons (s_while (vs := []) po_fn (t_ne hr (d_var (pv 1)) (d_int)) (s_one (s_par (i := 0) (j := 1) rfl nd (d_var (pv 1)) (d_mod (d_var (pv 0)) (d_var (pv 1))))))
      (s_one (s_ret (d_abs B.abs (d_look (pv 0))))))
theorem ok__law_shared {P : Program} {w : World} {K : PySem.W.Frag} {mg : Str → Option Value} {base : Heap} {cl : Nat → Addr} (B : Bl mg) (Er : Er K mg nms cl) (D : DefAt K mg "_law_shared" s__law_shared ["_law_one", "_law_other"])    : Cal P w K mg base 1 2 "_law_shared" (T__law_shared cl) :=
  cal_ok (m := 0) D sc__law_shared rfl rfl (fun f cdv A outer s H E hr => dv__law_shared B Er  f cdv A outer s H E hr) (law__law_shared)
/-! _law_frac -/
abbrev s__law_frac : Stmt := top 41
theorem sc__law_frac : FnScope ["_law_top", "_law_bottom", "_law_by"] ["_law_top", "_law_bottom"] (defScope s__law_frac) := ⟨rfl, rfl, rfl, by decide +kernel, rfl, by decide +kernel, by decide +kernel⟩
def T__law_frac (cl : Nat → Addr) : Spec := fun as Q _ => ∃ a b : Int, as = [.va (.int a), .va (.int b)] ∧ Sz 9000 b ∧ b ≠ 0 ∧ Q (qD (Rat.divInt a b)) []

def r__law_frac (cl : Nat → Addr) : DS :=
    (sSeq (sSet 2 (dCall 2 (T__law_shared cl) (cEx (dVar 0) (cEx (dVar 1) cNil))))
    (sSeq (sIf (dT (dLt (dVar 1) (dC (.int 0)))) (sSet 2 (dSub (dC (.int 0)) (dVar 2))) (sNext))
    (sRet (dTup (aCons (dDiv (dVar 0) (dVar 2)) (aCons (dDiv (dVar 1) (dVar 2)) aNil))))))
-- LAW
theorem law__law_frac {cl : Nat → Addr} : ∀ as Q E, T__law_frac cl as Q E → r__law_frac cl (endsOf Q E) (as ++ List.replicate 1 .un) := by
  rintro as Q E ⟨a, b, rfl, hs, hb, hq⟩
  unfold r__law_frac
  walk_at "st"
  have hd : DivOk (frg a b) := Sz.div (Sz.of_le hs (frg_size hb)) (frg_ne hb) (Nat.le_refl _)
  rw [← fD_fr hb] at hq
  unfold frg at hd
  unfold fD fr frg at hq
  refine ifB (fun c => ?_) (fun c => ?_)
  · have hn : b < 0 := of_decide_eq_true c
    simp only [hn, if_true] at hd hq
    rw [← Int.zero_sub] at hd hq
    walk_at "s1"
    exact hq
  · have hn : ¬ b < 0 := of_decide_eq_false c
    simp only [hn, if_false] at hd hq
    walk_at "s1"
    exact hq

theorem dv__law_frac {P : Program} {w : World} {K : PySem.W.Frag} {mg : Str → Option Value} {base : Heap} {cl : Nat → Addr} (B : Bl mg) (Er : Er K mg nms cl)   (G__law_shared : Cal P w K mg base 1 2 "_law_shared" (T__law_shared cl)) (f : Addr) (cdv : Value) (A : Around) (outer : List Env) (s : Shared) (H : Hp) (E : XK) (hrG : RmG 1 (A.deeper (envOfC "_law_frac" (defScope s__law_frac) s.heap.objs.size f cdv))) :
    PSs (cxOf (L2.CX P w) P w K mg base ["_law_top", "_law_bottom", "_law_by"] "_law_frac" (defScope s__law_frac) f cdv A outer s H E) (defBody s__law_frac) (liftS K (fun cls d _ H => E cls d H) (r__law_frac cl)) := by
  have nd := sc__law_frac.nd
  have hr := hrG.rm
  exact (s_cons (s_set (i := 2) nd (d_cl G__law_shared tk_fn hrG (c_ex (d_var (pv 0)) (c_ex (d_var (pv 1)) c_nil))) rfl (.inl rfl))
      (s_cons (s_if (t_lt (d_var (pv 1)) (d_int)) (s_one (s_set (i := 2) nd (d_sub (d_int) (d_var (pv 2))) rfl (.inl rfl))) (s_nil))
      (s_one (s_ret (d_tup (a_cons (d_div (d_var (pv 0)) (d_var (pv 2))) (a_cons (d_div (d_var (pv 1)) (d_var (pv 2))) a_nil)))))))
theorem ok__law_frac {P : Program} {w : World} {K : PySem.W.Frag} {mg : Str → Option Value} {base : Heap} {cl : Nat → Addr} (B : Bl mg) (Er : Er K mg nms cl) (D : DefAt K mg "_law_frac" s__law_frac ["_law_top", "_law_bottom"])   (G__law_shared : Cal P w K mg base 1 2 "_law_shared" (T__law_shared cl)) : Cal P w K mg base 2 2 "_law_frac" (T__law_frac cl) :=
  cal_ok (m := 1) D sc__law_frac rfl rfl (fun f cdv A outer s H E hr => dv__law_frac B Er G__law_shared f cdv A outer s H E hr) (law__law_frac)
/-! _law_whole -/
abbrev s__law_whole : Stmt := top 42
theorem sc__law_whole : FnScope ["_law_found"] ["_law_found"] (defScope s__law_whole) := ⟨rfl, rfl, rfl, by decide +kernel, rfl, by decide +kernel, by decide +kernel⟩
def T__law_whole (cl : Nat → Addr) : Spec := fun as Q _ => ∃ d : D, as = [.va d] ∧ plainD d = true ∧ Q (.bl (isTy .int d && !isTy .bool d)) []

def r__law_whole (cl : Nat → Addr) : DS :=
    (sRet ((dBool (dAndV (dIsi .int (dLook 0)) (dNotV (dIsi .bool (dLook 0)))))))
-- LAW
theorem law__law_whole {cl : Nat → Addr} : ∀ as Q E, T__law_whole cl as Q E → r__law_whole cl (endsOf Q E) (as ++ List.replicate 0 .un) := by
  rintro as Q E ⟨d, rfl, hd, h⟩
  unfold r__law_whole
  cases d <;> first | (cases hd; done) | (walk_at "st"; refine boolS (isTy .int _ && !isTy .bool _) (fun Q' h' => ?_) (by walk_at "s1"; exact h); walk_at "s1"; exact h')

theorem dv__law_whole {P : Program} {w : World} {K : PySem.W.Frag} {mg : Str → Option Value} {base : Heap} {cl : Nat → Addr} (B : Bl mg) (Er : Er K mg nms cl)    (f : Addr) (cdv : Value) (A : Around) (outer : List Env) (s : Shared) (H : Hp) (E : XK) (hrG : RmG 0 (A.deeper (envOfC "_law_whole" (defScope s__law_whole) s.heap.objs.size f cdv))) :
    PSs (cxOf (L2.CX P w) P w K mg base ["_law_found"] "_law_whole" (defScope s__law_whole) f cdv A outer s H E) (defBody s__law_whole) (liftS K (fun cls d _ H => E cls d H) (r__law_whole cl)) := by
  have nd := sc__law_whole.nd
  have hr := hrG.rm
  exact (s_one (s_ret ((d_bool (d_and (d_isi .int B.isinstance B.int (by decide +kernel) (d_look (pv 0))) (d_one (d_not (d_isi .bool B.isinstance B.bool (by decide +kernel) (d_look (pv 0))))))))))
theorem ok__law_whole {P : Program} {w : World} {K : PySem.W.Frag} {mg : Str → Option Value} {base : Heap} {cl : Nat → Addr} (B : Bl mg) (Er : Er K mg nms cl) (D : DefAt K mg "_law_whole" s__law_whole ["_law_found"])    : Cal P w K mg base 1 1 "_law_whole" (T__law_whole cl) :=
  cal_ok (m := 0) D sc__law_whole rfl rfl (fun f cdv A outer s H E hr => dv__law_whole B Er  f cdv A outer s H E hr) (law__law_whole)
/-! _law_only -/
abbrev s__law_only : Stmt := top 43
theorem sc__law_only : FnScope ["_law_caught", "_law_name", "_law_found", "_law_names", "_law_one"] ["_law_caught", "_law_name"] (defScope s__law_only) := ⟨rfl, rfl, rfl, by decide +kernel, rfl, by decide +kernel, by decide +kernel⟩
def T__law_only (cl : Nat → Addr) : Spec := fun as Q _ => ∃ (j : Nat) (s : Str), as = [.va (.exc (cl j)), .va (.str s)] ∧ nms[j]? = some s ∧ 0 < j ∧ Q (.bl true) []

def r__law_only (cl : Nat → Addr) : DS :=
    (sSeq (sIf (tBool (dOr (dNot (dT (dIsE (goodE nms cl) (subE nms cl 0) (dLook 0)))) (dNot (dT (dIsE (goodE nms cl) (fun _ => true) (dLook 0)))))) (sRet (dC (.bl false))) (sNext))
    (sSeq (sSet 2 (dFz (dLst (aCons (dIsE (goodE nms cl) (subE nms cl 1) (dLook 0)) (aCons (dIsE (goodE nms cl) (subE nms cl 2) (dLook 0)) (aCons (dIsE (goodE nms cl) (subE nms cl 3) (dLook 0)) aNil))))))
    (sSeq (sSet 2 (dFz (dCat (dVar 2) (dLst (aCons (dIsE (goodE nms cl) (subE nms cl 4) (dLook 0)) (aCons (dIsE (goodE nms cl) (subE nms cl 5) (dLook 0)) (aCons (dIsE (goodE nms cl) (subE nms cl 6) (dLook 0)) aNil)))))))
    (sSeq (sSet 2 (dFz (dCat (dVar 2) (dLst (aCons (dIsE (goodE nms cl) (subE nms cl 7) (dLook 0)) (aCons (dIsE (goodE nms cl) (subE nms cl 8) (dLook 0)) (aCons (dIsE (goodE nms cl) (subE nms cl 9) (dLook 0)) aNil)))))))
    (sSeq (sSet 2 (dFz (dCat (dVar 2) (dLst (aCons (dIsE (goodE nms cl) (subE nms cl 10) (dLook 0)) (aCons (dIsE (goodE nms cl) (subE nms cl 11) (dLook 0)) (aCons (dIsE (goodE nms cl) (subE nms cl 12) (dLook 0)) aNil)))))))
    (sSeq (sSet 2 (dFz (dCat (dVar 2) (dLst (aCons (dIsE (goodE nms cl) (subE nms cl 13) (dLook 0)) (aCons (dIsE (goodE nms cl) (subE nms cl 14) (dLook 0)) aNil))))))
    (sSeq (sSet 3 (dFz (dLst (aCons (dC (.str "NoBottom")) (aCons (dC (.str "NoBook")) (aCons (dC (.str "NoList")) (aCons (dC (.str "NoRule")) (aCons (dC (.str "NoCount")) (aCons (dC (.str "NoLooks")) (aCons (dC (.str "NoThings")) (aCons (dC (.str "NotSure")) (aCons (dC (.str "NoSlack")) aNil))))))))))))
    (sSeq (sSet 3 (dFz (dCat (dVar 3) (dLst (aCons (dC (.str "NoThing")) (aCons (dC (.str "NoWorth")) (aCons (dC (.str "TooMany")) (aCons (dC (.str "NoText")) (aCons (dC (.str "NoLine")) aNil)))))))))
    (sRet (dEq (dVar 2) (dComp (itS 3) (tgName 4) tYesD (dEq (dVar 4) (dVar 1)) [4])))))))))))
-- LAW
theorem law__law_only {cl : Nat → Addr} (inj : ∀ i j, i < nms.length → j < nms.length → cl i = cl j → i = j) : ∀ as Q E, T__law_only cl as Q E → r__law_only cl (endsOf Q E) (as ++ List.replicate 3 .un) := by
  rintro as Q E ⟨j, s, rfl, hj, h0, h⟩
  have hl := (List.getElem?_eq_some_iff.mp hj).1
  unfold r__law_only
  have hg : ∀ C, (D.exc (cl j)) = .exc C → goodE nms cl C := by
    intro C e
    cases e
    exact ⟨j, hl, rfl⟩
  have hs : ∀ i, i < nms.length → subE nms cl i (cl j) = (i == 0 || j == i) := by
    intro i hi
    unfold subE
    congr 1
    by_cases e : j = i
    · subst e; simp
    · rw [decide_eq_false (fun z => e (inj _ _ hl hi z))]
      exact (beq_eq_false_iff_ne.mpr e).symm
  have hq : okB (.str s) 8 = true := by
    show PyData.strOk s = true
    have : ∀ x ∈ nms, PyData.strOk x = true := by decide +kernel
    exact this s (List.mem_of_getElem? hj)
  have s0 : isEx (subE nms cl 0) (D.exc (cl j)) = true := by
    show subE nms cl 0 (cl j) = true
    rw [hs 0 (by decide)]; rfl
  walk_at "st"
  refine boolT false (fun Q' h' => ?_) ?_
  · walk_at "s1"
    exact h'
  walk_at "s1"
  iterate 14 walk_at "s1"
  have e : ∀ b : Bool, b = true → Q (.bl b) [] := fun b hb => hb ▸ h
  refine e _ ?_
  simp only [frz_own, frz_lst, D.frz, D.frzs, List.cons_append, List.nil_append, isEx, hs 0 (by decide), hs 1 (by decide), hs 2 (by decide), hs 3 (by decide), hs 4 (by decide), hs 5 (by decide), hs 6 (by decide), hs 7 (by decide), hs 8 (by decide), hs 9 (by decide), hs 10 (by decide), hs 11 (by decide), hs 12 (by decide), hs 13 (by decide), hs 14 (by decide), eqv_lo, eqv_own, eqv_lst, eqv_ol, eqv_str, eqvs_cons, eqvs_nil, eqv_bl]
  have e2 : s = nms.getD j "" := by rw [List.getD_eq_getElem?_getD, hj]; rfl
  subst e2
  clear hj h hg hq hs e s0
  revert j
  show ∀ j, 0 < j → j < 15 → _
  intro j h1 h2
  revert h1
  revert j
  decide +kernel

theorem dv__law_only {P : Program} {w : World} {K : PySem.W.Frag} {mg : Str → Option Value} {base : Heap} {cl : Nat → Addr} (B : Bl mg) (Er : Er K mg nms cl)    (f : Addr) (cdv : Value) (A : Around) (outer : List Env) (s : Shared) (H : Hp) (E : XK) (hrG : RmG 0 (A.deeper (envOfC "_law_only" (defScope s__law_only) s.heap.objs.size f cdv))) :
    PSs (cxOf (L2.CX P w) P w K mg base ["_law_caught", "_law_name", "_law_found", "_law_names", "_law_one"] "_law_only" (defScope s__law_only) f cdv A outer s H E) (defBody s__law_only) (liftS K (fun cls d _ H => E cls d H) (r__law_only cl)) := by
  have nd := sc__law_only.nd
  have hr := hrG.rm
  exact (s_cons (s_if (t_bool (PW.pt (t_or (t_not (t_val (d_isJ Er 0 rfl B.isinstance (d_look (pv 0))))) (t_or1 (t_not (t_val (d_isVE Er B.isinstance (d_look (pv 0))))))))) (s_one (s_ret (d_bl))) (s_nil))
      (s_cons (s_set (i := 2) nd (d_fz (d_lst (a_cons (d_isJ Er 1 rfl B.isinstance (d_look (pv 0))) (a_cons (d_isJ Er 2 rfl B.isinstance (d_look (pv 0))) (a_cons (d_isJ Er 3 rfl B.isinstance (d_look (pv 0))) a_nil))))) rfl (.inl rfl))
      (s_cons (s_set (i := 2) nd (d_fz (d_cat (d_var (pv 2)) (d_lst (a_cons (d_isJ Er 4 rfl B.isinstance (d_look (pv 0))) (a_cons (d_isJ Er 5 rfl B.isinstance (d_look (pv 0))) (a_cons (d_isJ Er 6 rfl B.isinstance (d_look (pv 0))) a_nil)))))) rfl (.inl rfl))
      (s_cons (s_set (i := 2) nd (d_fz (d_cat (d_var (pv 2)) (d_lst (a_cons (d_isJ Er 7 rfl B.isinstance (d_look (pv 0))) (a_cons (d_isJ Er 8 rfl B.isinstance (d_look (pv 0))) (a_cons (d_isJ Er 9 rfl B.isinstance (d_look (pv 0))) a_nil)))))) rfl (.inl rfl))
      (s_cons (s_set (i := 2) nd (d_fz (d_cat (d_var (pv 2)) (d_lst (a_cons (d_isJ Er 10 rfl B.isinstance (d_look (pv 0))) (a_cons (d_isJ Er 11 rfl B.isinstance (d_look (pv 0))) (a_cons (d_isJ Er 12 rfl B.isinstance (d_look (pv 0))) a_nil)))))) rfl (.inl rfl))
      (s_cons (s_set (i := 2) nd (d_fz (d_cat (d_var (pv 2)) (d_lst (a_cons (d_isJ Er 13 rfl B.isinstance (d_look (pv 0))) (a_cons (d_isJ Er 14 rfl B.isinstance (d_look (pv 0))) a_nil))))) rfl (.inl rfl))
      (s_cons (s_set (i := 3) nd (d_fz (d_lst (a_cons (d_str) (a_cons (d_str) (a_cons (d_str) (a_cons (d_str) (a_cons (d_str) (a_cons (d_str) (a_cons (d_str) (a_cons (d_str) (a_cons (d_str) a_nil))))))))))) rfl (.inl rfl))
      (s_cons (s_set (i := 3) nd (d_fz (d_cat (d_var (pv 3)) (d_lst (a_cons (d_str) (a_cons (d_str) (a_cons (d_str) (a_cons (d_str) (a_cons (d_str) a_nil)))))))) rfl (.inl rfl))
      (s_one (s_ret (d_eq hr (d_var (pv 2)) (d_comp (own := [("_law_one", 4)]) (g := gName 4) rfl nd (i_slot (pv 3)) (show blkC ["_law_caught", "_law_name", "_law_found", "_law_names", "_law_one"] (defScope s__law_only) _ _ = true by decide +kernel) rfl (fun hk => tg_name) (fun _ _ _ _ _ => pg_name (i := 4) nd rfl (.inl rfl)) (fun _ _ _ _ _ => ts_nil) (fun _ _ _ _ _ => (d_eq hr (d_var (pv 4)) (d_var (pv 1))))))))))))))))
theorem ok__law_only {P : Program} {w : World} {K : PySem.W.Frag} {mg : Str → Option Value} {base : Heap} {cl : Nat → Addr} (B : Bl mg) (Er : Er K mg nms cl) (D : DefAt K mg "_law_only" s__law_only ["_law_caught", "_law_name"])    : Cal P w K mg base 1 2 "_law_only" (T__law_only cl) :=
  cal_ok (m := 3) D sc__law_only rfl rfl (fun f cdv A outer s H E hr => dv__law_only B Er  f cdv A outer s H E hr) (law__law_only Er.inj)
/-! _law_worth -/
abbrev s__law_worth : Stmt := top 44
theorem sc__law_worth : FnScope ["_law_pile_here", "_law_way", "_law_bottom"] ["_law_pile_here"] (defScope s__law_worth) := ⟨rfl, rfl, rfl, by decide +kernel, rfl, by decide +kernel, by decide +kernel⟩
def T__law_worth (cl : Nat → Addr) : Spec := fun as Q _ => ∃ n : Int, as = [.io (.own [.int n])] ∧ 0 ≤ n ∧ ∀ (q : Rat) (n' : Int), 0 ≤ q → q ≤ 1 → Qz 40 q → 0 ≤ n' → Q (qD q) [.own [.int n']]

def r__law_worth (cl : Nat → Addr) : DS :=
    (sSeq (sSet 1 (dCall 2 (T__law_take cl) (cIo 0 (cEx (dC (.int 8)) cNil))))
    (sSeq (sIf (dT (dLt (dVar 1) (dC (.int 2)))) (sRet (dIx (dLst (aCons (dFr (0 : Rat)) (aCons (dFr (1 : Rat)) aNil))) (dVar 1))) (sNext))
    (sSeq (sSet 2 (dIx (dLst (aCons (dC (.int 2)) (aCons (dC (.int 3)) (aCons (dC (.int 4)) (aCons (dC (.int 6)) (aCons (dC (.int 12)) (aCons (dC (.int 0)) aNil))))))) (dSub (dVar 1) (dC (.int 2)))))
    (sSeq (sIf (dT (dEq (dVar 2) (dC (.int 0)))) (sSet 2 (dAdd (dC (.int 1)) (dCall 2 (T__law_take cl) (cIo 0 (cEx (dSub (dPow (dC (.int 10)) (dC (.int 12))) (dC (.int 1))) cNil))))) (sNext))
    (sRet (dCall 2 (T__law_frac cl) (cEx (dCall 2 (T__law_take cl) (cIo 0 (cEx (dAdd (dVar 2) (dC (.int 1))) cNil))) (cEx (dVar 2) cNil))))))))
-- LAW
theorem law__law_worth {cl : Nat → Addr} : ∀ as Q E, T__law_worth cl as Q E → r__law_worth cl (endsOf Q E) (as ++ List.replicate 2 .un) := by
  rintro as Q E ⟨n, rfl, hn, h⟩
  unfold r__law_worth
  have z8 : Sz 9000 8 := sz_om (by omega) (by omega)
  walk_at "st"
  intro r n r0 r1 hn
  have h12 : (10 : Int) ^ 12 = 1000000000000 := by decide
  walk_at "s1"
  refine ifB (fun g => ?_) (fun g => ?_)
  · have g := of_decide_eq_true g
    obtain ⟨k, rfl⟩ : ∃ k : Nat, r = (k : Int) := ⟨r.toNat, by omega⟩
    have hk : k = 0 ∨ k = 1 := by omega
    rcases hk with rfl | rfl
    · walk_at "s1"
      exact h 0 n (by decide) (by decide) (qz_0.mono (by decide)) hn
    · walk_at "s1"
      exact h 1 n (by decide) (by decide) (qz_1.mono (by decide)) hn
  have g := of_decide_eq_false g
  have hb : ∃ b : Int, ixl [D.int 2, .int 3, .int 4, .int 6, .int 12, .int 0] (r - 2) = some (.int b) ∧ 0 ≤ b ∧ b ≤ 12 := by
    obtain ⟨k, hk⟩ : ∃ k : Nat, r - 2 = (k : Int) := ⟨(r - 2).toNat, by omega⟩
    rw [hk]
    have hk6 : k < 6 := by omega
    match k, hk6 with
    | 0, _ => exact ⟨2, rfl, by decide, by decide⟩
    | 1, _ => exact ⟨3, rfl, by decide, by decide⟩
    | 2, _ => exact ⟨4, rfl, by decide, by decide⟩
    | 3, _ => exact ⟨6, rfl, by decide, by decide⟩
    | 4, _ => exact ⟨12, rfl, by decide, by decide⟩
    | 5, _ => exact ⟨0, rfl, by decide, by decide⟩
    | k + 6, h => omega
  obtain ⟨b, eb, b0, b12⟩ := hb
  have fin : ∀ (a c n' : Int), 1 ≤ c → c ≤ 10 ^ 12 → 0 ≤ a → a ≤ c → 0 ≤ n' → c ≠ 0 ∧ Sz 9000 c ∧ Q (qD (Rat.divInt a c)) [.own [.int n']] := by
    intro a c n' c1 c2 a0 a1 hn'
    have c0 : c ≠ 0 := by omega
    rw [h12] at c2
    have sc : Sz 40 c := by unfold Sz; have : (2 : Nat) ^ 40 = 1099511627776 := by decide
                            omega
    have sa : Sz 40 a := by unfold Sz; have : (2 : Nat) ^ 40 = 1099511627776 := by decide
                            omega
    refine ⟨c0, sc.mono (by decide), h _ n' ?_ ?_ (qz_divInt c0 sa sc) hn'⟩
    · exact rat_div_nonneg a0 (by omega)
    · exact rat_div_le1 (by omega) a1
  walk_at "s1"
  refine getO_eq eb ?_
  have z13 : Sz 9000 ((10 : Int) ^ 12 - 1) := by rw [h12]; exact sz_om (by omega) (by omega)
  have p13 : (0 : Int) < (10 : Int) ^ 12 - 1 := by rw [h12]; omega
  walk_at "s1"
  refine ifB (fun g2 => ?_) (fun g2 => ?_)
  · walk_at "s1"
    intro t n t0 t1 hn
    have t1 : t < 10 ^ 12 - 1 := t1
    rw [h12] at t1
    have z1 : Sz 9000 (1 + t + 1) := sz_om (by omega) (by omega)
    have p1 : (0 : Int) < 1 + t + 1 := by omega
    walk_at "s1"
    intro u n u0 u1 hn
    have ff := fin u (1 + t) n (by omega) (by rw [h12]; omega) u0 (by omega) hn
    walk_at "s1"
    exact ff.2.2
  have g2 : b ≠ 0 := by
    intro e
    rw [eqv_int, e] at g2
    simp at g2
  have z1 : Sz 9000 (b + 1) := sz_om (by omega) (by omega)
  have p1 : (0 : Int) < b + 1 := by omega
  walk_at "s1"
  intro u n u0 u1 hn
  have ff := fin u b n (by omega) (by rw [h12]; omega) u0 (by omega) hn
  walk_at "s1"
  exact ff.2.2

theorem dv__law_worth {P : Program} {w : World} {K : PySem.W.Frag} {mg : Str → Option Value} {base : Heap} {cl : Nat → Addr} (B : Bl mg) (Er : Er K mg nms cl)   (G__law_take : Cal P w K mg base 1 2 "_law_take" (T__law_take cl)) (G__law_frac : Cal P w K mg base 2 2 "_law_frac" (T__law_frac cl)) (f : Addr) (cdv : Value) (A : Around) (outer : List Env) (s : Shared) (H : Hp) (E : XK) (hrG : RmG 2 (A.deeper (envOfC "_law_worth" (defScope s__law_worth) s.heap.objs.size f cdv))) :
    PSs (cxOf (L2.CX P w) P w K mg base ["_law_pile_here", "_law_way", "_law_bottom"] "_law_worth" (defScope s__law_worth) f cdv A outer s H E) (defBody s__law_worth) (liftS K (fun cls d _ H => E cls d H) (r__law_worth cl)) := by
  have nd := sc__law_worth.nd
  have hr := hrG.rm
  exact (s_cons (s_set (i := 1) nd (d_cl G__law_take tk_fn hrG (c_io (pv 0) (c_ex (d_int) c_nil))) rfl (.inl rfl))
      (s_cons (s_if (t_lt (d_var (pv 1)) (d_int)) (s_one (s_ret (d_ix (d_lst (a_cons (d_fr (0 : Rat) (d_tup (a_cons (d_int) (a_cons (d_int) a_nil)))) (a_cons (d_fr (1 : Rat) (d_tup (a_cons (d_int) (a_cons (d_int) a_nil)))) a_nil))) (d_var (pv 1))))) (s_nil))
      (s_cons (s_set (i := 2) nd (d_ix (d_lst (a_cons (d_int) (a_cons (d_int) (a_cons (d_int) (a_cons (d_int) (a_cons (d_int) (a_cons (d_int) a_nil))))))) (d_sub (d_var (pv 1)) (d_int))) rfl (.inl rfl))
      (s_cons (s_if (t_eq hr (d_var (pv 2)) (d_int)) (s_one (s_set (i := 2) nd (d_add (d_int) (d_cl G__law_take tk_fn hrG (c_io (pv 0) (c_ex (d_sub (d_pow (d_int) (d_int)) (d_int)) c_nil)))) rfl (.inl rfl))) (s_nil))
      (s_one (s_ret (d_cl G__law_frac tk_fn hrG (c_ex (d_cl G__law_take tk_fn hrG (c_io (pv 0) (c_ex (d_add (d_var (pv 2)) (d_int)) c_nil))) (c_ex (d_var (pv 2)) c_nil)))))))))
theorem ok__law_worth {P : Program} {w : World} {K : PySem.W.Frag} {mg : Str → Option Value} {base : Heap} {cl : Nat → Addr} (B : Bl mg) (Er : Er K mg nms cl) (D : DefAt K mg "_law_worth" s__law_worth ["_law_pile_here"])   (G__law_take : Cal P w K mg base 1 2 "_law_take" (T__law_take cl)) (G__law_frac : Cal P w K mg base 2 2 "_law_frac" (T__law_frac cl)) : Cal P w K mg base 3 1 "_law_worth" (T__law_worth cl) :=
  cal_ok (m := 2) D sc__law_worth rfl rfl (fun f cdv A outer s H E hr => dv__law_worth B Er G__law_take G__law_frac f cdv A outer s H E hr) (law__law_worth)
/-! _law_book -/
abbrev s__law_book : Stmt := top 45
theorem sc__law_book : FnScope ["_law_pile_here", "_law_lists", "_law_many", "_law_j", "_law_k"] ["_law_pile_here"] (defScope s__law_book) := ⟨rfl, rfl, rfl, by decide +kernel, rfl, by decide +kernel, by decide +kernel⟩
def T__law_book (cl : Nat → Addr) : Spec := fun as Q _ => ∃ n : Int, as = [.io (.own [.int n])] ∧ 0 ≤ n ∧ ∀ (b : List (List Rat)) (m : Nat) (n' : Int), Bk b m → BkZ 40 b → 0 ≤ n' → Q (.own (b.map qL)) [.own [.int n']]

def r__law_book (cl : Nat → Addr) : DS :=
    (sSeq (sSet 1 (dAdd (dC (.int 1)) (dCall 2 (T__law_take cl) (cIo 0 (cEx (dC (.int 4)) cNil)))))
    (sSeq (sSet 2 (dAdd (dC (.int 1)) (dCall 2 (T__law_take cl) (cIo 0 (cEx (dC (.int 12)) cNil)))))
    (sRet (dComp (itR1 (dVar 1)) (tgName 3) tYesD (dFz (dComp (itR1 (dVar 2)) (tgName 4) tYesD (dCall 1 (T__law_worth cl) (cIo 0 cNil)) [4])) [3]))))
-- LAW
theorem law__law_book {cl : Nat → Addr} : ∀ as Q E, T__law_book cl as Q E → r__law_book cl (endsOf Q E) (as ++ List.replicate 4 .un) := by
  rintro as Q E ⟨n, rfl, hn, h⟩
  unfold r__law_book
  have z4 : Sz 9000 4 := sz_om (by omega) (by omega)
  have z12 : Sz 9000 12 := sz_om (by omega) (by omega)
  walk_at "st"
  intro a n a0 a1 hn
  obtain ⟨l, el⟩ : ∃ l : Nat, 1 + a = (l : Int) := ⟨(1 + a).toNat, by omega⟩
  walk_at "s1"
  intro c n c0 c1 hn
  obtain ⟨m, em⟩ : ∃ m : Nat, 1 + c = (m : Int) := ⟨(1 + c).toNat, by omega⟩
  have sl : smallI (l : Int) := smallI_ok (by omega) (by omega)
  have sm : smallI (m : Int) := smallI_ok (by omega) (by omega)
  have hrl : (rngD 0 (l : Int)).length ≤ 10000 := by rw [rngD_nat, List.length_map, List.length_range]; omega
  have hrm : (rngD 0 (m : Int)).length ≤ 10000 := by rw [rngD_nat, List.length_map, List.length_range]; omega
  rw [el]
  walk_at "s1"
  rw [em]
  walk_at "s1"
  rw [rngD_nat l]
  refine compL_inv (fun i : Nat => .int (i : Int)) (fun pre acc M => ∃ (b : List (List Rat)) (n : Int), acc = b.map qL ∧ M = [.io (.own [.int n]), .va (.int (l : Int)), .va (.int (m : Int)), .un, .un] ∧ 0 ≤ n ∧ b.length = pre.length ∧ (∀ r ∈ b, r.length = m ∧ ∀ q ∈ r, 0 ≤ q ∧ q ≤ 1 ∧ Qz 40 q)) (List.range l) _ ⟨[], n, rfl, rfl, hn, rfl, by simp⟩ ?_ ?_
  · rintro pre i suf acc M e ⟨b, n, rfl, rfl, hn, hb, hr⟩
    refine ⟨fun i hi => (by cases hi), fun K hK => ?_⟩
    walk_at "s1"
    rw [rngD_nat m]
    refine compL_inv (fun i : Nat => .int (i : Int)) (fun pre2 acc M => ∃ (ws : List Rat) (n : Int), acc = ws.map qD ∧ M = [.io (.own [.int n]), .va (.int (l : Int)), .va (.int (m : Int)), .va (.int (i : Int)), .un] ∧ 0 ≤ n ∧ ws.length = pre2.length ∧ (∀ q ∈ ws, 0 ≤ q ∧ q ≤ 1 ∧ Qz 40 q)) (List.range m) _ ⟨[], n, rfl, rfl, hn, rfl, by simp⟩ ?_ ?_
    · rintro pre2 j suf2 acc M e2 ⟨ws, n, rfl, rfl, hn, hws, hww⟩
      refine ⟨fun i hi => (by cases hi), fun K hK => ?_⟩
      walk_at "s1"
      intro q n' q0 q1 qz hn'
      walk_at "s1"
      exact hK _ _ ⟨ws ++ [q], n', by rw [List.map_append]; rfl, rfl, hn', by simp [hws], fun p hp => by
        rcases List.mem_append.mp hp with hp | hp
        · exact hww p hp
        · rw [List.mem_singleton.mp hp]; exact ⟨q0, q1, qz⟩⟩
    · rintro acc M ⟨ws, n, rfl, rfl, hn, hws, hww⟩
      rw [List.length_range] at hws
      refine ⟨fun i hi => (by cases hi), _, frz_own_qD ws, ?_⟩
      walk_at "s1"
      exact hK _ _ ⟨b ++ [ws], n, by rw [List.map_append]; rfl, rfl, hn, by simp [hb], fun r hm => by
        rcases List.mem_append.mp hm with hm | hm
        · exact hr r hm
        · rw [List.mem_singleton.mp hm]; exact ⟨hws, hww⟩⟩
  · rintro acc M ⟨b, n, rfl, rfl, hn, hb, hr⟩
    rw [List.length_range] at hb
    refine ⟨fun i hi => (by cases hi), ?_⟩
    walk_at "s1"
    exact h b m n ⟨by omega, by omega, by omega, by omega, fun r h => (hr r h).1, fun r hm q hq => ⟨((hr r hm).2 q hq).1, ((hr r hm).2 q hq).2.1⟩⟩ (fun r hm q hq => ((hr r hm).2 q hq).2.2) hn

theorem dv__law_book {P : Program} {w : World} {K : PySem.W.Frag} {mg : Str → Option Value} {base : Heap} {cl : Nat → Addr} (B : Bl mg) (Er : Er K mg nms cl)   (G__law_take : Cal P w K mg base 1 2 "_law_take" (T__law_take cl)) (G__law_worth : Cal P w K mg base 3 1 "_law_worth" (T__law_worth cl)) (f : Addr) (cdv : Value) (A : Around) (outer : List Env) (s : Shared) (H : Hp) (E : XK) (hrG : RmG 3 (A.deeper (envOfC "_law_book" (defScope s__law_book) s.heap.objs.size f cdv))) :
    PSs (cxOf (L2.CX P w) P w K mg base ["_law_pile_here", "_law_lists", "_law_many", "_law_j", "_law_k"] "_law_book" (defScope s__law_book) f cdv A outer s H E) (defBody s__law_book) (liftS K (fun cls d _ H => E cls d H) (r__law_book cl)) := by
  have nd := sc__law_book.nd
  have hr := hrG.rm
  exact (s_cons (s_set (i := 1) nd (d_add (d_int) (d_cl G__law_take tk_fn hrG (c_io (pv 0) (c_ex (d_int) c_nil)))) rfl (.inl rfl))
      (s_cons (s_set (i := 2) nd (d_add (d_int) (d_cl G__law_take tk_fn hrG (c_io (pv 0) (c_ex (d_int) c_nil)))) rfl (.inr rfl))
      (s_one (s_ret (d_comp (own := [("_law_j", 3)]) (g := gName 3) rfl nd (i_range1 B.range (d_var (pv 1))) (show blkC ["_law_pile_here", "_law_lists", "_law_many", "_law_j", "_law_k"] (defScope s__law_book) _ _ = true by decide +kernel) rfl (fun hk => tg_name) (fun _ _ _ _ _ => pg_name (i := 3) nd rfl (.inl rfl)) (fun _ _ _ _ _ => ts_nil) (fun _ _ _ _ _ => (d_fz (d_comp (own := [("_law_k", 4)]) (g := gName 4) rfl nd (i_range1 B.range (d_var (pv 2))) (by rfl) rfl (fun hk => tg_name) (fun _ _ _ _ _ => pg_name (i := 4) nd rfl (.inl rfl)) (fun _ _ _ _ _ => ts_nil) (fun _ _ _ _ _ => (d_cl G__law_worth takes0 hrG (c_io (pv 0) c_nil)))))))))))
theorem ok__law_book {P : Program} {w : World} {K : PySem.W.Frag} {mg : Str → Option Value} {base : Heap} {cl : Nat → Addr} (B : Bl mg) (Er : Er K mg nms cl) (D : DefAt K mg "_law_book" s__law_book ["_law_pile_here"])   (G__law_take : Cal P w K mg base 1 2 "_law_take" (T__law_take cl)) (G__law_worth : Cal P w K mg base 3 1 "_law_worth" (T__law_worth cl)) : Cal P w K mg base 4 1 "_law_book" (T__law_book cl) :=
  cal_ok (m := 4) D sc__law_book rfl rfl (fun f cdv A outer s H E hr => dv__law_book B Er G__law_take G__law_worth f cdv A outer s H E hr) (law__law_book)
/-! _law_weight -/
abbrev s__law_weight : Stmt := top 46
theorem sc__law_weight : FnScope ["_law_pile_here", "_law_way", "_law_top"] ["_law_pile_here"] (defScope s__law_weight) := ⟨rfl, rfl, rfl, by decide +kernel, rfl, by decide +kernel, by decide +kernel⟩
def T__law_weight (cl : Nat → Addr) : Spec := fun as Q _ => ∃ n : Int, as = [.io (.own [.int n])] ∧ 0 ≤ n ∧ ∀ (q : Rat) (n' : Int), 0 ≤ q → Qz 40 q → 0 ≤ n' → Q (qD q) [.own [.int n']]

def r__law_weight (cl : Nat → Addr) : DS :=
    (sSeq (sSet 1 (dCall 2 (T__law_take cl) (cIo 0 (cEx (dC (.int 6)) cNil))))
    (sSeq (sIf (dT (dLt (dVar 1) (dC (.int 2)))) (sRet (dIx (dLst (aCons (dFr (0 : Rat)) (aCons (dFr (1 : Rat)) aNil))) (dVar 1))) (sNext))
    (sSeq (sSet 2 (dCall 2 (T__law_take cl) (cIo 0 (cEx (dIx (dLst (aCons (dC (.int 4)) (aCons (dC (.int 13)) (aCons (dC (.int 100)) (aCons (dPow (dC (.int 10)) (dC (.int 12))) aNil))))) (dSub (dVar 1) (dC (.int 2)))) cNil))))
    (sRet (dCall 2 (T__law_frac cl) (cEx (dVar 2) (cEx (dAdd (dC (.int 1)) (dCall 2 (T__law_take cl) (cIo 0 (cEx (dIx (dLst (aCons (dC (.int 4)) (aCons (dC (.int 12)) (aCons (dC (.int 99)) (aCons (dSub (dPow (dC (.int 10)) (dC (.int 12))) (dC (.int 1))) aNil))))) (dSub (dVar 1) (dC (.int 2)))) cNil)))) cNil)))))))
-- LAW
theorem law__law_weight {cl : Nat → Addr} : ∀ as Q E, T__law_weight cl as Q E → r__law_weight cl (endsOf Q E) (as ++ List.replicate 2 .un) := by
  rintro as Q E ⟨n, rfl, hn, h⟩
  unfold r__law_weight
  have z6 : Sz 9000 6 := sz_om (by omega) (by omega)
  walk_at "st"
  intro r n r0 r1 hn
  have h12 : (10 : Int) ^ 12 = 1000000000000 := by decide
  walk_at "s1"
  refine ifB (fun g => ?_) (fun g => ?_)
  · have g := of_decide_eq_true g
    obtain ⟨k, rfl⟩ : ∃ k : Nat, r = (k : Int) := ⟨r.toNat, by omega⟩
    have hk : k = 0 ∨ k = 1 := by omega
    rcases hk with rfl | rfl
    · walk_at "s1"
      exact h 0 n (by decide) (qz_0.mono (by decide)) hn
    · walk_at "s1"
      exact h 1 n (by decide) (qz_1.mono (by decide)) hn
  have g := of_decide_eq_false g
  have hb : ∃ b c : Int, ixl [D.int 4, .int 13, .int 100, .int (10 ^ 12)] (r - 2) = some (.int b) ∧ ixl [D.int 4, .int 12, .int 99, .int (10 ^ 12 - 1)] (r - 2) = some (.int c) ∧ 0 < b ∧ b ≤ 10 ^ 12 ∧ 0 < c ∧ c < 10 ^ 12 := by
    obtain ⟨k, hk⟩ : ∃ k : Nat, r - 2 = (k : Int) := ⟨(r - 2).toNat, by omega⟩
    rw [hk]
    have hk4 : k < 4 := by omega
    match k, hk4 with
    | 0, _ => exact ⟨4, 4, rfl, rfl, by decide, by decide, by decide, by decide⟩
    | 1, _ => exact ⟨13, 12, rfl, rfl, by decide, by decide, by decide, by decide⟩
    | 2, _ => exact ⟨100, 99, rfl, rfl, by decide, by decide, by decide, by decide⟩
    | 3, _ => exact ⟨10 ^ 12, 10 ^ 12 - 1, rfl, rfl, by decide, by decide, by decide, by decide⟩
    | k + 4, h => omega
  obtain ⟨b, c, eb, ec, b0, b1, c0, c1⟩ := hb
  rw [h12] at b1 c1
  have zb : Sz 9000 b := sz_om (by omega) (by omega)
  have zc : Sz 9000 c := sz_om (by omega) (by omega)
  walk_at "s1"
  refine getO_eq eb ?_
  walk_at "s1"
  intro t n t0 t1 hn
  walk_at "s1"
  refine getO_eq ec ?_
  walk_at "s1"
  intro u n u0 u1 hn
  have e40 : (2 : Nat) ^ 40 = 1099511627776 := by decide
  have st : Sz 40 t := by unfold Sz; omega
  have su : Sz 40 (1 + u) := by unfold Sz; omega
  have u2 : 1 + u ≠ 0 := by omega
  have su9 : Sz 9000 (1 + u) := su.mono (by decide)
  walk_at "s1"
  exact h _ n (rat_div_nonneg t0 (by omega)) (qz_divInt u2 st su) hn

theorem dv__law_weight {P : Program} {w : World} {K : PySem.W.Frag} {mg : Str → Option Value} {base : Heap} {cl : Nat → Addr} (B : Bl mg) (Er : Er K mg nms cl)   (G__law_take : Cal P w K mg base 1 2 "_law_take" (T__law_take cl)) (G__law_frac : Cal P w K mg base 2 2 "_law_frac" (T__law_frac cl)) (f : Addr) (cdv : Value) (A : Around) (outer : List Env) (s : Shared) (H : Hp) (E : XK) (hrG : RmG 2 (A.deeper (envOfC "_law_weight" (defScope s__law_weight) s.heap.objs.size f cdv))) :
    PSs (cxOf (L2.CX P w) P w K mg base ["_law_pile_here", "_law_way", "_law_top"] "_law_weight" (defScope s__law_weight) f cdv A outer s H E) (defBody s__law_weight) (liftS K (fun cls d _ H => E cls d H) (r__law_weight cl)) := by
  have nd := sc__law_weight.nd
  have hr := hrG.rm
  exact (s_cons (s_set (i := 1) nd (d_cl G__law_take tk_fn hrG (c_io (pv 0) (c_ex (d_int) c_nil))) rfl (.inl rfl))
      (s_cons (s_if (t_lt (d_var (pv 1)) (d_int)) (s_one (s_ret (d_ix (d_lst (a_cons (d_fr (0 : Rat) (d_tup (a_cons (d_int) (a_cons (d_int) a_nil)))) (a_cons (d_fr (1 : Rat) (d_tup (a_cons (d_int) (a_cons (d_int) a_nil)))) a_nil))) (d_var (pv 1))))) (s_nil))
      (s_cons (s_set (i := 2) nd (d_cl G__law_take tk_fn hrG (c_io (pv 0) (c_ex (d_ix (d_lst (a_cons (d_int) (a_cons (d_int) (a_cons (d_int) (a_cons (d_pow (d_int) (d_int)) a_nil))))) (d_sub (d_var (pv 1)) (d_int))) c_nil))) rfl (.inl rfl))
      (s_one (s_ret (d_cl G__law_frac tk_fn hrG (c_ex (d_var (pv 2)) (c_ex (d_add (d_int) (d_cl G__law_take tk_fn hrG (c_io (pv 0) (c_ex (d_ix (d_lst (a_cons (d_int) (a_cons (d_int) (a_cons (d_int) (a_cons (d_sub (d_pow (d_int) (d_int)) (d_int)) a_nil))))) (d_sub (d_var (pv 1)) (d_int))) c_nil)))) c_nil))))))))
theorem ok__law_weight {P : Program} {w : World} {K : PySem.W.Frag} {mg : Str → Option Value} {base : Heap} {cl : Nat → Addr} (B : Bl mg) (Er : Er K mg nms cl) (D : DefAt K mg "_law_weight" s__law_weight ["_law_pile_here"])   (G__law_take : Cal P w K mg base 1 2 "_law_take" (T__law_take cl)) (G__law_frac : Cal P w K mg base 2 2 "_law_frac" (T__law_frac cl)) : Cal P w K mg base 3 1 "_law_weight" (T__law_weight cl) :=
  cal_ok (m := 2) D sc__law_weight rfl rfl (fun f cdv A outer s H E hr => dv__law_weight B Er G__law_take G__law_frac f cdv A outer s H E hr) (law__law_weight)
/-! _law_rule -/
abbrev s__law_rule : Stmt := top 47
theorem sc__law_rule : FnScope ["_law_pile_here", "_law_many", "_law_way", "_law_k"] ["_law_pile_here", "_law_many"] (defScope s__law_rule) := ⟨rfl, rfl, rfl, by decide +kernel, rfl, by decide +kernel, by decide +kernel⟩
def T__law_rule (cl : Nat → Addr) : Spec := fun as Q _ => ∃ (n : Int) (m : Nat), as = [.io (.own [.int n]), .va (.int (m : Int))] ∧ 0 ≤ n ∧ 1 ≤ m ∧ m ≤ 4 ∧ ∀ (r : Rule) (n' : Int), Ru r m → RuZ 40 r → 0 ≤ n' → Q (ruO r) [.own [.int n']]

def r__law_rule (cl : Nat → Addr) : DS :=
    (sSeq (sSet 2 (dCall 2 (T__law_take cl) (cIo 0 (cEx (dC (.int 8)) cNil))))
    (sSeq (sIf (dT (dLt (dVar 2) (dC (.int 3)))) (sRet (dTup (aCons (dC (.str "shares")) (aCons (dComp (itR1 (dVar 1)) (tgName 3) tYesD (dCall 1 (T__law_weight cl) (cIo 0 cNil)) [3]) aNil)))) (sNext))
    (sSeq (sIf (dT (dLt (dVar 2) (dC (.int 5)))) (sRet (dTup (aCons (dC (.str "middle")) (aCons (dAdd (dC (.int 1)) (dCall 2 (T__law_take cl) (cIo 0 (cEx (dVar 1) cNil)))) aNil)))) (sNext))
    (sRet (dIx (dLst (aCons (dTup (aCons (dC (.str "least")) aNil)) (aCons (dTup (aCons (dC (.str "greatest")) aNil)) (aCons (dTup (aCons (dC (.str "product")) aNil)) aNil)))) (dSub (dVar 2) (dC (.int 5))))))))
-- LAW
theorem law__law_rule {cl : Nat → Addr} : ∀ as Q E, T__law_rule cl as Q E → r__law_rule cl (endsOf Q E) (as ++ List.replicate 2 .un) := by
  rintro as Q E ⟨n, m, rfl, hn, m1, m4, h⟩
  unfold r__law_rule
  have z8 : Sz 9000 8 := sz_om (by omega) (by omega)
  have zm : Sz 9000 (m : Int) := sz_om (by omega) (by omega)
  have m0 : (0 : Int) < m := by omega
  walk_at "st"
  intro r n r0 r1 hn
  walk_at "s1"
  refine ifB (fun g => ?_) (fun g => ?_)
  · have g := of_decide_eq_true g
    have hrm : (rngD 0 (m : Int)).length ≤ 10000 := by rw [rngD_nat, List.length_map, List.length_range]; omega
    walk_at "s1"
    rw [rngD_nat]
    refine compL_inv (fun i : Nat => .int (i : Int)) (fun pre acc M => ∃ (ws : List Rat) (n : Int), acc = ws.map qD ∧ M = [.io (.own [.int n]), .va (.int (m : Int)), .va (.int r), .un] ∧ 0 ≤ n ∧ ws.length = pre.length ∧ (∀ q ∈ ws, 0 ≤ q ∧ Qz 40 q)) (List.range m) _ ⟨[], n, rfl, rfl, hn, rfl, by simp⟩ ?_ ?_
    · rintro pre j suf acc M e ⟨ws, n, rfl, rfl, hn, hws, hww⟩
      refine ⟨fun i hi => (by cases hi), fun K hK => ?_⟩
      walk_at "s1"
      intro q n' q0 qz hn'
      walk_at "s1"
      exact hK _ _ ⟨ws ++ [q], n', by rw [List.map_append]; rfl, rfl, hn', by simp [hws], fun x hx => by
        rcases List.mem_append.mp hx with hx | hx
        · exact hww x hx
        · rw [List.mem_singleton.mp hx]; exact ⟨q0, qz⟩⟩
    · rintro acc M ⟨ws, n, rfl, rfl, hn, hws, hww⟩
      rw [List.length_range] at hws
      refine ⟨fun i hi => (by cases hi), ?_⟩
      walk_at "s1"
      exact h (.shares ws) n ⟨hws, fun q hq => (hww q hq).1⟩ (fun q hq => (hww q hq).2) hn
  have g := of_decide_eq_false g
  walk_at "s1"
  refine ifB (fun g2 => ?_) (fun g2 => ?_)
  · have g2 := of_decide_eq_true g2
    walk_at "s1"
    intro t n t0 t1 hn
    walk_at "s1"
    obtain ⟨k, ek, hk1, hkm⟩ : ∃ k : Nat, 1 + t = (k : Int) ∧ 1 ≤ k ∧ k ≤ m := ⟨(1 + t).toNat, by omega, by omega, by omega⟩
    rw [ek]
    exact h (.middle k) n ⟨hk1, hkm⟩ trivial hn
  have g2 := of_decide_eq_false g2
  obtain ⟨k, hk, k3⟩ : ∃ k : Nat, r - 5 = (k : Int) ∧ k < 3 := ⟨(r - 5).toNat, by omega, by omega⟩
  walk_at "s1"
  rw [hk]
  match k, k3 with
  | 0, _ => walk_at "s1"; exact h .least n trivial trivial hn
  | 1, _ => walk_at "s1"; exact h .greatest n trivial trivial hn
  | 2, _ => walk_at "s1"; exact h .product n trivial trivial hn

theorem dv__law_rule {P : Program} {w : World} {K : PySem.W.Frag} {mg : Str → Option Value} {base : Heap} {cl : Nat → Addr} (B : Bl mg) (Er : Er K mg nms cl)   (G__law_take : Cal P w K mg base 1 2 "_law_take" (T__law_take cl)) (G__law_weight : Cal P w K mg base 3 1 "_law_weight" (T__law_weight cl)) (f : Addr) (cdv : Value) (A : Around) (outer : List Env) (s : Shared) (H : Hp) (E : XK) (hrG : RmG 3 (A.deeper (envOfC "_law_rule" (defScope s__law_rule) s.heap.objs.size f cdv))) :
    PSs (cxOf (L2.CX P w) P w K mg base ["_law_pile_here", "_law_many", "_law_way", "_law_k"] "_law_rule" (defScope s__law_rule) f cdv A outer s H E) (defBody s__law_rule) (liftS K (fun cls d _ H => E cls d H) (r__law_rule cl)) := by
  have nd := sc__law_rule.nd
  have hr := hrG.rm
  exact (s_cons (s_set (i := 2) nd (d_cl G__law_take tk_fn hrG (c_io (pv 0) (c_ex (d_int) c_nil))) rfl (.inl rfl))
      (s_cons (s_if (t_lt (d_var (pv 2)) (d_int)) (s_one (s_ret (d_tup (a_cons (d_str) (a_cons (d_comp (own := [("_law_k", 3)]) (g := gName 3) rfl nd (i_range1 B.range (d_var (pv 1))) (show blkC ["_law_pile_here", "_law_many", "_law_way", "_law_k"] (defScope s__law_rule) _ _ = true by decide +kernel) rfl (fun hk => tg_name) (fun _ _ _ _ _ => pg_name (i := 3) nd rfl (.inl rfl)) (fun _ _ _ _ _ => ts_nil) (fun _ _ _ _ _ => (d_cl G__law_weight takes0 hrG (c_io (pv 0) c_nil)))) a_nil))))) (s_nil))
      (s_cons (s_if (t_lt (d_var (pv 2)) (d_int)) (s_one (s_ret (d_tup (a_cons (d_str) (a_cons (d_add (d_int) (d_cl G__law_take tk_fn hrG (c_io (pv 0) (c_ex (d_var (pv 1)) c_nil)))) a_nil))))) (s_nil))
      (s_one (s_ret (d_ix (d_lst (a_cons (d_tup (a_cons (d_str) a_nil)) (a_cons (d_tup (a_cons (d_str) a_nil)) (a_cons (d_tup (a_cons (d_str) a_nil)) a_nil)))) (d_sub (d_var (pv 2)) (d_int))))))))
theorem ok__law_rule {P : Program} {w : World} {K : PySem.W.Frag} {mg : Str → Option Value} {base : Heap} {cl : Nat → Addr} (B : Bl mg) (Er : Er K mg nms cl) (D : DefAt K mg "_law_rule" s__law_rule ["_law_pile_here", "_law_many"])   (G__law_take : Cal P w K mg base 1 2 "_law_take" (T__law_take cl)) (G__law_weight : Cal P w K mg base 3 1 "_law_weight" (T__law_weight cl)) : Cal P w K mg base 4 2 "_law_rule" (T__law_rule cl) :=
  cal_ok (m := 2) D sc__law_rule rfl rfl (fun f cdv A outer s H E hr => dv__law_rule B Er G__law_take G__law_weight f cdv A outer s H E hr) (law__law_rule)
/-! _law_is_worth -/
abbrev s__law_is_worth : Stmt := top 48
theorem sc__law_is_worth : FnScope ["_law_thing"] ["_law_thing"] (defScope s__law_is_worth) := ⟨rfl, rfl, rfl, by decide +kernel, rfl, by decide +kernel, by decide +kernel⟩
def T__law_is_worth (cl : Nat → Addr) : Spec := fun as Q _ => ∃ d : D, as = [.va d] ∧ PD 8 d ∧ Q (.bl (isWorthD d)) []

def r__law_is_worth (cl : Nat → Addr) : DS :=
    (sSeq (sIf (tBool (dOr (dNot (dT (dIsi .tuple (dLook 0)))) (dT (dNe (dCal1 gLen (dLook 0)) (dC (.int 2)))))) (sRet (dC (.bl false))) (sNext))
    (sSeq (sIf (tBool (dOr (dNot (dT (dCall 1 (T__law_whole cl) (cEx (dIxS 0 (dC (.int 0))) cNil)))) (dOr (dNot (dT (dCall 1 (T__law_whole cl) (cEx (dIxS 0 (dC (.int 1))) cNil)))) (dT (dLt (dIxS 0 (dC (.int 1))) (dC (.int 1))))))) (sRet (dC (.bl false))) (sNext))
    (sRet ((dBool (dAndV (dLe (dC (.int 0)) (dIxS 0 (dC (.int 0)))) (dAndV (dLe (dIxS 0 (dC (.int 0))) (dIxS 0 (dC (.int 1)))) (dEq (dCall 2 (T__law_shared cl) (cEx (dIxS 0 (dC (.int 0))) (cEx (dIxS 0 (dC (.int 1))) cNil))) (dC (.int 1))))))))))
-- LAW
theorem law__law_is_worth {cl : Nat → Addr} : ∀ as Q E, T__law_is_worth cl as Q E → r__law_is_worth cl (endsOf Q E) (as ++ List.replicate 0 .un) := by
  rintro as Q E ⟨d, rfl, hd, h⟩
  unfold r__law_is_worth
  have no := hd.noOwn
  have pl := hd.plain
  by_cases ht : ∃ x y, d = .tup [x, y]
  · obtain ⟨x, y, rfl⟩ := ht
    have hx := hd.tup.2 x (by simp)
    have hy := hd.tup.2 y (by simp)
    have nx := hx.noOwn
    have ny := hy.noOwn
    have px := hx.plain
    have py := hy.plain
    walk_at "st"
    refine boolT false (fun Q' h' => ?_) ?_
    · walk_at "s1"
      exact h'
    walk_at "s1"
    by_cases hi : isIntD x = true ∧ isIntD y = true
    · obtain ⟨a, rfl⟩ := isIntD_iff.mp hi.1
      obtain ⟨b, rfl⟩ := isIntD_iff.mp hi.2
      have e : isWorthD (.tup [.int a, .int b]) = (decide (1 ≤ b) && decide (Int.gcd a b = 1) && (decide (0 ≤ a) && decide (a ≤ b))) := rfl
      rw [e] at h
      refine boolT (decide (b < 1)) (fun Q' h' => ?_) ?_
      · walk_at "s1"
        exact h'
      walk_at "s1"
      refine ifB (fun c => ?_) (fun c => ?_)
      · have c : b < 1 := of_decide_eq_true c
        rw [decide_eq_false (show ¬ 1 ≤ b by omega), Bool.false_and, Bool.false_and] at h
        walk_at "s1"
        exact h
      · have c : ¬ b < 1 := of_decide_eq_false c
        rw [decide_eq_true (show 1 ≤ b by omega), Bool.true_and] at h
        have eg : D.eqv (.int (Int.gcd a b : Int)) (.int 1) = decide (Int.gcd a b = 1) := by
          rw [eqv_int, Bool.eq_iff_iff, beq_iff_eq, decide_eq_true_iff]; omega
        walk_at "s1"
        refine boolS _ (fun Q' h' => ?_) (by walk_at "s1"; exact h)
        walk_at "s1"
        refine ifB (fun c1 => ?_) (fun c1 => ?_)
        · have c1 : 0 ≤ a := of_decide_eq_true c1
          rw [decide_eq_true c1, Bool.true_and] at h'
          walk_at "s1"
          refine ifB (fun c2 => ?_) (fun c2 => ?_)
          · have c2 : a ≤ b := of_decide_eq_true c2
            rw [decide_eq_true c2, Bool.and_true] at h'
            walk_at "s1"
            rw [eg]
            exact h'
          · have c2 : ¬ a ≤ b := of_decide_eq_false c2
            rw [decide_eq_false c2, Bool.and_false] at h'
            exact h'
        · have c1 : ¬ 0 ≤ a := of_decide_eq_false c1
          rw [decide_eq_false c1, Bool.false_and, Bool.and_false] at h'
          exact h'
    · have e : isWorthD (.tup [x, y]) = false := by
        cases hw : isWorthD (.tup [x, y]) with
        | false => rfl
        | true =>
          obtain ⟨q, eq, _⟩ := isWorthD_iff.mp hw
          have eq2 : D.tup [x, y] = .tup [.int q.num, .int (q.den : Int)] := eq
          simp only [D.tup.injEq, List.cons.injEq, and_true] at eq2
          exact absurd ⟨by rw [eq2.1]; rfl, by rw [eq2.2]; rfl⟩ hi
      rw [e] at h
      refine boolT true (fun Q' h' => ?_) (by walk_at "s1"; exact h)
      walk_at "s1"
      cases hx2 : isIntD x with
      | false =>
        have : (isTy .int x && !isTy .bool x) = false := by
          cases x <;> first | (cases px; done) | rfl | (cases hx2; done)
        rw [this]
        exact h'
      | true =>
        have hy2 : isIntD y = false := by
          cases hy3 : isIntD y with
          | false => rfl
          | true => exact absurd ⟨hx2, hy3⟩ hi
        obtain ⟨a, rfl⟩ := isIntD_iff.mp hx2
        walk_at "s1"
        have : (isTy .int y && !isTy .bool y) = false := by
          cases y <;> first | (cases py; done) | rfl | (cases hy2; done)
        rw [this]
        exact h'
  · have e : isWorthD d = false := by
      cases hb : isWorthD d with
      | false => rfl
      | true => obtain ⟨q, rfl, _⟩ := isWorthD_iff.mp hb; exact absurd ⟨_, _, rfl⟩ ht
    walk_at "st"
    refine boolT true (fun Q' h' => ?_) ?_
    · cases d <;> first | (cases pl; done) | skip
      all_goals
        walk_at "s1"
        first | exact h' | skip
      rename_i l
      have e2 : (!D.eqv (.int (l.length : Int)) (.int 2)) = true := by
        rw [eqv_int, Bool.not_eq_true', beq_eq_false_iff_ne]
        intro c
        match l, c with
        | [x, y], _ => exact ht ⟨x, y, rfl⟩
      rw [e2]
      exact h'
    · rw [e] at h
      walk_at "s1"
      exact h

theorem dv__law_is_worth {P : Program} {w : World} {K : PySem.W.Frag} {mg : Str → Option Value} {base : Heap} {cl : Nat → Addr} (B : Bl mg) (Er : Er K mg nms cl)   (G__law_whole : Cal P w K mg base 1 1 "_law_whole" (T__law_whole cl)) (G__law_shared : Cal P w K mg base 1 2 "_law_shared" (T__law_shared cl)) (f : Addr) (cdv : Value) (A : Around) (outer : List Env) (s : Shared) (H : Hp) (E : XK) (hrG : RmG 1 (A.deeper (envOfC "_law_is_worth" (defScope s__law_is_worth) s.heap.objs.size f cdv))) :
    PSs (cxOf (L2.CX P w) P w K mg base ["_law_thing"] "_law_is_worth" (defScope s__law_is_worth) f cdv A outer s H E) (defBody s__law_is_worth) (liftS K (fun cls d _ H => E cls d H) (r__law_is_worth cl)) := by
  have nd := sc__law_is_worth.nd
  have hr := hrG.rm
  exact (s_cons (s_if (t_bool (PW.pt (t_or (t_not (t_val (d_isi .tuple B.isinstance B.tuple (by decide +kernel) (d_look (pv 0))))) (t_or1 (t_ne hr (d_len B.len (d_look (pv 0))) (d_int)))))) (s_one (s_ret (d_bl))) (s_nil))
      (s_cons (s_if (t_bool (PW.pt (t_or (t_not (t_val (d_cl G__law_whole tk_fn hrG (c_ex (d_ixS (pv 0) (d_int)) c_nil)))) (t_or (t_not (t_val (d_cl G__law_whole tk_fn hrG (c_ex (d_ixS (pv 0) (d_int)) c_nil)))) (t_or1 (t_lt (d_ixS (pv 0) (d_int)) (d_int))))))) (s_one (s_ret (d_bl))) (s_nil))
      (s_one (s_ret ((d_bool (d_and (d_le (d_int) (d_ixS (pv 0) (d_int))) (d_and (d_le (d_ixS (pv 0) (d_int)) (d_ixS (pv 0) (d_int))) (d_one (d_eq hr (d_cl G__law_shared tk_fn hrG (c_ex (d_ixS (pv 0) (d_int)) (c_ex (d_ixS (pv 0) (d_int)) c_nil))) (d_int)))))))))))
theorem ok__law_is_worth {P : Program} {w : World} {K : PySem.W.Frag} {mg : Str → Option Value} {base : Heap} {cl : Nat → Addr} (B : Bl mg) (Er : Er K mg nms cl) (D : DefAt K mg "_law_is_worth" s__law_is_worth ["_law_thing"])   (G__law_whole : Cal P w K mg base 1 1 "_law_whole" (T__law_whole cl)) (G__law_shared : Cal P w K mg base 1 2 "_law_shared" (T__law_shared cl)) : Cal P w K mg base 2 1 "_law_is_worth" (T__law_is_worth cl) :=
  cal_ok (m := 0) D sc__law_is_worth rfl rfl (fun f cdv A outer s H E hr => dv__law_is_worth B Er G__law_whole G__law_shared f cdv A outer s H E hr) (law__law_is_worth)
/-! _law_is_book -/
abbrev s__law_is_book : Stmt := top 49
theorem sc__law_is_book : FnScope ["_law_thing", "_law_worths", "_law_worth_here"] ["_law_thing"] (defScope s__law_is_book) := ⟨rfl, rfl, rfl, by decide +kernel, rfl, by decide +kernel, by decide +kernel⟩
def T__law_is_book (cl : Nat → Addr) : Spec := fun as Q _ => ∃ d : D, as = [.va d] ∧ PD 8 d ∧ Q (.bl (isBookD d)) []

def lb1__law_is_book (cl : Nat → Addr) : DS :=
    (sSeq (sIf (tBool (dOr (dNot (dT (dIsi .list (dLook 1)))) (dOr (dT (dLt (dCal1 gLen (dLook 1)) (dC (.int 1)))) (dOr (dT (dGt (dCal1 gLen (dLook 1)) (dC (.int 12)))) (dT (dNe (dCal1 gLen (dLook 1)) (dCal1 gLen (dIxS 0 (dC (.int 0)))))))))) (sRet (dC (.bl false))) (sNext))
    (sIf (dNot (dT (dCal1 gAll (dComp (itS 1) (tgName 2) tYesD (dCall 1 (T__law_is_worth cl) (cEx (dVar 2) cNil)) [2])))) (sRet (dC (.bl false))) (sNext)))
def r__law_is_book (cl : Nat → Addr) : DS :=
    (sSeq (sIf (tBool (dOr (dNot (dT (dIsi .list (dLook 0)))) (dT (dNin (dCal1 gLen (dLook 0)) (dLst (aCons (dC (.int 1)) (aCons (dC (.int 2)) (aCons (dC (.int 3)) (aCons (dC (.int 4)) aNil))))))))) (sRet (dC (.bl false))) (sNext))
    (sSeq (sFor [1] (itS 0) (tgName 1) (lb1__law_is_book cl))
    (sRet (dC (.bl true)))))
-- LAW
theorem law__law_is_book {cl : Nat → Addr} : ∀ as Q E, T__law_is_book cl as Q E → r__law_is_book cl (endsOf Q E) (as ++ List.replicate 2 .un) := by
  rintro as Q E ⟨d, rfl, hd, h⟩
  unfold r__law_is_book
  have no := hd.noOwn
  have pl := hd.plain
  by_cases ht : ∃ l, d = .lst l
  · obtain ⟨l, rfl⟩ := ht
    have ok4 : eqOk (.int (l.length : Int)) (.own [.int 1, .int 2, .int 3, .int 4]) := by
      refine ⟨trivial, ?_⟩
      unfold okD
      intro x hx
      simp only [List.mem_cons, List.not_mem_nil, or_false] at hx
      rcases hx with rfl | rfl | rfl | rfl <;> trivial
    have in4 : inD (.int (l.length : Int)) [.int 1, .int 2, .int 3, .int 4] = decide (1 ≤ l.length ∧ l.length ≤ 4) := by
      unfold inD
      simp only [List.any_cons, List.any_nil, Bool.or_false, eqv_int]
      rw [Bool.eq_iff_iff]
      simp only [Bool.or_eq_true, beq_iff_eq, decide_eq_true_eq]
      omega
    walk_at "st"
    refine boolT (!decide (1 ≤ l.length ∧ l.length ≤ 4)) (fun Q' h' => ?_) ?_
    · walk_at "s1"
      rw [in4]
      exact h'
    walk_at "s1"
    refine ifB (fun c => ?_) (fun c => ?_)
    · have c : ¬ (1 ≤ l.length ∧ l.length ≤ 4) := of_decide_eq_false (bnT c)
      have e : isBookD (.lst l) = false := by
        cases hb : isBookD (.lst l) with
        | false => rfl
        | true =>
          obtain ⟨b, m, eb, hk⟩ := isBookD_iff.mp hb
          have : l.length = b.length := by
            unfold bkL at eb
            simp only [D.lst.injEq] at eb
            rw [eb, List.length_map]
          have := hk.l1
          have := hk.l4
          omega
      rw [e] at h
      walk_at "s1"
      exact h
    have c : 1 ≤ l.length ∧ l.length ≤ 4 := of_decide_eq_true (bnF c)
    obtain ⟨x0, r, el⟩ : ∃ x0 r, l = x0 :: r := by
      cases l with
      | nil => simp at c
      | cons x0 r => exact ⟨x0, r, rfl⟩
    have p0 := hd.lst.2 x0 (by rw [el]; simp)
    have n0 := p0.noOwn
    have pl0 := p0.plain
    by_cases hw : ∃ w, x0 = .lst w
    · obtain ⟨w, rfl⟩ := hw
      have eB : isBookD (.lst l) = l.all fun x => decide (1 ≤ w.length) && decide (w.length ≤ 12) && areWorthsD x w.length := by
        rw [el] at c ⊢
        rw [List.length_cons] at c
        have : isBookD (.lst (.lst w :: r)) = (decide (r.length + 1 ≤ 4) && (decide (1 ≤ w.length) && (decide (w.length ≤ 12) && (D.lst w :: r).all fun x => areWorthsD x w.length))) := rfl
        rw [this, decide_eq_true c.2, Bool.true_and]
        cases decide (1 ≤ w.length) <;> cases decide (w.length ≤ 12) <;> simp
      have x0i : ixl l 0 = some (.lst w) := by rw [el]; rfl
      have step : ∀ x ∈ l, PD 8 x := fun x hx => (hd.lst.2 x hx).mono (by decide)
      have elm : l = l.map id := (List.map_id l).symm
      have notB : ∀ x ∈ l, (decide (1 ≤ w.length) && decide (w.length ≤ 12) && areWorthsD x w.length) = false → isBookD (.lst l) = false := fun x hx e => by
        rw [eB, List.all_eq_false]
        exact ⟨x, hx, by rw [e]; simp⟩
      walk_at "s1"
      rw [show forL [1] (tgName 1) (lb1__law_is_book cl) _ l _ = forL [1] (tgName 1) (lb1__law_is_book cl) _ (l.map id) _ from by rw [List.map_id]]
      refine forL_each id (fun x => (decide (1 ≤ w.length) && decide (w.length ≤ 12) && areWorthsD x w.length) = true) l ?_ ?_
      · rintro pre x suf e hpre C hC
        have hx : x ∈ l := by rw [e]; simp
        have px := step x hx
        have nx := px.noOwn
        have plx := px.plain
        by_cases hv : ∃ v, x = .lst v
        · obtain ⟨v, rfl⟩ := hv
          have ea : areWorthsD (.lst v) w.length = (decide ((v.length : Int) = w.length) && v.all isWorthD) := rfl
          have h10 : v.length ≤ 10000 := by have := px.lst.1; omega
          walk_at "s1"
          refine boolIf (!(decide (1 ≤ v.length) && (decide (v.length ≤ 12) && decide ((v.length : Int) = w.length)))) (fun Q' h' => ?_) (fun c1 => ?_) (fun c1 => ?_)
          · walk_at "s1"
            refine ifB (fun c1 => ?_) (fun c1 => ?_)
            · have c1 : (v.length : Int) < 1 := of_decide_eq_true c1
              rw [decide_eq_false (show ¬ 1 ≤ v.length by omega)] at h'
              exact h'
            · have c1 : ¬ (v.length : Int) < 1 := of_decide_eq_false c1
              rw [decide_eq_true (show 1 ≤ v.length by omega), Bool.true_and] at h'
              walk_at "s1"
              refine ifB (fun c2 => ?_) (fun c2 => ?_)
              · have c2 : (12 : Int) < (v.length : Int) := of_decide_eq_true c2
                rw [decide_eq_false (show ¬ v.length ≤ 12 by omega)] at h'
                exact h'
              · have c2 : ¬ (12 : Int) < (v.length : Int) := of_decide_eq_false c2
                rw [decide_eq_true (show v.length ≤ 12 by omega), Bool.true_and] at h'
                walk_at "s1"
                refine getO_eq x0i ?_
                walk_at "s1"
                have : D.eqv (.int (v.length : Int)) (.int (w.length : Int)) = decide ((v.length : Int) = w.length) := by
                  rw [eqv_int, Bool.eq_iff_iff, beq_iff_eq, decide_eq_true_iff]
                rw [this]
                exact h'
          · have : (decide (1 ≤ w.length) && decide (w.length ≤ 12) && areWorthsD (.lst v) w.length) = false := by
              rw [ea]
              by_cases hl : (v.length : Int) = w.length
              · have hl2 : v.length = w.length := by omega
                rw [← hl2]
                rw [decide_eq_true hl, Bool.and_true] at c1
                revert c1
                cases decide (1 ≤ v.length) <;> cases decide (v.length ≤ 12) <;> simp
              · rw [decide_eq_false hl, Bool.false_and, Bool.and_false]
            rw [notB _ hx this] at h
            walk_at "s1"
            exact h
          · have c1 : (decide (1 ≤ v.length) && (decide (v.length ≤ 12) && decide ((v.length : Int) = w.length))) = true := bnF c1
            simp only [Bool.and_eq_true, decide_eq_true_eq] at c1
            walk_at "s1"
            rw [← List.map_id v]
            refine compL_map id (fun d => .bl (isWorthD d)) v (fun i hi => by cases hi) (fun y hy K hK => ?_) ?_
            · have hy := (px.lst.2 y hy).mono (show _ ≤ 8 by decide)
              have ny := hy.noOwn
              walk_at "s1"
              exact hK
            rw [List.map_id]
            refine getO_eq (show asBls (v.map fun d => D.bl (isWorthD d)) = some (v.map isWorthD) by rw [← asBls_map, List.map_map]; rfl) ?_
            have e2 : (v.map isWorthD).all id = v.all isWorthD := by rw [List.all_map]; rfl
            walk_at "s1"
            rw [e2]
            have hl2 : v.length = w.length := by omega
            have e3 : (decide (1 ≤ w.length) && decide (w.length ≤ 12) && areWorthsD (.lst v) w.length) = v.all isWorthD := by
              rw [ea, ← hl2, decide_eq_true c1.1, decide_eq_true c1.2.1]
              simp
            refine ifB (fun c2 => ?_) (fun c2 => ?_)
            · rw [notB _ hx (by rw [e3]; exact bnT c2)] at h
              walk_at "s1"
              exact h
            · walk_at "s1"
              exact hC (by rw [e3]; exact bnF c2)
        · have e0 : (decide (1 ≤ w.length) && decide (w.length ≤ 12) && areWorthsD x w.length) = false := by
            have : areWorthsD x w.length = false := by
              cases x <;> first | rfl | exact absurd ⟨_, rfl⟩ hv
            rw [this, Bool.and_false]
          rw [notB _ hx e0] at h
          have hl : isTy .list x = false := by
            cases x <;> first | rfl | (cases nx; done) | (cases plx; done) | exact absurd ⟨_, rfl⟩ hv
          walk_at "s1"
          refine boolT true (fun Q' h' => ?_) (by walk_at "s1"; exact h)
          walk_at "s1"
          rw [show isTy .list (id x) = false from hl]
          exact h'
      · intro hall
        have : isBookD (.lst l) = true := by rw [eB, List.all_eq_true]; exact hall
        rw [this] at h
        walk_at "s1"
        exact h
    · have e : isBookD (.lst l) = false := by
        cases hb : isBookD (.lst l) with
        | false => rfl
        | true =>
          obtain ⟨b, m, eb, hk⟩ := isBookD_iff.mp hb
          cases b with
          | nil => have := hk.l1; simp at this
          | cons y b =>
            unfold bkL at eb
            rw [List.map_cons, el] at eb
            simp only [D.lst.injEq, List.cons.injEq] at eb
            exact absurd ⟨_, eb.1⟩ hw
      rw [e] at h
      have hl : isTy .list x0 = false := by
        cases x0 <;> first | rfl | (cases n0; done) | (cases pl0; done) | exact absurd ⟨_, rfl⟩ hw
      subst el
      walk_at "s1"
      refine boolT true (fun Q' h' => ?_) (by walk_at "s1"; exact h)
      walk_at "s1"
      rw [hl]
      exact h'
  · have e : isBookD d = false := by
      cases hb : isBookD d with
      | false => rfl
      | true => obtain ⟨b, m, rfl, _⟩ := isBookD_iff.mp hb; exact absurd ⟨_, rfl⟩ ht
    rw [e] at h
    walk_at "st"
    refine boolT true (fun Q' h' => ?_) (by walk_at "s1"; exact h)
    cases d <;> first | (cases pl; done) | (cases no; done) | (walk_at "s1"; exact h'; done) | exact absurd ⟨_, rfl⟩ ht

theorem dv__law_is_book {P : Program} {w : World} {K : PySem.W.Frag} {mg : Str → Option Value} {base : Heap} {cl : Nat → Addr} (B : Bl mg) (Er : Er K mg nms cl)   (G__law_is_worth : Cal P w K mg base 2 1 "_law_is_worth" (T__law_is_worth cl)) (f : Addr) (cdv : Value) (A : Around) (outer : List Env) (s : Shared) (H : Hp) (E : XK) (hrG : RmG 2 (A.deeper (envOfC "_law_is_book" (defScope s__law_is_book) s.heap.objs.size f cdv))) :
    PSs (cxOf (L2.CX P w) P w K mg base ["_law_thing", "_law_worths", "_law_worth_here"] "_law_is_book" (defScope s__law_is_book) f cdv A outer s H E) (defBody s__law_is_book) (liftS K (fun cls d _ H => E cls d H) (r__law_is_book cl)) := by
  have nd := sc__law_is_book.nd
  have hr := hrG.rm
  exact (s_cons (s_if (t_bool (PW.pt (t_or (t_not (t_val (d_isi .list B.isinstance B.list (by decide +kernel) (d_look (pv 0))))) (t_or1 (t_nin hr (d_len B.len (d_look (pv 0))) (d_lst (a_cons (d_int) (a_cons (d_int) (a_cons (d_int) (a_cons (d_int) a_nil)))))))))) (s_one (s_ret (d_bl))) (s_nil))
      (s_cons (s_for (vs := [1]) (g := gName 1) po_fn rfl (i_slot (pv 0)) (pg_name (i := 1) nd rfl (.inl rfl)) (tg_name) (s_cons (s_if (t_bool (PW.pt (t_or (t_not (t_val (d_isi .list B.isinstance B.list (by decide +kernel) (d_look (pv 1))))) (t_or (t_lt (d_len B.len (d_look (pv 1))) (d_int)) (t_or (t_gt (d_len B.len (d_look (pv 1))) (d_int)) (t_or1 (t_ne hr (d_len B.len (d_look (pv 1))) (d_len B.len (d_eb (d_ixS (pv 0) (d_int))))))))))) (s_one (s_ret (d_bl))) (s_nil))
      (s_one (s_if (t_not (t_val (d_all rfl B.all (d_eb (d_comp (own := [("_law_worth_here", 2)]) (g := gName 2) rfl nd (i_slot (pv 1)) (show blkC ["_law_thing", "_law_worths", "_law_worth_here"] (defScope s__law_is_book) _ _ = true by decide +kernel) rfl (fun hk => tg_name) (fun _ _ _ _ _ => pg_name (i := 2) nd rfl (.inl rfl)) (fun _ _ _ _ _ => ts_nil) (fun _ _ _ _ _ => (d_cl G__law_is_worth takes0 hrG (c_ex (d_var (pv 2)) c_nil)))))))) (s_one (s_ret (d_bl))) (s_nil)))))
      (s_one (s_ret (d_bl)))))
theorem ok__law_is_book {P : Program} {w : World} {K : PySem.W.Frag} {mg : Str → Option Value} {base : Heap} {cl : Nat → Addr} (B : Bl mg) (Er : Er K mg nms cl) (D : DefAt K mg "_law_is_book" s__law_is_book ["_law_thing"])   (G__law_is_worth : Cal P w K mg base 2 1 "_law_is_worth" (T__law_is_worth cl)) : Cal P w K mg base 3 1 "_law_is_book" (T__law_is_book cl) :=
  cal_ok (m := 2) D sc__law_is_book rfl rfl (fun f cdv A outer s H E hr => dv__law_is_book B Er G__law_is_worth f cdv A outer s H E hr) (law__law_is_book)
/-! _law_odd -/
abbrev s__law_odd : Stmt := top 50
theorem sc__law_odd : FnScope ["_law_pile_here", "_law_some"] ["_law_pile_here"] (defScope s__law_odd) := ⟨rfl, rfl, rfl, by decide +kernel, rfl, by decide +kernel, by decide +kernel⟩
def T__law_odd (cl : Nat → Addr) : Spec := fun as Q _ => ∃ n : Int, as = [.io (.own [.int n])] ∧ 0 ≤ n ∧ ∀ (x : D) (n' : Int), PD 4 x → Sh 200 x → isWorthD x = false → 0 ≤ n' → Q x [.own [.int n']]

def r__law_odd (cl : Nat → Addr) : DS :=
    (sSeq (sSet 1 (dFz (dLst (aCons (dFr (3 / 2 : Rat)) (aCons (dTup (aCons (dSub (dC (.int 0)) (dC (.int 1))) (aCons (dC (.int 2)) aNil))) (aCons (dTup (aCons (dC (.int 2)) (aCons (dC (.int 4)) aNil))) (aCons (dTup (aCons (dC (.int 0)) (aCons (dC (.int 2)) aNil))) (aCons (dTup (aCons (dC (.int 1)) (aCons (dC (.int 0)) aNil))) (aCons (dTup (aCons (dC (.int 0)) (aCons (dC (.int 0)) aNil))) (aCons (dTup (aCons (dC (.int 1)) (aCons (dSub (dC (.int 0)) (dC (.int 1))) aNil))) (aCons (dTup (aCons (dC (.bl true)) (aCons (dC (.int 1)) aNil))) (aCons (dTup (aCons (dC (.int 1)) (aCons (dC (.bl true)) aNil))) (aCons (dTup (aCons (dC (.int 0)) aNil)) (aCons (dTup (aCons (dC (.int 1)) (aCons (dC (.int 2)) (aCons (dC (.int 3)) aNil)))) (aCons (dTup aNil) aNil)))))))))))))))
    (sSeq (sSet 1 (dFz (dCat (dVar 1) (dLst (aCons (dFz (dLst (aCons (dC (.int 1)) (aCons (dC (.int 2)) aNil)))) (aCons (dC (.int 1)) (aCons (dC (.int 0)) (aCons (dC .non) (aCons (dC (.str "1/2")) (aCons (dC (.bl true)) (aCons (dTup (aCons (dFr (0 : Rat)) (aCons (dFr (1 : Rat)) aNil))) (aCons (dTup (aCons (dPow (dC (.int 10)) (dC (.int 12))) (aCons (dPow (dC (.int 10)) (dC (.int 12))) aNil))) (aCons (dTup (aCons (dC (.str "0")) (aCons (dC (.int 1)) aNil))) (aCons (dTup (aCons (dC .non) (aCons (dC (.int 1)) aNil))) (aCons (dFz (dLst aNil)) aNil)))))))))))))))
    (sRet (dIxS 1 (dCall 2 (T__law_take cl) (cIo 0 (cEx (dC (.int 23)) cNil)))))))
-- LAW
theorem law__law_odd {cl : Nat → Addr} : ∀ as Q E, T__law_odd cl as Q E → r__law_odd cl (endsOf Q E) (as ++ List.replicate 1 .un) := by
  rintro as Q E ⟨n, rfl, hn, h⟩
  unfold r__law_odd
  have zs : Sz 9000 (23 : Int) := sz_om (by omega) (by omega)
  walk_at "st"
  intro r n' r0 r1 hn'
  walk_at "s1"
  refine getO_odd (a := 4) (b := 200) (by decide +kernel) r0 r1 fun d h1 h2 h3 => ?_
  have no := h1.noOwn
  walk_at "s1"
  exact h d n' h1 h2 h3 hn'

theorem dv__law_odd {P : Program} {w : World} {K : PySem.W.Frag} {mg : Str → Option Value} {base : Heap} {cl : Nat → Addr} (B : Bl mg) (Er : Er K mg nms cl)   (G__law_take : Cal P w K mg base 1 2 "_law_take" (T__law_take cl)) (f : Addr) (cdv : Value) (A : Around) (outer : List Env) (s : Shared) (H : Hp) (E : XK) (hrG : RmG 1 (A.deeper (envOfC "_law_odd" (defScope s__law_odd) s.heap.objs.size f cdv))) :
    PSs (cxOf (L2.CX P w) P w K mg base ["_law_pile_here", "_law_some"] "_law_odd" (defScope s__law_odd) f cdv A outer s H E) (defBody s__law_odd) (liftS K (fun cls d _ H => E cls d H) (r__law_odd cl)) := by
  have nd := sc__law_odd.nd
  have hr := hrG.rm
  exact (s_cons (s_set (i := 1) nd (d_fz (d_lst (a_cons (d_fr (3 / 2 : Rat) (d_tup (a_cons (d_int) (a_cons (d_int) a_nil)))) (a_cons (d_tup (a_cons (d_sub (d_int) (d_int)) (a_cons (d_int) a_nil))) (a_cons (d_tup (a_cons (d_int) (a_cons (d_int) a_nil))) (a_cons (d_tup (a_cons (d_int) (a_cons (d_int) a_nil))) (a_cons (d_tup (a_cons (d_int) (a_cons (d_int) a_nil))) (a_cons (d_tup (a_cons (d_int) (a_cons (d_int) a_nil))) (a_cons (d_tup (a_cons (d_int) (a_cons (d_sub (d_int) (d_int)) a_nil))) (a_cons (d_tup (a_cons (d_bl) (a_cons (d_int) a_nil))) (a_cons (d_tup (a_cons (d_int) (a_cons (d_bl) a_nil))) (a_cons (d_tup (a_cons (d_int) a_nil)) (a_cons (d_tup (a_cons (d_int) (a_cons (d_int) (a_cons (d_int) a_nil)))) (a_cons (d_tup a_nil) a_nil)))))))))))))) rfl (.inl rfl))
      (s_cons (s_set (i := 1) nd (d_fz (d_cat (d_var (pv 1)) (d_lst (a_cons (d_fz (d_lst (a_cons (d_int) (a_cons (d_int) a_nil)))) (a_cons (d_int) (a_cons (d_int) (a_cons (d_non) (a_cons (d_str) (a_cons (d_bl) (a_cons (d_tup (a_cons (d_fr (0 : Rat) (d_tup (a_cons (d_int) (a_cons (d_int) a_nil)))) (a_cons (d_fr (1 : Rat) (d_tup (a_cons (d_int) (a_cons (d_int) a_nil)))) a_nil))) (a_cons (d_tup (a_cons (d_pow (d_int) (d_int)) (a_cons (d_pow (d_int) (d_int)) a_nil))) (a_cons (d_tup (a_cons (d_str) (a_cons (d_int) a_nil))) (a_cons (d_tup (a_cons (d_non) (a_cons (d_int) a_nil))) (a_cons (d_fz (d_lst a_nil)) a_nil)))))))))))))) rfl (.inl rfl))
      (s_one (s_ret (d_ixS (pv 1) (d_cl G__law_take tk_fn hrG (c_io (pv 0) (c_ex (d_int) c_nil))))))))
theorem ok__law_odd {P : Program} {w : World} {K : PySem.W.Frag} {mg : Str → Option Value} {base : Heap} {cl : Nat → Addr} (B : Bl mg) (Er : Er K mg nms cl) (D : DefAt K mg "_law_odd" s__law_odd ["_law_pile_here"])   (G__law_take : Cal P w K mg base 1 2 "_law_take" (T__law_take cl)) : Cal P w K mg base 2 1 "_law_odd" (T__law_odd cl) :=
  cal_ok (m := 1) D sc__law_odd rfl rfl (fun f cdv A outer s H E hr => dv__law_odd B Er G__law_take f cdv A outer s H E hr) (law__law_odd)
/-! _law_bent -/
abbrev s__law_bent : Stmt := top 51
theorem sc__law_bent : FnScope ["_law_book_here", "_law_pile_here", "_law_found", "_law_way", "_law_at", "_law_thing", "_law_worths", "_law_k"] ["_law_book_here", "_law_pile_here"] (defScope s__law_bent) := ⟨rfl, rfl, rfl, by decide +kernel, rfl, by decide +kernel, by decide +kernel⟩
def T__law_bent (cl : Nat → Addr) : Spec := fun as Q _ => ∃ (b : List (List Rat)) (m : Nat) (n : Int), as = [.va (bkL b), .io (.own [.int n])] ∧ Bk b m ∧ BkZ 40 b ∧ 0 ≤ n ∧ ∀ (d e : D) (n' : Int), d.frz = e → Bent e → 0 ≤ n' → Q d [.own [.int n']]

def r__law_bent (cl : Nat → Addr) : DS :=
    (sSeq (sSet 2 (dComp (itS 0) (tgName 6) tYesD (dList (dLook 6)) [6]))
    (sSeq (sSet 3 (dCall 2 (T__law_take cl) (cIo 1 (cEx (dC (.int 12)) cNil))))
    (sSeq (sSet 4 (dCall 2 (T__law_take cl) (cIo 1 (cEx (dCal1 gLen (dLook 0)) cNil))))
    (sSeq (sSet 5 (dCall 2 (T__law_take cl) (cIo 1 (cEx (dCal1 gLen (dIxS 0 (dC (.int 0)))) cNil))))
    (sSeq (sIf (dT (dEq (dVar 3) (dC (.int 0)))) (sPre [2] (sRet (dIx (dLst (aCons (dFz (dLst aNil)) (aCons (dTupOf (dLook 2)) (aCons (dIxS 2 (dC (.int 0))) (aCons (dC .non) (aCons (dC (.str "1 1/2")) (aCons (dC (.bl true)) (aCons (dC (.int 7)) (aCons (dFz (dLst (aCons (dFz (dLst aNil)) aNil))) (aCons (dFz (dLst (aCons (dFz (dLst aNil)) (aCons (dFz (dLst aNil)) aNil)))) aNil)))))))))) (dCall 2 (T__law_take cl) (cIo 1 (cEx (dC (.int 9)) cNil)))))) (sNext))
    (sSeq (sIf (dT (dEq (dVar 3) (dC (.int 1)))) (sPre [2] (sRet (dCat (dFrz 2) (dComp (itR1 (dAdd (dC (.int 1)) (dCall 2 (T__law_take cl) (cIo 1 (cEx (dC (.int 4)) cNil))))) (tgName 7) tYesD (dFz (dList (dIxS 2 (dC (.int 0))))) [7])))) (sNext))
    (sSeq (sIf (dT (dEq (dVar 3) (dC (.int 2)))) (sPre [2] (sRet (dComp (itS 2) (tgName 6) tYesD (dFz (dSl (dRep (dVar 6) (dC (.int 13))) oNone (oSome (dAdd (dC (.int 12)) (dMod (dVar 5) (dC (.int 2))))))) [6]))) (sNext))
    (sCut (sIf (dT (dEq (dVar 3) (dC (.int 3)))) (sExpr (dPopAtP 2 [(.s 4)] (.s 5))) (sNext))
    (sCut (sIf (dT (dEq (dVar 3) (dC (.int 4)))) (sExpr (dAppP 2 [(.s 4)] (.ix (.ix (.s 2) (.s 4)) (.s 5)))) (sNext))
    (sSeq (sIf (dT (dEq (dVar 3) (dC (.int 5)))) (sPreR 2 (sPut 2 (dIx (dLst (aCons (dTupOf (dIxS 2 (dVar 4))) (aCons (dC .non) (aCons (dIx (dIxS 2 (dVar 4)) (dC (.int 0))) (aCons (dFz (dLst (aCons (dIxS 2 (dVar 4)) aNil))) (aCons (dC (.str "1")) aNil)))))) (dCall 2 (T__law_take cl) (cIo 1 (cEx (dC (.int 5)) cNil)))) (dVar 4))) (sNext))
    (sSeq (sIf (tBool (dAnd (dT (dGt (dVar 3) (dC (.int 5)))) (dT (dLt (dVar 3) (dC (.int 11)))))) (sPutP 2 [(.s 4)] (dCall 1 (T__law_odd cl) (cIo 1 cNil)) (.s 5)) (sNext))
    (sRet (dMov 2)))))))))))))
-- LAW
theorem law__law_bent {cl : Nat → Addr} : ∀ as Q E, T__law_bent cl as Q E → r__law_bent cl (endsOf Q E) (as ++ List.replicate 6 .un) := by
  rintro as Q E ⟨b, m, n, rfl, hb, hz, hn, h⟩
  unfold r__law_bent
  have b1 := hb.l1
  have b4 := hb.l4
  have m1 := hb.m1
  have m12 := hb.m12
  have b10 : (b.map qL).length ≤ 10000 := by rw [List.length_map]; omega
  have z12 : Sz 9000 (12 : Int) := sz_om (by omega) (by omega)
  have zb : Sz 9000 (((b.map qL).length : Nat) : Int) := by rw [List.length_map]; exact sz_om (by omega) (by omega)
  have pb : 0 < (((b.map qL).length : Nat) : Int) := by rw [List.length_map]; omega
  obtain ⟨w, rr, ew, hw⟩ := hb.head
  have x0 : ixl (b.map qL) 0 = some (qL w) := by rw [ew]; rfl
  have lw : (((w.map qD).length : Nat) : Int) = (m : Int) := by rw [List.length_map, hw]
  have zm : Sz 9000 (((w.map qD).length : Nat) : Int) := by rw [lw]; exact sz_om (by omega) (by omega)
  have pm : 0 < (((w.map qD).length : Nat) : Int) := by rw [lw]; omega
  walk_at "st"
  refine compL_map qL qO b (fun i hi => by cases hi) (fun r hr K hK => ?_) ?_
  · have nr := noOwns_qD r
    walk_at "s1"
    exact hK
  walk_at "s1"
  intro way n1 w0 w1 hn1
  walk_at "s1"
  intro at0 n2 a0 a1 hn2
  walk_at "s1"
  refine getO_eq x0 ?_
  walk_at "s1"
  intro thg n3 t0 t1 hn3
  rw [List.length_map] at a1
  rw [lw] at t1
  obtain ⟨i, rfl, hi⟩ : ∃ i : Nat, at0 = (i : Int) ∧ i < b.length := ⟨at0.toNat, by omega, by omega⟩
  obtain ⟨j, rfl, hj⟩ : ∃ j : Nat, thg = (j : Int) ∧ j < m := ⟨thg.toNat, by omega, by omega⟩
  have fzs : D.frzs (b.map qO) = b.map qL := frzs_map frz_qO b
  have nb := noOwns_qL b
  have hrow := getD_mem (d := []) hi
  have lrow := hb.len _ hrow
  have hl13 : ∀ r ∈ b, r.length ≤ 13 := fun r hr => by have := hb.len r hr; omega
  have z9 : Sz 9000 (9 : Int) := sz_om (by omega) (by omega)
  have z4 : Sz 9000 (4 : Int) := sz_om (by omega) (by omega)
  have z5 : Sz 9000 (5 : Int) := sz_om (by omega) (by omega)
  have j63 : -(2 ^ 63) ≤ (j : Int) ∧ (j : Int) < 2 ^ 63 := by omega
  have ei : ixn (b.map qO).length (i : Int) = some i := ixn_nat (by rw [List.length_map]; exact hi)
  have eri : (b.map qO)[i]? = some (.own ((b.getD i []).map qD)) := by rw [List.getElem?_map, List.getElem?_eq_getElem hi, List.getD_eq_getElem?_getD, List.getElem?_eq_getElem hi]; rfl
  have ea : (D.own (b.map qO)).atP [(i : Int)] = some (.own ((b.getD i []).map qD)) := by
    unfold D.atP
    rw [ei]
    show ((b.map qO)[i]?).bind _ = _
    rw [eri]; rfl
  have ep : ∀ l : List D, (D.own (b.map qO)).putP [(i : Int)] (.own l) = .own ((b.map qO).set i (.own l)) := by
    intro l
    unfold D.putP
    simp only [ei, eri]
    rfl
  have ej : ixn ((b.getD i []).map qD).length (j : Int) = some j := ixn_nat (by rw [List.length_map]; omega)
  have ew2 : ((b.getD i []).map qD)[j]? = some (qD (wt (b.getD i []) j)) := by
    rw [List.getElem?_map, List.getElem?_eq_getElem (by omega), wt, List.getD_eq_getElem?_getD (l := b.getD i []), List.getElem?_eq_getElem (by omega)]; rfl
  have fin : ∀ c : List (List Rat), BkZ 40 c → (∀ r ∈ c, r.length ≤ 13) → c.length ≤ 8 → Q (.own (c.map qO)) [.own [.int n3]] := fun c g1 g2 g3 => h _ (bkL c) n3 (frz_bkO c) (bent_rows g1 g2 g3) hn3
  have zset : ∀ r : List Rat, (∀ q ∈ r, q ∈ b.getD i []) → BkZ 40 (b.set i r) := fun r hr x hx q hq => by
    rcases List.mem_or_eq_of_mem_set hx with hx | rfl
    · exact hz x hx q hq
    · exact hz _ hrow q (hr q hq)
  have lset : ∀ r : List Rat, r.length ≤ 13 → ∀ x ∈ b.set i r, x.length ≤ 13 := fun r hr x hx => by
    rcases List.mem_or_eq_of_mem_set hx with hx | rfl
    · exact hl13 x hx
    · exact hr
  have eset : ∀ r : List Rat, (b.map qO).set i (.own (r.map qD)) = (b.set i r).map qO := fun r => by rw [List.map_set]; rfl
  rcases (show way = 0 ∨ way = 1 ∨ way = 2 ∨ way = 3 ∨ way = 4 ∨ way = 5 ∨ (5 < way ∧ way < 11) ∨ way = 11 by omega) with rfl | rfl | rfl | rfl | rfl | rfl | ⟨w5, w11⟩ | rfl
  · walk_at "s1"
    refine ⟨_, frz_bkO b, ?_⟩
    walk_at "s1"
    refine getO_eq x0 ?_
    have hB : ∀ d ∈ [D.lst [], .tup (b.map qL), qL w, .non, .str "1 1/2", .bl true, .int 7, .lst [.lst []], .lst [.lst [], .lst []]], Bent d := by
      intro d hd
      simp only [List.mem_cons, List.not_mem_nil, or_false] at hd
      have pr := pd_rows hl13 (by omega)
      have sr := sh_bkL hz hl13 (by omega)
      rcases hd with rfl | rfl | rfl | rfl | rfl | rfl | rfl | rfl | rfl
      · exact bent_no (pdB_ok (by decide +kernel)) (shB_ok (by decide +kernel)) rfl
      · refine bent_no (pd_tup (n := 5) (by rw [List.length_map]; omega) fun d hd => ?_) (sh_tup (n := 1105) (fun d hd => ?_) (by rw [List.length_map]; omega)) rfl
        · obtain ⟨r, hr, rfl⟩ := List.mem_map.mp hd
          exact pd_qL 3 r (by have := hl13 r hr; omega)
        · obtain ⟨r, hr, rfl⟩ := List.mem_map.mp hd
          exact sh_qL (hz r hr) (hl13 r hr)
      · have wm : w ∈ b := by rw [ew]; simp
        refine bent_no ((pd_qL 4 w (by omega))) ((sh_qL (hz w wm) (by omega)).mono (by decide)) ?_
        cases w with
        | nil => rfl
        | cons q w => rfl
      all_goals exact bent_no (pdB_ok (by decide +kernel)) (shB_ok (by decide +kernel)) rfl
    walk_at "s1"
    intro r n4 r0 r1 hn4
    obtain ⟨d, e1, hm⟩ := ixl_mem (l := [D.lst [], .tup (b.map qL), qL w, .non, .str "1 1/2", .bl true, .int 7, .lst [.lst []], .lst [.lst [], .lst []]]) r0 (by simpa using r1)
    have hd := hB d hm
    have no := hd.1.noOwn
    walk_at "s1"
    refine getO_eq e1 ?_
    walk_at "s1"
    exact h d d _ (frz_of _ no) hd hn4
  · walk_at "s1"
    refine ⟨_, frz_bkO b, ?_⟩
    walk_at "s1"
    intro r n4 r0 r1 hn4
    obtain ⟨k, rfl, hk⟩ : ∃ k : Nat, r = (k : Int) ∧ k < 4 := ⟨r.toNat, by omega, by omega⟩
    have ek : (1 : Int) + (k : Int) = ((1 + k : Nat) : Int) := by omega
    have sk : smallI ((1 : Int) + (k : Int)) := by rw [ek]; exact smallI_ok (by omega) (by omega)
    have lk : (rngD 0 ((1 : Int) + (k : Int))).length ≤ 10000 := by rw [ek, rngD_nat, List.length_map, List.length_range]; omega
    have nw := noOwns_qD w
    walk_at "s1"
    rw [ek, rngD_nat]
    refine compL_map (fun i : Nat => .int (i : Int)) (fun _ => qL w) (List.range (1 + k)) (fun i hi => by cases hi) (fun x hx K hK => ?_) ?_
    · walk_at "s1"
      refine getO_eq x0 ?_
      walk_at "s1"
      exact hK
    have n2 : D.noOwns ((List.range (1 + k)).map fun _ => qL w) = true := noOwns_map (fun _ => qL w) (fun _ => rfl) _
    have l2 : (b.map qL).length + ((List.range (1 + k)).map fun _ => qL w).length ≤ 10000 := by rw [List.length_map, List.length_map, List.length_range]; omega
    have e2 : b.map qL ++ ((List.range (1 + k)).map fun _ => qL w) = (b ++ List.replicate (1 + k) w).map qL := by
      rw [List.map_append, List.map_replicate, List.map_const', List.length_range]
    have wm : w ∈ b := by rw [ew]; simp
    walk_at "s1"
    rw [e2]
    refine h _ (bkL (b ++ List.replicate (1 + k) w)) _ (frz_own_qL _) (bent_rows (fun r hr q hq => ?_) (fun r hr => ?_) ?_) hn4
    · rcases List.mem_append.mp hr with hr | hr
      · exact hz r hr q hq
      · rw [(List.mem_replicate.mp hr).2] at hq; exact hz w wm q hq
    · rcases List.mem_append.mp hr with hr | hr
      · exact hl13 r hr
      · rw [(List.mem_replicate.mp hr).2]; omega
    · rw [List.length_append, List.length_replicate]; omega
  · walk_at "s1"
    refine ⟨_, frz_bkO b, ?_⟩
    have f2 : 0 ≤ (j : Int).fmod 2 ∧ (j : Int).fmod 2 < 2 := ⟨Int.fmod_nonneg_of_pos _ (by decide), Int.fmod_lt_of_pos _ (by decide)⟩
    obtain ⟨t, et, ht⟩ : ∃ t : Nat, (12 : Int) + (j : Int).fmod 2 = (t : Int) ∧ t ≤ 13 := ⟨((12 : Int) + (j : Int).fmod 2).toNat, by omega, by omega⟩
    have d2 : DivOk (2 : Int) := divOk_small (by decide) (by decide)
    walk_at "s1"
    refine compL_map qL (fun r => qL ((repL r 13).take t)) b (fun i hi => by cases hi) (fun r hr K hK => ?_) ?_
    · have nr := noOwns_qD r
      have lr := hb.len r hr
      have l3 : (r.map qD).length * ((13 : Int)).toNat ≤ 10000 := by rw [List.length_map]; show r.length * 13 ≤ 10000; omega
      have er : repL (r.map qD) ((13 : Int)).toNat = (repL r 13).map qD := by
        show repL (r.map qD) 13 = _
        unfold repL
        rw [List.map_flatten, List.map_replicate]
      have n3 : D.noOwns (repL (r.map qD) ((13 : Int)).toNat) = true := by rw [er]; exact noOwns_qD _
      have ec : (D.own (cutD (repL (r.map qD) ((13 : Int)).toNat) none (some ((12 : Int) + (j : Int).fmod 2)))).frz = qL ((repL r 13).take t) := by
        rw [er, et, cutD_to, ← List.map_take]; exact frz_own_qD _
      walk_at "s1"
      rw [show D.lst (D.frzs (cutD (repL (r.map qD) ((13 : Int)).toNat) none (some ((12 : Int) + (j : Int).fmod 2)))) = _ from ec]
      exact hK
    have e2 : (b.map fun r => qL ((repL r 13).take t)) = (b.map fun r => (repL r 13).take t).map qL := by rw [List.map_map]; rfl
    rw [e2]
    walk_at "s1"
    refine h _ (bkL (b.map fun r => (repL r 13).take t)) _ (frz_own_qL _) (bent_rows (fun x hx q hq => ?_) (fun x hx => ?_) ?_) hn3
    · obtain ⟨r, hr, rfl⟩ := List.mem_map.mp hx
      have hq := List.mem_of_mem_take hq
      unfold repL at hq
      obtain ⟨l, hl, hq⟩ := List.mem_flatten.mp hq
      rw [(List.mem_replicate.mp hl).2] at hq
      exact hz r hr q hq
    · obtain ⟨r, hr, rfl⟩ := List.mem_map.mp hx
      rw [List.length_take]; omega
    · rw [List.length_map]; omega
  · walk_at "s1"
    refine ⟨fun M => M = [.va (bkL b), .io (.own [.int n3]), .va (.own ((b.set i ((b.getD i []).eraseIdx j)).map qO)), .va (.int 3), .va (.int (i : Int)), .va (.int (j : Int)), .un, .un], ?_, ?_⟩
    · walk_at "s1"
      refine getO_eq ea ?_
      walk_at "s1"
      refine getO_eq ej ?_
      walk_at "s1"
      refine getO_eq ew2 ?_
      have e3 : ((b.getD i []).map qD).eraseIdx j = ((b.getD i []).eraseIdx j).map qD := erase_map qD _ j
      rw [ep, e3, eset]
      walk_at "s1"
      rfl
    · rintro M rfl
      walk_at "s1"
      refine ⟨fun M => M = [.va (bkL b), .io (.own [.int n3]), .va (.own ((b.set i ((b.getD i []).eraseIdx j)).map qO)), .va (.int 3), .va (.int (i : Int)), .va (.int (j : Int)), .un, .un], ?_, ?_⟩
      · walk_at "s1"
      rintro M rfl
      walk_at "s1"
      refine boolT false (fun Q' h' => by walk_at "s1"; exact h') ?_
      walk_at "s1"
      exact fin _ (zset _ fun q hq => List.mem_of_mem_eraseIdx hq) (lset _ (by rw [List.length_eraseIdx]; split <;> omega)) (by rw [List.length_set]; omega)
  · walk_at "s1"
    refine ⟨fun M => M = [.va (bkL b), .io (.own [.int n3]), .va (.own (b.map qO)), .va (.int 4), .va (.int (i : Int)), .va (.int (j : Int)), .un, .un], ?_, ?_⟩
    · walk_at "s1"
    rintro M rfl
    walk_at "s1"
    refine ⟨fun M => M = [.va (bkL b), .io (.own [.int n3]), .va (.own ((b.set i (b.getD i [] ++ [wt (b.getD i []) j])).map qO)), .va (.int 4), .va (.int (i : Int)), .va (.int (j : Int)), .un, .un], ?_, ?_⟩
    · have eK : evK [.va (bkL b), .io (.own [.int n3]), .va (.own (b.map qO)), .va (.int 4), .va (.int (i : Int)), .va (.int (j : Int)), .un, .un] (((IK.s 2).ix (IK.s 4)).ix (IK.s 5)) = some (qD (wt (b.getD i []) j)) := by
        have e1 : itemO (.own (b.map qO)) (i : Int) = some (.own ((b.getD i []).map qD)) := by
          show ixl (b.map qO) (i : Int) = _
          rw [ixl_nat]; exact eri
        have e2 : itemO (.own ((b.getD i []).map qD)) (j : Int) = some (qD (wt (b.getD i []) j)) := by
          show ixl ((b.getD i []).map qD) (j : Int) = _
          rw [ixl_nat]; exact ew2
        show ((itemO (.own (b.map qO)) (i : Int)).bind fun x => itemO x (j : Int)) = _
        rw [e1]; exact e2
      have l10 : ((b.getD i []).map qD).length ≤ 10000 := by rw [List.length_map]; omega
      have e3 : ((b.getD i []).map qD) ++ [qD (wt (b.getD i []) j)] = (b.getD i [] ++ [wt (b.getD i []) j]).map qD := by rw [List.map_append]; rfl
      walk_at "s1"
      refine getO_eq eK ?_
      walk_at "s1"
      refine getO_eq ea ?_
      walk_at "s1"
      rw [ep, e3, eset]
      rfl
    rintro M rfl
    walk_at "s1"
    refine boolT false (fun Q' h' => by walk_at "s1"; exact h') ?_
    walk_at "s1"
    exact fin _ (zset _ fun q hq => by
      rcases List.mem_append.mp hq with hq | hq
      · exact hq
      · rw [List.mem_singleton.mp hq]; exact wt_mem (by omega)) (lset _ (by rw [List.length_append, List.length_singleton]; omega)) (by rw [List.length_set]; omega)
  · walk_at "s1"
    refine ⟨fun M => M = [.va (bkL b), .io (.own [.int n3]), .va (.own (b.map qO)), .va (.int 5), .va (.int (i : Int)), .va (.int (j : Int)), .un, .un], ?_, ?_⟩
    · walk_at "s1"
    rintro M rfl
    walk_at "s1"
    refine ⟨fun M => M = [.va (bkL b), .io (.own [.int n3]), .va (.own (b.map qO)), .va (.int 5), .va (.int (i : Int)), .va (.int (j : Int)), .un, .un], ?_, ?_⟩
    · walk_at "s1"
    rintro M rfl
    walk_at "s1"
    refine ⟨_, fzs, ?_⟩
    have e1 : ixl (b.map qL) (i : Int) = some (qL (b.getD i [])) := by rw [ixl_nat, List.getElem?_map, List.getElem?_eq_getElem hi, List.getD_eq_getElem?_getD, List.getElem?_eq_getElem hi]; rfl
    obtain ⟨q0, qs, eq0⟩ : ∃ q0 qs, b.getD i [] = q0 :: qs := by
      cases e : b.getD i [] with
      | nil => rw [e] at lrow; simp at lrow; omega
      | cons q0 qs => exact ⟨q0, qs, rfl⟩
    have e0 : ixl ((b.getD i []).map qD) 0 = some (qD q0) := by rw [eq0]; rfl
    have nrw := noOwns_qD (b.getD i [])
    walk_at "s1"
    refine getO_eq e1 ?_
    walk_at "s1"
    refine getO_eq e1 ?_
    walk_at "s1"
    refine getO_eq e0 ?_
    walk_at "s1"
    refine getO_eq e1 ?_
    walk_at "s1"
    intro r n4 r0 r1 hn4
    obtain ⟨y, e5, hm⟩ := ixl_mem (l := [D.tup ((b.getD i []).map qD), .non, qD q0, .lst [qL (b.getD i [])], .str "1"]) r0 (by simpa using r1)
    have zq0 : Qz 40 q0 := hz _ hrow q0 (by rw [eq0]; simp)
    have prow : PD 3 (qL (b.getD i [])) := pd_qL 1 _ (by omega)
    have srow : Sh 1105 (qL (b.getD i [])) := sh_qL (hz _ hrow) (by omega)
    have hy : PD 4 y ∧ Sh 1200 y ∧ ∀ r : List Rat, y ≠ qL r := by
      simp only [List.mem_cons, List.not_mem_nil, or_false] at hm
      rcases hm with rfl | rfl | rfl | rfl | rfl
      · refine ⟨pd_tup (n := 3) (by rw [List.length_map]; omega) fun d hd => ?_, sh_tup (n := 84) (fun d hd => ?_) (by rw [List.length_map]; omega), fun r e => by unfold qL at e; cases e⟩
        · obtain ⟨q, _, rfl⟩ := List.mem_map.mp hd
          exact pd_qD 2 q
        · obtain ⟨q, hq, rfl⟩ := List.mem_map.mp hd
          exact sh_qD (hz _ hrow q hq)
      · exact ⟨pd_non _, sh_non _, fun r e => by unfold qL at e; cases e⟩
      · exact ⟨pd_qD 3 q0, (sh_qD zq0).mono (by decide), fun r e => by unfold qL qD at e; cases e⟩
      · refine ⟨pd_lst (n := 3) (by simp) fun d hd => ?_, sh_lst (n := 1105) (fun d hd => ?_) (by simp), fun r e => ?_⟩
        · rw [List.mem_singleton.mp hd]; exact prow
        · rw [List.mem_singleton.mp hd]; exact srow
        · unfold qL at e
          simp only [D.lst.injEq] at e
          have : D.lst ((b.getD i []).map qD) ∈ r.map qD := by rw [← e]; simp
          obtain ⟨q, _, eq⟩ := List.mem_map.mp this
          unfold qD at eq; cases eq
      · exact ⟨pdB_ok (by decide +kernel), shB_ok (by decide +kernel), fun r e => by unfold qL at e; cases e⟩
    obtain ⟨py, sy, ny⟩ := hy
    have noy := py.noOwn
    have ei2 : ixn (b.map qL).length (i : Int) = some i := ixn_nat (by rw [List.length_map]; exact hi)
    have fe : (D.own ((b.map qL).set i y)).frz = .lst ((b.map qL).set i y) := by
      rw [frz_own, frzs_set, frzs_of _ nb, frz_of _ noy]
    have hset : ∀ x ∈ (b.map qL).set i y, PD 5 x ∧ Sh 1200 x := fun x hx => by
      rcases List.mem_or_eq_of_mem_set hx with hx | rfl
      · obtain ⟨row, hr, rfl⟩ := List.mem_map.mp hx
        exact ⟨pd_qL 3 row (by have := hl13 row hr; omega), (sh_qL (hz row hr) (hl13 row hr)).mono (by decide)⟩
      · exact ⟨py.mono (by decide), sy⟩
    have bent : Bent (.lst ((b.map qL).set i y)) := bent_no (pd_lst (n := 5) (by rw [List.length_set, List.length_map]; omega) fun x hx => (hset x hx).1) (sh_lst (n := 1200) (fun x hx => (hset x hx).2) (by rw [List.length_set, List.length_map]; omega))
      (nbk_row ny (mem_set_self (by rw [List.length_map]; exact hi)))
    walk_at "s1"
    refine getO_eq e5 ?_
    walk_at "s1"
    refine getO_eq ei2 ?_
    walk_at "s1"
    refine boolT false (fun Q' h' => by walk_at "s1"; exact h') ?_
    walk_at "s1"
    exact h _ _ n4 fe bent hn4
  · have q0 : D.eqv (.int way) (.int 0) = false := by rw [eqv_int]; exact beq_eq_false_iff_ne.mpr (by omega)
    have q1 : D.eqv (.int way) (.int 1) = false := by rw [eqv_int]; exact beq_eq_false_iff_ne.mpr (by omega)
    have q2 : D.eqv (.int way) (.int 2) = false := by rw [eqv_int]; exact beq_eq_false_iff_ne.mpr (by omega)
    have q3 : D.eqv (.int way) (.int 3) = false := by rw [eqv_int]; exact beq_eq_false_iff_ne.mpr (by omega)
    have q4 : D.eqv (.int way) (.int 4) = false := by rw [eqv_int]; exact beq_eq_false_iff_ne.mpr (by omega)
    have q5 : D.eqv (.int way) (.int 5) = false := by rw [eqv_int]; exact beq_eq_false_iff_ne.mpr (by omega)
    walk_at "s1"
    refine ⟨fun M => M = [.va (bkL b), .io (.own [.int n3]), .va (.own (b.map qO)), .va (.int way), .va (.int (i : Int)), .va (.int (j : Int)), .un, .un], ?_, ?_⟩
    · walk_at "s1"
    rintro M rfl
    walk_at "s1"
    refine ⟨fun M => M = [.va (bkL b), .io (.own [.int n3]), .va (.own (b.map qO)), .va (.int way), .va (.int (i : Int)), .va (.int (j : Int)), .un, .un], ?_, ?_⟩
    · walk_at "s1"
    rintro M rfl
    walk_at "s1"
    refine boolT true (fun Q' h' => ?_) ?_
    · walk_at "s1"
      rw [decide_eq_true (show (5 : Int) < way from w5)]
      walk_at "s1"
      rw [decide_eq_true w11]
      exact h'
    walk_at "s1"
    intro x n4 px sx wx hn4
    have nx := px.noOwn
    have nrow := noOwns_qD (b.getD i [])
    walk_at "s1"
    refine getO_eq ea ?_
    walk_at "s1"
    refine getO_eq ej ?_
    rw [ep]
    walk_at "s1"
    have frow : (D.own (((b.getD i []).map qD).set j x)).frz = .lst (((b.getD i []).map qD).set j x) := by
      rw [frz_own, frzs_set, frzs_of _ nrow, frz_of _ nx]
    have fe : (D.own ((b.map qO).set i (.own (((b.getD i []).map qD).set j x)))).frz = .lst ((b.map qL).set i (.lst (((b.getD i []).map qD).set j x))) := by
      rw [frz_own, frzs_set, fzs, frow]
    have hit : ∀ y ∈ ((b.getD i []).map qD).set j x, PD 4 y ∧ Sh 200 y := fun y hy => by
      rcases List.mem_or_eq_of_mem_set hy with hy | rfl
      · obtain ⟨q, hq, rfl⟩ := List.mem_map.mp hy
        exact ⟨pd_qD 3 q, (sh_qD (hz _ hrow q hq)).mono (by decide)⟩
      · exact ⟨px, sx⟩
    have hset : ∀ y ∈ (b.map qL).set i (.lst (((b.getD i []).map qD).set j x)), PD 5 y ∧ Sh 2613 y := fun y hy => by
      rcases List.mem_or_eq_of_mem_set hy with hy | rfl
      · obtain ⟨row, hr, rfl⟩ := List.mem_map.mp hy
        exact ⟨pd_qL 3 row (by have := hl13 row hr; omega), (sh_qL (hz row hr) (hl13 row hr)).mono (by decide)⟩
      · exact ⟨pd_lst (n := 4) (by rw [List.length_set, List.length_map]; omega) fun z hz => (hit z hz).1, sh_lst (n := 200) (fun z hz => (hit z hz).2) (by rw [List.length_set, List.length_map]; omega)⟩
    have xin : x ∈ ((b.getD i []).map qD).set j x := mem_set_self (by rw [List.length_map]; omega)
    have bent : Bent (.lst ((b.map qL).set i (.lst (((b.getD i []).map qD).set j x)))) := bent_no (pd_lst (n := 5) (by rw [List.length_set, List.length_map]; omega) fun x hx => (hset x hx).1) (sh_lst (n := 2613) (fun x hx => (hset x hx).2) (by rw [List.length_set, List.length_map]; omega))
      (nbk_mem wx xin (mem_set_self (by rw [List.length_map]; exact hi)))
    exact h _ _ n4 fe bent hn4
  · walk_at "s1"
    refine ⟨fun M => M = [.va (bkL b), .io (.own [.int n3]), .va (.own (b.map qO)), .va (.int 11), .va (.int (i : Int)), .va (.int (j : Int)), .un, .un], ?_, ?_⟩
    · walk_at "s1"
    rintro M rfl
    walk_at "s1"
    refine ⟨fun M => M = [.va (bkL b), .io (.own [.int n3]), .va (.own (b.map qO)), .va (.int 11), .va (.int (i : Int)), .va (.int (j : Int)), .un, .un], ?_, ?_⟩
    · walk_at "s1"
    rintro M rfl
    walk_at "s1"
    refine boolT false (fun Q' h' => by walk_at "s1"; exact h') ?_
    walk_at "s1"
    exact fin b hz hl13 (by omega)

theorem dv__law_bent {P : Program} {w : World} {K : PySem.W.Frag} {mg : Str → Option Value} {base : Heap} {cl : Nat → Addr} (B : Bl mg) (Er : Er K mg nms cl)   (G__law_take : Cal P w K mg base 1 2 "_law_take" (T__law_take cl)) (G__law_odd : Cal P w K mg base 2 1 "_law_odd" (T__law_odd cl)) (f : Addr) (cdv : Value) (A : Around) (outer : List Env) (s : Shared) (H : Hp) (E : XK) (hrG : RmG 2 (A.deeper (envOfC "_law_bent" (defScope s__law_bent) s.heap.objs.size f cdv))) :
    PSs (cxOf (L2.CX P w) P w K mg base ["_law_book_here", "_law_pile_here", "_law_found", "_law_way", "_law_at", "_law_thing", "_law_worths", "_law_k"] "_law_bent" (defScope s__law_bent) f cdv A outer s H E) (defBody s__law_bent) (liftS K (fun cls d _ H => E cls d H) (r__law_bent cl)) := by
  have nd := sc__law_bent.nd
  have hr := hrG.rm
  exact (s_cons (s_set (i := 2) nd (d_comp (own := [("_law_worths", 6)]) (g := gName 6) rfl nd (i_slot (pv 0)) (show blkC ["_law_book_here", "_law_pile_here", "_law_found", "_law_way", "_law_at", "_law_thing", "_law_worths", "_law_k"] (defScope s__law_bent) _ _ = true by decide +kernel) rfl (fun hk => tg_name) (fun _ _ _ _ _ => pg_name (i := 6) nd rfl (.inl rfl)) (fun _ _ _ _ _ => ts_nil) (fun _ _ _ _ _ => (d_list rfl (pe_callTy call_list_of (by rfl) B.list (by decide +kernel) (pa_cons (d_look (pv 6)) pa_nil))))) rfl (.inr rfl))
      (s_cons (s_set (i := 3) nd (d_cl G__law_take tk_fn hrG (c_io (pv 1) (c_ex (d_int) c_nil))) rfl (.inl rfl))
      (s_cons (s_set (i := 4) nd (d_cl G__law_take tk_fn hrG (c_io (pv 1) (c_ex (d_len B.len (d_look (pv 0))) c_nil))) rfl (.inl rfl))
      (s_cons (s_set (i := 5) nd (d_cl G__law_take tk_fn hrG (c_io (pv 1) (c_ex (d_len B.len (d_eb (d_ixS (pv 0) (d_int)))) c_nil))) rfl (.inr rfl))
      (s_cons (s_if (t_eq hr (d_var (pv 3)) (d_int)) (s_one (s_pre (is := [2]) (s_ret (d_ix (d_lst (a_cons (d_fz (d_lst a_nil)) (a_cons (d_tupOf (pe_callTy call_tuple_of (by rfl) B.tuple (by decide +kernel) (pa_cons (d_look (pv 2)) pa_nil))) (a_cons (d_ixS (pv 2) (d_int)) (a_cons (d_non) (a_cons (d_str) (a_cons (d_bl) (a_cons (d_int) (a_cons (d_fz (d_lst (a_cons (d_fz (d_lst a_nil)) a_nil))) (a_cons (d_fz (d_lst (a_cons (d_fz (d_lst a_nil)) (a_cons (d_fz (d_lst a_nil)) a_nil)))) a_nil)))))))))) (d_cl G__law_take tk_fn hrG (c_io (pv 1) (c_ex (d_int) c_nil))))))) (s_nil))
      (s_cons (s_if (t_eq hr (d_var (pv 3)) (d_int)) (s_one (s_pre (is := [2]) (s_ret (d_cat (d_frz (pv 2)) (d_comp (own := [("_law_k", 7)]) (g := gName 7) rfl nd (i_range1 B.range (d_add (d_int) (d_cl G__law_take tk_fn hrG (c_io (pv 1) (c_ex (d_int) c_nil))))) (show blkC ["_law_book_here", "_law_pile_here", "_law_found", "_law_way", "_law_at", "_law_thing", "_law_worths", "_law_k"] (defScope s__law_bent) _ _ = true by decide +kernel) rfl (fun hk => tg_name) (fun _ _ _ _ _ => pg_name (i := 7) nd rfl (.inl rfl)) (fun _ _ _ _ _ => ts_nil) (fun _ _ _ _ _ => (d_fz (d_list rfl (pe_callTy call_list_of (by rfl) B.list (by decide +kernel) (pa_cons (d_eb (d_ixS (pv 2) (d_int))) pa_nil)))))))))) (s_nil))
      (s_cons (s_if (t_eq hr (d_var (pv 3)) (d_int)) (s_one (s_pre (is := [2]) (s_ret (d_comp (own := [("_law_worths", 6)]) (g := gName 6) rfl nd (i_slot (pv 2)) (show blkC ["_law_book_here", "_law_pile_here", "_law_found", "_law_way", "_law_at", "_law_thing", "_law_worths", "_law_k"] (defScope s__law_bent) _ _ = true by decide +kernel) rfl (fun hk => tg_name) (fun _ _ _ _ _ => pg_name (i := 6) nd rfl (.inl rfl)) (fun _ _ _ _ _ => ts_nil) (fun _ _ _ _ _ => (d_fz (d_sl (pe_slice sl_list (d_rep (d_var (pv 6)) (d_int)) o_none (o_some (d_add (d_int) (d_mod (d_var (pv 5)) (d_int)))))))))))) (s_nil))
      (s_cut (s_if (t_eq hr (d_var (pv 3)) (d_int)) (s_one (s_expr (d_popAtP (i := 2) (ps := [(.s 4)]) (ka := (.s 5)) (pe_bm PySem.F.plainAttrs_list PySem.F.slot_list_pop PySem.F.type_list_pop mt_popAt (ik_ix (ik_s (pv 2)) (ik_s (pv 4))) (pa_cons (ik_s (pv 5)) pa_nil))))) (s_nil))
      (s_cut (s_if (t_eq hr (d_var (pv 3)) (d_int)) (s_one (s_expr (d_appP (i := 2) (ps := [(.s 4)]) (ka := (.ix (.ix (.s 2) (.s 4)) (.s 5))) (pe_bm PySem.F.plainAttrs_list PySem.F.slot_list_append PySem.F.type_list_append mt_append (ik_ix (ik_s (pv 2)) (ik_s (pv 4))) (pa_cons (ik_ix (ik_ix (ik_s (pv 2)) (ik_s (pv 4))) (ik_s (pv 5))) pa_nil))))) (s_nil))
      (s_cons (s_if (t_eq hr (d_var (pv 3)) (d_int)) (s_one (s_preR (i := 2) (s_put (ps_asg (d_ix (d_lst (a_cons (d_tupOf (pe_callTy call_tuple_of (by rfl) B.tuple (by decide +kernel) (pa_cons (d_eb (d_ixS (pv 2) (d_var (pv 4)))) pa_nil))) (a_cons (d_non) (a_cons (d_ix (d_ixS (pv 2) (d_var (pv 4))) (d_int)) (a_cons (d_fz (d_lst (a_cons (d_ixS (pv 2) (d_var (pv 4))) a_nil))) (a_cons (d_str) a_nil)))))) (d_cl G__law_take tk_fn hrG (c_io (pv 1) (c_ex (d_int) c_nil)))) (pg_sub (pv 2) (d_var (pv 4)) set_list))))) (s_nil))
      (s_cons (s_if (t_bool (PW.pt (t_and (t_gt (d_var (pv 3)) (d_int)) (t_and1 (t_lt (d_var (pv 3)) (d_int)))))) (s_one (s_putP (i := 2) (ps := [(.s 4)]) (ka := (.s 5)) (ps_asg (d_cl G__law_odd tk_fn hrG (c_io (pv 1) c_nil)) (pg_sub (ik_ix (ik_s (pv 2)) (ik_s (pv 4))) (ik_s (pv 5)) set_list)))) (s_nil))
      (s_one (s_ret (d_mov (pv 2)))))))))))))))
theorem ok__law_bent {P : Program} {w : World} {K : PySem.W.Frag} {mg : Str → Option Value} {base : Heap} {cl : Nat → Addr} (B : Bl mg) (Er : Er K mg nms cl) (D : DefAt K mg "_law_bent" s__law_bent ["_law_book_here", "_law_pile_here"])   (G__law_take : Cal P w K mg base 1 2 "_law_take" (T__law_take cl)) (G__law_odd : Cal P w K mg base 2 1 "_law_odd" (T__law_odd cl)) : Cal P w K mg base 3 2 "_law_bent" (T__law_bent cl) :=
  cal_ok (m := 6) D sc__law_bent rfl rfl (fun f cdv A outer s H E hr => dv__law_bent B Er G__law_take G__law_odd f cdv A outer s H E hr) (law__law_bent)
/-! _law_is_weight -/
abbrev s__law_is_weight : Stmt := top 52
theorem sc__law_is_weight : FnScope ["_law_thing"] ["_law_thing"] (defScope s__law_is_weight) := ⟨rfl, rfl, rfl, by decide +kernel, rfl, by decide +kernel, by decide +kernel⟩
def T__law_is_weight (cl : Nat → Addr) : Spec := fun as Q _ => ∃ d : D, as = [.va d] ∧ PD 8 d ∧ Q (.bl (isWeightD d)) []

def r__law_is_weight (cl : Nat → Addr) : DS :=
    (sSeq (sIf (tBool (dOr (dNot (dT (dIsi .tuple (dLook 0)))) (dT (dNe (dCal1 gLen (dLook 0)) (dC (.int 2)))))) (sRet (dC (.bl false))) (sNext))
    (sSeq (sIf (tBool (dOr (dNot (dT (dCall 1 (T__law_whole cl) (cEx (dIxS 0 (dC (.int 0))) cNil)))) (dNot (dT (dCall 1 (T__law_whole cl) (cEx (dIxS 0 (dC (.int 1))) cNil)))))) (sRet (dC (.bl false))) (sNext))
    (sRet ((dBool (dAndV (dGe (dIxS 0 (dC (.int 0))) (dC (.int 0))) (dAndV (dGt (dIxS 0 (dC (.int 1))) (dC (.int 0))) (dEq (dCall 2 (T__law_shared cl) (cEx (dIxS 0 (dC (.int 0))) (cEx (dIxS 0 (dC (.int 1))) cNil))) (dC (.int 1))))))))))
-- LAW
theorem law__law_is_weight {cl : Nat → Addr} : ∀ as Q E, T__law_is_weight cl as Q E → r__law_is_weight cl (endsOf Q E) (as ++ List.replicate 0 .un) := by
  rintro as Q E ⟨d, rfl, hd, h⟩
  unfold r__law_is_weight
  have no := hd.noOwn
  have pl := hd.plain
  by_cases ht : ∃ x y, d = .tup [x, y]
  · obtain ⟨x, y, rfl⟩ := ht
    have hx := hd.tup.2 x (by simp)
    have hy := hd.tup.2 y (by simp)
    have nx := hx.noOwn
    have ny := hy.noOwn
    have px := hx.plain
    have py := hy.plain
    walk_at "st"
    refine boolT false (fun Q' h' => ?_) ?_
    · walk_at "s1"
      exact h'
    walk_at "s1"
    by_cases hi : isIntD x = true ∧ isIntD y = true
    · obtain ⟨a, rfl⟩ := isIntD_iff.mp hi.1
      obtain ⟨b, rfl⟩ := isIntD_iff.mp hi.2
      have e : isWeightD (.tup [.int a, .int b]) = (decide (1 ≤ b) && decide (Int.gcd a b = 1) && decide (0 ≤ a)) := rfl
      rw [e] at h
      refine boolT false (fun Q' h' => ?_) ?_
      · walk_at "s1"
        exact h'
      walk_at "s1"
      have eg : D.eqv (.int (Int.gcd a b : Int)) (.int 1) = decide (Int.gcd a b = 1) := by
        rw [eqv_int, Bool.eq_iff_iff, beq_iff_eq, decide_eq_true_iff]; omega
      refine boolS _ (fun Q' h' => ?_) (by walk_at "s1"; exact h)
      walk_at "s1"
      refine ifB (fun c1 => ?_) (fun c1 => ?_)
      · have c1 : 0 ≤ a := of_decide_eq_true c1
        rw [decide_eq_true c1, Bool.and_true] at h'
        walk_at "s1"
        refine ifB (fun c2 => ?_) (fun c2 => ?_)
        · have c2 : 0 < b := of_decide_eq_true c2
          rw [decide_eq_true (show 1 ≤ b by omega), Bool.true_and] at h'
          walk_at "s1"
          rw [eg]
          exact h'
        · have c2 : ¬ 0 < b := of_decide_eq_false c2
          rw [decide_eq_false (show ¬ 1 ≤ b by omega), Bool.false_and] at h'
          exact h'
      · have c1 : ¬ 0 ≤ a := of_decide_eq_false c1
        rw [decide_eq_false c1, Bool.and_false] at h'
        exact h'
    · have e : isWeightD (.tup [x, y]) = false := by
        cases hw : isWeightD (.tup [x, y]) with
        | false => rfl
        | true =>
          obtain ⟨q, eq, _⟩ := isWeightD_iff.mp hw
          have eq2 : D.tup [x, y] = .tup [.int q.num, .int (q.den : Int)] := eq
          simp only [D.tup.injEq, List.cons.injEq, and_true] at eq2
          exact absurd ⟨by rw [eq2.1]; rfl, by rw [eq2.2]; rfl⟩ hi
      rw [e] at h
      refine boolT true (fun Q' h' => ?_) (by walk_at "s1"; exact h)
      walk_at "s1"
      cases hx2 : isIntD x with
      | false =>
        have : (isTy .int x && !isTy .bool x) = false := by
          cases x <;> first | (cases px; done) | rfl | (cases hx2; done)
        rw [this]
        exact h'
      | true =>
        have hy2 : isIntD y = false := by
          cases hy3 : isIntD y with
          | false => rfl
          | true => exact absurd ⟨hx2, hy3⟩ hi
        obtain ⟨a, rfl⟩ := isIntD_iff.mp hx2
        walk_at "s1"
        have : (isTy .int y && !isTy .bool y) = false := by
          cases y <;> first | (cases py; done) | rfl | (cases hy2; done)
        rw [this]
        exact h'
  · have e : isWeightD d = false := by
      cases hb : isWeightD d with
      | false => rfl
      | true => obtain ⟨q, rfl, _⟩ := isWeightD_iff.mp hb; exact absurd ⟨_, _, rfl⟩ ht
    walk_at "st"
    refine boolT true (fun Q' h' => ?_) ?_
    · cases d <;> first | (cases pl; done) | skip
      all_goals
        walk_at "s1"
        first | exact h' | skip
      rename_i l
      have e2 : (!D.eqv (.int (l.length : Int)) (.int 2)) = true := by
        rw [eqv_int, Bool.not_eq_true', beq_eq_false_iff_ne]
        intro c
        match l, c with
        | [x, y], _ => exact ht ⟨x, y, rfl⟩
      rw [e2]
      exact h'
    · rw [e] at h
      walk_at "s1"
      exact h

theorem dv__law_is_weight {P : Program} {w : World} {K : PySem.W.Frag} {mg : Str → Option Value} {base : Heap} {cl : Nat → Addr} (B : Bl mg) (Er : Er K mg nms cl)   (G__law_whole : Cal P w K mg base 1 1 "_law_whole" (T__law_whole cl)) (G__law_shared : Cal P w K mg base 1 2 "_law_shared" (T__law_shared cl)) (f : Addr) (cdv : Value) (A : Around) (outer : List Env) (s : Shared) (H : Hp) (E : XK) (hrG : RmG 1 (A.deeper (envOfC "_law_is_weight" (defScope s__law_is_weight) s.heap.objs.size f cdv))) :
    PSs (cxOf (L2.CX P w) P w K mg base ["_law_thing"] "_law_is_weight" (defScope s__law_is_weight) f cdv A outer s H E) (defBody s__law_is_weight) (liftS K (fun cls d _ H => E cls d H) (r__law_is_weight cl)) := by
  have nd := sc__law_is_weight.nd
  have hr := hrG.rm
  exact (s_cons (s_if (t_bool (PW.pt (t_or (t_not (t_val (d_isi .tuple B.isinstance B.tuple (by decide +kernel) (d_look (pv 0))))) (t_or1 (t_ne hr (d_len B.len (d_look (pv 0))) (d_int)))))) (s_one (s_ret (d_bl))) (s_nil))
      (s_cons (s_if (t_bool (PW.pt (t_or (t_not (t_val (d_cl G__law_whole tk_fn hrG (c_ex (d_ixS (pv 0) (d_int)) c_nil)))) (t_or1 (t_not (t_val (d_cl G__law_whole tk_fn hrG (c_ex (d_ixS (pv 0) (d_int)) c_nil)))))))) (s_one (s_ret (d_bl))) (s_nil))
      (s_one (s_ret ((d_bool (d_and (d_ge (d_ixS (pv 0) (d_int)) (d_int)) (d_and (d_gt (d_ixS (pv 0) (d_int)) (d_int)) (d_one (d_eq hr (d_cl G__law_shared tk_fn hrG (c_ex (d_ixS (pv 0) (d_int)) (c_ex (d_ixS (pv 0) (d_int)) c_nil))) (d_int)))))))))))
theorem ok__law_is_weight {P : Program} {w : World} {K : PySem.W.Frag} {mg : Str → Option Value} {base : Heap} {cl : Nat → Addr} (B : Bl mg) (Er : Er K mg nms cl) (D : DefAt K mg "_law_is_weight" s__law_is_weight ["_law_thing"])   (G__law_whole : Cal P w K mg base 1 1 "_law_whole" (T__law_whole cl)) (G__law_shared : Cal P w K mg base 1 2 "_law_shared" (T__law_shared cl)) : Cal P w K mg base 2 1 "_law_is_weight" (T__law_is_weight cl) :=
  cal_ok (m := 0) D sc__law_is_weight rfl rfl (fun f cdv A outer s H E hr => dv__law_is_weight B Er G__law_whole G__law_shared f cdv A outer s H E hr) (law__law_is_weight)
/-! _law_is_rule -/
abbrev s__law_is_rule : Stmt := top 53
theorem sc__law_is_rule : FnScope ["_law_thing", "_law_many", "_law_weight_here"] ["_law_thing", "_law_many"] (defScope s__law_is_rule) := ⟨rfl, rfl, rfl, by decide +kernel, rfl, by decide +kernel, by decide +kernel⟩
def T__law_is_rule (cl : Nat → Addr) : Spec := fun as Q _ => ∃ (d : D) (n : Nat), as = [.va d, .va (.int (n : Int))] ∧ PD 8 d ∧ n ≤ 1000 ∧ Q (.bl (isRuleD d (n : Int))) []

def r__law_is_rule (cl : Nat → Addr) : DS :=
    (sSeq (sIf (tBool (dOr (dNot (dT (dIsi .tuple (dLook 0)))) (dOr (dT (dNin (dCal1 gLen (dLook 0)) (dLst (aCons (dC (.int 1)) (aCons (dC (.int 2)) aNil))))) (dNot (dT (dIsi .str (dIxS 0 (dC (.int 0))))))))) (sRet (dC (.bl false))) (sNext))
    (sSeq (sIf (dT (dEq (dCal1 gLen (dLook 0)) (dC (.int 1)))) (sRet (dIn (dIxS 0 (dC (.int 0))) (dLst (aCons (dC (.str "least")) (aCons (dC (.str "greatest")) (aCons (dC (.str "product")) aNil)))))) (sNext))
    (sSeq (sIf (dT (dEq (dIxS 0 (dC (.int 0))) (dC (.str "middle")))) (sRet ((dBool (dAndV (dCall 1 (T__law_whole cl) (cEx (dIxS 0 (dC (.int 1))) cNil)) (dIn (dIxS 0 (dC (.int 1))) (dLR2 (dC (.int 1)) (dAdd (dVar 1) (dC (.int 1))))))))) (sNext))
    (sSeq (sIf (tBool (dOr (dT (dNe (dIxS 0 (dC (.int 0))) (dC (.str "shares")))) (dOr (dNot (dT (dIsi .list (dIxS 0 (dC (.int 1)))))) (dT (dNe (dCal1 gLen (dIxS 0 (dC (.int 1)))) (dVar 1)))))) (sRet (dC (.bl false))) (sNext))
    (sRet (dCal1 gAll (dComp (itL (dIxS 0 (dC (.int 1)))) (tgName 2) tYesD (dCall 1 (T__law_is_weight cl) (cEx (dVar 2) cNil)) [2])))))))
-- LAW
theorem law__law_is_rule {cl : Nat → Addr} : ∀ as Q E, T__law_is_rule cl as Q E → r__law_is_rule cl (endsOf Q E) (as ++ List.replicate 1 .un) := by
  rintro as Q E ⟨d, n, rfl, hd, hn, h⟩
  unfold r__law_is_rule
  have no := hd.noOwn
  have pl := hd.plain
  have ls : ∀ x : Str, [D.str x].length = 1 := fun _ => rfl
  by_cases ht : ∃ x r, d = .tup (.str x :: r)
  · obtain ⟨x, r, rfl⟩ := ht
    have hx := hd.tup.2 (.str x) (by simp)
    have q1 : eqOk (.str x) (.str "shares") := ⟨hx.okD.mono (by decide), okB_ok _ 8 (by decide +kernel)⟩
    have q2 : eqOk (.str x) (.str "middle") := ⟨hx.okD.mono (by decide), okB_ok _ 8 (by decide +kernel)⟩
    have q3 : eqOk (.str x) (.own [.str "least", .str "greatest", .str "product"]) := ⟨hx.okD.mono (by decide), okB_ok _ 8 (by decide +kernel)⟩
    rcases r with _ | ⟨y, _ | ⟨z, r⟩⟩
    · walk_at "st"
      refine boolT false (fun Q' h' => ?_) ?_
      · walk_at "s1"
        exact h'
      walk_at "s1"
      have e : inD (.str x) [.str "least", .str "greatest", .str "product"] = isRuleD (.tup [.str x]) n := by
        unfold isRuleD inD
        simp only [List.any_cons, List.any_nil, eqv_str, Bool.or_false]
        by_cases h1 : x = "least"
        · subst h1; decide +kernel
        · by_cases h2 : x = "greatest"
          · subst h2; decide +kernel
          · by_cases h3 : x = "product"
            · subst h3; decide +kernel
            · rw [decide_eq_false h1, decide_eq_false h2, decide_eq_false h3, beq_eq_false_iff_ne.mpr (Ne.symm h1), beq_eq_false_iff_ne.mpr (Ne.symm h2), beq_eq_false_iff_ne.mpr (Ne.symm h3)]
      rw [e]
      exact h
    · have hy := hd.tup.2 y (by simp)
      have ny := hy.noOwn
      have py := hy.plain
      walk_at "st"
      refine boolT false (fun Q' h' => ?_) ?_
      · walk_at "s1"
        exact h'
      walk_at "s1"
      refine ifB (fun c => ?_) (fun c => ?_)
      · rw [eqv_str] at c
        have c : x = "middle" := by simpa using c
        subst c
        walk_at "s1"
        refine boolS (isRuleD (.tup [.str "middle", y]) n) (fun Q' h' => ?_) (by walk_at "s1"; exact h)
        cases hi : isIntD y with
        | true =>
          obtain ⟨k, rfl⟩ := isIntD_iff.mp hi
          have e : isRuleD (.tup [.str "middle", .int k]) n = (decide (0 < k) && decide (k ≤ n)) := by unfold isRuleD; simp
          rw [e] at h'
          have okr : eqOk (.int k) (.own (rngD 1 ((n : Int) + 1))) := ⟨okD_int _ _, okD_rng _ _ _⟩
          have sn : smallI ((n : Int) + 1) := smallI_ok (by omega) (by omega)
          have nr : (n : Int) + 1 - 1 ≤ 10000 := by omega
          walk_at "s1"
          rw [inD_rng]
          exact h'
        | false =>
          have e : isRuleD (.tup [.str "middle", y]) n = false := by
            unfold isRuleD
            split
            · rename_i z; cases z
            · rename_i z; cases z; rfl
            · rename_i z; cases z; cases hi
            · rfl
          rw [e] at h'
          have : (isTy .int y && !isTy .bool y) = false := by
            cases y <;> first | (cases py; done) | rfl | (cases hi; done)
          walk_at "s1"
          exact h'
      · rw [eqv_str] at c
        have c : ¬ x = "middle" := by simpa using c
        walk_at "s1"
        by_cases hs : x = "shares" ∧ isTy .list y = true
        · obtain ⟨rfl, hl⟩ := hs
          obtain ⟨l, rfl⟩ : ∃ l, y = .lst l := by cases y <;> first | exact ⟨_, rfl⟩ | (cases hl; done) | (cases py; done) | (cases ny; done)
          have e : isRuleD (.tup [.str "shares", .lst l]) n = (decide ((l.length : Int) = n) && l.all isWeightD) := by unfold isRuleD; simp
          rw [e] at h
          have h10 : l.length ≤ 10000 := by have := hy.lst.1; omega
          refine boolIf (decide (¬ (l.length : Int) = n)) (fun Q' h' => ?_) (fun g => ?_) (fun g => ?_)
          · walk_at "s1"
            rw [eqv_int]
            have : (!((l.length : Int) == (n : Int))) = decide (¬ (l.length : Int) = n) := by rw [Bool.eq_iff_iff, Bool.not_eq_true', beq_eq_false_iff_ne, decide_eq_true_iff]
            rw [this]
            exact h'
          · rw [decide_eq_false (of_decide_eq_true g), Bool.false_and] at h
            walk_at "s1"
            exact h
          · have g : (l.length : Int) = n := by simpa using g
            rw [decide_eq_true g, Bool.true_and] at h
            walk_at "s1"
            rw [← List.map_id l]
            refine compL_map id (fun d => .bl (isWeightD d)) l (fun i hi => by cases hi) (fun x hx C hC => ?_) ?_
            · have hx := (hy.lst.2 x hx).mono (show _ ≤ 8 by decide)
              have nx := hx.noOwn
              walk_at "s1"
              exact hC
            have ea : asBls (l.map fun d => D.bl (isWeightD d)) = some (l.map isWeightD) := by rw [show (l.map fun d => D.bl (isWeightD d)) = (l.map isWeightD).map D.bl by simp, asBls_map]
            have e2 : (l.map isWeightD).all id = l.all isWeightD := by rw [List.all_map]; rfl
            walk_at "s1"
            refine getO_eq ea ?_
            rw [e2]
            rw [List.map_id]
            walk_at "s1"
            exact h
        · have e : isRuleD (.tup [.str x, y]) n = false := by
            unfold isRuleD
            split
            · rename_i z; cases z
            · rename_i z
              cases z
              have : ¬ x = "shares" := fun z => hs ⟨z, rfl⟩
              simp [this]
            · rename_i z
              cases z
              simp [c]
            · rfl
          rw [e] at h
          refine boolT true (fun Q' h' => ?_) ?_
          · walk_at "s1"
            refine ifB (fun c2 => ?_) (fun c2 => ?_)
            · exact h'
            · rw [eqv_str] at c2
              have c2 : x = "shares" := by simpa using c2
              subst c2
              have : isTy .list y = false := by simpa using hs
              walk_at "s1"
              rw [this]
              exact h'
          walk_at "s1"
          exact h
    · have e : isRuleD (.tup (.str x :: y :: z :: r)) n = false := by
        unfold isRuleD
        split <;> first | rfl | (rename_i z; cases z)
      rw [e] at h
      have okl : eqOk (.int (((D.str x :: y :: z :: r).length : Nat) : Int)) (.own [.int 1, .int 2]) := ⟨okD_int _ _, okB_ok _ 8 (by decide +kernel)⟩
      have hl : inD (.int (((D.str x :: y :: z :: r).length : Nat) : Int)) [.int 1, .int 2] = false := by
        unfold inD
        simp only [List.any_cons, List.any_nil, Bool.or_false, eqv_int]
        rw [Bool.or_eq_false_iff, beq_eq_false_iff_ne, beq_eq_false_iff_ne]
        simp only [List.length_cons]
        omega
      walk_at "st"
      refine boolT true (fun Q' h' => ?_) ?_
      · walk_at "s1"
        exact h'
      walk_at "s1"
      exact h
  · have e : isRuleD d n = false := by
      unfold isRuleD
      split <;> first | rfl | exact absurd ⟨_, _, rfl⟩ ht
    rw [e] at h
    walk_at "st"
    refine boolT true (fun Q' h' => ?_) ?_
    · cases d <;> first | (cases pl; done) | skip
      all_goals
        walk_at "s1"
        first | exact h' | skip
      rename_i l
      cases hin : inD (.int (l.length : Int)) [.int 1, .int 2] with
      | false => exact h'
      | true =>
        cases l with
        | nil => exact absurd hin (by decide)
        | cons y l =>
          have hy := hd.tup.2 y (by simp)
          have ny := hy.noOwn
          have py := hy.plain
          have hs : isTy .str y = false := by cases y <;> first | rfl | exact absurd ⟨_, _, rfl⟩ ht
          walk_at "s1"
          rw [hs]
          exact h'
    · walk_at "s1"
      exact h

theorem dv__law_is_rule {P : Program} {w : World} {K : PySem.W.Frag} {mg : Str → Option Value} {base : Heap} {cl : Nat → Addr} (B : Bl mg) (Er : Er K mg nms cl)   (G__law_whole : Cal P w K mg base 1 1 "_law_whole" (T__law_whole cl)) (G__law_is_weight : Cal P w K mg base 2 1 "_law_is_weight" (T__law_is_weight cl)) (f : Addr) (cdv : Value) (A : Around) (outer : List Env) (s : Shared) (H : Hp) (E : XK) (hrG : RmG 2 (A.deeper (envOfC "_law_is_rule" (defScope s__law_is_rule) s.heap.objs.size f cdv))) :
    PSs (cxOf (L2.CX P w) P w K mg base ["_law_thing", "_law_many", "_law_weight_here"] "_law_is_rule" (defScope s__law_is_rule) f cdv A outer s H E) (defBody s__law_is_rule) (liftS K (fun cls d _ H => E cls d H) (r__law_is_rule cl)) := by
  have nd := sc__law_is_rule.nd
  have hr := hrG.rm
  exact (s_cons (s_if (t_bool (PW.pt (t_or (t_not (t_val (d_isi .tuple B.isinstance B.tuple (by decide +kernel) (d_look (pv 0))))) (t_or (t_nin hr (d_len B.len (d_look (pv 0))) (d_lst (a_cons (d_int) (a_cons (d_int) a_nil)))) (t_or1 (t_not (t_val (d_isi .str B.isinstance B.str (by decide +kernel) (d_eb (d_ixS (pv 0) (d_int))))))))))) (s_one (s_ret (d_bl))) (s_nil))
      (s_cons (s_if (t_eq hr (d_len B.len (d_look (pv 0))) (d_int)) (s_one (s_ret (d_in hr (d_ixS (pv 0) (d_int)) (d_lst (a_cons (d_str) (a_cons (d_str) (a_cons (d_str) a_nil))))))) (s_nil))
      (s_cons (s_if (t_eq hr (d_ixS (pv 0) (d_int)) (d_str)) (s_one (s_ret ((d_bool (d_and (d_cl G__law_whole tk_fn hrG (c_ex (d_ixS (pv 0) (d_int)) c_nil)) (d_one (d_in hr (d_ixS (pv 0) (d_int)) (d_lr2 rfl B.list B.range (d_int) (d_add (d_var (pv 1)) (d_int)))))))))) (s_nil))
      (s_cons (s_if (t_bool (PW.pt (t_or (t_ne hr (d_ixS (pv 0) (d_int)) (d_str)) (t_or (t_not (t_val (d_isi .list B.isinstance B.list (by decide +kernel) (d_eb (d_ixS (pv 0) (d_int)))))) (t_or1 (t_ne hr (d_len B.len (d_eb (d_ixS (pv 0) (d_int)))) (d_var (pv 1)))))))) (s_one (s_ret (d_bl))) (s_nil))
      (s_one (s_ret (d_all rfl B.all (d_eb (d_comp (own := [("_law_weight_here", 2)]) (g := gName 2) rfl nd (i_lst (d_ixS (pv 0) (d_int))) (show blkC ["_law_thing", "_law_many", "_law_weight_here"] (defScope s__law_is_rule) _ _ = true by decide +kernel) rfl (fun hk => tg_name) (fun _ _ _ _ _ => pg_name (i := 2) nd rfl (.inl rfl)) (fun _ _ _ _ _ => ts_nil) (fun _ _ _ _ _ => (d_cl G__law_is_weight takes0 hrG (c_ex (d_var (pv 2)) c_nil))))))))))))
theorem ok__law_is_rule {P : Program} {w : World} {K : PySem.W.Frag} {mg : Str → Option Value} {base : Heap} {cl : Nat → Addr} (B : Bl mg) (Er : Er K mg nms cl) (D : DefAt K mg "_law_is_rule" s__law_is_rule ["_law_thing", "_law_many"])   (G__law_whole : Cal P w K mg base 1 1 "_law_whole" (T__law_whole cl)) (G__law_is_weight : Cal P w K mg base 2 1 "_law_is_weight" (T__law_is_weight cl)) : Cal P w K mg base 3 2 "_law_is_rule" (T__law_is_rule cl) :=
  cal_ok (m := 1) D sc__law_is_rule rfl rfl (fun f cdv A outer s H E hr => dv__law_is_rule B Er G__law_whole G__law_is_weight f cdv A outer s H E hr) (law__law_is_rule)
/-! _law_rule_bent -/
abbrev s__law_rule_bent : Stmt := top 54
theorem sc__law_rule_bent : FnScope ["_law_rule_here", "_law_many", "_law_pile_here", "_law_way", "_law_weights", "_law_at", "_law_odd_here", "_law_some", "_law_k"] ["_law_rule_here", "_law_many", "_law_pile_here"] (defScope s__law_rule_bent) := ⟨rfl, rfl, rfl, by decide +kernel, rfl, by decide +kernel, by decide +kernel⟩
def T__law_rule_bent (cl : Nat → Addr) : Spec := fun as Q _ => ∃ (r : Rule) (m : Nat) (n : Int), as = [.va (ruD r), .va (.int (m : Int)), .io (.own [.int n])] ∧ Ru r m ∧ 1 ≤ m ∧ m ≤ 4 ∧ RuZ 40 r ∧ 0 ≤ n ∧ ∀ (d e : D) (n' : Int), d.frz = e → BentR e → 0 ≤ n' → Q d [.own [.int n']]

def r__law_rule_bent (cl : Nat → Addr) : DS :=
    (sSeq (sSet 3 (dCall 2 (T__law_take cl) (cIo 2 (cEx (dC (.int 8)) cNil))))
    (sSeq (sSet 4 (dFz (dComp (itR1 (dVar 1)) (tgName 8) tYesD (dCall 1 (T__law_weight cl) (cIo 2 cNil)) [8])))
    (sSeq (sSet 5 (dCall 2 (T__law_take cl) (cIo 2 (cEx (dVar 1) cNil))))
    (sSeq (sSet 6 (dFz (dLst (aCons (dTup (aCons (dSub (dC (.int 0)) (dC (.int 1))) (aCons (dC (.int 2)) aNil))) (aCons (dTup (aCons (dC (.int 2)) (aCons (dC (.int 4)) aNil))) (aCons (dTup (aCons (dC (.int 1)) (aCons (dC (.int 0)) aNil))) (aCons (dTup (aCons (dC (.bl true)) (aCons (dC (.int 1)) aNil))) (aCons (dFz (dLst (aCons (dC (.int 1)) (aCons (dC (.int 2)) aNil)))) (aCons (dC .non) (aCons (dC (.int 1)) (aCons (dC (.str "1")) (aCons (dTup (aCons (dC (.int 1)) (aCons (dC (.int 2)) (aCons (dC (.int 3)) aNil)))) (aCons (dFr (5 / 3 : Rat)) aNil)))))))))))))
    (sSeq (sSet 6 (dIxS 6 (dCall 2 (T__law_take cl) (cIo 2 (cEx (dC (.int 10)) cNil)))))
    (sSeq (sIf (dT (dLt (dVar 3) (dC (.int 3)))) (sRet (dTup (aCons (dC (.str "shares")) (aCons (dCat (dCat (dSlS 4 oNone (oSome (dVar 5))) (dRep (dFz (dLst (aCons (dVar 6) aNil))) (dIx (dLst (aCons (dC (.int 1)) (aCons (dC (.int 2)) (aCons (dC (.int 1)) aNil)))) (dVar 3)))) (dSlS 4 (oSome (dAdd (dVar 5) (dIx (dLst (aCons (dC (.int 1)) (aCons (dC (.int 1)) (aCons (dC (.int 0)) aNil)))) (dVar 3)))) oNone)) aNil)))) (sNext))
    (sSeq (sIf (dT (dEq (dVar 3) (dC (.int 3)))) (sRet (dTup (aCons (dC (.str "shares")) (aCons (dIx (dLst (aCons (dTupOf (dLook 4)) (aCons (dIxS 4 (dC (.int 0))) (aCons (dC .non) (aCons (dTup aNil) (aCons (dC (.str "1")) aNil)))))) (dCall 2 (T__law_take cl) (cIo 2 (cEx (dC (.int 5)) cNil)))) aNil)))) (sNext))
    (sSeq (sIf (dT (dEq (dVar 3) (dC (.int 4)))) (sSeq (sSet 7 (dFz (dLst (aCons (dC (.int 0)) (aCons (dAdd (dVar 1) (dC (.int 1))) (aCons (dSub (dC (.int 0)) (dC (.int 1))) (aCons (dC (.bl true)) (aCons (dC .non) (aCons (dC (.str "1")) (aCons (dFr (1 : Rat)) (aCons (dFz (dLst (aCons (dC (.int 1)) aNil))) (aCons (dPow (dC (.int 10)) (dC (.int 50))) aNil))))))))))))
    (sRet (dTup (aCons (dC (.str "middle")) (aCons (dIxS 7 (dCall 2 (T__law_take cl) (cIo 2 (cEx (dC (.int 9)) cNil)))) aNil))))) (sNext))
    (sSeq (sIf (dT (dEq (dVar 3) (dC (.int 5)))) (sRet (dCatT (dVar 0) (dIx (dLst (aCons (dTup (aCons (dC (.int 1)) aNil)) (aCons (dTup (aCons (dC .non) aNil)) (aCons (dFz (dTup (aCons (dLst aNil) aNil))) (aCons (dTup (aCons (dVar 4) aNil)) aNil))))) (dCall 2 (T__law_take cl) (cIo 2 (cEx (dC (.int 4)) cNil)))))) (sNext))
    (sSeq (sIf (dT (dEq (dVar 3) (dC (.int 6)))) (sSeq (sSet 7 (dFz (dLst (aCons (dTup (aCons (dC (.str "most")) aNil)) (aCons (dTup (aCons (dC (.str "least ")) aNil)) (aCons (dTup (aCons (dC (.str "Least")) aNil)) (aCons (dTup (aCons (dC (.str "shares")) aNil)) (aCons (dTup (aCons (dC (.str "middle")) aNil)) (aCons (dTup aNil) (aCons (dTup (aCons (dC (.str "")) aNil)) (aCons (dTup (aCons (dC (.int 0)) aNil)) aNil)))))))))))
    (sRet (dIxS 7 (dCall 2 (T__law_take cl) (cIo 2 (cEx (dC (.int 8)) cNil)))))) (sNext))
    (sRet (dIx (dLst (aCons (dFz (dList (dLook 0))) (aCons (dIxS 0 (dC (.int 0))) (aCons (dC .non) (aCons (dC (.bl true)) (aCons (dC (.int 3)) (aCons (dFz (dLst aNil)) (aCons (dTup (aCons (dVar 0) aNil)) (aCons (dFz (dLst (aCons (dVar 0) aNil))) aNil))))))))) (dCall 2 (T__law_take cl) (cIo 2 (cEx (dC (.int 8)) cNil)))))))))))))))
-- LAW
theorem law__law_rule_bent {cl : Nat → Addr} : ∀ as Q E, T__law_rule_bent cl as Q E → r__law_rule_bent cl (endsOf Q E) (as ++ List.replicate 6 .un) := by
  rintro as Q E ⟨r, m, n, rfl, hr, m1, m4, hz, hn, h⟩
  unfold r__law_rule_bent
  have nr := noOwn_ruD r
  have pr := pd_ruD r _ hr (by omega)
  have sr := sh_ruD hr m4 hz
  have z8 : Sz 9000 8 := sz_om (by omega) (by omega)
  have z9 : Sz 9000 9 := sz_om (by omega) (by omega)
  have z5 : Sz 9000 5 := sz_om (by omega) (by omega)
  have z4 : Sz 9000 4 := sz_om (by omega) (by omega)
  have z10 : Sz 9000 10 := sz_om (by omega) (by omega)
  have zm : Sz 9000 (m : Int) := sz_om (by omega) (by omega)
  have m0 : (0 : Int) < m := by omega
  have hrm : (rngD 0 (m : Int)).length ≤ 10000 := by rw [rngD_nat, List.length_map, List.length_range]; omega
  walk_at "st"
  intro way n1 w0 w1 hn1
  walk_at "s1"
  rw [rngD_nat]
  refine compL_inv (fun i : Nat => .int (i : Int)) (fun pre acc M => ∃ (ws : List Rat) (n : Int), acc = ws.map qD ∧ M = [.va (ruD r), .va (.int (m : Int)), .io (.own [.int n]), .va (.int way), .un, .un, .un, .un, .un] ∧ 0 ≤ n ∧ ws.length = pre.length ∧ (∀ q ∈ ws, 0 ≤ q ∧ Qz 40 q)) (List.range m) _ ⟨[], n1, rfl, rfl, hn1, rfl, by simp⟩ ?_ ?_
  · rintro pre j suf acc M e ⟨ws, n, rfl, rfl, hn, hws, hww⟩
    refine ⟨fun i hi => (by cases hi), fun K hK => ?_⟩
    walk_at "s1"
    intro q n' q0 qz hn'
    walk_at "s1"
    exact hK _ _ ⟨ws ++ [q], n', by rw [List.map_append]; rfl, rfl, hn', by simp [hws], fun x hx => by
      rcases List.mem_append.mp hx with hx | hx
      · exact hww x hx
      · rw [List.mem_singleton.mp hx]; exact ⟨q0, qz⟩⟩
  rintro acc M ⟨ws, n2, rfl, rfl, hn2, hws, hww⟩
  rw [List.length_range] at hws
  refine ⟨fun i hi => (by cases hi), _, frz_own_qD ws, ?_⟩
  walk_at "s1"
  intro at0 n3 a0 a1 hn3
  obtain ⟨i, rfl, hi⟩ : ∃ i : Nat, at0 = (i : Int) ∧ i < m := ⟨at0.toNat, by omega, by omega⟩
  walk_at "s1"
  have hB : ∀ d ∈ [D.tup [D.int (0 - 1), D.int 2], D.tup [D.int 2, D.int 4], D.tup [D.int 1, D.int 0], D.tup [D.bl true, D.int 1], D.lst [D.int 1, D.int 2], D.non, D.int 1, D.str "1", D.tup [D.int 1, D.int 2, D.int 3], qD (5 / 3)], ItR d := by
    intro d hd
    simp only [List.mem_cons, List.not_mem_nil, or_false] at hd
    rcases hd with rfl | rfl | rfl | rfl | rfl | rfl | rfl | rfl | rfl | rfl <;> exact itR_c (by decide +kernel) (by decide +kernel) (by decide +kernel)
  intro k n4 k0 k1 hn4
  obtain ⟨odd, eo, hm⟩ := ixl_mem (l := [D.tup [D.int (0 - 1), D.int 2], D.tup [D.int 2, D.int 4], D.tup [D.int 1, D.int 0], D.tup [D.bl true, D.int 1], D.lst [D.int 1, D.int 2], D.non, D.int 1, D.str "1", D.tup [D.int 1, D.int 2, D.int 3], qD (5 / 3)]) k0 (by simpa using k1)
  have ho := hB odd hm
  have no := ho.1.noOwn
  clear hB hm
  walk_at "s1"
  refine getO_eq eo ?_
  clear eo
  walk_at "s1"
  have nws := noOwns_qD ws
  have hww' : ∀ x ∈ ws.map qD, ItR x := fun x hx => by obtain ⟨q, hq, rfl⟩ := List.mem_map.mp hx; exact itR_q (hww q hq).2
  have lws : (ws.map qD).length = m := by rw [List.length_map, hws]
  have finS : ∀ (L : List D) (n' : Int), (∀ x ∈ L, ItR x) → L.length ≤ 10 → 0 ≤ n' → Q (.tup [.str "shares", .own L]) [.own [.int n']] := fun L n' hL h10 hn' => h _ _ n' (frz_sh (itR_noOwns hL)) (bentR_sh hL h10) hn'
  have itA : ∀ {a b : List D}, (∀ x ∈ a, ItR x) → (∀ x ∈ b, ItR x) → ∀ x ∈ a ++ b, ItR x := fun ha hb x hx => (List.mem_append.mp hx).elim (ha x) (hb x)
  have itk : ∀ k, ∀ x ∈ (ws.map qD).take k, ItR x := fun k x hx => hww' x (List.mem_of_mem_take hx)
  have idr : ∀ k, ∀ x ∈ (ws.map qD).drop k, ItR x := fun k x hx => hww' x (List.mem_of_mem_drop hx)
  have irp : ∀ k, ∀ x ∈ repL [odd] k, ItR x := fun k x hx => by rw [mem_rep1 hx]; exact ho
  rcases (show way = 0 ∨ way = 1 ∨ way = 2 ∨ way = 3 ∨ way = 4 ∨ way = 5 ∨ way = 6 ∨ way = 7 by omega) with rfl | rfl | rfl | rfl | rfl | rfl | rfl | rfl
  · have n1 : D.noOwns [odd] = true := itR_noOwns fun x hx => by rw [List.mem_singleton.mp hx]; exact ho
    have sk : smallI 1 := smallI_ok (by omega) (by omega)
    have l1 : [odd].length * Int.toNat 1 ≤ 10000 := by simp
    have nt := itR_noOwns (itk i)
    have nr1 : D.noOwns (repL [odd] (Int.toNat 1)) = true := itR_noOwns (irp _)
    have l2 : ((ws.map qD).take i).length + (repL [odd] (Int.toNat 1)).length ≤ 10000 := by rw [rep1_len, List.length_take]; show _ + 1 ≤ 10000; omega
    walk_at "s1"
    rw [cutD_to]
    walk_at "s1"
    rw [show (i : Int) + 1 = ((i + 1 : Nat) : Int) by omega, cutD_from]
    have n5 : D.noOwns ((ws.map qD).take i ++ repL [odd] (Int.toNat 1)) = true := itR_noOwns (itA (itk i) (irp _))
    have n6 : D.noOwns ((ws.map qD).drop (i + 1)) = true := itR_noOwns (idr _)
    have l3 : ((ws.map qD).take i ++ repL [odd] (Int.toNat 1)).length + ((ws.map qD).drop (i + 1)).length ≤ 10000 := by rw [List.length_append, rep1_len, List.length_take, List.length_drop]; show _ + 1 + _ ≤ 10000; omega
    walk_at "s1"
    exact finS _ n4 (itA (itA (itk i) (irp _)) (idr _)) (by rw [List.length_append, List.length_append, rep1_len, List.length_take, List.length_drop]; show _ + 1 + _ ≤ 10; omega) hn4
  · have n1 : D.noOwns [odd] = true := itR_noOwns fun x hx => by rw [List.mem_singleton.mp hx]; exact ho
    have sk : smallI 2 := smallI_ok (by omega) (by omega)
    have l1 : [odd].length * Int.toNat 2 ≤ 10000 := by simp
    have nt := itR_noOwns (itk i)
    have nr1 : D.noOwns (repL [odd] (Int.toNat 2)) = true := itR_noOwns (irp _)
    have l2 : ((ws.map qD).take i).length + (repL [odd] (Int.toNat 2)).length ≤ 10000 := by rw [rep1_len, List.length_take]; show _ + 2 ≤ 10000; omega
    walk_at "s1"
    rw [cutD_to]
    walk_at "s1"
    rw [show (i : Int) + 1 = ((i + 1 : Nat) : Int) by omega, cutD_from]
    have n5 : D.noOwns ((ws.map qD).take i ++ repL [odd] (Int.toNat 2)) = true := itR_noOwns (itA (itk i) (irp _))
    have n6 : D.noOwns ((ws.map qD).drop (i + 1)) = true := itR_noOwns (idr _)
    have l3 : ((ws.map qD).take i ++ repL [odd] (Int.toNat 2)).length + ((ws.map qD).drop (i + 1)).length ≤ 10000 := by rw [List.length_append, rep1_len, List.length_take, List.length_drop]; show _ + 2 + _ ≤ 10000; omega
    walk_at "s1"
    exact finS _ n4 (itA (itA (itk i) (irp _)) (idr _)) (by rw [List.length_append, List.length_append, rep1_len, List.length_take, List.length_drop]; show _ + 2 + _ ≤ 10; omega) hn4
  · have n1 : D.noOwns [odd] = true := itR_noOwns fun x hx => by rw [List.mem_singleton.mp hx]; exact ho
    have sk : smallI 1 := smallI_ok (by omega) (by omega)
    have l1 : [odd].length * Int.toNat 1 ≤ 10000 := by simp
    have nt := itR_noOwns (itk i)
    have nr1 : D.noOwns (repL [odd] (Int.toNat 1)) = true := itR_noOwns (irp _)
    have l2 : ((ws.map qD).take i).length + (repL [odd] (Int.toNat 1)).length ≤ 10000 := by rw [rep1_len, List.length_take]; show _ + 1 ≤ 10000; omega
    walk_at "s1"
    rw [cutD_to]
    walk_at "s1"
    rw [show (i : Int) + 0 = ((i + 0 : Nat) : Int) by omega, cutD_from]
    have n5 : D.noOwns ((ws.map qD).take i ++ repL [odd] (Int.toNat 1)) = true := itR_noOwns (itA (itk i) (irp _))
    have n6 : D.noOwns ((ws.map qD).drop (i + 0)) = true := itR_noOwns (idr _)
    have l3 : ((ws.map qD).take i ++ repL [odd] (Int.toNat 1)).length + ((ws.map qD).drop (i + 0)).length ≤ 10000 := by rw [List.length_append, rep1_len, List.length_take, List.length_drop]; show _ + 1 + _ ≤ 10000; omega
    walk_at "s1"
    exact finS _ n4 (itA (itA (itk i) (irp _)) (idr _)) (by rw [List.length_append, List.length_append, rep1_len, List.length_take, List.length_drop]; show _ + 1 + _ ≤ 10; omega) hn4
  · obtain ⟨w, wr, ew⟩ : ∃ w wr, ws = w :: wr := by
      cases ws with
      | nil => simp at hws; omega
      | cons w wr => exact ⟨w, wr, rfl⟩
    have xw : ixl (ws.map qD) 0 = some (qD w) := by rw [ew]; rfl
    have zw : Qz 40 w := (hww w (by rw [ew]; simp)).2
    walk_at "s1"
    refine getO_eq xw ?_
    walk_at "s1"
    intro k n5 k0 k1 hn5
    have hB : ∀ d ∈ [D.tup (ws.map qD), qD w, .non, .tup [], .str "1"], PD 4 d ∧ Sh 2000 d ∧ isTy .list d = false := by
      intro d hd
      simp only [List.mem_cons, List.not_mem_nil, or_false] at hd
      rcases hd with rfl | rfl | rfl | rfl | rfl
      · exact ⟨pd_tup (n := 3) (by omega) fun x hx => (hww' x hx).1, sh_tup (n := 200) (fun x hx => (hww' x hx).2.1) (by omega), rfl⟩
      · exact ⟨pd_qD 3 w, (sh_qD zw).mono (by decide), rfl⟩
      all_goals exact ⟨pdB_ok (by decide +kernel), shB_ok (by decide +kernel), rfl⟩
    obtain ⟨d, e1, hm⟩ := ixl_mem (l := [D.tup (ws.map qD), qD w, .non, .tup [], .str "1"]) k0 (by simpa using k1)
    obtain ⟨d1, d2, d3⟩ := hB d hm
    have nd := d1.noOwn
    walk_at "s1"
    refine getO_eq e1 ?_
    walk_at "s1"
    have nt : (D.tup [.str "shares", d]).noOwn = true := by rw [noOwn_tup, noOwns_cons, noOwns_cons, nd]; rfl
    refine h _ _ n5 (frz_of _ nt) (bentR_no (pd_tup (n := 5) (by simp) fun x hx => ?_) (sh_tup (n := 2000) (fun x hx => ?_) (by simp only [List.length_cons, List.length_nil]; omega)) fun l e => ?_) hn5
    · simp only [List.mem_cons, List.not_mem_nil, or_false] at hx
      rcases hx with rfl | rfl
      · exact pd_word _ _ (by simp)
      · exact d1.mono (by decide)
    · simp only [List.mem_cons, List.not_mem_nil, or_false] at hx
      rcases hx with rfl | rfl
      · exact (sh_word _ (by simp)).mono (by decide)
      · exact d2
    · simp only [D.tup.injEq, List.cons.injEq, and_true, true_and] at e
      subst e
      cases d3
  · walk_at "s1"
    intro k n5 k0 k1 hn5
    have hB : ∀ d ∈ [D.int 0, .int ((m : Int) + 1), .int (0 - 1), .bl true, .non, .str "1", qD 1, .lst [.int 1], .int (10 ^ 50)], PD 4 d ∧ Sh 400 d := by
      intro d hd
      simp only [List.mem_cons, List.not_mem_nil, or_false] at hd
      have sm : Sh 400 (.int ((m : Int) + 1)) := sh_int (n := 400) (Nat.lt_of_lt_of_le (sz_log (n := 50) (show ((m : Int) + 1).natAbs < 2 ^ 50 from by
        have e : (2 : Nat) ^ 50 = 1125899906842624 := by decide
        omega)) (by decide)) (by decide)
      rcases hd with rfl | rfl | rfl | rfl | rfl | rfl | rfl | rfl | rfl
      · exact ⟨pdB_ok (by decide +kernel), shB_ok (by decide +kernel)⟩
      · exact ⟨pd_int _ _, sm⟩
      all_goals exact ⟨pdB_ok (by decide +kernel), shB_ok (by decide +kernel)⟩
    obtain ⟨d, e1, hm⟩ := ixl_mem (l := [D.int 0, .int ((m : Int) + 1), .int (0 - 1), .bl true, .non, .str "1", qD 1, .lst [.int 1], .int (10 ^ 50)]) k0 (by simpa using k1)
    obtain ⟨d1, d2⟩ := hB d hm
    have nd := d1.noOwn
    walk_at "s1"
    refine getO_eq e1 ?_
    walk_at "s1"
    have nt : (D.tup [.str "middle", d]).noOwn = true := by rw [noOwn_tup, noOwns_cons, noOwns_cons, nd]; rfl
    refine h _ _ n5 (frz_of _ nt) (bentR_no (pd_tup (n := 5) (by simp) fun x hx => ?_) (sh_tup (n := 400) (fun x hx => ?_) (by simp only [List.length_cons, List.length_nil]; omega)) fun l e => ?_) hn5
    · simp only [List.mem_cons, List.not_mem_nil, or_false] at hx
      rcases hx with rfl | rfl
      · exact pd_word _ _ (by simp)
      · exact d1.mono (by decide)
    · simp only [List.mem_cons, List.not_mem_nil, or_false] at hx
      rcases hx with rfl | rfl
      · exact (sh_word _ (by simp)).mono (by decide)
      · exact d2
    · simp only [D.tup.injEq, List.cons.injEq] at e
      exact absurd e.1 (by intro z; injection z with z; exact absurd (congrArg tl z) (by decide +kernel))
  · obtain ⟨l, el, l1, l2, hl, hns⟩ := ruD_parts hr m4 hz
    have nol := PD.noOwns fun d hd => (hl d hd).1
    walk_at "s1"
    intro k n5 k0 k1 hn5
    have hB : ∀ d ∈ [D.tup [.int 1], .tup [.non], .tup [.lst []], .tup [qL ws]], ∃ x, d = .tup [x] ∧ PD 4 x ∧ Sh 1200 x := by
      intro d hd
      simp only [List.mem_cons, List.not_mem_nil, or_false] at hd
      rcases hd with rfl | rfl | rfl | rfl
      · exact ⟨_, rfl, pdB_ok (by decide +kernel), shB_ok (by decide +kernel)⟩
      · exact ⟨_, rfl, pdB_ok (by decide +kernel), shB_ok (by decide +kernel)⟩
      · exact ⟨_, rfl, pdB_ok (by decide +kernel), shB_ok (by decide +kernel)⟩
      · exact ⟨_, rfl, pd_qL 2 ws (by omega), (sh_qL (fun q hq => (hww q hq).2) (by omega)).mono (by decide)⟩
    obtain ⟨d, e1, hm⟩ := ixl_mem (l := [D.tup [.int 1], .tup [.non], .tup [.lst []], .tup [qL ws]]) k0 (by simpa using k1)
    obtain ⟨x, rfl, x1, x2⟩ := hB d hm
    have nx := x1.noOwn
    have nd : (D.tup [x]).noOwn = true := by rw [noOwn_tup, noOwns_cons, nx]; rfl
    have n1 : D.noOwns [x] = true := by rw [noOwns_cons, nx]; rfl
    have l3 : l.length + [x].length ≤ 10000 := by simp only [List.length_singleton]; omega
    walk_at "s1"
    refine getO_eq e1 ?_
    rw [el]
    walk_at "s1"
    have hall : ∀ y ∈ l ++ [x], PD 4 y ∧ Sh 1200 y := fun y hy => (List.mem_append.mp hy).elim (hl y) fun hy => by rw [List.mem_singleton.mp hy]; exact ⟨x1, x2⟩
    have l4 : (l ++ [x]).length ≤ 3 := by rw [List.length_append, List.length_singleton]; omega
    have nt : (D.tup (l ++ [x])).noOwn = true := by rw [noOwn_tup]; exact PD.noOwns fun d hd => (hall d hd).1
    exact h _ _ n5 (frz_of _ nt) (bentR_no (pd_tup (n := 5) (by omega) fun y hy => (hall y hy).1.mono (by decide)) (sh_tup (n := 1200) (fun y hy => (hall y hy).2) (by omega)) (hns x)) hn5
  · walk_at "s1"
    intro k n5 k0 k1 hn5
    have hB : ∀ d ∈ [D.tup [.str "most"], .tup [.str "least "], .tup [.str "Least"], .tup [.str "shares"], .tup [.str "middle"], .tup [], .tup [.str ""], .tup [.int 0]], BentR d := by
      intro d hd
      simp only [List.mem_cons, List.not_mem_nil, or_false] at hd
      rcases hd with rfl | rfl | rfl | rfl | rfl | rfl | rfl | rfl <;> exact bentR_no (pdB_ok (by decide +kernel)) (shB_ok (by decide +kernel)) (fun l e => by cases e)
    obtain ⟨d, e1, hm⟩ := ixl_mem (l := [D.tup [.str "most"], .tup [.str "least "], .tup [.str "Least"], .tup [.str "shares"], .tup [.str "middle"], .tup [], .tup [.str ""], .tup [.int 0]]) k0 (by simpa using k1)
    have hd := hB d hm
    have nd := hd.pd.noOwn
    walk_at "s1"
    refine getO_eq e1 ?_
    walk_at "s1"
    exact h _ _ n5 (frz_of _ nd) hd hn5
  · obtain ⟨l, el, l1, l2, hl, hns⟩ := ruD_parts hr m4 hz
    have nol := PD.noOwns fun d hd => (hl d hd).1
    obtain ⟨h0, t0, eh⟩ : ∃ h0 t0, l = h0 :: t0 := by
      cases l with
      | nil => simp at l1
      | cons a b => exact ⟨a, b, rfl⟩
    have x0 : ixl l 0 = some h0 := by rw [eh]; rfl
    obtain ⟨p0, s0⟩ := hl h0 (by rw [eh]; simp)
    have nh0 := p0.noOwn
    have fol : (D.own l).frz = .lst l := frz_ownN _ nol
    rw [el] at pr sr nr ⊢
    walk_at "s1"
    refine getO_eq x0 ?_
    have f1 : (D.own [D.tup l]).frz = .lst [.tup l] := frz_own1 nr
    walk_at "s1"
    refine ⟨_, f1, ?_⟩
    walk_at "s1"
    intro k n5 k0 k1 hn5
    have pl : PD 5 (.lst l) := pd_lst (n := 4) (by omega) fun x hx => (hl x hx).1
    have sl : Sh 2500 (.lst l) := sh_lst (n := 1200) (fun x hx => (hl x hx).2) (by omega)
    have hB : ∀ d ∈ [D.lst l, h0, .non, .bl true, .int 3, .lst [], .tup [.tup l], .lst [.tup l]], PD 6 d ∧ Sh 14000 d ∧ nsh d := by
      intro d hd
      simp only [List.mem_cons, List.not_mem_nil, or_false] at hd
      rcases hd with rfl | rfl | rfl | rfl | rfl | rfl | rfl | rfl
      · exact ⟨pl.mono (by decide), sl.mono (by decide), fun L e => by cases e⟩
      · refine ⟨p0.mono (by decide), s0.mono (by decide), fun L e => ?_⟩
        have : ∃ x, d = .str x := by
          cases r with
          | shares ws => rw [eh] at el; exact ⟨_, ((List.cons.inj (D.tup.inj el)).1).symm⟩
          | middle k => rw [eh] at el; exact ⟨_, ((List.cons.inj (D.tup.inj el)).1).symm⟩
          | least => rw [eh] at el; exact ⟨_, ((List.cons.inj (D.tup.inj el)).1).symm⟩
          | greatest => rw [eh] at el; exact ⟨_, ((List.cons.inj (D.tup.inj el)).1).symm⟩
          | product => rw [eh] at el; exact ⟨_, ((List.cons.inj (D.tup.inj el)).1).symm⟩
        obtain ⟨x, rfl⟩ := this
        cases e
      · exact ⟨pdB_ok (by decide +kernel), shB_ok (by decide +kernel), fun L e => by cases e⟩
      · exact ⟨pdB_ok (by decide +kernel), shB_ok (by decide +kernel), fun L e => by cases e⟩
      · exact ⟨pdB_ok (by decide +kernel), shB_ok (by decide +kernel), fun L e => by cases e⟩
      · exact ⟨pdB_ok (by decide +kernel), shB_ok (by decide +kernel), fun L e => by cases e⟩
      · exact ⟨pd_tup (n := 5) (by simp) fun x hx => by rw [List.mem_singleton.mp hx]; exact pr.mono (by decide), sh_tup (n := 2400) (fun x hx => by rw [List.mem_singleton.mp hx]; exact sr) (by simp), fun L e => by
          have := congrArg (fun d => match d with | D.tup l => l.length | _ => 0) e
          simp at this⟩
      · exact ⟨pd_lst (n := 5) (by simp) fun x hx => by rw [List.mem_singleton.mp hx]; exact pr.mono (by decide), sh_lst (n := 2400) (fun x hx => by rw [List.mem_singleton.mp hx]; exact sr) (by simp), fun L e => by cases e⟩
    obtain ⟨d, e1, hm⟩ := ixl_mem (l := [D.lst l, h0, .non, .bl true, .int 3, .lst [], .tup [.tup l], .lst [.tup l]]) k0 (by simpa using k1)
    obtain ⟨d1, d2, d3⟩ := hB d hm
    have nd := d1.noOwn
    walk_at "s1"
    refine getO_eq e1 ?_
    walk_at "s1"
    exact h _ _ n5 (frz_of _ nd) (bentR_no d1 d2 d3) hn5

theorem dv__law_rule_bent {P : Program} {w : World} {K : PySem.W.Frag} {mg : Str → Option Value} {base : Heap} {cl : Nat → Addr} (B : Bl mg) (Er : Er K mg nms cl)   (G__law_take : Cal P w K mg base 1 2 "_law_take" (T__law_take cl)) (G__law_weight : Cal P w K mg base 3 1 "_law_weight" (T__law_weight cl)) (f : Addr) (cdv : Value) (A : Around) (outer : List Env) (s : Shared) (H : Hp) (E : XK) (hrG : RmG 3 (A.deeper (envOfC "_law_rule_bent" (defScope s__law_rule_bent) s.heap.objs.size f cdv))) :
    PSs (cxOf (L2.CX P w) P w K mg base ["_law_rule_here", "_law_many", "_law_pile_here", "_law_way", "_law_weights", "_law_at", "_law_odd_here", "_law_some", "_law_k"] "_law_rule_bent" (defScope s__law_rule_bent) f cdv A outer s H E) (defBody s__law_rule_bent) (liftS K (fun cls d _ H => E cls d H) (r__law_rule_bent cl)) := by
  have nd := sc__law_rule_bent.nd
  have hr := hrG.rm
  exact (s_cons (s_set (i := 3) nd (d_cl G__law_take tk_fn hrG (c_io (pv 2) (c_ex (d_int) c_nil))) rfl (.inl rfl))
      (s_cons (s_setCF (i := 4) (own := [("_law_k", 8)]) (g := gName 8) rfl nd (i_range1 B.range (d_var (pv 1))) (show blkC ["_law_rule_here", "_law_many", "_law_pile_here", "_law_way", "_law_weights", "_law_at", "_law_odd_here", "_law_some", "_law_k"] (defScope s__law_rule_bent) _ _ = true by decide +kernel) rfl (fun hk => tg_name) (fun _ _ _ _ _ => pg_name (i := 8) nd rfl (.inl rfl)) (fun _ _ _ _ _ => ts_nil) (fun _ _ _ _ _ => (d_cl G__law_weight takes0 hrG (c_io (pv 2) c_nil))))
      (s_cons (s_set (i := 5) nd (d_cl G__law_take tk_fn hrG (c_io (pv 2) (c_ex (d_var (pv 1)) c_nil))) rfl (.inl rfl))
      (s_cons (s_set (i := 6) nd (d_fz (d_lst (a_cons (d_tup (a_cons (d_sub (d_int) (d_int)) (a_cons (d_int) a_nil))) (a_cons (d_tup (a_cons (d_int) (a_cons (d_int) a_nil))) (a_cons (d_tup (a_cons (d_int) (a_cons (d_int) a_nil))) (a_cons (d_tup (a_cons (d_bl) (a_cons (d_int) a_nil))) (a_cons (d_fz (d_lst (a_cons (d_int) (a_cons (d_int) a_nil)))) (a_cons (d_non) (a_cons (d_int) (a_cons (d_str) (a_cons (d_tup (a_cons (d_int) (a_cons (d_int) (a_cons (d_int) a_nil)))) (a_cons (d_fr (5 / 3 : Rat) (d_tup (a_cons (d_int) (a_cons (d_int) a_nil)))) a_nil)))))))))))) rfl (.inl rfl))
      (s_cons (s_set (i := 6) nd (d_ixS (pv 6) (d_cl G__law_take tk_fn hrG (c_io (pv 2) (c_ex (d_int) c_nil)))) rfl (.inl rfl))
      (s_cons (s_if (t_lt (d_var (pv 3)) (d_int)) (s_one (s_ret (d_tup (a_cons (d_str) (a_cons (d_cat (d_cat (d_slS (pe_slice sl_list (pv 4) o_none (o_some (d_var (pv 5))))) (d_rep (d_fz (d_lst (a_cons (d_var (pv 6)) a_nil))) (d_ix (d_lst (a_cons (d_int) (a_cons (d_int) (a_cons (d_int) a_nil)))) (d_var (pv 3))))) (d_slS (pe_slice sl_list (pv 4) (o_some (d_add (d_var (pv 5)) (d_ix (d_lst (a_cons (d_int) (a_cons (d_int) (a_cons (d_int) a_nil)))) (d_var (pv 3))))) o_none))) a_nil))))) (s_nil))
      (s_cons (s_if (t_eq hr (d_var (pv 3)) (d_int)) (s_one (s_ret (d_tup (a_cons (d_str) (a_cons (d_ix (d_lst (a_cons (d_tupOf (pe_callTy call_tuple_of (by rfl) B.tuple (by decide +kernel) (pa_cons (d_look (pv 4)) pa_nil))) (a_cons (d_ixS (pv 4) (d_int)) (a_cons (d_non) (a_cons (d_tup a_nil) (a_cons (d_str) a_nil)))))) (d_cl G__law_take tk_fn hrG (c_io (pv 2) (c_ex (d_int) c_nil)))) a_nil))))) (s_nil))
      (s_cons (s_if (t_eq hr (d_var (pv 3)) (d_int)) (s_cons (s_set (i := 7) nd (d_fz (d_lst (a_cons (d_int) (a_cons (d_add (d_var (pv 1)) (d_int)) (a_cons (d_sub (d_int) (d_int)) (a_cons (d_bl) (a_cons (d_non) (a_cons (d_str) (a_cons (d_fr (1 : Rat) (d_tup (a_cons (d_int) (a_cons (d_int) a_nil)))) (a_cons (d_fz (d_lst (a_cons (d_int) a_nil))) (a_cons (d_pow (d_int) (d_int)) a_nil))))))))))) rfl (.inl rfl))
      (s_one (s_ret (d_tup (a_cons (d_str) (a_cons (d_ixS (pv 7) (d_cl G__law_take tk_fn hrG (c_io (pv 2) (c_ex (d_int) c_nil)))) a_nil)))))) (s_nil))
      (s_cons (s_if (t_eq hr (d_var (pv 3)) (d_int)) (s_one (s_ret (d_catT (d_var (pv 0)) (d_ix (d_lst (a_cons (d_tup (a_cons (d_int) a_nil)) (a_cons (d_tup (a_cons (d_non) a_nil)) (a_cons (d_fz (d_tup (a_cons (d_lst a_nil) a_nil))) (a_cons (d_tup (a_cons (d_var (pv 4)) a_nil)) a_nil))))) (d_cl G__law_take tk_fn hrG (c_io (pv 2) (c_ex (d_int) c_nil))))))) (s_nil))
      (s_cons (s_if (t_eq hr (d_var (pv 3)) (d_int)) (s_cons (s_set (i := 7) nd (d_fz (d_lst (a_cons (d_tup (a_cons (d_str) a_nil)) (a_cons (d_tup (a_cons (d_str) a_nil)) (a_cons (d_tup (a_cons (d_str) a_nil)) (a_cons (d_tup (a_cons (d_str) a_nil)) (a_cons (d_tup (a_cons (d_str) a_nil)) (a_cons (d_tup a_nil) (a_cons (d_tup (a_cons (d_str) a_nil)) (a_cons (d_tup (a_cons (d_int) a_nil)) a_nil)))))))))) rfl (.inl rfl))
      (s_one (s_ret (d_ixS (pv 7) (d_cl G__law_take tk_fn hrG (c_io (pv 2) (c_ex (d_int) c_nil))))))) (s_nil))
      (s_one (s_ret (d_ix (d_lst (a_cons (d_fz (d_list rfl (pe_callTy call_list_of (by rfl) B.list (by decide +kernel) (pa_cons (d_look (pv 0)) pa_nil)))) (a_cons (d_ixS (pv 0) (d_int)) (a_cons (d_non) (a_cons (d_bl) (a_cons (d_int) (a_cons (d_fz (d_lst a_nil)) (a_cons (d_tup (a_cons (d_var (pv 0)) a_nil)) (a_cons (d_fz (d_lst (a_cons (d_var (pv 0)) a_nil))) a_nil))))))))) (d_cl G__law_take tk_fn hrG (c_io (pv 2) (c_ex (d_int) c_nil))))))))))))))))
theorem ok__law_rule_bent {P : Program} {w : World} {K : PySem.W.Frag} {mg : Str → Option Value} {base : Heap} {cl : Nat → Addr} (B : Bl mg) (Er : Er K mg nms cl) (D : DefAt K mg "_law_rule_bent" s__law_rule_bent ["_law_rule_here", "_law_many", "_law_pile_here"])   (G__law_take : Cal P w K mg base 1 2 "_law_take" (T__law_take cl)) (G__law_weight : Cal P w K mg base 3 1 "_law_weight" (T__law_weight cl)) : Cal P w K mg base 4 3 "_law_rule_bent" (T__law_rule_bent cl) :=
  cal_ok (m := 6) D sc__law_rule_bent rfl rfl (fun f cdv A outer s H E hr => dv__law_rule_bent B Er G__law_take G__law_weight f cdv A outer s H E hr) (law__law_rule_bent)
/-! _law_asked -/
abbrev s__law_asked : Stmt := top 55
theorem sc__law_asked : FnScope ["_law_of_book", "_law_thing", "_law_many", "_law_found", "_law_caught", "e"] ["_law_of_book", "_law_thing", "_law_many"] (defScope s__law_asked) := ⟨rfl, rfl, rfl, by decide +kernel, rfl, by decide +kernel, by decide +kernel⟩
def T__law_asked (cl : Nat → Addr) : Spec := fun as Q _ =>
  (∃ (d : D) (n : Nat), as = [.va (.bl true), .va d, .va (.int (n : Int))] ∧ PD 8 d ∧ (isBookD d = false → Q (.tup [.non, .exc (cl 2)]) []) ∧ ∀ b m, d = bkL b → Bk b m → BkZ 850 b ∧ Q (.tup [.str (bookS b), .non]) []) ∨
  (∃ (d : D) (n : Nat), as = [.va (.bl false), .va d, .va (.int (n : Int))] ∧ PD 8 d ∧ n ≤ 4 ∧ (isRuleD d (n : Int) = false → Q (.tup [.non, .exc (cl 4)]) []) ∧ ∀ r, d = ruD r → Ru r n → RuZ 850 r ∧ Q (.tup [.str (ruleS r), .non]) [])

def r__law_asked (cl : Nat → Addr) : DS :=
    (sSeq (sSet 3 (dC .non))
    (sSeq (sSet 4 (dC .non))
    (sSeq (sTry (goodE nms cl) 5 4 (sIf (dT (dVar 0)) (sSet 3 (dCall 1 (T_shown_book cl) (cEx (dVar 1) cNil))) (sSet 3 (dCall 2 (T_shown_rule cl) (cEx (dVar 1) (cEx (dVar 2) cNil))))))
    (sRet (dTup (aCons (dVar 3) (aCons (dVar 4) aNil)))))))
-- LAW
theorem law__law_asked {cl : Nat → Addr} : ∀ as Q E, T__law_asked cl as Q E → r__law_asked cl (endsOf Q E) (as ++ List.replicate 3 .un) := by
  have gb : goodE nms cl (cl 2) := ⟨2, by decide, rfl⟩
  have gl : goodE nms cl (cl 4) := ⟨4, by decide, rfl⟩
  rintro as Q E (⟨d, n, rfl, pd, h1, h2⟩ | ⟨d, n, rfl, pd, n4, h1, h2⟩)
  · unfold r__law_asked
    have nd := pd.noOwn
    walk_at "st"
    refine ⟨fun z => ⟨gb, ?_⟩, fun b m eb hb => ⟨(h2 b m eb hb).1, ?_⟩⟩
    · walk_at "s1"
      exact h1 z
    · walk_at "s1"
      exact (h2 b m eb hb).2
  · unfold r__law_asked
    have nd := pd.noOwn
    walk_at "st"
    refine ⟨fun z => ⟨gl, ?_⟩, fun r er hr => ⟨(h2 r er hr).1, ?_⟩⟩
    · walk_at "s1"
      exact h1 z
    · walk_at "s1"
      exact (h2 r er hr).2

theorem dv__law_asked {P : Program} {w : World} {K : PySem.W.Frag} {mg : Str → Option Value} {base : Heap} {cl : Nat → Addr} (B : Bl mg) (Er : Er K mg nms cl)   (G_shown_book : Cal P w K mg base 7 1 "shown_book" (T_shown_book cl)) (G_shown_rule : Cal P w K mg base 6 2 "shown_rule" (T_shown_rule cl)) (f : Addr) (cdv : Value) (A : Around) (outer : List Env) (s : Shared) (H : Hp) (E : XK) (hrG : RmG 7 (A.deeper (envOfC "_law_asked" (defScope s__law_asked) s.heap.objs.size f cdv))) :
    PSs (cxOf (L2.CX P w) P w K mg base ["_law_of_book", "_law_thing", "_law_many", "_law_found", "_law_caught", "e"] "_law_asked" (defScope s__law_asked) f cdv A outer s H E) (defBody s__law_asked) (liftS K (fun cls d _ H => E cls d H) (r__law_asked cl)) := by
  have nd := sc__law_asked.nd
  have hr := hrG.rm
  exact (s_cons (s_set (i := 3) nd (d_non) rfl (.inl rfl))
      (s_cons (s_set (i := 4) nd (d_non) rfl (.inl rfl))
      (s_cons (s_try (i := 5) (j := 4) Er.exmG nd ⟨rfl, by decide, Or.inl (Er.gl 0 _ rfl)⟩ (fun _ pn1 xe1 tk1 po1 => (s_one (s_if (t_val (d_var (pv 0))) (s_one (s_set (i := 3) nd (d_cl G_shown_book tk1 hrG (c_ex (d_var (pv 1)) c_nil)) rfl (.inl rfl))) (s_one (s_set (i := 3) nd (d_cl G_shown_rule tk1 hrG (c_ex (d_var (pv 1)) (c_ex (d_var (pv 2)) c_nil))) rfl (.inl rfl)))))) (fun _ _ => pss_one (ps_set (i := 4) nd rfl (.inl rfl) (pv 5))))
      (s_one (s_ret (d_tup (a_cons (d_var (pv 3)) (a_cons (d_var (pv 4)) a_nil))))))))
theorem ok__law_asked {P : Program} {w : World} {K : PySem.W.Frag} {mg : Str → Option Value} {base : Heap} {cl : Nat → Addr} (B : Bl mg) (Er : Er K mg nms cl) (D : DefAt K mg "_law_asked" s__law_asked ["_law_of_book", "_law_thing", "_law_many"])   (G_shown_book : Cal P w K mg base 7 1 "shown_book" (T_shown_book cl)) (G_shown_rule : Cal P w K mg base 6 2 "shown_rule" (T_shown_rule cl)) : Cal P w K mg base 8 3 "_law_asked" (T__law_asked cl) :=
  cal_ok (m := 3) D sc__law_asked rfl rfl (fun f cdv A outer s H E hr => dv__law_asked B Er G_shown_book G_shown_rule f cdv A outer s H E hr) (law__law_asked)
/-! _law_good -/
abbrev s__law_good : Stmt := top 56
theorem sc__law_good : FnScope ["_law_of_book", "_law_thing", "_law_many", "_law_kept", "_law_found", "_law_caught"] ["_law_of_book", "_law_thing", "_law_many"] (defScope s__law_good) := ⟨rfl, rfl, rfl, by decide +kernel, rfl, by decide +kernel, by decide +kernel⟩
def T__law_good (cl : Nat → Addr) : Spec := fun as Q _ =>
  (∃ (d : D) (n : Nat), as = [.va (.bl true), .va d, .va (.int (n : Int))] ∧ PD 7 d ∧ Sh 14000 d ∧ (∀ b m, d = bkL b → Bk b m → BkZ 850 b) ∧ Q (.bl true) []) ∨
  (∃ (d : D) (n : Nat), as = [.va (.bl false), .va d, .va (.int (n : Int))] ∧ PD 7 d ∧ Sh 14000 d ∧ n ≤ 4 ∧ (∀ r, d = ruD r → RuZ 850 r) ∧ Q (.bl true) [])

def r__law_good (cl : Nat → Addr) : DS :=
    (sSeq (sSet 3 (dCal1 gStr (dLook 1)))
    (sSeq (sUnp [4, 5] (dCall 3 (T__law_asked cl) (cEx (dVar 0) (cEx (dVar 1) (cEx (dVar 2) cNil)))))
    (sSeq (sIf (dT (dNeS (dCal1 gStr (dLook 1)) (dVar 3))) (sRet (dC (.bl false))) (sNext))
    (sSeq (sIf (tBool (dAnd (dT (dVar 0)) (dNot (dT (dCall 1 (T__law_is_book cl) (cEx (dVar 1) cNil)))))) (sRet (dCall 2 (T__law_only cl) (cEx (dVar 5) (cEx (dC (.str "NoBook")) cNil)))) (sNext))
    (sSeq (sIf (tBool (dAnd (dNot (dT (dVar 0))) (dNot (dT (dCall 2 (T__law_is_rule cl) (cEx (dVar 1) (cEx (dVar 2) cNil))))))) (sRet (dCall 2 (T__law_only cl) (cEx (dVar 5) (cEx (dC (.str "NoRule")) cNil)))) (sNext))
    (sRet ((dBool (dAndV (dIsN (dLook 5)) (dIsi .str (dLook 4)))))))))))
-- LAW
theorem law__law_good {cl : Nat → Addr} : ∀ as Q E, T__law_good cl as Q E → r__law_good cl (endsOf Q E) (as ++ List.replicate 3 .un) := by
  have n1 : nms[2]? = some ("NoBook" : Str) := rfl
  have n2 : nms[4]? = some ("NoRule" : Str) := rfl
  rintro as Q E (⟨d, n, rfl, pd7, sd, hz, h⟩ | ⟨d, n, rfl, pd7, sd, n4, hz, h⟩)
  · unfold r__law_good
    have pd : PD 8 d := pd7.mono (by decide)
    have nd := pd.noOwn
    have ok : ShOk d := shok pd.okD (sd.mono (by decide))
    have qs : (!decide (strT d = strT d)) = false := by rw [decide_eq_true rfl]; rfl
    walk_at "st"
    refine ⟨fun hB => ?_, fun b m eb hb => ⟨hz b m eb hb, ?_⟩⟩
    · walk_at "s1"
      refine boolT true (fun Q' h' => ?_) ?_
      · walk_at "s1"
        rw [hB]
        exact h'
      walk_at "s1"
      exact h
    · subst eb
      have hB := isBookD_bkL hb
      walk_at "s1"
      refine boolT false (fun Q' h' => ?_) ?_
      · walk_at "s1"
        rw [hB]
        exact h'
      walk_at "s1"
      refine boolT false (fun Q' h' => ?_) ?_
      · walk_at "s1"
        exact h'
      walk_at "s1"
      refine boolS true (fun Q' h' => ?_) ?_
      · walk_at "s1"
        exact h'
      walk_at "s1"
      exact h
  · unfold r__law_good
    have pd : PD 8 d := pd7.mono (by decide)
    have nd := pd.noOwn
    have n10 : n ≤ 1000 := by omega
    have ok : ShOk d := shok pd.okD (sd.mono (by decide))
    have qs : (!decide (strT d = strT d)) = false := by rw [decide_eq_true rfl]; rfl
    walk_at "st"
    refine .inr ⟨d, n, rfl, pd, n4, fun hB => ?_, fun r er hr => ⟨hz r er, ?_⟩⟩
    · walk_at "s1"
      refine boolT false (fun Q' h' => ?_) ?_
      · walk_at "s1"
        exact h'
      walk_at "s1"
      refine boolT true (fun Q' h' => ?_) ?_
      · walk_at "s1"
        rw [hB]
        exact h'
      walk_at "s1"
      exact h
    · have hB : isRuleD d (n : Int) = true := by rw [er]; exact isRuleD_ruD hr
      walk_at "s1"
      refine boolT false (fun Q' h' => ?_) ?_
      · walk_at "s1"
        exact h'
      walk_at "s1"
      refine boolT false (fun Q' h' => ?_) ?_
      · walk_at "s1"
        rw [hB]
        exact h'
      walk_at "s1"
      refine boolS true (fun Q' h' => ?_) ?_
      · walk_at "s1"
        exact h'
      walk_at "s1"
      exact h

theorem dv__law_good {P : Program} {w : World} {K : PySem.W.Frag} {mg : Str → Option Value} {base : Heap} {cl : Nat → Addr} (B : Bl mg) (Er : Er K mg nms cl)   (G__law_asked : Cal P w K mg base 8 3 "_law_asked" (T__law_asked cl)) (G__law_only : Cal P w K mg base 1 2 "_law_only" (T__law_only cl)) (G__law_is_book : Cal P w K mg base 3 1 "_law_is_book" (T__law_is_book cl)) (G__law_is_rule : Cal P w K mg base 3 2 "_law_is_rule" (T__law_is_rule cl)) (f : Addr) (cdv : Value) (A : Around) (outer : List Env) (s : Shared) (H : Hp) (E : XK) (hrG : RmG 8 (A.deeper (envOfC "_law_good" (defScope s__law_good) s.heap.objs.size f cdv))) :
    PSs (cxOf (L2.CX P w) P w K mg base ["_law_of_book", "_law_thing", "_law_many", "_law_kept", "_law_found", "_law_caught"] "_law_good" (defScope s__law_good) f cdv A outer s H E) (defBody s__law_good) (liftS K (fun cls d _ H => E cls d H) (r__law_good cl)) := by
  have nd := sc__law_good.nd
  have hr := hrG.rm
  exact (s_cons (s_set (i := 3) nd (d_strD hrG B.str (d_look (pv 1))) rfl (.inl rfl))
      (s_cons (s_unp (is := [4, 5]) (.cons (.cons .nil)) rfl (d_cl G__law_asked tk_fn hrG (c_ex (d_var (pv 0)) (c_ex (d_var (pv 1)) (c_ex (d_var (pv 2)) c_nil)))) (pgs_cons (pg_name (i := 4) nd rfl (.inl rfl)) (pgs_cons (pg_name (i := 5) nd rfl (.inl rfl)) pgs_nil)) rfl)
      (s_cons (s_if (t_neS (d_strD hrG B.str (d_look (pv 1))) (d_var (pv 3))) (s_one (s_ret (d_bl))) (s_nil))
      (s_cons (s_if (t_bool (PW.pt (t_and (t_val (d_var (pv 0))) (t_and1 (t_not (t_val (d_cl G__law_is_book tk_fn hrG (c_ex (d_var (pv 1)) c_nil)))))))) (s_one (s_ret (d_cl G__law_only tk_fn hrG (c_ex (d_var (pv 5)) (c_ex (d_str) c_nil))))) (s_nil))
      (s_cons (s_if (t_bool (PW.pt (t_and (t_not (t_val (d_var (pv 0)))) (t_and1 (t_not (t_val (d_cl G__law_is_rule tk_fn hrG (c_ex (d_var (pv 1)) (c_ex (d_var (pv 2)) c_nil))))))))) (s_one (s_ret (d_cl G__law_only tk_fn hrG (c_ex (d_var (pv 5)) (c_ex (d_str) c_nil))))) (s_nil))
      (s_one (s_ret ((d_bool (d_and (d_isN (d_look (pv 5))) (d_one (d_isi .str B.isinstance B.str (by decide +kernel) (d_look (pv 4))))))))))))))
theorem ok__law_good {P : Program} {w : World} {K : PySem.W.Frag} {mg : Str → Option Value} {base : Heap} {cl : Nat → Addr} (B : Bl mg) (Er : Er K mg nms cl) (D : DefAt K mg "_law_good" s__law_good ["_law_of_book", "_law_thing", "_law_many"])   (G__law_asked : Cal P w K mg base 8 3 "_law_asked" (T__law_asked cl)) (G__law_only : Cal P w K mg base 1 2 "_law_only" (T__law_only cl)) (G__law_is_book : Cal P w K mg base 3 1 "_law_is_book" (T__law_is_book cl)) (G__law_is_rule : Cal P w K mg base 3 2 "_law_is_rule" (T__law_is_rule cl)) : Cal P w K mg base 9 3 "_law_good" (T__law_good cl) :=
  cal_ok (m := 3) D sc__law_good rfl rfl (fun f cdv A outer s H E hr => dv__law_good B Er G__law_asked G__law_only G__law_is_book G__law_is_rule f cdv A outer s H E hr) (law__law_good)
/-! law -/
abbrev s_law : Stmt := top 57
theorem sc_law : FnScope ["_law_script", "_law_k", "_law_pile_here", "_law_book_here", "_law_many", "_law_rule_here", "_law_first", "_law_thing"] ["_law_script"] (defScope s_law) := ⟨rfl, rfl, rfl, by decide +kernel, rfl, by decide +kernel, by decide +kernel⟩
def T_law (cl : Nat → Addr) : Spec := fun as Q _ => ∃ ns : List Int, as = [.va (.scr ns)] ∧ ns.length ≤ 63 ∧ Q (.bl true) []

def lb1_law (cl : Nat → Addr) : DS :=
    (sIf (tBool (dOr (dNot (dT (dCall 3 (T__law_good cl) (cEx (dC (.bl false)) (cEx (dVar 7) (cEx (dVar 4) cNil)))))) (dNot (dT (dCall 3 (T__law_good cl) (cEx (dC (.bl false)) (cEx (dVar 7) (cEx (dAdd (dC (.int 1)) (dMod (dVar 4) (dC (.int 4)))) cNil)))))))) (sRet (dC (.bl false))) (sNext))
def lb2_law (cl : Nat → Addr) : DS :=
    (sSeq (sSet 2 (dCall 2 (T__law_pile cl) (cEx (dVar 0) (cEx (dVar 1) cNil))))
    (sSeq (sSet 3 (dFz (dCall 1 (T__law_book cl) (cIo 2 cNil))))
    (sSeq (sSet 4 (dAdd (dC (.int 1)) (dCall 2 (T__law_take cl) (cIo 2 (cEx (dC (.int 4)) cNil)))))
    (sSeq (sSet 5 (dFz (dCall 2 (T__law_rule cl) (cIo 2 (cEx (dVar 4) cNil)))))
    (sSeq (sSet 6 (dFz (dLst (aCons (dCall 1 (T_shown_book cl) (cEx (dVar 3) cNil)) (aCons (dCall 2 (T_shown_rule cl) (cEx (dVar 5) (cEx (dVar 4) cNil))) aNil)))))
    (sSeq (sIf (dOr (dNot (dT (dCall 3 (T__law_good cl) (cEx (dC (.bl true)) (cEx (dFz (dCall 2 (T__law_bent cl) (cEx (dVar 3) (cIo 2 cNil)))) (cEx (dVar 4) cNil)))))) (dNot (dT (dCall 3 (T__law_good cl) (cEx (dC (.bl true)) (cEx (dFz (dCall 2 (T__law_bent cl) (cEx (dVar 3) (cIo 2 cNil)))) (cEx (dVar 4) cNil))))))) (sRet (dC (.bl false))) (sNext))
    (sSeq (sFor [1, 2, 7] (itK (itL (dFz (dLst (aCons (dVar 5) (aCons (dFz (dCall 3 (T__law_rule_bent cl) (cEx (dVar 5) (cEx (dVar 4) (cIo 2 cNil))))) (aCons (dFz (dCall 3 (T__law_rule_bent cl) (cEx (dVar 5) (cEx (dVar 4) (cIo 2 cNil))))) aNil))))))) (tgName 7) (lb1_law cl))
    (sIf (dT (dNe (dLst (aCons (dCall 1 (T_shown_book cl) (cEx (dVar 3) cNil)) (aCons (dCall 2 (T_shown_rule cl) (cEx (dVar 5) (cEx (dVar 4) cNil))) aNil))) (dVar 6))) (sRet (dC (.bl false))) (sNext)))))))))
def r_law (cl : Nat → Addr) : DS :=
    (sSeq (sFor [1, 2, 3, 4, 5, 6, 7] (itR1 (dBin gMax (dBin gMin (dCal1 gLen (dLook 0)) (dC (.int 30))) (dC (.int 1)))) (tgName 1) (lb2_law cl))
    (sRet (dC (.bl true))))
-- LAW
theorem law_law {cl : Nat → Addr} : ∀ as Q E, T_law cl as Q E → r_law cl (endsOf Q E) (as ++ List.replicate 7 .un) := by
  rintro as Q E ⟨ns, rfl, hn, h⟩
  unfold r_law
  walk_at "st"
  obtain ⟨N, eN, hN⟩ := turns ns.length 30 (by omega)
  have eN : (if (1 : Int) > if 30 < (ns.length : Int) then 30 else (ns.length : Int) then 1 else if 30 < (ns.length : Int) then 30 else (ns.length : Int)) = (N : Int) := eN
  rw [eN, rngD_nat]
  refine forL_inv (fun i : Nat => .int (i : Int)) (fun _ _ M => M = [.va (.scr ns), .un, .un, .un, .un, .un, .un, .un]) (List.range N) _ rfl ?_ ?_
  · rintro pre k suf M e rfl C hC
    obtain ⟨_, hk⟩ := range_at e
    have hk2 : k ≤ 1000 := by omega
    have hC := hC _ rfl
    have z4 : Sz 9000 4 := sz_om (by omega) (by omega)
    have d4 : DivOk (4 : Int) := divOk_small (by decide) (by decide)
    walk_at "s1"
    intro n hn
    walk_at "s1"
    intro b m n' hb hz hn'
    have nb := noOwns_qL b
    refine ⟨_, frz_own_qL b, ?_⟩
    have pb := pd_book hb
    have kb := isBookD_bkL hb
    have z850 : BkZ 850 b := hz.mono (by decide)
    walk_at "s1"
    intro t n2 t0 t1 hn2
    obtain ⟨w, ew, w1, w4⟩ : ∃ w : Nat, 1 + t = (w : Int) ∧ 1 ≤ w ∧ w ≤ 4 := ⟨(1 + t).toNat, by omega, by omega, by omega⟩
    walk_at "s1"
    rw [ew]
    refine ⟨n2, w, rfl, hn2, w1, w4, fun r n3 hr hrz hn3 => ?_⟩
    refine ⟨_, frz_ruO r, ?_⟩
    have nr := noOwn_ruD r
    have pr : PD 8 (ruD r) := (pd_ruD r _ hr (by omega)).mono (by decide)
    have kr := isRuleD_ruD hr
    have r850 := ruz_up hrz (by decide : 40 ≤ 850)
    walk_at "s1"
    refine ⟨fun z => absurd (kb.symm.trans z) (by decide), fun b' m' eb' hb' => ?_⟩
    have z := bkL_inj eb'
    subst z
    refine ⟨z850, ?_⟩
    walk_at "s1"
    refine ⟨fun z => absurd (kr.symm.trans z) (by decide), fun r' er' hr' => ?_⟩
    have z := ruD_inj er'
    subst z
    refine ⟨r850, ?_⟩
    walk_at "s1"
    refine ⟨b, m, n3, rfl, hb, hz, hn3, fun d e n4 hde hB hn4 => ⟨e, hde, ?_⟩⟩
    have ne := hB.1.noOwn
    walk_at "s1"
    refine ⟨hB.1.mono (by decide), hB.2.1, fun b1 m1 e1 h1 => (hB.2.2 b1 m1 e1 h1).mono (by decide), ?_⟩
    walk_at "s1"
    refine ⟨b, m, n4, rfl, hb, hz, hn4, fun d e n5 hde hB hn5 => ⟨e, hde, ?_⟩⟩
    have ne := hB.1.noOwn
    walk_at "s1"
    refine ⟨hB.1.mono (by decide), hB.2.1, fun b1 m1 e1 h1 => (hB.2.2 b1 m1 e1 h1).mono (by decide), ?_⟩
    walk_at "s1"
    refine fun d1 e1 n6 hd1 hB1 hn6 => ⟨e1, hd1, ?_⟩
    have ne1 := hB1.pd.noOwn
    walk_at "s1"
    refine fun d2 e2 n7 hd2 hB2 hn7 => ⟨e2, hd2, ?_⟩
    have ne2 := hB2.pd.noOwn
    have f3 : (D.own [ruD r, e1, e2]).frz = .lst [ruD r, e1, e2] := by
      rw [frz_own, frzs_cons, frzs_cons, frzs_cons, frzs_nil, frz_of _ ne1, frz_of _ ne2, frz_of _ nr]
    walk_at "s1"
    refine ⟨_, f3, ?_⟩
    walk_at "s1"
    have pr4 := pd_ruD r _ hr (by omega)
    have sr := (sh_ruD hr w4 hrz).mono (show 2400 ≤ 14000 by decide)
    refine stopL_g (fun l => ∃ R : List D, l = R.map id ∧ ∀ x ∈ R, PD 7 x ∧ Sh 14000 x ∧ ∀ r, x = ruD r → RuZ 850 r) ?_ ⟨[ruD r, e1, e2], rfl, fun x hx => by
      simp only [List.mem_cons, List.not_mem_nil, or_false] at hx
      rcases hx with rfl | rfl | rfl
      · exact ⟨pr4.mono (by decide), sr, fun r' e => ruD_inj e ▸ r850⟩
      · exact ⟨hB1.pd.mono (by decide), hB1.sh, fun r' e => ruz_up (hB1.z r' e) (by decide)⟩
      · exact ⟨hB2.pd.mono (by decide), hB2.sh, fun r' e => ruz_up (hB2.z r' e) (by decide)⟩⟩
    rintro l ⟨R, rfl, hR⟩
    walk_at "s1"
    have fw := (fun (x : Int) => (⟨Int.fmod_nonneg_of_pos x (by decide), Int.fmod_lt_of_pos x (by decide)⟩ : 0 ≤ x.fmod 4 ∧ x.fmod 4 < 4)) (w : Int)
    obtain ⟨v, ev, v4⟩ : ∃ v : Nat, 1 + (w : Int).fmod 4 = (v : Int) ∧ v ≤ 4 := ⟨(1 + (w : Int).fmod 4).toNat, by omega, by omega⟩
    refine forL_each id (fun _ => True) R ?_ (fun _ => ?_)
    · rintro pre2 x suf2 e2 _ C2 hC2
      obtain ⟨x1, x2, x3⟩ := hR x (by rw [e2]; simp)
      have nx := x1.noOwn
      walk_at "s1"
      refine boolT false (fun Q' h' => ?_) ?_
      · walk_at "s1"
        refine .inr ⟨x, w, rfl, x1, x2, w4, x3, ?_⟩
        walk_at "s1"
        rw [ev]
        refine .inr ⟨x, v, rfl, x1, x2, v4, x3, ?_⟩
        walk_at "s1"
        exact h'
      walk_at "s1"
      exact hC2 trivial
    have okb : ∀ n, okD (n + 1) (.own [.str (bookS b), .str (ruleS r)]) := fun n d hd => by
      simp only [List.mem_cons, List.not_mem_nil, or_false] at hd
      rcases hd with rfl | rfl
      · exact okD_str _ (strOk_book b)
      · exact okD_str _ (strOk_rule r)
    have okl : ∀ n, okD (n + 1) (.lst [.str (bookS b), .str (ruleS r)]) := fun n d hd => by
      simp only [List.mem_cons, List.not_mem_nil, or_false] at hd
      rcases hd with rfl | rfl
      · exact okD_str _ (strOk_book b)
      · exact okD_str _ (strOk_rule r)
    obtain ⟨okE, evE⟩ := eq_frz (show (D.own [.str (bookS b), .str (ruleS r)]).frz = .lst [.str (bookS b), .str (ruleS r)] from rfl) (show (D.lst [.str (bookS b), .str (ruleS r)]).frz = _ from rfl) (okl 7)
    walk_at "s1"
    refine ⟨fun z => absurd (kb.symm.trans z) (by decide), fun b' m' eb' hb' => ?_⟩
    have z := bkL_inj eb'
    subst z
    refine ⟨z850, ?_⟩
    walk_at "s1"
    refine ⟨fun z => absurd (kr.symm.trans z) (by decide), fun r' er' hr' => ?_⟩
    have z := ruD_inj er'
    subst z
    refine ⟨r850, ?_⟩
    walk_at "s1"
    rw [evE]
    walk_at "s1"
    exact hC
  · rintro M rfl
    walk_at "s1"
    exact h

theorem dv_law {P : Program} {w : World} {K : PySem.W.Frag} {mg : Str → Option Value} {base : Heap} {cl : Nat → Addr} (B : Bl mg) (Er : Er K mg nms cl)   (G__law_pile : Cal P w K mg base 2 2 "_law_pile" (T__law_pile cl)) (G__law_book : Cal P w K mg base 4 1 "_law_book" (T__law_book cl)) (G__law_rule : Cal P w K mg base 4 2 "_law_rule" (T__law_rule cl)) (G__law_take : Cal P w K mg base 1 2 "_law_take" (T__law_take cl)) (G_shown_book : Cal P w K mg base 7 1 "shown_book" (T_shown_book cl)) (G_shown_rule : Cal P w K mg base 6 2 "shown_rule" (T_shown_rule cl)) (G__law_rule_bent : Cal P w K mg base 4 3 "_law_rule_bent" (T__law_rule_bent cl)) (G__law_good : Cal P w K mg base 9 3 "_law_good" (T__law_good cl)) (G__law_bent : Cal P w K mg base 3 2 "_law_bent" (T__law_bent cl)) (f : Addr) (cdv : Value) (A : Around) (outer : List Env) (s : Shared) (H : Hp) (E : XK) (hrG : RmG 9 (A.deeper (envOfC "law" (defScope s_law) s.heap.objs.size f cdv))) :
    PSs (cxOf (L2.CX P w) P w K mg base ["_law_script", "_law_k", "_law_pile_here", "_law_book_here", "_law_many", "_law_rule_here", "_law_first", "_law_thing"] "law" (defScope s_law) f cdv A outer s H E) (defBody s_law) (liftS K (fun cls d _ H => E cls d H) (r_law cl)) := by
  have nd := sc_law.nd
  have hr := hrG.rm
  exact (s_cons (s_for (vs := [1, 2, 3, 4, 5, 6, 7]) (g := gName 1) po_fn rfl (i_range1 B.range (d_max rfl B.max (d_min rfl B.min (d_len B.len (d_look (pv 0))) (d_int)) (d_int))) (pg_name (i := 1) nd rfl (.inl rfl)) (tg_name) (s_cons (s_set (i := 2) nd (d_cl G__law_pile tk_fn hrG (c_ex (d_var (pv 0)) (c_ex (d_var (pv 1)) c_nil))) rfl (.inl rfl))
      (s_cons (s_set (i := 3) nd (d_fz (d_cl G__law_book tk_fn hrG (c_io (pv 2) c_nil))) rfl (.inl rfl))
      (s_cons (s_set (i := 4) nd (d_add (d_int) (d_cl G__law_take tk_fn hrG (c_io (pv 2) (c_ex (d_int) c_nil)))) rfl (.inl rfl))
      (s_cons (s_set (i := 5) nd (d_fz (d_cl G__law_rule tk_fn hrG (c_io (pv 2) (c_ex (d_var (pv 4)) c_nil)))) rfl (.inl rfl))
      (s_cons (s_set (i := 6) nd (d_fz (d_lst (a_cons (d_cl G_shown_book tk_fn hrG (c_ex (d_var (pv 3)) c_nil)) (a_cons (d_cl G_shown_rule tk_fn hrG (c_ex (d_var (pv 5)) (c_ex (d_var (pv 4)) c_nil))) a_nil)))) rfl (.inl rfl))
      (s_cons (s_if (PW.pt (t_or (t_not (t_val (d_cl G__law_good tk_fn hrG (c_ex (d_bl) (c_ex (d_fz (d_cl G__law_bent tk_fn hrG (c_ex (d_var (pv 3)) (c_io (pv 2) c_nil)))) (c_ex (d_var (pv 4)) c_nil)))))) (t_or1 (t_not (t_val (d_cl G__law_good tk_fn hrG (c_ex (d_bl) (c_ex (d_fz (d_cl G__law_bent tk_fn hrG (c_ex (d_var (pv 3)) (c_io (pv 2) c_nil)))) (c_ex (d_var (pv 4)) c_nil))))))))) (s_one (s_ret (d_bl))) (s_nil))
      (s_cons (s_for (vs := [1, 2, 7]) (g := gName 7) po_fn rfl (i_k (i_lst (d_fz (d_lst (a_cons (d_var (pv 5)) (a_cons (d_fz (d_cl G__law_rule_bent tk_fn hrG (c_ex (d_var (pv 5)) (c_ex (d_var (pv 4)) (c_io (pv 2) c_nil))))) (a_cons (d_fz (d_cl G__law_rule_bent tk_fn hrG (c_ex (d_var (pv 5)) (c_ex (d_var (pv 4)) (c_io (pv 2) c_nil))))) a_nil))))))) (pg_name (i := 7) nd rfl (.inl rfl)) (tg_name) (s_one (s_if (t_bool (PW.pt (t_or (t_not (t_val (d_cl G__law_good tk_fn hrG (c_ex (d_bl) (c_ex (d_var (pv 7)) (c_ex (d_var (pv 4)) c_nil)))))) (t_or1 (t_not (t_val (d_cl G__law_good tk_fn hrG (c_ex (d_bl) (c_ex (d_var (pv 7)) (c_ex (d_add (d_int) (d_mod (d_var (pv 4)) (d_int))) c_nil)))))))))) (s_one (s_ret (d_bl))) (s_nil))))
      (s_one (s_if (t_ne hr (d_lst (a_cons (d_cl G_shown_book tk_fn hrG (c_ex (d_var (pv 3)) c_nil)) (a_cons (d_cl G_shown_rule tk_fn hrG (c_ex (d_var (pv 5)) (c_ex (d_var (pv 4)) c_nil))) a_nil))) (d_var (pv 6))) (s_one (s_ret (d_bl))) (s_nil)))))))))))
      (s_one (s_ret (d_bl))))
theorem ok_law {P : Program} {w : World} {K : PySem.W.Frag} {mg : Str → Option Value} {base : Heap} {cl : Nat → Addr} (B : Bl mg) (Er : Er K mg nms cl) (D : DefAt K mg "law" s_law ["_law_script"])   (G__law_pile : Cal P w K mg base 2 2 "_law_pile" (T__law_pile cl)) (G__law_book : Cal P w K mg base 4 1 "_law_book" (T__law_book cl)) (G__law_rule : Cal P w K mg base 4 2 "_law_rule" (T__law_rule cl)) (G__law_take : Cal P w K mg base 1 2 "_law_take" (T__law_take cl)) (G_shown_book : Cal P w K mg base 7 1 "shown_book" (T_shown_book cl)) (G_shown_rule : Cal P w K mg base 6 2 "shown_rule" (T_shown_rule cl)) (G__law_rule_bent : Cal P w K mg base 4 3 "_law_rule_bent" (T__law_rule_bent cl)) (G__law_good : Cal P w K mg base 9 3 "_law_good" (T__law_good cl)) (G__law_bent : Cal P w K mg base 3 2 "_law_bent" (T__law_bent cl)) : Cal P w K mg base 10 1 "law" (T_law cl) :=
  cal_ok (m := 7) D sc_law rfl rfl (fun f cdv A outer s H E hr => dv_law B Er G__law_pile G__law_book G__law_rule G__law_take G_shown_book G_shown_rule G__law_rule_bent G__law_good G__law_bent f cdv A outer s H E hr) (law_law)
theorem fn_law {P : Program} {w : World} {K : PySem.W.Frag} {mg : Str → Option Value} {base : Heap} {cl : Nat → Addr} (B : Bl mg) (Er : Er K mg nms cl) {fa : Addr} {fd : FuncData} (F : Fun K "law" "law" s_law fa fd)   (G__law_pile : Cal P w K mg base 2 2 "_law_pile" (T__law_pile cl)) (G__law_book : Cal P w K mg base 4 1 "_law_book" (T__law_book cl)) (G__law_rule : Cal P w K mg base 4 2 "_law_rule" (T__law_rule cl)) (G__law_take : Cal P w K mg base 1 2 "_law_take" (T__law_take cl)) (G_shown_book : Cal P w K mg base 7 1 "shown_book" (T_shown_book cl)) (G_shown_rule : Cal P w K mg base 6 2 "shown_rule" (T_shown_rule cl)) (G__law_rule_bent : Cal P w K mg base 4 3 "_law_rule_bent" (T__law_rule_bent cl)) (G__law_good : Cal P w K mg base 9 3 "_law_good" (T__law_good cl)) (G__law_bent : Cal P w K mg base 3 2 "_law_bent" (T__law_bent cl)) : FnG P w K mg base (L2.CX P w) 10 fa fd ["_law_script"] (spOf K 1 (T_law cl)) :=
  fn_ofD (m := 7) F sc_law rfl rfl (fun f cdv A outer s H E hr => dv_law B Er G__law_pile G__law_book G__law_rule G__law_take G_shown_book G_shown_rule G__law_rule_bent G__law_good G__law_bent f cdv A outer s H E hr) (law_law)
end TL
namespace TL
open PySem PyProof.Rows L2
theorem lt_15 {p : Nat → Prop} (h0 : p 0) (h1 : p 1) (h2 : p 2) (h3 : p 3) (h4 : p 4) (h5 : p 5) (h6 : p 6) (h7 : p 7) (h8 : p 8) (h9 : p 9) (h10 : p 10) (h11 : p 11) (h12 : p 12) (h13 : p 13) (h14 : p 14) : ∀ i, i < 15 → p i
  | 0, _ => h0
  | 1, _ => h1
  | 2, _ => h2
  | 3, _ => h3
  | 4, _ => h4
  | 5, _ => h5
  | 6, _ => h6
  | 7, _ => h7
  | 8, _ => h8
  | 9, _ => h9
  | 10, _ => h10
  | 11, _ => h11
  | 12, _ => h12
  | 13, _ => h13
  | 14, _ => h14
  | k + 15, h => absurd h (by omega)
def clOf (c0 c1 c2 c3 c4 c5 c6 c7 c8 c9 c10 c11 c12 c13 c14 : Addr) : Nat → Addr := fun j => [c0, c1, c2, c3, c4, c5, c6, c7, c8, c9, c10, c11, c12, c13, c14].getD j 0
theorem er_mk {c0 c1 c2 c3 c4 c5 c6 c7 c8 c9 c10 c11 c12 c13 c14 : Addr} {K : PySem.W.Frag} {mg : Str → Option Value} {h : Heap} (X : K.In h) (G : h.Ns mainGlobals mg)
    (g0 : PySem.W.nsIn K mainGlobals "HeadError" = some (some (.ref c0)))
    (g1 : PySem.W.nsIn K mainGlobals "NoBottom" = some (some (.ref c1)))
    (g2 : PySem.W.nsIn K mainGlobals "NoBook" = some (some (.ref c2)))
    (g3 : PySem.W.nsIn K mainGlobals "NoList" = some (some (.ref c3)))
    (g4 : PySem.W.nsIn K mainGlobals "NoRule" = some (some (.ref c4)))
    (g5 : PySem.W.nsIn K mainGlobals "NoCount" = some (some (.ref c5)))
    (g6 : PySem.W.nsIn K mainGlobals "NoLooks" = some (some (.ref c6)))
    (g7 : PySem.W.nsIn K mainGlobals "NoThings" = some (some (.ref c7)))
    (g8 : PySem.W.nsIn K mainGlobals "NotSure" = some (some (.ref c8)))
    (g9 : PySem.W.nsIn K mainGlobals "NoSlack" = some (some (.ref c9)))
    (g10 : PySem.W.nsIn K mainGlobals "NoThing" = some (some (.ref c10)))
    (g11 : PySem.W.nsIn K mainGlobals "NoWorth" = some (some (.ref c11)))
    (g12 : PySem.W.nsIn K mainGlobals "TooMany" = some (some (.ref c12)))
    (g13 : PySem.W.nsIn K mainGlobals "NoText" = some (some (.ref c13)))
    (g14 : PySem.W.nsIn K mainGlobals "NoLine" = some (some (.ref c14)))
    (e0 : ErC K c0 c0)
    (e1 : ErC K c1 c0)
    (e2 : ErC K c2 c0)
    (e3 : ErC K c3 c0)
    (e4 : ErC K c4 c0)
    (e5 : ErC K c5 c0)
    (e6 : ErC K c6 c0)
    (e7 : ErC K c7 c0)
    (e8 : ErC K c8 c0)
    (e9 : ErC K c9 c0)
    (e10 : ErC K c10 c0)
    (e11 : ErC K c11 c0)
    (e12 : ErC K c12 c0)
    (e13 : ErC K c13 c0)
    (e14 : ErC K c14 c0)
    (t0 : ErK K c0 [c0, c1, c2, c3, c4, c5, c6, c7, c8, c9, c10, c11, c12, c13, c14] [true, false, false, false, false, false, false, false, false, false, false, false, false, false, false])
    (t1 : ErK K c1 [c0, c1, c2, c3, c4, c5, c6, c7, c8, c9, c10, c11, c12, c13, c14] [true, true, false, false, false, false, false, false, false, false, false, false, false, false, false])
    (t2 : ErK K c2 [c0, c1, c2, c3, c4, c5, c6, c7, c8, c9, c10, c11, c12, c13, c14] [true, false, true, false, false, false, false, false, false, false, false, false, false, false, false])
    (t3 : ErK K c3 [c0, c1, c2, c3, c4, c5, c6, c7, c8, c9, c10, c11, c12, c13, c14] [true, false, false, true, false, false, false, false, false, false, false, false, false, false, false])
    (t4 : ErK K c4 [c0, c1, c2, c3, c4, c5, c6, c7, c8, c9, c10, c11, c12, c13, c14] [true, false, false, false, true, false, false, false, false, false, false, false, false, false, false])
    (t5 : ErK K c5 [c0, c1, c2, c3, c4, c5, c6, c7, c8, c9, c10, c11, c12, c13, c14] [true, false, false, false, false, true, false, false, false, false, false, false, false, false, false])
    (t6 : ErK K c6 [c0, c1, c2, c3, c4, c5, c6, c7, c8, c9, c10, c11, c12, c13, c14] [true, false, false, false, false, false, true, false, false, false, false, false, false, false, false])
    (t7 : ErK K c7 [c0, c1, c2, c3, c4, c5, c6, c7, c8, c9, c10, c11, c12, c13, c14] [true, false, false, false, false, false, false, true, false, false, false, false, false, false, false])
    (t8 : ErK K c8 [c0, c1, c2, c3, c4, c5, c6, c7, c8, c9, c10, c11, c12, c13, c14] [true, false, false, false, false, false, false, false, true, false, false, false, false, false, false])
    (t9 : ErK K c9 [c0, c1, c2, c3, c4, c5, c6, c7, c8, c9, c10, c11, c12, c13, c14] [true, false, false, false, false, false, false, false, false, true, false, false, false, false, false])
    (t10 : ErK K c10 [c0, c1, c2, c3, c4, c5, c6, c7, c8, c9, c10, c11, c12, c13, c14] [true, false, false, false, false, false, false, false, false, false, true, false, false, false, false])
    (t11 : ErK K c11 [c0, c1, c2, c3, c4, c5, c6, c7, c8, c9, c10, c11, c12, c13, c14] [true, false, false, false, false, false, false, false, false, false, false, true, false, false, false])
    (t12 : ErK K c12 [c0, c1, c2, c3, c4, c5, c6, c7, c8, c9, c10, c11, c12, c13, c14] [true, false, false, false, false, false, false, false, false, false, false, false, true, false, false])
    (t13 : ErK K c13 [c0, c1, c2, c3, c4, c5, c6, c7, c8, c9, c10, c11, c12, c13, c14] [true, false, false, false, false, false, false, false, false, false, false, false, false, true, false])
    (t14 : ErK K c14 [c0, c1, c2, c3, c4, c5, c6, c7, c8, c9, c10, c11, c12, c13, c14] [true, false, false, false, false, false, false, false, false, false, false, false, false, false, true])
    (v : PySem.W.nsIn K mainGlobals "ValueError" = some none) : Er K mg nms (clOf c0 c1 c2 c3 c4 c5 c6 c7 c8 c9 c10 c11 c12 c13 c14) where
  gl := fun j x hj => by
    have hl := (List.getElem?_eq_some_iff.mp hj).1
    revert hj; revert x
    exact lt_15 (p := fun j => ∀ x, nms[j]? = some x → mg x = some (.ref (clOf c0 c1 c2 c3 c4 c5 c6 c7 c8 c9 c10 c11 c12 c13 c14 j))) (fun x e => by cases e; exact PySem.W.mg_of X G g0) (fun x e => by cases e; exact PySem.W.mg_of X G g1) (fun x e => by cases e; exact PySem.W.mg_of X G g2) (fun x e => by cases e; exact PySem.W.mg_of X G g3) (fun x e => by cases e; exact PySem.W.mg_of X G g4) (fun x e => by cases e; exact PySem.W.mg_of X G g5) (fun x e => by cases e; exact PySem.W.mg_of X G g6) (fun x e => by cases e; exact PySem.W.mg_of X G g7) (fun x e => by cases e; exact PySem.W.mg_of X G g8) (fun x e => by cases e; exact PySem.W.mg_of X G g9) (fun x e => by cases e; exact PySem.W.mg_of X G g10) (fun x e => by cases e; exact PySem.W.mg_of X G g11) (fun x e => by cases e; exact PySem.W.mg_of X G g12) (fun x e => by cases e; exact PySem.W.mg_of X G g13) (fun x e => by cases e; exact PySem.W.mg_of X G g14) j hl
  kp := lt_15 (p := fun j => PySem.W.keepIn K (.ref (clOf c0 c1 c2 c3 c4 c5 c6 c7 c8 c9 c10 c11 c12 c13 c14 j)) = true) e0.kp e1.kp e2.kp e3.kp e4.kp e5.kp e6.kp e7.kp e8.kp e9.kp e10.kp e11.kp e12.kp e13.kp e14.kp
  ex := lt_15 (p := fun j => PySem.W.excIn K (clOf c0 c1 c2 c3 c4 c5 c6 c7 c8 c9 c10 c11 c12 c13 c14 j) [.type "ValueError", .type "Exception", .type "BaseException", .type "object"] "ValueError.__new__" = true) e0.ex e1.ex e2.ex e3.ex e4.ex e5.ex e6.ex e7.ex e8.ex e9.ex e10.ex e11.ex e12.ex e13.ex e14.ex
  ty := lt_15 (p := fun j => PySem.W.typeIn K (.ref (clOf c0 c1 c2 c3 c4 c5 c6 c7 c8 c9 c10 c11 c12 c13 c14 j)) = some (.type "type")) e0.ty e1.ty e2.ty e3.ty e4.ty e5.ty e6.ty e7.ty e8.ty e9.ty e10.ty e11.ty e12.ty e13.ty e14.ty
  ec := lt_15 (p := fun j => ExcC K (clOf c0 c1 c2 c3 c4 c5 c6 c7 c8 c9 c10 c11 c12 c13 c14 j)) e0.ec e1.ec e2.ec e3.ec e4.ec e5.ec e6.ec e7.ec e8.ec e9.ec e10.ec e11.ec e12.ec e13.ec e14.ec
  kitV := lt_15 (p := fun j => PySem.W.kitOne K (.ref (clOf c0 c1 c2 c3 c4 c5 c6 c7 c8 c9 c10 c11 c12 c13 c14 j)) (.type "ValueError") = some true) e0.kitV e1.kitV e2.kitV e3.kitV e4.kitV e5.kitV e6.kitV e7.kitV e8.kitV e9.kitV e10.kitV e11.kitV e12.kitV e13.kitV e14.kitV
  exm := lt_15 (p := fun j => PySem.W.exmOne K (.ref (clOf c0 c1 c2 c3 c4 c5 c6 c7 c8 c9 c10 c11 c12 c13 c14 j)) (.ref (clOf c0 c1 c2 c3 c4 c5 c6 c7 c8 c9 c10 c11 c12 c13 c14 0)) = some true) e0.exm e1.exm e2.exm e3.exm e4.exm e5.exm e6.exm e7.exm e8.exm e9.exm e10.exm e11.exm e12.exm e13.exm e14.exm
  no := fun T hT => lt_15 (p := fun j => PySem.W.kitOne K (.type T) (.ref (clOf c0 c1 c2 c3 c4 c5 c6 c7 c8 c9 c10 c11 c12 c13 c14 j)) = some false) (e0.no T hT) (e1.no T hT) (e2.no T hT) (e3.no T hT) (e4.no T hT) (e5.no T hT) (e6.no T hT) (e7.no T hT) (e8.no T hT) (e9.no T hT) (e10.no T hT) (e11.no T hT) (e12.no T hT) (e13.no T hT) (e14.no T hT)
  kit := fun i j hi hj => erk_of (n := 15) (clOf c0 c1 c2 c3 c4 c5 c6 c7 c8 c9 c10 c11 c12 c13 c14) [c0, c1, c2, c3, c4, c5, c6, c7, c8, c9, c10, c11, c12, c13, c14] (fun _ => rfl) (lt_15 (p := fun i => ErK K (clOf c0 c1 c2 c3 c4 c5 c6 c7 c8 c9 c10 c11 c12 c13 c14 i) [c0, c1, c2, c3, c4, c5, c6, c7, c8, c9, c10, c11, c12, c13, c14] ((List.range 15).map fun j => j == 0 || i == j)) t0 t1 t2 t3 t4 t5 t6 t7 t8 t9 t10 t11 t12 t13 t14) i j hi hj rfl
  inj := er_inj (n := 15) (clOf c0 c1 c2 c3 c4 c5 c6 c7 c8 c9 c10 c11 c12 c13 c14) fun i j hi hj => erk_of (n := 15) (clOf c0 c1 c2 c3 c4 c5 c6 c7 c8 c9 c10 c11 c12 c13 c14) [c0, c1, c2, c3, c4, c5, c6, c7, c8, c9, c10, c11, c12, c13, c14] (fun _ => rfl) (lt_15 (p := fun i => ErK K (clOf c0 c1 c2 c3 c4 c5 c6 c7 c8 c9 c10 c11 c12 c13 c14 i) [c0, c1, c2, c3, c4, c5, c6, c7, c8, c9, c10, c11, c12, c13, c14] ((List.range 15).map fun j => j == 0 || i == j)) t0 t1 t2 t3 t4 t5 t6 t7 t8 t9 t10 t11 t12 t13 t14) i j hi hj rfl
  vE := PySem.W.mg_none_of X G v
theorem bl_mk {K : PySem.W.Frag} {mg : Str → Option Value} {h : Heap} (X : K.In h) (G : h.Ns mainGlobals mg) (b0 : PySem.W.nsIn K mainGlobals "len" = some none) (b1 : PySem.W.nsIn K mainGlobals "abs" = some none) (b2 : PySem.W.nsIn K mainGlobals "int" = some none) (b3 : PySem.W.nsIn K mainGlobals "str" = some none) (b4 : PySem.W.nsIn K mainGlobals "bool" = some none) (b5 : PySem.W.nsIn K mainGlobals "list" = some none) (b6 : PySem.W.nsIn K mainGlobals "tuple" = some none) (b7 : PySem.W.nsIn K mainGlobals "range" = some none) (b8 : PySem.W.nsIn K mainGlobals "zip" = some none) (b9 : PySem.W.nsIn K mainGlobals "enumerate" = some none) (b10 : PySem.W.nsIn K mainGlobals "isinstance" = some none) (b11 : PySem.W.nsIn K mainGlobals "all" = some none) (b12 : PySem.W.nsIn K mainGlobals "sum" = some none) (b13 : PySem.W.nsIn K mainGlobals "max" = some none) (b14 : PySem.W.nsIn K mainGlobals "min" = some none) (b15 : PySem.W.nsIn K mainGlobals "sorted" = some none) (b16 : PySem.W.nsIn K mainGlobals "set" = some none) : Bl mg :=
  ⟨PySem.W.mg_none_of X G b0, PySem.W.mg_none_of X G b1, PySem.W.mg_none_of X G b2, PySem.W.mg_none_of X G b3, PySem.W.mg_none_of X G b4, PySem.W.mg_none_of X G b5, PySem.W.mg_none_of X G b6, PySem.W.mg_none_of X G b7, PySem.W.mg_none_of X G b8, PySem.W.mg_none_of X G b9, PySem.W.mg_none_of X G b10, PySem.W.mg_none_of X G b11, PySem.W.mg_none_of X G b12, PySem.W.mg_none_of X G b13, PySem.W.mg_none_of X G b14, PySem.W.mg_none_of X G b15, PySem.W.mg_none_of X G b16⟩
theorem top_mk {q : Program} {w : World} {c0 c1 c2 c3 c4 c5 c6 c7 c8 c9 c10 c11 c12 c13 c14 : Addr} {K : PySem.W.Frag} {mg : Str → Option Value} {h : Heap} (X : K.In h) (G : h.Ns mainGlobals mg)
    (E : Er K mg nms (clOf c0 c1 c2 c3 c4 c5 c6 c7 c8 c9 c10 c11 c12 c13 c14)) (B : Bl mg) {fa : Addr} (hfa : mg "law" = some (.ref fa))
    (d0 : DefK K "common_of" s_common_of)
    (d1 : DefK K "is_whole" s_is_whole)
    (d2 : DefK K "is_fraction" s_is_fraction)
    (d3 : DefK K "is_worth" s_is_worth)
    (d4 : DefK K "are_worths" s_are_worths)
    (d5 : DefK K "is_book" s_is_book)
    (d6 : DefK K "look_at_book" s_look_at_book)
    (d7 : DefK K "is_weight" s_is_weight)
    (d8 : DefK K "is_rule" s_is_rule)
    (d9 : DefK K "look_at_rule" s_look_at_rule)
    (d10 : DefK K "shown_fraction" s_shown_fraction)
    (d11 : DefK K "shown_book" s_shown_book)
    (d12 : DefK K "shown_rule" s_shown_rule)
    (d13 : DefK K "_law_mixed" s__law_mixed)
    (d14 : DefK K "_law_pile" s__law_pile)
    (d15 : DefK K "_law_take" s__law_take)
    (d16 : DefK K "_law_shared" s__law_shared)
    (d17 : DefK K "_law_frac" s__law_frac)
    (d18 : DefK K "_law_whole" s__law_whole)
    (d19 : DefK K "_law_only" s__law_only)
    (d20 : DefK K "_law_worth" s__law_worth)
    (d21 : DefK K "_law_book" s__law_book)
    (d22 : DefK K "_law_weight" s__law_weight)
    (d23 : DefK K "_law_rule" s__law_rule)
    (d24 : DefK K "_law_is_worth" s__law_is_worth)
    (d25 : DefK K "_law_is_book" s__law_is_book)
    (d26 : DefK K "_law_odd" s__law_odd)
    (d27 : DefK K "_law_bent" s__law_bent)
    (d28 : DefK K "_law_is_weight" s__law_is_weight)
    (d29 : DefK K "_law_is_rule" s__law_is_rule)
    (d30 : DefK K "_law_rule_bent" s__law_rule_bent)
    (d31 : DefK K "_law_asked" s__law_asked)
    (d32 : DefK K "_law_good" s__law_good)
    (d33 : DefK K "law" s_law)
    (k_ALONE : CnK K "ALONE" v_ALONE)
    (k_LISTS_AT_MOST : CnK K "LISTS_AT_MOST" v_LISTS_AT_MOST)
    (k_THINGS_AT_MOST : CnK K "THINGS_AT_MOST" v_THINGS_AT_MOST) :
    ∃ fd : FuncData, (∀ (s : Shared) (v : Value), BindsTo s fd ⟨[v], []⟩ [("_law_script", v)]) ∧ ∀ base : Heap, K.In base → base.Ns mainGlobals mg → FnG q w K mg base (L2.CX q w) 10 fa fd ["_law_script"] (spOf K 1 (T_law fun _ => 0)) := by
  have D0 : DefAt K mg "common_of" s_common_of ["one", "other"] := d0.at X G fun _ _ _ _ _ _ us hl => match us, hl with | [_, _], _ => rfl
  have D1 : DefAt K mg "is_whole" s_is_whole ["thing"] := d1.at X G fun _ _ _ _ _ _ us hl => match us, hl with | [_], _ => rfl
  have D2 : DefAt K mg "is_fraction" s_is_fraction ["thing"] := d2.at X G fun _ _ _ _ _ _ us hl => match us, hl with | [_], _ => rfl
  have D3 : DefAt K mg "is_worth" s_is_worth ["thing"] := d3.at X G fun _ _ _ _ _ _ us hl => match us, hl with | [_], _ => rfl
  have D4 : DefAt K mg "are_worths" s_are_worths ["thing", "many"] := d4.at X G fun _ _ _ _ _ _ us hl => match us, hl with | [_, _], _ => rfl
  have D5 : DefAt K mg "is_book" s_is_book ["thing"] := d5.at X G fun _ _ _ _ _ _ us hl => match us, hl with | [_], _ => rfl
  have D6 : DefAt K mg "look_at_book" s_look_at_book ["book"] := d6.at X G fun _ _ _ _ _ _ us hl => match us, hl with | [_], _ => rfl
  have D7 : DefAt K mg "is_weight" s_is_weight ["thing"] := d7.at X G fun _ _ _ _ _ _ us hl => match us, hl with | [_], _ => rfl
  have D8 : DefAt K mg "is_rule" s_is_rule ["thing", "many"] := d8.at X G fun _ _ _ _ _ _ us hl => match us, hl with | [_, _], _ => rfl
  have D9 : DefAt K mg "look_at_rule" s_look_at_rule ["rule", "many"] := d9.at X G fun _ _ _ _ _ _ us hl => match us, hl with | [_, _], _ => rfl
  have D10 : DefAt K mg "shown_fraction" s_shown_fraction ["some"] := d10.at X G fun _ _ _ _ _ _ us hl => match us, hl with | [_], _ => rfl
  have D11 : DefAt K mg "shown_book" s_shown_book ["book"] := d11.at X G fun _ _ _ _ _ _ us hl => match us, hl with | [_], _ => rfl
  have D12 : DefAt K mg "shown_rule" s_shown_rule ["rule", "many"] := d12.at X G fun _ _ _ _ _ _ us hl => match us, hl with | [_, _], _ => rfl
  have D13 : DefAt K mg "_law_mixed" s__law_mixed ["_law_cell", "_law_k"] := d13.at X G fun _ _ _ _ _ _ us hl => match us, hl with | [_, _], _ => rfl
  have D14 : DefAt K mg "_law_pile" s__law_pile ["_law_script", "_law_k"] := d14.at X G fun _ _ _ _ _ _ us hl => match us, hl with | [_, _], _ => rfl
  have D15 : DefAt K mg "_law_take" s__law_take ["_law_pile_here", "_law_size"] := d15.at X G fun _ _ _ _ _ _ us hl => match us, hl with | [_, _], _ => rfl
  have D16 : DefAt K mg "_law_shared" s__law_shared ["_law_one", "_law_other"] := d16.at X G fun _ _ _ _ _ _ us hl => match us, hl with | [_, _], _ => rfl
  have D17 : DefAt K mg "_law_frac" s__law_frac ["_law_top", "_law_bottom"] := d17.at X G fun _ _ _ _ _ _ us hl => match us, hl with | [_, _], _ => rfl
  have D18 : DefAt K mg "_law_whole" s__law_whole ["_law_found"] := d18.at X G fun _ _ _ _ _ _ us hl => match us, hl with | [_], _ => rfl
  have D19 : DefAt K mg "_law_only" s__law_only ["_law_caught", "_law_name"] := d19.at X G fun _ _ _ _ _ _ us hl => match us, hl with | [_, _], _ => rfl
  have D20 : DefAt K mg "_law_worth" s__law_worth ["_law_pile_here"] := d20.at X G fun _ _ _ _ _ _ us hl => match us, hl with | [_], _ => rfl
  have D21 : DefAt K mg "_law_book" s__law_book ["_law_pile_here"] := d21.at X G fun _ _ _ _ _ _ us hl => match us, hl with | [_], _ => rfl
  have D22 : DefAt K mg "_law_weight" s__law_weight ["_law_pile_here"] := d22.at X G fun _ _ _ _ _ _ us hl => match us, hl with | [_], _ => rfl
  have D23 : DefAt K mg "_law_rule" s__law_rule ["_law_pile_here", "_law_many"] := d23.at X G fun _ _ _ _ _ _ us hl => match us, hl with | [_, _], _ => rfl
  have D24 : DefAt K mg "_law_is_worth" s__law_is_worth ["_law_thing"] := d24.at X G fun _ _ _ _ _ _ us hl => match us, hl with | [_], _ => rfl
  have D25 : DefAt K mg "_law_is_book" s__law_is_book ["_law_thing"] := d25.at X G fun _ _ _ _ _ _ us hl => match us, hl with | [_], _ => rfl
  have D26 : DefAt K mg "_law_odd" s__law_odd ["_law_pile_here"] := d26.at X G fun _ _ _ _ _ _ us hl => match us, hl with | [_], _ => rfl
  have D27 : DefAt K mg "_law_bent" s__law_bent ["_law_book_here", "_law_pile_here"] := d27.at X G fun _ _ _ _ _ _ us hl => match us, hl with | [_, _], _ => rfl
  have D28 : DefAt K mg "_law_is_weight" s__law_is_weight ["_law_thing"] := d28.at X G fun _ _ _ _ _ _ us hl => match us, hl with | [_], _ => rfl
  have D29 : DefAt K mg "_law_is_rule" s__law_is_rule ["_law_thing", "_law_many"] := d29.at X G fun _ _ _ _ _ _ us hl => match us, hl with | [_, _], _ => rfl
  have D30 : DefAt K mg "_law_rule_bent" s__law_rule_bent ["_law_rule_here", "_law_many", "_law_pile_here"] := d30.at X G fun _ _ _ _ _ _ us hl => match us, hl with | [_, _, _], _ => rfl
  have D31 : DefAt K mg "_law_asked" s__law_asked ["_law_of_book", "_law_thing", "_law_many"] := d31.at X G fun _ _ _ _ _ _ us hl => match us, hl with | [_, _, _], _ => rfl
  have D32 : DefAt K mg "_law_good" s__law_good ["_law_of_book", "_law_thing", "_law_many"] := d32.at X G fun _ _ _ _ _ _ us hl => match us, hl with | [_, _, _], _ => rfl
  have C_ALONE := k_ALONE.at X G
  have C_LISTS_AT_MOST := k_LISTS_AT_MOST.at X G
  have C_THINGS_AT_MOST := k_THINGS_AT_MOST.at X G
  obtain ⟨fa2, oc, od, an, osl, kV, doc, pm, cdv, ct, k1, k2, k3, k4⟩ := d33
  cases hfa.symm.trans (PySem.W.mg_of X G k1)
  refine ⟨PySem.W.fnOf "law" "law" (defArgs s_law) (defBody s_law) (defScope s_law) .none kV doc pm an cdv ct, fun s v => .of_eq rfl, fun base _ _ => ?_⟩
  have F := fun_mk (st := s_law) k2 k3 k4
  have G_common_of := ok_common_of (P := q) (w := w) (base := base) B E D0 
  have G_is_whole := ok_is_whole (P := q) (w := w) (base := base) B E D1 
  have G_is_fraction := ok_is_fraction (P := q) (w := w) (base := base) B E D2 G_is_whole G_common_of
  have G_is_worth := ok_is_worth (P := q) (w := w) (base := base) B E D3 G_is_fraction
  have G_are_worths := ok_are_worths (P := q) (w := w) (base := base) B E D4 G_is_worth
  have G_is_book := ok_is_book (P := q) (w := w) (base := base) B E D5 C_LISTS_AT_MOST C_THINGS_AT_MOST G_are_worths
  have G_look_at_book := ok_look_at_book (P := q) (w := w) (base := base) B E D6 G_is_book
  have G_is_weight := ok_is_weight (P := q) (w := w) (base := base) B E D7 G_is_fraction
  have G_is_rule := ok_is_rule (P := q) (w := w) (base := base) B E D8 C_ALONE G_is_whole G_is_weight
  have G_look_at_rule := ok_look_at_rule (P := q) (w := w) (base := base) B E D9 G_is_rule
  have G_shown_fraction := ok_shown_fraction (P := q) (w := w) (base := base) B E D10 
  have G_shown_book := ok_shown_book (P := q) (w := w) (base := base) B E D11 G_look_at_book G_shown_fraction
  have G_shown_rule := ok_shown_rule (P := q) (w := w) (base := base) B E D12 G_look_at_rule G_shown_fraction
  have G__law_mixed := ok__law_mixed (P := q) (w := w) (base := base) B E D13 
  have G__law_pile := ok__law_pile (P := q) (w := w) (base := base) B E D14 G__law_mixed
  have G__law_take := ok__law_take (P := q) (w := w) (base := base) B E D15 
  have G__law_shared := ok__law_shared (P := q) (w := w) (base := base) B E D16 
  have G__law_frac := ok__law_frac (P := q) (w := w) (base := base) B E D17 G__law_shared
  have G__law_whole := ok__law_whole (P := q) (w := w) (base := base) B E D18 
  have G__law_only := ok__law_only (P := q) (w := w) (base := base) B E D19 
  have G__law_worth := ok__law_worth (P := q) (w := w) (base := base) B E D20 G__law_take G__law_frac
  have G__law_book := ok__law_book (P := q) (w := w) (base := base) B E D21 G__law_take G__law_worth
  have G__law_weight := ok__law_weight (P := q) (w := w) (base := base) B E D22 G__law_take G__law_frac
  have G__law_rule := ok__law_rule (P := q) (w := w) (base := base) B E D23 G__law_take G__law_weight
  have G__law_is_worth := ok__law_is_worth (P := q) (w := w) (base := base) B E D24 G__law_whole G__law_shared
  have G__law_is_book := ok__law_is_book (P := q) (w := w) (base := base) B E D25 G__law_is_worth
  have G__law_odd := ok__law_odd (P := q) (w := w) (base := base) B E D26 G__law_take
  have G__law_bent := ok__law_bent (P := q) (w := w) (base := base) B E D27 G__law_take G__law_odd
  have G__law_is_weight := ok__law_is_weight (P := q) (w := w) (base := base) B E D28 G__law_whole G__law_shared
  have G__law_is_rule := ok__law_is_rule (P := q) (w := w) (base := base) B E D29 G__law_whole G__law_is_weight
  have G__law_rule_bent := ok__law_rule_bent (P := q) (w := w) (base := base) B E D30 G__law_take G__law_weight
  have G__law_asked := ok__law_asked (P := q) (w := w) (base := base) B E D31 G_shown_book G_shown_rule
  have G__law_good := ok__law_good (P := q) (w := w) (base := base) B E D32 G__law_asked G__law_only G__law_is_book G__law_is_rule
  exact fn_law B E F G__law_pile G__law_book G__law_rule G__law_take G_shown_book G_shown_rule G__law_rule_bent G__law_good G__law_bent
end TL
local macro_rules | `(tactic| walk_at "kd") => `(tactic| first | exact TL.KD.int | exact TL.KD.str | (refine TL.KD.tup (by k_is) (by decide) ?_; repeat (first | exact TL.KDs.nil | (refine TL.KDs.cons (by walk_at "kd") ?_))))
open PySem PySem.W PyProof.Rows in
set_option maxRecDepth 100000 in
set_option maxHeartbeats 0 in
theorem PySem.Challenge.cw_bestheads_k71_refused_books_and_rules_holds : PySem.Challenge.rw_bestheads_k71_refused_books_and_rules.Holds := by
  w_on; o_law; k_head; (case hw => w_witness2)
  k_fill
  refine TL.walk_G (n := 63) (k := 10) (x := "_law_script") (sp := fun w => TL.spOf _ 1 (TL.T_law fun _ => 0)) rfl (by decide) rfl ⟨⟨rfl, by decide, by decide⟩, rfl⟩ (fun w h Y => PySem.W.kIn_of Y) ?F (fun w H a ns hl hO hS => TL.sp_law hl hS fun Q E q => ⟨ns, rfl, hl, q⟩) (TL.noCX _)
  case F =>
    intro w mg fa h KX G hmg
    refine' TL.top_mk KX G (TL.er_mk KX G ?yg0 ?yg1 ?yg2 ?yg3 ?yg4 ?yg5 ?yg6 ?yg7 ?yg8 ?yg9 ?yg10 ?yg11 ?yg12 ?yg13 ?yg14 ?ye0 ?ye1 ?ye2 ?ye3 ?ye4 ?ye5 ?ye6 ?ye7 ?ye8 ?ye9 ?ye10 ?ye11 ?ye12 ?ye13 ?ye14 ?yt0 ?yt1 ?yt2 ?yt3 ?yt4 ?yt5 ?yt6 ?yt7 ?yt8 ?yt9 ?yt10 ?yt11 ?yt12 ?yt13 ?yt14 ?yv) (TL.bl_mk KX G ?yb0 ?yb1 ?yb2 ?yb3 ?yb4 ?yb5 ?yb6 ?yb7 ?yb8 ?yb9 ?yb10 ?yb11 ?yb12 ?yb13 ?yb14 ?yb15 ?yb16) hmg ?yd0 ?yd1 ?yd2 ?yd3 ?yd4 ?yd5 ?yd6 ?yd7 ?yd8 ?yd9 ?yd10 ?yd11 ?yd12 ?yd13 ?yd14 ?yd15 ?yd16 ?yd17 ?yd18 ?yd19 ?yd20 ?yd21 ?yd22 ?yd23 ?yd24 ?yd25 ?yd26 ?yd27 ?yd28 ?yd29 ?yd30 ?yd31 ?yd32 ?yd33 ?yk0 ?yk1 ?yk2
    (case yg0 => k_is)
    (case yg1 => k_is)
    (case yg2 => k_is)
    (case yg3 => k_is)
    (case yg4 => k_is)
    (case yg5 => k_is)
    (case yg6 => k_is)
    (case yg7 => k_is)
    (case yg8 => k_is)
    (case yg9 => k_is)
    (case yg10 => k_is)
    (case yg11 => k_is)
    (case yg12 => k_is)
    (case yg13 => k_is)
    (case yg14 => k_is)
    (case ye0 => exact ⟨by k_is, by k_exc, by k_is, ⟨by k_is, by k_is, by k_is, by k_is, by k_is, by k_is, by k_is, by k_is⟩, by kit_is, by kts_exm, TL.no6 (by kit_is) (by kit_is) (by kit_is) (by kit_is) (by kit_is) (by kit_is)⟩)
    (case ye1 => exact ⟨by k_is, by k_exc, by k_is, ⟨by k_is, by k_is, by k_is, by k_is, by k_is, by k_is, by k_is, by k_is⟩, by kit_is, by kts_exm, TL.no6 (by kit_is) (by kit_is) (by kit_is) (by kit_is) (by kit_is) (by kit_is)⟩)
    (case ye2 => exact ⟨by k_is, by k_exc, by k_is, ⟨by k_is, by k_is, by k_is, by k_is, by k_is, by k_is, by k_is, by k_is⟩, by kit_is, by kts_exm, TL.no6 (by kit_is) (by kit_is) (by kit_is) (by kit_is) (by kit_is) (by kit_is)⟩)
    (case ye3 => exact ⟨by k_is, by k_exc, by k_is, ⟨by k_is, by k_is, by k_is, by k_is, by k_is, by k_is, by k_is, by k_is⟩, by kit_is, by kts_exm, TL.no6 (by kit_is) (by kit_is) (by kit_is) (by kit_is) (by kit_is) (by kit_is)⟩)
    (case ye4 => exact ⟨by k_is, by k_exc, by k_is, ⟨by k_is, by k_is, by k_is, by k_is, by k_is, by k_is, by k_is, by k_is⟩, by kit_is, by kts_exm, TL.no6 (by kit_is) (by kit_is) (by kit_is) (by kit_is) (by kit_is) (by kit_is)⟩)
    (case ye5 => exact ⟨by k_is, by k_exc, by k_is, ⟨by k_is, by k_is, by k_is, by k_is, by k_is, by k_is, by k_is, by k_is⟩, by kit_is, by kts_exm, TL.no6 (by kit_is) (by kit_is) (by kit_is) (by kit_is) (by kit_is) (by kit_is)⟩)
    (case ye6 => exact ⟨by k_is, by k_exc, by k_is, ⟨by k_is, by k_is, by k_is, by k_is, by k_is, by k_is, by k_is, by k_is⟩, by kit_is, by kts_exm, TL.no6 (by kit_is) (by kit_is) (by kit_is) (by kit_is) (by kit_is) (by kit_is)⟩)
    (case ye7 => exact ⟨by k_is, by k_exc, by k_is, ⟨by k_is, by k_is, by k_is, by k_is, by k_is, by k_is, by k_is, by k_is⟩, by kit_is, by kts_exm, TL.no6 (by kit_is) (by kit_is) (by kit_is) (by kit_is) (by kit_is) (by kit_is)⟩)
    (case ye8 => exact ⟨by k_is, by k_exc, by k_is, ⟨by k_is, by k_is, by k_is, by k_is, by k_is, by k_is, by k_is, by k_is⟩, by kit_is, by kts_exm, TL.no6 (by kit_is) (by kit_is) (by kit_is) (by kit_is) (by kit_is) (by kit_is)⟩)
    (case ye9 => exact ⟨by k_is, by k_exc, by k_is, ⟨by k_is, by k_is, by k_is, by k_is, by k_is, by k_is, by k_is, by k_is⟩, by kit_is, by kts_exm, TL.no6 (by kit_is) (by kit_is) (by kit_is) (by kit_is) (by kit_is) (by kit_is)⟩)
    (case ye10 => exact ⟨by k_is, by k_exc, by k_is, ⟨by k_is, by k_is, by k_is, by k_is, by k_is, by k_is, by k_is, by k_is⟩, by kit_is, by kts_exm, TL.no6 (by kit_is) (by kit_is) (by kit_is) (by kit_is) (by kit_is) (by kit_is)⟩)
    (case ye11 => exact ⟨by k_is, by k_exc, by k_is, ⟨by k_is, by k_is, by k_is, by k_is, by k_is, by k_is, by k_is, by k_is⟩, by kit_is, by kts_exm, TL.no6 (by kit_is) (by kit_is) (by kit_is) (by kit_is) (by kit_is) (by kit_is)⟩)
    (case ye12 => exact ⟨by k_is, by k_exc, by k_is, ⟨by k_is, by k_is, by k_is, by k_is, by k_is, by k_is, by k_is, by k_is⟩, by kit_is, by kts_exm, TL.no6 (by kit_is) (by kit_is) (by kit_is) (by kit_is) (by kit_is) (by kit_is)⟩)
    (case ye13 => exact ⟨by k_is, by k_exc, by k_is, ⟨by k_is, by k_is, by k_is, by k_is, by k_is, by k_is, by k_is, by k_is⟩, by kit_is, by kts_exm, TL.no6 (by kit_is) (by kit_is) (by kit_is) (by kit_is) (by kit_is) (by kit_is)⟩)
    (case ye14 => exact ⟨by k_is, by k_exc, by k_is, ⟨by k_is, by k_is, by k_is, by k_is, by k_is, by k_is, by k_is, by k_is⟩, by kit_is, by kts_exm, TL.no6 (by kit_is) (by kit_is) (by kit_is) (by kit_is) (by kit_is) (by kit_is)⟩)
    (case yt0 => exact (.cons (by kit_is) ( .cons (by kit_is) ( .cons (by kit_is) ( .cons (by kit_is) ( .cons (by kit_is) ( .cons (by kit_is) ( .cons (by kit_is) ( .cons (by kit_is) ( .cons (by kit_is) ( .cons (by kit_is) ( .cons (by kit_is) ( .cons (by kit_is) ( .cons (by kit_is) ( .cons (by kit_is) ( .cons (by kit_is) (.nil)))))))))))))))))
    (case yt1 => exact (.cons (by kit_is) ( .cons (by kit_is) ( .cons (by kit_is) ( .cons (by kit_is) ( .cons (by kit_is) ( .cons (by kit_is) ( .cons (by kit_is) ( .cons (by kit_is) ( .cons (by kit_is) ( .cons (by kit_is) ( .cons (by kit_is) ( .cons (by kit_is) ( .cons (by kit_is) ( .cons (by kit_is) ( .cons (by kit_is) (.nil)))))))))))))))))
    (case yt2 => exact (.cons (by kit_is) ( .cons (by kit_is) ( .cons (by kit_is) ( .cons (by kit_is) ( .cons (by kit_is) ( .cons (by kit_is) ( .cons (by kit_is) ( .cons (by kit_is) ( .cons (by kit_is) ( .cons (by kit_is) ( .cons (by kit_is) ( .cons (by kit_is) ( .cons (by kit_is) ( .cons (by kit_is) ( .cons (by kit_is) (.nil)))))))))))))))))
    (case yt3 => exact (.cons (by kit_is) ( .cons (by kit_is) ( .cons (by kit_is) ( .cons (by kit_is) ( .cons (by kit_is) ( .cons (by kit_is) ( .cons (by kit_is) ( .cons (by kit_is) ( .cons (by kit_is) ( .cons (by kit_is) ( .cons (by kit_is) ( .cons (by kit_is) ( .cons (by kit_is) ( .cons (by kit_is) ( .cons (by kit_is) (.nil)))))))))))))))))
    (case yt4 => exact (.cons (by kit_is) ( .cons (by kit_is) ( .cons (by kit_is) ( .cons (by kit_is) ( .cons (by kit_is) ( .cons (by kit_is) ( .cons (by kit_is) ( .cons (by kit_is) ( .cons (by kit_is) ( .cons (by kit_is) ( .cons (by kit_is) ( .cons (by kit_is) ( .cons (by kit_is) ( .cons (by kit_is) ( .cons (by kit_is) (.nil)))))))))))))))))
    (case yt5 => exact (.cons (by kit_is) ( .cons (by kit_is) ( .cons (by kit_is) ( .cons (by kit_is) ( .cons (by kit_is) ( .cons (by kit_is) ( .cons (by kit_is) ( .cons (by kit_is) ( .cons (by kit_is) ( .cons (by kit_is) ( .cons (by kit_is) ( .cons (by kit_is) ( .cons (by kit_is) ( .cons (by kit_is) ( .cons (by kit_is) (.nil)))))))))))))))))
    (case yt6 => exact (.cons (by kit_is) ( .cons (by kit_is) ( .cons (by kit_is) ( .cons (by kit_is) ( .cons (by kit_is) ( .cons (by kit_is) ( .cons (by kit_is) ( .cons (by kit_is) ( .cons (by kit_is) ( .cons (by kit_is) ( .cons (by kit_is) ( .cons (by kit_is) ( .cons (by kit_is) ( .cons (by kit_is) ( .cons (by kit_is) (.nil)))))))))))))))))
    (case yt7 => exact (.cons (by kit_is) ( .cons (by kit_is) ( .cons (by kit_is) ( .cons (by kit_is) ( .cons (by kit_is) ( .cons (by kit_is) ( .cons (by kit_is) ( .cons (by kit_is) ( .cons (by kit_is) ( .cons (by kit_is) ( .cons (by kit_is) ( .cons (by kit_is) ( .cons (by kit_is) ( .cons (by kit_is) ( .cons (by kit_is) (.nil)))))))))))))))))
    (case yt8 => exact (.cons (by kit_is) ( .cons (by kit_is) ( .cons (by kit_is) ( .cons (by kit_is) ( .cons (by kit_is) ( .cons (by kit_is) ( .cons (by kit_is) ( .cons (by kit_is) ( .cons (by kit_is) ( .cons (by kit_is) ( .cons (by kit_is) ( .cons (by kit_is) ( .cons (by kit_is) ( .cons (by kit_is) ( .cons (by kit_is) (.nil)))))))))))))))))
    (case yt9 => exact (.cons (by kit_is) ( .cons (by kit_is) ( .cons (by kit_is) ( .cons (by kit_is) ( .cons (by kit_is) ( .cons (by kit_is) ( .cons (by kit_is) ( .cons (by kit_is) ( .cons (by kit_is) ( .cons (by kit_is) ( .cons (by kit_is) ( .cons (by kit_is) ( .cons (by kit_is) ( .cons (by kit_is) ( .cons (by kit_is) (.nil)))))))))))))))))
    (case yt10 => exact (.cons (by kit_is) ( .cons (by kit_is) ( .cons (by kit_is) ( .cons (by kit_is) ( .cons (by kit_is) ( .cons (by kit_is) ( .cons (by kit_is) ( .cons (by kit_is) ( .cons (by kit_is) ( .cons (by kit_is) ( .cons (by kit_is) ( .cons (by kit_is) ( .cons (by kit_is) ( .cons (by kit_is) ( .cons (by kit_is) (.nil)))))))))))))))))
    (case yt11 => exact (.cons (by kit_is) ( .cons (by kit_is) ( .cons (by kit_is) ( .cons (by kit_is) ( .cons (by kit_is) ( .cons (by kit_is) ( .cons (by kit_is) ( .cons (by kit_is) ( .cons (by kit_is) ( .cons (by kit_is) ( .cons (by kit_is) ( .cons (by kit_is) ( .cons (by kit_is) ( .cons (by kit_is) ( .cons (by kit_is) (.nil)))))))))))))))))
    (case yt12 => exact (.cons (by kit_is) ( .cons (by kit_is) ( .cons (by kit_is) ( .cons (by kit_is) ( .cons (by kit_is) ( .cons (by kit_is) ( .cons (by kit_is) ( .cons (by kit_is) ( .cons (by kit_is) ( .cons (by kit_is) ( .cons (by kit_is) ( .cons (by kit_is) ( .cons (by kit_is) ( .cons (by kit_is) ( .cons (by kit_is) (.nil)))))))))))))))))
    (case yt13 => exact (.cons (by kit_is) ( .cons (by kit_is) ( .cons (by kit_is) ( .cons (by kit_is) ( .cons (by kit_is) ( .cons (by kit_is) ( .cons (by kit_is) ( .cons (by kit_is) ( .cons (by kit_is) ( .cons (by kit_is) ( .cons (by kit_is) ( .cons (by kit_is) ( .cons (by kit_is) ( .cons (by kit_is) ( .cons (by kit_is) (.nil)))))))))))))))))
    (case yt14 => exact (.cons (by kit_is) ( .cons (by kit_is) ( .cons (by kit_is) ( .cons (by kit_is) ( .cons (by kit_is) ( .cons (by kit_is) ( .cons (by kit_is) ( .cons (by kit_is) ( .cons (by kit_is) ( .cons (by kit_is) ( .cons (by kit_is) ( .cons (by kit_is) ( .cons (by kit_is) ( .cons (by kit_is) ( .cons (by kit_is) (.nil)))))))))))))))))
    (case yv => k_is)
    (case yb0 => k_is)
    (case yb1 => k_is)
    (case yb2 => k_is)
    (case yb3 => k_is)
    (case yb4 => k_is)
    (case yb5 => k_is)
    (case yb6 => k_is)
    (case yb7 => k_is)
    (case yb8 => k_is)
    (case yb9 => k_is)
    (case yb10 => k_is)
    (case yb11 => k_is)
    (case yb12 => k_is)
    (case yb13 => k_is)
    (case yb14 => k_is)
    (case yb15 => k_is)
    (case yb16 => k_is)
    (case yd0 => exact TL.DefK.mk (by k_is) (by k_is) (by k_is) (by k_is))
    (case yd1 => exact TL.DefK.mk (by k_is) (by k_is) (by k_is) (by k_is))
    (case yd2 => exact TL.DefK.mk (by k_is) (by k_is) (by k_is) (by k_is))
    (case yd3 => exact TL.DefK.mk (by k_is) (by k_is) (by k_is) (by k_is))
    (case yd4 => exact TL.DefK.mk (by k_is) (by k_is) (by k_is) (by k_is))
    (case yd5 => exact TL.DefK.mk (by k_is) (by k_is) (by k_is) (by k_is))
    (case yd6 => exact TL.DefK.mk (by k_is) (by k_is) (by k_is) (by k_is))
    (case yd7 => exact TL.DefK.mk (by k_is) (by k_is) (by k_is) (by k_is))
    (case yd8 => exact TL.DefK.mk (by k_is) (by k_is) (by k_is) (by k_is))
    (case yd9 => exact TL.DefK.mk (by k_is) (by k_is) (by k_is) (by k_is))
    (case yd10 => exact TL.DefK.mk (by k_is) (by k_is) (by k_is) (by k_is))
    (case yd11 => exact TL.DefK.mk (by k_is) (by k_is) (by k_is) (by k_is))
    (case yd12 => exact TL.DefK.mk (by k_is) (by k_is) (by k_is) (by k_is))
    (case yd13 => exact TL.DefK.mk (by k_is) (by k_is) (by k_is) (by k_is))
    (case yd14 => exact TL.DefK.mk (by k_is) (by k_is) (by k_is) (by k_is))
    (case yd15 => exact TL.DefK.mk (by k_is) (by k_is) (by k_is) (by k_is))
    (case yd16 => exact TL.DefK.mk (by k_is) (by k_is) (by k_is) (by k_is))
    (case yd17 => exact TL.DefK.mk (by k_is) (by k_is) (by k_is) (by k_is))
    (case yd18 => exact TL.DefK.mk (by k_is) (by k_is) (by k_is) (by k_is))
    (case yd19 => exact TL.DefK.mk (by k_is) (by k_is) (by k_is) (by k_is))
    (case yd20 => exact TL.DefK.mk (by k_is) (by k_is) (by k_is) (by k_is))
    (case yd21 => exact TL.DefK.mk (by k_is) (by k_is) (by k_is) (by k_is))
    (case yd22 => exact TL.DefK.mk (by k_is) (by k_is) (by k_is) (by k_is))
    (case yd23 => exact TL.DefK.mk (by k_is) (by k_is) (by k_is) (by k_is))
    (case yd24 => exact TL.DefK.mk (by k_is) (by k_is) (by k_is) (by k_is))
    (case yd25 => exact TL.DefK.mk (by k_is) (by k_is) (by k_is) (by k_is))
    (case yd26 => exact TL.DefK.mk (by k_is) (by k_is) (by k_is) (by k_is))
    (case yd27 => exact TL.DefK.mk (by k_is) (by k_is) (by k_is) (by k_is))
    (case yd28 => exact TL.DefK.mk (by k_is) (by k_is) (by k_is) (by k_is))
    (case yd29 => exact TL.DefK.mk (by k_is) (by k_is) (by k_is) (by k_is))
    (case yd30 => exact TL.DefK.mk (by k_is) (by k_is) (by k_is) (by k_is))
    (case yd31 => exact TL.DefK.mk (by k_is) (by k_is) (by k_is) (by k_is))
    (case yd32 => exact TL.DefK.mk (by k_is) (by k_is) (by k_is) (by k_is))
    (case yd33 => exact TL.DefK.mk (by k_is) (by k_is) (by k_is) (by k_is))
    (case yk0 => exact TL.CnK.mk (by k_is) (by walk_at "kd"))
    (case yk1 => exact TL.CnK.mk (by k_is) (by walk_at "kd"))
    (case yk2 => exact TL.CnK.mk (by k_is) (by walk_at "kd"))
