import PyProof.Rows.All
import Wide.All
import OpenK.AllK
import Wide.FinOn
import HandS.ForMost
import HandS.ForExc
import HandS.TupAny
import HandS.Wide
import HandS.ExcCtx
import HandS.Deep
import HandS.NoneIn
import HandS.TupMul
import PyProof.P3In
import HandS.IsInst
import HandS.SortKw
import HandS.SortInts
import HandS.RaiseMore
import HandS.SetFor
import HandS.Zip
import KE.GoesEnum
import HandS.Flow
import HandS.Text
import HandS.More
import HandS.StrMore
import HandS.Strs
import HandS.ExcOwn
import HandS.Words
import HandS.Style
import HandS.Ends
import HandS.DictComp
import HandS.Small
import HandS.WideBits
import HandS.SortRule
import HandS.GenList
import HandS.Defaults
import KE.KItemsList
import PyProof.ReprRoads
import KE.KDictSum
import HandS.TryMany
import HandS.HotCalls
import HandS.ExcIs
import HandS.Conv
import KE.KIntText
import PySem.Challenge.RW_tallerfirst_k53_queues_not_shown
set_option Elab.async false
set_option linter.all false
set_option maxRecDepth 100000
/-! TF1: data, the relation of data to the abstract heap, lifted judgements -/
namespace TF
open PySem PySem.Spec L2
/-- exceptions whose context is None -/
abbrev Takes (X : Cx) (W : WX) : Prop := L2N.Takes X W

/-- a datum: what never changes (frozen lists among it), or a reference -/
inductive Dt where
  | non | bl (b : Bool) | int (i : Int) | str (s : Str) | ref (a : Addr) | ty (n : String)
  | tup (ws : List Dt) | lst (ws : List Dt) | scr (ws : List Dt) | dct (kvs : List (Key × Dt)) | exc (cn : Str) (fs : List (Str × Dt))

/-- a list that is frozen -/
def SqF (H : Hp) (a : Addr) (xs : List V) : Prop := ∃ o, H a = some (.frz o (.lst xs))
/-- the script's list: frozen, or an object of the module -/
def SqS (K : PySem.W.Frag) (H : Hp) (a : Addr) (xs : List V) : Prop := SqF H a xs ∨
  ∃ (o : Obj) (its : Array Value) (n : Nat), K.lookup a = some o ∧ o.cls = .type "list" ∧ o.dict = none ∧ o.data = .seq its n ∧ its.size ≤ sizeLine ∧ Vals xs its.toList
/-- a tuple that stands for good -/
def SqP (K : PySem.W.Frag) (H : Hp) (a : Addr) (xs : List V) : Prop :=
  (∃ o : Obj, H a = some (.frz o (.tup xs)) ∧ o.dict = none) ∨
    ∃ (o : Obj) (its : Array Value) (n : Nat), K.lookup a = some o ∧ o.cls = .type "tuple" ∧ o.dict = none ∧ o.data = .seq its n ∧ its.size ≤ sizeLine ∧ Vals xs its.toList
theorem SqF.rd {H : Hp} {a : Addr} {xs : List V} (h : SqF H a xs) : Rd H a (.lst xs) := .inr h
theorem SqP.tup {K : PySem.W.Frag} {H : Hp} {a : Addr} {xs : List V} (h : SqP K H a xs) : SqT K H a xs := by
  rcases h with ⟨o, h, _⟩ | ⟨o, its, n, h1, h2, _, h3⟩
  · exact .inl (.inr ⟨o, h⟩)
  · exact .inr ⟨o, its, n, h1, h2, h3⟩

theorem SqS.sql {K : PySem.W.Frag} {H : Hp} {a : Addr} {xs : List V} (h : SqS K H a xs) : SqL K H a xs := h.elim (fun z => .inl z.rd) .inr
/-- what stays: tuples, frozen things -/
def Pers (H H' : Hp) : Prop := (∀ b xs, H b = some (.tup xs) → H' b = some (.tup xs)) ∧ ∀ b o u, H b = some (.frz o u) → H' b = some (.frz o u)
theorem Pers.refl (H : Hp) : Pers H H := ⟨fun _ _ h => h, fun _ _ _ h => h⟩
theorem Pers.trans {H H1 H2 : Hp} (a : Pers H H1) (b : Pers H1 H2) : Pers H H2 := ⟨fun c xs h => b.1 c xs (a.1 c xs h), fun c o u h => b.2 c o u (a.2 c o u h)⟩
/-- a thing that may change is written (or laid anew) -/
theorem Pers.upd {H : Hp} {p : Addr} {o : HO} (h1 : ∀ xs, H p ≠ some (.tup xs)) (h2 : ∀ ob u, H p ≠ some (.frz ob u)) : Pers H (L2.upd H p o) :=
  ⟨fun b xs h => by rw [upd_ne (fun e => by subst e; exact h1 xs h)]; exact h, fun b ob u h => by rw [upd_ne (fun e => by subst e; exact h2 ob u h)]; exact h⟩
theorem Pers.new {H : Hp} {p : Addr} {o : HO} (h : H p = none) : Pers H (L2.upd H p o) := Pers.upd (fun _ e => by rw [h] at e; cases e) (fun _ _ e => by rw [h] at e; cases e)
theorem SqF.pers {H H' : Hp} (p : Pers H H') {a : Addr} {xs : List V} (h : SqF H a xs) : SqF H' a xs := let ⟨o, h⟩ := h; ⟨o, p.2 _ _ _ h⟩
theorem SqS.pers {K : PySem.W.Frag} {H H' : Hp} (p : Pers H H') {a : Addr} {xs : List V} (h : SqS K H a xs) : SqS K H' a xs := h.imp (fun z => z.pers p) id
theorem SqP.pers {K : PySem.W.Frag} {H H' : Hp} (p : Pers H H') {a : Addr} {xs : List V} (h : SqP K H a xs) : SqP K H' a xs := by
  rcases h with ⟨o, h, e⟩ | h
  · exact .inl ⟨o, p.2 _ _ _ h, e⟩
  · exact .inr h

/-- what is known of a caught exception at a: its object stands -/
def ExcAt (mg : Str → Option Value) (H : Hp) (a : Addr) (cn : Str) (d : Option Addr) : Prop :=
  ∃ (oe : Obj) (u : HO) (C : Addr), H a = some (.frz oe u) ∧ mg cn = some (.ref C) ∧ Zc (.ref C) d oe ∧ (∃ vs, oe.data = .fields vs)

mutual
/-- the value v is the datum -/
inductive IsD (K : PySem.W.Frag) (mg : Str → Option Value) (H : Hp) : V → Dt → Prop where
  | non : IsD K mg H .non .non
  | bl (b : Bool) : IsD K mg H (.bl b) (.bl b)
  | int (i : Int) : IsD K mg H (.int i) (.int i)
  | str (s : Str) : IsD K mg H (.str s) (.str s)
  | ref (a : Addr) : IsD K mg H (.ref a) (.ref a)
  | ty (n : String) : IsD K mg H (.ty n) (.ty n)
  | tup {a : Addr} {vs : List V} {ws : List Dt} : SqP K H a vs → IsDs K mg H vs ws → IsD K mg H (.ref a) (.tup ws)
  | lst {a : Addr} {vs : List V} {ws : List Dt} : SqF H a vs → IsDs K mg H vs ws → IsD K mg H (.ref a) (.lst ws)
  | scr {a : Addr} {vs : List V} {ws : List Dt} : SqS K H a vs → IsDs K mg H vs ws → IsD K mg H (.ref a) (.scr ws)
  | dct {a : Addr} {o : Obj} {kvs : List (Key × V)} {ws : List (Key × Dt)} : H a = some (.frz o (.dK kvs)) → IsKs K mg H kvs ws → IsD K mg H (.ref a) (.dct ws)
  | exc0 {a : Addr} {cn : Str} {d : Option Addr} : ExcAt mg H a cn d → IsD K mg H (.ref a) (.exc cn [])
  | exc {a : Addr} {cn : Str} {dd : Addr} {o : Obj} {xs : List (Str × V)} {fs : List (Str × Dt)} : ExcAt mg H a cn (some dd) → H dd = some (.frz o (.xd xs)) → IsFs K mg H xs fs → IsD K mg H (.ref a) (.exc cn fs)
inductive IsDs (K : PySem.W.Frag) (mg : Str → Option Value) (H : Hp) : List V → List Dt → Prop where
  | nil : IsDs K mg H [] []
  | cons {v : V} {vs : List V} {w : Dt} {ws : List Dt} : IsD K mg H v w → IsDs K mg H vs ws → IsDs K mg H (v :: vs) (w :: ws)
inductive IsKs (K : PySem.W.Frag) (mg : Str → Option Value) (H : Hp) : List (Key × V) → List (Key × Dt) → Prop where
  | nil : IsKs K mg H [] []
  | cons {k : Key} {v : V} {vs : List (Key × V)} {w : Dt} {ws : List (Key × Dt)} : IsD K mg H v w → IsKs K mg H vs ws → IsKs K mg H ((k, v) :: vs) ((k, w) :: ws)
inductive IsFs (K : PySem.W.Frag) (mg : Str → Option Value) (H : Hp) : List (Str × V) → List (Str × Dt) → Prop where
  | nil : IsFs K mg H [] []
  | cons {k : Str} {v : V} {vs : List (Str × V)} {w : Dt} {ws : List (Str × Dt)} : IsD K mg H v w → IsFs K mg H vs ws → IsFs K mg H ((k, v) :: vs) ((k, w) :: ws)
end

section
variable {K : PySem.W.Frag} {mg : Str → Option Value} {H H' : Hp}
mutual
theorem IsD.pers (p : Pers H H') : ∀ {v : V} {w : Dt}, IsD K mg H v w → IsD K mg H' v w
  | _, _, .non => .non
  | _, _, .bl b => .bl b
  | _, _, .int i => .int i
  | _, _, .str s => .str s
  | _, _, .ref a => .ref a
  | _, _, .ty n => .ty n
  | _, _, .tup h t => .tup (h.pers p) (IsDs.pers p t)
  | _, _, .lst h t => .lst (h.pers p) (IsDs.pers p t)
  | _, _, .scr h t => .scr (h.pers p) (IsDs.pers p t)
  | _, _, .dct h t => .dct (p.2 _ _ _ h) (IsKs.pers p t)
  | _, _, .exc0 ⟨oe, u, C, h, r⟩ => .exc0 ⟨oe, u, C, p.2 _ _ _ h, r⟩
  | _, _, .exc ⟨oe, u, C, h, r⟩ h2 q => .exc ⟨oe, u, C, p.2 _ _ _ h, r⟩ (p.2 _ _ _ h2) (IsFs.pers p q)
theorem IsDs.pers (p : Pers H H') : ∀ {vs : List V} {ws : List Dt}, IsDs K mg H vs ws → IsDs K mg H' vs ws
  | _, _, .nil => .nil
  | _, _, .cons h t => .cons (IsD.pers p h) (IsDs.pers p t)
theorem IsKs.pers (p : Pers H H') : ∀ {vs : List (Key × V)} {ws : List (Key × Dt)}, IsKs K mg H vs ws → IsKs K mg H' vs ws
  | _, _, .nil => .nil
  | _, _, .cons h t => .cons (IsD.pers p h) (IsKs.pers p t)
theorem IsFs.pers (p : Pers H H') : ∀ {vs : List (Str × V)} {ws : List (Str × Dt)}, IsFs K mg H vs ws → IsFs K mg H' vs ws
  | _, _, .nil => .nil
  | _, _, .cons h t => .cons (IsD.pers p h) (IsFs.pers p t)
end
theorem IsDs.length : ∀ {vs : List V} {ws : List Dt}, IsDs K mg H vs ws → vs.length = ws.length
  | _, _, .nil => rfl
  | _, _, .cons _ t => congrArg (· + 1) (IsDs.length t)
theorem IsDs.append : ∀ {vs vs' : List V} {ws ws' : List Dt}, IsDs K mg H vs ws → IsDs K mg H vs' ws' → IsDs K mg H (vs ++ vs') (ws ++ ws')
  | _, _, _, _, .nil, s => s
  | _, _, _, _, .cons h t, s => .cons h (IsDs.append t s)
theorem IsDs.take : ∀ {vs : List V} {ws : List Dt} (n : Nat), IsDs K mg H vs ws → IsDs K mg H (vs.take n) (ws.take n)
  | _, _, 0, _ => .nil
  | _, _, _ + 1, .nil => .nil
  | _, _, n + 1, .cons h t => .cons h (IsDs.take n t)
theorem IsDs.drop : ∀ {vs : List V} {ws : List Dt} (n : Nat), IsDs K mg H vs ws → IsDs K mg H (vs.drop n) (ws.drop n)
  | _, _, 0, t => t
  | _, _, _ + 1, .nil => .nil
  | _, _, n + 1, .cons _ t => IsDs.drop n t
theorem IsDs.reverse : ∀ {vs : List V} {ws : List Dt}, IsDs K mg H vs ws → IsDs K mg H vs.reverse ws.reverse
  | _, _, .nil => .nil
  | _, _, .cons h t => by rw [List.reverse_cons, List.reverse_cons]; exact (IsDs.reverse t).append (.cons h .nil)
theorem IsDs.get : ∀ {vs : List V} {ws : List Dt} {i : Nat} {w : Dt}, IsDs K mg H vs ws → ws[i]? = some w → ∃ v, vs[i]? = some v ∧ IsD K mg H v w
  | _, _, _, _, .nil, e => by simp at e
  | _, _, 0, w, .cons h _, e => by simp at e; subst e; exact ⟨_, rfl, h⟩
  | _, _, i + 1, w, .cons _ t, e => by
    obtain ⟨v, h1, h2⟩ := IsDs.get (i := i) t (by simpa using e)
    exact ⟨v, by simpa using h1, h2⟩
theorem IsDs.get' : ∀ {vs : List V} {ws : List Dt} {i : Nat} {v : V}, IsDs K mg H vs ws → vs[i]? = some v → ∃ w, ws[i]? = some w ∧ IsD K mg H v w
  | _, _, _, _, .nil, e => by simp at e
  | _, _, 0, v, .cons h _, e => by simp at e; subst e; exact ⟨_, rfl, h⟩
  | _, _, i + 1, v, .cons _ t, e => by
    obtain ⟨w, h1, h2⟩ := IsDs.get' (i := i) t (by simpa using e)
    exact ⟨w, by simpa using h1, h2⟩
theorem IsDs.set {v : V} {w : Dt} (h : IsD K mg H v w) : ∀ {vs : List V} {ws : List Dt} (i : Nat), IsDs K mg H vs ws → IsDs K mg H (vs.set i v) (ws.set i w)
  | _, _, _, .nil => .nil
  | _, _, 0, .cons _ t => .cons h t
  | _, _, i + 1, .cons q t => .cons q (IsDs.set h i t)
theorem IsDs.eraseIdx : ∀ {vs : List V} {ws : List Dt} (i : Nat), IsDs K mg H vs ws → IsDs K mg H (vs.eraseIdx i) (ws.eraseIdx i)
  | _, _, _, .nil => .nil
  | _, _, 0, .cons _ t => t
  | _, _, i + 1, .cons q t => .cons q (IsDs.eraseIdx i t)
theorem IsDs.map {α : Type} {f : α → V} {g : α → Dt} (h : ∀ x, IsD K mg H (f x) (g x)) : ∀ (xs : List α), IsDs K mg H (xs.map f) (xs.map g)
  | [] => .nil
  | x :: xs => .cons (h x) (IsDs.map h xs)
/-- all data are ints, texts, bools -/
theorem IsDs.ints : ∀ {vs : List V} {ns : List Int}, IsDs K mg H vs (ns.map Dt.int) → vs = ns.map V.int
  | _, [], .nil => rfl
  | _, _ :: _, .cons h t => by cases h; rw [IsDs.ints t]; rfl
theorem IsDs.strs : ∀ {vs : List V} {ns : List Str}, IsDs K mg H vs (ns.map Dt.str) → vs = ns.map V.str
  | _, [], .nil => rfl
  | _, _ :: _, .cons h t => by cases h; rw [IsDs.strs t]; rfl
theorem IsDs.bls : ∀ {vs : List V} {ns : List Bool}, IsDs K mg H vs (ns.map Dt.bl) → vs = ns.map V.bl
  | _, [], .nil => rfl
  | _, _ :: _, .cons h t => by cases h; rw [IsDs.bls t]; rfl
theorem IsD.of_int {v : V} {i : Int} (h : IsD K mg H v (.int i)) : v = .int i := by cases h; rfl
theorem IsD.of_str {v : V} {s : Str} (h : IsD K mg H v (.str s)) : v = .str s := by cases h; rfl
theorem IsD.of_bl {v : V} {b : Bool} (h : IsD K mg H v (.bl b)) : v = .bl b := by cases h; rfl
theorem IsD.of_non {v : V} (h : IsD K mg H v .non) : v = .non := by cases h; rfl
theorem IsD.of_ref {v : V} {a : Addr} (h : IsD K mg H v (.ref a)) : v = .ref a := by cases h; rfl
end

/-! ### what is owned: it may change -/
inductive OO where
  | lst (ws : List Dt) | dct (kvs : List (Key × Dt)) | ins (cn : Str) (fs : List (Str × Dt))
abbrev OW := Addr → Option OO
def upo (O : OW) (a : Addr) (o : OO) : OW := fun b => if b = a then some o else O b
theorem upo_same {O : OW} {a : Addr} {o : OO} : upo O a o a = some o := by unfold upo; rw [if_pos rfl]
theorem upo_ne {O : OW} {a b : Addr} {o : OO} (h : b ≠ a) : upo O a o b = O b := by unfold upo; rw [if_neg h]
theorem upo_upo {O : OW} {a : Addr} {o u : OO} : upo (upo O a o) a u = upo O a u := by funext b; unfold upo; split <;> rfl
def OLe (O' O : OW) : Prop := ∀ a o, O' a = some o → O a = some o
theorem OLe.refl (O : OW) : OLe O O := fun _ _ h => h
theorem OLe.trans {O O1 O2 : OW} (a : OLe O O1) (b : OLe O1 O2) : OLe O O2 := fun c o h => b c o (a c o h)
def OwnAt (K : PySem.W.Frag) (mg : Str → Option Value) (H : Hp) (a : Addr) : OO → Prop
  | .lst ws => ∃ vs, H a = some (.lst vs) ∧ IsDs K mg H vs ws
  | .dct kvs => ∃ vs, H a = some (.dK vs) ∧ IsKs K mg H vs kvs
  | .ins cn fs => ∃ C dx vs, mg cn = some (.ref C) ∧ H a = some (.ins C dx vs) ∧ IsFs K mg H vs fs
/-- what is owned stands so; what the frame Fm says stands, and nobody owns it -/
structure Own (K : PySem.W.Frag) (mg : Str → Option Value) (Fm : Hp) (O : OW) (H : Hp) : Prop where
  at_ : ∀ a o, O a = some o → OwnAt K mg H a o
  fr : ∀ a u, Fm a = some u → H a = some u
  ap : ∀ a u, Fm a = some u → O a = none
section
variable {K : PySem.W.Frag} {mg : Str → Option Value} {Fm H H' : Hp} {O : OW}
theorem OwnAt.some {a : Addr} {o : OO} (h : OwnAt K mg H a o) : ∃ u, H a = Option.some u ∧ (∀ xs, u ≠ .tup xs) ∧ (∀ ob v, u ≠ .frz ob v) := by
  cases o with
  | lst ws => obtain ⟨_, h, _⟩ := h; exact ⟨_, h, fun _ e => (nomatch e), fun _ _ e => (nomatch e)⟩
  | dct ws => obtain ⟨_, h, _⟩ := h; exact ⟨_, h, fun _ e => (nomatch e), fun _ _ e => (nomatch e)⟩
  | ins c f => obtain ⟨_, _, _, _, h, _⟩ := h; exact ⟨_, h, fun _ e => (nomatch e), fun _ _ e => (nomatch e)⟩
theorem OwnAt.stay {a : Addr} {o : OO} (h : OwnAt K mg H a o) (p : Pers H H') (e : H' a = H a) : OwnAt K mg H' a o := by
  cases o with
  | lst ws => obtain ⟨vs, h, t⟩ := h; exact ⟨vs, e.trans h, t.pers p⟩
  | dct ws => obtain ⟨vs, h, t⟩ := h; exact ⟨vs, e.trans h, t.pers p⟩
  | ins c f => obtain ⟨C, dx, vs, m, h, t⟩ := h; exact ⟨C, dx, vs, m, e.trans h, t.pers p⟩
theorem Own.none (h : Own K mg Fm O H) {p : Addr} (e : H p = Option.none) : O p = Option.none := by
  cases q : O p with
  | none => rfl
  | some o => obtain ⟨u, z, _⟩ := (h.at_ p o q).some; rw [e] at z; cases z
theorem Own.fnone (h : Own K mg Fm O H) {p : Addr} (e : H p = Option.none) : Fm p = Option.none := by
  cases q : Fm p with
  | none => rfl
  | some u => rw [h.fr p u q] at e; cases e
theorem Own.fown (h : Own K mg Fm O H) {p : Addr} {o : OO} (e : O p = Option.some o) : Fm p = Option.none := by
  cases q : Fm p with
  | none => rfl
  | some u => rw [h.ap p u q] at e; cases e
theorem Own.pers_upd (h : Own K mg Fm O H) {p : Addr} {o : OO} {u : HO} (e : O p = Option.some o) : Pers H (upd H p u) := by
  obtain ⟨v, z, z1, z2⟩ := (h.at_ p o e).some
  exact Pers.upd (fun xs q => z1 xs (Option.some.inj (z.symm.trans q))) (fun ob w q => z2 ob w (Option.some.inj (z.symm.trans q)))
theorem Own.le (h : Own K mg Fm O H) {O' : OW} (l : OLe O' O) : Own K mg Fm O' H := ⟨fun a o e => h.at_ a o (l a o e), h.fr, fun a u e => by
  cases q : O' a with
  | none => rfl
  | some o => have := l a o q; rw [h.ap a u e] at this; cases this⟩
/-- an untracked or owned place is written -/
theorem Own.write (h : Own K mg Fm O H) {p : Addr} {o : OO} {u : HO} (fp : Fm p = Option.none) (p' : Pers H (upd H p u)) (n : OwnAt K mg (upd H p u) p o) : Own K mg Fm (upo O p o) (upd H p u) := by
  have ne : ∀ a v, Fm a = Option.some v → a ≠ p := fun a v e k => by subst k; rw [fp] at e; cases e
  refine ⟨fun a q e => ?_, fun a v e => by rw [upd_ne (ne a v e)]; exact h.fr a v e, fun a v e => by rw [upo_ne (ne a v e)]; exact h.ap a v e⟩
  by_cases ha : a = p
  · subst ha; rw [upo_same] at e; cases e; exact n
  · rw [upo_ne ha] at e; exact (h.at_ a q e).stay p' (upd_ne ha)
theorem Own.laid (h : Own K mg Fm O H) {p : Addr} {u : HO} (e : H p = Option.none) : Own K mg Fm O (upd H p u) := by
  have ne : ∀ a v, Fm a = Option.some v → a ≠ p := fun a v q k => by subst k; rw [h.fnone e] at q; cases q
  refine ⟨fun a q z => ?_, fun a v q => by rw [upd_ne (ne a v q)]; exact h.fr a v q, h.ap⟩
  have ha : a ≠ p := fun k => by subst k; rw [h.none e] at z; cases z
  exact (h.at_ a q z).stay (Pers.new e) (upd_ne ha)
end

/-! ### slots -/
abbrev SW := List (Option Dt)
def Slots (K : PySem.W.Frag) (mg : Str → Option Value) (H : Hp) (σ : St) (τ : SW) : Prop :=
  σ.length = τ.length ∧ ∀ (i : Nat) (w : Dt), τ[i]? = some (some w) → ∃ v, σ[i]? = some (some v) ∧ IsD K mg H v w
section
variable {K : PySem.W.Frag} {mg : Str → Option Value} {H H' : Hp} {σ : St} {τ : SW}
theorem Slots.pers (s : Slots K mg H σ τ) (p : Pers H H') : Slots K mg H' σ τ := ⟨s.1, fun i w e => let ⟨v, e1, d⟩ := s.2 i w e; ⟨v, e1, d.pers p⟩⟩
theorem Slots.set (s : Slots K mg H σ τ) (i : Nat) {v : V} {w : Dt} (d : IsD K mg H v w) : Slots K mg H (σ.set i (some v)) (τ.set i (some w)) := by
  refine ⟨by rw [List.length_set, List.length_set]; exact s.1, fun j z e => ?_⟩
  by_cases hj : i = j
  · subst hj
    by_cases hl : i < τ.length
    · rw [List.getElem?_set_self hl] at e; cases e
      exact ⟨v, List.getElem?_set_self (by rw [s.1]; exact hl), d⟩
    · rw [List.getElem?_eq_none (by rw [List.length_set]; omega)] at e; cases e
  · rw [List.getElem?_set_ne hj] at e
    obtain ⟨x, e1, q⟩ := s.2 j z e
    exact ⟨x, by rw [List.getElem?_set_ne hj]; exact e1, q⟩
theorem Slots.unset (s : Slots K mg H σ τ) (i : Nat) : Slots K mg H (σ.set i none) (τ.set i none) := by
  refine ⟨by rw [List.length_set, List.length_set]; exact s.1, fun j z e => ?_⟩
  by_cases hj : i = j
  · subst hj
    by_cases hl : i < τ.length
    · rw [List.getElem?_set_self hl] at e; cases e
    · rw [List.getElem?_eq_none (by rw [List.length_set]; omega)] at e; cases e
  · rw [List.getElem?_set_ne hj] at e
    obtain ⟨x, e1, q⟩ := s.2 j z e
    exact ⟨x, by rw [List.getElem?_set_ne hj]; exact e1, q⟩
/-- less may be known -/
theorem Slots.weak (s : Slots K mg H σ τ) {τ' : SW} (l : τ'.length = τ.length) (h : ∀ (i : Nat) (w : Dt), τ'[i]? = some (some w) → τ[i]? = some (some w)) : Slots K mg H σ τ' :=
  ⟨s.1.trans l.symm, fun i w e => s.2 i w (h i w e)⟩
end
def wipeW (τ : SW) : List Nat → SW
  | [] => τ
  | v :: vs => (wipeW τ vs).set v none
theorem Slots.wipe {K : PySem.W.Frag} {mg : Str → Option Value} {H : Hp} {σ : St} {τ : SW} (s : Slots K mg H σ τ) : ∀ vs, Slots K mg H (L2.wipe σ vs) (wipeW τ vs)
  | [] => s
  | v :: vs => (Slots.wipe s vs).unset v

/-! ### exceptions -/
/-- an exception of an own class: its name, its own attributes -/
structure Exc where
  cn : Str
  fs : List (Str × Dt) := []
def ExcRel (K : PySem.W.Frag) (mg : Str → Option Value) (x : Exc) (cls : Value) (d : Option Addr) (H : Hp) : Prop :=
  ∃ C, mg x.cn = some (.ref C) ∧ cls = .ref C ∧ ((x.fs = [] ∧ d = none) ∨ (x.fs ≠ [] ∧ ∃ dd xs, d = some dd ∧ H dd = some (.xd xs) ∧ IsFs K mg H xs x.fs))

abbrev KW := Dt → OW → Prop
abbrev XW := Exc → SW → OW → Prop
abbrev TEw := XW → SW → OW → KW → Prop
abbrev TAw := XW → SW → OW → (List Dt → OW → Prop) → Prop
abbrev TTw := XW → SW → OW → (Bool → OW → Prop) → Prop
structure EndsW where
  nx : SW → OW → Prop
  rt : KW
  bk : SW → OW → Prop := fun _ _ => False
  ct : SW → OW → Prop := fun _ _ => False
abbrev TSw := XW → EndsW → SW → OW → Prop

/-- behind an expression -/
def LQ (K : PySem.W.Frag) (mg : Str → Option Value) (Fm H : Hp) (Q : KW) : VK := fun v H' => ∃ w O', Pers H H' ∧ IsD K mg H' v w ∧ Own K mg Fm O' H' ∧ Q w O'
def LE (K : PySem.W.Frag) (mg : Str → Option Value) (Fm : Hp) (t : SW → OW → KW → Prop) : TE := fun σ H Q' => ∃ τ O Q, Slots K mg H σ τ ∧ Own K mg Fm O H ∧ t τ O Q ∧ ∀ v H', LQ K mg Fm H Q v H' → Q' v H'
def LA (K : PySem.W.Frag) (mg : Str → Option Value) (Fm : Hp) (t : SW → OW → (List Dt → OW → Prop) → Prop) : TA := fun σ H Q' => ∃ τ O Q, Slots K mg H σ τ ∧ Own K mg Fm O H ∧ t τ O Q ∧
  ∀ vs ws H' O', Pers H H' → IsDs K mg H' vs ws → Own K mg Fm O' H' → Q ws O' → Q' vs H'
def LT (K : PySem.W.Frag) (mg : Str → Option Value) (Fm : Hp) (t : SW → OW → (Bool → OW → Prop) → Prop) : TT := fun σ H Q' => ∃ τ O Q, Slots K mg H σ τ ∧ Own K mg Fm O H ∧ t τ O Q ∧
  ∀ b H' O', Pers H H' → Own K mg Fm O' H' → Q b O' → Q' b H'
def LX (K : PySem.W.Frag) (mg : Str → Option Value) (Fm : Hp) (Ex : XW) : WX := fun cls d σ H => ∃ x τ O, Slots K mg H σ τ ∧ Own K mg Fm O H ∧ ExcRel K mg x cls d H ∧ Ex x τ O
/-- a wish lies below a wish of the layer -/
structure EndsLe (K : PySem.W.Frag) (mg : Str → Option Value) (Fm : Hp) (D : EndsW) (D' : Ends) : Prop where
  nx : ∀ σ H τ O, Slots K mg H σ τ → Own K mg Fm O H → D.nx τ O → D'.nx σ H
  rt : ∀ v H w O, IsD K mg H v w → Own K mg Fm O H → D.rt w O → D'.rt v H
  bk : ∀ σ H τ O, Slots K mg H σ τ → Own K mg Fm O H → D.bk τ O → D'.bk σ H
  ct : ∀ σ H τ O, Slots K mg H σ τ → Own K mg Fm O H → D.ct τ O → D'.ct σ H
def LS (K : PySem.W.Frag) (mg : Str → Option Value) (Fm : Hp) (t : EndsW → SW → OW → Prop) : TS := fun D' σ H => ∃ D τ O, Slots K mg H σ τ ∧ Own K mg Fm O H ∧ t D τ O ∧ EndsLe K mg Fm D D'

/-- the lifted judgements -/
def WE (X : Cx) (e : Expr) (t : TEw) : Prop := ∀ Fm Ex, Takes X (LX X.K X.mg Fm Ex) → PE X e (LE X.K X.mg Fm (t Ex))
def WA (X : Cx) (es : List Expr) (t : TAw) : Prop := ∀ Fm Ex, Takes X (LX X.K X.mg Fm Ex) → PA X es (LA X.K X.mg Fm (t Ex))
def WT (X : Cx) (e : Expr) (t : TTw) : Prop := ∀ Fm Ex, Takes X (LX X.K X.mg Fm Ex) → PT X e (LT X.K X.mg Fm (t Ex))
def WP (X : Cx) (e : Expr) (t : TTw) : Prop := ∀ Fm Ex, Takes X (LX X.K X.mg Fm Ex) → PW X e (LT X.K X.mg Fm (t Ex))
def WS (X : Cx) (st : Stmt) (t : TSw) : Prop := ∀ Fm Ex, Takes X (LX X.K X.mg Fm Ex) → PS X st (LS X.K X.mg Fm (t Ex))
def WB (X : Cx) (st : List Stmt) (t : TSw) : Prop := ∀ Fm Ex, Takes X (LX X.K X.mg Fm Ex) → PSs X st (LS X.K X.mg Fm (t Ex))

section
variable {X : Cx} {e a b c : Expr} {es : List Expr} {pos : Pos} {K : PySem.W.Frag} {mg : Str → Option Value} {Fm : Hp}
theorem PE.imp {t t' : TE} (h : PE X e t) (i : ∀ σ H Q, t' σ H Q → t σ H Q) : PE X e t' := ⟨fun pins s σ H Q I q => h.run pins s σ H Q I (i _ _ _ q)⟩
theorem PA.imp {t t' : TA} (h : PA X es t) (i : ∀ σ H Q, t' σ H Q → t σ H Q) : PA X es t' := ⟨fun pos pins s σ H Q I q => h.run pos pins s σ H Q I (i _ _ _ q)⟩
theorem PT.imp {t t' : TT} (h : PT X e t) (i : ∀ σ H Q, t' σ H Q → t σ H Q) : PT X e t' := ⟨fun pins s σ H Q I q => h.run pins s σ H Q I (i _ _ _ q)⟩
theorem PW.imp {t t' : TT} (h : PW X e t) (i : ∀ σ H Q, t' σ H Q → t σ H Q) : PW X e t' := ⟨fun w pins s σ H Q I q => h.run w pins s σ H Q I (i _ _ _ q)⟩
theorem PS.imp {st : Stmt} {t t' : TS} (h : PS X st t) (i : ∀ D σ H, t' D σ H → t D σ H) : PS X st t' := ⟨fun pins s σ H D I q => h.run pins s σ H D I (i _ _ _ q)⟩
theorem PSs.imp {st : List Stmt} {t t' : TS} (h : PSs X st t) (i : ∀ D σ H, t' D σ H → t D σ H) : PSs X st t' := ⟨fun pins s σ H D I q => h.run pins s σ H D I (i _ _ _ q)⟩

theorem LQ.mk {H : Hp} {Q : KW} {v : V} {w : Dt} {O : OW} (d : IsD K mg H v w) (o : Own K mg Fm O H) (q : Q w O) : LQ K mg Fm H Q v H := ⟨w, O, Pers.refl H, d, o, q⟩
theorem LQ.trans {H H1 : Hp} {Q : KW} {v : V} {H' : Hp} (p : Pers H H1) (h : LQ K mg Fm H1 Q v H') : LQ K mg Fm H Q v H' := let ⟨w, O, p1, d, o, q⟩ := h; ⟨w, O, p.trans p1, d, o, q⟩
/-- a pair of readings in a row -/
theorem LE.bind {ta : SW → OW → KW → Prop} {σ : St} {H : Hp} {R : V → Hp → Prop} {τ : SW} {O : OW} {Q : KW} (s : Slots K mg H σ τ) (o : Own K mg Fm O H) (h : ta τ O Q)
    (k : ∀ v w H1 O1, Pers H H1 → Slots K mg H1 σ τ → IsD K mg H1 v w → Own K mg Fm O1 H1 → Q w O1 → R v H1) : LE K mg Fm ta σ H R :=
  ⟨τ, O, Q, s, o, h, fun v H1 ⟨w, O1, p, d, o1, q⟩ => k v w H1 O1 p (s.pers p) d o1 q⟩
end
end TF

/-! TF2: operators by data; expressions -/
namespace TF
open PySem PySem.Spec L2
set_option exponentiation.threshold 2000

abbrev LIM : Nat := 16777216
theorem lim_eq : sizeLine = LIM := by decide +kernel
/-- an int of moderate size -/
def Small (i : Int) : Prop := -(10 ^ 300) ≤ i ∧ i ≤ 10 ^ 300
theorem Small.lt {i : Int} (h : Small i) : i.natAbs < 2 ^ 1000 := by
  have e : (10 : Int) ^ 300 < 2 ^ 1000 := by decide +kernel
  obtain ⟨h1, h2⟩ := h
  have : (i.natAbs : Int) < 2 ^ 1000 := by omega
  exact_mod_cast this
theorem Small.log {i : Int} (h : Small i) : i.natAbs.log2 < 1000 := PySem.Flt.log2_lt_of (by decide) h.lt

/-- the items of a list: frozen, or owned -/
def asL (O : OW) : Dt → Option (List Dt)
  | .lst ws => some ws
  | .ref a => match O a with
    | some (.lst ws) => some ws
    | _ => none
  | _ => none
/-- of a list or a tuple -/
def asQ (O : OW) : Dt → Option (List Dt)
  | .tup ws => some ws
  | .lst ws => some ws
  | .ref a => match O a with
    | some (.lst ws) => some ws
    | _ => none
  | _ => none
/-- a new list: frozen, or owned -/
def newL (fz : Bool) (ws : List Dt) (O : OW) (Q : KW) : Prop :=
  if fz = true then Q (.lst ws) O else ∀ p, O p = none → Q (.ref p) (upo O p (.lst ws))

section
variable {X : Cx} {K : PySem.W.Frag} {mg : Str → Option Value} {Fm H : Hp} {O : OW} {pins : List (Addr × Obj)} {σ : St} {s : Shared}
theorem asL_own {a : Addr} {ws : List Dt} (h : (match O a with | some (.lst ws) => some ws | _ => none) = some ws) : O a = some (.lst ws) := by
  split at h
  · rename_i e; cases h; exact e
  · cases h
theorem asL_rd {v : V} {w : Dt} {ws : List Dt} (d : IsD K mg H v w) (o : Own K mg Fm O H) (h : asL O w = some ws) : ∃ a vs, v = .ref a ∧ Rd H a (.lst vs) ∧ IsDs K mg H vs ws := by
  cases d with
  | lst h1 h2 => cases h; exact ⟨_, _, rfl, h1.rd, h2⟩
  | ref a =>
    obtain ⟨vs, h1, h2⟩ := o.at_ a _ (asL_own h)
    exact ⟨a, vs, rfl, .inl h1, h2⟩
  | _ => cases h
theorem asQ_rd {v : V} {w : Dt} {ws : List Dt} (d : IsD K mg H v w) (o : Own K mg Fm O H) (h : asQ O w = some ws) : ∃ a vs, v = .ref a ∧ (Rd H a (.lst vs) ∨ SqP K H a vs) ∧ IsDs K mg H vs ws := by
  cases d with
  | tup h1 h2 => cases h; exact ⟨_, _, rfl, .inr h1, h2⟩
  | lst h1 h2 => cases h; exact ⟨_, _, rfl, .inl h1.rd, h2⟩
  | ref a =>
    obtain ⟨vs, h1, h2⟩ := o.at_ a _ (asL_own h)
    exact ⟨a, vs, rfl, .inl (.inl h1), h2⟩
  | _ => cases h
/-- what comes of a new list at p, frozen if wished -/
theorem ep_newL {fz : Bool} {p : Addr} {vs : List V} {ws : List Dt} {Q : KW} {Q' : VK} {H0 : Hp} (np : H p = none) (P0 : Pers H0 H) (I : Inv X pins σ (upd H p (.lst vs)) s) (d : IsDs X.K X.mg H vs ws) (o : Own X.K X.mg Fm O H) (q : newL fz ws O Q)
    (k : ∀ v H', LQ X.K X.mg Fm H0 Q v H' → Q' v H') : EP X pins σ Q' (.ref p) s := by
  have P1 : Pers H (upd H p (.lst vs)) := Pers.new np
  unfold newL at q
  cases fz with
  | false =>
    rw [if_neg Bool.false_ne_true] at q
    refine ⟨.ref p, _, I, rfl, k _ _ ⟨.ref p, _, P0.trans P1, .ref p, ?_, q p (o.none np)⟩⟩
    exact o.write (o.fnone np) P1 ⟨vs, upd_same, d.pers P1⟩
  | true =>
    rw [if_pos rfl] at q
    obtain ⟨ob, I2⟩ := I.lock upd_same trivial
    rw [upd_upd] at I2
    have P2 : Pers H (upd H p (.frz ob (.lst vs))) := Pers.new np
    exact ⟨.ref p, _, I2, rfl, k _ _ ⟨.lst ws, O, P0.trans P2, .lst ⟨ob, upd_same⟩ (d.pers P2), o.laid np, q⟩⟩
/-- a new tuple -/
theorem Inv.tnew {its : List Value} {ys : List V} {t' : Nat} (I : Inv X pins σ H s) (hv : Vals ys its) (hz : ys.length ≤ sizeLine) :
    Inv X pins σ (upd H s.heap.objs.size (.frz { cls := .type "tuple", data := .seq its.toArray } (.tup ys))) { s with heap := s.heap.push { cls := .type "tuple", data := .seq its.toArray }, toks := t' } :=
  I.laid (fun _ _ q => Heap.get?_push_of_some _ q) (Nat.le_refl _) ⟨Heap.get?_push_size _ rfl, hz, its, hv, ⟨_, Heap.get?_push_size _ rfl, rfl, _, rfl⟩⟩
/-- what comes of it -/
theorem ep_newT {its : List Value} {vs : List V} {ws : List Dt} {Q : KW} {Q' : VK} {H0 : Hp} {t' : Nat} (I : Inv X pins σ H s) (hv : Vals vs its) (hz : vs.length ≤ sizeLine) (P0 : Pers H0 H) (d : IsDs X.K X.mg H vs ws) (o : Own X.K X.mg Fm O H) (q : Q (.tup ws) O)
    (k : ∀ v H', LQ X.K X.mg Fm H0 Q v H' → Q' v H') : EP X pins σ Q' (.ref s.heap.objs.size) { s with heap := s.heap.push { cls := .type "tuple", data := .seq its.toArray }, toks := t' } := by
  have np : H s.heap.objs.size = none := I.fresh
  refine ⟨.ref _, _, Inv.tnew (t' := t') I hv hz, rfl, k _ _ ?_⟩
  have P2 : Pers H (upd H s.heap.objs.size (.frz { cls := .type "tuple", data := .seq its.toArray } (.tup vs))) := Pers.new np
  exact ⟨.tup ws, O, P0.trans P2, .tup (.inl ⟨_, upd_same, rfl⟩) (d.pers P2), o.laid np, q⟩
end

/-! ### data as the library's PyData -/
mutual
inductive PD (O : OW) : Dt → PyData → Prop where
  | non : PD O .non .none
  | bl (b : Bool) : PD O (.bl b) (.bool b)
  | int (i : Int) : PD O (.int i) (.int i)
  | str (s : Str) : PD O (.str s) (.str s)
  | tup {ws : List Dt} {ds : List PyData} : PDs O ws ds → PD O (.tup ws) (.tuple ds)
  | lst {ws : List Dt} {ds : List PyData} : PDs O ws ds → PD O (.lst ws) (.list ds)
  | own {a : Addr} {ws : List Dt} {ds : List PyData} : O a = some (.lst ws) → PDs O ws ds → PD O (.ref a) (.list ds)
  | dct0 : PD O (.dct []) (.dict [])
inductive PDs (O : OW) : List Dt → List PyData → Prop where
  | nil : PDs O [] []
  | cons {w : Dt} {ws : List Dt} {d : PyData} {ds : List PyData} : PD O w d → PDs O ws ds → PDs O (w :: ws) (d :: ds)
end
mutual
def pd : Dt → PyData
  | .non => .none | .bl b => .bool b | .int i => .int i | .str s => .str s
  | .tup ws => .tuple (pds ws) | .lst ws => .list (pds ws) | .scr _ => .none | .dct _ => .dict []
  | .ref _ => .none | .ty _ => .none | .exc _ _ => .none
def pds : List Dt → List PyData
  | [] => []
  | w :: ws => pd w :: pds ws
end
mutual
/-- made of None, bools, ints, texts, tuples, frozen lists, {} alone -/
def pure? : Dt → Bool
  | .non => true | .bl _ => true | .int _ => true | .str _ => true
  | .tup ws => pures? ws | .lst ws => pures? ws | .dct kvs => kvs.isEmpty
  | .scr _ => false | .ref _ => false | .ty _ => false | .exc _ _ => false
def pures? : List Dt → Bool
  | [] => true
  | w :: ws => pure? w && pures? ws
end
mutual
theorem PD.of_pure (O : OW) : ∀ (w : Dt), pure? w = true → PD O w (pd w)
  | .non, _ => by unfold pd; exact .non
  | .bl b, _ => by unfold pd; exact .bl b
  | .int i, _ => by unfold pd; exact .int i
  | .str s, _ => by unfold pd; exact .str s
  | .tup ws, h => by unfold pd; exact .tup (PDs.of_pure O ws (by unfold pure? at h; exact h))
  | .lst ws, h => by unfold pd; exact .lst (PDs.of_pure O ws (by unfold pure? at h; exact h))
  | .dct [], _ => by unfold pd; exact .dct0
  | .dct (_ :: _), h => by unfold pure? at h; cases h
  | .scr _, h => by unfold pure? at h; cases h
  | .ref _, h => by unfold pure? at h; cases h
  | .ty _, h => by unfold pure? at h; cases h
  | .exc _ _, h => by unfold pure? at h; cases h
theorem PDs.of_pure (O : OW) : ∀ (ws : List Dt), pures? ws = true → PDs O ws (pds ws)
  | [], _ => by unfold pds; exact .nil
  | w :: ws, h => by
    unfold pures? at h
    rw [Bool.and_eq_true] at h
    unfold pds
    exact .cons (PD.of_pure O w h.1) (PDs.of_pure O ws h.2)
end
section
variable {K : PySem.W.Frag} {mg : Str → Option Value} {Fm H : Hp} {O : OW}
mutual
theorem PD.dp (o : Own K mg Fm O H) : ∀ {w : Dt} {d : PyData} {v : V}, PD O w d → d.canLay0 = true → IsD K mg H v w → Dp K H v d
  | _, _, _, .non, _, h => by cases h; exact .non
  | _, _, _, .bl b, _, h => by cases h; exact .bl b
  | _, _, _, .int i, _, h => by cases h; exact .int i
  | _, _, _, .str s, _, h => by cases h; exact .str s
  | _, _, _, .tup t, c, h => by cases h with | tup h1 h2 => exact .tup h1.tup (PDs.dp o t (by simpa [PyData.canLay0] using c) h2)
  | _, _, _, .lst t, c, h => by cases h with | lst h1 h2 => exact .lst (.inl h1.rd) (PDs.dp o t (by simpa [PyData.canLay0] using c) h2)
  | _, _, _, .own (a := a) e t, c, h => by
    cases h with
    | ref _ =>
      obtain ⟨vs, h1, h2⟩ := o.at_ a _ e
      exact .lst (.inl (.inl h1)) (PDs.dp o t (by simpa [PyData.canLay0] using c) h2)
  | _, _, _, .dct0, c, _ => by simp [PyData.canLay0] at c
theorem PDs.dp (o : Own K mg Fm O H) : ∀ {ws : List Dt} {ds : List PyData} {vs : List V}, PDs O ws ds → PyData.canLayAll0 ds = true → IsDs K mg H vs ws → DpAll K H vs ds
  | _, _, _, .nil, _, h => by cases h; exact .nil
  | _, _, _, .cons p t, c, h => by
    cases h with
    | cons h1 h2 =>
      rw [PyData.canLayAll0, Bool.and_eq_true] at c
      exact .cons (PD.dp o p c.1 h1) (PDs.dp o t c.2 h2)
end
end

/-! ### operators by data -/
abbrev RW2 := Dt → Dt → OW → KW → Prop
def OpW (X : Cx) (f : Value → Value → Sem Value) (r : RW2) : Prop :=
  ∀ (Fm : Hp) (pins : List (Addr × Obj)) (s : Shared) (σ : St) (H : Hp) (xv yv : V) (u1 u2 : Value) (x y : Dt) (O : OW) (Q : KW) (Q' : VK), Inv X pins σ H s → RelV xv u1 → RelV yv u2 → IsD X.K X.mg H xv x → IsD X.K X.mg H yv y → Own X.K X.mg Fm O H →
    r x y O Q → (∀ v H', LQ X.K X.mg Fm H Q v H' → Q' v H') → wpAny (model X.prog X.w) X.A (f u1 u2) (EP X pins σ Q') X.xe s
/-- by a rule of the layer below -/
theorem OpW.of {X : Cx} {f : Value → Value → Sem Value} {rH : R2} {r : RW2} (ho : OpR X f rH)
    (h : ∀ (Fm H : Hp) (xv yv : V) (x y : Dt) (O : OW) (Q : KW) (Q' : VK), IsD X.K X.mg H xv x → IsD X.K X.mg H yv y → Own X.K X.mg Fm O H → r x y O Q → (∀ v H', LQ X.K X.mg Fm H Q v H' → Q' v H') → rH xv yv H Q') : OpW X f r :=
  fun Fm pins s σ H xv yv u1 u2 x y O Q Q' I r1 r2 d1 d2 o q k => ho pins s σ H xv yv u1 u2 Q' I r1 r2 (h Fm H xv yv x y O Q Q' d1 d2 o q k)
theorem OpW.or {X : Cx} {f : Value → Value → Sem Value} {r1 r2 r : RW2} (h1 : OpW X f r1) (h2 : OpW X f r2) (h : ∀ x y O Q, r x y O Q → r1 x y O Q ∨ r2 x y O Q) : OpW X f r :=
  fun Fm pins s σ H xv yv u1 u2 x y O Q Q' I a b d1 d2 o q k => (h x y O Q q).elim (fun q => h1 Fm pins s σ H xv yv u1 u2 x y O Q Q' I a b d1 d2 o q k) (fun q => h2 Fm pins s σ H xv yv u1 u2 x y O Q Q' I a b d1 d2 o q k)

/-- both ints -/
def ii (C : Int → Int → Prop) (g : Int → Int → Dt) : RW2 := fun x y O Q => match x, y with
  | .int i, .int j => C i j ∧ Q (g i j) O
  | _, _ => False
theorem ii_of {X : Cx} {f : Value → Value → Sem Value} {C : Int → Int → Prop} {g : Int → Int → Int} (h : OpR X f (rI C fun i j => .int (g i j))) : OpW X f (ii C fun i j => .int (g i j)) :=
  OpW.of h fun Fm H xv yv x y O Q Q' d1 d2 o q k => by
    unfold ii at q
    split at q
    · rw [d1.of_int, d2.of_int]
      exact ⟨_, _, rfl, rfl, q.1, k _ _ (LQ.mk (.int _) o q.2)⟩
    · exact q.elim
theorem iib_of {X : Cx} {f : Value → Value → Sem Value} {g : Int → Int → Bool} (h : OpR X f (rI0 fun i j => .bl (g i j))) : OpW X f (ii (fun _ _ => True) fun i j => .bl (g i j)) :=
  OpW.of h fun Fm H xv yv x y O Q Q' d1 d2 o q k => by
    unfold ii at q
    split at q
    · rw [d1.of_int, d2.of_int]
      exact ⟨_, _, rfl, rfl, k _ _ (LQ.mk (.bl _) o q.2)⟩
    · exact q.elim

inductive BOp where | add | sub | mul | mod | fdiv | pow
def BOp.op : BOp → Operator | .add => .Add | .sub => .Sub | .mul => .Mult | .mod => .Mod | .fdiv => .FloorDiv | .pow => .Pow

/-- x + y -/
def addW (fz : Bool) (x y : Dt) (O : OW) (Q : KW) : Prop := match x, y with
  | .int i, .int j => Q (.int (i + j)) O
  | .str a, .str b => a.length + b.length ≤ LIM ∧ Q (.str (a ++ b)) O
  | .tup a, .tup b => a.length + b.length ≤ LIM ∧ Q (.tup (a ++ b)) O
  | .lst a, .lst b => a.length + b.length ≤ LIM ∧ newL fz (a ++ b) O Q
  | x, y => ∃ a b, asL O x = some a ∧ asL O y = some b ∧ a.length + b.length ≤ LIM ∧ newL fz (a ++ b) O Q
/-- x * y -/
def mulW (fz : Bool) (x y : Dt) (O : OW) (Q : KW) : Prop := match x, y with
  | .int i, .int j => (Small i ∧ Small j) ∧ Q (.int (i * j)) O
  | .str a, .int k => (2 ≤ k ∧ 0 < a.length ∧ a.length * k.toNat ≤ LIM) ∧ Q (.str ⟨(List.replicate k.toNat a.cps).foldl (· ++ ·) #[]⟩) O
  | .tup a, .int k => (a ≠ [] ∧ 2 ≤ k ∧ k ≤ 1000 ∧ a.length ≤ 1000) ∧ Q (.tup (List.replicate k.toNat a).flatten) O
  | .lst a, .int k => (a.length * k.toNat ≤ LIM ∧ -(2 ^ 62) ≤ k ∧ k < 2 ^ 62) ∧ newL fz (List.replicate k.toNat a).flatten O Q
  | _, _ => False
def binW (op : BOp) (fz : Bool) (x y : Dt) (O : OW) (Q : KW) : Prop := match op with
  | .add => addW fz x y O Q
  | .sub => ii (fun _ _ => True) (fun i j => .int (i - j)) x y O Q
  | .mul => mulW fz x y O Q
  | .mod => ii (fun _ j => 0 < j) (fun i j => .int (i % j)) x y O Q
  | .fdiv => ii (fun _ j => 0 < j ∧ Small j) (fun i j => .int (i / j)) x y O Q
  | .pow => ii (fun i j => (0 ≤ j ∧ j ≤ 100) ∧ Small i) (fun i j => .int (i ^ j.toNat)) x y O Q

section
variable {X : Cx}
theorem OpR.imp {f : Value → Value → Sem Value} {r r' : R2} (h : OpR X f r) (i : ∀ x y H Q, r' x y H Q → r x y H Q) : OpR X f r' := fun pins s σ H x y v u Q I a b q => h pins s σ H x y v u Q I a b (i _ _ _ _ q)
theorem cat_any {pins : List (Addr × Obj)} {s : Shared} {σ : L2.St} {H : Hp} {a b : Addr} {xs ys : List V} {Q : VK} (I : Inv X pins σ H s) (ha : Rd H a (.lst xs)) (hb : Rd H b (.lst ys)) (hz : xs.length + ys.length ≤ sizeLine)
    (q : ∀ (p : Addr) (s' : Shared), H p = none → Inv X pins σ (upd H p (.lst (xs ++ ys))) s' → EP X pins σ Q (.ref p) s') : wpAny (model X.prog X.w) X.A (binaryOp .Add (.ref a) (.ref b)) (EP X pins σ Q) X.xe s := by
  obtain ⟨z, its, n, r, e⟩ := ha.ok I.hok
  obtain ⟨z2, its2, n2, r2, e2⟩ := hb.ok I.hok
  have l1 := r.length
  have l2 := r2.length
  refine PySem.P.add_list e e2 ?_ (by rw [List.size_toArray, List.size_toArray]; omega)
  have ea : its.toArray ++ its2.toArray = (its ++ its2).toArray := by simp
  rw [ea]
  exact q _ _ I.fresh (I.lnew (t' := s.toks) (r.append r2) (by rw [List.length_append]; omega))

theorem rep_any {pins : List (Addr × Obj)} {s : Shared} {σ : L2.St} {H : Hp} {a : Addr} {xs : List V} {k : Int} {t : Tok} {Q : VK} (I : Inv X pins σ H s) (ha : Rd H a (.lst xs)) (h1 : -(2 ^ 63) ≤ k) (h2 : k < 2 ^ 63) (hz : xs.length * k.toNat ≤ sizeLine)
    (q : ∀ (p : Addr) (s' : Shared), H p = none → Inv X pins σ (upd H p (.lst (List.replicate k.toNat xs).flatten)) s' → EP X pins σ Q (.ref p) s') : wpAny (model X.prog X.w) X.A (binaryOp .Mult (.ref a) (.int k t)) (EP X pins σ Q) X.xe s := by
  obtain ⟨z, its, n, r, e⟩ := ha.ok I.hok
  have hl := r.length
  have hlen : its.toArray.size * k.toNat ≤ sizeLine := by rw [List.size_toArray, ← hl]; exact hz
  have hcap : ¬ its.toArray.size * k.toNat > (2 ^ 63 - 1) / 8 := by
    have : (sizeLine : Nat) ≤ (2 ^ 63 - 1) / 8 := by decide
    omega
  have hfit : ¬ (!Builtin.List.listFitsIndex k) = true := by
    rw [fitsIndex_both h1 h2]
    exact Bool.false_ne_true
  have hlong : ¬ Builtin.List.listTooLong (its.toArray.size * k.toNat) = true := by
    rw [notLongL hlen]
    exact Bool.false_ne_true
  have hnew : List.foldl (fun x1 x2 => x1 ++ x2) #[] (List.replicate (if its.toArray.isEmpty = true then 0 else k.toNat) its.toArray) = (List.replicate k.toNat its).flatten.toArray := by
    have f0 : ∀ m : Nat, List.foldl (fun x1 x2 => x1 ++ x2) #[] (List.replicate m its.toArray) = (List.replicate m its).flatten.toArray := fun m => by
      have := foldl_rep its m []
      rw [List.nil_append] at this
      exact this
    rw [f0]
    cases its with
    | nil => simp
    | cons a r' => rw [if_neg (by simp)]
  refine wpAny_binaryOp_repeat_ref (T := "list") (U := "int") (by decide) ⟨_, e, rfl⟩ (fun s' => typeIs_int s' k t) noFill_list_mul F.fills_int_mul F.slot_int_rmul repeat_list F.slot_int_index.lookup
    (call_meets F.slot_int_rmul (typeIs_int s k t) F.entry_int_rmul (F.args_int_rmul_2 _ _) (int___rmul___int_list k t a its.toArray n)
      ⟨e, rfl, ⟨_, e, rfl⟩, call_meets F.slot_list_mul ⟨_, e, rfl⟩ F.entry_list_mul (F.args_list_mul_2 _ _) (AutoListH.list___mul___list_int_3 a its.toArray n k t hfit hcap hlong) ⟨e, ?_⟩⟩)
  rw [hnew]
  exact q _ _ I.fresh (I.lnew (t' := s.toks) (r.rep k.toNat) (by rw [PyProof.Rows.lm_len_rep_flat, Nat.mul_comm]; exact hz))

theorem IsDs.rep {K : PySem.W.Frag} {mg : Str → Option Value} {H : Hp} {vs : List V} {ws : List Dt} (h : IsDs K mg H vs ws) : ∀ n : Nat, IsDs K mg H (List.replicate n vs).flatten (List.replicate n ws).flatten
  | 0 => .nil
  | n + 1 => by rw [List.replicate_succ, List.replicate_succ, List.flatten_cons, List.flatten_cons]; exact h.append (h.rep n)

theorem lists_add {fz : Bool} {x y : Dt} {a b : List Dt} {pins : List (Addr × Obj)} {s : Shared} {σ : L2.St} {H : Hp} {xv yv : V} {u1 u2 : Value} {Fm : Hp} {O : OW} {Q : KW} {Q' : VK} (I : Inv X pins σ H s) (r1 : RelV xv u1) (r2 : RelV yv u2) (d1 : IsD X.K X.mg H xv x) (d2 : IsD X.K X.mg H yv y)
    (o : Own X.K X.mg Fm O H) (ea : asL O x = some a) (eb : asL O y = some b) (hz : a.length + b.length ≤ LIM) (q : newL fz (a ++ b) O Q) (k : ∀ v H', LQ X.K X.mg Fm H Q v H' → Q' v H') : wpAny (model X.prog X.w) X.A (binaryOp .Add u1 u2) (EP X pins σ Q') X.xe s := by
  obtain ⟨p1, v1, e1, h1, t1⟩ := asL_rd d1 o ea
  obtain ⟨p2, v2, e2, h2, t2⟩ := asL_rd d2 o eb
  subst e1 e2
  cases r1
  cases r2
  refine cat_any I h1 h2 (by rw [t1.length, t2.length, lim_eq]; exact hz) fun p s' np I' => ?_
  exact ep_newL np (Pers.refl H) I' (t1.append t2) o q k
theorem rep_tup {a : Addr} {vs : List V} {ws : List Dt} {n : Int} {t : Tok} {pins : List (Addr × Obj)} {s : Shared} {σ : L2.St} {Fm H : Hp} {O : OW} {Q : KW} {Q' : VK} (I : Inv X pins σ H s) (h : SqT X.K H a vs) (d : IsDs X.K X.mg H vs ws) (o : Own X.K X.mg Fm O H)
    (hne : ws ≠ []) (k1 : 2 ≤ n) (k2 : n ≤ 1000) (hz : ws.length ≤ 1000) (q : Q (.tup (List.replicate n.toNat ws).flatten) O) (k : ∀ v H', LQ X.K X.mg Fm H Q v H' → Q' v H') : wpAny (model X.prog X.w) X.A (binaryOp .Mult (.ref a) (.int n t)) (EP X pins σ Q') X.xe s := by
  obtain ⟨its, r, p1, _⟩ := I.tuple h
  obtain ⟨⟨cls, dd, data, sl⟩, ho, hc, m, hd⟩ := id p1
  simp only at hc hd
  subst hc hd
  have hle : its.length = ws.length := by rw [← r.length, d.length]
  have hi : its.toArray.isEmpty = false := by
    cases its with
    | nil => exact absurd (List.length_eq_zero_iff.mp hle.symm) hne
    | cons a b => rfl
  have hsz0 : its.toArray.size = ws.length := by rw [List.size_toArray, hle]
  have hm : ((its.toArray.size : Nat) : Int) * n ≤ 1000000 := by
    rw [hsz0]
    have a1 : ((ws.length : Nat) : Int) * n ≤ 1000 * n := Int.mul_le_mul_of_nonneg_right (by omega) (by omega)
    omega
  have flen : (List.replicate n.toNat its).flatten.length ≤ sizeLine := by
    rw [PyProof.Rows.lm_len_rep_flat, hle, lim_eq]
    have a1 : n.toNat * ws.length ≤ 1000 * 1000 := Nat.mul_le_mul (by omega) hz
    exact Nat.le_trans a1 (by decide)
  have c0 : (decide (n < -(2 ^ 63)) || decide (n ≥ 2 ^ 63)) = false := by
    rw [decide_eq_false (by omega), decide_eq_false (by omega)] <;> rfl
  have c1 : (its.toArray.isEmpty || n == 1) = false := by
    rw [hi, Bool.false_or]
    exact beq_eq_false_iff_ne.mpr (by omega)
  have c2 : (decide (n ≤ 0) || its.toArray.isEmpty) = false := by
    rw [hi, Bool.or_false]
    exact decide_eq_false (by omega)
  have c4 : Builtin.Tuple.tupleTooMany (((its.toArray.size : Nat) : Int) * n) = false := by
    unfold Builtin.Tuple.tupleTooMany
    rw [sizeLine_eq]
    exact decide_eq_false (by omega)
  refine wpAny_binaryOp_repeat_ref (T := "tuple") (U := "int") (by decide) ⟨_, ho, rfl⟩ (fun s' => typeIs_int s' n t) noFill_tuple_mul F.fills_int_mul F.slot_int_rmul repeat_tuple F.slot_int_index.lookup
    (call_meets F.slot_int_rmul (typeIs_int s n t) F.entry_int_rmul (F.args_int_rmul_2 _ _) (int_rmul_tuple n t a its.toArray m dd sl)
      ⟨ho, rfl, ⟨_, ho, rfl⟩, call_meets F.slot_tuple_mul ⟨_, ho, rfl⟩ F.entry_tuple_mul (F.args_tuple_mul_2 _ _) (tuple_mulW a its.toArray m dd sl n t c0 c1 c2 (by omega) c4 (by rw [size_rep, List.size_toArray]; exact flen)) ⟨ho, ?_⟩⟩)
  rw [size_rep]
  refine ep_newT (t' := s.toks) I (r.rep n.toNat) ?_ (Pers.refl H) (d.rep _) o q k
  rw [← List.map_id' (List.replicate n.toNat vs).flatten, List.length_map, PyProof.Rows.lm_len_rep_flat, d.length, lim_eq]
  have a1 : n.toNat * ws.length ≤ 1000 * 1000 := Nat.mul_le_mul (by omega) hz
  exact Nat.le_trans a1 (by decide)
theorem add_ok (fz : Bool) : OpW X (binaryOp .Add) (addW fz) := by
  intro Fm pins s σ H xv yv u1 u2 x y O Q Q' I r1 r2 d1 d2 o q k
  unfold addW at q
  split at q
  · rename_i i j
    rw [d1.of_int] at r1; rw [d2.of_int] at r2
    exact op_add pins s σ H _ _ u1 u2 Q' I r1 r2 ⟨_, _, rfl, rfl, k _ _ (LQ.mk (.int _) o q)⟩
  · rename_i i j
    rw [d1.of_str] at r1; rw [d2.of_str] at r2
    exact op_add_str pins s σ H _ _ u1 u2 Q' I r1 r2 ⟨_, _, rfl, rfl, by rw [lim_eq]; exact q.1, k _ _ (LQ.mk (.str _) o q.2)⟩
  · rename_i a b
    cases d1 with
    | tup h1 t1 =>
      cases d2 with
      | tup h2 t2 =>
        cases r1
        cases r2
        obtain ⟨its, r1, p1, _⟩ := I.tuple h1.tup
        obtain ⟨its2, r2, p2, _⟩ := I.tuple h2.tup
        have hz : its.length + its2.length ≤ sizeLine := by rw [← r1.length, ← r2.length, t1.length, t2.length, lim_eq]; exact q.1
        by_cases hx : its = []
        · subst hx
          cases r1
          cases t1
          exact cat_tup0 p1 p2 ⟨.ref _, H, I, rfl, k _ _ (LQ.mk (.tup h2 t2) o q.2)⟩
        · refine HT.cat_tup p1 p2 hx (fun z => ?_) (fun z => ?_) hz
          · subst z
            cases r2
            cases t2
            have q2 := q.2
            rw [List.append_nil] at q2
            exact ⟨.ref _, H, I, rfl, k _ _ (LQ.mk (.tup h1 t1) o q2)⟩
          · exact ep_newT (t' := s.toks) I (r1.append r2) (by rw [List.length_append, r1.length, r2.length]; exact hz) (Pers.refl H) (t1.append t2) o q.2 k
  · exact lists_add I r1 r2 d1 d2 o rfl rfl q.1 q.2 k
  · obtain ⟨a, b, ea, eb, hz, q⟩ := q
    exact lists_add I r1 r2 d1 d2 o ea eb hz q k
theorem mul_ok (fz : Bool) : OpW X (binaryOp .Mult) (mulW fz) := by
  intro Fm pins s σ H xv yv u1 u2 x y O Q Q' I r1 r2 d1 d2 o q k
  unfold mulW at q
  split at q
  · rw [d1.of_int] at r1; rw [d2.of_int] at r2
    refine op_mulW pins s σ H _ _ u1 u2 Q' I r1 r2 ⟨_, _, rfl, rfl, ?_, k _ _ (LQ.mk (.int _) o q.2)⟩
    have h1 := q.1.1.log
    have h2 := q.1.2.log
    unfold CMulW
    omega
  · rename_i a n
    rw [d1.of_str] at r1; rw [d2.of_int] at r2
    obtain ⟨t, rfl⟩ := r1
    obtain ⟨t', rfl⟩ := r2
    obtain ⟨⟨h0, h2, h1⟩, q⟩ := q
    have hn : a.length * n.toNat ≤ LIM := h1
    have hk : n ≤ (16777216 : Int) := by
      have h3 : n.toNat ≤ a.length * n.toNat := Nat.le_mul_of_pos_left _ h2
      have h4 : n.toNat ≤ 16777216 := Nat.le_trans h3 hn
      omega
    have hc : (n == 1 || a.length == 0) = false := by
      rw [Bool.or_eq_false_iff]
      exact ⟨beq_eq_false_iff_ne.mpr (by omega), beq_eq_false_iff_ne.mpr (by omega)⟩
    refine PySem.P.mul_str (by rw [decide_eq_false (by omega), decide_eq_false (by omega)]; rfl) (fun _ _ => ?_) (fun _ _ => ?_) ?_
    · intro hgt
      have h3 : (a.length : Int) * n ≤ 16777216 := by
        have e : (n.toNat : Int) = n := Int.toNat_of_nonneg (by omega)
        rw [← e, ← Int.natCast_mul]
        exact Int.ofNat_le.mpr hn
      have h5 : (2 ^ 63 - 1 : Int) < (2 ^ 63 - 1) / n * n + n := by
        have := Int.lt_ediv_add_one_mul_self (2 ^ 63 - 1 : Int) (show 0 < n by omega)
        rw [Int.add_mul, Int.one_mul] at this
        exact this
      have h6 : ((2 ^ 63 - 1 : Int) / n + 1) * n ≤ (a.length : Int) * n := Int.mul_le_mul_of_nonneg_right (by omega) (by omega)
      rw [Int.add_mul, Int.one_mul] at h6
      omega
    · show decide (a.length * n.toNat > sizeLine) = false
      rw [lim_eq]
      exact decide_eq_false (by omega)
    · rw [if_neg (by omega), if_neg (by rw [hc]; exact Bool.false_ne_true)]
      refine ⟨?_, k _ _ (LQ.mk (.str _) o q) |> fun z => ⟨.str _, H, I.tok _, ⟨_, rfl⟩, z⟩⟩
      rw [lim_eq]
      show ((List.replicate n.toNat a.cps).foldl (· ++ ·) #[]).size ≤ LIM
      have e : ∀ (m : Nat) (acc : Array Nat), ((List.replicate m a.cps).foldl (· ++ ·) acc).size = acc.size + a.cps.size * m := by
        intro m
        induction m with
        | zero => intro acc; simp
        | succ m ih => intro acc; rw [List.replicate_succ, List.foldl_cons, ih, Array.size_append, Nat.mul_succ]; omega
      rw [e]
      show 0 + a.cps.size * n.toNat ≤ LIM
      rw [Nat.zero_add]
      exact hn
  · rename_i a n
    rw [d2.of_int] at r2
    cases d1 with
    | tup h1 t1 =>
      obtain ⟨⟨hne, k1, k2, hl⟩, q⟩ := q
      cases r1
      obtain ⟨t, rfl⟩ := r2
      exact rep_tup I h1.tup t1 o hne k1 k2 hl q k
  · rename_i a n
    rw [d2.of_int] at r2
    obtain ⟨t, rfl⟩ := r2
    obtain ⟨⟨hz, k1, k2⟩, q⟩ := q
    cases d1 with
    | lst h1 t1 =>
      cases r1
      refine rep_any I h1.rd (by omega) (by omega) (by rw [t1.length, lim_eq]; exact hz) fun p s' np I' => ?_
      exact ep_newL np (Pers.refl H) I' (t1.rep _) o q k
  · exact q.elim

theorem bin_ok (op : BOp) (fz : Bool) : OpW X (binaryOp op.op) (binW op fz) := by
  cases op with
  | add => exact add_ok fz
  | sub => exact ii_of (C := fun _ _ => True) (OpR.imp op_sub fun x y H Q h => let ⟨i, j, a, b, _, q⟩ := h; ⟨i, j, a, b, q⟩)
  | mul => exact mul_ok fz
  | mod => exact ii_of op_mod
  | fdiv => exact ii_of (OpR.imp op_fdivW fun x y H Q h => let ⟨i, j, a, b, c, q⟩ := h; ⟨i, j, a, b, ⟨c.1, Nat.lt_of_lt_of_le c.2.log (by decide)⟩, q⟩)
  | pow =>
    refine ii_of (g := fun i j => i ^ j.toNat) (opI fun i j t u s Q E hc q => ?_)
    refine PyProof.Rows.pow_int hc.1.1 ?_ q
    have h1 : i.natAbs.log2 < 1000 := hc.2.log
    have h2 : Builtin.Int.intBits i ≤ i.natAbs.log2 + 1 := by
      unfold Builtin.Int.intBits
      split <;> omega
    have h3 : ((Builtin.Int.intBits i : Nat) : Int) * j ≤ 1000 * 100 := Int.mul_le_mul (by omega) hc.1.2 hc.1.1 (by decide)
    omega
end
end TF

/-! TF3: comparisons by data; expressions lifted -/
namespace TF
open PySem PySem.Spec L2

/-- == -/
def eqW (x y : Dt) (O : OW) (k : Bool → Prop) : Prop := match x, y with
  | .int i, .int j => k (decide (i = j))
  | .str a, .str b => k (decide (a = b))
  | .bl a, .bl b => k (decide (a = b))
  | .non, .non => k true
  | x, y => ∃ d e, PD O x d ∧ PD O y e ∧ SeqAt.shaped d = true ∧ SeqAt.shaped e = true ∧ k (PyData.eqv d e)
/-- in -/
def inW (x y : Dt) (O : OW) (k : Bool → Prop) : Prop := match x, y with
  | .str s, .str t => match s.cps.toList with
    | [c] => k (decide (c ∈ t.cps.toList))
    | _ => k (!(Builtin.Str.occurrences t s 0 t.length 1).isEmpty)
  | x, y => ∃ d ws ds, PD O x d ∧ asQ O y = some ws ∧ PDs O ws ds ∧ SeqAt.shaped d = true ∧ SeqAt.shaped (.list ds) = true ∧ k (ds.any fun z => PyData.eqv z d)
inductive COp where | eq | ne | lt | le | gt | ge | inn | nin
def COp.op : COp → CmpOp | .eq => .Eq | .ne => .NotEq | .lt => .Lt | .le => .LtE | .gt => .Gt | .ge => .GtE | .inn => .In | .nin => .NotIn
def cmpW (op : COp) (x y : Dt) (O : OW) (Q : KW) : Prop := match op with
  | .eq => eqW x y O fun b => Q (.bl b) O
  | .ne => eqW x y O fun b => Q (.bl (!b)) O
  | .lt => ii (fun _ _ => True) (fun i j => .bl (decide (i < j))) x y O Q
  | .le => ii (fun _ _ => True) (fun i j => .bl (decide (i ≤ j))) x y O Q
  | .gt => ii (fun _ _ => True) (fun i j => .bl (decide (j < i))) x y O Q
  | .ge => ii (fun _ _ => True) (fun i j => .bl (decide (j ≤ i))) x y O Q
  | .inn => inW x y O fun b => Q (.bl b) O
  | .nin => inW x y O fun b => Q (.bl (!b)) O

section
variable {X : Cx}
theorem eq_ok (hu : X.A.units + 64 < cLine) (neg : Bool) : OpW X (compareOp (if neg then .NotEq else .Eq)) (fun x y O Q => eqW x y O fun b => Q (.bl (if neg then !b else b)) O) := by
  intro Fm pins s σ H xv yv u1 u2 x y O Q Q' I r1 r2 d1 d2 o q k
  have flat : ∀ (b : Bool), (decide (xv = yv) = b) → L2.OpR X (compareOp (if neg then .NotEq else .Eq)) (if neg then rNe else rEq) → True := fun _ _ _ => trivial
  unfold eqW at q
  split at q
  · rw [d1.of_int] at r1; rw [d2.of_int] at r2
    cases neg
    · refine op_eq pins s σ H _ _ u1 u2 Q' I r1 r2 ⟨rfl, k _ _ ?_⟩
      exact LQ.mk (.bl _) o (by simpa using q)
    · refine op_ne pins s σ H _ _ u1 u2 Q' I r1 r2 ⟨rfl, k _ _ ?_⟩
      exact LQ.mk (.bl _) o (by simpa using q)
  · rw [d1.of_str] at r1; rw [d2.of_str] at r2
    cases neg
    · refine op_eq pins s σ H _ _ u1 u2 Q' I r1 r2 ⟨rfl, k _ _ ?_⟩
      exact LQ.mk (.bl _) o (by simpa using q)
    · refine op_ne pins s σ H _ _ u1 u2 Q' I r1 r2 ⟨rfl, k _ _ ?_⟩
      exact LQ.mk (.bl _) o (by simpa using q)
  · rw [d1.of_bl] at r1; rw [d2.of_bl] at r2
    cases neg
    · refine op_eq pins s σ H _ _ u1 u2 Q' I r1 r2 ⟨rfl, k _ _ ?_⟩
      exact LQ.mk (.bl _) o (by simpa using q)
    · refine op_ne pins s σ H _ _ u1 u2 Q' I r1 r2 ⟨rfl, k _ _ ?_⟩
      exact LQ.mk (.bl _) o (by simpa using q)
  · rw [d1.of_non] at r1; rw [d2.of_non] at r2
    cases neg
    · refine op_eq pins s σ H _ _ u1 u2 Q' I r1 r2 ⟨rfl, k _ _ ?_⟩
      exact LQ.mk (.bl _) o (by simpa using q)
    · refine op_ne pins s σ H _ _ u1 u2 Q' I r1 r2 ⟨rfl, k _ _ ?_⟩
      exact LQ.mk (.bl _) o (by simpa using q)
  · obtain ⟨d, e, pd1, pd2, s1, s2, q⟩ := q
    have a1 := pd1.dp o (SeqAt.canLay_of_shaped s1) d1
    have a2 := pd2.dp o (SeqAt.canLay_of_shaped s2) d2
    cases neg
    · exact op_eqD hu pins s σ H _ _ u1 u2 Q' I r1 r2 ⟨d, e, a1, a2, s1, s2, k _ _ (LQ.mk (.bl _) o q)⟩
    · exact op_neD hu pins s σ H _ _ u1 u2 Q' I r1 r2 ⟨d, e, a1, a2, s1, s2, k _ _ (LQ.mk (.bl _) o q)⟩
theorem in_ok (hu : X.A.units + 65 < cLine) (neg : Bool) : OpW X (compareOp (if neg then .NotIn else .In)) (fun x y O Q => inW x y O fun b => Q (.bl (if neg then !b else b)) O) := by
  intro Fm pins s σ H xv yv u1 u2 x y O Q Q' I r1 r2 d1 d2 o q k
  unfold inW at q
  split at q
  · rename_i a b
    rw [d1.of_str] at r1; rw [d2.of_str] at r2
    split at q
    · rename_i c e
      have ea : a = ⟨#[c]⟩ := by
        cases a with
        | mk cs => 
          have e' : cs.toList = [c] := e
          congr
          exact Array.toList_inj.mp (by rw [e'])
      rw [ea] at r1
      cases neg
      · exact op_in_sign pins s σ H _ _ u1 u2 Q' I r1 r2 ⟨c, b, rfl, rfl, k _ _ (LQ.mk (.bl _) o q)⟩
      · exact op_notIn_sign pins s σ H _ _ u1 u2 Q' I r1 r2 ⟨c, b, rfl, rfl, k _ _ (LQ.mk (.bl _) o q)⟩
    · cases neg
      · exact op_in_str pins s σ H _ _ u1 u2 Q' I r1 r2 ⟨a, b, rfl, rfl, k _ _ (LQ.mk (.bl _) o q)⟩
      · exact op_notin_str pins s σ H _ _ u1 u2 Q' I r1 r2 ⟨a, b, rfl, rfl, k _ _ (LQ.mk (.bl _) o q)⟩
  · obtain ⟨d, ws, ds, p1, ey, p2, s1, s2, q⟩ := q
    have c2 : PyData.canLayAll0 ds = true := by simpa [PyData.canLay0] using SeqAt.canLay_of_shaped s2
    have c1 := SeqAt.canLay_of_shaped s1
    obtain ⟨as, h1⟩ := Dp.reads I d xv u1 (p1.dp o c1 d1) r1
    obtain ⟨a, vs, e, hq, t⟩ := asQ_rd d2 o ey
    subst e
    cases r2
    have dall : DpAll X.K H vs ds := p2.dp o c2 t
    have room : X.A.units + 1 + min (PyData.depthAll ds) d.depth < cLine := by
      have h := SeqAt.depth_of_shaped s1
      have h2 : min (PyData.depthAll ds) d.depth ≤ d.depth := Nat.min_le_right _ _
      omega
    have fin : ∀ (its : List Value), Vals vs its → ∃ bs, ReadsAll s.heap its ds bs := fun its r => Dp.readsAll I ds vs its dall r
    have anyE : ∀ (its : List Value) (bs : List Addr), ReadsAll s.heap its ds bs → its.toArray.any (fun y => PyData.eqv (SeqAt.readOf s.heap y) d) = ds.any fun z => PyData.eqv z d := by
      intro its bs h4
      have hmap : its.map (SeqAt.readOf s.heap) = ds := SeqAt.readsAll_map ds its bs c2 h4
      rw [show its.toArray.any (fun y => PyData.eqv (SeqAt.readOf s.heap y) d) = its.any (fun y => PyData.eqv (SeqAt.readOf s.heap y) d) by simp, ← hmap, List.any_map]
      rfl
    rcases hq with hq | hq
    · obtain ⟨its, r, pl, hz⟩ := I.list (.inl hq)
      obtain ⟨bs, h4⟩ := fin its r
      have hits := SeqAt.items_eqAt (A := X.A) (vs := its.toArray) (by simpa using h4) h1 c2 c1 room
      cases neg
      · refine SeqAt.in_listAt _ pl.isList hits ?_
        rw [anyE its bs h4]
        exact ⟨.bl _, H, I, rfl, k _ _ (LQ.mk (.bl _) o q)⟩
      · refine SeqAt.notIn_listAt _ pl.isList hits ?_
        rw [anyE its bs h4]
        exact ⟨.bl _, H, I, rfl, k _ _ (LQ.mk (.bl _) o q)⟩
    · obtain ⟨its, r, pl, hz⟩ := I.tuple hq.tup
      obtain ⟨bs, h4⟩ := fin its r
      have hits := SeqAt.items_eqAt (A := X.A) (vs := its.toArray) (by simpa using h4) h1 c2 c1 room
      cases neg
      · refine SeqAt.in_tupleAt _ pl hits ?_
        rw [anyE its bs h4]
        exact ⟨.bl _, H, I, rfl, k _ _ (LQ.mk (.bl _) o q)⟩
      · refine SeqAt.notIn_tupleAt _ pl hits ?_
        rw [anyE its bs h4]
        exact ⟨.bl _, H, I, rfl, k _ _ (LQ.mk (.bl _) o q)⟩
theorem cmp_ok (hu : X.A.units + 65 < cLine) (op : COp) : OpW X (compareOp op.op) (cmpW op) := by
  have bb : ∀ {g : Int → Int → Bool} {f : Value → Value → Sem Value}, OpR X f (rI0 fun i j => .bl (g i j)) → OpW X f (ii (fun _ _ => True) fun i j => .bl (g i j)) := fun h => iib_of h
  cases op with
  | eq => exact eq_ok (by omega) false
  | ne => exact eq_ok (by omega) true
  | lt => exact iib_of op_lt
  | le => exact iib_of op_le
  | gt => exact iib_of op_gt
  | ge => exact iib_of op_ge
  | inn => exact in_ok hu false
  | nin => exact in_ok hu true
end
end TF

/-! TF4: expressions lifted -/
namespace TF
open PySem PySem.Spec L2

/-- a slot's datum -/
def getS : SW → Nat → Option Dt
  | [], _ => none
  | o :: _, 0 => o
  | _ :: τ, n + 1 => getS τ n
theorem getS_eq : ∀ (τ : SW) (i : Nat) (w : Dt), getS τ i = some w → τ[i]? = some (some w)
  | [], _, _, h => by cases h
  | o :: _, 0, w, h => by simpa [getS] using h
  | _ :: τ, n + 1, w, h => by simpa using getS_eq τ n w (by simpa [getS] using h)
def onS (o : Option Dt) (f : Dt → Prop) : Prop := match o with
  | some w => f w
  | none => False
theorem onS_some {w : Dt} {f : Dt → Prop} : onS (some w) f = f w := rfl
def onBl (w : Dt) (f : Bool → Prop) : Prop := match w with
  | .bl b => f b
  | _ => False
theorem onBl_bl {b : Bool} {f : Bool → Prop} : onBl (.bl b) f = f b := rfl

def varW (i : Nat) : TEw := fun _ τ O Q => onS (getS τ i) fun w => Q w O
def cstW (w : Dt) : TEw := fun _ _ O Q => Q w O
def opW (r : RW2) (ta tb : TEw) : TEw := fun Ex τ O Q => ta Ex τ O fun x O1 => tb Ex τ O1 fun y O2 => r x y O2 Q
def chnW (r r' : RW2) (ta tb tc : TEw) : TEw := fun Ex τ O Q => ta Ex τ O fun x O1 => tb Ex τ O1 fun y O2 => r x y O2 fun z O3 => onBl z fun k => if k = true then tc Ex τ O3 fun w O4 => r' y w O4 Q else Q (.bl false) O3
def negW (ta : TEw) : TEw := fun Ex τ O Q => ta Ex τ O fun x O1 => match x with
  | .int i => Q (.int (-i)) O1
  | _ => False
def notW (ta : TEw) : TEw := fun Ex τ O Q => ta Ex τ O fun x O1 => onBl x fun b => Q (.bl (!b)) O1
def andW (ta tb : TEw) : TEw := fun Ex τ O Q => ta Ex τ O fun x O1 => onBl x fun b => if b = true then tb Ex τ O1 Q else Q (.bl false) O1
def orW (ta tb : TEw) : TEw := fun Ex τ O Q => ta Ex τ O fun x O1 => onBl x fun b => if b = true then Q (.bl true) O1 else tb Ex τ O1 Q
def ifeW (tc ta tb : TEw) : TEw := fun Ex τ O Q => tc Ex τ O fun x O1 => onBl x fun b => if b = true then ta Ex τ O1 Q else tb Ex τ O1 Q
/-- a reading as a test -/
def tstW (t : TEw) : TTw := fun Ex τ O Q => t Ex τ O fun x O1 => onBl x fun b => Q b O1
def isN? : Dt → Option Bool
  | .non => some true | .bl _ => some false | .int _ => some false | .str _ => some false | .tup _ => some false | .lst _ => some false | .scr _ => some false | .dct _ => some false | .ref _ => some false | .exc _ _ => some false | .ty _ => some false
def isNW (neg : Bool) (ta : TEw) : TEw := fun Ex τ O Q => ta Ex τ O fun x O1 => match isN? x with
  | some b => Q (.bl (if neg then !b else b)) O1
  | none => False
/-- a subscript -/
def idxW (x y : Dt) (O : OW) (Q : KW) : Prop := match x, y with
  | .str s, .int i => s.length ≤ LIM ∧ (match atI s.cps.toList i with
    | some c => Q (.str ⟨#[c]⟩) O
    | none => False)
  | .scr ws, .int i => onS (atI ws i) fun w => Q w O
  | x, .int i => match asQ O x with
    | some ws => onS (atI ws i) fun w => Q w O
    | none => False
  | _, _ => False
def slcW (fz : Bool) (x : Dt) (lo hi : Option Int) (O : OW) (Q : KW) : Prop := match x with
  | .str s => s.length ≤ LIM ∧ Q (.str (cutS s lo hi)) O
  | .tup ws => Q (.tup ((ws.drop (HT.sIx ws.length 0 lo)).take (HT.sIx ws.length ws.length hi - HT.sIx ws.length 0 lo))) O
  | .scr ws => newL fz ((ws.drop (HT.sIx ws.length 0 lo)).take (HT.sIx ws.length ws.length hi - HT.sIx ws.length 0 lo)) O Q
  | x => match asL O x with
    | some ws => newL fz ((ws.drop (HT.sIx ws.length 0 lo)).take (HT.sIx ws.length ws.length hi - HT.sIx ws.length 0 lo)) O Q
    | none => False
abbrev St' := L2.St
abbrev TOw := XW → SW → OW → (Option Int → OW → Prop) → Prop
def noneO : TOw := fun _ _ O Q => Q none O
def someO (t : TEw) : TOw := fun Ex τ O Q => t Ex τ O fun x O1 => match x with
  | .int i => Q (some i) O1
  | _ => False
def slW (fz : Bool) (ta : TEw) (tl th : TOw) : TEw := fun Ex τ O Q => ta Ex τ O fun x O1 => tl Ex τ O1 fun l O2 => th Ex τ O2 fun h O3 => slcW fz x l h O3 Q
def nilA : TAw := fun _ _ O Q => Q [] O
def consA (ta : TEw) (tr : TAw) : TAw := fun Ex τ O Q => ta Ex τ O fun x O1 => tr Ex τ O1 fun xs O2 => Q (x :: xs) O2
def tupW (t : TAw) : TEw := fun Ex τ O Q => t Ex τ O fun xs O1 => xs.length ≤ LIM ∧ Q (.tup xs) O1
def lstW (fz : Bool) (t : TAw) : TEw := fun Ex τ O Q => t Ex τ O fun xs O1 => xs.length ≤ LIM ∧ newL fz xs O1 Q

section
variable {X : Cx} {a b c : Expr} {es : List Expr} {pos : Pos} {ta tb tc : TEw}
theorem onBl_is {w : Dt} {f : Bool → Prop} (h : onBl w f) : ∃ b, w = .bl b ∧ f b := by
  cases w with
  | bl b => exact ⟨b, rfl, h⟩
  | _ => exact h.elim
theorem we_var {i : Nat} {x : Str} (hN : X.N[i]? = some x) (hv : Vis X.env.scope x) (hd : (x == ("__debug__" : Str)) = false) (hcd : (x == ("__classdict__" : Str)) = false) : WE X (.Name x pos) (varW i) :=
  fun Fm Ex _ => PE.imp (pe_var hN hv hd hcd) fun σ H Q' ⟨τ, O, Q, S, o, h, k⟩ => by
    unfold varW at h
    cases e : getS τ i with
    | none => rw [e] at h; exact h.elim
    | some w =>
      rw [e] at h
      obtain ⟨v, e1, d⟩ := S.2 i w (getS_eq τ i w e)
      exact ⟨v, e1, k _ _ (LQ.mk d o h)⟩
theorem we_cst {e : Expr} {v : V} {w : Dt} (h : PE X e (tC v)) (d : ∀ H, IsD X.K X.mg H v w) : WE X e (cstW w) :=
  fun Fm Ex _ => PE.imp h fun σ H Q' ⟨τ, O, Q, S, o, h, k⟩ => k _ _ (LQ.mk (d H) o h)
theorem we_op {op : Operator} {r : RW2} (ho : OpW X (binaryOp op) r) (ha : WE X a ta) (hb : WE X b tb) : WE X (.BinOp a op b pos) (opW r ta tb) := fun Fm Ex tk => by
  refine ⟨fun pins s σ H Q' I ⟨τ, O, Q, S, o, h, k⟩ => ?_⟩
  refine PySem.wpAny_BinOp (thn ((ha Fm Ex tk).run pins s σ H (fun xv H1 => ∃ x O1, Pers H H1 ∧ Slots X.K X.mg H1 σ τ ∧ IsD X.K X.mg H1 xv x ∧ Own X.K X.mg Fm O1 H1 ∧ tb Ex τ O1 fun y O2 => r x y O2 Q) I (LE.bind S o h fun v w H1 O1 P S1 d o1 q => ⟨w, O1, P, S1, d, o1, q⟩)) fun u1 s1 ⟨xv, H1, I1, r1, x, O1, P1, S1, d1, o1, q1⟩ => ?_)
  refine thn ((hb Fm Ex tk).run pins s1 σ H1 (fun yv H2 => ∃ y O2, Pers H1 H2 ∧ IsD X.K X.mg H2 yv y ∧ Own X.K X.mg Fm O2 H2 ∧ r x y O2 Q) I1 (LE.bind S1 o1 q1 fun v w H2 O2 P S2 d o2 q => ⟨w, O2, P, d, o2, q⟩)) fun u2 s2 ⟨yv, H2, I2, r2, y, O2, P2, d2, o2, q2⟩ => ?_
  exact ho Fm pins s2 σ H2 xv yv u1 u2 x y O2 Q Q' I2 r1 r2 (d1.pers P2) d2 o2 q2 fun v H' z => k v H' (z.trans (P1.trans P2))
theorem we_cmp {op : CmpOp} {r : RW2} (ho : OpW X (compareOp op) r) (ha : WE X a ta) (hb : WE X b tb) (hm : behindInMarks op b = false) : WE X (.Compare a [op] [b] pos) (opW r ta tb) := fun Fm Ex tk => by
  refine ⟨fun pins s σ H Q' I ⟨τ, O, Q, S, o, h, k⟩ => ?_⟩
  refine wpAny_Compare1 (thn ((ha Fm Ex tk).run pins s σ H (fun xv H1 => ∃ x O1, Pers H H1 ∧ Slots X.K X.mg H1 σ τ ∧ IsD X.K X.mg H1 xv x ∧ Own X.K X.mg Fm O1 H1 ∧ tb Ex τ O1 fun y O2 => r x y O2 Q) I (LE.bind S o h fun v w H1 O1 P S1 d o1 q => ⟨w, O1, P, S1, d, o1, q⟩)) fun u1 s1 ⟨xv, H1, I1, r1, x, O1, P1, S1, d1, o1, q1⟩ => ?_) hm
  refine thn ((hb Fm Ex tk).run pins s1 σ H1 (fun yv H2 => ∃ y O2, Pers H1 H2 ∧ IsD X.K X.mg H2 yv y ∧ Own X.K X.mg Fm O2 H2 ∧ r x y O2 Q) I1 (LE.bind S1 o1 q1 fun v w H2 O2 P S2 d o2 q => ⟨w, O2, P, d, o2, q⟩)) fun u2 s2 ⟨yv, H2, I2, r2, y, O2, P2, d2, o2, q2⟩ => ?_
  exact ho Fm pins s2 σ H2 xv yv u1 u2 x y O2 Q Q' I2 r1 r2 (d1.pers P2) d2 o2 q2 fun v H' z => k v H' (z.trans (P1.trans P2))
theorem wt_cmp {op : CmpOp} {r : RW2} (ho : OpW X (compareOp op) r) (ha : WE X a ta) (hb : WE X b tb) (hm : behindInMarks op b = false) : WT X (.Compare a [op] [b] pos) (tstW (opW r ta tb)) := fun Fm Ex tk => by
  refine ⟨fun pins s σ H Q' I ⟨τ, O, Q, S, o, h, k⟩ => ?_⟩
  refine wpAny_isTrue_Compare1 (thn ((ha Fm Ex tk).run pins s σ H (fun xv H1 => ∃ x O1, Pers H H1 ∧ Slots X.K X.mg H1 σ τ ∧ IsD X.K X.mg H1 xv x ∧ Own X.K X.mg Fm O1 H1 ∧ tb Ex τ O1 fun y O2 => r x y O2 fun z O3 => onBl z fun b => Q b O3) I (LE.bind S o h fun v w H1 O1 P S1 d o1 q => ⟨w, O1, P, S1, d, o1, q⟩)) fun u1 s1 ⟨xv, H1, I1, r1, x, O1, P1, S1, d1, o1, q1⟩ => ?_) hm
  refine thn ((hb Fm Ex tk).run pins s1 σ H1 (fun yv H2 => ∃ y O2, Pers H1 H2 ∧ IsD X.K X.mg H2 yv y ∧ Own X.K X.mg Fm O2 H2 ∧ r x y O2 fun z O3 => onBl z fun b => Q b O3) I1 (LE.bind S1 o1 q1 fun v w H2 O2 P S2 d o2 q => ⟨w, O2, P, d, o2, q⟩)) fun u2 s2 ⟨yv, H2, I2, r2, y, O2, P2, d2, o2, q2⟩ => ?_
  refine thn (ho Fm pins s2 σ H2 xv yv u1 u2 x y O2 _ (fun v H' => ∃ b O', v = .bl b ∧ Pers H H' ∧ Own X.K X.mg Fm O' H' ∧ Q b O') I2 r1 r2 (d1.pers P2) d2 o2 q2 fun v H' ⟨w, O', p, d, o', q⟩ => ?_) fun u s3 ⟨v, H3, I3, r3, b, O3, e, p3, o3, q3⟩ => ?_
  · obtain ⟨b, rfl, q⟩ := onBl_is q
    exact ⟨b, O', d.of_bl, (P1.trans P2).trans p, o', q⟩
  · subst e
    cases r3
    exact wpAny_truthy_bool ⟨H3, I3, k _ _ _ p3 o3 q3⟩
theorem wt_val {e : Expr} (h : WE X e ta) (he : ∀ whole, isTrue e X.env whole = (do let v ← whole; standAt e.pos; holding [v] (truthy v))) : WT X e (tstW ta) := fun Fm Ex tk =>
  PT.imp (pt_val (h Fm Ex tk) he) fun σ H Q' ⟨τ, O, Q, S, o, h, k⟩ => by
    refine ⟨τ, O, _, S, o, h, fun v H' ⟨w, O', p, d, o', q⟩ => ?_⟩
    obtain ⟨b, rfl, q⟩ := onBl_is q
    exact ⟨b, d.of_bl, k _ _ _ p o' q⟩
theorem wt_not (h : WT X a (tstW ta)) : WT X (.UnaryOp .Not a pos) (tstW (notW ta)) := fun Fm Ex tk =>
  PT.imp (pt_not (h Fm Ex tk)) fun σ H Q' ⟨τ, O, Q, S, o, h, k⟩ => by
    refine ⟨τ, O, fun b O => Q (!b) O, S, o, ?_, fun b H' O' p o' q => k _ _ _ p o' q⟩
    exact h
theorem we_not (h : WE X a ta) : WE X (.UnaryOp .Not a pos) (notW ta) := fun Fm Ex tk =>
  PE.imp (pe_not (h Fm Ex tk)) fun σ H Q' ⟨τ, O, Q, S, o, h, k⟩ => by
    refine ⟨τ, O, _, S, o, h, fun v H' ⟨w, O', p, d, o', q⟩ => ?_⟩
    obtain ⟨b, rfl, q⟩ := onBl_is q
    exact ⟨b, d.of_bl, k _ _ ⟨.bl _, O', p, .bl _, o', q⟩⟩
theorem we_neg (h : WE X a ta) : WE X (.UnaryOp .USub a pos) (negW ta) := fun Fm Ex tk =>
  PE.imp (pe_un un_neg (h Fm Ex tk)) fun σ H Q' ⟨τ, O, Q, S, o, h, k⟩ => by
    refine ⟨τ, O, _, S, o, h, fun v H' ⟨w, O', p, d, o', q⟩ => ?_⟩
    cases w with
    | int i => exact ⟨_, d.of_int, k _ _ ⟨.int _, O', p, .int _, o', q⟩⟩
    | _ => exact q.elim
theorem we_one {op} (h : WE X a ta) : WE X (.BoolOp op [a] pos) ta := fun Fm Ex tk => pe_one (h Fm Ex tk)
theorem we_and {rest : List Expr} (ha : WE X a ta) (hb : WE X (.BoolOp .And (b :: rest) pos) tb) : WE X (.BoolOp .And (a :: b :: rest) pos) (andW ta tb) := fun Fm Ex tk =>
  PE.imp (pe_and (ha Fm Ex tk) (hb Fm Ex tk)) fun σ H Q' ⟨τ, O, Q, S, o, h, k⟩ => by
    refine ⟨τ, O, _, S, o, h, fun v H' ⟨w, O', p, d, o', q⟩ => ?_⟩
    obtain ⟨b, rfl, q⟩ := onBl_is q
    refine ⟨b, d.of_bl, ?_⟩
    cases b with
    | true => exact ⟨τ, O', Q, S.pers p, o', q, fun v H2 z => k v H2 (z.trans p)⟩
    | false => exact k _ _ ⟨.bl false, O', p, .bl _, o', q⟩
theorem we_or {rest : List Expr} (ha : WE X a ta) (hb : WE X (.BoolOp .Or (b :: rest) pos) tb) : WE X (.BoolOp .Or (a :: b :: rest) pos) (orW ta tb) := fun Fm Ex tk =>
  PE.imp (pe_or (ha Fm Ex tk) (hb Fm Ex tk)) fun σ H Q' ⟨τ, O, Q, S, o, h, k⟩ => by
    refine ⟨τ, O, _, S, o, h, fun v H' ⟨w, O', p, d, o', q⟩ => ?_⟩
    obtain ⟨b, rfl, q⟩ := onBl_is q
    refine ⟨b, d.of_bl, ?_⟩
    cases b with
    | true => exact k _ _ ⟨.bl true, O', p, .bl _, o', q⟩
    | false => exact ⟨τ, O', Q, S.pers p, o', q, fun v H2 z => k v H2 (z.trans p)⟩
theorem wp_one {op} (h : WT X a (tstW ta)) (ho : op = .And ∨ op = .Or) : WP X (.BoolOp op [a] pos) (tstW ta) := fun Fm Ex tk => by
  rcases ho with rfl | rfl
  · exact pw_and1 (h Fm Ex tk)
  · exact pw_or1 (h Fm Ex tk)
theorem wp_and {rest : List Expr} (ha : WT X a (tstW ta)) (hb : WP X (.BoolOp .And (b :: rest) pos) (tstW tb)) : WP X (.BoolOp .And (a :: b :: rest) pos) (tstW (andW ta tb)) := fun Fm Ex tk =>
  PW.imp (pw_and (ha Fm Ex tk) (hb Fm Ex tk)) fun σ H Q' ⟨τ, O, Q, S, o, h, k⟩ => by
    refine ⟨τ, O, fun b O1 => if b = true then tstW tb Ex τ O1 Q else Q false O1, S, o, h, fun b H' O' p o' q => ?_⟩
    cases b with
    | true => exact ⟨τ, O', Q, S.pers p, o', q, fun b H2 O2 p2 o2 q2 => k b H2 O2 (p.trans p2) o2 q2⟩
    | false => exact k _ _ _ p o' q
theorem wp_or {rest : List Expr} (ha : WT X a (tstW ta)) (hb : WP X (.BoolOp .Or (b :: rest) pos) (tstW tb)) : WP X (.BoolOp .Or (a :: b :: rest) pos) (tstW (orW ta tb)) := fun Fm Ex tk =>
  PW.imp (pw_or (ha Fm Ex tk) (hb Fm Ex tk)) fun σ H Q' ⟨τ, O, Q, S, o, h, k⟩ => by
    refine ⟨τ, O, fun b O1 => if b = true then Q true O1 else tstW tb Ex τ O1 Q, S, o, h, fun b H' O' p o' q => ?_⟩
    cases b with
    | true => exact k _ _ _ p o' q
    | false => exact ⟨τ, O', Q, S.pers p, o', q, fun b H2 O2 p2 o2 q2 => k b H2 O2 (p.trans p2) o2 q2⟩
theorem we_ife (hc : WT X c (tstW tc)) (ha : WE X a ta) (hb : WE X b tb) : WE X (.IfExp c a b pos) (ifeW tc ta tb) := fun Fm Ex tk =>
  PE.imp (pe_ifExp (hc Fm Ex tk) (ha Fm Ex tk) (hb Fm Ex tk)) fun σ H Q' ⟨τ, O, Q, S, o, h, k⟩ => by
    refine ⟨τ, O, fun b O1 => if b = true then ta Ex τ O1 Q else tb Ex τ O1 Q, S, o, h, fun b H' O' p o' q => ?_⟩
    cases b with
    | true => exact ⟨τ, O', Q, S.pers p, o', q, fun v H2 z => k v H2 (z.trans p)⟩
    | false => exact ⟨τ, O', Q, S.pers p, o', q, fun v H2 z => k v H2 (z.trans p)⟩
theorem isN_of {K : PySem.W.Frag} {mg : Str → Option Value} {H : Hp} {v : V} {w : Dt} {b : Bool} (d : IsD K mg H v w) (e : isN? w = some b) : decide (v = .non) = b := by
  cases d <;> (cases e; simp)
theorem we_isN {neg : Bool} (h : WE X a ta) {p2 : Pos} {j : Nat} : WE X (.Compare a [if neg then .IsNot else .Is] [.Constant .none j p2] pos) (isNW neg ta) := fun Fm Ex tk => by
  have core : ∀ {σ H Q'}, LE X.K X.mg Fm (isNW neg ta Ex) σ H Q' → LE X.K X.mg Fm (ta Ex) σ H fun v H1 => ∀ (q : VK), True → Q' (.bl (if neg then !decide (v = .non) else decide (v = .non))) H1 := by
    intro σ H Q' ⟨τ, O, Q, S, o, h, k⟩
    refine ⟨τ, O, _, S, o, h, fun v H' ⟨w, O', p, d, o', q⟩ _ _ => ?_⟩
    cases e : isN? w with
    | none => simp only [e] at q
    | some b =>
      simp only [e] at q
      rw [isN_of d e]
      exact k _ _ ⟨.bl _, O', p, .bl _, o', q⟩
  cases neg with
  | false =>
    refine PE.imp (pe_cmpR op_isN (h Fm Ex tk) pe_non (nomark _)) fun σ H Q' hq => ?_
    obtain ⟨τ, O, Q, S, o, h, k⟩ := core hq
    exact ⟨τ, O, Q, S, o, h, fun v H' z => ⟨rfl, k v H' z (fun _ _ => True) trivial⟩⟩
  | true =>
    refine PE.imp (pe_cmpR op_notN (h Fm Ex tk) pe_non (nomark _)) fun σ H Q' hq => ?_
    obtain ⟨τ, O, Q, S, o, h, k⟩ := core hq
    exact ⟨τ, O, Q, S, o, h, fun v H' z => ⟨rfl, k v H' z (fun _ _ => True) trivial⟩⟩
theorem wt_isN {neg : Bool} (h : WE X a ta) {p2 : Pos} {j : Nat} : WT X (.Compare a [if neg then .IsNot else .Is] [.Constant .none j p2] pos) (tstW (isNW neg ta)) := fun Fm Ex tk => by
  have core : ∀ {σ H} {Q' : Bool → Hp → Prop}, LT X.K X.mg Fm (tstW (isNW neg ta) Ex) σ H Q' → LE X.K X.mg Fm (ta Ex) σ H fun v H1 => Q' (if neg then !decide (v = .non) else decide (v = .non)) H1 := by
    intro σ H Q' ⟨τ, O, Q, S, o, h, k⟩
    refine ⟨τ, O, _, S, o, h, fun v H' ⟨w, O', p, d, o', q⟩ => ?_⟩
    cases e : isN? w with
    | none => simp only [e] at q
    | some b =>
      simp only [e] at q
      rw [isN_of d e]
      exact k _ _ _ p o' q
  cases neg with
  | false =>
    refine PT.imp (pt_cmpR op_isN (h Fm Ex tk) pe_non (nomark _)) fun σ H Q' hq => ?_
    obtain ⟨τ, O, Q, S, o, h, k⟩ := core hq
    exact ⟨τ, O, Q, S, o, h, fun v H' z => ⟨rfl, _, rfl, k v H' z⟩⟩
  | true =>
    refine PT.imp (pt_cmpR op_notN (h Fm Ex tk) pe_non (nomark _)) fun σ H Q' hq => ?_
    obtain ⟨τ, O, Q, S, o, h, k⟩ := core hq
    exact ⟨τ, O, Q, S, o, h, fun v H' z => ⟨rfl, _, rfl, k v H' z⟩⟩
theorem IsDs.atI {K : PySem.W.Frag} {mg : Str → Option Value} {H : Hp} {vs : List V} {ws : List Dt} {i : Int} {w : Dt} (h : IsDs K mg H vs ws) (e : L2.atI ws i = some w) : ∃ v, L2.atI vs i = some v ∧ IsD K mg H v w := by
  unfold L2.atI at e ⊢
  rw [h.length]
  cases q : ixN ws.length i with
  | none => rw [q] at e; cases e
  | some j => rw [q] at e; exact h.get e
theorem idxW_cases {x y : Dt} {O : OW} {Q : KW} (h : idxW x y O Q) : (∃ s i c, x = .str s ∧ y = .int i ∧ s.length ≤ LIM ∧ L2.atI s.cps.toList i = some c ∧ Q (.str ⟨#[c]⟩) O) ∨
    (∃ i ws w, y = .int i ∧ (asQ O x = some ws ∨ x = .scr ws) ∧ L2.atI ws i = some w ∧ Q w O) := by
  cases y with
  | int i =>
    have rest : (match asQ O x with | some ws => onS (L2.atI ws i) fun w => Q w O | none => False) → ∃ i' ws w, Dt.int i = .int i' ∧ (asQ O x = some ws ∨ x = .scr ws) ∧ L2.atI ws i' = some w ∧ Q w O := by
      intro h
      cases e : asQ O x with
      | none => rw [e] at h; exact h.elim
      | some ws =>
        rw [e] at h
        cases e2 : L2.atI ws i with
        | none => simp only [e2] at h; exact h.elim
        | some w => simp only [e2] at h; exact ⟨i, ws, w, rfl, .inl rfl, e2, h⟩
    cases x with
    | str s =>
      obtain ⟨hz, h⟩ := h
      cases e : L2.atI s.cps.toList i with
      | none => simp only [e] at h
      | some c => simp only [e] at h; exact .inl ⟨s, i, c, rfl, rfl, hz, e, h⟩
    | scr ws =>
      have h : onS (L2.atI ws i) fun w => Q w O := h
      cases e2 : L2.atI ws i with
      | none => simp only [e2] at h; exact h.elim
      | some w => simp only [e2] at h; exact .inr ⟨i, ws, w, rfl, .inr rfl, e2, h⟩
    | _ => exact .inr (rest h)
  | _ => cases x <;> exact h.elim
theorem we_idx (ha : WE X a ta) (hb : WE X b tb) (hs : PlainIx b) : WE X (.Subscript a b pos) (opW idxW ta tb) := fun Fm Ex tk => by
  refine PE.imp (pe_ix (IxR.or ix_str (IxR.or ix_list ix_tup)) (ha Fm Ex tk) (hb Fm Ex tk) hs) fun σ H Q' ⟨τ, O, Q, S, o, h, k⟩ => ?_
  refine ⟨τ, O, _, S, o, h, fun v H1 ⟨x, O1, P1, d1, o1, q1⟩ => ⟨τ, O1, _, S.pers P1, o1, q1, fun v2 H2 ⟨y, O2, P2, d2, o2, q2⟩ => ?_⟩⟩
  have d1 := d1.pers P2
  have q2 : idxW x y O2 Q := q2
  rcases idxW_cases q2 with ⟨z, i, c, ex, ey, hz, e, q⟩ | ⟨i, ws, w, ey, e, e2, q⟩
  · subst ex ey
    exact .inl ⟨z, i, c, d1.of_str, d2.of_int, by rw [lim_eq]; exact hz, e, k _ _ ⟨.str _, O2, P1.trans P2, .str _, o2, q⟩⟩
  · subst ey
    rcases e with e | e
    case inr =>
      subst e
      cases d1 with
      | scr h1 t =>
        obtain ⟨v', e3, d3⟩ := t.atI e2
        exact .inr (.inl ⟨_, _, i, v', rfl, d2.of_int, h1.sql, e3, k _ _ ⟨w, O2, P1.trans P2, d3, o2, q⟩⟩)
    obtain ⟨p, vs, rfl, hq, t⟩ := asQ_rd d1 o2 e
    obtain ⟨v', e3, d3⟩ := t.atI e2
    have fin : Q' v' H2 := k _ _ ⟨w, O2, P1.trans P2, d3, o2, q⟩
    rcases hq with hq | hq
    · exact .inr (.inl ⟨p, vs, i, v', rfl, d2.of_int, .inl hq, e3, fin⟩)
    · exact .inr (.inr ⟨p, vs, i, v', rfl, d2.of_int, hq.tup, e3, fin⟩)

/-! ### slices -/
def WO (X : Cx) (e : Option Expr) (t : TOw) : Prop := ∀ Fm Ex, Takes X (LX X.K X.mg Fm Ex) → PO X e (fun σ H Q' => ∃ τ O Q, Slots X.K X.mg H σ τ ∧ Own X.K X.mg Fm O H ∧ t Ex τ O Q ∧ ∀ i H' O', Pers H H' → Own X.K X.mg Fm O' H' → Q i O' → Q' i H')
theorem PO.imp {e : Option Expr} {t t' : St' → Hp → (Option Int → Hp → Prop) → Prop} (h : PO X e t) (i : ∀ σ H Q, t' σ H Q → t σ H Q) : PO X e t' := ⟨fun pins s σ H Q I q => h.run pins s σ H Q I (i _ _ _ q)⟩
theorem wo_none : WO X none noneO := fun Fm Ex tk => PO.imp po_none fun σ H Q' ⟨τ, O, Q, S, o, h, k⟩ => k _ _ _ (Pers.refl H) o h
theorem wo_some (h : WE X a ta) : WO X (some a) (someO ta) := fun Fm Ex tk => PO.imp (po_some (h Fm Ex tk)) fun σ H Q' ⟨τ, O, Q, S, o, h, k⟩ => by
  refine ⟨τ, O, _, S, o, h, fun v H' ⟨w, O', p, d, o', q⟩ => ?_⟩
  cases w with
  | int i => exact ⟨i, d.of_int, k _ _ _ p o' q⟩
  | _ => exact q.elim
/-- a slice of a tuple: a known object -/
def rSlP (K : PySem.W.Frag) : V → Option Int → Option Int → Hp → VK → Prop := fun x lo hi H Q => ∃ a xs, x = .ref a ∧ SqT K H a xs ∧
  (HT.sIx xs.length 0 lo = 0 ∧ HT.sIx xs.length xs.length hi = xs.length → Q (.ref a) H) ∧
  (¬ (HT.sIx xs.length 0 lo = 0 ∧ HT.sIx xs.length xs.length hi = xs.length) → ∀ (p : Addr) (ob : Obj), H p = none → ob.dict = none → Q (.ref p) (upd H p (.frz ob (.tup (cutV xs lo hi)))))
theorem sl_tupP : SlR X (rSlP X.K) := by
  intro pins s σ H x v vl vu lo hi sl Q I rx hs pl pu h
  obtain ⟨a, xs, rfl, hx, q1, q2⟩ := h
  cases rx
  obtain ⟨its, r, ht, hz⟩ := I.tuple hx
  have hlen : its.toArray.size = xs.length := by rw [List.size_toArray]; exact r.length.symm
  refine ⟨"tuple", _, PyProof.Rows.slot_tuple_getitem.lookup, ht.typeIs, ?_⟩
  by_cases hw : HT.sIx xs.length 0 lo = 0 ∧ HT.sIx xs.length xs.length hi = xs.length
  · exact getItem_tuple_whole ht hs pl pu (by rw [hlen]; exact hw) ⟨.ref a, H, I, rfl, q1 hw⟩
  · refine HT.getItem_tuple_cut ht hs pl pu (by rw [hlen]; exact hw) ?_ (by rw [hlen]; exact hz)
    rw [hlen]
    exact ⟨.ref _, _, Inv.tnew (t' := s.toks) I ((r.drop (HT.sIx xs.length 0 lo)).take (HT.sIx xs.length xs.length hi - HT.sIx xs.length 0 lo)) (Nat.le_trans (cutV_length xs lo hi) hz), rfl, q2 hw _ _ I.fresh rfl⟩
/-- a slice of a list, by values (any that may be read) -/
theorem we_slc {lo hi : Option Expr} {tl th : TOw} {p2 : Pos} (fz : Bool) (ha : WE X a ta) (hl : WO X lo tl) (hh : WO X hi th) : WE X (.Subscript a (.Slice lo hi none p2) pos) (slW fz ta tl th) := fun Fm Ex tk => by
  have freeze : ∀ (r : V → Option Int → Option Int → Hp → VK → Prop), SlR X r → SlR X fun x l h H Q => r x l h H fun v H' => Q v H' ∨ ∃ p vs, v = .ref p ∧ H' p = some (.lst vs) ∧ ∀ ob, Q (.ref p) (upd H' p (.frz ob (.lst vs))) := by
    intro r hr pins s σ H x v vl vu lo hi sl Q I rx hs pl pu q
    obtain ⟨T, id, h1, h2, h3⟩ := hr pins s σ H x v vl vu lo hi sl _ I rx hs pl pu q
    refine ⟨T, id, h1, h2, thn h3 fun u s1 ⟨v, H1, I1, r1, q1⟩ => ?_⟩
    rcases q1 with q1 | ⟨p, vs, rfl, e, q1⟩
    · exact ⟨v, H1, I1, r1, q1⟩
    · obtain ⟨ob, I2⟩ := I1.lock e trivial
      exact ⟨.ref p, _, I2, r1, q1 ob⟩
  refine PE.imp (pe_slice (SlR.or sl_str (SlR.or sl_tupP (freeze _ sl_list))) (ha Fm Ex tk) (hl Fm Ex tk) (hh Fm Ex tk)) fun σ H Q' ⟨τ, O, Q, S, o, h, k⟩ => ?_
  refine ⟨τ, O, _, S, o, h, fun v H1 ⟨x, O1, P1, d1, o1, q1⟩ => ⟨τ, O1, _, S.pers P1, o1, q1, fun l H2 O2 P2 o2 q2 => ⟨τ, O2, _, (S.pers P1).pers P2, o2, q2, fun u H3 O3 P3 o3 q3 => ?_⟩⟩⟩
  have d1 := d1.pers (P2.trans P3)
  have PP := P1.trans (P2.trans P3)
  have q3 : slcW fz x l u O3 Q := q3
  have lists0 : ∀ ws p vs, v = .ref p → SqL X.K H3 p vs → IsDs X.K X.mg H3 vs ws → newL fz ((ws.drop (HT.sIx ws.length 0 l)).take (HT.sIx ws.length ws.length u - HT.sIx ws.length 0 l)) O3 Q →
      rSlL X.K v l u H3 fun v H' => Q' v H' ∨ ∃ p vs, v = .ref p ∧ H' p = some (.lst vs) ∧ ∀ ob, Q' (.ref p) (upd H' p (.frz ob (.lst vs))) := by
    intro ws p vs ev hq t q3
    subst ev
    refine ⟨p, vs, rfl, hq, fun p2 np => ?_⟩
    have t2 : IsDs X.K X.mg H3 (cutV vs l u) ((ws.drop (HT.sIx ws.length 0 l)).take (HT.sIx ws.length ws.length u - HT.sIx ws.length 0 l)) := by
      unfold cutV
      rw [t.length]
      exact (t.drop _).take _
    have P4 : ∀ z, Pers H3 (upd H3 p2 z) := fun z => Pers.new np
    unfold newL at q3
    cases fz with
    | false =>
      rw [if_neg Bool.false_ne_true] at q3
      exact .inl (k _ _ ⟨.ref p2, _, PP.trans (P4 _), .ref p2, o3.write (o3.fnone np) (P4 _) (show OwnAt X.K X.mg _ p2 (.lst _) from ⟨_, upd_same, t2.pers (P4 _)⟩), q3 p2 (o3.none np)⟩)
    | true =>
      rw [if_pos rfl] at q3
      refine .inr ⟨p2, _, rfl, upd_same, fun ob => ?_⟩
      rw [upd_upd]
      exact k _ _ ⟨_, O3, PP.trans (P4 _), .lst ⟨ob, upd_same⟩ (t2.pers (P4 _)), o3.laid np, q3⟩
  have lists : ∀ ws, asL O3 x = some ws → newL fz ((ws.drop (HT.sIx ws.length 0 l)).take (HT.sIx ws.length ws.length u - HT.sIx ws.length 0 l)) O3 Q →
      rSlL X.K v l u H3 fun v H' => Q' v H' ∨ ∃ p vs, v = .ref p ∧ H' p = some (.lst vs) ∧ ∀ ob, Q' (.ref p) (upd H' p (.frz ob (.lst vs))) := by
    intro ws e q3
    obtain ⟨p, vs, ev, hq, t⟩ := asL_rd d1 o3 e
    exact lists0 ws p vs ev (.inl hq) t q3
  cases x with
  | scr ws =>
    cases d1 with
    | scr h1 t => exact .inr (.inr (lists0 ws _ _ rfl h1.sql t q3))
  | str z => exact .inl ⟨_, d1.of_str, by rw [lim_eq]; exact q3.1, k _ _ ⟨.str _, O3, PP, .str _, o3, q3.2⟩⟩
  | tup ws =>
    have q3 : Q (.tup ((ws.drop (HT.sIx ws.length 0 l)).take (HT.sIx ws.length ws.length u - HT.sIx ws.length 0 l))) O3 := q3
    cases d1 with
    | tup h1 t1 =>
      refine .inr (.inl ⟨_, _, rfl, h1.tup, fun e => ?_, fun _ p ob np nd => ?_⟩)
      · rw [t1.length] at e
        rw [e.1, e.2, List.drop_zero, Nat.sub_zero, List.take_length] at q3
        exact k _ _ ⟨.tup ws, O3, PP, .tup h1 t1, o3, q3⟩
      · have P2 : ∀ z, Pers H3 (upd H3 p z) := fun z => Pers.new np
        refine k _ _ ⟨.tup _, O3, PP.trans (P2 _), .tup (.inl ⟨ob, upd_same, nd⟩) (IsDs.pers (P2 _) ?_), o3.laid np, q3⟩
        unfold cutV
        rw [t1.length]
        exact (t1.drop _).take _
  | lst ws => exact .inr (.inr (lists ws rfl q3))
  | ref p =>
    have q3 : (match asL O3 (.ref p) with | some ws => newL fz ((ws.drop (HT.sIx ws.length 0 l)).take (HT.sIx ws.length ws.length u - HT.sIx ws.length 0 l)) O3 Q | none => False) := q3
    cases e : asL O3 (.ref p) with
    | none => rw [e] at q3; exact q3.elim
    | some ws => rw [e] at q3; exact .inr (.inr (lists ws e q3))
  | _ => exact q3.elim

/-! ### argument lists, displays -/
theorem wa_nil : WA X [] nilA := fun Fm Ex tk => PA.imp pa_nil fun σ H Q' ⟨τ, O, Q, S, o, h, k⟩ => k _ _ _ _ (Pers.refl H) .nil o h
theorem wa_cons {tr : TAw} (ha : WE X a ta) (hr : WA X es tr) (hs : starEach (a :: es) X.env = (false, eval a X.env) :: starEach es X.env) : WA X (a :: es) (consA ta tr) := fun Fm Ex tk =>
  PA.imp (pa_cons (ha Fm Ex tk) (hr Fm Ex tk) hs) fun σ H Q' ⟨τ, O, Q, S, o, h, k⟩ => by
    refine ⟨τ, O, _, S, o, h, fun v H1 ⟨x, O1, P1, d1, o1, q1⟩ => ⟨τ, O1, _, S.pers P1, o1, q1, fun vs ws H2 O2 P2 d2 o2 q2 => ?_⟩⟩
    exact k _ _ _ _ (P1.trans P2) (.cons (d1.pers P2) d2) o2 q2
theorem we_tup {t : TAw} {x1} (h : WA X es t) : WE X (.Tuple es x1 pos) (tupW t) := fun Fm Ex tk => by
  refine ⟨fun pins s σ H Q' I ⟨τ, O, Q, S, o, hq, k⟩ => ?_⟩
  refine wpAny_Tuple_spliced (thn ((h Fm Ex tk).run pos pins s σ H (fun vs H1 => ∃ ws O1, Pers H H1 ∧ IsDs X.K X.mg H1 vs ws ∧ Own X.K X.mg Fm O1 H1 ∧ ws.length ≤ LIM ∧ Q (.tup ws) O1) I ⟨τ, O, _, S, o, hq, fun vs ws H1 O1 P d o q => ⟨ws, O1, P, d, o, q⟩⟩) fun us s1 ⟨vs, H1, I1, r, ws, O1, P1, d1, o1, z, q⟩ => ?_)
  have hz : vs.length ≤ sizeLine := by rw [d1.length, lim_eq]; exact z
  exact ⟨by rw [← r.length]; exact hz, ep_newT I1 r hz P1 d1 o1 q k⟩
theorem we_lst {t : TAw} (fz : Bool) (h : WA X es t) : WE X (.List es pos) (lstW fz t) := fun Fm Ex tk => by
  refine ⟨fun pins s σ H Q' I ⟨τ, O, Q, S, o, hq, k⟩ => ?_⟩
  refine thn ((pe_lst (h Fm Ex tk)).run pins s σ H (fun v H' => ∃ p vs ws H1 O1, v = .ref p ∧ H' = upd H1 p (.lst vs) ∧ H1 p = none ∧ Pers H H1 ∧ IsDs X.K X.mg H1 vs ws ∧ Own X.K X.mg Fm O1 H1 ∧ newL fz ws O1 Q) I ?_) fun u s1 ⟨v, H', I', r', p, vs, ws, H1, O1, e1, e2, np, P1, d1, o1, q1⟩ => ?_
  · exact ⟨τ, O, _, S, o, hq, fun vs ws H1 O1 P1 d1 o1 q1 => ⟨by rw [d1.length, lim_eq]; exact q1.1, fun p np => ⟨p, vs, ws, H1, O1, rfl, rfl, np, P1, d1, o1, q1.2⟩⟩⟩
  · subst e1 e2
    cases r'
    exact ep_newL np P1 I' d1 o1 q1 k
end
end TF

/-! TF5: defs, their calls -/
namespace TF
open PySem PySem.Spec L2
open PyProof.Rows (envOfC)

theorem Takes.impI {X : Cx} {W W' : WX} (t : Takes X W) (h : ∀ pins s c d σ H, Inv X pins σ H s → W' c d σ H → W c d σ H) : Takes X W' := fun u s' ⟨a, B, sI, pins, σ, H, cls, d, e, I, nb, up, sky, na, os, ag, w⟩ =>
  t u s' ⟨a, B, sI, pins, σ, H, cls, d, e, I, nb, up, sky, na, os, ag, h _ _ _ _ _ _ I w⟩

/-- a promise by data: arguments, what is owned, what is wanted, what is wanted of an exception -/
abbrev SpW := List Dt → OW → KW → (Exc → OW → Prop) → Prop
def liftSp (K : PySem.W.Frag) (mg : Str → Option Value) (sp : SpW) : Sp := fun vs H Q' E' => ∃ Fm ws O Q E, IsDs K mg H vs ws ∧ Own K mg Fm O H ∧ sp ws O Q E ∧ (∀ v H', LQ K mg Fm H Q v H' → Q' v H') ∧
  ∀ x cls d H' O', Pers H H' → Own K mg Fm O' H' → ExcRel K mg x cls d H' → E x O' → E' cls d H'
/-- what is known of the deep texts that are being made (asked for from level 20 on) -/
def Gd (k : Nat) (A : Around) : Prop := 20 ≤ k → A.guards = some []
theorem Gd.mono {j k : Nat} {A : Around} (g : Gd k A) (h : j ≤ k) : Gd j A := fun z => g (Nat.le_trans z h)
structure FnG (P : Program) (w : World) (K : PySem.W.Frag) (mg : Str → Option Value) (base : Heap) (k : Nat) (f : Addr) (fd : FuncData) (ps : List Str) (sp : SpW) : Prop where
  len : ∀ ws O Q E, sp ws O Q E → ws.length = ps.length
  run : ∀ (A : Around) (outer : List Env) (s : Shared) (H : Hp) (args : Args) (us : List Value) (vs : List V) (Q : VK) (E : XK), Room k A → Gd k A → Env0 P w K mg base A outer s H → BindsTo s fd args (ps.zip us) → Vals vs us → liftSp K mg sp vs H Q E →
    codeAny (model P w) A (.call (.ref f) args) (CR (L2N.CX P w) outer P w H s Q E) s
/-- a def that may be called by its name -/
structure Callee (P : Program) (w : World) (K : PySem.W.Frag) (mg : Str → Option Value) (base : Heap) (j : Nat) (nm : Str) (sp : SpW) : Prop where
  ex : ∃ (k : Nat) (f : Addr) (fd : FuncData) (ps : List Str), k ≤ j ∧ FnG P w K mg base k f fd ps sp ∧ mg nm = some (.ref f) ∧ PySem.W.keepIn K (.ref f) = true ∧ Binds K fd ps []
theorem Callee.mono {P : Program} {w : World} {K : PySem.W.Frag} {mg : Str → Option Value} {base : Heap} {j k : Nat} {nm : Str} {sp : SpW} (c : Callee P w K mg base j nm sp) (h : j ≤ k) : Callee P w K mg base k nm sp :=
  let ⟨i, f, fd, ps, hi, r⟩ := c.ex; ⟨i, f, fd, ps, Nat.le_trans hi h, r⟩

/-- less may be owned behind; a list that comes back may be frozen -/
def frzD : OO → Option Dt
  | .lst ws => some (.lst ws)
  | .dct kvs => some (.dct kvs)
  | .ins _ _ => none
def Ang (w : Dt) (O : OW) (Q : KW) : Prop := ∃ O', OLe O' O ∧ (Q w O' ∨ ∃ p oo d, w = .ref p ∧ O p = some oo ∧ frzD oo = some d ∧ O' p = none ∧ Q d O')
theorem Ang.keep {w : Dt} {O : OW} {Q : KW} (h : Q w O) : Ang w O Q := ⟨O, OLe.refl O, .inl h⟩
theorem Ang.drop {w : Dt} {O O' : OW} {Q : KW} (l : OLe O' O) (h : Q w O') : Ang w O Q := ⟨O', l, .inl h⟩
theorem Ang.frz {p : Addr} {ws : List Dt} {O O' : OW} {Q : KW} (e : O p = some (.lst ws)) (l : OLe O' O) (n : O' p = none) (h : Q (.lst ws) O') : Ang (.ref p) O Q := ⟨O', l, .inr ⟨p, _, _, rfl, e, rfl, n, h⟩⟩
theorem Ang.frzD {p : Addr} {kvs : List (Key × Dt)} {O O' : OW} {Q : KW} (e : O p = some (.dct kvs)) (l : OLe O' O) (n : O' p = none) (h : Q (.dct kvs) O') : Ang (.ref p) O Q := ⟨O', l, .inr ⟨p, _, _, rfl, e, rfl, n, h⟩⟩
def startW (n : Nat) (ws : List Dt) : SW := ws.map some ++ List.replicate (n - ws.length) none
def semFn (n m : Nat) (body : TSw) : SpW := fun ws O Q E => ws.length = n ∧
  body (fun x _ O' => ∃ O'', OLe O'' O' ∧ E x O'') { nx := fun _ O' => Ang .non O' Q, rt := fun w O' => Ang w O' Q } (startW m ws) O

section
variable {P : Program} {w : World} {K : PySem.W.Frag} {mg : Str → Option Value} {base : Heap} {Fm : Hp}
/-- a ghost step: a list is frozen -/
theorem Inv.ang {X : Cx} {pins : List (Addr × Obj)} {σ : L2.St} {H : Hp} {s : Shared} {v : V} {d : Dt} {O : OW} {Q : KW} (I : Inv X pins σ H s) (iv : IsD X.K X.mg H v d) (o : Own X.K X.mg Fm O H) (h : Ang d O Q) :
    ∃ H' O' d', Inv X pins σ H' s ∧ Pers H H' ∧ IsD X.K X.mg H' v d' ∧ Own X.K X.mg Fm O' H' ∧ Q d' O' := by
  obtain ⟨O', l, q | ⟨p, oo, d, rfl, e, ed, n, q⟩⟩ := h
  · exact ⟨H, O', d, I, Pers.refl H, iv, o.le l, q⟩
  · have key : ∀ {u : HO}, H p = some u → Mut (some u) → (∀ ob, Pers H (upd H p (.frz ob u)) → IsD X.K X.mg (upd H p (.frz ob u)) (.ref p) d) → ∃ H' O' d', Inv X pins σ H' s ∧ Pers H H' ∧ IsD X.K X.mg H' v d' ∧ Own X.K X.mg Fm O' H' ∧ Q d' O' := fun {u} hp mu dd => by
      obtain ⟨ob, I2⟩ := I.lock hp mu
      have P1 : Pers H (upd H p (.frz ob u)) := o.pers_upd e
      cases iv
      have fp := o.fown e
      have ne : ∀ a u, Fm a = some u → a ≠ p := fun a u h z => by subst z; rw [fp] at h; cases h
      refine ⟨_, O', d, I2, P1, dd ob P1, ⟨fun a oo ea => ?_, fun a u h => by rw [upd_ne (ne a u h)]; exact o.fr a u h, (o.le l).ap⟩, q⟩
      have ha : a ≠ p := fun z => by subst z; rw [n] at ea; cases ea
      exact (o.at_ a oo (l a oo ea)).stay P1 (upd_ne ha)
    cases oo with
    | lst ws =>
      cases ed
      obtain ⟨vs, hp, t⟩ := o.at_ p _ e
      exact key hp trivial fun ob P1 => .lst ⟨ob, upd_same⟩ (t.pers P1)
    | dct ws =>
      cases ed
      obtain ⟨vs, hp, t⟩ := o.at_ p _ e
      exact key hp trivial fun ob P1 => .dct (o := ob) upd_same (t.pers P1)
    | ins c f => cases ed
theorem slots_start {H : Hp} {N ps : List Str} {vs : List V} {ws : List Dt} (d : IsDs K mg H vs ws) : Slots K mg H (L2.start N vs) (startW N.length ws) := by
  refine ⟨?_, fun i x e => ?_⟩
  · unfold L2.start startW
    rw [List.length_append, List.length_append, List.length_map, List.length_map, List.length_replicate, List.length_replicate, d.length]
  · unfold startW at e
    by_cases hi : i < ws.length
    · rw [List.getElem?_append_left (by simpa using hi), List.getElem?_map] at e
      cases q : ws[i]? with
      | none => rw [q] at e; cases e
      | some y =>
        rw [q] at e
        cases e
        obtain ⟨v, e2, d2⟩ := d.get q
        refine ⟨v, ?_, d2⟩
        unfold L2.start
        rw [List.getElem?_append_left (by rw [List.length_map, d.length]; exact hi), List.getElem?_map, e2]
        rfl
    · rw [List.getElem?_append_right (by simpa using hi), List.getElem?_replicate] at e
      split at e <;> cases e
/-- THE RULE for a def: its body, lifted -/
theorem fn_ofG {k : Nat} {f : Addr} {name qual : Str} {params : Arguments} {body : List Stmt} {scope : Scope} {dV kV doc pm cdv ct oc : Value} {an od : Option Addr}
    {osl : Array (Option Value)} {N ps : List Str} {t : TSw} (lk : K.lookup f = some ⟨oc, od, .func (PySem.W.fnOf name qual params body scope dV kV doc pm an cdv ct), osl⟩) (hcd : PySem.W.codeIn K cdv qual = true) (S : FnScope N ps scope)
    (hbody : ∀ (A : Around) (outer : List Env) (s : Shared) (H : Hp) (E : XK), Room k (A.deeper (envOfC qual scope s.heap.objs.size f cdv)) → Gd k A →
      WB (cxOf (L2N.CX P w) P w K mg base N qual scope f cdv A outer s H E) body t) :
    FnG P w K mg base (k + 1) f (PySem.W.fnOf name qual params body scope dV kV doc pm an cdv ct) ps (semFn ps.length N.length t) := by
  refine ⟨fun ws O Q E h => h.1, fun A outer s H args us vs Q E hr hg e0 hb r ⟨Fm, ws, O, Qw, Ew, dw, o, hsp, hQ, hE⟩ => ?_⟩
  have hl : vs.length = ps.length := dw.length.trans hsp.1
  have KX : K.In s.heap := e0.mod.kin.keeps fun b o e => (e0.bs b o e).1
  have lim : s.heap.NoLimit := e0.mod.nolimit.keeps fun b o e => (e0.bs b o e).1
  have hkind : ∀ y ∈ ps.zip us, scope.names.lookup y.1 = some .local ∨ (scope.names.lookup y.1 = some .cell ∧ ((cellsFrom (s.heap.objs.size + 1) scope.names []).lookup y.1).isSome = true) := fun ⟨n, v⟩ hy => by
    rcases S.par n (List.of_mem_zip hy).1 with q | q
    · exact .inl q
    · exact .inr ⟨q, PySem.W.cellsFrom_some _ _ _ (.inl q)⟩
  refine codeAny_call_function hr.depth (KX _ _ lk) rfl S.co S.gen rfl (PySem.W.codeRec_of KX hcd) (hb _ _ _ _ ?_)
  refine wpAny_newFunctionEnv_cells S.kind hkind fun env he s1 x => ?_
  subst he
  refine ⟨lim.keeps x.toInCall.keep, codeAny_func ?_⟩
  have I : Inv (cxOf (L2N.CX P w) P w K mg base N qual scope f cdv A outer s H E) [] (L2.start N vs) H s1 := inv_start S hr.hd e0 hl r x
  have tk : Takes (cxOf (L2N.CX P w) P w K mg base N qual scope f cdv A outer s H E) (LX K mg Fm (fun x _ O' => ∃ O'', OLe O'' O' ∧ Ew x O'')) := by
    refine Takes.impI (L2N.takes_of (E := E) rfl rfl rfl rfl) fun pins s2 c d σ H2 I2 ⟨x, τ, O2, S2, o2, er, O3, l3, ee⟩ => ?_
    exact hE x c d H2 O3 ⟨I2.base.tups, I2.base.frzs⟩ (o2.le l3) er ee
  have hb2 := hbody A outer s H E (hr.deeper _) (hg.mono (Nat.le_succ k)) Fm _ tk
  refine wpAny_mono (hb2.run [] s1 (L2.start N vs) H { nx := fun _ H' => ∃ O', Own K mg Fm O' H' ∧ Ang .non O' Qw, rt := fun v H' => ∃ w O', IsD K mg H' v w ∧ Own K mg Fm O' H' ∧ Ang w O' Qw } I ?_) (fun fl s' hs => ?_) fun e s' hs => hs
  · exact ⟨_, startW N.length ws, O, slots_start (ps := ps) dw, o, hsp.2, fun σ H τ O _ o h => ⟨O, o, h⟩, fun v H w O d o h => ⟨w, O, d, o, h⟩, fun _ _ _ _ _ _ h => h.elim, fun _ _ _ _ _ _ h => h.elim⟩
  · have fin : ∀ {σ' : L2.St} {H' : Hp} {v : V} {u : Value} {d : Dt} {O' : OW}, Inv (cxOf (L2N.CX P w) P w K mg base N qual scope f cdv A outer s H E) [] σ' H' s' → RelV v u → IsD K mg H' v d → Own K mg Fm O' H' → Ang d O' Qw → CE outer P w H s Q u s' := by
      intro σ' H' v u d O' J rv iv o2 q
      obtain ⟨H2, O2, d2, J2, p2, iv2, o3, q2⟩ := Inv.ang J iv o2 q
      exact ⟨v, H2, J2.os, J2.bare, J2.base, J2.hok, rv, hQ v H2 ⟨d2, O2, ⟨J2.base.tups, J2.base.frzs⟩, iv2, o3, q2⟩⟩
    cases fl with
    | ret u =>
      obtain ⟨v, σ', H', J, rv, d, O', iv, o2, q⟩ := hs
      exact fin J rv iv o2 q
    | next =>
      obtain ⟨σ', H', J, O', o2, q⟩ := hs
      exact fin (v := V.non) (u := Value.none) J rfl .non o2 q
    | brk =>
      obtain ⟨_, _, _, q⟩ := hs
      exact False.elim q
    | cont =>
      obtain ⟨_, _, _, q⟩ := hs
      exact False.elim q
end

/-! ### calls -/
def callW (sp : SpW) (t : TAw) : TEw := fun Ex τ O Q => t Ex τ O fun ws O1 => sp ws O1 Q fun x O' => Ex x τ O'
section
variable {X : Cx} {e : Expr} {es : List Expr} {pos p : Pos} {t : TAw} {nm : Str} {sp : SpW}
theorem run_G {k : Nat} {f : Addr} {fd : FuncData} {ps : List Str} {pins : List (Addr × Obj)} {σ : L2.St} {H : Hp} {s : Shared} {us : List Value} {vs : List V} {ws : List Dt} {Fm : Hp} {O : OW} {Q : KW} {Q' : VK} {Ex : XW} {τ : SW}
    (Gf : FnG X.prog X.w X.K X.mg X.base k f fd ps sp) (hr : Room k X.A) (hg : Gd k X.A) (hb : Binds X.K fd ps []) (tk : Takes X (LX X.K X.mg Fm Ex))
    (I : Inv X pins σ H s) (r : Vals vs us) (S : Slots X.K X.mg H σ τ) (d : IsDs X.K X.mg H vs ws) (o : Own X.K X.mg Fm O H) (h : sp ws O Q fun x O' => Ex x τ O') (k' : ∀ v H', LQ X.K X.mg Fm H Q v H' → Q' v H') :
    wpAny (model X.prog X.w) X.A (call (.ref f) us) (EP X pins σ Q') X.xe s := by
  have hl : us.length = ps.length := by rw [← r.length, d.length]; exact Gf.len _ _ _ _ h
  have b := hb s us I.kIn (by rw [List.append_nil]; exact hl)
  rw [List.append_nil] at b
  refine wpAny_call (codeAny_mono (Gf.run X.A X.stack s H ⟨us, []⟩ us vs Q' (fun cls dd H' => LX X.K X.mg Fm Ex cls dd σ H') hr hg I.env0 b r ⟨Fm, ws, O, Q, _, d, o, h, k', fun x cls dd H' O' p o' er ee => ⟨x, τ, O', S.pers p, o', er, ee⟩⟩) fun r s' hq => ?_)
  cases r with
  | error e => exact tk e s' (L2N.XE.of_call I (fun _ _ _ z => z) hq)
  | ok fl =>
    cases fl with
    | ret u => exact I.after hq
    | next => exact False.elim hq
    | brk => exact False.elim hq
    | cont => exact False.elim hq
theorem we_call {j : Nat} (c : Callee X.prog X.w X.K X.mg X.base j nm sp) (hr : Room j X.A) (hg : Gd j X.A) (gl : Gl X nm) (ha : WA X (e :: es) t) (hdb : (nm == ("__debug__" : Str)) = false)
    (he : starEach (e :: es) X.env = (false, eval e X.env) :: starEach es X.env) (hpl : (backTo pos (starEach es X.env)).any (·.1) = false) : WE X (.Call (.Name nm p) (e :: es) [] pos) (callW sp t) := fun Fm Ex tk => by
  obtain ⟨k, f, fd, ps, hk, Gf, hm, hkp, hb⟩ := c.ex
  refine ⟨fun pins s σ H Q' I ⟨τ, O, Q, S, o, h, kk⟩ => ?_⟩
  refine wpAny_Call_Name_kw (ld_glob I gl hm ?_ hdb)
  refine PySem.W.callWith_K (h₀ := X.base) I.ok.mod.kin hkp (thn ((ha Fm Ex tk).run pos pins s σ H (fun vs H1 => ∃ ws O1, Pers H H1 ∧ IsDs X.K X.mg H1 vs ws ∧ Own X.K X.mg Fm O1 H1 ∧ sp ws O1 Q fun x O' => Ex x τ O') I ⟨τ, O, _, S, o, h, fun vs ws H1 O1 P d o q => ⟨ws, O1, P, d, o, q⟩⟩) fun us s1 ⟨vs, H1, I1, r, ws, O1, P1, d1, o1, q⟩ => ⟨I1.kIn, ?_⟩) he hpl
  exact run_G Gf (hr.mono hk) (hg.mono hk) hb tk I1 r (S.pers P1) d1 o1 q fun v H' z => kk v H' (z.trans P1)
theorem we_call0 {j : Nat} (c : Callee X.prog X.w X.K X.mg X.base j nm sp) (hr : Room j X.A) (hg : Gd j X.A) (gl : Gl X nm) (hdb : (nm == ("__debug__" : Str)) = false) : WE X (.Call (.Name nm p) [] [] pos) (callW sp nilA) := fun Fm Ex tk => by
  obtain ⟨k, f, fd, ps, hk, Gf, hm, hkp, hb⟩ := c.ex
  refine ⟨fun pins s σ H Q' I ⟨τ, O, Q, S, o, h, kk⟩ => ?_⟩
  refine wpAny_Call_Name_kw (ld_glob I gl hm ?_ hdb)
  exact PySem.W.callWith_K0 I.kIn hkp (run_G (us := []) (vs := []) Gf (hr.mono hk) (hg.mono hk) hb tk I .nil S .nil o h kk)
end

/-! ### calls of built-ins by data -/
abbrev RCW := List Dt → OW → KW → Prop
def CallW (X : Cx) (f : Value) (r : RCW) : Prop :=
  ∀ (Fm : Hp) (pins : List (Addr × Obj)) (s : Shared) (σ : L2.St) (H : Hp) (vs : List V) (us : List Value) (ws : List Dt) (O : OW) (Q : KW) (Q' : VK), Inv X pins σ H s → Vals vs us → IsDs X.K X.mg H vs ws → Own X.K X.mg Fm O H →
    r ws O Q → (∀ v H', LQ X.K X.mg Fm H Q v H' → Q' v H') → wpAny (model X.prog X.w) X.A (call f us) (EP X pins σ Q') X.xe s
def bltW (r : RCW) (t : TAw) : TEw := fun Ex τ O Q => t Ex τ O fun ws O1 => r ws O1 Q
section
variable {X : Cx} {e : Expr} {es : List Expr} {pos p : Pos} {t : TAw} {x : Str} {r : RCW} {id T : String}
theorem we_callB (hc : CallW X (.builtin id) r) (hg : Gl X x) (hm : X.mg x = none) (hv : bootBuiltins x = some (.builtin id)) (ha : WA X (e :: es) t) (hn : x ≠ "__name__") (hdb : (x == ("__debug__" : Str)) = false)
    (he : starEach (e :: es) X.env = (false, eval e X.env) :: starEach es X.env) (hpl : (backTo pos (starEach es X.env)).any (·.1) = false) : WE X (.Call (.Name x p) (e :: es) [] pos) (bltW r t) := fun Fm Ex tk => by
  refine ⟨fun pins s σ H Q' I ⟨τ, O, Q, S, o, h, kk⟩ => ?_⟩
  refine wpAny_Call_Name_kw (ld_blt I hg hm hv ?_ hn hdb)
  refine PyProof.Rows.callWith_builtin1 (thn ((ha Fm Ex tk).run pos pins s σ H (fun vs H1 => ∃ ws O1, Pers H H1 ∧ IsDs X.K X.mg H1 vs ws ∧ Own X.K X.mg Fm O1 H1 ∧ r ws O1 Q) I ⟨τ, O, _, S, o, h, fun vs ws H1 O1 P d o q => ⟨ws, O1, P, d, o, q⟩⟩) fun us s1 ⟨vs, H1, I1, r1, ws, O1, P1, d1, o1, q⟩ => ?_) he hpl
  exact hc Fm pins s1 σ H1 vs us ws O1 Q Q' I1 r1 d1 o1 q fun v H' z => kk v H' (z.trans P1)
theorem we_callTy (hc : CallW X (.type T) r) (hg : Gl X x) (hm : X.mg x = none) (hv : bootBuiltins x = some (.type T)) (ha : WA X (e :: es) t) (hn : x ≠ "__name__") (hdb : (x == ("__debug__" : Str)) = false)
    (he : starEach (e :: es) X.env = (false, eval e X.env) :: starEach es X.env) (hpl : (backTo pos (starEach es X.env)).any (·.1) = false) : WE X (.Call (.Name x p) (e :: es) [] pos) (bltW r t) := fun Fm Ex tk => by
  refine ⟨fun pins s σ H Q' I ⟨τ, O, Q, S, o, h, kk⟩ => ?_⟩
  refine wpAny_Call_Name_kw (ld_blt I hg hm hv ?_ hn hdb)
  refine PyProof.Rows.callWith_type1 (thn ((ha Fm Ex tk).run pos pins s σ H (fun vs H1 => ∃ ws O1, Pers H H1 ∧ IsDs X.K X.mg H1 vs ws ∧ Own X.K X.mg Fm O1 H1 ∧ r ws O1 Q) I ⟨τ, O, _, S, o, h, fun vs ws H1 O1 P d o q => ⟨ws, O1, P, d, o, q⟩⟩) fun us s1 ⟨vs, H1, I1, r1, ws, O1, P1, d1, o1, q⟩ => ?_) he hpl
  exact hc Fm pins s1 σ H1 vs us ws O1 Q Q' I1 r1 d1 o1 q fun v H' z => kk v H' (z.trans P1)
/-- by a rule of the layer below -/
theorem CallW.of {f : Value} {rH : List V → Hp → VK → Prop} (hc : CallR X f rH) (h : ∀ (Fm H : Hp) (vs : List V) (ws : List Dt) (O : OW) (Q : KW) (Q' : VK), IsDs X.K X.mg H vs ws → Own X.K X.mg Fm O H → r ws O Q → (∀ v H', LQ X.K X.mg Fm H Q v H' → Q' v H') → rH vs H Q') : CallW X f r :=
  fun Fm pins s σ H vs us ws O Q Q' I rv d o q k => hc pins s σ H vs us Q' I rv (h Fm H vs ws O Q Q' d o q k)
/-- .. that hands back a new list -/
theorem CallW.ofL {f : Value} {rH : List V → Hp → VK → Prop} (hc : CallR X f rH) (h : ∀ (Fm H : Hp) (vs : List V) (ws : List Dt) (O : OW) (Q : KW) (Q' : VK), IsDs X.K X.mg H vs ws → Own X.K X.mg Fm O H → r ws O Q →
      (∀ p ys zs fz, H p = none → IsDs X.K X.mg H ys zs → newL fz zs O Q → Q' (.ref p) (upd H p (.lst ys))) → rH vs H Q') : CallW X f r := by
  intro Fm pins s σ H vs us ws O Q Q' I rv d o q k
  refine thn (hc pins s σ H vs us (fun v H' => ∃ p ys zs fz, v = .ref p ∧ H' = upd H p (.lst ys) ∧ H p = none ∧ IsDs X.K X.mg H ys zs ∧ newL fz zs O Q) I rv (h Fm H vs ws O Q _ d o q fun p ys zs fz np d2 q2 => ⟨p, ys, zs, fz, rfl, rfl, np, d2, q2⟩)) fun u s1 ⟨v, H', I', r', p, ys, zs, fz, e1, e2, np, d2, q2⟩ => ?_
  subst e1 e2
  cases r'
  exact ep_newL np (Pers.refl H) I' d2 o q2 k
end
end TF

set_option maxHeartbeats 4000000
/-! TFB: sorted, max, min of tuples of ints -/
namespace TF
open PySem PySem.Spec L2 PyProof.Rows SrtO SrtR Srt
section
variable {prog : Program} {w : World} {A : Around} {E : Value → Shared → Prop} {s : Shared}
theorem collect_tup {l : Addr} {vs : List Value} {Q : List Value → Shared → Prop} (hl : s.heap.IsTuple l vs.toArray)
    (h : Q vs { s with heap := (s.heap.push (seqObj "list" #[] 0)).update s.heap.objs.size (Obj.mapSeq (· ++ vs.toArray)) }) (hsz : vs.length ≤ sizeLine) :
    wpAny (model prog w) A (collect (.ref l)) Q E s := by
  obtain ⟨o, ho, hc, n, hd⟩ := id hl
  unfold collect
  refine wpAny_bind (wpAny_runValue (codeAny_builtin entry_proto_collect' ?_))
  show wpAny _ _ (do again (.builtin "list.__iadd__" ⟨[← newList [], .ref l], []⟩)) _ _ s
  refine wpAny_bind (wpAny_newList (wpAny_pure ⟨Code.quiet_builtin _ (by decide +kernel), codeAny_builtin entry_list_iadd' ?_⟩))
  show wpAny _ _ (Builtin.List.listExtendWith (.ref s.heap.objs.size) (.ref l) (.ref s.heap.objs.size)) _ _ { s with heap := s.heap.push (seqObj "list" #[] 0) }
  unfold Builtin.List.listExtendWith
  have ho' : (s.heap.push (seqObj "list" #[] 0)).get? l = some o := Heap.get?_push_of_some _ ho
  refine wpAny_bind (wpAny_typeOf (T := "tuple") ⟨o, ho', hc⟩ ?_)
  have ht : (Value.type "tuple" == Value.type "tuple") = true := by rfl
  rw [if_pos (by rw [ht]; simp)]
  refine wpAny_bind (listItems_at ho' hd ?_)
  refine wpAny_bind (listItems_at (xs := #[]) (n := 0) (Heap.get?_push_size _ rfl) rfl ?_)
  rw [if_neg (by simp)]
  refine wpAny_bind (listUpdate_at (xs := #[]) (n := 0) (Heap.get?_push_size _ rfl) rfl ?_ (Nat.zero_le _) (by show (#[] ++ vs.toArray).size ≤ sizeLine + 1; simp only [Array.size_append, List.size_toArray, List.length_nil]; omega))
  refine wpAny_pure ?_
  show wpAny (model prog w) A (do
      let o ← load s.heap.objs.size
      match o.data with
      | .seq xs _ => pure xs.toList
      | _ => unsupported "internal:collect") Q E { s with heap := (s.heap.push (seqObj "list" #[] 0)).update s.heap.objs.size (Obj.mapSeq (· ++ vs.toArray)) }
  refine wpAny_bind (wpAny_load (get?_update_seq (Heap.get?_push_size _ rfl) _) ?_)
  show wpAny _ _ (pure ((#[] : Array Value) ++ vs.toArray).toList) Q E _
  rw [show ((#[] : Array Value) ++ vs.toArray).toList = vs by simp]
  exact wpAny_pure h
theorem sorted_ordT {l : Addr} {vs : List Value} {ltv : Value → Value → Bool} {Q : Value → Shared → Prop} (O : Swo ltv) (hl : s.heap.IsTuple l vs.toArray) (hz : vs.length ≤ sizeLine)
    (hS : 2 ≤ vs.length → ∀ (h₁ : Heap) (a : Addr), h₁.get? a = some (seqObj "list" vs.toArray 0) → (∀ b o, s.heap.get? b = some o → b ≠ a ∧ h₁.get? b = some o) → SortableO prog w A.in1.in1 { s with heap := h₁ } a vs ltv)
    (h : ∀ out : List Value, Srtd ltv out → Stb ltv out vs → Q (.ref (s.heap.objs.size + 1)) { s with heap := sortedAll s.heap vs out.toArray }) :
    wpAny (model prog w) A (call (.builtin "sorted") [.ref l]) Q E s := by
  refine Calls.call_function_entry kind_sorted plain_sorted entry_sorted (args_sorted1 _) ?_
  unfold Builtin.«sorted»
  refine wpAny_bind (m := checkCount "sorted" 1 1 _) (wpAny_pure ?_)
  refine wpAny_bind (collect_tup hl ?_ hz)
  refine wpAny_bind (wpAny_newList ?_ hz)
  have hsz : ((s.heap.push (seqObj "list" #[] 0)).update s.heap.objs.size (Obj.mapSeq (· ++ vs.toArray))).objs.size = s.heap.objs.size + 1 := by
    rw [Heap.size_update, size_push']
  have hoL : (((s.heap.push (seqObj "list" #[] 0)).update s.heap.objs.size (Obj.mapSeq (· ++ vs.toArray))).push (seqObj "list" vs.toArray 0)).get? (s.heap.objs.size + 1) = some (seqObj "list" vs.toArray 0) := by
    rw [← hsz]; exact Heap.get?_push_size _ rfl
  have keep : ∀ b o, s.heap.get? b = some o → b ≠ s.heap.objs.size + 1 ∧ (((s.heap.push (seqObj "list" #[] 0)).update s.heap.objs.size (Obj.mapSeq (· ++ vs.toArray))).push (seqObj "list" vs.toArray 0)).get? b = some o := fun b o q => by
    have hlt : b < s.heap.objs.size := Heap.lt_size q
    refine ⟨Nat.ne_of_lt (Nat.lt_succ_of_lt hlt), Heap.get?_push_of_some _ ?_⟩
    rw [Heap.get?_update_ne _ _ _ _ (Nat.ne_of_lt hlt)]
    exact Heap.get?_push_of_some _ q
  show wpAny _ _ _ _ _ { s with heap := ((s.heap.push (seqObj "list" #[] 0)).update s.heap.objs.size (Obj.mapSeq (· ++ vs.toArray))).push (seqObj "list" vs.toArray 0) }
  rw [hsz]
  refine wpAny_bind (wpAny_holding (wpAny_call_entry slot_list_sort ⟨_, hoL, rfl⟩ entry_list_sort (list_sort_ord O hoL hz (fun h2 => hS h2 _ _ hoL keep) fun out hs hb => ⟨_, rfl, ?_⟩) (args_list_sort _)))
  exact wpAny_pure ⟨_, rfl, h out hs hb⟩
theorem sorted_ordKT {l : Addr} {vs : List Value} {b : Bool} {kw : List (Str × Value)} {ltv : Value → Value → Bool} {Q : Value → Shared → Prop} (hk : ∀ a, Builtin.«list.sort» ⟨[.ref a], kw⟩ = Builtin.«list.sort» ⟨[.ref a], [(Str.ofString "reverse", .bool b)]⟩)
    (ha1 : argsOk "sorted" ⟨[.ref l], kw⟩) (ha2 : ∀ a, argsOk "list.sort" ⟨[a], kw⟩) (O : Swo ltv) (hl : s.heap.IsTuple l vs.toArray) (hz : vs.length ≤ sizeLine)
    (hS : 2 ≤ vs.length → ∀ (h₁ : Heap) (a : Addr), h₁.get? a = some (seqObj "list" vs.toArray 0) → (∀ b o, s.heap.get? b = some o → b ≠ a ∧ h₁.get? b = some o) → SortableO prog w A.in1.in1 { s with heap := h₁ } a vs ltv)
    (h : ∀ out : List Value, Srtd ltv out → Stb ltv out (if b = true then vs.reverse else vs) → Q (.ref (s.heap.objs.size + 1)) { s with heap := sortedAll s.heap vs (if b = true then out.toArray.reverse else out.toArray) }) :
    wpAny (model prog w) A (call (.builtin "sorted") [.ref l] kw) Q E s := by
  refine call_function_entry_kw kind_sorted plain_sorted entry_sorted ha1 ?_
  unfold Builtin.«sorted»
  refine wpAny_bind (m := checkCount "sorted" 1 1 _) (wpAny_pure ?_)
  refine wpAny_bind (collect_tup hl ?_ hz)
  refine wpAny_bind (wpAny_newList ?_ hz)
  have hsz : ((s.heap.push (seqObj "list" #[] 0)).update s.heap.objs.size (Obj.mapSeq (· ++ vs.toArray))).objs.size = s.heap.objs.size + 1 := by
    rw [Heap.size_update, size_push']
  have hoL : (((s.heap.push (seqObj "list" #[] 0)).update s.heap.objs.size (Obj.mapSeq (· ++ vs.toArray))).push (seqObj "list" vs.toArray 0)).get? (s.heap.objs.size + 1) = some (seqObj "list" vs.toArray 0) := by
    rw [← hsz]; exact Heap.get?_push_size _ rfl
  have keep : ∀ b o, s.heap.get? b = some o → b ≠ s.heap.objs.size + 1 ∧ (((s.heap.push (seqObj "list" #[] 0)).update s.heap.objs.size (Obj.mapSeq (· ++ vs.toArray))).push (seqObj "list" vs.toArray 0)).get? b = some o := fun b o q => by
    have hlt : b < s.heap.objs.size := Heap.lt_size q
    refine ⟨Nat.ne_of_lt (Nat.lt_succ_of_lt hlt), Heap.get?_push_of_some _ ?_⟩
    rw [Heap.get?_update_ne _ _ _ _ (Nat.ne_of_lt hlt)]
    exact Heap.get?_push_of_some _ q
  show wpAny _ _ _ _ _ { s with heap := ((s.heap.push (seqObj "list" #[] 0)).update s.heap.objs.size (Obj.mapSeq (· ++ vs.toArray))).push (seqObj "list" vs.toArray 0) }
  rw [hsz]
  refine wpAny_bind (wpAny_holding (wpAny_call_entry_kw slot_list_sort ⟨_, hoL, rfl⟩ entry_list_sort ?_ (ha2 _)))
  rw [hk]
  refine list_sort_ordR O hoL hz (fun h2 => hS h2 _ _ hoL keep) fun out hs hb => ⟨_, rfl, ?_⟩
  exact wpAny_pure ⟨_, rfl, h out hs hb⟩
end
section
variable {prog : Program} {w : World} {A : Around} {E : Value → Shared → Prop} {s : Shared} {l : Addr} {xs : Array (Int × Tok)} {its : List Value} {ns : List Int}
theorem iter_intTup {Q : Value → Shared → Prop} (hl : s.heap.IsTuple l (intItems xs))
    (h : ∀ s₂ : Shared, s₂ = { s with heap := s.heap.push { cls := .type "tuple_iterator", data := .fields #[.ref l, .int 0 0] } } →
      (s₂.heap.IsTupleIter s.heap.objs.size l 0 ∧ s₂.heap.IsTuple l (intItems xs)) → (∀ b ∈ [s.heap.objs.size, l], b < s₂.heap.objs.size) → l ≠ s.heap.objs.size → Q (.ref s.heap.objs.size) s₂) :
    wpAny (model prog w) A (pyIter (.ref l)) Q E s := by
  have hlt : l < s.heap.objs.size := by obtain ⟨_, e, _⟩ := hl; exact Heap.lt_size e
  refine wpAny_pyIter_tuple hl (h _ rfl ⟨⟨_, Heap.get?_push_size _ rfl, rfl, rfl⟩, hl.push _⟩ (fun b hb => ?_) (Nat.ne_of_lt hlt))
  show b < (s.heap.push _).objs.size
  rw [Heap.size_push]
  rcases List.mem_cons.mp hb with rfl | hb
  · exact Nat.lt_succ_self _
  · rcases List.mem_cons.mp hb with rfl | hb
    · exact Nat.lt_succ_of_lt hlt
    · cases hb
theorem old_keptT {h' : Heap} (hk : ∀ b o, b ∉ [s.heap.objs.size] → (s.heap.push { cls := .type "tuple_iterator", data := .fields #[.ref l, .int 0 0] }).get? b = some o → h'.get? b = some o) :
    ∀ b o, s.heap.get? b = some o → h'.get? b = some o := fun b o e => by
  refine hk b o (fun hm => ?_) (Heap.get?_push_of_some _ e)
  rcases List.mem_cons.mp hm with e1 | hm
  · exact absurd (e1 ▸ Heap.lt_size e) (Nat.lt_irrefl _)
  · cases hm
theorem max_tup_raw {Q : Value → Shared → Prop} (hh : A.handled = none) (hl : s.heap.IsTuple l its.toArray) (hi : IntsAre its ns) (hne : 0 < ns.length)
    (h : ∀ h' tk M t', (∀ b o, s.heap.get? b = some o → h'.get? b = some o) → M ∈ ns → (∀ a, a ∈ ns → a ≤ M) → Q (.int M t') { s with heap := h', toks := tk }) : wpAny (model prog w) A (call (.builtin "max") [.ref l]) Q E s := by
  obtain ⟨xs, e⟩ := hi.allInts.items
  have hn : numsOf (intItems xs).toList = ns := by rw [← e]; exact hi.numsOf
  rw [nums_intItems] at hn
  subst hn
  rw [e] at hl
  have hsz : 0 < xs.size := by simpa using hne
  refine call_max_walk (iter_intTup hl fun s₂ e st hfp hlI => ?_)
  subst e
  refine ⟨_, _, _, _, _, _, _, rfl, Walks.tuple (A := A.in1) hh _ l hlI (intItems xs), st, hfp, by simpa [intItems] using hne, CmpOf.ints_gt (numAt xs) (fun _ _ => intItems_at), fun v h' tk hv hk => ?_⟩
  obtain ⟨t, rfl⟩ := intItems_at hv
  rw [show (intItems xs).size = xs.size by simp [intItems]]
  obtain ⟨h1, h2⟩ := argBest_gt (numAt xs) (xs.size - 1)
  refine h h' tk _ t (old_keptT hk) ?_ fun a ha => ?_
  · rw [numAt_eq]; exact PySem.getD_mem (by rw [List.length_map, Array.length_toList]; omega)
  · obtain ⟨j, hj, rfl⟩ := mem_getD ha
    rw [List.length_map, Array.length_toList] at hj
    rw [← numAt_eq]; exact h2 j (by omega)
theorem min_tup_raw {Q : Value → Shared → Prop} (hh : A.handled = none) (hl : s.heap.IsTuple l its.toArray) (hi : IntsAre its ns) (hne : 0 < ns.length)
    (h : ∀ h' tk M t', (∀ b o, s.heap.get? b = some o → h'.get? b = some o) → M ∈ ns → (∀ a, a ∈ ns → M ≤ a) → Q (.int M t') { s with heap := h', toks := tk }) : wpAny (model prog w) A (call (.builtin "min") [.ref l]) Q E s := by
  obtain ⟨xs, e⟩ := hi.allInts.items
  have hn : numsOf (intItems xs).toList = ns := by rw [← e]; exact hi.numsOf
  rw [nums_intItems] at hn
  subst hn
  rw [e] at hl
  have hsz : 0 < xs.size := by simpa using hne
  refine call_min_walk (iter_intTup hl fun s₂ e st hfp hlI => ?_)
  subst e
  refine ⟨_, _, _, _, _, _, _, rfl, Walks.tuple (A := A.in1) hh _ l hlI (intItems xs), st, hfp, by simpa [intItems] using hne, CmpOf.ints_lt (numAt xs) (fun _ _ => intItems_at), fun v h' tk hv hk => ?_⟩
  obtain ⟨t, rfl⟩ := intItems_at hv
  rw [show (intItems xs).size = xs.size by simp [intItems]]
  obtain ⟨h1, h2⟩ := argBest_lt (numAt xs) (xs.size - 1)
  refine h h' tk _ t (old_keptT hk) ?_ fun a ha => ?_
  · rw [numAt_eq]; exact PySem.getD_mem (by rw [List.length_map, Array.length_toList]; omega)
  · obtain ⟨j, hj, rfl⟩ := mem_getD ha
    rw [List.length_map, Array.length_toList] at hj
    rw [← numAt_eq]; exact h2 j (by omega)
end

section
variable {X : Cx}
theorem cr_sortedQ : CallR X (.builtin "sorted") (fun vs H Q => ∃ (a : Addr) (ns : List Int), vs = [V.ref a] ∧ SqT X.K H a (ns.map V.int) ∧ ∀ (ns' : List Int) (p : Addr), ns'.Perm ns → ns'.Pairwise (· ≤ ·) → H p = none → Q (.ref p) (upd H p (.lst (ns'.map V.int)))) := by
  intro pins s σ H vs us Q I r h
  obtain ⟨a, ns, rfl, hs, q⟩ := h
  obtain ⟨its, rv, hl, hz⟩ := I.tuple hs
  rw [Vals.ref1 r]
  have hi := rv.ints
  refine sorted_ordT SrtO.swo_int hl (by rw [← rv.length]; exact hz) (fun h2 h₁ a' _ _ => SrtO.ints_sortable hi h2) fun out h1 h2 => ?_
  obtain ⟨k1, k2, k3⟩ := SrtO.ints_out hi h1 h2
  obtain ⟨ep, he'⟩ := PyProof.Rows.sortedAll_at s.heap its out.toArray
  have hlen : ((out.map SrtO.iv).map V.int).length ≤ sizeLine := by
    rw [List.length_map, k2.length_eq]
    rw [List.length_map] at hz
    exact hz
  exact ⟨.ref _, upd H (s.heap.objs.size + 1) (.lst ((out.map SrtO.iv).map V.int)), I.laid (t' := s.toks) (fun _ _ => PyProof.Rows.sortedAll_old) (Nat.le_succ _) ⟨hlen, out, ep, vals_of_ints k1, he'⟩, rfl, q _ _ k2 k3 (I.hok.fresh (Nat.le_succ _))⟩
theorem sorted_runT {b : Bool} {kw : List (Str × Value)} {pins : List (Addr × Obj)} {s : Shared} {σ : L2.St} {H : Hp} {a : Addr} {ns : List Int} {Q : VK} (I : Inv X pins σ H s) (hs : SqT X.K H a (ns.map V.int))
    (hk : ∀ a, Builtin.«list.sort» ⟨[.ref a], kw⟩ = Builtin.«list.sort» ⟨[.ref a], [(Str.ofString "reverse", .bool b)]⟩) (ha1 : argsOk "sorted" ⟨[.ref a], kw⟩) (ha2 : ∀ a, argsOk "list.sort" ⟨[a], kw⟩)
    (q : ∀ (ns' : List Int) (p : Addr), ns'.Perm ns → OrdB b ns' → H p = none → Q (.ref p) (upd H p (.lst (ns'.map V.int)))) : wpAny (model X.prog X.w) X.A (call (.builtin "sorted") [.ref a] kw) (EP X pins σ Q) X.xe s := by
  obtain ⟨its, rv, hl, hz⟩ := I.tuple hs
  have hi := rv.ints
  refine sorted_ordKT hk ha1 ha2 SrtO.swo_int hl (by rw [← rv.length]; exact hz) (fun h2 h₁ a' _ _ => SrtO.ints_sortable hi h2) fun out h1 h2 => ?_
  obtain ⟨ns', k1, k2, k3⟩ := SrtR.ints_outR hi h1 h2
  obtain ⟨ep, he'⟩ := PyProof.Rows.sortedAll_at s.heap its (if b = true then out.toArray.reverse else out.toArray)
  have hlen : (ns'.map V.int).length ≤ sizeLine := by
    rw [List.length_map, k2.length_eq]
    rw [List.length_map] at hz
    exact hz
  have e0 : ((if b = true then out.toArray.reverse else out.toArray).toList).toArray = (if b = true then out.toArray.reverse else out.toArray) := by rw [Array.toArray_toList]
  exact ⟨.ref _, upd H (s.heap.objs.size + 1) (.lst (ns'.map V.int)), I.laid (t' := s.toks) (fun _ _ => PyProof.Rows.sortedAll_old) (Nat.le_succ _) ⟨hlen, _, ep, vals_of_ints k1, by rw [e0]; exact he'⟩, rfl, q _ _ k2 k3 (I.hok.fresh (Nat.le_succ _))⟩
theorem cr_sortedRevQ {b : Bool} : CallRK X (.builtin "sorted") [Str.ofString "reverse"] (fun vs zs H Q => ∃ (a : Addr) (ns : List Int), vs = [V.ref a] ∧ zs = [.bl b] ∧ SqT X.K H a (ns.map V.int) ∧
    ∀ (ns' : List Int) (p : Addr), ns'.Perm ns → OrdB b ns' → H p = none → Q (.ref p) (upd H p (.lst (ns'.map V.int)))) := by
  intro pins s σ H vs zs us ws Q I r rz h
  obtain ⟨a, ns, rfl, rfl, hs, q⟩ := h
  obtain rfl := Vals.ref1 r
  obtain ⟨w1, rfl, e1⟩ := vals1 rz
  obtain rfl : w1 = Value.bool b := e1
  exact sorted_runT I hs (fun _ => rfl) (PyProof.Rows.args_sorted_rev _ _) (fun _ => PyProof.Rows.args_list_sort_rev _ _) q
theorem cr_maxQ (hc : X.calm = true) : CallR X (.builtin "max") (fun vs H Q => ∃ (a : Addr) (ns : List Int), vs = [V.ref a] ∧ SqT X.K H a (ns.map V.int) ∧ 0 < ns.length ∧ ∀ m, m ∈ ns → (∀ y ∈ ns, y ≤ m) → Q (.int m) H) := by
  intro pins s σ H vs us Q I r h
  obtain ⟨a, ns, rfl, hs, hne, q⟩ := h
  obtain ⟨its, rv, hl, _⟩ := I.tuple hs
  rw [Vals.ref1 r]
  exact max_tup_raw (I.ok.hd hc) hl rv.ints hne fun h' tk m t' hk h1 h2 => ⟨.int _, H, I.kept hk, ⟨_, rfl⟩, q m h1 h2⟩
theorem cr_minQ (hc : X.calm = true) : CallR X (.builtin "min") (fun vs H Q => ∃ (a : Addr) (ns : List Int), vs = [V.ref a] ∧ SqT X.K H a (ns.map V.int) ∧ 0 < ns.length ∧ ∀ m, m ∈ ns → (∀ y ∈ ns, m ≤ y) → Q (.int m) H) := by
  intro pins s σ H vs us Q I r h
  obtain ⟨a, ns, rfl, hs, hne, q⟩ := h
  obtain ⟨its, rv, hl, _⟩ := I.tuple hs
  rw [Vals.ref1 r]
  exact min_tup_raw (I.ok.hd hc) hl rv.ints hne fun h' tk m t' hk h1 h2 => ⟨.int _, H, I.kept hk, ⟨_, rfl⟩, q m h1 h2⟩
end
end TF

/-! TF6: built-in functions and methods by data -/
namespace TF
open PySem PySem.Spec L2

abbrev istr (i : Int) : Str := Str.ofString (toString i)
theorem log_small {i : Int} (h : Small i) : i.natAbs.log2 < 1920 := Nat.lt_trans h.log (by decide)
/-- the entries of a dict: frozen, or owned -/
def asK (O : OW) : Dt → Option (List (Key × Dt))
  | .dct kvs => some kvs
  | .ref a => match O a with
    | some (.dct kvs) => some kvs
    | _ => none
  | _ => none

def len1 (w : Dt) (O : OW) (Q : KW) : Prop := match w with
  | .scr ws => Q (.int ws.length) O
  | .str s => s.length ≤ LIM ∧ Q (.int s.length) O
  | w => match asQ O w with
    | some l => Q (.int l.length) O
    | none => False
def lenW : RCW := fun ws O Q => match ws with
  | [w] => len1 w O Q
  | _ => False
def max2W : RCW := fun ws O Q => match ws with
  | [.int i, .int j] => Q (.int (if j > i then j else i)) O
  | _ => False
def min2W : RCW := fun ws O Q => match ws with
  | [.int i, .int j] => Q (.int (if j < i then j else i)) O
  | _ => False
def absW : RCW := fun ws O Q => match ws with
  | [.int i] => Q (.int (if i < 0 then -i else i)) O
  | _ => False
def strW : RCW := fun ws O Q => match ws with
  | [.int i] => Small i ∧ Q (.str (istr i)) O
  | [.str s] => Q (.str s) O
  | _ => False
def intW : RCW := fun ws O Q => match ws with
  | [.int i] => Q (.int i) O
  | [.bl b] => Q (.int (if b then 1 else 0)) O
  | [.str s] => ∃ n, intText? s = some n ∧ s.length ≤ 640 ∧ Q (.int n) O
  | _ => False
def allW : RCW := fun ws O Q => match ws with
  | [w] => ∃ bs : List Bool, asL O w = some (bs.map Dt.bl) ∧ Q (.bl (bs.all id)) O
  | _ => False
def sumW : RCW := fun ws O Q => match ws with
  | [w] => ∃ ns : List Int, asL O w = some (ns.map Dt.int) ∧ Q (.int ns.sum) O
  | _ => False
def max1W : RCW := fun ws O Q => match ws with
  | [w] => ∃ ns : List Int, asQ O w = some (ns.map Dt.int) ∧ 0 < ns.length ∧ ∀ m, m ∈ ns → (∀ y ∈ ns, y ≤ m) → Q (.int m) O
  | _ => False
def min1W : RCW := fun ws O Q => match ws with
  | [w] => ∃ ns : List Int, asQ O w = some (ns.map Dt.int) ∧ 0 < ns.length ∧ ∀ m, m ∈ ns → (∀ y ∈ ns, m ≤ y) → Q (.int m) O
  | _ => False
def listW (fz : Bool) : RCW := fun ws O Q => match ws with
  | [w] => match asQ O w with
    | some l => newL fz l O Q
    | none => False
  | _ => False
def tupleW : RCW := fun ws O Q => match ws with
  | [w] => match asQ O w with
    | some l => Q (.tup l) O
    | none => False
  | _ => False
def sortedW (fz : Bool) : RCW := fun ws O Q => match ws with
  | [w] => ∃ ns : List Int, asQ O w = some (ns.map Dt.int) ∧ ∀ ns' : List Int, ns'.Perm ns → ns'.Pairwise (· ≤ ·) → newL fz (ns'.map Dt.int) O Q
  | _ => False
def divmodW : RCW := fun ws O Q => match ws with
  | [.int i, .int j] => (0 < j ∧ j < 1073741824) ∧ Q (.tup [.int (i / j), .int (i % j)]) O
  | _ => False
def reprW : RCW := fun ws O Q => match ws with
  | [.int i] => Small i ∧ Q (.str (istr i)) O
  | _ => False
inductive Blt where | repr | divmod | len | max2 | min2 | abs | str | int | all | sum | max1 | min1 | list (fz : Bool) | tuple | sorted (fz : Bool)
def Blt.sem : Blt → RCW
  | .repr => reprW | .divmod => divmodW | .len => lenW | .max2 => max2W | .min2 => min2W | .abs => absW | .str => strW | .int => intW | .all => allW | .sum => sumW | .max1 => max1W | .min1 => min1W
  | .list fz => listW fz | .tuple => tupleW | .sorted fz => sortedW fz
/-- its name, its built-in -/
def Blt.nm : Blt → Str
  | .repr => "repr" | .divmod => "divmod" | .len => "len" | .max2 => "max" | .min2 => "min" | .abs => "abs" | .str => "str" | .int => "int" | .all => "all" | .sum => "sum" | .max1 => "max" | .min1 => "min"
  | .list _ => "list" | .tuple => "tuple" | .sorted _ => "sorted"
def Blt.val : Blt → Value
  | .repr => .builtin "repr" | .divmod => .builtin "divmod" | .len => .builtin "len" | .max2 => .builtin "max" | .min2 => .builtin "min" | .abs => .builtin "abs" | .str => .type "str" | .int => .type "int" | .all => .builtin "all" | .sum => .builtin "sum" | .max1 => .builtin "max" | .min1 => .builtin "min"
  | .list _ => .type "list" | .tuple => .type "tuple" | .sorted _ => .builtin "sorted"
theorem Blt.boot (b : Blt) : bootBuiltins b.nm = some b.val := by cases b <;> first | decide +kernel | (rename_i fz; cases fz <;> decide +kernel)
theorem Blt.nn (b : Blt) : b.nm ≠ "__name__" := by cases b <;> first | decide +kernel | (rename_i fz; cases fz <;> decide +kernel)
theorem Blt.nd (b : Blt) : (b.nm == ("__debug__" : Str)) = false := by cases b <;> first | decide +kernel | (rename_i fz; cases fz <;> decide +kernel)

section
variable {X : Cx}
theorem IsDs.one {K : PySem.W.Frag} {mg : Str → Option Value} {H : Hp} {vs : List V} {w : Dt} (h : IsDs K mg H vs [w]) : ∃ v, vs = [v] ∧ IsD K mg H v w := by
  cases h with
  | cons a b => cases b; exact ⟨_, rfl, a⟩
theorem IsDs.two {K : PySem.W.Frag} {mg : Str → Option Value} {H : Hp} {vs : List V} {w x : Dt} (h : IsDs K mg H vs [w, x]) : ∃ v u, vs = [v, u] ∧ IsD K mg H v w ∧ IsD K mg H u x := by
  cases h with
  | cons a b => cases b with | cons c d => cases d; exact ⟨_, _, rfl, a, c⟩
theorem one_of {r : Dt → OW → KW → Prop} {ws : List Dt} {O : OW} {Q : KW} (h : (match ws with | [w] => r w O Q | _ => False)) : ∃ w, ws = [w] ∧ r w O Q := by
  match ws, h with
  | [w], h => exact ⟨w, rfl, h⟩
theorem len_ok : CallW X (.builtin "len") lenW := by
  intro Fm pins s σ H vs us ws O Q Q' I rv d o q k
  obtain ⟨w, rfl, q⟩ := one_of (r := len1) q
  obtain ⟨v, ev, dv⟩ := d.one
  subst ev
  have rest : (match asQ O w with | some l => Q (.int l.length) O | none => False) → wpAny (model X.prog X.w) X.A (call (.builtin "len") us) (EP X pins σ Q') X.xe s := by
    intro q
    cases e : asQ O w with
    | none => rw [e] at q; exact q.elim
    | some l =>
      rw [e] at q
      obtain ⟨a, xs, rfl, hq, t⟩ := asQ_rd dv o e
      refine call_len_seq pins s σ H _ us Q' I rv ⟨a, xs, rfl, hq.imp (fun z => .inl z) (fun z => z.tup), ?_⟩
      rw [t.length]
      exact k _ _ (LQ.mk (.int _) o q)
  cases w with
  | scr ws =>
    cases dv with
    | scr h1 t =>
      refine call_len_seq pins s σ H _ us Q' I rv ⟨_, _, rfl, .inl h1.sql, ?_⟩
      rw [t.length]
      exact k _ _ (LQ.mk (.int _) o q)
  | str z =>
    rw [dv.of_str] at rv
    exact call_len_str pins s σ H _ us Q' I rv ⟨z, rfl, by rw [lim_eq]; exact q.1, k _ _ (LQ.mk (.int _) o q.2)⟩
  | _ => exact rest q
theorem two_ints {r : Int → Int → OW → KW → Prop} {ws : List Dt} {O : OW} {Q : KW} (h : (match ws with | [.int i, .int j] => r i j O Q | _ => False)) : ∃ i j, ws = [.int i, .int j] ∧ r i j O Q := by
  match ws, h with
  | [.int i, .int j], h => exact ⟨i, j, rfl, h⟩
theorem max2_ok (hc : X.calm = true) : CallW X (.builtin "max") max2W := by
  refine CallW.of (call_max2 hc) fun Fm H vs ws O Q Q' d o q k => ?_
  obtain ⟨i, j, rfl, q⟩ := two_ints (r := fun i j O Q => Q (.int (if j > i then j else i)) O) q
  obtain ⟨v, u, ev, d1, d2⟩ := d.two
  subst ev
  rw [d1.of_int, d2.of_int]
  exact ⟨i, j, rfl, k _ _ (LQ.mk (.int _) o q)⟩
theorem min2_ok (hc : X.calm = true) : CallW X (.builtin "min") min2W := by
  refine CallW.of (call_min2 hc) fun Fm H vs ws O Q Q' d o q k => ?_
  obtain ⟨i, j, rfl, q⟩ := two_ints (r := fun i j O Q => Q (.int (if j < i then j else i)) O) q
  obtain ⟨v, u, ev, d1, d2⟩ := d.two
  subst ev
  rw [d1.of_int, d2.of_int]
  exact ⟨i, j, rfl, k _ _ (LQ.mk (.int _) o q)⟩
theorem abs_ok : CallW X (.builtin "abs") absW := by
  refine CallW.of call_abs fun Fm H vs ws O Q Q' d o q k => ?_
  match ws, q with
  | [.int i], q =>
    obtain ⟨v, ev, dv⟩ := d.one
    subst ev
    rw [dv.of_int]
    exact ⟨i, rfl, k _ _ (LQ.mk (.int _) o q)⟩
theorem str_ok : CallW X (.type "str") strW := by
  intro Fm pins s σ H vs us ws O Q Q' I rv d o q k
  match ws, q with
  | [.int i], q =>
    obtain ⟨v, ev, dv⟩ := d.one
    subst ev
    rw [dv.of_int] at rv
    exact call_str_int pins s σ H _ us Q' I rv ⟨i, rfl, log_small q.1, k _ _ (LQ.mk (.str _) o q.2)⟩
  | [.str z], q =>
    obtain ⟨v, ev, dv⟩ := d.one
    subst ev
    rw [dv.of_str] at rv
    exact SkE.call_str_str pins s σ H _ us Q' I rv ⟨z, rfl, k _ _ (LQ.mk (.str _) o q)⟩
theorem int_ok : CallW X (.type "int") intW := by
  intro Fm pins s σ H vs us ws O Q Q' I rv d o q k
  match ws, q with
  | [.int i], q =>
    obtain ⟨v, ev, dv⟩ := d.one
    subst ev
    rw [dv.of_int] at rv
    exact call_int1 pins s σ H _ us Q' I rv (.inl ⟨i, rfl, k _ _ (LQ.mk (.int _) o q)⟩)
  | [.bl b], q =>
    obtain ⟨v, ev, dv⟩ := d.one
    subst ev
    rw [dv.of_bl] at rv
    exact call_int1 pins s σ H _ us Q' I rv (.inr ⟨b, rfl, k _ _ (LQ.mk (.int _) o q)⟩)
  | [.str z], ⟨n, e, hl, q⟩ =>
    obtain ⟨v, ev, dv⟩ := d.one
    subst ev
    rw [dv.of_str] at rv
    exact call_int_str pins s σ H _ us Q' I rv ⟨z, n, rfl, e, hl, k _ _ (LQ.mk (.int _) o q)⟩
theorem all_ok (hc : X.calm = true) : CallW X (.builtin "all") allW := by
  refine CallW.of (cr_all hc) fun Fm H vs ws O Q Q' d o q k => ?_
  obtain ⟨w, rfl, bs, e, q⟩ := one_of (r := fun w O Q => ∃ bs : List Bool, asL O w = some (bs.map Dt.bl) ∧ Q (.bl (bs.all id)) O) q
  obtain ⟨v, ev, dv⟩ := d.one
  subst ev
  obtain ⟨a, xs, rfl, hq, t⟩ := asL_rd dv o e
  exact ⟨a, bs, rfl, by rw [← t.bls]; exact .inl hq, k _ _ (LQ.mk (.bl _) o q)⟩
theorem sum_ok (hc : X.calm = true) : CallW X (.builtin "sum") sumW := by
  refine CallW.of (cr_sum hc) fun Fm H vs ws O Q Q' d o q k => ?_
  obtain ⟨w, rfl, ns, e, q⟩ := one_of (r := fun w O Q => ∃ ns : List Int, asL O w = some (ns.map Dt.int) ∧ Q (.int ns.sum) O) q
  obtain ⟨v, ev, dv⟩ := d.one
  subst ev
  obtain ⟨a, xs, rfl, hq, t⟩ := asL_rd dv o e
  exact ⟨a, ns, rfl, by rw [← t.ints]; exact .inl hq, k _ _ (LQ.mk (.int _) o q)⟩
theorem max1_ok (hc : X.calm = true) : CallW X (.builtin "max") max1W := by
  intro Fm pins s σ H vs us ws O Q Q' I rv d o q k
  obtain ⟨w, rfl, ns, e, hl, q⟩ := one_of (r := fun w O Q => ∃ ns : List Int, asQ O w = some (ns.map Dt.int) ∧ 0 < ns.length ∧ ∀ m, m ∈ ns → (∀ y ∈ ns, y ≤ m) → Q (.int m) O) q
  obtain ⟨v, ev, dv⟩ := d.one
  subst ev
  obtain ⟨a, xs, rfl, hq, t⟩ := asQ_rd dv o e
  rcases hq with hq | hq
  · exact cr_max hc pins s σ H _ us Q' I rv ⟨a, ns, rfl, by rw [← t.ints]; exact .inl hq, hl, fun m h1 h2 => k _ _ (LQ.mk (.int _) o (q m h1 h2))⟩
  · exact cr_maxQ hc pins s σ H _ us Q' I rv ⟨a, ns, rfl, by rw [← t.ints]; exact hq.tup, hl, fun m h1 h2 => k _ _ (LQ.mk (.int _) o (q m h1 h2))⟩
theorem min1_ok (hc : X.calm = true) : CallW X (.builtin "min") min1W := by
  intro Fm pins s σ H vs us ws O Q Q' I rv d o q k
  obtain ⟨w, rfl, ns, e, hl, q⟩ := one_of (r := fun w O Q => ∃ ns : List Int, asQ O w = some (ns.map Dt.int) ∧ 0 < ns.length ∧ ∀ m, m ∈ ns → (∀ y ∈ ns, m ≤ y) → Q (.int m) O) q
  obtain ⟨v, ev, dv⟩ := d.one
  subst ev
  obtain ⟨a, xs, rfl, hq, t⟩ := asQ_rd dv o e
  rcases hq with hq | hq
  · exact cr_min hc pins s σ H _ us Q' I rv ⟨a, ns, rfl, by rw [← t.ints]; exact .inl hq, hl, fun m h1 h2 => k _ _ (LQ.mk (.int _) o (q m h1 h2))⟩
  · exact cr_minQ hc pins s σ H _ us Q' I rv ⟨a, ns, rfl, by rw [← t.ints]; exact hq.tup, hl, fun m h1 h2 => k _ _ (LQ.mk (.int _) o (q m h1 h2))⟩
theorem list_ok (fz : Bool) : CallW X (.type "list") (listW fz) := by
  refine CallW.ofL call_list_of fun Fm H vs ws O Q Q' d o q k => ?_
  obtain ⟨w, ew, q1⟩ := one_of (r := fun w O Q => match asQ O w with | some l => newL fz l O Q | none => False) q
  subst ew
  obtain ⟨v, ev, dv⟩ := d.one
  subst ev
  cases e : asQ O w with
  | none => rw [e] at q1; exact q1.elim
  | some l =>
    rw [e] at q1
    obtain ⟨a, xs, rfl, hq, t⟩ := asQ_rd dv o e
    exact ⟨a, xs, rfl, hq.imp (fun z => .inl z) (fun z => z.tup), fun p np => k p xs l fz np t q1⟩
theorem tuple_ok : CallW X (.type "tuple") tupleW := by
  intro Fm pins s σ H vs us ws O Q Q' I rv d o q k
  obtain ⟨w, rfl, q⟩ := one_of (r := fun w O Q => match asQ O w with | some l => Q (.tup l) O | none => False) q
  obtain ⟨v, ev, dv⟩ := d.one
  subst ev
  obtain ⟨u, rfl, rx⟩ := vals1 rv
  have lists : ∀ l, asL O w = some l → Q (.tup l) O → wpAny (model X.prog X.w) X.A (call (.type "tuple") [u]) (EP X pins σ Q') X.xe s := by
    intro l e q
    obtain ⟨a, xs, rfl, hq, t⟩ := asL_rd dv o e
    cases rx
    obtain ⟨its, r', pl, hz⟩ := I.list (.inl hq)
    have hlen := r'.length
    refine call_tuple_list pl.isList (fun h' kp => ?_) (by simp only [List.size_toArray] <;> omega)
    have I1 : Inv X pins σ H { s with heap := h' } := I.kept (t' := s.toks) kp
    exact ep_newT (t' := s.toks) I1 r' hz (Pers.refl H) t o q k
  cases w with
  | tup l =>
    cases dv with
    | tup h1 t1 =>
      cases rx
      obtain ⟨its, r', pl, hz⟩ := I.tuple h1.tup
      exact call_tuple_same pl ⟨.ref _, H, I, rfl, k _ _ (LQ.mk (.tup h1 t1) o q)⟩
  | lst l => exact lists l rfl q
  | ref a =>
    have q : (match asL O (.ref a) with | some l => Q (.tup l) O | none => False) := q
    cases e : asL O (.ref a) with
    | none => rw [e] at q; exact q.elim
    | some l => rw [e] at q; exact lists l e q
  | _ => exact q.elim
theorem ofL_ends {Fm : Hp} {pins : List (Addr × Obj)} {s1 : Shared} {σ : L2.St} {H : Hp} {O : OW} {Q : KW} {Q' : VK} {u : Value} {fz : Bool} (o : Own X.K X.mg Fm O H) (k : ∀ v H', LQ X.K X.mg Fm H Q v H' → Q' v H')
    (h : EP X pins σ (fun v H' => ∃ p ys zs, v = .ref p ∧ H' = upd H p (.lst ys) ∧ H p = none ∧ IsDs X.K X.mg H ys zs ∧ newL fz zs O Q) u s1) : EP X pins σ Q' u s1 := by
  obtain ⟨v, H', I', r', p, ys, zs, e1, e2, np, d2, q2⟩ := h
  subst e1 e2
  cases r'
  exact ep_newL np (Pers.refl H) I' d2 o q2 k
theorem sorted_ok (fz : Bool) : CallW X (.builtin "sorted") (sortedW fz) := by
  intro Fm pins s σ H vs us ws O Q Q' I rv d o q k
  obtain ⟨w, rfl, ns, e, q⟩ := one_of (r := fun w O Q => ∃ ns : List Int, asQ O w = some (ns.map Dt.int) ∧ ∀ ns' : List Int, ns'.Perm ns → ns'.Pairwise (· ≤ ·) → newL fz (ns'.map Dt.int) O Q) q
  obtain ⟨v, ev, dv⟩ := d.one
  subst ev
  obtain ⟨a, xs, rfl, hq, t⟩ := asQ_rd dv o e
  have fin : ∀ (ns' : List Int) (p : Addr), ns'.Perm ns → ns'.Pairwise (· ≤ ·) → H p = none → ∃ p_1 ys zs, V.ref p = .ref p_1 ∧ upd H p (.lst (ns'.map V.int)) = upd H p_1 (.lst ys) ∧ H p_1 = none ∧ IsDs X.K X.mg H ys zs ∧ newL fz zs O Q :=
    fun ns' p h1 h2 np => ⟨p, _, _, rfl, rfl, np, IsDs.map (f := V.int) (g := Dt.int) (fun i => .int i) ns', q ns' h1 h2⟩
  rcases hq with hq | hq
  · exact thn (cr_sortedI pins s σ H _ us _ I rv ⟨a, ns, rfl, by rw [← t.ints]; exact .inl hq, fin⟩) fun u s1 h => ofL_ends o k h
  · exact thn (cr_sortedQ pins s σ H _ us _ I rv ⟨a, ns, rfl, by rw [← t.ints]; exact hq.tup, fin⟩) fun u s1 h => ofL_ends o k h
theorem repr_ok : CallW X (.builtin "repr") reprW := by
  refine CallW.of SkE.call_repr_int fun Fm H vs ws O Q Q' d o q k => ?_
  match ws, q with
  | [.int i], q =>
    obtain ⟨v, ev, dv⟩ := d.one
    subst ev
    rw [dv.of_int]
    exact ⟨i, rfl, log_small q.1, k _ _ (LQ.mk (.str _) o q.2)⟩
theorem divmod_ok : CallW X (.builtin "divmod") divmodW := by
  intro Fm pins s σ H vs us ws O Q Q' I rv d o q k
  obtain ⟨i, j, rfl, hj, q⟩ := two_ints (r := fun i j O Q => (0 < j ∧ j < 1073741824) ∧ Q (.tup [.int (i / j), .int (i % j)]) O) q
  obtain ⟨v, u, ev, d1, d2⟩ := d.two
  subst ev
  rw [d1.of_int, d2.of_int] at rv
  obtain ⟨u, w', rfl, ⟨t, rfl⟩, ⟨t', rfl⟩⟩ := vals2 rv
  refine PyProof.Rows.divmod_int (by omega) ?_ (.inl (PyProof.noPylong_small (by omega)))
  rw [Int.fdiv_eq_ediv_of_nonneg i (by omega), Int.fmod_eq_emod_of_nonneg i (by omega)]
  exact ep_newT (vs := [.int (i / j), .int (i % j)]) (its := [.int (i / j) s.toks, .int (i % j) (s.toks + 1)]) I (.cons ⟨_, rfl⟩ (.cons ⟨_, rfl⟩ .nil)) (by simp only [List.length_cons, List.length_nil]; rw [sizeLine_eq]; decide) (Pers.refl H) (.cons (.int _) (.cons (.int _) .nil)) o q k
theorem Blt.ok (b : Blt) (hc : X.calm = true) : CallW X b.val b.sem := by
  cases b with
  | repr => exact repr_ok
  | divmod => exact divmod_ok
  | len => exact len_ok
  | max2 => exact max2_ok hc
  | min2 => exact min2_ok hc
  | abs => exact abs_ok
  | str => exact str_ok
  | int => exact int_ok
  | all => exact all_ok hc
  | sum => exact sum_ok hc
  | max1 => exact max1_ok hc
  | min1 => exact min1_ok hc
  | list fz => exact list_ok fz
  | tuple => exact tuple_ok
  | sorted fz => exact sorted_ok fz
end
end TF

/-! TF7: what is walked; for, comprehensions -/
namespace TF
open PySem PySem.Spec L2

/-! ### enumerate(tuple) -/
set_option maxHeartbeats 1000000 in
theorem meets_enum_newB1 {v : Value} {o : Obj} {H : Heap → Prop} (B : Begins v o H) :
    Meets (Builtin.«enumerate.__new__» ⟨[.type "enumerate", v], []⟩) (fun _ R s => H s.heap ∧
      R (.ok (.ret (.ref (s.heap.push o).objs.size))) { s with heap := (s.heap.push o).push { cls := .type "enumerate", data := .fields #[.none, .bool false, .ref s.heap.objs.size, rawInt 0, .none, .none] } }) :=
  .of_wp fun prog w A R s h => by
    obtain ⟨hp, g, d, tk, os⟩ := s
    obtain ⟨h1, h⟩ := h
    have hsub := sub_enumerate
    have q1 : ∀ {A' : Around} {E : Value → Shared → Prop} {Q : Value → Shared → Prop}, Q (.ref hp.objs.size) ⟨hp.push o, g, d, tk, os⟩ → wpAny (model prog w) A' (pyIter v) Q E ⟨hp, g, d, tk, os⟩ :=
      fun q => B.iter prog w _ _ ⟨hp, g, d, tk, os⟩ _ h1 q
    wp_walk using q1
    refine wpAny_stack_any fun st => wpAny_pure ?_
    split
    · rename_i c _ _ _ _ _
      cases (c == Value.type "enumerate")
      · wp_walk using q1
        exact ⟨_, rfl, h⟩
      · wp_walk using q1
        exact ⟨_, rfl, h⟩
    · wp_walk using q1
      exact ⟨_, rfl, h⟩
theorem call_enumB {prog : Program} {w : World} {A : Around} {E : Value → Shared → Prop} {s : Shared} {v : Value} {o : Obj} {H : Heap → Prop} {Q : Value → Shared → Prop} (B : Begins v o H) (h1 : H s.heap)
    (h : ∀ h', IsEnum h' (s.heap.objs.size + 1) s.heap.objs.size 0 .none → h'.get? s.heap.objs.size = some o → h'.objs.size = s.heap.objs.size + 2 →
      (∀ b o, s.heap.get? b = some o → h'.get? b = some o) → Q (.ref (s.heap.objs.size + 1)) { s with heap := h' }) :
    wpAny (model prog w) A (call (.type "enumerate") [v]) Q E s := by
  refine callType_new F.called_enumerate (by decide) (F.typeCall_enumerate_1 _) (F.newCall_enumerate_1 _) (fun obj => F.args_object_init_2 obj _) F.entry_enumerate_new (meets_enum_newB1 B) ⟨h1, ?_⟩
  have hz : (s.heap.push o).objs.size = s.heap.objs.size + 1 := Heap.size_push ..
  show _ ∧ _
  rw [hz]
  have he : IsEnum ((s.heap.push o).push { cls := .type "enumerate", data := .fields #[.none, .bool false, .ref s.heap.objs.size, rawInt 0, .none, .none] }) (s.heap.objs.size + 1) s.heap.objs.size 0 .none := by
    have := Heap.get?_push_size (s.heap.push o) (o := { cls := .type "enumerate", data := .fields #[.none, .bool false, .ref s.heap.objs.size, rawInt 0, .none, .none] }) rfl
    rw [hz] at this
    exact this
  exact ⟨⟨_, he, rfl⟩, h _ he (Heap.get?_push_of_some _ (Heap.get?_push_size _ B.free)) (by rw [Heap.size_push, hz]) fun b o x => Heap.get?_push_of_some _ (Heap.get?_push_of_some _ x)⟩

def IteT (K : PySem.W.Frag) (a : Addr) : It :=
  ⟨fun i H => ∃ (xs : List V) (x : V), SqT K H a xs ∧ xs[i]? = some x, fun i H v H' => ∃ T x, v = .ref T ∧ H T = none ∧ H' = upd H T (.tup [.int (i : Nat), x]) ∧ ∀ xs, SqT K H a xs → xs[i]? = some x, fun i H => ∃ xs : List V, SqT K H a xs ∧ xs.length ≤ i⟩
theorem turn_enumT {P : Program} {w : World} {K : PySem.W.Frag} {elts : List Expr} {kk : Nat} {tpos : Pos} (a e it : Addr) :
    Turn P w K (.Tuple elts kk tpos) (IteT K a) [e, it] e (fun i h => (∃ old, IsEnum h e it ((i : Nat) : Int) old) ∧ h.IsTupleIter it a i ∧ e ≠ it) where
  mem := by simp
  obj := fun i h st b hb => by
    obtain ⟨⟨old, he⟩, ⟨o, ho, hc, hd⟩, _⟩ := st
    have e' : b = e ∨ b = it := by simpa using hb
    rcases e' with z | z
    · rw [z]; exact ⟨_, he, fun v q => nomatch q⟩
    · rw [z]; exact ⟨o, ho, fun v q => by rw [hd] at q; cases q⟩
  keep := fun i h h' st k => let ⟨⟨old, he⟩, hi, hne⟩ := st; ⟨⟨old, k e (by simp) _ he⟩, hi.at fun o q => k it (by simp) o q, hne⟩
  item := by
    intro X hP hw hK hc i pins s σ H E I hf st hg
    subst hP hw hK
    obtain ⟨⟨old, he⟩, hit, hne⟩ := st
    obtain ⟨xs, x, hq, hx⟩ := hg
    obtain ⟨its, rv, p, hz⟩ := I.tuple hq
    obtain ⟨u, hu, ru⟩ := rv.get hx
    have hel : e < s.heap.objs.size := Heap.lt_size he
    have hil : it < s.heap.objs.size := by obtain ⟨_, q, _⟩ := hit; exact Heap.lt_size q
    have hai : a ≠ it := fun z => by
      subst z
      obtain ⟨o1, q1, c1, _⟩ := hit
      obtain ⟨o2, q2, c2, _⟩ := id p
      rw [q1] at q2; cases q2; rw [c1] at c2; exact absurd c2 (by decide)
    have hae : e ≠ a := fun z => by
      subst z
      obtain ⟨o2, q2, c2, _⟩ := id p
      have he' : s.heap.get? e = _ := he
      rw [he'] at q2; cases q2; exact absurd (show Value.type "enumerate" = Value.type "tuple" from c2) (by decide)
    have D := Draws.tuple (prog := X.prog) (w := X.w) (A := X.A.in1) (I.ok.hd hc) it a hai its.toArray
    have hlt : i < its.toArray.size := by
      have := (List.getElem?_eq_some_iff.mp hu).1
      simpa using this
    refine wpAny_pyNext_enum_itemD D he (show _ ∧ _ from ⟨hit, p⟩) hlt hne (by simp [hne, hae]) fun y h' tk hP ho st' hT hsz hk => ?_
    have hy : y = u := by
      have h1 : its[i]? = some y := by simpa using hP
      rw [hu] at h1; cases h1; rfl
    subst hy
    refine ⟨_, rfl, wpAny_letOwnedTupleGo_enum (s := { s with heap := h', toks := tk + 1 }) ho fun h'' he' sb => ?_⟩
    have hT2 : h''.get? s.heap.objs.size = some { cls := .type "tuple", data := .seq #[.int i tk, y] } := (sb.2 _ (Nat.ne_of_gt hel)).trans hT
    have new : ObjOk X.prog X.w (upd H s.heap.objs.size (.tup [.int (i : Nat), x])) h'' s.heap.objs.size (.tup [.int (i : Nat), x]) :=
      ⟨by show 2 ≤ sizeLine; decide, [.int i tk, y], .cons ⟨_, rfl⟩ (.cons ru .nil), ⟨_, hT2, rfl, _, rfl⟩⟩
    have I1 : Inv X pins σ (upd H s.heap.objs.size (.tup [.int (i : Nat), x])) { s with heap := h'', toks := tk + 1 } :=
      I.turnedNew (ch := [e, it]) (fun b ob hb q => (sb.2 b (fun z => hb (by simp [z]))).trans (hk b ob (fun z => hb (by simp [z])) (fun z => hb (by simp [z])) q)) hf (Nat.le_refl _) new
    refine ⟨.ref s.heap.objs.size, _, I1, rfl, ⟨_, x, rfl, I.hok.fresh (Nat.le_refl _), rfl, fun ys hy => by rw [I.tuple_inj hy hq]; exact hx⟩, ⟨⟨y, ?_⟩, st'.1.at fun o q => (sb.2 it (Ne.symm hne)).trans q, hne⟩, fun b hb => ?_⟩
    · have e1 : ((i + 1 : Nat) : Int) = (i : Int) + 1 := by omega
      rw [e1]; exact he'
    · have hb' : b < s.heap.objs.size := by
        have e' : b = e ∨ b = it := by simpa using hb
        rcases e' with z | z
        · rw [z]; exact hel
        · rw [z]; exact hil
      rw [upd_ne (Nat.ne_of_lt hb')]
      exact (hf b hb).1
  done := by
    intro X hP hw hK hc i pins s σ H E I hf st hg
    subst hP hw hK
    obtain ⟨⟨old, he⟩, hit, hne⟩ := st
    obtain ⟨xs, hq, hx⟩ := hg
    obtain ⟨its, rv, p, hz⟩ := I.tuple hq
    obtain ⟨f0, f1, f2, f3, f4, f5⟩ := hf it (by simp)
    have hl := rv.length
    unfold pyNext
    refine wpAny_bind (wpAny_attempt (wpAny_callSpecial?_slot (name := Str.ofString "__next__") (T := "enumerate") ⟨_, he, rfl⟩ F.slot_enumerate_next
      (wpAny_call_entry F.slot_enumerate_next (T := "enumerate") ⟨_, he, rfl⟩ F.entry_enumerate_next ?_ (F.args_enumerate_next_1 _))))
    show wpAny _ _ (field (.ref e) 2 >>= _) _ _ _
    refine wpAny_bind (wpAny_field he rfl (x := .ref it) rfl ?_)
    refine wpAny_bind (wpAny_nextOf_tuple_end (I.ok.hd hc) hit p (by simp; omega) fun h' x he' hx' => ?_)
    obtain ⟨o, ho, hc'⟩ := hx'
    refine wpAny_bind (wpAny_isInstance (T := "StopIteration") (b := true) ⟨o, ho, hc'⟩ isSubtype_stop ?_)
    exact wpAny_pure ⟨rfl, I.turned (t' := s.toks) (fun b o hb q => he' b o hb q) f0 f1 f3 f4 f5⟩
  self := fun A i s Q E st h => let ⟨⟨_, he⟩, _⟩ := st; wpAny_pyIter_enum he h
def iEnumA (K : PySem.W.Frag) (ta : TA) : TI := fun σ H R => ta σ H fun vs H1 => ∃ a xs, vs = [.ref a] ∧ ((SqL K H1 a xs ∧ R (Ite K a) H1) ∨ (SqT K H1 a xs ∧ R (IteT K a) H1))
theorem pi_enumA {X : Cx} {e : Expr} {ta : TA} {p pos tpos : Pos} {elts : List Expr} {kk : Nat} (hg : Gl X "enumerate") (hm : X.mg "enumerate" = none) (ha : PA X [e] ta) (hs : starEach [e] X.env = [(false, eval e X.env)] := by rfl) :
    PI X (.Tuple elts kk tpos) (.Call (.Name "enumerate" p) [e] [] pos) (iEnumA X.K ta) := by
  refine ⟨fun pins s σ H R I h => ?_⟩
  refine PyProof.Rows.Call_ (ld_blt I hg hm PyProof.Rows.boot_enumerate (PyProof.Rows.callWith_type1 (thn (ha.run pos pins s σ H _ I h) fun us s1 ⟨vs, H1, I1, r1, q1⟩ => ?_) hs rfl))
  obtain ⟨a, xs, ex, q1⟩ := q1
  subst ex
  cases r1 with
  | cons r rr =>
    cases rr
    cases r
    have fresh2 : ∀ b ∈ [s1.heap.objs.size + 1, s1.heap.objs.size], FpOk X pins H1 b := fun b hb => by
      have e' : b = s1.heap.objs.size + 1 ∨ b = s1.heap.objs.size := by simpa using hb
      have hle : s1.heap.objs.size ≤ b := by
        rcases e' with z | z
        · rw [z]; exact Nat.le_add_right _ _
        · rw [z]; exact Nat.le_refl _
      exact I1.fpOk hle (I1.hok.fresh hle)
    rcases q1 with ⟨hq, q⟩ | ⟨hq, q⟩
    · obtain ⟨its, rv, p', hz⟩ := I1.list hq
      refine call_enumerate_list p'.isList fun h' he hit hsz hk => wpAny_pyIter_enum he ?_
      have I2 : Inv X pins σ H1 { s1 with heap := h' } := I1.kept (t' := s1.toks) hk
      exact ⟨s1.heap.objs.size + 1, [s1.heap.objs.size + 1, s1.heap.objs.size], _, _, H1, rfl, I2, turn_enum a (s1.heap.objs.size + 1) s1.heap.objs.size, ⟨⟨.none, he⟩, hit, Nat.succ_ne_self _⟩, fresh2, q⟩
    · obtain ⟨its, rv, p', hz⟩ := I1.tuple hq
      refine call_enumB (begins_tuple a its.toArray) (show s1.heap.IsTuple a its.toArray from p') fun h' he hit hsz hk => wpAny_pyIter_enum he ?_
      have I2 : Inv X pins σ H1 { s1 with heap := h' } := I1.kept (t' := s1.toks) hk
      exact ⟨s1.heap.objs.size + 1, [s1.heap.objs.size + 1, s1.heap.objs.size], _, _, H1, rfl, I2, turn_enumT a (s1.heap.objs.size + 1) s1.heap.objs.size, ⟨⟨.none, he⟩, ⟨_, hit, rfl, rfl⟩, Nat.succ_ne_self _⟩, fresh2, q⟩
end TF

/-! TF8: targets, walks, for, comprehensions -/
namespace TF
open PySem PySem.Spec L2 RZ
open PyProof.Rows (envOfC)

/-! ### items, targets -/
inductive Y where | one (w : Dt) | pack (ws : List Dt)
def IsY (K : PySem.W.Frag) (mg : Str → Option Value) (H : Hp) (v : V) : Y → Prop
  | .one w => IsD K mg H v w
  | .pack ws => ∃ T vs, v = .ref T ∧ H T = some (.tup vs) ∧ IsDs K mg H vs ws
inductive Tg where | one (i : Nat) | pack (is : List Nat)
def setMany (τ : SW) : List Nat → List Dt → SW
  | i :: is, w :: ws => setMany (τ.set i (some w)) is ws
  | _, _ => τ
def setManyV (σ : L2.St) : List Nat → List V → L2.St
  | i :: is, w :: ws => setManyV (σ.set i (some w)) is ws
  | _, _ => σ
def tgtW (T : Tg) (y : Y) (τ : SW) (k : SW → Prop) : Prop := match T, y with
  | .one i, .one w => k (τ.set i (some w))
  | .pack is, .pack ws => is.length = ws.length ∧ k (setMany τ is ws)
  | .pack is, .one (.tup ws) => is.length = ws.length ∧ k (setMany τ is ws)
  | _, _ => False
def gNames : List Nat → TGs
  | [] => gNil
  | i :: is => gCons (gName i) (gNames is)
def gOf (K : PySem.W.Frag) : Tg → TG
  | .one i => gName i
  | .pack is => gTup K is.length (gNames is)
def Tg.slots : Tg → List Nat
  | .one i => [i]
  | .pack is => is
theorem set_some_set_none {α : Type} (l : List (Option α)) (i : Nat) (x : Option α) (y : Option α) : (l.set i x).set i y = l.set i y := by rw [List.set_set]
theorem wipe_set {i : Nat} {x : Option V} : ∀ {vs : List Nat} {σ : L2.St}, i ∈ vs → wipe (σ.set i x) vs = wipe σ vs
  | [], _, h => absurd h (by simp)
  | v :: vs, σ, h => by
    by_cases hv : i ∈ vs
    · show (wipe (σ.set i x) vs).set v none = (wipe σ vs).set v none
      rw [wipe_set hv]
    · have e : v = i := by simpa [hv, eq_comm] using h
      subst e
      have comm : ∀ (us : List Nat), v ∉ us → wipe (σ.set v x) us = (wipe σ us).set v x := by
        intro us
        induction us with
        | nil => intro _; rfl
        | cons u us ih =>
          intro hu
          have hu1 : v ≠ u := fun z => hu (by simp [z])
          have hu2 : v ∉ us := fun z => hu (by simp [z])
          show (wipe (σ.set v x) us).set u none = ((wipe σ us).set u none).set v x
          rw [ih hu2, List.set_comm _ _ hu1]
      show (wipe (σ.set v x) vs).set v none = (wipe σ vs).set v none
      rw [comm vs hv, List.set_set]
theorem wipe_setMany {own : List Nat} : ∀ (is : List Nat) (vs : List V) (σ : L2.St), (∀ i ∈ is, i ∈ own) → wipe (setManyV σ is vs) own = wipe σ own
  | [], _, _, _ => rfl
  | _ :: _, [], _, _ => rfl
  | i :: is, v :: vs, σ, h => by
    show wipe (setManyV (σ.set i (some v)) is vs) own = _
    rw [wipe_setMany is vs _ fun j hj => h j (List.mem_cons_of_mem _ hj), wipe_set (h i List.mem_cons_self)]
section
variable {K : PySem.W.Frag} {mg : Str → Option Value} {H H' : Hp} {σ : L2.St} {τ : SW}
theorem Slots.setMany : ∀ (is : List Nat) {vs : List V} {ws : List Dt} {σ : L2.St} {τ : SW}, Slots K mg H σ τ → IsDs K mg H vs ws → Slots K mg H (setManyV σ is vs) (TF.setMany τ is ws)
  | [], _, _, _, _, s, _ => by unfold setManyV TF.setMany; exact s
  | _ :: _, _, _, _, _, s, .nil => by unfold setManyV TF.setMany; exact s
  | i :: is, _, _, _, _, s, .cons d t => Slots.setMany is (s.set i d) t
theorem gNames_ok : ∀ (is : List Nat) {vs : List V} {ws : List Dt} {σ : L2.St} {Q : L2.St → Hp → Prop}, IsDs K mg H vs ws → is.length = ws.length → Q (setManyV σ is vs) H → gNames is vs σ H Q
  | [], _, _, _, _, .nil, _, q => ⟨rfl, q⟩
  | _ :: _, _, _, _, _, .nil, e, _ => by cases e
  | [], _, _, _, _, .cons _ _, e, _ => by cases e
  | i :: is, _, _, _, _, .cons d t, e, q => ⟨_, _, rfl, gNames_ok is t (by simpa using e) q⟩
theorem IsY.pers (p : Pers H H') : ∀ {v : V} {y : Y}, IsY K mg H v y → IsY K mg H' v y
  | _, .one _, d => IsD.pers p d
  | _, .pack _, ⟨T, vs, e, h, d⟩ => ⟨T, vs, e, p.1 _ _ h, d.pers p⟩
theorem tgt_ok {T : Tg} {y : Y} {v : V} {k : SW → Prop} {Q : L2.St → Hp → Prop} (own : List Nat) (hs : ∀ i ∈ T.slots, i ∈ own) (d : IsY K mg H v y) (S : Slots K mg H σ τ) (h : tgtW T y τ k)
    (q : ∀ σ' τ', Slots K mg H σ' τ' → k τ' → wipe σ' own = wipe σ own → Q σ' H) : gOf K T v σ H Q := by
  cases T with
  | one i =>
    cases y with
    | one w => exact q _ _ (S.set i d) h (wipe_set (hs i (by simp [Tg.slots])))
    | pack ws => exact h.elim
  | pack is =>
    have fin : ∀ {a : Addr} {vs : List V} {ws : List Dt}, SqT K H a vs → IsDs K mg H vs ws → (is.length = ws.length ∧ k (TF.setMany τ is ws)) → gOf K (.pack is) (.ref a) σ H Q := fun {a vs ws} h1 h2 h => by
      refine ⟨a, vs, rfl, h1, by rw [h2.length, h.1], gNames_ok is h2 h.1 ?_⟩
      exact q _ _ (S.setMany is h2) h.2 (wipe_setMany is vs σ hs)
    cases y with
    | one w =>
      cases w with
      | tup ws => cases d with | tup h1 h2 => exact fin h1.tup h2 h
      | _ => exact h.elim
    | pack ws =>
      obtain ⟨T, vs, rfl, e, h2⟩ := d
      exact fin (.inl (.inl e)) h2 h
end
def WG (X : Cx) (tg : Expr) (T : Tg) : Prop := PG X tg (gOf X.K T)
def WGs (X : Cx) (ts : List Expr) (is : List Nat) : Prop := PGs X ts (gNames is)

/-! ### walks -/
structure ItW where
  items : List Y
  ok : OW → Prop
abbrev TIw := XW → SW → OW → (ItW → OW → Prop) → Prop
def Serves (K : PySem.W.Frag) (mg : Str → Option Value) (J : It) (I : ItW) (H0 : Hp) : Prop := ∀ Fm H O, Pers H0 H → Own K mg Fm O H → I.ok O → ∀ i, (∀ y, I.items[i]? = some y → J.go i H ∧ ∀ x H', J.yld i H x H' → Pers H H' ∧ Own K mg Fm O H' ∧ IsY K mg H' x y) ∧ (I.items.length ≤ i → J.stop i H)
def LI (K : PySem.W.Frag) (mg : Str → Option Value) (Fm : Hp) (t : SW → OW → (ItW → OW → Prop) → Prop) : TI := fun σ H R => ∃ τ O R', Slots K mg H σ τ ∧ Own K mg Fm O H ∧ t τ O R' ∧ ∀ J I H' O', Pers H H' → Own K mg Fm O' H' → Serves K mg J I H' → R' I O' → R J H'
def WI (X : Cx) (tg iter : Expr) (ti : TIw) : Prop := ∀ Fm Ex, Takes X (LX X.K X.mg Fm Ex) → PI X tg iter (LI X.K X.mg Fm (ti Ex))
theorem PI.imp {X : Cx} {tg iter : Expr} {t t' : TI} (h : PI X tg iter t) (i : ∀ σ H R, t' σ H R → t σ H R) : PI X tg iter t' := ⟨fun pins s σ H R I q => h.run pins s σ H R I (i _ _ _ q)⟩

def ones (ws : List Dt) : List Y := ws.map .one
def enumY : Int → List Dt → List Y
  | _, [] => []
  | k, w :: ws => .pack [.int k, w] :: enumY (k + 1) ws
def zipY : List Dt → List Dt → List Y
  | a :: as, b :: bs => .pack [a, b] :: zipY as bs
  | _, _ => []
def rngY (lo : Int) : Nat → List Y
  | 0 => []
  | n + 1 => .one (.int lo) :: rngY (lo + 1) n
def strY (s : Str) : List Y := s.cps.toList.map fun c => .one (.str ⟨#[c]⟩)
theorem ones_get {ws : List Dt} {i : Nat} {y : Y} (h : (ones ws)[i]? = some y) : ∃ w, ws[i]? = some w ∧ y = .one w := by
  unfold ones at h
  rw [List.getElem?_map] at h
  cases e : ws[i]? with
  | none => rw [e] at h; cases h
  | some w => rw [e] at h; cases h; exact ⟨w, rfl, rfl⟩
theorem ones_len {ws : List Dt} : (ones ws).length = ws.length := by unfold ones; rw [List.length_map]
theorem enumY_get : ∀ {ws : List Dt} {k : Int} {i : Nat} {y : Y}, (enumY k ws)[i]? = some y → ∃ w, ws[i]? = some w ∧ y = .pack [.int (k + i), w]
  | [], k, i, y, h => by simp [enumY] at h
  | w :: ws, k, 0, y, h => by
    simp only [enumY, List.getElem?_cons_zero, Option.some.injEq] at h
    subst h
    exact ⟨w, rfl, by simp⟩
  | w :: ws, k, i + 1, y, h => by
    simp only [enumY, List.getElem?_cons_succ] at h
    obtain ⟨w', e, h⟩ := enumY_get h
    refine ⟨w', by simpa using e, ?_⟩
    rw [h]
    have : k + 1 + (i : Int) = k + ((i + 1 : Nat) : Int) := by omega
    rw [this]
theorem enumY_len : ∀ {ws : List Dt} {k : Int}, (enumY k ws).length = ws.length
  | [], k => rfl
  | w :: ws, k => by simp [enumY, enumY_len]
theorem zipY_get : ∀ {as bs : List Dt} {i : Nat} {y : Y}, (zipY as bs)[i]? = some y → ∃ a b, as[i]? = some a ∧ bs[i]? = some b ∧ y = .pack [a, b]
  | [], bs, i, y, h => by simp [zipY] at h
  | a :: as, [], i, y, h => by simp [zipY] at h
  | a :: as, b :: bs, 0, y, h => by
    simp only [zipY, List.getElem?_cons_zero, Option.some.injEq] at h
    subst h
    exact ⟨a, b, rfl, rfl, rfl⟩
  | a :: as, b :: bs, i + 1, y, h => by
    simp only [zipY, List.getElem?_cons_succ] at h
    obtain ⟨a', b', e1, e2, h⟩ := zipY_get h
    exact ⟨a', b', by simpa using e1, by simpa using e2, h⟩
theorem zipY_len : ∀ {as bs : List Dt}, (zipY as bs).length = min as.length bs.length
  | [], bs => by simp [zipY]
  | a :: as, [] => by simp [zipY]
  | a :: as, b :: bs => by simp [zipY, zipY_len]
theorem rngY_get : ∀ {n : Nat} {lo : Int} {i : Nat} {y : Y}, (rngY lo n)[i]? = some y → i < n ∧ y = .one (.int (lo + i))
  | 0, lo, i, y, h => by simp [rngY] at h
  | n + 1, lo, 0, y, h => by
    simp only [rngY, List.getElem?_cons_zero, Option.some.injEq] at h
    subst h
    exact ⟨by omega, by simp⟩
  | n + 1, lo, i + 1, y, h => by
    simp only [rngY, List.getElem?_cons_succ] at h
    obtain ⟨h1, h2⟩ := rngY_get h
    refine ⟨by omega, ?_⟩
    rw [h2]
    have : lo + 1 + (i : Int) = lo + ((i + 1 : Nat) : Int) := by omega
    rw [this]
theorem rngY_len : ∀ {n : Nat} {lo : Int}, (rngY lo n).length = n
  | 0, _ => rfl
  | n + 1, lo => by simp [rngY, rngY_len]

/-- the items of a list or tuple, walked -/
def walkQ (mk : List Dt → List Y) (x : Dt) (O : OW) (R : ItW → OW → Prop) : Prop := match x with
  | .tup ws => R ⟨mk ws, fun _ => True⟩ O
  | .lst ws => R ⟨mk ws, fun _ => True⟩ O
  | .ref a => match O a with
    | some (.lst ws) => R ⟨mk ws, fun O' => O' a = some (.lst ws)⟩ O
    | _ => False
  | _ => False
def seqX (x : Dt) (O : OW) (R : ItW → OW → Prop) : Prop := match x with
  | .str s => R ⟨strY s, fun _ => True⟩ O
  | x => walkQ ones x O R
def seqI (ta : TEw) : TIw := fun Ex τ O R => ta Ex τ O fun x O1 => seqX x O1 R
def enumI (t : TAw) : TIw := fun Ex τ O R => t Ex τ O fun ws O1 => match ws with
  | [x] => walkQ (enumY 0) x O1 R
  | _ => False
def zipX (ws : List Dt) (O1 : OW) (R : ItW → OW → Prop) : Prop := match ws with
  | [.tup as, .tup bs] => R ⟨zipY as bs, fun _ => True⟩ O1
  | [x, y] => ∃ as bs, asL O1 x = some as ∧ asL O1 y = some bs ∧ R ⟨zipY as bs, fun O' => asL O' x = some as ∧ asL O' y = some bs⟩ O1
  | _ => False
def zipI (t : TAw) : TIw := fun Ex τ O R => t Ex τ O fun ws O1 => zipX ws O1 R
def rng1I (t : TAw) : TIw := fun Ex τ O R => t Ex τ O fun ws O1 => match ws with
  | [.int j] => (-(2 ^ 62) ≤ j ∧ j < 2 ^ 62) ∧ R ⟨rngY 0 j.toNat, fun _ => True⟩ O1
  | _ => False
def rng2I (t : TAw) : TIw := fun Ex τ O R => t Ex τ O fun ws O1 => match ws with
  | [.int i, .int j] => (-(2 ^ 62) ≤ i ∧ i < 2 ^ 62 ∧ -(2 ^ 62) ≤ j ∧ j < 2 ^ 62) ∧ R ⟨rngY i (j - i).toNat, fun _ => True⟩ O1
  | _ => False

section
variable {X : Cx} {K : PySem.W.Frag} {mg : Str → Option Value} {Fm H : Hp} {O : OW}
/-- what a list or a tuple is, by the walk's word -/
theorem walkQ_is {mk : List Dt → List Y} {x : Dt} {R : ItW → OW → Prop} {v : V} (d : IsD K mg H v x) (o : Own K mg Fm O H) (h : walkQ mk x O R) :
    ∃ a vs ws ok, v = .ref a ∧ IsDs K mg H vs ws ∧ R ⟨mk ws, ok⟩ O ∧
      ((SqT K H a vs ∧ ∀ H', Pers H H' → SqT K H' a vs) ∨ (SqL K H a vs ∧ ∀ Fm' H' O', Pers H H' → Own K mg Fm' O' H' → ok O' → ∃ vs', SqL K H' a vs' ∧ IsDs K mg H' vs' ws)) := by
  cases d with
  | tup h1 h2 => exact ⟨_, _, _, _, rfl, h2, h, .inl ⟨h1.tup, fun H' p => (h1.pers p).tup⟩⟩
  | lst h1 h2 => exact ⟨_, _, _, _, rfl, h2, h, .inr ⟨.inl h1.rd, fun _ H' O' p _ _ => ⟨_, .inl (h1.pers p).rd, h2.pers p⟩⟩⟩
  | ref a =>
    have h : (match O a with | some (.lst ws) => R ⟨mk ws, fun O' => O' a = some (.lst ws)⟩ O | _ => False) := h
    split at h
    · rename_i ws e
      obtain ⟨vs, h1, h2⟩ := o.at_ a _ e
      refine ⟨a, vs, ws, _, rfl, h2, h, .inr ⟨.inl (.inl h1), fun _ H' O' p o' k => ?_⟩⟩
      obtain ⟨vs', h1', h2'⟩ := o'.at_ a _ k
      exact ⟨vs', .inl (.inl h1'), h2'⟩
    · exact h.elim
  | _ => exact h.elim

theorem pi_seq {tg l : Expr} {tl : TE} (hl : PE X l tl) : PI X tg l (fun σ H R => tl σ H fun x H1 => (∃ a, x = .ref a ∧ (∃ xs, SqL X.K H1 a xs) ∧ R (Itl X.K a) H1) ∨ (∃ a, x = .ref a ∧ (∃ xs, SqT X.K H1 a xs) ∧ R (Itt X.K a) H1) ∨ ∃ z, x = .str z ∧ R (Its z) H1) := by
  refine ⟨fun pins s σ H R I h => ?_⟩
  refine thn (hl.run pins s σ H _ I h) fun v s1 ⟨x, H1, I1, r1, q1⟩ => ?_
  have fr : FpOk X pins H1 s1.heap.objs.size := I1.fpOk (Nat.le_refl _) (I1.hok.fresh (Nat.le_refl _))
  rcases q1 with ⟨a, e, ⟨xs, hq⟩, q⟩ | ⟨a, e, ⟨xs, hq⟩, q⟩ | ⟨z, e, q⟩
  · subst e
    cases r1
    obtain ⟨its, rv, p, hz⟩ := I1.list hq
    refine wpAny_pyIter_list p.isList ?_
    refine ⟨s1.heap.objs.size, [s1.heap.objs.size], _, _, H1, rfl, I1.kept (t' := s1.toks) fun b o e => Heap.get?_push_of_some _ e, turn_list a _, ⟨_, Heap.get?_push_size _ rfl, rfl, rfl⟩, fun b hb => ?_, q⟩
    have e : b = s1.heap.objs.size := by simpa using hb
    subst e
    exact fr
  · subst e
    cases r1
    obtain ⟨its, rv, p, hz⟩ := I1.tuple hq
    refine wpAny_pyIter_tuple (show s1.heap.IsTuple a its.toArray from p) ?_
    refine ⟨s1.heap.objs.size, [s1.heap.objs.size], _, _, H1, rfl, I1.kept (t' := s1.toks) fun b o e => Heap.get?_push_of_some _ e, turn_tuple a _, ⟨_, Heap.get?_push_size _ rfl, rfl, rfl⟩, fun b hb => ?_, q⟩
    have e : b = s1.heap.objs.size := by simpa using hb
    subst e
    exact fr
  · subst e
    obtain ⟨t, rfl⟩ := r1
    cases ha : z.cps.all (· < 128)
    · exact wpAny_pyIter_wide ha (pi_one (tk := s1.toks) I1 _ (turn_str _ z t "str_iterator" (.inr rfl)) ⟨_, Heap.get?_push_size _ rfl, rfl, rfl⟩ q)
    · exact wpAny_pyIter_ascii ha (pi_one (tk := s1.toks) I1 _ (turn_str _ z t "str_ascii_iterator" (.inl rfl)) ⟨_, Heap.get?_push_size _ rfl, rfl, rfl⟩ q)
theorem serves_list {a : Addr} {mk : List Dt → List Y} {ws : List Dt} {ok : OW → Prop} {H0 : Hp} (hs : ∀ Fm' H' O', Pers H0 H' → Own K mg Fm' O' H' → ok O' → ∃ vs', SqL K H' a vs' ∧ IsDs K mg H' vs' ws) : Serves K mg (Itl K a) ⟨ones ws, ok⟩ H0 := by
  intro Fm H O p o k i
  obtain ⟨vs, h1, h2⟩ := hs Fm H O p o k
  refine ⟨fun y e => ?_, fun hl => ⟨vs, h1, by rw [h2.length, ← ones_len]; exact hl⟩⟩
  obtain ⟨w, e1, rfl⟩ := ones_get e
  obtain ⟨v, e2, d⟩ := h2.get e1
  refine ⟨⟨vs, v, h1, e2⟩, fun x H' ⟨e3, e4⟩ => ?_⟩
  subst e3
  have := e4 vs h1
  rw [e2] at this
  cases this
  exact ⟨Pers.refl _, o, d⟩
theorem serves_tup {a : Addr} {vs : List V} {ws : List Dt} {ok : OW → Prop} {H0 : Hp} (h1 : ∀ H', Pers H0 H' → SqT K H' a vs) (d : IsDs K mg H0 vs ws) : Serves K mg (Itt K a) ⟨ones ws, ok⟩ H0 := by
  intro Fm H O p o k i
  have h1 := h1 H p
  have h2 := d.pers p
  refine ⟨fun y e => ?_, fun hl => ⟨vs, h1, by rw [h2.length, ← ones_len]; exact hl⟩⟩
  obtain ⟨w, e1, rfl⟩ := ones_get e
  obtain ⟨v, e2, d⟩ := h2.get e1
  refine ⟨⟨vs, v, h1, e2⟩, fun x H' ⟨e3, e4⟩ => ?_⟩
  subst e3
  have := e4 vs h1
  rw [e2] at this
  cases this
  exact ⟨Pers.refl _, o, d⟩
theorem serves_enumL {a : Addr} {ws : List Dt} {ok : OW → Prop} {H0 : Hp} (hs : ∀ Fm' H' O', Pers H0 H' → Own K mg Fm' O' H' → ok O' → ∃ vs', SqL K H' a vs' ∧ IsDs K mg H' vs' ws) : Serves K mg (Ite K a) ⟨enumY 0 ws, ok⟩ H0 := by
  intro Fm H O p o k i
  obtain ⟨vs, h1, h2⟩ := hs Fm H O p o k
  refine ⟨fun y e => ?_, fun hl => ⟨vs, h1, by rw [h2.length, ← enumY_len (k := 0)]; exact hl⟩⟩
  obtain ⟨w, e1, rfl⟩ := enumY_get e
  obtain ⟨v, e2, d⟩ := h2.get e1
  refine ⟨⟨vs, v, h1, e2⟩, fun x H' ⟨T, v', e3, nT, e4, e5⟩ => ?_⟩
  subst e3 e4
  have := e5 vs h1
  rw [e2] at this
  cases this
  have P := Pers.new (o := .tup [.int (i : Nat), v]) nT
  refine ⟨P, o.laid nT, T, _, rfl, upd_same, .cons ?_ (.cons (d.pers P) .nil)⟩
  rw [Int.zero_add]
  exact .int _
theorem serves_enumT {a : Addr} {vs : List V} {ws : List Dt} {ok : OW → Prop} {H0 : Hp} (h1 : ∀ H', Pers H0 H' → SqT K H' a vs) (d : IsDs K mg H0 vs ws) : Serves K mg (IteT K a) ⟨enumY 0 ws, ok⟩ H0 := by
  intro Fm H O p o k i
  have h1 := h1 H p
  have h2 := d.pers p
  refine ⟨fun y e => ?_, fun hl => ⟨vs, h1, by rw [h2.length, ← enumY_len (k := 0)]; exact hl⟩⟩
  obtain ⟨w, e1, rfl⟩ := enumY_get e
  obtain ⟨v, e2, d⟩ := h2.get e1
  refine ⟨⟨vs, v, h1, e2⟩, fun x H' ⟨T, v', e3, nT, e4, e5⟩ => ?_⟩
  subst e3 e4
  have := e5 vs h1
  rw [e2] at this
  cases this
  have P := Pers.new (o := .tup [.int (i : Nat), v]) nT
  refine ⟨P, o.laid nT, T, _, rfl, upd_same, .cons ?_ (.cons (d.pers P) .nil)⟩
  rw [Int.zero_add]
  exact .int _
theorem serves_zipL {a b : Addr} {as bs : List Dt} {ok : OW → Prop} {H0 : Hp} (hs : ∀ Fm' H' O', Pers H0 H' → Own K mg Fm' O' H' → ok O' → ∃ vs us, SqL K H' a vs ∧ SqL K H' b us ∧ IsDs K mg H' vs as ∧ IsDs K mg H' us bs) : Serves K mg (Itz K a b) ⟨zipY as bs, ok⟩ H0 := by
  intro Fm H O p o k i
  obtain ⟨vs, us, h1, h2, d1, d2⟩ := hs Fm H O p o k
  refine ⟨fun y e => ?_, fun hl => ⟨vs, us, h1, h2, ?_⟩⟩
  · obtain ⟨w, w', e1, e2, rfl⟩ := zipY_get e
    obtain ⟨v, e3, d3⟩ := d1.get e1
    obtain ⟨u, e4, d4⟩ := d2.get e2
    refine ⟨⟨vs, us, v, u, h1, h2, e3, e4⟩, fun x H' ⟨T, v', u', e5, nT, e6, e7, e8⟩ => ?_⟩
    subst e5 e6
    have a1 := e7 vs h1
    rw [e3] at a1
    cases a1
    have a2 := e8 us h2
    rw [e4] at a2
    cases a2
    have P := Pers.new (o := .tup [v, u]) nT
    exact ⟨P, o.laid nT, T, _, rfl, upd_same, .cons (d3.pers P) (.cons (d4.pers P) .nil)⟩
  · have hl : (zipY as bs).length ≤ i := hl
    rw [zipY_len] at hl
    rw [d1.length, d2.length]
    omega
theorem serves_zipT {a b : Addr} {vs us : List V} {as bs : List Dt} {ok : OW → Prop} {H0 : Hp} (h1 : ∀ H', Pers H0 H' → SqT K H' a vs) (h2 : ∀ H', Pers H0 H' → SqT K H' b us) (d1 : IsDs K mg H0 vs as) (d2 : IsDs K mg H0 us bs) : Serves K mg (ItzT K a b) ⟨zipY as bs, ok⟩ H0 := by
  intro Fm H O p o k i
  have h1 := h1 H p
  have h2 := h2 H p
  have d1 := d1.pers p
  have d2 := d2.pers p
  refine ⟨fun y e => ?_, fun hl => ⟨vs, us, h1, h2, ?_⟩⟩
  · obtain ⟨w, w', e1, e2, rfl⟩ := zipY_get e
    obtain ⟨v, e3, d3⟩ := d1.get e1
    obtain ⟨u, e4, d4⟩ := d2.get e2
    refine ⟨⟨vs, us, v, u, h1, h2, e3, e4⟩, fun x H' ⟨T, v', u', e5, nT, e6, e7, e8⟩ => ?_⟩
    subst e5 e6
    have a1 := e7 vs h1
    rw [e3] at a1
    cases a1
    have a2 := e8 us h2
    rw [e4] at a2
    cases a2
    have P := Pers.new (o := .tup [v, u]) nT
    exact ⟨P, o.laid nT, T, _, rfl, upd_same, .cons (d3.pers P) (.cons (d4.pers P) .nil)⟩
  · have hl : (zipY as bs).length ≤ i := hl
    rw [zipY_len] at hl
    rw [d1.length, d2.length]
    omega
theorem serves_rng {lo : Int} {n : Nat} {ok : OW → Prop} {H0 : Hp} : Serves K mg (Itr lo n) ⟨rngY lo n, ok⟩ H0 := by
  intro Fm H O p o k i
  refine ⟨fun y e => ?_, fun hl => ?_⟩
  · obtain ⟨h1, rfl⟩ := rngY_get e
    refine ⟨h1, fun x H' ⟨e3, e4⟩ => ?_⟩
    subst e3 e4
    exact ⟨Pers.refl _, o, .int _⟩
  · have hl : (rngY lo n).length ≤ i := hl
    rw [rngY_len] at hl
    exact hl
theorem serves_str {z : Str} {ok : OW → Prop} {H0 : Hp} : Serves K mg (Its z) ⟨strY z, ok⟩ H0 := by
  intro Fm H O p o k i
  refine ⟨fun y e => ?_, fun hl => ?_⟩
  · have e : (z.cps.toList.map fun c => Y.one (.str ⟨#[c]⟩))[i]? = some y := e
    rw [List.getElem?_map] at e
    cases q : z.cps.toList[i]? with
    | none => rw [q] at e; cases e
    | some c =>
      rw [q] at e
      cases e
      have hlt : i < z.cps.size := by
        have := (List.getElem?_eq_some_iff.mp q).1
        simpa using this
      have q' : z.cps[i]? = some c := by simpa using q
      refine ⟨hlt, fun x H' ⟨e3, c', e4, e5⟩ => ?_⟩
      rw [q'] at e4
      cases e4
      subst e3 e5
      exact ⟨Pers.refl _, o, .str _⟩
  · have hl : (strY z).length ≤ i := hl
    unfold strY at hl
    rw [List.length_map] at hl
    show z.cps.size ≤ i
    simpa using hl
theorem wi_seq {tg e : Expr} {ta : TEw} (h : WE X e ta) : WI X tg e (seqI ta) := fun Fm Ex tk => PI.imp (pi_seq (h Fm Ex tk)) fun σ H R ⟨τ, O, R', S, o, q, k⟩ => by
  refine ⟨τ, O, _, S, o, q, fun v H1 ⟨w, O1, P1, d1, o1, q1⟩ => ?_⟩
  have core : walkQ ones w O1 R' → (∃ a, v = .ref a ∧ (∃ xs, SqL X.K H1 a xs) ∧ R (Itl X.K a) H1) ∨ (∃ a, v = .ref a ∧ (∃ xs, SqT X.K H1 a xs) ∧ R (Itt X.K a) H1) ∨ ∃ z, v = .str z ∧ R (Its z) H1 := fun q1 => by
    obtain ⟨a, vs, ws, ok, rfl, d, q2, ⟨h1, h2⟩ | ⟨h1, h2⟩⟩ := walkQ_is d1 o1 q1
    · exact .inr (.inl ⟨a, rfl, ⟨vs, h1⟩, k _ _ _ _ P1 o1 (serves_tup h2 d) q2⟩)
    · exact .inl ⟨a, rfl, ⟨vs, h1⟩, k _ _ _ _ P1 o1 (serves_list (mk := ones) h2) q2⟩
  cases w with
  | str z => exact .inr (.inr ⟨z, d1.of_str, k _ _ _ _ P1 o1 serves_str q1⟩)
  | _ => exact core q1
theorem wi_enum {e : Expr} {t : TAw} {p pos tpos : Pos} {elts : List Expr} {kk : Nat} (hg : Gl X "enumerate") (hm : X.mg "enumerate" = none) (h : WA X [e] t) (hs : starEach [e] X.env = [(false, eval e X.env)]) :
    WI X (.Tuple elts kk tpos) (.Call (.Name "enumerate" p) [e] [] pos) (enumI t) := fun Fm Ex tk => PI.imp (pi_enumA hg hm (h Fm Ex tk) hs) fun σ H R ⟨τ, O, R', S, o, q, k⟩ => by
  refine ⟨τ, O, _, S, o, q, fun vs ws H1 O1 P1 d1 o1 q1 => ?_⟩
  match ws, q1 with
  | [x], q1 =>
    obtain ⟨v, ev, dd⟩ := d1.one
    subst ev
    obtain ⟨a, vs, ws, ok, rfl, d, q2, ⟨h1, h2⟩ | ⟨h1, h2⟩⟩ := walkQ_is dd o1 q1
    · exact ⟨a, vs, rfl, .inr ⟨h1, k _ _ _ _ P1 o1 (serves_enumT h2 d) q2⟩⟩
    · exact ⟨a, vs, rfl, .inl ⟨h1, k _ _ _ _ P1 o1 (serves_enumL h2) q2⟩⟩
theorem wi_zip {e e2 : Expr} {t : TAw} {p pos tpos : Pos} {elts : List Expr} {kk : Nat} (hg : Gl X "zip") (hm : X.mg "zip" = none) (h : WA X [e, e2] t) (hs : starEach [e, e2] X.env = (false, eval e X.env) :: starEach [e2] X.env)
    (hpl : (backTo pos (starEach [e2] X.env)).any (·.1) = false) : WI X (.Tuple elts kk tpos) (.Call (.Name "zip" p) [e, e2] [] pos) (zipI t) := fun Fm Ex tk => PI.imp (pi_zipA hg hm (h Fm Ex tk) hs hpl) fun σ H R ⟨τ, O, R', S, o, q, k⟩ => by
  refine ⟨τ, O, _, S, o, q, fun vs ws H1 O1 P1 d1 o1 q1 => ?_⟩
  have two : ∀ {x y : Dt}, ws = [x, y] → (∃ as bs, asL O1 x = some as ∧ asL O1 y = some bs ∧ R' ⟨zipY as bs, fun O' => asL O' x = some as ∧ asL O' y = some bs⟩ O1) →
      ∃ a b xs ys, vs = [.ref a, .ref b] ∧ ((SqL X.K H1 a xs ∧ SqL X.K H1 b ys ∧ R (Itz X.K a b) H1) ∨ (SqT X.K H1 a xs ∧ SqT X.K H1 b ys ∧ R (ItzT X.K a b) H1)) := by
    rintro x y rfl ⟨as, bs, e1, e2, q1⟩
    obtain ⟨v, u, ev, dd, d2⟩ := d1.two
    subst ev
    obtain ⟨a, vs1, rfl, r1, t1⟩ := asL_rd dd o1 e1
    obtain ⟨b, vs2, rfl, r2, t2⟩ := asL_rd d2 o1 e2
    refine ⟨a, b, vs1, vs2, rfl, .inl ⟨.inl r1, .inl r2, k _ _ _ _ P1 o1 (serves_zipL fun Fm' H' O' p o' ⟨k1, k2⟩ => ?_) q1⟩⟩
    obtain ⟨a', vs', ea, r1', t1'⟩ := asL_rd (dd.pers p) o' k1
    obtain ⟨b', us', eb, r2', t2'⟩ := asL_rd (d2.pers p) o' k2
    cases ea
    cases eb
    exact ⟨vs', us', .inl r1', .inl r2', t1', t2'⟩
  have sh : (∃ as bs, ws = [.tup as, .tup bs] ∧ R' ⟨zipY as bs, fun _ => True⟩ O1) ∨ ∃ x y, ws = [x, y] ∧ ∃ as bs, asL O1 x = some as ∧ asL O1 y = some bs ∧ R' ⟨zipY as bs, fun O' => asL O' x = some as ∧ asL O' y = some bs⟩ O1 := by
    match ws, q1 with
    | [.tup as, .tup bs], q1 => exact .inl ⟨as, bs, rfl, q1⟩
    | [.lst as, y], q1 => exact .inr ⟨_, _, rfl, q1⟩
    | [.ref a, y], q1 => exact .inr ⟨_, _, rfl, q1⟩
    | [.tup as, .lst _], q1 => exact .inr ⟨_, _, rfl, q1⟩
    | [.tup as, .ref _], q1 => exact .inr ⟨_, _, rfl, q1⟩
    | [.tup as, .non], q1 => exact .inr ⟨_, _, rfl, q1⟩
    | [.tup as, .bl _], q1 => exact .inr ⟨_, _, rfl, q1⟩
    | [.tup as, .int _], q1 => exact .inr ⟨_, _, rfl, q1⟩
    | [.tup as, .str _], q1 => exact .inr ⟨_, _, rfl, q1⟩
    | [.tup as, .ty _], q1 => exact .inr ⟨_, _, rfl, q1⟩
    | [.tup as, .dct _], q1 => exact .inr ⟨_, _, rfl, q1⟩
    | [.tup as, .scr _], q1 => exact .inr ⟨_, _, rfl, q1⟩
    | [.tup as, .exc _ _], q1 => exact .inr ⟨_, _, rfl, q1⟩
    | [.non, y], q1 => exact .inr ⟨_, _, rfl, q1⟩
    | [.bl _, y], q1 => exact .inr ⟨_, _, rfl, q1⟩
    | [.int _, y], q1 => exact .inr ⟨_, _, rfl, q1⟩
    | [.str _, y], q1 => exact .inr ⟨_, _, rfl, q1⟩
    | [.ty _, y], q1 => exact .inr ⟨_, _, rfl, q1⟩
    | [.dct _, y], q1 => exact .inr ⟨_, _, rfl, q1⟩
    | [.scr _, y], q1 => exact .inr ⟨_, _, rfl, q1⟩
    | [.exc _ _, y], q1 => exact .inr ⟨_, _, rfl, q1⟩
  rcases sh with ⟨as, bs, rfl, q1⟩ | ⟨x, y, e, q1⟩
  · obtain ⟨v, u, ev, dd, d2⟩ := d1.two
    subst ev
    cases dd with
    | tup h1 t1 =>
      cases d2 with
      | tup h2 t2 => exact ⟨_, _, _, _, rfl, .inr ⟨h1.tup, h2.tup, k _ _ _ _ P1 o1 (serves_zipT (fun H' p => (h1.pers p).tup) (fun H' p => (h2.pers p).tup) t1 t2) q1⟩⟩
  · exact two e q1
theorem wi_rng1 {tg a : Expr} {t : TAw} {p pos : Pos} (hg : Gl X "range") (hm : X.mg "range" = none) (h : WA X [a] t) (hs : starEach [a] X.env = [(false, eval a X.env)]) : WI X tg (.Call (.Name "range" p) [a] [] pos) (rng1I t) := fun Fm Ex tk =>
  PI.imp (pi_range1 hg hm (h Fm Ex tk) hs) fun σ H R ⟨τ, O, R', S, o, q, k⟩ => by
    refine ⟨τ, O, _, S, o, q, fun vs ws H1 O1 P1 d1 o1 q1 => ?_⟩
    match ws, q1 with
    | [.int j], ⟨b, q1⟩ =>
      obtain ⟨v, ev, dd⟩ := d1.one
      subst ev
      rw [dd.of_int]
      exact ⟨j, rfl, b.1, b.2, k _ _ _ _ P1 o1 serves_rng q1⟩
theorem wi_rng2 {tg a b : Expr} {t : TAw} {p pos : Pos} (hg : Gl X "range") (hm : X.mg "range" = none) (h : WA X [a, b] t) (hs : starEach [a, b] X.env = [(false, eval a X.env), (false, eval b X.env)]) (hs2 : starEach [b] X.env = [(false, eval b X.env)]) :
    WI X tg (.Call (.Name "range" p) [a, b] [] pos) (rng2I t) := fun Fm Ex tk =>
  PI.imp (pi_range2 hg hm (h Fm Ex tk) hs hs2) fun σ H R ⟨τ, O, R', S, o, q, k⟩ => by
    refine ⟨τ, O, _, S, o, q, fun vs ws H1 O1 P1 d1 o1 q1 => ?_⟩
    match ws, q1 with
    | [.int i, .int j], ⟨b, q1⟩ =>
      obtain ⟨v, u, ev, dd, d2⟩ := d1.two
      subst ev
      rw [dd.of_int, d2.of_int]
      exact ⟨i, j, rfl, b, k _ _ _ _ P1 o1 serves_rng q1⟩
end
end TF

/-! TF9: for, comprehensions -/
namespace TF
open PySem PySem.Spec L2 RZ

/-! ### frames -/
def Fle (F F' : Hp) : Prop := ∀ a u, F a = some u → F' a = some u
/-- the frame, and all that stays -/
def perF (Fm H : Hp) : Hp := fun b => match H b with
  | some (.tup xs) => some (.tup xs)
  | some (.frz o u) => some (.frz o u)
  | _ => Fm b
section
variable {X : Cx} {K : PySem.W.Frag} {mg : Str → Option Value} {Fm F' H H' : Hp} {O : OW}
theorem Fle.refl (F : Hp) : Fle F F := fun _ _ h => h
theorem Own.fle (h : Own K mg F' O H) (l : Fle Fm F') : Own K mg Fm O H := ⟨h.at_, fun a u e => h.fr a u (l a u e), fun a u e => h.ap a u (l a u e)⟩
theorem fle_perF (o : Own K mg Fm O H) : Fle Fm (perF Fm H) := fun a u e => by
  have := o.fr a u e
  unfold perF
  rw [this]
  cases u <;> first | rfl | exact e
theorem Own.perF (o : Own K mg Fm O H) : Own K mg (perF Fm H) O H := by
  have key : ∀ a u, TF.perF Fm H a = some u → H a = some u ∧ O a = Option.none := fun a u e => by
    unfold TF.perF at e
    split at e
    · rename_i xs h
      cases e
      refine ⟨h, ?_⟩
      cases q : O a with
      | none => rfl
      | some oo => obtain ⟨w, z, z1, _⟩ := (o.at_ a oo q).some; rw [h] at z; cases z; exact absurd rfl (z1 _)
    · rename_i ob w h
      cases e
      refine ⟨h, ?_⟩
      cases q : O a with
      | none => rfl
      | some oo => obtain ⟨w, z, _, z2⟩ := (o.at_ a oo q).some; rw [h] at z; cases z; exact absurd rfl (z2 _ _)
    · exact ⟨o.fr a u e, o.ap a u e⟩
  exact ⟨o.at_, fun a u e => (key a u e).1, fun a u e => (key a u e).2⟩
theorem pers_perF (o : Own K mg (perF Fm H) O H') : Pers H H' := by
  refine ⟨fun b xs h => o.fr b _ ?_, fun b ob u h => o.fr b _ ?_⟩
  · unfold perF; rw [h]
  · unfold perF; rw [h]
def botX : XW := fun _ _ _ => False
theorem takes_le {Ex : XW} (tk : Takes X (LX X.K X.mg Fm Ex)) (l : Fle Fm F') : Takes X (LX X.K X.mg F' Ex) :=
  Takes.impI tk fun _ _ c d σ H _ ⟨x, τ, O, S, o, r, e⟩ => ⟨x, τ, O, S, o.fle l, r, e⟩
theorem takes_bot : Takes X (LX X.K X.mg Fm botX) := fun u s' ⟨a, B, sI, pins, σ, H, cls, d, e, I, nb, up, sky, na, os, ag, x, τ, O, S, o, r, z⟩ => z.elim
end

/-! ### for -/
def loopW (ok : OW → Prop) (T : Tg) (body : EndsW → SW → OW → Prop) (els : EndsW → SW → OW → Prop) (D : EndsW) : List Y → SW → OW → Prop
  | [], τ, O => ok O ∧ els D τ O
  | y :: ys, τ, O => ok O ∧ tgtW T y τ fun τ1 => body { nx := loopW ok T body els D ys, rt := D.rt, bk := D.nx, ct := loopW ok T body els D ys } τ1 O
def forW (ti : TIw) (T : Tg) (body els : TSw) : TSw := fun Ex D τ O => ti Ex τ O fun I O1 => loopW I.ok T (body Ex) (els Ex) D I.items τ O1
def nextW : TSw := fun _ D τ O => D.nx τ O
section
variable {X : Cx} {tg iter : Expr} {body orelse : List Stmt} {ti : TIw} {T : Tg} {tb te : TSw} {pos : Pos}
theorem wb_nil : WB X [] nextW := fun Fm Ex tk => PSs.imp (pss_nil) fun D' σ H ⟨D, τ, O, S, o, h, l⟩ => l.nx σ H τ O S o h
theorem EndsLe.fle {K : PySem.W.Frag} {mg : Str → Option Value} {Fm F' : Hp} {D : EndsW} {D' : Ends} (h : EndsLe K mg Fm D D') (l : Fle Fm F') : EndsLe K mg F' D D' :=
  ⟨fun σ H τ O S o => h.nx σ H τ O S (o.fle l), fun v H w O d o => h.rt v H w O d (o.fle l), fun σ H τ O S o => h.bk σ H τ O S (o.fle l), fun σ H τ O S o => h.ct σ H τ O S (o.fle l)⟩
/-- a body at any frame above -/
theorem pss_any {Fm : Hp} {Ex : XW} (tk : Takes X (LX X.K X.mg Fm Ex)) (h : WB X body tb) : PSs X body fun D σ H => ∃ F', Fle Fm F' ∧ LS X.K X.mg F' (tb Ex) D σ H :=
  ⟨fun pins s σ H D I ⟨F', l, q⟩ => (h F' Ex (takes_le tk l)).run pins s σ H D I q⟩
theorem ws_for (hp : PassesOwn (model X.prog X.w) X.A X.env X.xe) (hc : X.calm = true) (hi : WI X tg iter ti) (hg : WG X tg T) (hb : WB X body tb) (ho : WB X orelse te) (hs : ∀ x, foldedSetIterable iter X.env x = pure x) : WS X (.For tg iter body orelse pos) (forW ti T tb te) := fun Fm Ex tk => by
  refine PS.imp (ps_forE hp hc (hi Fm Ex tk) hg (pss_any tk hb) (pss_any tk ho) hs) fun D' σ H ⟨D, τ, O, S, o, h, l⟩ => ?_
  refine ⟨τ, O, _, S, o, h, fun J I H1 O1 P1 o1 sv q => ?_⟩
  refine ⟨fun i m σ2 H2 => m = I.items.length - i ∧ ∃ τ2 O2, Slots X.K X.mg H2 σ2 τ2 ∧ Own X.K X.mg (perF Fm H1) O2 H2 ∧ loopW I.ok T (tb Ex) (te Ex) D (I.items.drop i) τ2 O2, ⟨_, rfl, τ, O1, S.pers P1, o1.perF, by rw [List.drop_zero]; exact q⟩, ?_⟩
  rintro i m σ2 H2 ⟨rfl, τ2, O2, S2, o2, q2⟩
  have l1 := fle_perF o1
  have P2 := pers_perF o2
  have sv2 := fun ok => sv (perF Fm H1) H2 O2 P2 o2 ok i
  by_cases hlt : i < I.items.length
  · have e := List.getElem?_eq_getElem hlt
    rw [List.drop_eq_getElem_cons hlt] at q2
    obtain ⟨ok2, q2⟩ := q2
    obtain ⟨go, yl⟩ := (sv2 ok2).1 _ e
    refine .inr ⟨go, fun σ3 H3 => ∃ τ3 O3, Slots X.K X.mg H3 σ3 τ3 ∧ Own X.K X.mg (perF Fm H1) O3 H3 ∧ loopW I.ok T (tb Ex) (te Ex) D (I.items.drop (i + 1)) τ3 O3, fun σ3 H3 q3 => ⟨_, by omega, rfl, q3⟩, fun x H3 y => ?_⟩
    obtain ⟨P3, o3, d3⟩ := yl x H3 y
    refine tgt_ok T.slots (fun i h => h) d3 (S2.pers P3) q2 fun σ4 τ4 S4 q4 _ => ?_
    refine ⟨perF Fm H1, l1, _, τ4, O2, S4, o3, q4, ?_⟩
    refine ⟨fun σ5 H5 τ5 O5 S5 o5 q5 => ⟨τ5, O5, S5, o5, q5⟩, fun v H5 w O5 d5 o5 q5 => l.rt v H5 w O5 d5 (o5.fle l1) q5, fun σ5 H5 τ5 O5 S5 o5 q5 => l.nx σ5 H5 τ5 O5 S5 (o5.fle l1) q5, fun σ5 H5 τ5 O5 S5 o5 q5 => ⟨τ5, O5, S5, o5, q5⟩⟩
  · have e : I.items.drop i = [] := List.drop_eq_nil_of_le (by omega)
    rw [e] at q2
    obtain ⟨ok2, q2⟩ := q2
    exact .inl ⟨(sv2 ok2).2 (by omega), Fm, Fle.refl _, D, τ2, O2, S2, o2.fle l1, q2, l⟩
end

/-! ### comprehensions -/
def yesT : TTw := fun _ _ O Q => Q true O
def compGo (ok : OW → Prop) (T : Tg) (tt : TTw) (te : TEw) (τ : SW) : List Y → List Dt → OW → (List Dt → OW → Prop) → Prop
  | [], acc, O, k => ok O ∧ k acc O
  | y :: ys, acc, O, k => ok O ∧ tgtW T y τ fun τ1 => tt botX τ1 O fun b O1 => if b = true then te botX τ1 O1 fun w O2 => acc.length < LIM ∧ compGo ok T tt te τ ys (acc ++ [w]) O2 k else compGo ok T tt te τ ys acc O1 k
def compW (fz : Bool) (ti : TIw) (T : Tg) (tt : TTw) (te : TEw) (own : List Nat) : TEw := fun Ex τ O Q => ti Ex τ O fun I O1 => compGo I.ok T tt te (wipeW τ own) I.items [] O1 fun ws O2 => newL fz ws O2 Q
def WTs (X : Cx) (ifs : List Expr) (t : TTw) : Prop := ∀ Fm Ex, Takes X (LX X.K X.mg Fm Ex) → PTs X ifs (LT X.K X.mg Fm (t Ex))
theorem PTs.imp {X : Cx} {ifs : List Expr} {t t' : TT} (h : PTs X ifs t) (i : ∀ σ H Q, t' σ H Q → t σ H Q) : PTs X ifs t' := ⟨fun pins s σ H Q I q => h.run pins s σ H Q I (i _ _ _ q)⟩
section
variable {X : Cx} {Fm : Hp}
theorem wts_nil : WTs X [] yesT := fun Fm Ex tk => PTs.imp pts_nil fun σ H Q ⟨τ, O, Q', S, o, h, k⟩ => k _ _ _ (Pers.refl H) o h
theorem wts_one {c : Expr} {t : TTw} (h : WT X c t) : WTs X [c] t := fun Fm Ex tk => pts_one (h Fm Ex tk)
/-- what is known behind a comprehension's loop -/
def LcPost (X : Cx) (Fm H : Hp) (R : List Dt → OW → Prop) : VK := fun v H' => ∃ D vs ws O2, v = .ref D ∧ H' D = some (.lst vs) ∧ Pers H H' ∧ IsDs X.K X.mg H' vs ws ∧ Own X.K X.mg Fm O2 H' ∧ O2 D = none ∧ Fm D = none ∧ R ws O2
/-- a list in the frame grows -/
theorem Own.grow {K : PySem.W.Frag} {mg : Str → Option Value} {F H : Hp} {D : Addr} {vs us : List V} {O : OW} (fD : F D = Option.none) (o : Own K mg (upd F D (.lst vs)) O H) : Own K mg (upd F D (.lst us)) O (upd H D (.lst us)) ∧ Pers H (upd H D (.lst us)) := by
  have hD : H D = some (.lst vs) := o.fr D _ upd_same
  have oD : O D = Option.none := o.ap D _ upd_same
  have P : Pers H (upd H D (.lst us)) := Pers.upd (fun _ e => by rw [hD] at e; cases e) (fun _ _ e => by rw [hD] at e; cases e)
  refine ⟨⟨fun a oo e => ?_, fun a u e => ?_, fun a u e => ?_⟩, P⟩
  · have ha : a ≠ D := fun z => by subst z; rw [oD] at e; cases e
    exact (o.at_ a oo e).stay P (upd_ne ha)
  · by_cases ha : a = D
    · subst ha; rw [upd_same] at e ⊢; exact e
    · rw [upd_ne ha] at e ⊢
      exact o.fr a u (by rw [upd_ne ha]; exact e)
  · by_cases ha : a = D
    · subst ha; exact oD
    · rw [upd_ne ha] at e
      exact o.ap a u (by rw [upd_ne ha]; exact e)
theorem tLc_ok {ti : TIw} {T : Tg} {tt : TTw} {te : TEw} {own : List Nat} {Ex : XW} {σ : L2.St} {H : Hp} {τ : SW} {O : OW} {R : List Dt → OW → Prop} (hT : ∀ i ∈ T.slots, i ∈ own) (S : Slots X.K X.mg H σ τ) (o : Own X.K X.mg Fm O H)
    (h : ti Ex τ O fun I O1 => compGo I.ok T tt te (wipeW τ own) I.items [] O1 R) :
    tLc (LI X.K X.mg Fm (ti Ex)) (gOf X.K T) (fun σ H Q => ∃ F, LT X.K X.mg F (tt botX) σ H Q) (fun σ H Q => ∃ F, LE X.K X.mg F (te botX) σ H Q) own σ H (LcPost X Fm H R) := by
  refine ⟨τ, O, _, S, o, h, fun J I H1 O1 P1 o1 sv q D nD => ?_⟩
  have fD : perF Fm H1 D = none := by
    unfold perF
    rw [nD]
    exact o1.fnone nD
  have l1 := fle_perF o1
  refine ⟨fun i m H2 => m = I.items.length - i ∧ ∃ vs ws O2, Own X.K X.mg (upd (perF Fm H1) D (.lst vs)) O2 H2 ∧ IsDs X.K X.mg H2 vs ws ∧ compGo I.ok T tt te (wipeW τ own) (I.items.drop i) ws O2 R, ⟨_, rfl, [], [], O1, ?_, .nil, by rw [List.drop_zero]; exact q⟩, ?_⟩
  · have P := Pers.new (o := .lst []) nD
    have o1' := o1.perF
    refine ⟨fun a oo e => ?_, fun a u e => ?_, fun a u e => ?_⟩
    · have ha : a ≠ D := fun z => by subst z; rw [o1.none nD] at e; cases e
      exact (o1.at_ a oo e).stay P (upd_ne ha)
    · by_cases ha : a = D
      · subst ha; rw [upd_same] at e ⊢; exact e
      · rw [upd_ne ha] at e ⊢; exact o1'.fr a u e
    · by_cases ha : a = D
      · subst ha; exact o1.none nD
      · rw [upd_ne ha] at e; exact o1'.ap a u e
  · rintro i m H2 ⟨rfl, vs, ws, O2, o2, d2, q2⟩
    have l2 : Fle (perF Fm H1) (upd (perF Fm H1) D (.lst vs)) := fun a u e => by
      rw [upd_ne (fun z => by subst z; rw [fD] at e; cases e)]; exact e
    have P2 : Pers H1 H2 := pers_perF (o2.fle l2)
    have sv2 := fun ok => sv _ H2 O2 P2 o2 ok i
    have hD : H2 D = some (.lst vs) := o2.fr D _ upd_same
    by_cases hlt : i < I.items.length
    · have e := List.getElem?_eq_getElem hlt
      rw [List.drop_eq_getElem_cons hlt] at q2
      obtain ⟨ok2, q2⟩ := q2
      obtain ⟨go, yl⟩ := (sv2 ok2).1 _ e
      refine .inr ⟨go, fun H3 => ∃ vs ws O2, Own X.K X.mg (upd (perF Fm H1) D (.lst vs)) O2 H3 ∧ IsDs X.K X.mg H3 vs ws ∧ compGo I.ok T tt te (wipeW τ own) (I.items.drop (i + 1)) ws O2 R, fun H3 q3 => ⟨_, by omega, rfl, q3⟩, fun x H3 y => ?_⟩
      obtain ⟨P3, o3, d3⟩ := yl x H3 y
      have S3 := (((S.pers P1).pers P2).pers P3).wipe own
      refine tgt_ok own hT d3 S3 q2 fun σ4 τ4 S4 q4 hw => ⟨by rw [hw]; exact wipe_wipe, ?_⟩
      refine ⟨_, τ4, O2, _, S4, o3, q4, fun b H5 O5 P5 o5 q5 => ?_⟩
      cases b with
      | false => exact ⟨vs, ws, O5, o5, d2.pers (P3.trans P5), q5⟩
      | true =>
        refine ⟨_, τ4, O5, _, S4.pers P5, o5, q5, fun v H6 ⟨w, O6, P6, d6, o6, z6, q6⟩ => ⟨vs, o6.fr D _ upd_same, ?_, ?_⟩⟩
        · rw [d2.length, lim_eq]; exact z6
        · obtain ⟨o7, P7⟩ := Own.grow (us := vs ++ [v]) fD o6
          exact ⟨_, _, O6, o7, ((d2.pers ((P3.trans P5).trans P6)).append (.cons d6 .nil)).pers P7, q6⟩
    · have e : I.items.drop i = [] := List.drop_eq_nil_of_le (by omega)
      rw [e] at q2
      obtain ⟨ok2, q2⟩ := q2
      refine .inl ⟨(sv2 ok2).2 (by omega), D, vs, ws, O2, rfl, hD, P1.trans P2, d2, (o2.fle l2).fle l1, o2.ap D _ upd_same, ?_, q2⟩
      exact o1.fnone nD
where
  wipe_wipe {σ : L2.St} {own : List Nat} : wipe (wipe σ own) own = wipe σ own := by
    have : ∀ (vs us : List Nat), (∀ v ∈ us, v ∈ vs) → wipe (wipe σ us) vs = wipe σ vs := by
      intro vs us
      induction us with
      | nil => intro _; rfl
      | cons u us ih =>
        intro h
        show wipe ((wipe σ us).set u none) vs = _
        rw [wipe_set (h u (by simp)), ih fun v hv => h v (by simp [hv])]
    exact this own own fun v hv => hv
/-- behind it -/
theorem ep_lcPost {pins : List (Addr × Obj)} {σ : L2.St} {s : Shared} {H H' : Hp} {fz : Bool} {Q : KW} {Q' : VK} {v : V} {u : Value} (I : Inv X pins σ H' s) (r : RelV v u) (p : LcPost X Fm H (fun ws O2 => newL fz ws O2 Q) v H') (k : ∀ v H', LQ X.K X.mg Fm H Q v H' → Q' v H') : EP X pins σ Q' u s := by
  obtain ⟨D, vs, ws, O2, rfl, hD, P, d, o, oD, fD, q⟩ := p
  unfold newL at q
  cases fz with
  | false =>
    rw [if_neg Bool.false_ne_true] at q
    refine ⟨.ref D, H', I, r, k _ _ ⟨.ref D, _, P, .ref D, ⟨fun a oo e => ?_, o.fr, fun a w e => ?_⟩, q D oD⟩⟩
    · by_cases ha : a = D
      · subst ha; rw [upo_same] at e; cases e; exact ⟨vs, hD, d⟩
      · rw [upo_ne ha] at e; exact o.at_ a oo e
    · rw [upo_ne (fun z => by subst z; rw [fD] at e; cases e)]; exact o.ap a w e
  | true =>
    rw [if_pos rfl] at q
    obtain ⟨ob, I2⟩ := I.lock hD trivial
    have P2 : Pers H' (upd H' D (.frz ob (.lst vs))) := Pers.upd (fun _ e => by rw [hD] at e; cases e) (fun _ _ e => by rw [hD] at e; cases e)
    refine ⟨.ref D, _, I2, r, k _ _ ⟨.lst ws, O2, P.trans P2, .lst ⟨ob, upd_same⟩ (d.pers P2), ⟨fun a oo e => ?_, fun a w e => ?_, o.ap⟩, q⟩⟩
    · exact (o.at_ a oo e).stay P2 (upd_ne (fun z => by subst z; rw [oD] at e; cases e))
    · rw [upd_ne (fun z => by subst z; rw [fD] at e; cases e)]; exact o.fr a w e
theorem pe_anyF {e : Expr} {t : TEw} (h : WE X e t) : PE X e fun σ H Q => ∃ F, LE X.K X.mg F (t botX) σ H Q := ⟨fun pins s σ H Q I ⟨F, q⟩ => (h F botX takes_bot).run pins s σ H Q I q⟩
theorem pts_anyF {ifs : List Expr} {t : TTw} (h : WTs X ifs t) : PTs X ifs fun σ H Q => ∃ F, LT X.K X.mg F (t botX) σ H Q := ⟨fun pins s σ H Q I ⟨F, q⟩ => (h F botX takes_bot).run pins s σ H Q I q⟩
/-- the block of a comprehension -/
abbrev Blk (X : Cx) (scope : Scope) (s : Shared) (H : Hp) (C : Addr) (cl : List (Str × Addr)) (fp : List Addr) : Cx := X.blk s H scope (compEnvC scope cl C X.env) fp
theorem we_lc {elt tg iter : Expr} {ifs : List Expr} {scope : Scope} {own : List (Str × Nat)} {pos : Pos} {ti : TIw} {T : Tg} {tt : TTw} {te : TEw} (fz : Bool) (hc : X.calm = true) (hN : X.N.Nodup) (hi : WI X tg iter ti) (ok : BlkOk X.N X.env.scope scope own) (hT : ∀ i ∈ T.slots, i ∈ own.map (·.2))
    (hg : ∀ s H C cl fp, WG (Blk X scope s H C cl fp) tg T) (ht : ∀ s H C cl fp, WTs (Blk X scope s H C cl fp) ifs tt) (he : ∀ s H C cl fp, WE (Blk X scope s H C cl fp) elt te) (hs : ∀ x, foldedSetIterable iter X.env x = pure x) :
    WE X (.ListComp elt [⟨tg, iter, ifs, 0⟩] scope pos) (compW fz ti T tt te (own.map (·.2))) := fun Fm Ex tk => by
  refine ⟨fun pins s σ H Q' I ⟨τ, O, Q, S, o, h, k⟩ => ?_⟩
  refine thn ((pe_lc (g := gOf X.K T) hc hN (hi Fm Ex tk) ok hg (fun s H C cl fp => pts_anyF (ht s H C cl fp)) (fun s H C cl fp => pe_anyF (he s H C cl fp)) hs).run pins s σ H _ I (tLc_ok hT S o h)) fun u s1 ⟨v, H1, I1, r1, q1⟩ => ?_
  exact ep_lcPost I1 r1 q1 k
end
end TF

/-! TF10: chains, globals, isinstance, len(set(..)), methods of built-in types -/
namespace TF
open PySem PySem.Spec L2 RZ PyProof.Rows

section
variable {X : Cx} {a b c e : Expr} {pos : Pos} {ta tb tc : TEw}
theorem WE.imp {t t' : TEw} (h : WE X e t) (i : ∀ Ex τ O Q, t' Ex τ O Q → t Ex τ O Q) : WE X e t' := fun Fm Ex tk => PE.imp (h Fm Ex tk) fun σ H Q' ⟨τ, O, Q, S, o, q, k⟩ => ⟨τ, O, Q, S, o, i _ _ _ _ q, k⟩
theorem we_chain {op op' : CmpOp} {r r' : RW2} (ho : OpW X (compareOp op) r) (ho' : OpW X (compareOp op') r') (ha : WE X a ta) (hb : WE X b tb) (hc : WE X c tc) (hm : lastMarks [op, op'] [b, c] = false) : WE X (.Compare a [op, op'] [b, c] pos) (chnW r r' ta tb tc) := fun Fm Ex tk => by
  refine ⟨fun pins s σ H Q' I ⟨τ, O, Q, S, o, h, k⟩ => ?_⟩
  refine Compare_chain (thn ((ha Fm Ex tk).run pins s σ H _ I (LE.bind (R := fun xv H1 => ∃ x O1, Pers H H1 ∧ Slots X.K X.mg H1 σ τ ∧ IsD X.K X.mg H1 xv x ∧ Own X.K X.mg Fm O1 H1 ∧ tb Ex τ O1 fun y O2 => r x y O2 fun z O3 => onBl z fun k => if k = true then tc Ex τ O3 fun w O4 => r' y w O4 Q else Q (.bl false) O3) S o h fun v w H1 O1 P S1 d o1 q => ⟨w, O1, P, S1, d, o1, q⟩)) fun u1 s1 ⟨xv, H1, I1, r1, x, O1, P1, S1, d1, o1, q1⟩ => chain_link (thn ((hb Fm Ex tk).run pins s1 σ H1 _ I1 (LE.bind (R := fun yv H2 => ∃ y O2, Pers H1 H2 ∧ Slots X.K X.mg H2 σ τ ∧ IsD X.K X.mg H2 yv y ∧ Own X.K X.mg Fm O2 H2 ∧ r x y O2 fun z O3 => onBl z fun k => if k = true then tc Ex τ O3 fun w O4 => r' y w O4 Q else Q (.bl false) O3) S1 o1 q1 fun v w H2 O2 P S2 d o2 q => ⟨w, O2, P, S2, d, o2, q⟩)) fun u2 s2 ⟨yv, H2, I2, r2, y, O2, P2, S2, d2, o2, q2⟩ => ?_)) hm
  refine thn (ho Fm pins s2 σ H2 xv yv u1 u2 x y O2 _ (fun v H3 => LQ X.K X.mg Fm H2 (fun z O3 => onBl z fun k => if k = true then tc Ex τ O3 fun w O4 => r' y w O4 Q else Q (.bl false) O3) v H3) I2 r1 r2 (d1.pers P2) d2 o2 q2 fun v H' z => z) fun d s3 ⟨z, H3, I3, r3, w3, O3, P3, d3, o3, q3⟩ => ?_
  obtain ⟨kb, rfl, q3⟩ := onBl_is q3
  rw [d3.of_bl] at r3
  cases r3
  refine wpAny_truthy_bool ?_
  have PP := P1.trans (P2.trans P3)
  cases kb with
  | false => exact ite_ff ⟨.bl false, H3, I3, rfl, k _ _ ⟨.bl false, O3, PP, .bl _, o3, q3⟩⟩
  | true => 
    refine ite_tt (chain_last (thn ((hc Fm Ex tk).run pins s3 σ H3 _ I3 (LE.bind (R := fun wv H4 => ∃ w O4, Pers H3 H4 ∧ IsD X.K X.mg H4 wv w ∧ Own X.K X.mg Fm O4 H4 ∧ r' y w O4 Q) (S2.pers P3) o3 q3 fun v w H4 O4 P S4 d o4 q => ⟨w, O4, P, d, o4, q⟩)) fun w' s4 ⟨wv, H4, I4, r4, w, O4, P4, d4, o4, q4⟩ => ?_))
    exact ho' Fm pins s4 σ H4 yv wv u2 w' y w O4 Q Q' I4 r2 r4 (d2.pers (P3.trans P4)) d4 o4 q4 fun v H' z => k v H' (z.trans (PP.trans P4))
theorem wt_chain {op op' : CmpOp} {r r' : RW2} (ho : OpW X (compareOp op) r) (ho' : OpW X (compareOp op') r') (ha : WE X a ta) (hb : WE X b tb) (hc : WE X c tc) (hm : lastMarks [op, op'] [b, c] = false) : WT X (.Compare a [op, op'] [b, c] pos) (tstW (chnW r r' ta tb tc)) := fun Fm Ex tk => by
  refine ⟨fun pins s σ H Q' I ⟨τ, O, Q, S, o, h, k⟩ => ?_⟩
  have h : chnW r r' ta tb tc Ex τ O (fun x O1 => onBl x fun b => Q b O1) := h
  refine isTrue_chain (thn ((ha Fm Ex tk).run pins s σ H _ I (LE.bind (R := fun xv H1 => ∃ x O1, Pers H H1 ∧ Slots X.K X.mg H1 σ τ ∧ IsD X.K X.mg H1 xv x ∧ Own X.K X.mg Fm O1 H1 ∧ tb Ex τ O1 fun y O2 => r x y O2 fun z O3 => onBl z fun k => if k = true then tc Ex τ O3 fun w O4 => r' y w O4 (fun x O1 => onBl x fun b => Q b O1) else Q false O3) S o h fun v w H1 O1 P S1 d o1 q => ⟨w, O1, P, S1, d, o1, q⟩)) fun u1 s1 ⟨xv, H1, I1, r1, x, O1, P1, S1, d1, o1, q1⟩ => test_link (thn ((hb Fm Ex tk).run pins s1 σ H1 _ I1 (LE.bind (R := fun yv H2 => ∃ y O2, Pers H1 H2 ∧ Slots X.K X.mg H2 σ τ ∧ IsD X.K X.mg H2 yv y ∧ Own X.K X.mg Fm O2 H2 ∧ r x y O2 fun z O3 => onBl z fun k => if k = true then tc Ex τ O3 fun w O4 => r' y w O4 (fun x O1 => onBl x fun b => Q b O1) else Q false O3) S1 o1 q1 fun v w H2 O2 P S2 d o2 q => ⟨w, O2, P, S2, d, o2, q⟩)) fun u2 s2 ⟨yv, H2, I2, r2, y, O2, P2, S2, d2, o2, q2⟩ => ?_)) hm
  refine thn (ho Fm pins s2 σ H2 xv yv u1 u2 x y O2 _ (fun v H3 => LQ X.K X.mg Fm H2 (fun z O3 => onBl z fun k => if k = true then tc Ex τ O3 fun w O4 => r' y w O4 (fun x O1 => onBl x fun b => Q b O1) else Q false O3) v H3) I2 r1 r2 (d1.pers P2) d2 o2 q2 fun v H' z => z) fun d s3 ⟨z, H3, I3, r3, w3, O3, P3, d3, o3, q3⟩ => ?_
  obtain ⟨kb, rfl, q3⟩ := onBl_is q3
  rw [d3.of_bl] at r3
  cases r3
  refine wpAny_truthy_bool ?_
  have PP := P1.trans (P2.trans P3)
  cases kb with
  | false => exact ite_ff ⟨H3, I3, k _ _ _ PP o3 q3⟩
  | true =>
    refine ite_tt (test_last (thn ((hc Fm Ex tk).run pins s3 σ H3 _ I3 (LE.bind (R := fun wv H4 => ∃ w O4, Pers H3 H4 ∧ IsD X.K X.mg H4 wv w ∧ Own X.K X.mg Fm O4 H4 ∧ r' y w O4 (fun x O1 => onBl x fun b => Q b O1)) (S2.pers P3) o3 q3 fun v w H4 O4 P S4 d o4 q => ⟨w, O4, P, d, o4, q⟩)) fun w' s4 ⟨wv, H4, I4, r4, w, O4, P4, d4, o4, q4⟩ => ?_))
    refine thn (ho' Fm pins s4 σ H4 yv wv u2 w' y w O4 _ (fun v H5 => LQ X.K X.mg Fm H4 (fun x O1 => onBl x fun b => Q b O1) v H5) I4 r2 r4 (d2.pers (P3.trans P4)) d4 o4 q4 fun v H' z => z) fun d' s5 ⟨z2, H5, I5, r5, w5, O5, P5, d5, o5, q5⟩ => ?_
    obtain ⟨kb2, rfl, q5⟩ := onBl_is q5
    rw [d5.of_bl] at r5
    cases r5
    exact wpAny_truthy_bool ⟨H5, I5, k _ _ _ (PP.trans (P4.trans P5)) o5 q5⟩

/-! ### globals -/
theorem we_gi {x : Str} {i : Int} (hg : Gl X x) (h : ∃ t, X.mg x = some (.int i t)) (hd : (x == ("__debug__" : Str)) = false) : WE X (.Name x pos) (cstW (.int i)) := by
  obtain ⟨t, h⟩ := h
  exact we_cst (pe_glob (v := .int i) hg h ⟨t, rfl⟩ hd) fun H => .int i
theorem we_gs {x : Str} {z : Str} (hg : Gl X x) (h : ∃ t, X.mg x = some (.str z t)) (hd : (x == ("__debug__" : Str)) = false) : WE X (.Name x pos) (cstW (.str z)) := by
  obtain ⟨t, h⟩ := h
  exact we_cst (pe_glob (v := .str z) hg h ⟨t, rfl⟩ hd) fun H => .str z
/-- the name of a built-in type -/
theorem we_ty {x : Str} {n : String} (hg : Gl X x) (hm : X.mg x = none) (hv : bootBuiltins x = some (.type n)) (hn : x ≠ "__name__") (hdb : (x == ("__debug__" : Str)) = false) : WE X (.Name x pos) (cstW (.ty n)) :=
  we_cst (v := .ty n) ⟨fun pins s σ H Q I q => ld_blt I hg hm hv ⟨.ty n, H, I, rfl, q⟩ hn hdb⟩ fun H => .ty n
end
end TF

/-! TF11: isinstance, len(set(..)), methods of built-in types -/
namespace TF
open PySem PySem.Spec L2 RZ PyProof.Rows

/-! ### isinstance -/
inductive TN where | none | bool | int | str | tuple | list | dict
deriving DecidableEq
def TN.nm : TN → String | .none => "NoneType" | .bool => "bool" | .int => "int" | .str => "str" | .tuple => "tuple" | .list => "list" | .dict => "dict"
def TN.sub (a b : TN) : Bool := decide (a = b) || (decide (a = .bool) && decide (b = .int))
theorem kitB_sub (a b : TN) (h : b ≠ .none) : kitB a.nm b.nm = some (a.sub b) := by
  cases b <;> first | exact absurd rfl h | (cases a <;> decide +kernel)
def tnOf (O : OW) : Dt → Option TN
  | .non => some .none | .bl _ => some .bool | .int _ => some .int | .str _ => some .str | .tup _ => some .tuple | .lst _ => some .list | .scr _ => some .list | .dct _ => some .dict
  | .ref a => match O a with
    | some (.lst _) => some .list
    | some (.dct _) => some .dict
    | _ => none
  | .ty _ => none | .exc _ _ => none
def isi1W (T : TN) : RCW := fun ws O Q => match ws with
  | [x, .ty n] => n = T.nm ∧ (match tnOf O x with
    | some t => Q (.bl (t.sub T)) O
    | none => False)
  | _ => False
def isi2W (T U : TN) : RCW := fun ws O Q => match ws with
  | [x, .tup [.ty n, .ty m]] => (n = T.nm ∧ m = U.nm) ∧ (match tnOf O x with
    | some t => Q (.bl (t.sub T || t.sub U)) O
    | none => False)
  | _ => False
/-- isinstance(e, T) -/
def isiW (T : TN) (te : TEw) : TEw := fun Ex τ O Q => te Ex τ O fun x O1 => match tnOf O1 x with
  | some t => Q (.bl (t.sub T)) O1
  | none => False
def isiiW (T U : TN) (te : TEw) : TEw := fun Ex τ O Q => te Ex τ O fun x O1 => match tnOf O1 x with
  | some t => Q (.bl (t.sub T || t.sub U)) O1
  | none => False
section
variable {X : Cx} {K : PySem.W.Frag} {mg : Str → Option Value} {Fm H : Hp} {O : OW}
theorem tyX_of {v : V} {x : Dt} {t : TN} (d : IsD K mg H v x) (o : Own K mg Fm O H) (e : tnOf O x = some t) : TyX K H v (.type t.nm) := by
  cases d with
  | non => cases e; exact .base .non
  | bl b => cases e; exact .base (.bl b)
  | int i => cases e; exact .base (.int i)
  | str z => cases e; exact .base (.str z)
  | tup h1 h2 =>
    cases e
    rcases h1 with ⟨o, h1, _⟩ | ⟨o, its, n, h1, h2, _⟩
    · exact .fTuple h1
    · exact .kTuple h1 h2
  | lst h1 h2 => cases e; obtain ⟨o, h1⟩ := h1; exact .base (.frz h1)
  | dct h1 h2 => cases e; exact .fDict h1
  | scr h1 h2 =>
    cases e
    rcases h1 with ⟨o, h1⟩ | ⟨o, its, n, h1, h2, _⟩
    · exact .base (.frz h1)
    · exact .kList h1 h2
  | ref a =>
    have e : (match O a with | some (.lst _) => some TN.list | some (.dct _) => some TN.dict | _ => none) = some t := e
    split at e
    · rename_i ws q
      cases e
      obtain ⟨vs, h1, _⟩ := o.at_ a _ q
      exact .base (.lst h1)
    · rename_i ws q
      cases e
      obtain ⟨vs, h1, _⟩ := o.at_ a _ q
      exact .base (.dK h1)
    · cases e
  | _ => cases e
theorem isi1_ok (T : TN) (hT : T ≠ .none) : CallW X (.builtin "isinstance") (isi1W T) := by
  refine CallW.of call_isi fun Fm H vs ws O Q Q' d o q k => ?_
  match ws, q with
  | [x, .ty n], ⟨en, q⟩ =>
    subst en
    obtain ⟨v, u, ev, d1, d2⟩ := d.two
    subst ev
    cases d2
    cases e : tnOf O x with
    | none => simp only [e] at q
    | some t =>
      simp only [e] at q
      exact ⟨v, .ty T.nm, _, _, _, rfl, .ty _, tyX_of d1 o e, kit_ty (kitB_sub t T hT), k _ _ (LQ.mk (.bl _) o q)⟩
theorem isi2_ok (T U : TN) (hT : T ≠ .none) (hU : U ≠ .none) : CallW X (.builtin "isinstance") (isi2W T U) := by
  intro Fm pins s σ H vs us ws O Q Q' I rv d o q k
  match ws, q with
  | [x, .tup [.ty n, .ty m]], ⟨⟨en, em⟩, q⟩ =>
    subst en em
    obtain ⟨v, u, ev, d1, d2⟩ := d.two
    subst ev
    cases e : tnOf O x with
    | none => simp only [e] at q
    | some t =>
      simp only [e] at q
      cases d2 with
      | tup h1 h2 =>
        cases h2 with
        | cons a1 h2 =>
          cases h2 with
          | cons a2 h2 =>
            cases h2
            cases a1
            cases a2
            obtain ⟨u1, u2, rfl, r1, r2⟩ := vals2 rv
            cases r2
            obtain ⟨P, Z, p, hx⟩ := kit_of I r1 (tyX_of d1 o e)
            obtain ⟨its, r', ⟨⟨oc, od, dt, sl⟩, g1, g2, n, g3⟩, _⟩ := I.tuple h1.tup
            simp only at g2 g3
            subst g2 g3
            have e3 := ClsV.all (.cons (.ty T.nm) (.cons (.ty U.nm) .nil)) r'
            subst e3
            have ka : PySem.W.kitAny X.K (.type t.nm) [.type T.nm, .type U.nm] = some (t.sub T || t.sub U) := by
              refine kitAny_cons (kit_ty (kitB_sub t T hT)) (fun h => ?_) (fun h => by rw [h]; rfl)
              rw [h]
              exact kitAny_cons (kit_ty (kitB_sub t U hU)) (fun h => by rw [h]; rfl) (fun h => by rw [h]; rfl)
            exact PySem.W.kia_tup Z I.kIn p g1 ka hx fun tk => ⟨.bl _, H, I.tok tk, rfl, k _ _ (LQ.mk (.bl _) o q)⟩
end

/-! ### len(set(..)) of ints -/
def lsetW (te : TEw) : TEw := fun Ex τ O Q => te Ex τ O fun x O1 => ∃ ns : List Int, asQ O1 x = some (ns.map Dt.int) ∧ ns.length ≤ 4000 ∧ ∀ L : List Int, L.Nodup → (∀ k, k ∈ L ↔ k ∈ ns) → Q (.int L.length) O1
section
variable {X : Cx} {a : Expr} {ta : TEw} {p p2 q pos : Pos}
theorem setR_list {w : World} {h : Heap} {x : Addr} {S : Int → Bool} {n : Nat} (r : SetR w h x S n) : ∃ o es ep t, h.get? x = some o ∧ o.ExactSet ∧ o.data = .set es ep t ∧ t.fits es.size = true ∧ es.size = n ∧ (es.toList.map keyOf).Nodup ∧ (∀ k, S k = true ↔ k ∈ es.toList.map keyOf) := by
  obtain ⟨o, es, ep, t, h1, h2, h3, h4, h5, h6, h7, h8, h9, _⟩ := r
  exact ⟨o, es, ep, t, h1, h2, h3, h8, h9, h5, h6⟩
theorem firstMet_nd (val : Nat → Int) : ∀ i, (firstMet val i).Nodup
  | 0 => by rw [firstMet_zero]; exact List.nodup_nil
  | i + 1 => by
    rw [firstMet_succ]
    unfold step_dedup
    have ih := firstMet_nd val i
    cases hb : (firstMet val i).any (· == val i) with
    | true => simpa [hb] using ih
    | false =>
      have hn : val i ∉ firstMet val i := fun hm => by
        have : (firstMet val i).any (· == val i) = true := List.any_eq_true.mpr ⟨_, hm, beq_self_eq_true _⟩
        rw [hb] at this
        cases this
      simp only [Bool.false_eq_true, if_false]
      rw [List.nodup_append]
      exact ⟨ih, by simp, fun x hx y hy => by simp at hy; subst hy; exact fun z => hn (z ▸ hx)⟩
theorem firstMet_mem (ns : List Int) (k : Int) : k ∈ firstMet (fun i => ns.getD i 0) ns.length ↔ k ∈ ns := by
  have h := firstMet_any (fun i => ns.getD i 0) ns.length k
  have e : (List.range ns.length).map (fun i => ns.getD i 0) = ns := by
    apply List.ext_getElem?
    intro i
    rw [List.getElem?_map]
    by_cases hi : i < ns.length
    · rw [List.getElem?_range hi, List.getElem?_eq_getElem hi]
      simp [List.getD_eq_getElem?_getD, List.getElem?_eq_getElem hi]
    · rw [List.getElem?_eq_none (by simpa using hi), List.getElem?_eq_none (by omega)]
      rfl
  rw [e] at h
  have l : ∀ l : List Int, l.any (· == k) = true ↔ k ∈ l := fun l => by
    rw [List.any_eq_true]
    exact ⟨fun ⟨x, hx, e⟩ => by rw [← eq_of_beq e]; exact hx, fun hx => ⟨k, hx, beq_self_eq_true _⟩⟩
  rw [← l, h, l]
theorem we_lset (hg : Gl X "len") (hm : X.mg "len" = none) (hg2 : Gl X "set") (hm2 : X.mg "set" = none) (ha : WE X a ta) (hc : X.calm = true) (na : starEach [a] X.env = (false, eval a X.env) :: starEach [] X.env)
    (n2 : starEach [.Call (.Name "set" p2) [a] [] q] X.env = (false, eval (.Call (.Name "set" p2) [a] [] q) X.env) :: starEach [] X.env := by rfl) : WE X (.Call (.Name "len" p) [.Call (.Name "set" p2) [a] [] q] [] pos) (lsetW ta) := fun Fm Ex tk => by
  refine ⟨fun pins s σ H Q' I ⟨τ, O, Q, S, o, h, k⟩ => ?_⟩
  refine Call_ (ld_blt I hg hm boot_len ?_)
  refine PyProof.Rows.callWith_builtin1 (PyProof.Rows.args_cons ?_ n2) n2 rfl
  refine Call_ (ld_blt I hg2 hm2 boot_set ?_)
  refine PyProof.Rows.callWith_type1 (PyProof.Rows.args_cons (thn ((ha Fm Ex tk).run pins s σ H (fun v H1 => ∃ w O1, Pers H H1 ∧ IsD X.K X.mg H1 v w ∧ Own X.K X.mg Fm O1 H1 ∧ ∃ ns : List Int, asQ O1 w = some (ns.map Dt.int) ∧ ns.length ≤ 4000 ∧ ∀ L : List Int, L.Nodup → (∀ k, k ∈ L ↔ k ∈ ns) → Q (.int L.length) O1) I ⟨τ, O, _, S, o, h, fun v H1 ⟨w, O1, P, d, o1, q1⟩ => ⟨w, O1, P, d, o1, q1⟩⟩) fun v s1 ⟨x, H1, I1, r1, w, O1, P1, d1, o1, ns, e, hl, q1⟩ => PyProof.Rows.args_nil ?_) na) na rfl
  obtain ⟨l, xs, rfl, hq, t⟩ := asQ_rd d1 o1 e
  have ex := t.ints
  subst ex
  cases r1
  rcases hq with hq | hq
  · obtain ⟨its, r, pl, hz⟩ := I1.list (.inl hq)
    have hlen : its.toArray.size = ns.length := by rw [List.size_toArray, ← r.length, List.length_map]
    refine call_set_list (I1.ok.hd hc) pl.isList (by simpa using intsAre_vals r) (by rw [hlen]; unfold scanBound; omega) fun h' tk hS hk => ?_
    refine PyProof.Rows.args_nil ?_
    rw [hlen] at hS
    obtain ⟨oo, es, ep, t', ho, hex, hd, _, _, _, hf, hn⟩ := hS
    have hle := firstMet_length_le (fun i => ns.getD i 0) ns.length
    have I2 : Inv X pins σ H1 { s1 with heap := h', toks := tk } := I1.kept fun b o e => hk b o (Heap.lt_size e) e
    exact call_len_set ho hex hd hf (by rw [hn]; omega) ⟨.int (firstMet (fun i => ns.getD i 0) ns.length).length, H1, I2.tok _, ⟨_, by rw [hn]⟩, k _ _ ⟨.int _, O1, P1, .int _, o1, q1 _ (firstMet_nd _ _) (firstMet_mem ns)⟩⟩
  · obtain ⟨its, r, pl, hz⟩ := I1.tuple hq.tup
    have hlen : its.toArray.size = ns.length := by rw [List.size_toArray, ← r.length, List.length_map]
    refine L2.call_set_tupI ns (I1.ok.hd hc) pl (by simpa using intsAre_vals r) (by unfold scanBound; omega) fun h' tk c hS hc' hk => ?_
    refine PyProof.Rows.args_nil ?_
    obtain ⟨oo, es, ep, t', ho, hex, hd, hf, hn, hnd, hmem⟩ := setR_list hS
    have I2 : Inv X pins σ H1 { s1 with heap := h', toks := tk } := I1.kept fun b o e => hk b o e
    refine call_len_set ho hex hd hf (by rw [hn]; omega) ⟨.int (es.toList.map keyOf).length, H1, I2.tok _, ⟨_, by rw [List.length_map, Array.length_toList]⟩, k _ _ ⟨.int _, O1, P1, .int _, o1, q1 _ hnd fun k => ?_⟩⟩
    rw [← hmem k]
    simp
end
end TF

/-! TF12: methods of built-in types -/
namespace TF
open PySem PySem.Spec L2 RZ PyProof.Rows

/-- the built-in type that has the method -/
def tyW (T : TN) (O : OW) (x : Dt) : Prop := match T, x with
  | .str, .str _ => True
  | .tuple, .tup _ => True
  | .list, .lst _ => True
  | .dict, .dct _ => True
  | .list, .ref a => (match O a with | some (.lst _) => True | _ => False)
  | .dict, .ref a => (match O a with | some (.dct _) => True | _ => False)
  | _, _ => False
abbrev RMW := Dt → List Dt → OW → KW → Prop
def MtW (X : Cx) (id : String) (r : RMW) : Prop :=
  ∀ (Fm : Hp) (pins : List (Addr × Obj)) (s : Shared) (σ : L2.St) (H : Hp) (xv : V) (vs : List V) (u : Value) (us : List Value) (x : Dt) (ws : List Dt) (O : OW) (Q : KW) (Q' : VK), Inv X pins σ H s → RelV xv u → Vals vs us → IsD X.K X.mg H xv x → IsDs X.K X.mg H vs ws → Own X.K X.mg Fm O H →
    r x ws O Q → (∀ v H', LQ X.K X.mg Fm H Q v H' → Q' v H') → wpAny (model X.prog X.w) X.A (call (.builtin id) (u :: us)) (EP X pins σ Q') X.xe s
/-- x.m(..) -/
def mtW (T : TN) (r : RMW) (to : TEw) (t : TAw) : TEw := fun Ex τ O Q => to Ex τ O fun x O1 => tyW T O1 x ∧ t Ex τ O1 fun ws O2 => r x ws O2 Q
section
variable {X : Cx} {Fm : Hp}
theorem tyW_is {pins : List (Addr × Obj)} {σ : L2.St} {H : Hp} {s : Shared} {T : TN} {xv : V} {x : Dt} {O : OW} {v : Value} (I : Inv X pins σ H s) (r : RelV xv v) (d : IsD X.K X.mg H xv x) (o : Own X.K X.mg Fm O H) (ty : tyW T O x) :
    s.TypeIs v T.nm ∧ ∀ a, v = .ref a → ∃ ob, s.heap.get? a = some ob ∧ ob.dict = none := by
  cases T with
  | str =>
    cases d with
    | str z => obtain ⟨t, rfl⟩ := r; exact ⟨typeIs_str s z t, fun _ e => nomatch e⟩
    | _ => exact ty.elim
  | tuple =>
    cases d with
    | tup h1 h2 =>
      cases r
      rcases h1 with ⟨ob, h1, hd⟩ | ⟨ob, its, n, h1, h2, h3, _⟩
      · have hk : ObjOk X.prog X.w H s.heap _ (.frz ob (.tup _)) := I.hok _ _ h1
        obtain ⟨g0, _, _, _, o2, g1, g2, _⟩ := hk
        rw [g0] at g1
        cases g1
        exact ⟨⟨ob, g0, g2⟩, fun a e => by cases e; exact ⟨ob, g0, hd⟩⟩
      · exact ⟨⟨ob, I.kIn _ ob h1, h2⟩, fun a e => by cases e; exact ⟨ob, I.kIn _ ob h1, h3⟩⟩
    | _ => exact ty.elim
  | list =>
    have key : ∀ {a : Addr} {vs : List V}, Rd H a (.lst vs) → s.TypeIs (.ref a) "list" ∧ ∀ b, Value.ref a = .ref b → ∃ ob, s.heap.get? b = some ob ∧ ob.dict = none := fun {a vs} h => by
      obtain ⟨its, _, pl, _⟩ := I.list (.inl h)
      refine ⟨pl.isList.typeIs, fun b e => ?_⟩
      cases e
      obtain ⟨o, n, e, c, hd, _⟩ := pl
      exact ⟨o, e, hd⟩
    cases d with
    | lst h1 h2 => cases r; exact key h1.rd
    | ref a =>
      have ty : (match O a with | some (.lst _) => True | _ => False) := ty
      split at ty
      · rename_i ws e
        obtain ⟨vs, h1, _⟩ := o.at_ a _ e
        cases r
        exact key (.inl h1)
      · exact ty.elim
    | _ => exact ty.elim
  | dict =>
    cases d with
    | dct h1 h2 => 
      cases r
      obtain ⟨hs, hgd, hx, es, ep, vs, hdt, hsz, kv, hm⟩ := I.frzK h1
      exact ⟨hm.dictOf.typeIs, hm.dictOf.mapOf.noDict⟩
    | ref a =>
      have ty : (match O a with | some (.dct _) => True | _ => False) := ty
      split at ty
      · rename_i ws e
        obtain ⟨vs, h1, _⟩ := o.at_ a _ e
        cases r
        obtain ⟨_, _, _, _, o, _, _, e, ex, _⟩ := I.hok a _ h1
        exact ⟨⟨o, e, ex.1⟩, fun a e2 => by cases e2; exact ⟨o, e, ex.2.1⟩⟩
      · exact ty.elim
    | _ => exact ty.elim
  | _ => cases d <;> exact ty.elim

variable {o e : Expr} {es : List Expr} {to : TEw} {t : TAw} {name : Str} {apos cpos : Pos} {T : TN} {id : String} {r : RMW}
theorem we_mt0 (pa : PlainAttrs T.nm) (slot : Slot T.nm name id) (hty : typeOf (.builtin id) = pure (.type "method_descriptor")) (hm : MtW X id r) (ho : WE X o to) (hbase : attributeBase o name X.env (eval o X.env) = eval o X.env) (hline : (apos.endLine == cpos.line) = true) :
    WE X (.Call (.Attribute o name apos) [] [] cpos) (mtW T r to nilA) := fun Fm Ex tk => by
  refine ⟨fun pins s σ H Q' I ⟨τ, O, Q, S, oo, h, k⟩ => ?_⟩
  refine wpAny_Call_method0_late hbase hline (thn ((ho Fm Ex tk).run pins s σ H (fun v H1 => ∃ x O1, Pers H H1 ∧ IsD X.K X.mg H1 v x ∧ Own X.K X.mg Fm O1 H1 ∧ tyW T O1 x ∧ r x [] O1 Q) I ⟨τ, O, _, S, oo, h, fun v H1 ⟨w, O1, P, d, o1, q1⟩ => ⟨w, O1, P, d, o1, q1⟩⟩) fun v s1 ⟨xv, H1, I1, r1, x, O1, P1, d1, o1, ty, q1⟩ => ?_)
  obtain ⟨h1, h2⟩ := tyW_is I1 r1 d1 o1 ty
  exact ⟨T.nm, id, pa, slot, hty, h1, h2, Calls.callWith_builtin rfl (PySem.evalArgs_none (hm Fm pins s1 σ H1 xv [] v [] x [] O1 Q Q' I1 r1 .nil d1 .nil o1 q1 fun v H' z => k v H' (z.trans P1)))⟩
theorem we_mt (pa : PlainAttrs T.nm) (slot : Slot T.nm name id) (hty : typeOf (.builtin id) = pure (.type "method_descriptor")) (hm : MtW X id r) (ho : WE X o to) (ha : WA X (e :: es) t) (hbase : attributeBase o name X.env (eval o X.env) = eval o X.env)
    (hfew : ((backTo cpos (starEach (e :: es) X.env)).all (fun x => !x.1) && (backToKw cpos (keywordEach [] X.env)).all (fun x => x.1.isSome)
      && decide ((e :: es).length + ([] : List Keyword).length + (if ([] : List Keyword).isEmpty then 0 else 1) < 30)) = true)
    (hline : (apos.endLine == cpos.line) = true) (hs : starEach (e :: es) X.env = (false, eval e X.env) :: starEach es X.env) (hplain : (backTo cpos (starEach es X.env)).any (·.1) = false) :
    WE X (.Call (.Attribute o name apos) (e :: es) [] cpos) (mtW T r to t) := fun Fm Ex tk => by
  refine ⟨fun pins s σ H Q' I ⟨τ, O, Q, S, oo, h, k⟩ => ?_⟩
  refine wpAny_Call_method_late hbase hfew hline rfl (thn ((ho Fm Ex tk).run pins s σ H (fun v H1 => ∃ x O1, Pers H H1 ∧ IsD X.K X.mg H1 v x ∧ Own X.K X.mg Fm O1 H1 ∧ tyW T O1 x ∧ t Ex τ O1 fun ws O2 => r x ws O2 Q) I ⟨τ, O, _, S, oo, h, fun v H1 ⟨w, O1, P, d, o1, q1⟩ => ⟨w, O1, P, d, o1, q1⟩⟩) fun v s1 ⟨xv, H1, I1, r1, x, O1, P1, d1, o1, ty, q1⟩ => ?_)
  obtain ⟨h1, h2⟩ := tyW_is I1 r1 d1 o1 ty
  refine ⟨T.nm, id, pa, slot, hty, h1, h2, ?_⟩
  have hA := (ha Fm Ex tk).run cpos pins s1 σ H1 (fun vs H2 => ∃ ws O2, Pers H1 H2 ∧ IsDs X.K X.mg H2 vs ws ∧ Own X.K X.mg Fm O2 H2 ∧ r x ws O2 Q) I1 ⟨τ, O1, _, S.pers P1, o1, q1, fun vs ws H2 O2 P d o2 q => ⟨ws, O2, P, d, o2, q⟩⟩
  rw [hs] at hA ⊢
  refine Calls.callWith_builtin (by show (false || (backTo cpos (starEach es X.env)).any (·.1)) = false; rw [hplain] <;> rfl) (Calls.evalArgs_plain ?_)
  exact thn hA fun us s2 ⟨vs, H2, I2, r2, ws, O2, P2, d2, o2, q2⟩ => hm Fm pins s2 σ H2 xv vs v us x ws O2 Q Q' I2 r1 r2 (d1.pers P2) d2 o2 q2 fun v H' z => k v H' (z.trans (P1.trans P2))
end

/-! ### the methods -/
def onL (O : OW) (x : Dt) (f : Addr → List Dt → Prop) : Prop := match x with
  | .ref a => match O a with
    | some (.lst l) => f a l
    | _ => False
  | _ => False
theorem onL_is {O : OW} {x : Dt} {f : Addr → List Dt → Prop} (h : onL O x f) : ∃ a l, x = .ref a ∧ O a = some (.lst l) ∧ f a l := by
  cases x with
  | ref a =>
    have h : (match O a with | some (.lst l) => f a l | _ => False) := h
    split at h
    · rename_i l e
      exact ⟨a, l, rfl, e, h⟩
    · exact h.elim
  | _ => exact h.elim
def appendM : RMW := fun x ws O Q => onL O x fun a l => match ws with
  | [w] => l.length < LIM ∧ Q .non (upo O a (.lst (l ++ [w])))
  | _ => False
def pop0M : RMW := fun x ws O Q => onL O x fun a l => match ws with
  | [] => onS l.getLast? fun w => Q w (upo O a (.lst l.dropLast))
  | _ => False
def popM : RMW := fun x ws O Q => onL O x fun a l => match ws with
  | [.int i] => (0 ≤ i ∧ i < l.length) ∧ onS l[i.toNat]? fun w => Q w (upo O a (.lst (l.eraseIdx i.toNat)))
  | _ => False
def insertM : RMW := fun x ws O Q => onL O x fun a l => match ws with
  | [.int i, w] => (0 ≤ i ∧ i < 2 ^ 63 ∧ l.length < LIM) ∧ Q .non (upo O a (.lst (l.take i.toNat ++ [w] ++ l.drop i.toNat)))
  | _ => False
/-- x.index(i) of ints -/
def indexM : RMW := fun x ws O Q => match ws with
  | [.int i] => ∃ ns : List Int, asQ O x = some (ns.map Dt.int) ∧ ∃ j : Nat, ns[j]? = some i ∧ (∀ m < j, ns[m]? ≠ some i) ∧ Q (.int j) O
  | _ => False
def joinM : RMW := fun x ws O Q => match x, ws with
  | .str a, [w] => ∃ ys : List Str, asQ O w = some (ys.map Dt.str) ∧ (ys.map (·.length)).sum + ys.length * a.length ≤ LIM ∧ Q (.str (Txt.join a ys)) O
  | _, _ => False
def splitM (fz : Bool) : RMW := fun x ws O Q => match x, ws with
  | .str a, [.str b] => ((b.length == 0) = false ∧ a.length + 2 ≤ LIM) ∧ newL fz ((Txt.split a b).map Dt.str) O Q
  | _, _ => False
def stripM : RMW := fun x ws O Q => match x, ws with
  | .str a, [.str b] => a.length ≤ LIM ∧ Q (.str (Txt.stripChars a b)) O
  | _, _ => False
section
variable {X : Cx} {Fm : Hp}
/-- an owned list is written -/
theorem LQ.lst {K : PySem.W.Frag} {mg : Str → Option Value} {H : Hp} {O : OW} {Q : KW} {a : Addr} {l ws : List Dt} {us : List V} {v : V} {w : Dt} (o : Own K mg Fm O H) (e : O a = some (.lst l)) (d : IsDs K mg H us ws) (dv : IsD K mg H v w) (q : Q w (upo O a (.lst ws))) :
    LQ K mg Fm H Q v (upd H a (.lst us)) := by
  have P := o.pers_upd (u := .lst us) e
  exact ⟨w, _, P, dv.pers P, o.write (o.fown e) P (show OwnAt K mg _ a (.lst ws) from ⟨us, upd_same, d.pers P⟩), q⟩
theorem append_ok : MtW X "list.append" appendM := by
  intro Fm pins s σ H xv vs u us x ws O Q Q' I rx rv d1 d2 o q k
  obtain ⟨a, l, rfl, e, q⟩ := onL_is q
  match ws, q with
  | [w], ⟨hz, q⟩ =>
    obtain ⟨y, ev, dy⟩ := d2.one
    subst ev
    obtain ⟨ls, hH, dl⟩ := o.at_ a _ e
    cases d1
    exact mt_append pins s σ H _ _ u us Q' I rx rv ⟨a, ls, y, rfl, rfl, hH, by rw [dl.length, lim_eq]; exact hz, k _ _ (LQ.lst o e (dl.append (.cons dy .nil)) .non q)⟩
theorem onS_is {o : Option Dt} {f : Dt → Prop} (h : onS o f) : ∃ w, o = some w ∧ f w := by
  cases o with
  | none => exact h.elim
  | some w => exact ⟨w, rfl, h⟩
theorem pop_ok : MtW X "list.pop" popM := by
  intro Fm pins s σ H xv vs u us x ws O Q Q' I rx rv d1 d2 o q k
  obtain ⟨a, l, rfl, e, q⟩ := onL_is q
  match ws, q with
  | [.int i], ⟨⟨h0, h1⟩, q⟩ =>
    obtain ⟨w, ew, q⟩ := onS_is q
    obtain ⟨y, ev, dy⟩ := d2.one
    subst ev
    rw [dy.of_int] at rv
    obtain ⟨ls, hH, dl⟩ := o.at_ a _ e
    obtain ⟨v, e2, dv⟩ := dl.get ew
    cases d1
    have hz := (I.lstM hH).1
    rw [dl.length, lim_eq] at hz
    have hz2 : l.length ≤ 16777216 := hz
    exact mt_popAt pins s σ H _ _ u us Q' I rx rv ⟨a, ls, i, i.toNat, v, rfl, rfl, hH, by omega, by omega, seqIndex_of h0 (by rw [dl.length]; omega), e2, k _ _ (LQ.lst o e (dl.eraseIdx _) dv q)⟩
theorem IsDs.dropLast {K : PySem.W.Frag} {mg : Str → Option Value} {H : Hp} {vs : List V} {ws : List Dt} (h : IsDs K mg H vs ws) : IsDs K mg H vs.dropLast ws.dropLast := by
  rw [List.dropLast_eq_take, List.dropLast_eq_take, h.length]
  exact h.take _
theorem pop0_ok : MtW X "list.pop" pop0M := by
  intro Fm pins s σ H xv vs u us x ws O Q Q' I rx rv d1 d2 o q k
  obtain ⟨a, l, rfl, e, q⟩ := onL_is q
  match ws, q with
  | [], q =>
    obtain ⟨w, ew, q⟩ := onS_is q
    cases d2
    obtain ⟨ls, hH, dl⟩ := o.at_ a _ e
    rw [List.getLast?_eq_getElem?] at ew
    obtain ⟨v, e2, dv⟩ := dl.get ew
    cases d1
    exact mt_pop pins s σ H _ _ u us Q' I rx rv ⟨a, ls, v, rfl, rfl, hH, by rw [dl.length]; exact e2, k _ _ (LQ.lst o e dl.dropLast dv q)⟩
theorem insert_ok : MtW X "list.insert" insertM := by
  intro Fm pins s σ H xv vs u us x ws O Q Q' I rx rv d1 d2 o q k
  obtain ⟨a, l, rfl, e, q⟩ := onL_is q
  match ws, q with
  | [.int i, w], ⟨⟨h0, h1, hz⟩, q⟩ =>
    obtain ⟨y, z, ev, dy, dz⟩ := d2.two
    subst ev
    rw [dy.of_int] at rv
    obtain ⟨ls, hH, dl⟩ := o.at_ a _ e
    cases d1
    exact mt_insert pins s σ H _ _ u us Q' I rx rv ⟨a, ls, i, z, rfl, rfl, hH, by rw [dl.length, lim_eq]; exact hz, h0, h1, k _ _ (LQ.lst o e (((dl.take _).append (.cons dz .nil)).append (dl.drop _)) .non q)⟩
theorem join_ok : MtW X "str.join" joinM := by
  intro Fm pins s σ H xv vs u us x ws O Q Q' I rx rv d1 d2 o q k
  match x, ws, q with
  | .str a, [w], ⟨ys, e, hz, q⟩ =>
    obtain ⟨y, ev, dy⟩ := d2.one
    subst ev
    rw [d1.of_str] at rx
    obtain ⟨p, zs, rfl, hq, t⟩ := asQ_rd dy o e
    have ez := t.strs
    subst ez
    exact mt_join pins s σ H _ _ u us Q' I rx rv ⟨a, p, ys, rfl, rfl, hq.imp (fun z => .inl z) (fun z => z.tup), hz, k _ _ (LQ.mk (.str _) o q)⟩
theorem split_ok (fz : Bool) : MtW X "str.split" (splitM fz) := by
  intro Fm pins s σ H xv vs u us x ws O Q Q' I rx rv d1 d2 o q k
  match x, ws, q with
  | .str a, [.str b], ⟨⟨h1, h2⟩, q⟩ =>
    obtain ⟨y, ev, dy⟩ := d2.one
    subst ev
    rw [dy.of_str] at rv
    rw [d1.of_str] at rx
    refine thn (mt_split pins s σ H _ _ u us (fun v H' => ∃ p, v = .ref p ∧ H p = none ∧ H' = upd H p (.lst ((Txt.split a b).map V.str))) I rx rv ⟨a, b, rfl, rfl, h1, by rw [lim_eq]; exact h2, fun p np => ⟨p, rfl, np, rfl⟩⟩) fun u s1 ⟨v, H', I', r', p, e1, np, e2⟩ => ?_
    subst e1 e2
    cases r'
    exact ep_newL np (Pers.refl H) I' (IsDs.map (f := V.str) (g := Dt.str) (fun z => .str z) _) o q k
theorem strip_ok : MtW X "str.strip" stripM := by
  intro Fm pins s σ H xv vs u us x ws O Q Q' I rx rv d1 d2 o q k
  match x, ws, q with
  | .str a, [.str b], ⟨h1, q⟩ =>
    obtain ⟨y, ev, dy⟩ := d2.one
    subst ev
    rw [dy.of_str] at rv
    rw [d1.of_str] at rx
    exact mt_stripChars pins s σ H _ _ u us Q' I rx rv ⟨a, b, rfl, rfl, by rw [lim_eq]; exact h1, k _ _ (LQ.mk (.str _) o q)⟩
theorem eqV_int {a b : Int} : eqV (.int a) (.int b) = true ↔ a = b := by
  show (a == b) = true ↔ a = b
  exact beq_iff_eq
theorem flat_ints (ns : List Int) : (ns.map V.int).all flatV = true := by
  rw [List.all_map]
  exact List.all_eq_true.mpr fun _ _ => rfl
theorem tup_index_ok : MtW X "tuple.index" (fun x ws O Q => (∃ l, x = .tup l) ∧ indexM x ws O Q) := by
  intro Fm pins s σ H xv vs u us x ws O Q Q' I rx rv d1 d2 o q k
  obtain ⟨⟨l, rfl⟩, q0⟩ := q
  match ws, q0 with
  | [.int i], ⟨ns, e, j, hj, hno, q2⟩ =>
    obtain ⟨y, ev, dy⟩ := d2.one
    subst ev
    rw [dy.of_int] at rv
    cases d1 with
    | tup h1 t1 =>
      cases e
      have ez := t1.ints
      subst ez
      cases rx
      obtain ⟨u, rfl, t, rfl⟩ := vals1 rv
      obtain ⟨its, r, pl, hz⟩ := I.tuple h1.tup
      obtain ⟨⟨cls, dd, dt, sl⟩, ho, hc, n, hd⟩ := pl
      simp only at hc hd
      subst hc hd
      have hl : its.toArray.size = ns.length := by rw [List.size_toArray, ← r.length, List.length_map]
      have hjl : j < its.toArray.size := by rw [hl]; exact (List.getElem?_eq_some_iff.mp hj).1
      have at' : ∀ (m : Nat) (hm : m < its.toArray.size), ∃ y t', ns[m]? = some y ∧ its.toArray[m] = Value.int y t' := fun m hm => by
        have hm' : m < ns.length := by rw [← hl]; exact hm
        obtain ⟨w, hw, t', hw'⟩ := r.get (i := m) (x := .int ns[m]) (by simp [hm'])
        refine ⟨ns[m], t', List.getElem?_eq_getElem hm', ?_⟩
        have e := (List.getElem?_eq_some_iff.mp hw).2
        rw [← hw', ← e]
        simp
      refine call_meets PySem.F.slot_tuple_index ⟨_, ho, rfl⟩ PySem.F.entry_tuple_index (PySem.F.args_tuple_index_2 _ _) (TI.tuple_indexAt _ its.toArray n dd sl (.int i t) (eqU (.int i)) j hjl ?_ ?_)
        ⟨ho, fun w hw => mem_eqAt (x := .int i) ⟨t, rfl⟩ rfl r (flat_ints ns) w (by simpa using hw), ⟨.int (j : Nat), H, I.tok _, ⟨_, rfl⟩, k _ _ (LQ.mk (.int _) o q2)⟩⟩
      · obtain ⟨y, t', h1, h2⟩ := at' j hjl
        rw [hj] at h1
        cases h1
        rw [h2]
        exact eqV_int.mpr rfl
      · intro m hm hmj
        obtain ⟨y, t', h1, h2⟩ := at' m hm
        rw [h2]
        show eqV (.int y) (.int i) = false
        cases hb : eqV (.int y) (.int i) with
        | false => rfl
        | true => exact absurd h1 (by rw [eqV_int.mp hb]; exact hno m hmj)
theorem lst_index_ok : MtW X "list.index" (fun x ws O Q => (∃ l, asL O x = some l) ∧ indexM x ws O Q) := by
  intro Fm pins s σ H xv vs u us x ws O Q Q' I rx rv d1 d2 o q k
  obtain ⟨⟨l, el⟩, q⟩ := q
  match ws, q with
  | [.int i], ⟨ns, e, j, hj, hno, q⟩ =>
    obtain ⟨y, ev, dy⟩ := d2.one
    subst ev
    rw [dy.of_int] at rv
    have e' : asL O x = some (ns.map Dt.int) := by
      cases x with
      | lst l => exact e
      | ref a => exact e
      | _ => cases el
    obtain ⟨p, zs, rfl, hq, t⟩ := asL_rd d1 o e'
    have ez := t.ints
    subst ez
    refine mt_index pins s σ H _ _ u us Q' I rx rv ⟨p, ns.map V.int, .int i, j, .int i, rfl, rfl, .inl hq, rfl, flat_ints ns, by rw [List.getElem?_map, hj]; rfl, eqV_int.mpr rfl, fun m z hm hz => ?_, k _ _ (LQ.mk (.int _) o q)⟩
    rw [List.getElem?_map] at hz
    cases e3 : ns[m]? with
    | none => rw [e3] at hz; cases hz
    | some y =>
      rw [e3] at hz
      cases hz
      cases hb : eqV (.int y) (.int i) with
      | false => rfl
      | true => exact absurd e3 (by rw [eqV_int.mp hb]; exact hno m hm)
end
end TF

/-! TF13: statements -/
namespace TF
open PySem PySem.Spec L2 RZ PyProof.Rows

def seqW (t u : TSw) : TSw := fun Ex D τ O => t Ex { D with nx := fun τ1 O1 => u Ex D τ1 O1 } τ O
def asgW (te : TEw) (T : Tg) : TSw := fun Ex D τ O => te Ex τ O fun w O1 => tgtW T (.one w) τ fun τ1 => D.nx τ1 O1
def parW (i j : Nat) (t : TAw) : TSw := fun Ex D τ O => t Ex τ O fun ws O1 => match ws with
  | [x, y] => D.nx ((τ.set i (some x)).set j (some y)) O1
  | _ => False
def exprW (te : TEw) : TSw := fun Ex D τ O => te Ex τ O fun _ O1 => D.nx τ O1
def retW (te : TEw) : TSw := fun Ex D τ O => te Ex τ O D.rt
def retNW : TSw := fun _ D _ O => D.rt .non O
def ifW (tt : TTw) (t u : TSw) : TSw := fun Ex D τ O => tt Ex τ O fun b O1 => if b = true then t Ex D τ O1 else u Ex D τ O1
def brkW : TSw := fun _ D τ O => D.bk τ O
def cntW : TSw := fun _ D τ O => D.ct τ O
def passW : TSw := nextW
/-- o[k] = v of an owned list, an owned dict -/
def setSub (x k w : Dt) (O : OW) (Q : OW → Prop) : Prop := match x, k with
  | .ref a, .int i => (match O a with
    | some (.lst l) => (match ixN l.length i with
      | some j => Q (upo O a (.lst (l.set j w)))
      | none => False)
    | _ => False)
  | _, _ => False
theorem setSub_is {x k w : Dt} {O : OW} {Q : OW → Prop} (h : setSub x k w O Q) : ∃ a i l j, x = .ref a ∧ k = .int i ∧ O a = some (.lst l) ∧ ixN l.length i = some j ∧ Q (upo O a (.lst (l.set j w))) := by
  cases x with
  | ref a =>
    cases k with
    | int i =>
      have h : (match O a with | some (.lst l) => (match ixN l.length i with | some j => Q (upo O a (.lst (l.set j w))) | none => False) | _ => False) := h
      split at h
      · rename_i l e
        split at h
        · rename_i j ej
          exact ⟨a, i, l, j, rfl, rfl, e, ej, h⟩
        · exact h.elim
      · exact h.elim
    | _ => exact h.elim
  | _ => cases k <;> exact h.elim
def subW (te to ti : TEw) : TSw := fun Ex D τ O => te Ex τ O fun w O1 => to Ex τ O1 fun x O2 => ti Ex τ O2 fun k O3 => setSub x k w O3 fun O4 => D.nx τ O4
def augW (i : Nat) (op : BOp) (te : TEw) : TSw := fun Ex D τ O => onS (getS τ i) fun x => te Ex τ O fun y O1 => (∃ a b, x = .int a ∧ y = .int b) ∧ binW op false x y O1 fun z O2 => D.nx (τ.set i (some z)) O2
def whlGo (tt : TTw) (tb : TSw) (Ex : XW) (D : EndsW) : Nat → SW → OW → Prop
  | 0, _, _ => False
  | n + 1, τ, O => tt Ex τ O fun b O1 => if b = true then tb Ex { nx := whlGo tt tb Ex D n, rt := D.rt, bk := D.nx, ct := whlGo tt tb Ex D n } τ O1 else D.nx τ O1
def whlW (tt : TTw) (tb : TSw) : TSw := fun Ex D τ O => ∃ n, whlGo tt tb Ex D n τ O
def raiseW (cn : Str) : TSw := fun Ex _ τ O => Ex ⟨cn, []⟩ τ O

section
variable {X : Cx} {e : Expr} {st : Stmt} {sts : List Stmt} {t u : TSw} {te to ti : TEw} {tt : TTw} {pos : Pos}
theorem EndsLe.mk' {K : PySem.W.Frag} {mg : Str → Option Value} {Fm : Hp} {D : EndsW} {D' : Ends} (l : EndsLe K mg Fm D D') {nx : SW → OW → Prop} {nx' : L2.St → Hp → Prop} (h : ∀ σ H τ O, Slots K mg H σ τ → Own K mg Fm O H → nx τ O → nx' σ H) : EndsLe K mg Fm { D with nx := nx } { D' with nx := nx' } := ⟨h, l.rt, l.bk, l.ct⟩
theorem wb_cons (h : WS X st t) (h2 : WB X sts u) : WB X (st :: sts) (seqW t u) := fun Fm Ex tk => PSs.imp (pss_cons (h Fm Ex tk) (h2 Fm Ex tk)) fun D' σ H ⟨D, τ, O, S, o, q, l⟩ =>
  ⟨_, τ, O, S, o, q, l.mk' fun σ H τ O S o q => ⟨D, τ, O, S, o, q, l⟩⟩
theorem wb_one (h : WS X st t) : WB X [st] t := fun Fm Ex tk => pss_one (h Fm Ex tk)
theorem ws_asg {tg : Expr} {T : Tg} (he : WE X e te) (hg : WG X tg T) (hs : swapsWithSole [tg] e pos.line X.env = pure false) (hw : swappedStores [tg] e X.env = pure none) (h1 : (assignEach [tg] X.env).map (·.2) = [assign tg X.env]) : WS X (.Assign [tg] e pos) (asgW te T) := fun Fm Ex tk =>
  PS.imp (ps_asg (he Fm Ex tk) hg hs hw h1) fun D' σ H ⟨D, τ, O, S, o, q, l⟩ =>
    ⟨τ, O, _, S, o, q, fun v H1 ⟨w, O1, P1, d1, o1, q1⟩ => tgt_ok T.slots (fun i h => h) (show IsY X.K X.mg H1 v (.one w) from d1) (S.pers P1) q1 fun σ' τ' S' q' _ => l.nx σ' H1 τ' O1 S' o1 q'⟩
/-- name = e -/
theorem wg_name {i : Nat} {x : Str} (hN : X.N.Nodup) (hi : X.N[i]? = some x) (hx : Loc X.env.scope x) (hf : X.fn x = true ∨ X.env.scope.names.lookup x = some .local) : WG X (.Name x pos) (.one i) := pg_name hN hi hx hf
theorem wgs_nil : WGs X [] [] := pgs_nil
theorem wgs_cons {x : Expr} {xs : List Expr} {i : Nat} {is : List Nat} (h : WG X x (.one i)) (h2 : WGs X xs is) (hs : (assignEach (x :: xs) X.env).map (·.2) = assign x X.env :: (assignEach xs X.env).map (·.2)) : WGs X (x :: xs) (i :: is) := pgs_cons h h2 hs
theorem wg_tup {es : List Expr} {k : Nat} {is : List Nat} (hc : X.calm = true) (h : WGs X es is) (hn : (assignEach es X.env).length = is.length) (hst : (assignEach es X.env).findIdx? (·.1) = none) : WG X (.Tuple es k pos) (.pack is) := pg_tup hc h hn hst
theorem ws_set {i : Nat} {x : Str} {pos' : Pos} (hN : X.N.Nodup) (hi : X.N[i]? = some x) (hx : Loc X.env.scope x) (he : WE X e te) (hs : swapsWith e (some (.Name x pos')) pos.line X.env = pure false) (hf : X.fn x = true ∨ X.env.scope.names.lookup x = some .local) :
    WS X (.Assign [.Name x pos'] e pos) (asgW te (.one i)) := fun Fm Ex tk => PS.imp (ps_set hN hi hx (he Fm Ex tk) hs hf) fun D' σ H ⟨D, τ, O, S, o, q, l⟩ =>
    ⟨τ, O, _, S, o, q, fun v H1 ⟨w, O1, P1, d1, o1, q1⟩ => l.nx _ H1 _ O1 ((S.pers P1).set i d1) o1 q1⟩
theorem ws_par {i j : Nat} {x y : Str} {a b : Expr} {ta : TAw} {px py pt : Pos} {kt k2 pt2} (hc : X.calm = true) (hN : X.N.Nodup) (hi : X.N[i]? = some x) (hj : X.N[j]? = some y) (hij : i ≠ j) (hx : X.env.scope.names.lookup x = some .local) (hy : X.env.scope.names.lookup y = some .local) (ha : WA X [a, b] ta)
    (hw : swappedStores [.Tuple [.Name x px, .Name y py] kt pt] (.Tuple [a, b] k2 pt2) X.env = pure (some [x, y])) (hs : swapsWithSole [.Tuple [.Name x px, .Name y py] kt pt] (.Tuple [a, b] k2 pt2) pos.line X.env = pure false) :
    WS X (.Assign [.Tuple [.Name x px, .Name y py] kt pt] (.Tuple [a, b] k2 pt2) pos) (parW i j ta) := fun Fm Ex tk => PS.imp (ps_par hc hN hi hj hij hx hy (ha Fm Ex tk) hw hs) fun D' σ H ⟨D, τ, O, S, o, q, l⟩ => by
    refine ⟨τ, O, _, S, o, q, fun vs ws H1 O1 P1 d1 o1 q1 => ?_⟩
    match ws, q1 with
    | [x, y], q1 =>
      obtain ⟨v, u, ev, dv, du⟩ := d1.two
      subst ev
      exact ⟨v, u, rfl, l.nx _ H1 _ O1 (((S.pers P1).set i dv).set j du) o1 q1⟩
theorem ws_expr (he : WE X e te) (hs : swapsWith e none pos.line X.env = pure false) : WS X (.Expr e pos) (exprW te) := fun Fm Ex tk => PS.imp (ps_expr (he Fm Ex tk) hs) fun D' σ H ⟨D, τ, O, S, o, q, l⟩ =>
  ⟨τ, O, _, S, o, q, fun v H1 ⟨w, O1, P1, d1, o1, q1⟩ => l.nx _ H1 _ O1 (S.pers P1) o1 q1⟩
theorem ws_ret (he : WE X e te) : WS X (.Return (some e) pos) (retW te) := fun Fm Ex tk => PS.imp (ps_ret (he Fm Ex tk)) fun D' σ H ⟨D, τ, O, S, o, q, l⟩ =>
  ⟨τ, O, _, S, o, q, fun v H1 ⟨w, O1, P1, d1, o1, q1⟩ => l.rt _ H1 w O1 d1 o1 q1⟩
theorem ws_retN : WS X (.Return none pos) retNW := fun Fm Ex tk => PS.imp ps_retN fun D' σ H ⟨D, τ, O, S, o, q, l⟩ => l.rt _ H _ O .non o q
theorem ws_if {c : Expr} {a b : List Stmt} (hc : WT X c tt) (ha : WB X a t) (hb : WB X b u) : WS X (.If c a b pos) (ifW tt t u) := fun Fm Ex tk => PS.imp (ps_if (hc Fm Ex tk) (ha Fm Ex tk) (hb Fm Ex tk)) fun D' σ H ⟨D, τ, O, S, o, q, l⟩ => by
  refine ⟨τ, O, _, S, o, q, fun k H1 O1 P1 o1 q1 => ?_⟩
  cases k with
  | true => exact ⟨D, τ, O1, S.pers P1, o1, q1, l⟩
  | false => exact ⟨D, τ, O1, S.pers P1, o1, q1, l⟩
theorem ws_brk : WS X (.Break pos) brkW := fun Fm Ex tk => PS.imp ps_break fun D' σ H ⟨D, τ, O, S, o, q, l⟩ => l.bk _ H _ O S o q
theorem ws_cnt : WS X (.Continue pos) cntW := fun Fm Ex tk => PS.imp ps_continue fun D' σ H ⟨D, τ, O, S, o, q, l⟩ => l.ct _ H _ O S o q
theorem ws_pass : WS X (.Pass pos) nextW := fun Fm Ex tk => PS.imp ps_pass fun D' σ H ⟨D, τ, O, S, o, q, l⟩ => l.nx _ H _ O S o q
theorem ws_sub {oe ie : Expr} {p2 : Pos} (he : WE X e te) (ho : WE X oe to) (hi : WE X ie ti) (ha : ∀ v, assign (.Subscript oe ie p2) X.env v = (do
      let ov ← holding [v] (eval oe X.env)
      let iv ← holding [v, ov] (eval ie X.env)
      standAt p2
      holding [v, ov, iv] (setItem ov iv v)
      release [v, ov, iv] [])) (hs : swapsWithSole [.Subscript oe ie p2] e pos.line X.env = pure false) (hw : swappedStores [.Subscript oe ie p2] e X.env = pure none) (h1 : (assignEach [.Subscript oe ie p2] X.env).map (·.2) = [assign (.Subscript oe ie p2) X.env]) :
    WS X (.Assign [.Subscript oe ie p2] e pos) (subW te to ti) := fun Fm Ex tk =>
  PS.imp (ps_asg (he Fm Ex tk) (pg_sub (ho Fm Ex tk) (hi Fm Ex tk) set_list ha) hs hw h1) fun D' σ H ⟨D, τ, O, S, o, q, l⟩ => by
    refine ⟨τ, O, _, S, o, q, fun v H1 ⟨w, O1, P1, d1, o1, q1⟩ => ?_⟩
    refine ⟨τ, O1, _, S.pers P1, o1, q1, fun y H2 ⟨x, O2, P2, d2, o2, q2⟩ => ?_⟩
    refine ⟨τ, O2, _, (S.pers P1).pers P2, o2, q2, fun z H3 ⟨k, O3, P3, d3, o3, q3⟩ => ?_⟩
    obtain ⟨a, i, ls, j, rfl, rfl, el, ej, q4⟩ := setSub_is q3
    obtain ⟨vs, hH, dl⟩ := o3.at_ a _ el
    have d2' := d2.pers P3
    have ea := d2'.of_ref
    subst ea
    have P4 := o3.pers_upd (u := .lst (vs.set j v)) el
    refine ⟨a, vs, i, j, rfl, d3.of_int, hH, by rw [dl.length]; exact ej, ?_⟩
    refine l.nx σ _ τ _ ((((S.pers P1).pers P2).pers P3).pers P4) (o3.write (o3.fown el) P4 (show OwnAt X.K X.mg _ a (.lst _) from ⟨_, upd_same, ?_⟩)) q4
    exact (IsDs.set ((d1.pers P2).pers P3) j dl).pers P4
theorem ws_while {c : Expr} {body : List Stmt} (hp : PassesOwn (model X.prog X.w) X.A X.env X.xe) (hc : WT X c tt) (hb : WB X body t) : WS X (.While c body [] pos) (whlW tt t) := fun Fm Ex tk =>
  PS.imp (ps_while hp (hc Fm Ex tk) (hb Fm Ex tk)) fun D' σ H ⟨D, τ, O, S, o, ⟨n, q⟩, l⟩ => by
    refine ⟨fun m σ H => ∃ τ O, Slots X.K X.mg H σ τ ∧ Own X.K X.mg Fm O H ∧ whlGo tt t Ex D m τ O, ⟨n, τ, O, S, o, q⟩, ?_⟩
    rintro m σ H ⟨τ, O, S, o, q⟩
    cases m with
    | zero => exact q.elim
    | succ m =>
      refine ⟨τ, O, _, S, o, q, fun b H1 O1 P1 o1 q1 => ?_⟩
      cases b with
      | false => exact l.nx _ H1 _ O1 (S.pers P1) o1 q1
      | true =>
        refine ⟨fun σ H => ∃ τ O, Slots X.K X.mg H σ τ ∧ Own X.K X.mg Fm O H ∧ whlGo tt t Ex D m τ O, fun σ' H' h => ⟨m, Nat.lt_succ_self m, h⟩, ?_⟩
        exact ⟨_, τ, O1, S.pers P1, o1, q1, ⟨fun σ H τ O S o q => ⟨τ, O, S, o, q⟩, l.rt, l.nx, fun σ H τ O S o q => ⟨τ, O, S, o, q⟩⟩⟩
/-- an own exception class without own __init__ -/
structure ExC (K : PySem.W.Frag) (mg : Str → Option Value) (nm : Str) : Prop where
  ex : ∃ C : Addr, mg nm = some (.ref C) ∧ PySem.W.excIn K C [.type "ValueError", .type "Exception", .type "BaseException", .type "object"] "ValueError.__new__" = true ∧ PySem.W.keepIn K (.ref C) = true ∧ PySem.W.subIn K (.ref C) (.type "BaseException") = some true ∧ PySem.W.typeIn K (.ref C) = some (.type "type")
theorem ws_raise {x m : Str} {j : Nat} {p p2 p3 : Pos} (hc : X.calm = true) (C : ExC X.K X.mg x) (hg : Gl X x) (hdb : (x == ("__debug__" : Str)) = false) : WS X (.Raise (some (.Call (.Name x p) [.Constant (.str m) j p2] [] p3)) none pos) (raiseW x) := fun Fm Ex tk => by
  obtain ⟨C, gC, xi, kC, sC, tC⟩ := C.ex
  refine PS.imp (L2N.ps_raise hc tk (L2N.pmk_own F.excBase_ValueError xi gC kC (raises_own sC tC) hg hdb)) fun D' σ H ⟨D, τ, O, S, o, q, l⟩ => ?_
  exact ⟨⟨x, []⟩, τ, O, S, o, ⟨C, gC, rfl, .inl ⟨rfl, rfl⟩⟩, q⟩
end
end TF

/-! TF14: the rules in short, for printed proofs -/
namespace TF
open PySem PySem.Spec L2 RZ PyProof.Rows

/-- what every rule asks of the context -/
structure Cok (X : Cx) (k : Nat) : Prop where
  hr : Room k X.A
  hg : Gd k X.A
  calm : X.calm = true
  hN : X.N.Nodup
theorem Cok.blk {X : Cx} {k : Nat} (c : Cok X k) {scope : Scope} {s : Shared} {H : Hp} {C : Addr} {cl : List (Str × Addr)} {fp : List Addr} : Cok (Blk X scope s H C cl fp) k := ⟨c.hr, c.hg, c.calm, c.hN⟩
theorem Cok.u {X : Cx} {k : Nat} (c : Cok X k) : X.A.units + 65 < cLine := by have := c.hr.un; omega

section
variable {X : Cx} {k : Nat} {a b c e f : Expr} {es : List Expr} {pos p : Pos} {ta tb tc td : TEw} {t u : TAw}
theorem xv (i : Nat) {x : Str} (hN : X.N[i]? = some x := by rfl) (hv : Vis X.env.scope x := by first | exact Or.inl rfl | exact Or.inr (Or.inl rfl) | exact Or.inr (Or.inr rfl)) (hd : (x == ("__debug__" : Str)) = false := by decide)
    (hcd : (x == ("__classdict__" : Str)) = false := by decide) : WE X (.Name x pos) (varW i) := we_var hN hv hd hcd
theorem xi {n : Int} {j : Nat} : WE X (.Constant (.int n) j pos) (cstW (.int n)) := we_cst pe_int fun H => .int n
theorem xs {z : Str} {j : Nat} : WE X (.Constant (.str z) j pos) (cstW (.str z)) := we_cst pe_str fun H => .str z
theorem xn {j : Nat} : WE X (.Constant .none j pos) (cstW .non) := we_cst pe_non fun H => .non
theorem xb {z : Bool} {j : Nat} : WE X (.Constant (.bool z) j pos) (cstW (.bl z)) := we_cst pe_bl fun H => .bl z
theorem xgi {x : Str} {i : Int} (h : ∃ t, X.mg x = some (.int i t)) (hg : Gl X x := by rfl) (hd : (x == ("__debug__" : Str)) = false := by decide) : WE X (.Name x pos) (cstW (.int i)) := we_gi hg h hd
theorem xgs {x : Str} {z : Str} (h : ∃ t, X.mg x = some (.str z t)) (hg : Gl X x := by rfl) (hd : (x == ("__debug__" : Str)) = false := by decide) : WE X (.Name x pos) (cstW (.str z)) := we_gs hg h hd
theorem xty {x : Str} (n : String) (hm : X.mg x = none) (hg : Gl X x := by rfl) (hv : bootBuiltins x = some (.type n) := by decide +kernel) (hn : x ≠ "__name__" := by decide) (hdb : (x == ("__debug__" : Str)) = false := by decide) : WE X (.Name x pos) (cstW (.ty n)) := we_ty hg hm hv hn hdb
theorem xbin (op : BOp) (fz : Bool) (ha : WE X a ta) (hb : WE X b tb) {o : Operator} (ho : o = op.op := by rfl) : WE X (.BinOp a o b pos) (opW (binW op fz) ta tb) := by subst ho; exact we_op (bin_ok op fz) ha hb
theorem xcmp (C : Cok X k) (op : COp) (ha : WE X a ta) (hb : WE X b tb) {o : CmpOp} (ho : o = op.op := by rfl) (hm : behindInMarks op.op b = false := by first | exact nobehind _ (by decide) (by decide) | rfl | with_unfolding_all rfl) : WE X (.Compare a [o] [b] pos) (opW (cmpW op) ta tb) := by subst ho; exact we_cmp (cmp_ok C.u op) ha hb hm
theorem xtcmp (C : Cok X k) (op : COp) (ha : WE X a ta) (hb : WE X b tb) {o : CmpOp} (ho : o = op.op := by rfl) (hm : behindInMarks op.op b = false := by first | exact nobehind _ (by decide) (by decide) | rfl | with_unfolding_all rfl) : WT X (.Compare a [o] [b] pos) (tstW (opW (cmpW op) ta tb)) := by subst ho; exact wt_cmp (cmp_ok C.u op) ha hb hm
theorem xchn (C : Cok X k) (op op' : COp) (ha : WE X a ta) (hb : WE X b tb) (hc : WE X c tc) {o o' : CmpOp} (ho : o = op.op := by rfl) (ho' : o' = op'.op := by rfl) (hm : lastMarks [op.op, op'.op] [b, c] = false := by with_unfolding_all rfl) : WE X (.Compare a [o, o'] [b, c] pos) (chnW (cmpW op) (cmpW op') ta tb tc) := by
  subst ho; subst ho'; exact we_chain (cmp_ok C.u op) (cmp_ok C.u op') ha hb hc hm
theorem xtchn (C : Cok X k) (op op' : COp) (ha : WE X a ta) (hb : WE X b tb) (hc : WE X c tc) {o o' : CmpOp} (ho : o = op.op := by rfl) (ho' : o' = op'.op := by rfl) (hm : lastMarks [op.op, op'.op] [b, c] = false := by with_unfolding_all rfl) : WT X (.Compare a [o, o'] [b, c] pos) (tstW (chnW (cmpW op) (cmpW op') ta tb tc)) := by
  subst ho; subst ho'; exact wt_chain (cmp_ok C.u op) (cmp_ok C.u op') ha hb hc hm
theorem xtst (h : WE X e ta) (he : ∀ whole, isTrue e X.env whole = (do let v ← whole; standAt e.pos; holding [v] (truthy v)) := by intro _; rfl) : WT X e (tstW ta) := wt_val h he
theorem xtnot (h : WT X a (tstW ta)) : WT X (.UnaryOp .Not a pos) (tstW (notW ta)) := wt_not h
theorem xnot (h : WE X a ta) : WE X (.UnaryOp .Not a pos) (notW ta) := we_not h
theorem xneg (h : WE X a ta) : WE X (.UnaryOp .USub a pos) (negW ta) := we_neg h
theorem xone {op} (h : WE X a ta) : WE X (.BoolOp op [a] pos) ta := we_one h
theorem xand {rest : List Expr} (ha : WE X a ta) (hb : WE X (.BoolOp .And (b :: rest) pos) tb) : WE X (.BoolOp .And (a :: b :: rest) pos) (andW ta tb) := we_and ha hb
theorem xor {rest : List Expr} (ha : WE X a ta) (hb : WE X (.BoolOp .Or (b :: rest) pos) tb) : WE X (.BoolOp .Or (a :: b :: rest) pos) (orW ta tb) := we_or ha hb
theorem xpone {op} (h : WT X a (tstW ta)) (ho : op = .And ∨ op = .Or := by first | exact Or.inl rfl | exact Or.inr rfl) : WP X (.BoolOp op [a] pos) (tstW ta) := wp_one h ho
theorem xpand {rest : List Expr} (ha : WT X a (tstW ta)) (hb : WP X (.BoolOp .And (b :: rest) pos) (tstW tb)) : WP X (.BoolOp .And (a :: b :: rest) pos) (tstW (andW ta tb)) := wp_and ha hb
theorem xpor {rest : List Expr} (ha : WT X a (tstW ta)) (hb : WP X (.BoolOp .Or (b :: rest) pos) (tstW tb)) : WP X (.BoolOp .Or (a :: b :: rest) pos) (tstW (orW ta tb)) := wp_or ha hb
theorem xtp {tt : TTw} (h : WP X e tt) : WT X e tt := fun Fm Ex tk => (h Fm Ex tk).pt
theorem xife (hc : WT X c (tstW tc)) (ha : WE X a ta) (hb : WE X b tb) : WE X (.IfExp c a b pos) (ifeW tc ta tb) := we_ife hc ha hb
theorem xisN (h : WE X a ta) {p2 : Pos} {j : Nat} : WE X (.Compare a [.Is] [.Constant .none j p2] pos) (isNW false ta) := we_isN (neg := false) h
theorem xnotN (h : WE X a ta) {p2 : Pos} {j : Nat} : WE X (.Compare a [.IsNot] [.Constant .none j p2] pos) (isNW true ta) := we_isN (neg := true) h
theorem xtisN (h : WE X a ta) {p2 : Pos} {j : Nat} : WT X (.Compare a [.Is] [.Constant .none j p2] pos) (tstW (isNW false ta)) := wt_isN (neg := false) h
theorem xtnotN (h : WE X a ta) {p2 : Pos} {j : Nat} : WT X (.Compare a [.IsNot] [.Constant .none j p2] pos) (tstW (isNW true ta)) := wt_isN (neg := true) h
theorem xidx (ha : WE X a ta) (hb : WE X b tb) (hs : PlainIx b := by exact fun _ _ => rfl) : WE X (.Subscript a b pos) (opW idxW ta tb) := we_idx ha hb hs
theorem xo0 : WO X none noneO := wo_none
theorem xo1 (h : WE X a ta) : WO X (some a) (someO ta) := wo_some h
theorem xslc {lo hi : Option Expr} {tl th : TOw} {p2 : Pos} (fz : Bool) (ha : WE X a ta) (hl : WO X lo tl) (hh : WO X hi th) : WE X (.Subscript a (.Slice lo hi none p2) pos) (slW fz ta tl th) := we_slc fz ha hl hh
theorem a0 : WA X [] nilA := wa_nil
theorem a1 (ha : WE X a ta) (hr : WA X es t) (hs : starEach (a :: es) X.env = (false, eval a X.env) :: starEach es X.env := by rfl) : WA X (a :: es) (consA ta t) := wa_cons ha hr hs
theorem xtup {x1} (h : WA X es t) : WE X (.Tuple es x1 pos) (tupW t) := we_tup h
theorem xlst (fz : Bool) (h : WA X es t) : WE X (.List es pos) (lstW fz t) := we_lst fz h
/-- a def's call -/
theorem xcall (C : Cok X k) {j : Nat} {nm : Str} {sp : SpW} (cl : Callee X.prog X.w X.K X.mg X.base j nm sp) (ha : WA X (e :: es) t) (hj : j ≤ k := by decide) (gl : Gl X nm := by rfl) (hdb : (nm == ("__debug__" : Str)) = false := by decide)
    (he : starEach (e :: es) X.env = (false, eval e X.env) :: starEach es X.env := by rfl) (hpl : (backTo pos (starEach es X.env)).any (·.1) = false := by rfl) : WE X (.Call (.Name nm p) (e :: es) [] pos) (callW sp t) := we_call cl (C.hr.mono hj) (C.hg.mono hj) gl ha hdb he hpl
theorem xcall0 (C : Cok X k) {j : Nat} {nm : Str} {sp : SpW} (cl : Callee X.prog X.w X.K X.mg X.base j nm sp) (hj : j ≤ k := by decide) (gl : Gl X nm := by rfl) (hdb : (nm == ("__debug__" : Str)) = false := by decide) : WE X (.Call (.Name nm p) [] [] pos) (callW sp nilA) := we_call0 cl (C.hr.mono hj) (C.hg.mono hj) gl hdb
/-- a built-in's call -/
def isTyp : Value → Bool
  | .type _ => true
  | _ => false
theorem xblt (C : Cok X k) (B : Blt) (ha : WA X (e :: es) t) {nm : Str} (hm : X.mg B.nm = none) (hnm : nm = B.nm := by rfl) (hg : Gl X B.nm := by rfl) (he : starEach (e :: es) X.env = (false, eval e X.env) :: starEach es X.env := by rfl) (hpl : (backTo pos (starEach es X.env)).any (·.1) = false := by rfl) :
    WE X (.Call (.Name nm p) (e :: es) [] pos) (bltW B.sem t) := by
  subst hnm
  have ok := B.ok C.calm
  have bt := B.boot
  have h : (∃ id, B.val = .builtin id) ∨ ∃ id, B.val = .type id := by cases B <;> first | exact .inl ⟨_, rfl⟩ | exact .inr ⟨_, rfl⟩
  rcases h with ⟨id, h⟩ | ⟨id, h⟩
  · rw [h] at ok bt
    exact we_callB ok hg hm bt ha B.nn B.nd he hpl
  · rw [h] at ok bt
    exact we_callTy ok hg hm bt ha B.nn B.nd he hpl
theorem bltW_isi {T : TN} {Ex : XW} {τ : SW} {O : OW} {Q : KW} (h : isiW T ta Ex τ O Q) : bltW (isi1W T) (consA ta (consA (cstW (.ty T.nm)) nilA)) Ex τ O Q := by
  have e : bltW (isi1W T) (consA ta (consA (cstW (.ty T.nm)) nilA)) Ex τ O Q = ta Ex τ O fun x O1 => T.nm = T.nm ∧ (match tnOf O1 x with | some t => Q (.bl (t.sub T)) O1 | none => False) := rfl
  rw [e]
  have e2 : (fun (x : Dt) (O1 : OW) => T.nm = T.nm ∧ (match tnOf O1 x with | some t => Q (.bl (t.sub T)) O1 | none => False)) = fun x O1 => (match tnOf O1 x with | some t => Q (.bl (t.sub T)) O1 | none => False) := by
    funext x O1
    exact propext ⟨fun h => h.2, fun h => ⟨rfl, h⟩⟩
  rw [e2]
  exact h
theorem bltW_isii {T U : TN} {Ex : XW} {τ : SW} {O : OW} {Q : KW} (h : isiiW T U ta Ex τ O Q) : bltW (isi2W T U) (consA ta (consA (tupW (consA (cstW (.ty T.nm)) (consA (cstW (.ty U.nm)) nilA))) nilA)) Ex τ O Q := by
  have e : bltW (isi2W T U) (consA ta (consA (tupW (consA (cstW (.ty T.nm)) (consA (cstW (.ty U.nm)) nilA))) nilA)) Ex τ O Q = ta Ex τ O fun x O1 => 2 ≤ LIM ∧ (T.nm = T.nm ∧ U.nm = U.nm) ∧ (match tnOf O1 x with | some t => Q (.bl (t.sub T || t.sub U)) O1 | none => False) := rfl
  rw [e]
  have e2 : (fun (x : Dt) (O1 : OW) => 2 ≤ LIM ∧ (T.nm = T.nm ∧ U.nm = U.nm) ∧ (match tnOf O1 x with | some t => Q (.bl (t.sub T || t.sub U)) O1 | none => False)) = fun x O1 => (match tnOf O1 x with | some t => Q (.bl (t.sub T || t.sub U)) O1 | none => False) := by
    funext x O1
    exact propext ⟨fun h => h.2.2, fun h => ⟨by decide, ⟨rfl, rfl⟩, h⟩⟩
  rw [e2]
  exact h
theorem xisi (C : Cok X k) (T : TN) {x : Str} {p2 : Pos} (ha : WE X a ta) (hm : X.mg "isinstance" = none) (hm2 : X.mg x = none) (hT : T ≠ .none := by decide) (hg : Gl X "isinstance" := by rfl) (hg2 : Gl X x := by rfl) (hv : bootBuiltins x = some (.type T.nm) := by decide +kernel) (hn : x ≠ "__name__" := by decide) (hdb : (x == ("__debug__" : Str)) = false := by decide)
    (hs : starEach [a, .Name x p2] X.env = (false, eval a X.env) :: starEach [.Name x p2] X.env := by rfl) (hs2 : starEach [.Name x p2] X.env = (false, eval (.Name x p2) X.env) :: starEach [] X.env := by rfl) (hpl : (backTo pos (starEach [.Name x p2] X.env)).any (·.1) = false := by rfl) :
    WE X (.Call (.Name "isinstance" p) [a, .Name x p2] [] pos) (isiW T ta) :=
  WE.imp (we_callB (isi1_ok T hT) hg hm (by decide +kernel) (wa_cons ha (wa_cons (we_ty hg2 hm2 hv hn hdb) wa_nil hs2) hs) (by decide) (by decide) hs hpl) fun Ex τ O Q h => bltW_isi h
theorem xisii (C : Cok X k) (T U : TN) {x y : Str} {k1 : _} {p2 p3 p4 : Pos} (ha : WE X a ta) (hm : X.mg "isinstance" = none) (hm2 : X.mg x = none) (hm3 : X.mg y = none) (hT : T ≠ .none := by decide) (hU : U ≠ .none := by decide) (hg : Gl X "isinstance" := by rfl) (hg2 : Gl X x := by rfl) (hg3 : Gl X y := by rfl)
    (hv : bootBuiltins x = some (.type T.nm) := by decide +kernel) (hn : x ≠ "__name__" := by decide) (hdb : (x == ("__debug__" : Str)) = false := by decide) (hv3 : bootBuiltins y = some (.type U.nm) := by decide +kernel) (hn3 : y ≠ "__name__" := by decide) (hdb3 : (y == ("__debug__" : Str)) = false := by decide)
    (hs : starEach [a, .Tuple [.Name x p2, .Name y p3] k1 p4] X.env = (false, eval a X.env) :: starEach [.Tuple [.Name x p2, .Name y p3] k1 p4] X.env := by rfl) (hs2 : starEach [.Tuple [.Name x p2, .Name y p3] k1 p4] X.env = (false, eval (.Tuple [.Name x p2, .Name y p3] k1 p4) X.env) :: starEach [] X.env := by rfl)
    (hs3 : starEach [.Name x p2, .Name y p3] X.env = (false, eval (.Name x p2) X.env) :: starEach [.Name y p3] X.env := by rfl) (hs4 : starEach [.Name y p3] X.env = (false, eval (.Name y p3) X.env) :: starEach [] X.env := by rfl) (hpl : (backTo pos (starEach [.Tuple [.Name x p2, .Name y p3] k1 p4] X.env)).any (·.1) = false := by rfl) :
    WE X (.Call (.Name "isinstance" p) [a, .Tuple [.Name x p2, .Name y p3] k1 p4] [] pos) (isiiW T U ta) :=
  WE.imp (we_callB (isi2_ok T U hT hU) hg hm (by decide +kernel) (wa_cons ha (wa_cons (we_tup (wa_cons (we_ty hg2 hm2 hv hn hdb) (wa_cons (we_ty hg3 hm3 hv3 hn3 hdb3) wa_nil hs4) hs3)) wa_nil hs2) hs) (by decide) (by decide) hs hpl) fun Ex τ O Q h => bltW_isii h
theorem xlset (C : Cok X k) {p2 q : Pos} (ha : WE X a ta) (hm : X.mg "len" = none) (hm2 : X.mg "set" = none) (hg : Gl X "len" := by rfl) (hg2 : Gl X "set" := by rfl) (na : starEach [a] X.env = (false, eval a X.env) :: starEach [] X.env := by rfl)
    (n2 : starEach [.Call (.Name "set" p2) [a] [] q] X.env = (false, eval (.Call (.Name "set" p2) [a] [] q) X.env) :: starEach [] X.env := by rfl) : WE X (.Call (.Name "len" p) [.Call (.Name "set" p2) [a] [] q] [] pos) (lsetW ta) := we_lset hg hm hg2 hm2 ha C.calm na n2
/-! methods -/
inductive Mth where | append | pop0 | pop | insert | lindex | tindex | join | split (fz : Bool) | strip
def Mth.T : Mth → TN | .append => .list | .pop0 => .list | .pop => .list | .insert => .list | .lindex => .list | .tindex => .tuple | .join => .str | .split _ => .str | .strip => .str
def Mth.nm : Mth → Str | .append => "append" | .pop0 => "pop" | .pop => "pop" | .insert => "insert" | .lindex => "index" | .tindex => "index" | .join => "join" | .split _ => "split" | .strip => "strip"
def Mth.id : Mth → String | .append => "list.append" | .pop0 => "list.pop" | .pop => "list.pop" | .insert => "list.insert" | .lindex => "list.index" | .tindex => "tuple.index" | .join => "str.join" | .split _ => "str.split" | .strip => "str.strip"
def Mth.sem : Mth → RMW
  | .append => appendM | .pop0 => pop0M | .pop => popM | .insert => insertM | .lindex => fun x ws O Q => (∃ l, asL O x = some l) ∧ indexM x ws O Q | .tindex => fun x ws O Q => (∃ l, x = .tup l) ∧ indexM x ws O Q | .join => joinM | .split fz => splitM fz | .strip => stripM
theorem Mth.ok (m : Mth) : MtW X m.id m.sem := by
  cases m with
  | append => exact append_ok
  | pop0 => exact pop0_ok
  | pop => exact pop_ok
  | insert => exact insert_ok
  | lindex => exact lst_index_ok
  | tindex => exact tup_index_ok
  | join => exact join_ok
  | split fz => exact split_ok fz
  | strip => exact strip_ok
theorem Mth.attrs (m : Mth) : PlainAttrs m.T.nm := by
  cases m with
  | append => exact F.plainAttrs_list
  | pop0 => exact F.plainAttrs_list
  | pop => exact F.plainAttrs_list
  | insert => exact F.plainAttrs_list
  | lindex => exact F.plainAttrs_list
  | tindex => exact F.plainAttrs_tuple
  | join => exact F.plainAttrs_str
  | split fz => exact F.plainAttrs_str
  | strip => exact F.plainAttrs_str
theorem Mth.slot (m : Mth) : Slot m.T.nm m.nm m.id := by
  cases m with
  | append => exact F.slot_list_append
  | pop0 => exact F.slot_list_pop
  | pop => exact F.slot_list_pop
  | insert => exact F.slot_list_insert
  | lindex => exact PySem.F.slot_list_index
  | tindex => exact PySem.F.slot_tuple_index
  | join => exact F.slot_str_join
  | split fz => exact F.slot_str_split
  | strip => exact F.slot_str_strip
theorem Mth.ty (m : Mth) : typeOf (.builtin m.id) = pure (.type "method_descriptor") := by
  cases m <;> first | rfl | (show typeOf (.builtin "str.split") = _; rfl)
theorem xmt (m : Mth) (ho : WE X f ta) (ha : WA X (e :: es) t) {nm : Str} {apos : Pos} (hnm : nm = m.nm := by rfl) (hbase : attributeBase f m.nm X.env (eval f X.env) = eval f X.env := by rfl)
    (hfew : ((backTo pos (starEach (e :: es) X.env)).all (fun x => !x.1) && (backToKw pos (keywordEach [] X.env)).all (fun x => x.1.isSome)
      && decide ((e :: es).length + ([] : List Keyword).length + (if ([] : List Keyword).isEmpty then 0 else 1) < 30)) = true := by rfl)
    (hline : (apos.endLine == pos.line) = true := by rfl) (hs : starEach (e :: es) X.env = (false, eval e X.env) :: starEach es X.env := by rfl) (hplain : (backTo pos (starEach es X.env)).any (·.1) = false := by rfl) :
    WE X (.Call (.Attribute f nm apos) (e :: es) [] pos) (mtW m.T m.sem ta t) := by
  subst hnm
  exact we_mt m.attrs m.slot m.ty m.ok ho ha hbase hfew hline hs hplain
theorem xmt0 (m : Mth) (ho : WE X f ta) {nm : Str} {apos : Pos} (hnm : nm = m.nm := by rfl) (hbase : attributeBase f m.nm X.env (eval f X.env) = eval f X.env := by rfl) (hline : (apos.endLine == pos.line) = true := by rfl) :
    WE X (.Call (.Attribute f nm apos) [] [] pos) (mtW m.T m.sem ta nilA) := by
  subst hnm
  exact we_mt0 m.attrs m.slot m.ty m.ok ho hbase hline
end
end TF

/-! TF15: statements, walks, comprehensions in short; a def as a callee -/
namespace TF
open PySem PySem.Spec L2 RZ PyProof.Rows

section
variable {X : Cx} {k : Nat} {a b c e f tg iter : Expr} {es : List Expr} {st : Stmt} {sts body orelse : List Stmt} {pos p : Pos} {ta tb tc te to ti : TEw} {t : TAw} {tt : TTw} {s u : TSw} {T : Tg} {wi : TIw}
theorem sc (h : WS X st s) (h2 : WB X sts u) : WB X (st :: sts) (seqW s u) := wb_cons h h2
theorem s1 (h : WS X st s) : WB X [st] s := wb_one h
theorem s0 : WB X [] nextW := wb_nil
theorem sset (C : Cok X k) (i : Nat) {x : Str} {pos' : Pos} (he : WE X e te) (hi : X.N[i]? = some x := by rfl) (hx : Loc X.env.scope x := by first | exact Or.inl rfl | exact Or.inr rfl) (hs : swapsWith e (some (.Name x pos')) pos.line X.env = pure false := by rfl)
    (hf : X.fn x = true ∨ X.env.scope.names.lookup x = some .local := by first | exact .inl rfl | exact .inr rfl) : WS X (.Assign [.Name x pos'] e pos) (asgW te (.one i)) := ws_set C.hN hi hx he hs hf
theorem sunp (he : WE X e te) (hg : WG X tg T) (hs : swapsWithSole [tg] e pos.line X.env = pure false := by rfl) (hw : swappedStores [tg] e X.env = pure none := by rfl) (h1 : (assignEach [tg] X.env).map (·.2) = [assign tg X.env] := by rfl) : WS X (.Assign [tg] e pos) (asgW te T) := ws_asg he hg hs hw h1
theorem spar (C : Cok X k) (i j : Nat) {x y : Str} {px py pt : Pos} {kt k2 pt2} (ha : WA X [a, b] t) (hi : X.N[i]? = some x := by rfl) (hj : X.N[j]? = some y := by rfl) (hij : i ≠ j := by decide) (hx : X.env.scope.names.lookup x = some .local := by rfl) (hy : X.env.scope.names.lookup y = some .local := by rfl)
    (hw : swappedStores [.Tuple [.Name x px, .Name y py] kt pt] (.Tuple [a, b] k2 pt2) X.env = pure (some [x, y]) := by rfl) (hs : swapsWithSole [.Tuple [.Name x px, .Name y py] kt pt] (.Tuple [a, b] k2 pt2) pos.line X.env = pure false := by rfl) :
    WS X (.Assign [.Tuple [.Name x px, .Name y py] kt pt] (.Tuple [a, b] k2 pt2) pos) (parW i j t) := ws_par C.calm C.hN hi hj hij hx hy ha hw hs
theorem sexpr (he : WE X e te) (hs : swapsWith e none pos.line X.env = pure false := by rfl) : WS X (.Expr e pos) (exprW te) := ws_expr he hs
theorem sret (he : WE X e te) : WS X (.Return (some e) pos) (retW te) := ws_ret he
theorem sretN : WS X (.Return none pos) retNW := ws_retN
theorem sif {x y : List Stmt} (hc : WT X c tt) (ha : WB X x s) (hb : WB X y u) : WS X (.If c x y pos) (ifW tt s u) := ws_if hc ha hb
theorem sbrk : WS X (.Break pos) brkW := ws_brk
theorem scnt : WS X (.Continue pos) cntW := ws_cnt
theorem spass : WS X (.Pass pos) nextW := ws_pass
theorem ssub {p2 : Pos} (he : WE X e te) (ho : WE X a to) (hi : WE X b ti) (ha : ∀ v, assign (.Subscript a b p2) X.env v = (do
      let ov ← holding [v] (eval a X.env)
      let iv ← holding [v, ov] (eval b X.env)
      standAt p2
      holding [v, ov, iv] (setItem ov iv v)
      release [v, ov, iv] []) := by intro _; rfl) (hs : swapsWithSole [.Subscript a b p2] e pos.line X.env = pure false := by rfl) (hw : swappedStores [.Subscript a b p2] e X.env = pure none := by rfl) (h1 : (assignEach [.Subscript a b p2] X.env).map (·.2) = [assign (.Subscript a b p2) X.env] := by rfl) :
    WS X (.Assign [.Subscript a b p2] e pos) (subW te to ti) := ws_sub he ho hi ha hs hw h1
theorem swhile (hp : PassesOwn (model X.prog X.w) X.A X.env X.xe) (hc : WT X c tt) (hb : WB X body s) : WS X (.While c body [] pos) (whlW tt s) := ws_while hp hc hb
theorem sraise (C : Cok X k) {x m : Str} {j : Nat} {p2 p3 : Pos} (E : ExC X.K X.mg x) (hg : Gl X x := by rfl) (hdb : (x == ("__debug__" : Str)) = false := by decide) : WS X (.Raise (some (.Call (.Name x p) [.Constant (.str m) j p2] [] p3)) none pos) (raiseW x) := ws_raise C.calm E hg hdb
theorem sfor (C : Cok X k) (hp : PassesOwn (model X.prog X.w) X.A X.env X.xe) (hi : WI X tg iter wi) (hg : WG X tg T) (hb : WB X body s) (ho : WB X orelse u) (hs : ∀ x, foldedSetIterable iter X.env x = pure x := by intro _; rfl) : WS X (.For tg iter body orelse pos) (forW wi T s u) := ws_for hp C.calm hi hg hb ho hs
theorem gn (C : Cok X k) (i : Nat) {x : Str} (hi : X.N[i]? = some x := by rfl) (hx : Loc X.env.scope x := by first | exact Or.inl rfl | exact Or.inr rfl) (hf : X.fn x = true ∨ X.env.scope.names.lookup x = some .local := by first | exact .inl rfl | exact .inr rfl) : WG X (.Name x pos) (.one i) := wg_name C.hN hi hx hf
theorem gs0 : WGs X [] [] := wgs_nil
theorem gs1 {x : Expr} {xs : List Expr} {i : Nat} {is : List Nat} (h : WG X x (.one i)) (h2 : WGs X xs is) (hs : (assignEach (x :: xs) X.env).map (·.2) = assign x X.env :: (assignEach xs X.env).map (·.2) := by rfl) : WGs X (x :: xs) (i :: is) := wgs_cons h h2 hs
theorem gt (C : Cok X k) {es : List Expr} {kk : Nat} {is : List Nat} (h : WGs X es is) (hn : (assignEach es X.env).length = is.length := by rfl) (hst : (assignEach es X.env).findIdx? (·.1) = none := by rfl) : WG X (.Tuple es kk pos) (.pack is) := wg_tup C.calm h hn hst
theorem iseq (h : WE X e ta) : WI X tg e (seqI ta) := wi_seq h
theorem ienum {tpos : Pos} {elts : List Expr} {kk : Nat} (h : WA X [e] t) (hm : X.mg "enumerate" = none) (hg : Gl X "enumerate" := by rfl) (hs : starEach [e] X.env = [(false, eval e X.env)] := by rfl) : WI X (.Tuple elts kk tpos) (.Call (.Name "enumerate" p) [e] [] pos) (enumI t) := wi_enum hg hm h hs
theorem izip {tpos : Pos} {elts : List Expr} {kk : Nat} (h : WA X [a, b] t) (hm : X.mg "zip" = none) (hg : Gl X "zip" := by rfl) (hs : starEach [a, b] X.env = (false, eval a X.env) :: starEach [b] X.env := by rfl) (hpl : (backTo pos (starEach [b] X.env)).any (·.1) = false := by rfl) : WI X (.Tuple elts kk tpos) (.Call (.Name "zip" p) [a, b] [] pos) (zipI t) := wi_zip hg hm h hs hpl
theorem irng1 (h : WA X [a] t) (hm : X.mg "range" = none) (hg : Gl X "range" := by rfl) (hs : starEach [a] X.env = [(false, eval a X.env)] := by rfl) : WI X tg (.Call (.Name "range" p) [a] [] pos) (rng1I t) := wi_rng1 hg hm h hs
theorem irng2 (h : WA X [a, b] t) (hm : X.mg "range" = none) (hg : Gl X "range" := by rfl) (hs : starEach [a, b] X.env = [(false, eval a X.env), (false, eval b X.env)] := by rfl) (hs2 : starEach [b] X.env = [(false, eval b X.env)] := by rfl) : WI X tg (.Call (.Name "range" p) [a, b] [] pos) (rng2I t) := wi_rng2 hg hm h hs hs2
theorem c0 : WTs X [] yesT := wts_nil
theorem c1 (h : WT X c tt) : WTs X [c] tt := wts_one h
theorem xlc (C : Cok X k) (fz : Bool) {elt : Expr} {ifs : List Expr} {scope : Scope} (own : List (Str × Nat)) (hi : WI X tg iter wi) (hg : ∀ s H D cl fp, WG (Blk X scope s H D cl fp) tg T) (ht : ∀ s H D cl fp, WTs (Blk X scope s H D cl fp) ifs tt) (he : ∀ s H D cl fp, WE (Blk X scope s H D cl fp) elt te)
    (hT : ∀ i ∈ T.slots, i ∈ own.map (·.2) := by decide) (ok : blkC X.N X.env.scope scope own = true := by first | rfl | kernel_rfl) (hs : ∀ x, foldedSetIterable iter X.env x = pure x := by intro _; rfl) : WE X (.ListComp elt [⟨tg, iter, ifs, 0⟩] scope pos) (compW fz wi T tt te (own.map (·.2))) :=
  we_lc fz C.calm C.hN hi (blkOk_by ok) hT hg ht he hs
end

/-! ### defs -/
section
variable {P : Program} {w : World} {K : PySem.W.Frag} {mg : Str → Option Value} {base : Heap}
theorem Callee.imp {j : Nat} {nm : Str} {sp sp' : SpW} (c : Callee P w K mg base j nm sp) (h : ∀ ws O Q E, sp' ws O Q E → sp ws O Q E) : Callee P w K mg base j nm sp' := by
  obtain ⟨k, f, fd, ps, hk, G, hm, kp, hb⟩ := c.ex
  exact ⟨k, f, fd, ps, hk, ⟨fun ws O Q E q => G.len ws O Q E (h _ _ _ _ q), fun A outer s H args us vs Q E hr hg e0 b r ⟨Fm, ws, O, Qw, Ew, d, o, q, k1, k2⟩ => G.run A outer s H args us vs Q E hr hg e0 b r ⟨Fm, ws, O, Qw, Ew, d, o, h _ _ _ _ q, k1, k2⟩⟩, hm, kp, hb⟩
/-- a def of the text as it stands: where, its facts -/
structure FnAt (K : PySem.W.Frag) (mg : Str → Option Value) (x : Str) (st : Stmt) : Prop where
  ex : ∃ (f : Addr) (fd : FuncData), Fun K x x st f fd ∧ mg x = some (.ref f)
theorem fnG_of {k : Nat} {x : Str} {st : Stmt} {N ps : List Str} {t : TSw} {f : Addr} {fd : FuncData} (F : Fun K x x st f fd) (S : FnScope N ps (defScope st))
    (hbody : ∀ (f : Addr) (cdv : Value) (A : Around) (outer : List Env) (s : Shared) (H : Hp) (E : XK), Cok (cxOf (L2N.CX P w) P w K mg base N x (defScope st) f cdv A outer s H E) k → PassesOwn (model P w) (cxOf (L2N.CX P w) P w K mg base N x (defScope st) f cdv A outer s H E).A (cxOf (L2N.CX P w) P w K mg base N x (defScope st) f cdv A outer s H E).env (cxOf (L2N.CX P w) P w K mg base N x (defScope st) f cdv A outer s H E).xe →
      WB (cxOf (L2N.CX P w) P w K mg base N x (defScope st) f cdv A outer s H E) (defBody st) t) : FnG P w K mg base (k + 1) f fd ps (semFn ps.length N.length t) := by
  obtain ⟨oc, od, kV, doc, pm, an, cdv, ct, osl, rfl, lk, hcd⟩ := F.ex
  exact fn_ofG lk hcd S fun A outer s H E hr hg => hbody f cdv A outer s H E ⟨hr, hg, rfl, S.nd⟩ (passes_of rfl)
theorem FnG.imp {k : Nat} {f : Addr} {fd : FuncData} {ps : List Str} {sp sp' : SpW} (G : FnG P w K mg base k f fd ps sp) (h : ∀ ws O Q E, sp' ws O Q E → sp ws O Q E) : FnG P w K mg base k f fd ps sp' :=
  ⟨fun ws O Q E q => G.len ws O Q E (h _ _ _ _ q), fun A outer s H args us vs Q E hr hg e0 b r ⟨Fm, ws, O, Qw, Ew, d, o, q, k1, k2⟩ => G.run A outer s H args us vs Q E hr hg e0 b r ⟨Fm, ws, O, Qw, Ew, d, o, h _ _ _ _ q, k1, k2⟩⟩
theorem callee_of {k : Nat} {x : Str} {st : Stmt} {N ps : List Str} {t : TSw} (F : FnAt K mg x st) (S : FnScope N ps (defScope st))
    (hb : ∀ (kV doc pm : Value) (an : Option Addr) (cdv ct : Value) (us : List Value), us.length = ps.length → bindArgs (PySem.W.fnOf x x (defArgs st) (defBody st) (defScope st) .none kV doc pm an cdv ct) ⟨us, []⟩ = pure (ps.zip us))
    (hbody : ∀ (f : Addr) (cdv : Value) (A : Around) (outer : List Env) (s : Shared) (H : Hp) (E : XK), Cok (cxOf (L2N.CX P w) P w K mg base N x (defScope st) f cdv A outer s H E) k → PassesOwn (model P w) (cxOf (L2N.CX P w) P w K mg base N x (defScope st) f cdv A outer s H E).A (cxOf (L2N.CX P w) P w K mg base N x (defScope st) f cdv A outer s H E).env (cxOf (L2N.CX P w) P w K mg base N x (defScope st) f cdv A outer s H E).xe →
      WB (cxOf (L2N.CX P w) P w K mg base N x (defScope st) f cdv A outer s H E) (defBody st) t) : Callee P w K mg base (k + 1) x (semFn ps.length N.length t) := by
  obtain ⟨f, fd, F, hm⟩ := F.ex
  exact ⟨k + 1, f, fd, ps, Nat.le_refl _, fnG_of F S hbody, hm, F.kp, F.binds hb⟩
/-- a callee that is never called -/
theorem callee_bot {x : Str} {st : Stmt} {ps : List Str} (F : FnAt K mg x st)
    (hb : ∀ (kV doc pm : Value) (an : Option Addr) (cdv ct : Value) (us : List Value), us.length = ps.length → bindArgs (PySem.W.fnOf x x (defArgs st) (defBody st) (defScope st) .none kV doc pm an cdv ct) ⟨us, []⟩ = pure (ps.zip us)) : Callee P w K mg base 0 x (fun _ _ _ _ => False) := by
  obtain ⟨f, fd, F, hm⟩ := F.ex
  exact ⟨0, f, fd, ps, Nat.le_refl _, ⟨fun _ _ _ _ h => h.elim, fun _ _ _ _ _ _ _ _ _ _ _ _ _ _ ⟨_, _, _, _, _, _, _, h, _⟩ => h.elim⟩, hm, F.kp, F.binds hb⟩
end
end TF

/-! TF16: [::-1] of lists, name = [..], name op= e -/
namespace TF
open PySem PySem.Spec L2 RZ PyProof.Rows

/-- x[::-1] of a list -/
def revW (fz : Bool) (ta : TEw) : TEw := fun Ex τ O Q => ta Ex τ O fun x O1 => match asL O1 x with
  | some ws => newL fz ws.reverse O1 Q
  | none => False
section
variable {X : Cx} {k : Nat} {a b c e tg iter : Expr} {pos p : Pos} {ta te : TEw} {tt : TTw} {T : Tg} {wi : TIw}
theorem xrev {j : Nat} {p1 p2 p3 : Pos} (fz : Bool) (ha : WE X a ta) : WE X (.Subscript a (.Slice none none (some (.UnaryOp .USub (.Constant (.int 1) j p1) p2)) p3) pos) (revW fz ta) := fun Fm Ex tk => by
  refine ⟨fun pins s σ H Q' I ⟨τ, O, Q, S, o, h, k⟩ => ?_⟩
  refine thn ((pe_revL (ha Fm Ex tk)).run pins s σ H (fun v H' => ∃ p vs ws H1 O1, v = .ref p ∧ H' = upd H1 p (.lst vs) ∧ H1 p = none ∧ Pers H H1 ∧ IsDs X.K X.mg H1 vs ws ∧ Own X.K X.mg Fm O1 H1 ∧ newL fz ws O1 Q) I ?_) fun u s1 ⟨v, H', I', r', p, vs, ws, H1, O1, e1, e2, np, P1, d1, o1, q1⟩ => ?_
  · refine ⟨τ, O, _, S, o, h, fun v H1 ⟨w, O1, P1, d1, o1, q1⟩ => ?_⟩
    cases e : asL O1 w with
    | none => simp only [e] at q1
    | some ws =>
      simp only [e] at q1
      obtain ⟨a, vs, rfl, h1, t1⟩ := asL_rd d1 o1 e
      exact ⟨a, vs, rfl, .inl h1, fun p np => ⟨p, _, _, H1, O1, rfl, rfl, np, P1, t1.reverse, o1, q1⟩⟩
  · subst e1 e2
    cases r'
    exact ep_newL np P1 I' d1 o1 q1 k
theorem slc (C : Cok X k) (i : Nat) {y : Str} {py : Pos} (fz : Bool) {elt : Expr} {ifs : List Expr} {scope : Scope} (own : List (Str × Nat)) (hi : WI X tg iter wi) (hg : ∀ s H D cl fp, WG (Blk X scope s H D cl fp) tg T) (ht : ∀ s H D cl fp, WTs (Blk X scope s H D cl fp) ifs tt) (he : ∀ s H D cl fp, WE (Blk X scope s H D cl fp) elt te)
    (hy : X.N[i]? = some y := by rfl) (hyl : X.env.scope.names.lookup y = some .local := by rfl) (hsw : swapsWith (.ListComp elt [⟨tg, iter, ifs, 0⟩] scope p) (some (.Name y py)) pos.line X.env = pure true := by rfl)
    (hT : ∀ i ∈ T.slots, i ∈ own.map (·.2) := by decide) (ok : blkC X.N X.env.scope scope own = true := by first | rfl | kernel_rfl) (hs : ∀ x, foldedSetIterable iter X.env x = pure x := by intro _; rfl) :
    WS X (.Assign [.Name y py] (.ListComp elt [⟨tg, iter, ifs, 0⟩] scope p) pos) (asgW (compW fz wi T tt te (own.map (·.2))) (.one i)) := fun Fm Ex tk => by
  refine ⟨fun pins s σ H D' I ⟨D, τ, O, S, o, h, l⟩ => ?_⟩
  have h : wi Ex τ O fun I O1 => compGo I.ok T tt te (wipeW τ (own.map (·.2))) I.items [] O1 fun ws O2 => newL fz ws O2 fun w O1 => D.nx (τ.set i (some w)) O1 := h
  refine thn ((ps_setLc (i := i) (g := gOf X.K T) (tt := fun σ H Q => ∃ F, LT X.K X.mg F (tt botX) σ H Q) (te := fun σ H Q => ∃ F, LE X.K X.mg F (te botX) σ H Q) C.calm C.hN hy hyl hsw (hi Fm Ex tk) (blkOk_by ok) hg (fun s H C cl fp => pts_anyF (ht s H C cl fp)) (fun s H C cl fp => pe_anyF (he s H C cl fp)) hs).run pins s σ H
    { nx := fun σ' H' => ∃ v, σ' = σ.set i (some v) ∧ LcPost X Fm H (fun ws O2 => newL fz ws O2 fun w O1 => D.nx (τ.set i (some w)) O1) v H', rt := fun _ _ => False } I ?_) fun f s1 q => ?_
  · show tLc _ _ _ _ _ σ H _
    have c := tLc_ok (T := T) (tt := tt) (te := te) (own := own.map (·.2)) hT S o h
    obtain ⟨τ', O', R', S', o', h', k'⟩ := c
    refine ⟨τ', O', R', S', o', h', fun J I H1 O1 P1 o1 sv q D2 nD => ?_⟩
    obtain ⟨W, m0, turn⟩ := k' J I H1 O1 P1 o1 sv q D2 nD
    refine ⟨W, m0, fun i m H2 w => ?_⟩
    rcases turn i m H2 w with ⟨st, z⟩ | z
    · exact .inl ⟨st, ⟨_, rfl, z⟩⟩
    · exact .inr z
  · cases f with
    | next =>
      obtain ⟨σ', H', I', v, rfl, D2, vs, ws, O2, rfl, hD, P, d, o2, oD, fD, q⟩ := q
      unfold newL at q
      cases fz with
      | false =>
        rw [if_neg Bool.false_ne_true] at q
        refine ⟨_, H', I', l.nx _ H' _ _ ((S.pers P).set i (.ref D2)) ⟨fun a oo e => ?_, o2.fr, fun a w e => ?_⟩ (q D2 oD)⟩
        · by_cases ha : a = D2
          · subst ha; rw [upo_same] at e; cases e; exact ⟨vs, hD, d⟩
          · rw [upo_ne ha] at e; exact o2.at_ a oo e
        · rw [upo_ne (fun z => by subst z; rw [fD] at e; cases e)]; exact o2.ap a w e
      | true =>
        rw [if_pos rfl] at q
        obtain ⟨ob, I2⟩ := I'.lock hD trivial
        have P2 : Pers H' (upd H' D2 (.frz ob (.lst vs))) := Pers.upd (fun _ e => by rw [hD] at e; cases e) (fun _ _ e => by rw [hD] at e; cases e)
        refine ⟨_, _, I2, l.nx _ _ _ _ ((S.pers (P.trans P2)).set i (.lst ⟨ob, upd_same⟩ (d.pers P2))) ⟨fun a oo e => ?_, fun a w e => ?_, o2.ap⟩ q⟩
        · exact (o2.at_ a oo e).stay P2 (upd_ne (fun z => by subst z; rw [oD] at e; cases e))
        · rw [upd_ne (fun z => by subst z; rw [fD] at e; cases e)]; exact o2.fr a w e
    | ret v => obtain ⟨_, _, _, _, _, q⟩ := q; exact q.elim
    | brk => obtain ⟨_, _, _, q⟩ := q; exact False.elim q
    | cont => obtain ⟨_, _, _, q⟩ := q; exact False.elim q
/-- name op= e, ints -/
inductive AOp where | add | sub | mul
def AOp.op : AOp → Operator | .add => .Add | .sub => .Sub | .mul => .Mult
def augI (op : AOp) (a b : Int) (k : Int → Prop) : Prop := match op with
  | .add => k (a + b)
  | .sub => k (a - b)
  | .mul => (Small a ∧ Small b) ∧ k (a * b)
def asI (w : Dt) (f : Int → Prop) : Prop := match w with
  | .int i => f i
  | _ => False
def agW (i : Nat) (op : AOp) (te : TEw) : TSw := fun Ex D τ O => onS (getS τ i) fun x => te Ex τ O fun y O1 => asI x fun a => asI y fun b => augI op a b fun c => D.nx (τ.set i (some (.int c))) O1
theorem asI_is {w : Dt} {f : Int → Prop} (h : asI w f) : ∃ i, w = .int i ∧ f i := by
  cases w with
  | int i => exact ⟨i, rfl, h⟩
  | _ => exact h.elim
theorem ip_mul : PIp X .Mult (fun x y H Q => ∃ i j, x = .int i ∧ y = .int j ∧ CMulW i j ∧ Q (.int (i * j)) H) := by
  intro pins s σ H x y v u Q I r1 r2 h
  obtain ⟨i, j, e1, e2, hc, q⟩ := h
  subst e1; subst e2
  obtain ⟨t, rfl⟩ := r1
  obtain ⟨t', rfl⟩ := r2
  exact PyProof.Rows.imul_int ⟨.int _, H, I.tok _, ⟨_, rfl⟩, q⟩ hc.ok
theorem saug (C : Cok X k) (i : Nat) (op : AOp) {x : Str} {pos' : Pos} (he : WE X e te) {o : Operator} (hop : o = op.op := by rfl) (hi : X.N[i]? = some x := by rfl) (hx : Loc X.env.scope x := by first | exact Or.inl rfl | exact Or.inr rfl) (hf : X.fn x = true ∨ X.env.scope.names.lookup x = some .local := by first | exact .inl rfl | exact .inr rfl) :
    WS X (.AugAssign (.Name x pos') o e pos) (agW i op te) := by
  subst hop
  have key : ∀ {ti : TIp}, PIp X op.op ti → (∀ (a b : Int) (H : Hp) (Q : VK) (k : Int → Prop), augI op a b k → (∀ c, k c → Q (.int c) H) → ti (.int a) (.int b) H Q) → WS X (.AugAssign (.Name x pos') op.op e pos) (agW i op te) := fun {ti} hp imp Fm Ex tk =>
    PS.imp (ps_aug C.hN hi hx (he Fm Ex tk) hp hf) fun D' σ H ⟨D, τ, O, S, o, q, l⟩ => by
      have q : onS (getS τ i) fun x => te Ex τ O fun y O1 => asI x fun a => asI y fun b => augI op a b fun c => D.nx (τ.set i (some (.int c))) O1 := q
      cases eg : getS τ i with
      | none => rw [eg] at q; exact q.elim
      | some w =>
        rw [eg] at q
        obtain ⟨v, e1, d⟩ := S.2 i w (getS_eq τ i w eg)
        refine ⟨v, e1, τ, O, _, S, o, q, fun v2 H1 ⟨y, O1, P1, d1, o1, q1⟩ => ?_⟩
        obtain ⟨a, ea, q2⟩ := asI_is q1
        subst ea
        obtain ⟨b, eb, q3⟩ := asI_is q2
        subst eb
        rw [d.of_int, d1.of_int]
        exact imp a b H1 _ _ q3 fun c qc => l.nx _ H1 _ O1 ((S.pers P1).set i (.int c)) o1 qc
  cases op with
  | add => exact key ip_add fun a b H Q k h q => ⟨a, b, rfl, rfl, q _ h⟩
  | sub => exact key ip_sub fun a b H Q k h q => ⟨a, b, rfl, rfl, q _ h⟩
  | mul => exact key ip_mul fun a b H Q k h q => ⟨a, b, rfl, rfl, by have h1 := h.1.1.log; have h2 := h.1.2.log; unfold CMulW; omega, q _ h.2⟩
end
end TF

/-! TF17: the readings of the layer's words as equations -/
namespace TF
open PySem PySem.Spec L2 RZ PyProof.Rows

theorem sb_none_bool : TN.sub .none .bool = false := rfl
theorem sb_none_int : TN.sub .none .int = false := rfl
theorem sb_none_str : TN.sub .none .str = false := rfl
theorem sb_none_tuple : TN.sub .none .tuple = false := rfl
theorem sb_none_list : TN.sub .none .list = false := rfl
theorem sb_none_dict : TN.sub .none .dict = false := rfl
theorem sb_bool_bool : TN.sub .bool .bool = true := rfl
theorem sb_bool_int : TN.sub .bool .int = true := rfl
theorem sb_bool_str : TN.sub .bool .str = false := rfl
theorem sb_bool_tuple : TN.sub .bool .tuple = false := rfl
theorem sb_bool_list : TN.sub .bool .list = false := rfl
theorem sb_bool_dict : TN.sub .bool .dict = false := rfl
theorem sb_int_bool : TN.sub .int .bool = false := rfl
theorem sb_int_int : TN.sub .int .int = true := rfl
theorem sb_int_str : TN.sub .int .str = false := rfl
theorem sb_int_tuple : TN.sub .int .tuple = false := rfl
theorem sb_int_list : TN.sub .int .list = false := rfl
theorem sb_int_dict : TN.sub .int .dict = false := rfl
theorem sb_str_bool : TN.sub .str .bool = false := rfl
theorem sb_str_int : TN.sub .str .int = false := rfl
theorem sb_str_str : TN.sub .str .str = true := rfl
theorem sb_str_tuple : TN.sub .str .tuple = false := rfl
theorem sb_str_list : TN.sub .str .list = false := rfl
theorem sb_str_dict : TN.sub .str .dict = false := rfl
theorem sb_tuple_bool : TN.sub .tuple .bool = false := rfl
theorem sb_tuple_int : TN.sub .tuple .int = false := rfl
theorem sb_tuple_str : TN.sub .tuple .str = false := rfl
theorem sb_tuple_tuple : TN.sub .tuple .tuple = true := rfl
theorem sb_tuple_list : TN.sub .tuple .list = false := rfl
theorem sb_tuple_dict : TN.sub .tuple .dict = false := rfl
theorem sb_list_bool : TN.sub .list .bool = false := rfl
theorem sb_list_int : TN.sub .list .int = false := rfl
theorem sb_list_str : TN.sub .list .str = false := rfl
theorem sb_list_tuple : TN.sub .list .tuple = false := rfl
theorem sb_list_list : TN.sub .list .list = true := rfl
theorem sb_list_dict : TN.sub .list .dict = false := rfl
theorem sb_dict_bool : TN.sub .dict .bool = false := rfl
theorem sb_dict_int : TN.sub .dict .int = false := rfl
theorem sb_dict_str : TN.sub .dict .str = false := rfl
theorem sb_dict_tuple : TN.sub .dict .tuple = false := rfl
theorem sb_dict_list : TN.sub .dict .list = false := rfl
theorem sb_dict_dict : TN.sub .dict .dict = true := rfl
section
variable {Ex : XW} {D : EndsW} {τ : SW} {O : OW} {Q : KW} {t u : TSw} {ta tb tc te to ti : TEw} {tt : TTw} {ar : TAw} {T : Tg} {R : ItW → OW → Prop} {QA : List Dt → OW → Prop} {QT : Bool → OW → Prop} {QO : Option Int → OW → Prop} {wi : TIw}
theorem e_seq : seqW t u Ex D τ O = t Ex { D with nx := fun τ1 O1 => u Ex D τ1 O1 } τ O := rfl
theorem e_asg : asgW te T Ex D τ O = te Ex τ O fun w O1 => tgtW T (.one w) τ fun τ1 => D.nx τ1 O1 := rfl
def two (ws : List Dt) (f : Dt → Dt → Prop) : Prop := match ws with
  | [x, y] => f x y
  | _ => False
theorem e_par {i j : Nat} : parW i j ar Ex D τ O = ar Ex τ O fun ws O1 => two ws fun x y => D.nx ((τ.set i (some x)).set j (some y)) O1 := by
  unfold parW
  congr 1
theorem e_two {x y : Dt} {f : Dt → Dt → Prop} : two [x, y] f = f x y := rfl
theorem e_expr : exprW te Ex D τ O = te Ex τ O fun _ O1 => D.nx τ O1 := rfl
theorem e_ret : retW te Ex D τ O = te Ex τ O D.rt := rfl
theorem e_retN : retNW Ex D τ O = D.rt .non O := rfl
theorem e_if : ifW tt t u Ex D τ O = tt Ex τ O fun b O1 => if b = true then t Ex D τ O1 else u Ex D τ O1 := rfl
theorem e_tst : tstW te Ex τ O QT = te Ex τ O fun x O1 => onBl x fun b => QT b O1 := rfl
theorem e_brk : brkW Ex D τ O = D.bk τ O := rfl
theorem e_cnt : cntW Ex D τ O = D.ct τ O := rfl
theorem e_next : nextW Ex D τ O = D.nx τ O := rfl
theorem e_sub : subW te to ti Ex D τ O = te Ex τ O fun w O1 => to Ex τ O1 fun x O2 => ti Ex τ O2 fun k O3 => setSub x k w O3 fun O4 => D.nx τ O4 := rfl
theorem e_ag {i : Nat} {op : AOp} : agW i op te Ex D τ O = onS (getS τ i) fun x => te Ex τ O fun y O1 => asI x fun a => asI y fun b => augI op a b fun c => D.nx (τ.set i (some (.int c))) O1 := rfl
theorem e_raise {cn : Str} : raiseW cn Ex D τ O = Ex ⟨cn, []⟩ τ O := rfl
theorem e_for {body els : TSw} : forW wi T body els Ex D τ O = wi Ex τ O fun I O1 => loopW I.ok T (body Ex) (els Ex) D I.items τ O1 := rfl
theorem e_var {i : Nat} : varW i Ex τ O Q = onS (getS τ i) fun w => Q w O := rfl
theorem e_cst {w : Dt} : cstW w Ex τ O Q = Q w O := rfl
theorem e_op {r : RW2} : opW r ta tb Ex τ O Q = ta Ex τ O fun x O1 => tb Ex τ O1 fun y O2 => r x y O2 Q := rfl
theorem e_chn {r r' : RW2} : chnW r r' ta tb tc Ex τ O Q = ta Ex τ O fun x O1 => tb Ex τ O1 fun y O2 => r x y O2 fun z O3 => onBl z fun k => if k = true then tc Ex τ O3 fun w O4 => r' y w O4 Q else Q (.bl false) O3 := rfl
theorem asI_int {i : Int} {f : Int → Prop} : asI (.int i) f = f i := rfl
theorem e_neg : negW ta Ex τ O Q = ta Ex τ O fun x O1 => asI x fun i => Q (.int (-i)) O1 := by
  unfold negW
  congr 1
theorem e_not : notW ta Ex τ O Q = ta Ex τ O fun x O1 => onBl x fun b => Q (.bl (!b)) O1 := rfl
theorem e_and : andW ta tb Ex τ O Q = ta Ex τ O fun x O1 => onBl x fun b => if b = true then tb Ex τ O1 Q else Q (.bl false) O1 := rfl
theorem e_or : orW ta tb Ex τ O Q = ta Ex τ O fun x O1 => onBl x fun b => if b = true then Q (.bl true) O1 else tb Ex τ O1 Q := rfl
theorem e_ife : ifeW tc ta tb Ex τ O Q = tc Ex τ O fun x O1 => onBl x fun b => if b = true then ta Ex τ O1 Q else tb Ex τ O1 Q := rfl
def onB (o : Option Bool) (f : Bool → Prop) : Prop := match o with
  | some b => f b
  | none => False
theorem onB_some {b : Bool} {f : Bool → Prop} : onB (some b) f = f b := rfl
theorem e_isN {neg : Bool} : isNW neg ta Ex τ O Q = ta Ex τ O fun x O1 => onB (isN? x) fun b => Q (.bl (if neg then !b else b)) O1 := by
  unfold isNW
  congr 1
theorem isN_non : isN? .non = some true := rfl
theorem isN_int {i : Int} : isN? (.int i) = some false := rfl
theorem isN_bl {b : Bool} : isN? (.bl b) = some false := rfl
theorem isN_str {z : Str} : isN? (.str z) = some false := rfl
theorem isN_tup {ws : List Dt} : isN? (.tup ws) = some false := rfl
theorem isN_lst {ws : List Dt} : isN? (.lst ws) = some false := rfl
theorem isN_scr {ws : List Dt} : isN? (.scr ws) = some false := rfl
theorem isN_ref {a : Addr} : isN? (.ref a) = some false := rfl
theorem e_sl {fz : Bool} {tl th : TOw} : slW fz ta tl th Ex τ O Q = ta Ex τ O fun x O1 => tl Ex τ O1 fun l O2 => th Ex τ O2 fun h O3 => slcW fz x l h O3 Q := rfl
theorem e_none : noneO Ex τ O QO = QO none O := rfl
theorem e_some : someO te Ex τ O QO = te Ex τ O fun x O1 => asI x fun i => QO (some i) O1 := by
  unfold someO
  congr 1
theorem e_nil : nilA Ex τ O QA = QA [] O := rfl
theorem e_cons : consA ta ar Ex τ O QA = ta Ex τ O fun x O1 => ar Ex τ O1 fun xs O2 => QA (x :: xs) O2 := rfl
theorem e_tup : tupW ar Ex τ O Q = ar Ex τ O fun xs O1 => xs.length ≤ LIM ∧ Q (.tup xs) O1 := rfl
theorem e_lst {fz : Bool} : lstW fz ar Ex τ O Q = ar Ex τ O fun xs O1 => xs.length ≤ LIM ∧ newL fz xs O1 Q := rfl
theorem e_call {sp : SpW} : callW sp ar Ex τ O Q = ar Ex τ O fun ws O1 => sp ws O1 Q fun x O' => Ex x τ O' := rfl
theorem e_blt {r : RCW} : bltW r ar Ex τ O Q = ar Ex τ O fun ws O1 => r ws O1 Q := rfl
def onT (o : Option TN) (f : TN → Prop) : Prop := match o with
  | some t => f t
  | none => False
theorem onT_some {t : TN} {f : TN → Prop} : onT (some t) f = f t := rfl
theorem e_isi {T : TN} : isiW T te Ex τ O Q = te Ex τ O fun x O1 => onT (tnOf O1 x) fun t => Q (.bl (t.sub T)) O1 := by
  unfold isiW
  congr 1
theorem e_isii {T U : TN} : isiiW T U te Ex τ O Q = te Ex τ O fun x O1 => onT (tnOf O1 x) fun t => Q (.bl (t.sub T || t.sub U)) O1 := by
  unfold isiiW
  congr 1
theorem tn_non : tnOf O .non = some .none := rfl
theorem tn_bl {b : Bool} : tnOf O (.bl b) = some .bool := rfl
theorem tn_int {i : Int} : tnOf O (.int i) = some .int := rfl
theorem tn_str {z : Str} : tnOf O (.str z) = some .str := rfl
theorem tn_tup {ws : List Dt} : tnOf O (.tup ws) = some .tuple := rfl
theorem tn_lst {ws : List Dt} : tnOf O (.lst ws) = some .list := rfl
theorem e_mt {T : TN} {r : RMW} : mtW T r to ar Ex τ O Q = to Ex τ O fun x O1 => tyW T O1 x ∧ ar Ex τ O1 fun ws O2 => r x ws O2 Q := rfl
theorem ty_str {z : Str} : tyW .str O (.str z) = True := rfl
theorem ty_tup {ws : List Dt} : tyW .tuple O (.tup ws) = True := rfl
theorem ty_lst {ws : List Dt} : tyW .list O (.lst ws) = True := rfl
theorem ty_ref {a : Addr} {ws : List Dt} (h : O a = some (OO.lst ws)) : tyW .list O (.ref a) = True := by
  show (match O a with | some (.lst _) => True | _ => False) = True
  rw [h]
theorem e_comp {fz : Bool} {own : List Nat} : compW fz wi T tt te own Ex τ O Q = wi Ex τ O fun I O1 => compGo I.ok T tt te (wipeW τ own) I.items [] O1 fun ws O2 => newL fz ws O2 Q := rfl
theorem e_seqI : seqI ta Ex τ O R = ta Ex τ O fun x O1 => seqX x O1 R := rfl
theorem seqX_str {z : Str} : seqX (.str z) O R = R ⟨strY z, fun _ => True⟩ O := rfl
theorem seqX_tup {ws : List Dt} : seqX (.tup ws) O R = R ⟨ones ws, fun _ => True⟩ O := rfl
theorem seqX_lst {ws : List Dt} : seqX (.lst ws) O R = R ⟨ones ws, fun _ => True⟩ O := rfl
theorem seqX_ref {a : Addr} {ws : List Dt} (h : O a = some (OO.lst ws)) : seqX (.ref a) O R = R ⟨ones ws, fun O' => O' a = some (OO.lst ws)⟩ O := by
  show (match O a with | some (.lst ws) => R ⟨ones ws, fun O' => O' a = some (OO.lst ws)⟩ O | _ => False) = _
  rw [h]
def one1 (ws : List Dt) (f : Dt → Prop) : Prop := match ws with
  | [x] => f x
  | _ => False
theorem e_one1 {x : Dt} {f : Dt → Prop} : one1 [x] f = f x := rfl
theorem e_enum : enumI ar Ex τ O R = ar Ex τ O fun ws O1 => one1 ws fun x => walkQ (enumY 0) x O1 R := by
  unfold enumI
  congr 1
theorem walk_tup {mk : List Dt → List Y} {ws : List Dt} : walkQ mk (.tup ws) O R = R ⟨mk ws, fun _ => True⟩ O := rfl
theorem walk_lst {mk : List Dt → List Y} {ws : List Dt} : walkQ mk (.lst ws) O R = R ⟨mk ws, fun _ => True⟩ O := rfl
theorem walk_ref {mk : List Dt → List Y} {a : Addr} {ws : List Dt} (h : O a = some (OO.lst ws)) : walkQ mk (.ref a) O R = R ⟨mk ws, fun O' => O' a = some (OO.lst ws)⟩ O := by
  show (match O a with | some (.lst ws) => R ⟨mk ws, fun O' => O' a = some (OO.lst ws)⟩ O | _ => False) = _
  rw [h]
theorem e_zip : zipI ar Ex τ O R = ar Ex τ O fun ws O1 => zipX ws O1 R := rfl
theorem zip_tup {as bs : List Dt} : zipX [.tup as, .tup bs] O R = R ⟨zipY as bs, fun _ => True⟩ O := rfl
theorem zip_lst {as bs : List Dt} : zipX [.lst as, .lst bs] O R = ∃ cs ds, some as = some cs ∧ some bs = some ds ∧ R ⟨zipY cs ds, fun O' => some as = some cs ∧ some bs = some ds⟩ O := rfl
theorem e_rng1 : rng1I ar Ex τ O R = ar Ex τ O fun ws O1 => one1 ws fun x => asI x fun j => (-(2 ^ 62) ≤ j ∧ j < 2 ^ 62) ∧ R ⟨rngY 0 j.toNat, fun _ => True⟩ O1 := by
  unfold rng1I
  congr 1
  funext ws O1
  match ws with
  | [] => rfl
  | [x] => cases x <;> rfl
  | x :: _ :: _ => cases x <;> rfl
theorem e_rng2 : rng2I ar Ex τ O R = ar Ex τ O fun ws O1 => two ws fun x y => asI x fun i => asI y fun j => (-(2 ^ 62) ≤ i ∧ i < 2 ^ 62 ∧ -(2 ^ 62) ≤ j ∧ j < 2 ^ 62) ∧ R ⟨rngY i (j - i).toNat, fun _ => True⟩ O1 := by
  unfold rng2I
  congr 1
  funext ws O1
  match ws with
  | [] => rfl
  | [x] => cases x <;> rfl
  | [x, y] => cases x <;> cases y <;> rfl
  | x :: y :: _ :: _ => cases x <;> cases y <;> rfl
theorem e_yes : yesT Ex τ O QT = QT true O := rfl
def onL1 (o : Option (List Dt)) (f : List Dt → Prop) : Prop := match o with
  | some l => f l
  | none => False
theorem onL1_some {l : List Dt} {f : List Dt → Prop} : onL1 (some l) f = f l := rfl
theorem e_rev {fz : Bool} : revW fz ta Ex τ O Q = ta Ex τ O fun x O1 => onL1 (asL O1 x) fun ws => newL fz ws.reverse O1 Q := by
  unfold revW
  congr 1
theorem e_lset : lsetW te Ex τ O Q = te Ex τ O fun x O1 => ∃ ns : List Int, asQ O1 x = some (ns.map Dt.int) ∧ ns.length ≤ 4000 ∧ ∀ L : List Int, L.Nodup → (∀ k, k ∈ L ↔ k ∈ ns) → Q (.int L.length) O1 := rfl
theorem newL_t {ws : List Dt} : newL true ws O Q = Q (.lst ws) O := rfl
theorem newL_f {ws : List Dt} : newL false ws O Q = ∀ p, O p = none → Q (.ref p) (upo O p (.lst ws)) := by
  unfold newL
  rw [if_neg Bool.false_ne_true]
theorem asL_lst {ws : List Dt} : asL O (.lst ws) = some ws := rfl
theorem asL_ref {a : Addr} {ws : List Dt} (h : O a = some (OO.lst ws)) : asL O (.ref a) = some ws := by
  show (match O a with | some (.lst ws) => some ws | _ => none) = _
  rw [h]
theorem asQ_lst {ws : List Dt} : asQ O (.lst ws) = some ws := rfl
theorem asQ_tup {ws : List Dt} : asQ O (.tup ws) = some ws := rfl
theorem asQ_ref {a : Addr} {ws : List Dt} (h : O a = some (OO.lst ws)) : asQ O (.ref a) = some ws := by
  show (match O a with | some (.lst ws) => some ws | _ => none) = _
  rw [h]
theorem tgt_one {i : Nat} {w : Dt} {k : SW → Prop} : tgtW (.one i) (.one w) τ k = k (τ.set i (some w)) := rfl
theorem tgt_pack {is : List Nat} {ws : List Dt} {k : SW → Prop} : tgtW (.pack is) (.pack ws) τ k = (is.length = ws.length ∧ k (setMany τ is ws)) := rfl
theorem tgt_tup {is : List Nat} {ws : List Dt} {k : SW → Prop} : tgtW (.pack is) (.one (.tup ws)) τ k = (is.length = ws.length ∧ k (setMany τ is ws)) := rfl
/-! operators -/
theorem b_add {fz : Bool} {x y : Dt} : binW .add fz x y O Q = addW fz x y O Q := rfl
theorem add_int {fz : Bool} {i j : Int} : addW fz (.int i) (.int j) O Q = Q (.int (i + j)) O := rfl
theorem add_str {fz : Bool} {a b : Str} : addW fz (.str a) (.str b) O Q = (a.length + b.length ≤ LIM ∧ Q (.str (a ++ b)) O) := rfl
theorem add_tup {fz : Bool} {a b : List Dt} : addW fz (.tup a) (.tup b) O Q = (a.length + b.length ≤ LIM ∧ Q (.tup (a ++ b)) O) := rfl
theorem add_lst {fz : Bool} {a b : List Dt} : addW fz (.lst a) (.lst b) O Q = (a.length + b.length ≤ LIM ∧ newL fz (a ++ b) O Q) := rfl
theorem b_sub {fz : Bool} {i j : Int} : binW .sub fz (.int i) (.int j) O Q = Q (.int (i - j)) O := by
  show (True ∧ Q (.int (i - j)) O) = _
  rw [true_and]
theorem b_mul {fz : Bool} {x y : Dt} : binW .mul fz x y O Q = mulW fz x y O Q := rfl
theorem mul_int {fz : Bool} {i j : Int} : mulW fz (.int i) (.int j) O Q = ((Small i ∧ Small j) ∧ Q (.int (i * j)) O) := rfl
theorem b_mod {fz : Bool} {i j : Int} : binW .mod fz (.int i) (.int j) O Q = (0 < j ∧ Q (.int (i % j)) O) := rfl
theorem b_fdiv {fz : Bool} {i j : Int} : binW .fdiv fz (.int i) (.int j) O Q = ((0 < j ∧ Small j) ∧ Q (.int (i / j)) O) := rfl
theorem b_pow {fz : Bool} {i j : Int} : binW .pow fz (.int i) (.int j) O Q = (((0 ≤ j ∧ j ≤ 100) ∧ Small i) ∧ Q (.int (i ^ j.toNat)) O) := rfl
theorem c_eq {x y : Dt} : cmpW .eq x y O Q = eqW x y O fun b => Q (.bl b) O := rfl
theorem c_ne {x y : Dt} : cmpW .ne x y O Q = eqW x y O fun b => Q (.bl (!b)) O := rfl
theorem c_lt {i j : Int} : cmpW .lt (.int i) (.int j) O Q = Q (.bl (decide (i < j))) O := by
  show (True ∧ _) = _
  rw [true_and]
theorem c_le {i j : Int} : cmpW .le (.int i) (.int j) O Q = Q (.bl (decide (i ≤ j))) O := by
  show (True ∧ _) = _
  rw [true_and]
theorem c_gt {i j : Int} : cmpW .gt (.int i) (.int j) O Q = Q (.bl (decide (j < i))) O := by
  show (True ∧ _) = _
  rw [true_and]
theorem c_ge {i j : Int} : cmpW .ge (.int i) (.int j) O Q = Q (.bl (decide (j ≤ i))) O := by
  show (True ∧ _) = _
  rw [true_and]
theorem c_in {x y : Dt} : cmpW .inn x y O Q = inW x y O fun b => Q (.bl b) O := rfl
theorem c_nin {x y : Dt} : cmpW .nin x y O Q = inW x y O fun b => Q (.bl (!b)) O := rfl
theorem eq_int {i j : Int} {k : Bool → Prop} : eqW (.int i) (.int j) O k = k (decide (i = j)) := rfl
theorem eq_str {a b : Str} {k : Bool → Prop} : eqW (.str a) (.str b) O k = k (decide (a = b)) := rfl
theorem eq_bl {a b : Bool} {k : Bool → Prop} : eqW (.bl a) (.bl b) O k = k (decide (a = b)) := rfl
theorem eq_non {k : Bool → Prop} : eqW .non .non O k = k true := rfl
theorem eq_tup {a b : List Dt} {k : Bool → Prop} : eqW (.tup a) (.tup b) O k = ∃ d e, PD O (.tup a) d ∧ PD O (.tup b) e ∧ SeqAt.shaped d = true ∧ SeqAt.shaped e = true ∧ k (PyData.eqv d e) := rfl
theorem eq_lst {a b : List Dt} {k : Bool → Prop} : eqW (.lst a) (.lst b) O k = ∃ d e, PD O (.lst a) d ∧ PD O (.lst b) e ∧ SeqAt.shaped d = true ∧ SeqAt.shaped e = true ∧ k (PyData.eqv d e) := rfl
theorem in_chr {c : Nat} {t : Str} {k : Bool → Prop} : inW (.str ⟨#[c]⟩) (.str t) O k = k (decide (c ∈ t.cps.toList)) := rfl
theorem idx_str {z : Str} {i : Int} : idxW (.str z) (.int i) O Q = (z.length ≤ LIM ∧ (match L2.atI z.cps.toList i with | some c => Q (.str ⟨#[c]⟩) O | none => False)) := rfl
theorem idx_tup {ws : List Dt} {i : Int} : idxW (.tup ws) (.int i) O Q = onS (L2.atI ws i) fun w => Q w O := rfl
theorem idx_scr {ws : List Dt} {i : Int} : idxW (.scr ws) (.int i) O Q = onS (L2.atI ws i) fun w => Q w O := rfl
theorem idx_lst {ws : List Dt} {i : Int} : idxW (.lst ws) (.int i) O Q = onS (L2.atI ws i) fun w => Q w O := rfl
theorem idx_ref {a : Addr} {ws : List Dt} {i : Int} (h : O a = some (OO.lst ws)) : idxW (.ref a) (.int i) O Q = onS (L2.atI ws i) fun w => Q w O := by
  show (match asQ O (.ref a) with | some ws => onS (L2.atI ws i) fun w => Q w O | none => False) = _
  rw [asQ_ref h]
theorem slc_str {fz : Bool} {z : Str} {lo hi : Option Int} : slcW fz (.str z) lo hi O Q = (z.length ≤ LIM ∧ Q (.str (cutS z lo hi)) O) := rfl
def cutD (ws : List Dt) (lo hi : Option Int) : List Dt := (ws.drop (HT.sIx ws.length 0 lo)).take (HT.sIx ws.length ws.length hi - HT.sIx ws.length 0 lo)
theorem slc_tup {fz : Bool} {ws : List Dt} {lo hi : Option Int} : slcW fz (.tup ws) lo hi O Q = Q (.tup (cutD ws lo hi)) O := rfl
theorem slc_scr {fz : Bool} {ws : List Dt} {lo hi : Option Int} : slcW fz (.scr ws) lo hi O Q = newL fz (cutD ws lo hi) O Q := rfl
theorem slc_lst {fz : Bool} {ws : List Dt} {lo hi : Option Int} : slcW fz (.lst ws) lo hi O Q = newL fz (cutD ws lo hi) O Q := rfl
/-! built-ins -/
theorem f_len {x : Dt} : Blt.sem .len [x] O Q = len1 x O Q := rfl
theorem len_str {z : Str} : len1 (.str z) O Q = (z.length ≤ LIM ∧ Q (.int z.length) O) := rfl
theorem len_tup {ws : List Dt} : len1 (.tup ws) O Q = Q (.int ws.length) O := rfl
theorem len_scr {ws : List Dt} : len1 (.scr ws) O Q = Q (.int ws.length) O := rfl
theorem len_lst {ws : List Dt} : len1 (.lst ws) O Q = Q (.int ws.length) O := rfl
theorem len_ref {a : Addr} {ws : List Dt} (h : O a = some (OO.lst ws)) : len1 (.ref a) O Q = Q (.int ws.length) O := by
  show (match asQ O (.ref a) with | some l => Q (.int l.length) O | none => False) = _
  rw [asQ_ref h]
theorem f_max2 {i j : Int} : Blt.sem .max2 [.int i, .int j] O Q = Q (.int (if j > i then j else i)) O := rfl
theorem f_min2 {i j : Int} : Blt.sem .min2 [.int i, .int j] O Q = Q (.int (if j < i then j else i)) O := rfl
theorem f_abs {i : Int} : Blt.sem .abs [.int i] O Q = Q (.int (if i < 0 then -i else i)) O := rfl
theorem f_stri {i : Int} : Blt.sem .str [.int i] O Q = (Small i ∧ Q (.str (istr i)) O) := rfl
theorem f_strs {z : Str} : Blt.sem .str [.str z] O Q = Q (.str z) O := rfl
theorem f_ints {z : Str} : Blt.sem .int [.str z] O Q = ∃ n, intText? z = some n ∧ z.length ≤ 640 ∧ Q (.int n) O := rfl
theorem f_repr {i : Int} : Blt.sem .repr [.int i] O Q = (Small i ∧ Q (.str (istr i)) O) := rfl
theorem f_all {x : Dt} : Blt.sem .all [x] O Q = ∃ bs : List Bool, asL O x = some (bs.map Dt.bl) ∧ Q (.bl (bs.all id)) O := rfl
theorem f_sum {x : Dt} : Blt.sem .sum [x] O Q = ∃ ns : List Int, asL O x = some (ns.map Dt.int) ∧ Q (.int ns.sum) O := rfl
theorem f_max1 {x : Dt} : Blt.sem .max1 [x] O Q = ∃ ns : List Int, asQ O x = some (ns.map Dt.int) ∧ 0 < ns.length ∧ ∀ m, m ∈ ns → (∀ y ∈ ns, y ≤ m) → Q (.int m) O := rfl
theorem f_min1 {x : Dt} : Blt.sem .min1 [x] O Q = ∃ ns : List Int, asQ O x = some (ns.map Dt.int) ∧ 0 < ns.length ∧ ∀ m, m ∈ ns → (∀ y ∈ ns, m ≤ y) → Q (.int m) O := rfl
theorem f_list {fz : Bool} {x : Dt} : Blt.sem (.list fz) [x] O Q = onL1 (asQ O x) fun l => newL fz l O Q := by
  show (match asQ O x with | some l => newL fz l O Q | none => False) = _
  cases asQ O x <;> rfl
theorem f_tuple {x : Dt} : Blt.sem .tuple [x] O Q = onL1 (asQ O x) fun l => Q (.tup l) O := by
  show (match asQ O x with | some l => Q (.tup l) O | none => False) = _
  cases asQ O x <;> rfl
theorem f_sorted {fz : Bool} {x : Dt} : Blt.sem (.sorted fz) [x] O Q = ∃ ns : List Int, asQ O x = some (ns.map Dt.int) ∧ ∀ ns' : List Int, ns'.Perm ns → ns'.Pairwise (· ≤ ·) → newL fz (ns'.map Dt.int) O Q := rfl
/-! methods -/
theorem m_append {a : Addr} {l : List Dt} {w : Dt} (h : O a = some (OO.lst l)) : appendM (.ref a) [w] O Q = (l.length < LIM ∧ Q .non (upo O a (.lst (l ++ [w])))) := by
  show (match O a with | some (.lst l) => (l.length < LIM ∧ Q .non (upo O a (.lst (l ++ [w])))) | _ => False) = _
  rw [h]
theorem m_pop {a : Addr} {l : List Dt} {i : Int} (h : O a = some (OO.lst l)) : popM (.ref a) [.int i] O Q = ((0 ≤ i ∧ i < l.length) ∧ onS l[i.toNat]? fun w => Q w (upo O a (.lst (l.eraseIdx i.toNat)))) := by
  show (match O a with | some (.lst l) => ((0 ≤ i ∧ i < l.length) ∧ onS l[i.toNat]? fun w => Q w (upo O a (.lst (l.eraseIdx i.toNat)))) | _ => False) = _
  rw [h]
theorem m_insert {a : Addr} {l : List Dt} {i : Int} {w : Dt} (h : O a = some (OO.lst l)) : insertM (.ref a) [.int i, w] O Q = ((0 ≤ i ∧ i < 2 ^ 63 ∧ l.length < LIM) ∧ Q .non (upo O a (.lst (l.take i.toNat ++ [w] ++ l.drop i.toNat)))) := by
  show (match O a with | some (.lst l) => ((0 ≤ i ∧ i < 2 ^ 63 ∧ l.length < LIM) ∧ Q .non (upo O a (.lst (l.take i.toNat ++ [w] ++ l.drop i.toNat)))) | _ => False) = _
  rw [h]
theorem m_join {a : Str} {w : Dt} : joinM (.str a) [w] O Q = ∃ ys : List Str, asQ O w = some (ys.map Dt.str) ∧ (ys.map (·.length)).sum + ys.length * a.length ≤ LIM ∧ Q (.str (Txt.join a ys)) O := rfl
theorem m_split {fz : Bool} {a b : Str} : splitM fz (.str a) [.str b] O Q = (((b.length == 0) = false ∧ a.length + 2 ≤ LIM) ∧ newL fz ((Txt.split a b).map Dt.str) O Q) := rfl
theorem m_strip {a b : Str} : stripM (.str a) [.str b] O Q = (a.length ≤ LIM ∧ Q (.str (Txt.stripChars a b)) O) := rfl
theorem m_index {x : Dt} {i : Int} : indexM x [.int i] O Q = ∃ ns : List Int, asQ O x = some (ns.map Dt.int) ∧ ∃ j : Nat, ns[j]? = some i ∧ (∀ m < j, ns[m]? ≠ some i) ∧ Q (.int j) O := rfl
theorem set_ref {a : Addr} {l : List Dt} {i : Int} {w : Dt} {k : OW → Prop} (h : O a = some (OO.lst l)) (h0 : 0 ≤ i) (h1 : i < l.length) : setSub (.ref a) (.int i) w O k = k (upo O a (.lst (l.set i.toNat w))) := by
  show (match O a with | some (.lst l) => (match ixN l.length i with | some j => k (upo O a (.lst (l.set j w))) | none => False) | _ => False) = _
  rw [h]
  show (match ixN l.length i with | some j => k (upo O a (.lst (l.set j w))) | none => False) = _
  have e : ixN l.length i = some i.toNat := by
    unfold ixN
    rw [if_pos h0, if_pos h1]
  rw [e]
end
end TF

/-! TF18: the end of a law -/
namespace TF
open PySem PySem.Spec L2 PyProof.Rows PySem.W PySem.Calls

/-- sys.modules stands in the base -/
def M1 (base : Heap) : Prop := ∃ mm, base.Ns sysModules mm
/-- what a law is to do -/
def sp_LAW : SpW := fun ws O Q E => ∃ ns : List Int, ws = [.scr (ns.map Dt.int)] ∧ ns.length ≤ 63 ∧ ∀ O', Q (.bl true) O'
theorem law_callG {P : Program} {w : World} {K : PySem.W.Frag} {mg mb : Str → Option Value} {k : Nat} {fa a : Addr} {fd : FuncData} {x : Str} {s₁ : Shared} {vs : List Value} {ns : List Int}
    (KX : K.In s₁.heap) (hM1 : M1 s₁.heap) (hns : s₁.heap.Ns mainGlobals mg) (hb : s₁.heap.Ns builtinsNs mb) (hbb : ∀ x : Str, x ≠ "__name__" → mb x = bootBuiltins x) (hlim : s₁.heap.NoLimit) (hg : s₁.gens = #[])
    (ha : s₁.heap.get? a = some { cls := .type "list", data := .seq vs.toArray }) (hi : IntsAre vs ns) (hl : ns.length ≤ sizeLine) (hl63 : ns.length ≤ 63) (hr : Room k callerA)
    (F : ∀ base : Heap, K.In base → base.Ns mainGlobals mg → M1 base → FnG P w K mg base k fa fd [x] sp_LAW) (hbind : ∀ (s : Shared) (u : Value), BindsTo s fd ⟨[u], []⟩ [(x, u)]) :
    codeAny (model P w) callerA (.call (.ref fa) ⟨[.ref a], []⟩) (fun r s' => r = .ok (.ret (.bool true)) ∧ OldK s₁.heap s'.heap ∧ s'.os = s₁.os ∧ AllBare s'.gens) s₁ := by
  have rv := vals_ints hi
  have lenV := hi.length
  have core : ∀ H : Hp, Only H → SqS K H a (ns.map V.int) → HOk P w H s₁.heap → (∀ b, H b ≠ none → b = a) → (H a ≠ none → K.lookup a = none) →
      codeAny (model P w) callerA (.call (.ref fa) ⟨[.ref a], []⟩) (fun r s' => r = .ok (.ret (.bool true)) ∧ OldK s₁.heap s'.heap ∧ s'.os = s₁.os ∧ AllBare s'.gens) s₁ := by
    intro H hO hS hok hA hK
    have base_of : ∀ {b : Addr} {o : Obj}, s₁.heap.get? b = some o → H b = none → (hidT s₁.heap H).get? b = some o := fun e n => hidT_get e n
    have noA : ∀ {b : Addr} {o : Obj} {es : Array DictEntry} {ep : Nat}, s₁.heap.get? b = some o → o.data = .dict es ep → H b = none := fun {b o es ep} e d => by
      cases q : H b with
      | none => rfl
      | some u =>
        have e' : b = a := hA b (by rw [q]; simp)
        subst e'
        rw [ha] at e; cases e
        have d' : Data.seq vs.toArray _ = Data.dict es ep := d
        cases d'
    have nsK : ∀ {b : Addr} {m : Str → Option Value}, s₁.heap.Ns b m → (hidT s₁.heap H).Ns b m := fun {b m} ⟨o, es, ep, e, d, r⟩ => ⟨o, es, ep, base_of e (noA e d), d, r⟩
    have hKb : K.In (hidT s₁.heap H) := fun b o e => base_of (KX b o e) (by
      cases q : H b with
      | none => rfl
      | some u =>
        have e' : b = a := hA b (by rw [q]; simp)
        subst e'
        rw [hK (by rw [q]; simp)] at e; cases e)
    have hM : Mod K mg (hidT s₁.heap H) := ⟨hKb, nsK hns, ⟨mb, nsK hb, hbb⟩, let ⟨mc, h1, h2⟩ := hlim; ⟨mc, nsK h1, h2⟩⟩
    have e0 : Env0 P w K mg (hidT s₁.heap H) callerA [] s₁ H := ⟨rfl, hM, fun b o e => of_hidT e, Nat.le_of_eq (hidT_size _ _), trivial, fun b hb => absurd (show b ∈ ([] : List Addr) from hb) (by simp), hok, .of_eq hg⟩
    have hsp : liftSp K mg sp_LAW [.ref a] H (fun v _ => v = .bl true) (fun _ _ _ => False) := by
      refine ⟨fun _ => none, [.scr (ns.map Dt.int)], fun _ => none, fun w _ => w = .bl true, fun _ _ => False, .cons (.scr hS (IsDs.map (f := V.int) (g := Dt.int) (fun i => .int i) ns)) .nil, ⟨fun a o h => (nomatch h), fun a u h => (nomatch h), fun a u h => (nomatch h)⟩, ⟨ns, rfl, hl63, fun _ => rfl⟩, fun v H' ⟨w, O', _, d, _, e⟩ => ?_, fun _ _ _ _ _ _ _ _ z => z⟩
      subst e
      exact d.of_bl
    refine codeAny_mono ((F _ hKb (nsK hns) (let ⟨mm, h1⟩ := hM1; ⟨mm, nsK h1⟩)).run callerA [] s₁ H ⟨[.ref a], []⟩ [.ref a] [.ref a] _ _ hr (fun _ => rfl) e0 (hbind s₁ (.ref a)) (.cons rfl .nil) hsp) fun r s' h => ?_
    cases r with
    | error e => 
      obtain ⟨_, _, _, _, _, _, _, _, _, _, _, _, z⟩ := (show L2N.CX P w [] H s₁ (fun _ _ _ => False) e s' from h)
      exact z.elim
    | ok fl =>
      cases fl with
      | next => exact False.elim h
      | brk => exact False.elim h
      | cont => exact False.elim h
      | ret u =>
        obtain ⟨v, H', os, bare, un, hok', r', q⟩ := h
        have q' : v = .bl true := q
        subst q'
        obtain rfl : u = Value.bool true := r'
        refine ⟨rfl, OldK.of_keep fun b o e => ?_, os, bare⟩
        cases q : H b with
        | none => exact un.keep b o e q (by intro z; exact absurd (show b ∈ ([] : List Addr) from z) (by simp)) (by simp)
        | some u =>
          rcases hO b with z | ⟨ob, xs, z⟩
          · rw [q] at z; cases z
          · have z2 := un.frzs b ob _ z
            obtain ⟨e1, _⟩ := hok b _ z
            obtain ⟨e2, _⟩ := hok' b _ z2
            rw [e] at e1; cases e1
            exact e2
  cases hk : K.lookup a with
  | some o =>
    have e := KX a o hk
    rw [ha] at e
    cases e
    refine core (fun _ => none) (fun _ => .inl rfl) (.inr ⟨_, vs.toArray, _, hk, rfl, rfl, rfl, by rw [List.size_toArray, lenV]; exact hl, by simpa using rv⟩) (fun b u z => by have z' : (none : Option HO) = some u := z; cases z') (fun b z => absurd rfl z) fun z => absurd rfl z
  | none =>
    refine core (fun b => if b = a then some (.frz { cls := .type "list", data := .seq vs.toArray } (.lst (ns.map V.int))) else none) (fun b => ?_) (.inl ⟨{ cls := .type "list", data := .seq vs.toArray }, if_pos rfl⟩) (fun b u z => ?_) (fun b z => ?_) fun _ => hk
    · by_cases hb : b = a
      · exact .inr ⟨_, _, if_pos hb⟩
      · exact .inl (if_neg hb)
    · by_cases hb : b = a
      · have z' := (if_pos hb).symm.trans z
        cases z'
        subst hb
        exact ⟨ha, by rw [List.length_map]; exact hl, vs, _, rv, ha⟩
      · have z' := (if_neg hb).symm.trans z
        cases z'
    · by_cases hb : b = a
      · exact hb
      · exact absurd (if_neg hb) z
theorem walkG {l : PySem.W.OpenLaw} {k : Nat} {q : Program} {loose : List Str} {XP : (Str → Option Value) → Heap → Prop} {YP : World → Heap → Prop} {d : DefRec} {K : Params → PySem.W.Frag} {x : Str}
    (hn : l.most = some 63) (hq : importsNone q = true) (hdf : d.params.defaults = []) (hr : Room k callerA) (hY : ∀ (w : World) (h : Heap), YP w h → (K w.params).In h)
    (F : ∀ (w : World) (mg : Str → Option Value) (fa : Addr) (h : Heap), (K w.params).In h → h.Ns mainGlobals mg → mg d.name = some (.ref fa) →
      ∃ fd : FuncData, (∀ (s : Shared) (u : Value), BindsTo s fd ⟨[u], []⟩ [(x, u)]) ∧ ∀ base : Heap, (K w.params).In base → base.Ns mainGlobals mg → M1 base → FnG l.prog w (K w.params) mg base k fa fd [x] sp_LAW) :
    PySem.W.WalkO q loose XP YP l.row.toRowW d [] (fun f vs => PySem.call f vs) := by
  refine Att.attach_call hn hdf fun w s₀ s₁ mg mb fa o pm cd doc a vs ns G Y ho hd hcd hmg hobj hints hlen hg => ?_
  have KX := hY w _ Y
  obtain ⟨fd, hb, hF⟩ := F w mg fa _ KX G.T.g hmg
  exact law_callG KX (let ⟨mm, h1, _⟩ := (G.T.seer hq).mods; ⟨mm, h1⟩) G.T.g G.T.b G.T.builtins G.T.nolimit hg hobj hints (Nat.le_trans hlen (by decide)) hlen hr hF hb
end TF

/-! TF19: instances of own classes -/
namespace TF
open PySem PySem.Spec L2 RZ PyProof.Rows

def putW (f : Str) (v : Dt) : List (Str × Dt) → List (Str × Dt)
  | [] => [(f, v)]
  | (g, x) :: r => if g = f then (g, v) :: r else (g, x) :: putW f v r
section
variable {K : PySem.W.Frag} {mg : Str → Option Value} {H : Hp} {Fm : Hp} {O : OW}
theorem IsFs.put {f : Str} {v : V} {w : Dt} (d : IsD K mg H v w) : ∀ {vs : List (Str × V)} {fs : List (Str × Dt)}, IsFs K mg H vs fs → IsFs K mg H (putF f v vs) (putW f w fs)
  | _, _, .nil => .cons d .nil
  | _, _, .cons (k := g) h t => by
    show IsFs K mg H (if g = f then (g, v) :: _ else (g, _) :: putF f v _) (if g = f then (g, w) :: _ else (g, _) :: putW f w _)
    by_cases e : g = f
    · rw [if_pos e, if_pos e]; exact .cons d t
    · rw [if_neg e, if_neg e]; exact .cons h (IsFs.put d t)
theorem IsFs.look {f : Str} {w : Dt} : ∀ {vs : List (Str × V)} {fs : List (Str × Dt)}, IsFs K mg H vs fs → fs.lookup f = some w → ∃ v, vs.lookup f = some v ∧ IsD K mg H v w
  | _, _, .nil, e => by cases e
  | _, _, .cons (k := g) (v := v) (w := x) h t, e => by
    rw [List.lookup_cons] at e ⊢
    cases hb : f == g with
    | true => rw [hb] at e; cases e; exact ⟨v, rfl, h⟩
    | false => rw [hb] at e; exact IsFs.look t e
theorem IsFs.none {f : Str} : ∀ {vs : List (Str × V)} {fs : List (Str × Dt)}, IsFs K mg H vs fs → fs.lookup f = none → vs.lookup f = none
  | _, _, .nil, _ => rfl
  | _, _, .cons (k := g) h t, e => by
    rw [List.lookup_cons] at e ⊢
    cases hb : f == g with
    | true => rw [hb] at e; cases e
    | false => rw [hb] at e; exact IsFs.none t e
theorem IsFs.length : ∀ {vs : List (Str × V)} {fs : List (Str × Dt)}, IsFs K mg H vs fs → vs.length = fs.length
  | _, _, .nil => rfl
  | _, _, .cons _ t => congrArg (· + 1) (IsFs.length t)
end
/-- a class of the text: attributes that no class of it has -/
structure ClsW (K : PySem.W.Frag) (mg : Str → Option Value) (cn : Str) (as : List Str) : Prop where
  ex : ∃ C : Addr, mg cn = some (.ref C) ∧ Cls K C ∧ ∀ f ∈ as, NoAttr K C f
/-- its method -/
structure MethW (P : Program) (w : World) (K : PySem.W.Frag) (mg : Str → Option Value) (base : Heap) (j : Nat) (cn m : Str) (sp : SpW) : Prop where
  ex : ∃ (C : Addr) (k : Nat) (f : Addr) (fd : FuncData) (ps : List Str), k ≤ j ∧ FnG P w K mg base k f fd ps sp ∧ mg cn = some (.ref C) ∧ Cls K C ∧ Meth K C m f ∧ Binds K fd ps []
/-- how it is made -/
structure MakeW (P : Program) (w : World) (K : PySem.W.Frag) (mg : Str → Option Value) (base : Heap) (j : Nat) (cn : Str) (sp : SpW) : Prop where
  ex : ∃ (C : Addr) (k : Nat) (f : Addr) (fd : FuncData) (ps : List Str), k + 1 ≤ j ∧ FnG P w K mg base k f fd ps sp ∧ mg cn = some (.ref C) ∧ Mk K C f ∧ Binds K fd ps []
def onI (O : OW) (x : Dt) (cn : Str) (f : Addr → List (Str × Dt) → Prop) : Prop := match x with
  | .ref a => (match O a with
    | some (.ins c fs) => c = cn ∧ f a fs
    | _ => False)
  | _ => False
theorem onI_is {O : OW} {x : Dt} {cn : Str} {f : Addr → List (Str × Dt) → Prop} (h : onI O x cn f) : ∃ a fs, x = .ref a ∧ O a = some (.ins cn fs) ∧ f a fs := by
  cases x with
  | ref a =>
    have h : (match O a with | some (.ins c fs) => c = cn ∧ f a fs | _ => False) := h
    split at h
    · rename_i c fs e
      obtain ⟨ec, h2⟩ := h
      subst ec
      exact ⟨a, fs, rfl, e, h2⟩
    · exact h.elim
  | _ => exact h.elim
theorem onI_ref {O : OW} {a : Addr} {cn : Str} {fs : List (Str × Dt)} {f : Addr → List (Str × Dt) → Prop} (h : O a = some (OO.ins cn fs)) : onI O (.ref a) cn f = f a fs := by
  show (match O a with | some (.ins c fs) => c = cn ∧ f a fs | _ => False) = _
  rw [h]
  exact propext ⟨fun z => z.2, fun z => ⟨rfl, z⟩⟩
/-- e.f -/
def fldW (cn f : Str) (te : TEw) : TEw := fun Ex τ O Q => te Ex τ O fun x O1 => onI O1 x cn fun _ fs => onS (fs.lookup f) fun w => Q w O1
/-- e.f = value -/
def sfldW (cn f : Str) (tv te : TEw) : TSw := fun Ex D τ O => tv Ex τ O fun w O1 => te Ex τ O1 fun x O2 => onI O2 x cn fun a fs => fs.length < 1000 ∧ D.nx τ (upo O2 a (.ins cn (putW f w fs)))
/-- e.m(..) -/
def methW (cn m : Str) (sp : SpW) (te : TEw) (t : TAw) : TEw := fun Ex τ O Q => te Ex τ O fun x O1 => onI O1 x cn fun a fs => fs.lookup m = none ∧ t Ex τ O1 fun ws O2 => sp (.ref a :: ws) O2 Q fun y O' => Ex y τ O'
/-- C(..) -/
def makeW (cn : Str) (sp : SpW) (t : TAw) : TEw := fun Ex τ O Q => t Ex τ O fun ws O1 => ∀ p, O1 p = none → sp (.ref p :: ws) (upo O1 p (.ins cn [])) (fun v O2 => v = .non ∧ Q (.ref p) O2) fun y O' => Ex y τ O'
section
variable {X : Cx} {k : Nat} {e : Expr} {es : List Expr} {pos apos p : Pos} {te tv : TEw} {t : TAw} {f m cn : Str} {sp : SpW}
theorem xfld {as : List Str} (c : ClsW X.K X.mg cn as) (h : WE X e te) (hf : f ∈ as := by decide) (hb : attributeBase e f X.env (eval e X.env) = eval e X.env := by rfl) : WE X (.Attribute e f pos) (fldW cn f te) := fun Fm Ex tk => by
  obtain ⟨C, hC, hc, hn⟩ := c.ex
  refine PE.imp (pe_fld (h Fm Ex tk) hb) fun σ H Q' ⟨τ, O, Q, S, o, q, k⟩ => ⟨τ, O, _, S, o, q, fun v H1 ⟨x, O1, P1, d1, o1, q1⟩ => ?_⟩
  obtain ⟨a, fs, rfl, ea, q1⟩ := onI_is q1
  obtain ⟨w, ew, q1⟩ := onS_is q1
  obtain ⟨C', dx, vs, hC', hH, hfs⟩ := o1.at_ a _ ea
  obtain ⟨u, eu, du⟩ := hfs.look ew
  rw [hC] at hC'
  cases hC'
  exact ⟨a, C, dx, vs, u, d1.of_ref, hH, hc, hn f hf, eu, k _ _ ⟨w, O1, P1, du, o1, q1⟩⟩
theorem LQ.ins {K : PySem.W.Frag} {mg : Str → Option Value} {Fm H : Hp} {O : OW} {a C dx : Addr} {cn : Str} {fs : List (Str × Dt)} {vs : List (Str × V)} {oo : OO} (o : Own K mg Fm O H) (e : O a = some oo) (hC : mg cn = some (.ref C)) (d : IsFs K mg H vs fs) :
    Pers H (upd H a (.ins C dx vs)) ∧ Own K mg Fm (upo O a (.ins cn fs)) (upd H a (.ins C dx vs)) := by
  have P := o.pers_upd (u := .ins C dx vs) e
  exact ⟨P, o.write (o.fown e) P (show OwnAt K mg _ a (.ins cn fs) from ⟨C, dx, vs, hC, upd_same, d.pers P⟩)⟩
theorem sfld {as : List Str} {v : Expr} {pos' : Pos} (c : ClsW X.K X.mg cn as) (hv : WE X v tv) (h : WE X e te) (hf : f ∈ as := by decide) (hs : swapsWith v (some (.Attribute e f pos')) pos.line X.env = pure false := by rfl) : WS X (.Assign [.Attribute e f pos'] v pos) (sfldW cn f tv te) := fun Fm Ex tk => by
  obtain ⟨C, hC, hc, hn⟩ := c.ex
  refine PS.imp (ps_fld (h Fm Ex tk) (hv Fm Ex tk) hs) fun D' σ H ⟨D, τ, O, S, o, q, l⟩ => ⟨τ, O, _, S, o, q, fun u H1 ⟨w, O1, P1, d1, o1, q1⟩ => ⟨τ, O1, _, S.pers P1, o1, q1, fun y H2 ⟨x, O2, P2, d2, o2, q2⟩ => ?_⟩⟩
  obtain ⟨a, fs, rfl, ea, hl, q2⟩ := onI_is q2
  obtain ⟨C', dx, vs, hC', hH, hfs⟩ := o2.at_ a _ ea
  rw [hC] at hC'
  cases hC'
  obtain ⟨P3, o3⟩ := LQ.ins (dx := dx) (C := C) (cn := cn) o2 ea hC (IsFs.put (f := f) (d1.pers P2) hfs)
  refine ⟨a, C, dx, vs, d2.of_ref, hH, hc, hn f hf, by rw [hfs.length]; exact hl, ?_⟩
  exact l.nx _ _ _ _ (((S.pers P1).pers P2).pers P3) o3 q2
theorem xmeth {pl : Sem Bool} (C0 : Cok X k) {j : Nat} {o : Expr} (c : MethW X.prog X.w X.K X.mg X.base j cn m sp) (ho : WE X o te) (ha : WA X (e :: es) t) (hj : j ≤ k := by decide) (hst : starEach (e :: es) X.env = (false, eval e X.env) :: starEach es X.env := by rfl) (hpl : (backTo pos (starEach es X.env)).any (·.1) = false := by rfl)
    (ht : eval (.Call (.Attribute o m apos) (e :: es) [] pos) X.env = (do
      let ov ← eval o X.env
      standAt apos.atName
      let (f, first) ← holding [ov] (getMethod ov m pl)
      callWith pos f first (backTo pos (starEach (e :: es) X.env)) (backToKw pos (keywordEach [] X.env))) := by rfl) : WE X (.Call (.Attribute o m apos) (e :: es) [] pos) (methW cn m sp te t) := fun Fm Ex tk => by
  obtain ⟨C, i, f, fd, ps, hi, G, hC, hc, hm, hb⟩ := c.ex
  refine ⟨fun pins s σ H Q' I ⟨τ, O, Q, S, oo, q, kk⟩ => ?_⟩
  refine PySem.W.methodCall_KW (pl := pl) (thn ((ho Fm Ex tk).run pins s σ H (fun v H1 => ∃ x O1, Pers H H1 ∧ IsD X.K X.mg H1 v x ∧ Own X.K X.mg Fm O1 H1 ∧ onI O1 x cn fun a fs => fs.lookup m = none ∧ t Ex τ O1 fun ws O2 => sp (.ref a :: ws) O2 Q fun y O' => Ex y τ O') I ⟨τ, O, _, S, oo, q, fun v H1 ⟨w, O1, P, d, o1, q1⟩ => ⟨w, O1, P, d, o1, q1⟩⟩) fun u s1 ⟨v, H1, I1, r1, x, O1, P1, d1, o1, q1⟩ => ?_) ht
  obtain ⟨a, fs, rfl, ea, hl, q1⟩ := onI_is q1
  have ev := d1.of_ref
  subst ev
  obtain rfl : u = Value.ref a := r1
  obtain ⟨C', dx, vs, hC', hH, hfs⟩ := o1.at_ a _ ea
  rw [hC] at hC'
  cases hC'
  refine getmeth_ok I1 hH hc hm (hfs.none hl) ?_
  refine PySem.W.callWith_K (first := [.ref a]) (h₀ := X.base) I.ok.mod.kin hm.kp (thn ((ha Fm Ex tk).run pos pins s1 σ H1 (fun vs H2 => ∃ ws O2, Pers H1 H2 ∧ IsDs X.K X.mg H2 vs ws ∧ Own X.K X.mg Fm O2 H2 ∧ sp (.ref a :: ws) O2 Q fun y O' => Ex y τ O') I1 ⟨τ, O1, _, S.pers P1, o1, q1, fun vs ws H2 O2 P d o2 q => ⟨ws, O2, P, d, o2, q⟩⟩) fun us s2 ⟨vs2, H2, I2, r2, ws, O2, P2, d2, o2, q2⟩ => ⟨I2.kIn, ?_⟩) hst hpl
  exact run_G (us := .ref a :: us) (vs := .ref a :: vs2) (ws := .ref a :: ws) G ((C0.hr.mono hj).mono hi) ((C0.hg.mono hj).mono hi) hb tk I2 (.cons rfl r2) ((S.pers P1).pers P2) (.cons (.ref a) d2) o2 q2 fun v H' z => kk v H' (z.trans (P1.trans P2))
theorem xmeth0 {pl : Sem Bool} (C0 : Cok X k) {j : Nat} {o : Expr} (c : MethW X.prog X.w X.K X.mg X.base j cn m sp) (ho : WE X o te) (hj : j ≤ k := by decide)
    (ht : eval (.Call (.Attribute o m apos) [] [] pos) X.env = (do
      let ov ← eval o X.env
      standAt apos.atName
      let (f, first) ← holding [ov] (getMethod ov m pl)
      callWith pos f first (backTo pos (starEach [] X.env)) (backToKw pos (keywordEach [] X.env))) := by rfl) : WE X (.Call (.Attribute o m apos) [] [] pos) (methW cn m sp te nilA) := fun Fm Ex tk => by
  obtain ⟨C, i, f, fd, ps, hi, G, hC, hc, hm, hb⟩ := c.ex
  refine ⟨fun pins s σ H Q' I ⟨τ, O, Q, S, oo, q, kk⟩ => ?_⟩
  refine PySem.W.methodCall_KW (pl := pl) (thn ((ho Fm Ex tk).run pins s σ H (fun v H1 => ∃ x O1, Pers H H1 ∧ IsD X.K X.mg H1 v x ∧ Own X.K X.mg Fm O1 H1 ∧ onI O1 x cn fun a fs => fs.lookup m = none ∧ sp [.ref a] O1 Q fun y O' => Ex y τ O') I ⟨τ, O, _, S, oo, q, fun v H1 ⟨w, O1, P, d, o1, q1⟩ => ⟨w, O1, P, d, o1, q1⟩⟩) fun u s1 ⟨v, H1, I1, r1, x, O1, P1, d1, o1, q1⟩ => ?_) ht
  obtain ⟨a, fs, rfl, ea, hl, q1⟩ := onI_is q1
  have ev := d1.of_ref
  subst ev
  obtain rfl : u = Value.ref a := r1
  obtain ⟨C', dx, vs, hC', hH, hfs⟩ := o1.at_ a _ ea
  rw [hC] at hC'
  cases hC'
  refine getmeth_ok I1 hH hc hm (hfs.none hl) ?_
  exact PySem.W.callWith_K0 (first := [.ref a]) I1.kIn hm.kp (run_G (us := [.ref a]) (vs := [.ref a]) (ws := [.ref a]) G ((C0.hr.mono hj).mono hi) ((C0.hg.mono hj).mono hi) hb tk I1 (.cons rfl .nil) (S.pers P1) (.cons (.ref a) .nil) o1 q1 fun v H' z => kk v H' (z.trans P1))
theorem run_make {j i : Nat} {C f : Addr} {fd : FuncData} {ps : List Str} {pins : List (Addr × Obj)} {σ : L2.St} {H : Hp} {s : Shared} {us : List Value} {vs : List V} {ws : List Dt} {Fm : Hp} {O : OW} {Q : KW} {Q' : VK} {Ex : XW} {τ : SW}
    (M : Mk X.K C f) (G : FnG X.prog X.w X.K X.mg X.base i f fd ps sp) (hC : X.mg cn = some (.ref C)) (hr : Room (i + 1) X.A) (hg : Gd i X.A) (hb : Binds X.K fd ps []) (tk : Takes X (LX X.K X.mg Fm Ex))
    (I : Inv X pins σ H s) (r : Vals vs us) (S : Slots X.K X.mg H σ τ) (d : IsDs X.K X.mg H vs ws) (o : Own X.K X.mg Fm O H) (h : ∀ p, O p = none → sp (.ref p :: ws) (upo O p (.ins cn [])) (fun v O2 => v = .non ∧ Q (.ref p) O2) fun y O' => Ex y τ O') (k' : ∀ v H', LQ X.K X.mg Fm H Q v H' → Q' v H') :
    wpAny (model X.prog X.w) X.A (call (.ref C) us) (EP X pins σ Q') X.xe s := by
  have nx : H (s.heap.objs.size + 1) = none := I.hok.fresh (Nat.le_succ _)
  have nd : H s.heap.objs.size = none := I.hok.fresh (Nat.le_refl _)
  have ne : s.heap.objs.size + 1 ≠ s.heap.objs.size := Nat.succ_ne_self _
  have P1 : Pers H (upd H s.heap.objs.size (.own (s.heap.objs.size + 1))) := Pers.new nd
  have o1 : Own X.K X.mg Fm O (upd H s.heap.objs.size (.own (s.heap.objs.size + 1))) := o.laid nd
  have nx1 : upd H s.heap.objs.size (.own (s.heap.objs.size + 1)) (s.heap.objs.size + 1) = none := by rw [upd_ne ne]; exact nx
  have P2 : Pers (upd H s.heap.objs.size (.own (s.heap.objs.size + 1))) (upd (upd H s.heap.objs.size (.own (s.heap.objs.size + 1))) (s.heap.objs.size + 1) (.ins C s.heap.objs.size [])) := Pers.new nx1
  have o2 : Own X.K X.mg Fm (upo O (s.heap.objs.size + 1) (.ins cn [])) (upd (upd H s.heap.objs.size (.own (s.heap.objs.size + 1))) (s.heap.objs.size + 1) (.ins C s.heap.objs.size [])) := o1.write (o.fnone nx) P2 (show OwnAt X.K X.mg _ _ (.ins cn []) from ⟨C, _, [], hC, upd_same, .nil⟩)
  have hq := h _ (o.none nx)
  have I2 := Inv.made (C := C) I
  have r2 : Vals (V.ref (s.heap.objs.size + 1) :: vs) (Value.ref (s.heap.objs.size + 1) :: us) := .cons rfl r
  have d2 : IsDs X.K X.mg (upd (upd H s.heap.objs.size (.own (s.heap.objs.size + 1))) (s.heap.objs.size + 1) (.ins C s.heap.objs.size [])) (V.ref (s.heap.objs.size + 1) :: vs) (.ref (s.heap.objs.size + 1) :: ws) := .cons (.ref _) ((d.pers P1).pers P2)
  have hl : (Value.ref (s.heap.objs.size + 1) :: us).length = ps.length := by rw [← r2.length, d2.length]; exact G.len _ _ _ _ hq
  refine wpAny_call (make_map (f := f) I.kIn M.makes M.init (beq_iff_eq.mp M.fn) (codeAny_mono (G.run _ X.stack _ _ ⟨Value.ref (s.heap.objs.size + 1) :: us, []⟩ (Value.ref (s.heap.objs.size + 1) :: us) _ (fun v H2 => v = .non ∧ ∃ O2, Pers H H2 ∧ Own X.K X.mg Fm O2 H2 ∧ Q (.ref (s.heap.objs.size + 1)) O2) (fun cls dd H' => LX X.K X.mg Fm Ex cls dd σ H') (hr.make C us [])
    ?hg (I2.env0.make C us []) (by have bb := hb _ (Value.ref (s.heap.objs.size + 1) :: us) I2.kIn (by rw [List.append_nil]; exact hl); rw [List.append_nil] at bb; exact bb) r2 ?hsp) fun r s' hq' => ?_))
  case hg => exact hg
  case hsp =>
    refine ⟨Fm, _, _, fun v O2 => v = .non ∧ Q (.ref (s.heap.objs.size + 1)) O2, _, d2, o2, ?_, fun v H' ⟨w, O', p, dv, o', e, q⟩ => ?_, fun x cls dd H' O' p o' er ee => ⟨x, τ, O', S.pers ((P1.trans P2).trans p), o', er, ee⟩⟩
    · exact hq
    · subst e
      exact ⟨dv.of_non, O', (P1.trans P2).trans p, o', q⟩
  cases r with
  | error e => exact tk e s' (L2N.XE.of_call I2 (fun _ _ _ z => z) hq')
  | ok fl =>
    cases fl with
    | ret u =>
      obtain ⟨v, H', I3, rv, ev, O2, P, o3, q3⟩ := I2.after hq'
      subst ev
      exact ⟨rv, ⟨V.ref (s.heap.objs.size + 1), H', I3, rfl, k' _ _ ⟨.ref _, O2, P, .ref _, o3, q3⟩⟩⟩
    | next => exact False.elim hq'
    | brk => exact False.elim hq'
    | cont => exact False.elim hq'
end
end TF

/-! TF20: dicts, objects made, slices from behind -/
namespace TF
open PySem PySem.Spec L2 RZ PyProof.Rows

/-! ### dicts by data -/
def valD (kvs : List (Key × Dt)) (k : Key) : Option Dt := (kvs.find? fun kv => decide (kv.1 = k)).map (·.2)
def putD (kvs : List (Key × Dt)) (k : Key) (v : Dt) : List (Key × Dt) :=
  if (kvs.any fun kv => decide (kv.1 = k)) = true then kvs.map (fun kv => if kv.1 = k then (kv.1, v) else kv) else kvs ++ [(k, v)]
def keyD : Dt → Option Key
  | .int i => some (.inl i)
  | .str s => some (.inr s)
  | _ => none
section
variable {K : PySem.W.Frag} {mg : Str → Option Value} {H : Hp} {Fm : Hp} {O : OW}
theorem IsKs.length : ∀ {vs : List (Key × V)} {ks : List (Key × Dt)}, IsKs K mg H vs ks → vs.length = ks.length
  | _, _, .nil => rfl
  | _, _, .cons _ t => congrArg (· + 1) (IsKs.length t)
theorem IsKs.any (k : Key) : ∀ {vs : List (Key × V)} {ks : List (Key × Dt)}, IsKs K mg H vs ks → (vs.any fun kv => decide (kv.1 = k)) = ks.any fun kv => decide (kv.1 = k)
  | _, _, .nil => rfl
  | _, _, .cons _ t => by rw [List.any_cons, List.any_cons, IsKs.any k t]
theorem IsKs.repl {k : Key} {v : V} {w : Dt} (d : IsD K mg H v w) : ∀ {vs : List (Key × V)} {ks : List (Key × Dt)}, IsKs K mg H vs ks →
    IsKs K mg H (vs.map fun kv => if kv.1 = k then (kv.1, v) else kv) (ks.map fun kv => if kv.1 = k then (kv.1, w) else kv)
  | _, _, .nil => .nil
  | _, _, .cons (k := j) h t => by
    rw [List.map_cons, List.map_cons]
    by_cases e : j = k
    · rw [if_pos e, if_pos e]; exact .cons d (IsKs.repl d t)
    · rw [if_neg e, if_neg e]; exact .cons h (IsKs.repl d t)
theorem IsKs.append : ∀ {vs vs' : List (Key × V)} {ks ks' : List (Key × Dt)}, IsKs K mg H vs ks → IsKs K mg H vs' ks' → IsKs K mg H (vs ++ vs') (ks ++ ks')
  | _, _, _, _, .nil, s => s
  | _, _, _, _, .cons h t, s => .cons h (IsKs.append t s)
theorem IsKs.put {k : Key} {v : V} {w : Dt} (d : IsD K mg H v w) {vs : List (Key × V)} {ks : List (Key × Dt)} (h : IsKs K mg H vs ks) : IsKs K mg H (putK vs k v) (putD ks k w) := by
  unfold putK putD
  rw [h.any k]
  by_cases e : (ks.any fun kv => decide (kv.1 = k)) = true
  · rw [if_pos e, if_pos e]; exact h.repl d
  · rw [if_neg e, if_neg e]; exact h.append (.cons d .nil)
theorem valD_pos {p : Key × Dt} {r : List (Key × Dt)} {k : Key} (e : p.1 = k) : valD (p :: r) k = some p.2 := by simp [valD, List.find?_cons, e]
theorem valD_neg {p : Key × Dt} {r : List (Key × Dt)} {k : Key} (e : ¬ p.1 = k) : valD (p :: r) k = valD r k := by simp [valD, List.find?_cons, e]
theorem IsKs.val {k : Key} : ∀ {vs : List (Key × V)} {ks : List (Key × Dt)} {w : Dt}, IsKs K mg H vs ks → valD ks k = some w → ∃ v, valV vs k = some v ∧ IsD K mg H v w
  | _, _, _, .nil, e => by cases e
  | _, _, w, .cons (k := j) (v := v) h t, e => by
    by_cases ej : j = k
    · rw [valD_pos (p := (j, _)) ej] at e
      cases e
      exact ⟨v, by simp [valV, List.find?_cons, ej], h⟩
    · rw [valD_neg (p := (j, _)) ej] at e
      obtain ⟨u, h1, h2⟩ := IsKs.val t e
      exact ⟨u, by rw [valV_neg (p := (j, v)) ej]; exact h1, h2⟩
theorem IsKs.none {k : Key} : ∀ {vs : List (Key × V)} {ks : List (Key × Dt)}, IsKs K mg H vs ks → valD ks k = none → valV vs k = none
  | _, _, .nil, _ => rfl
  | _, _, .cons (k := j) (v := v) h t, e => by
    by_cases ej : j = k
    · simp [valD, List.find?_cons, ej] at e
    · rw [valD_neg (p := (j, _)) ej] at e
      rw [valV_neg (p := (j, v)) ej]
      exact IsKs.none t e
theorem asK_rd {v : V} {w : Dt} {ks : List (Key × Dt)} (d : IsD K mg H v w) (o : Own K mg Fm O H) (h : asK O w = some ks) : ∃ a vs, v = .ref a ∧ Rd H a (.dK vs) ∧ IsKs K mg H vs ks := by
  cases d with
  | dct h1 h2 => cases h; exact ⟨_, _, rfl, .inr ⟨_, h1⟩, h2⟩
  | ref a =>
    have h : (match O a with | some (.dct kvs) => some kvs | _ => none) = some ks := h
    split at h
    · rename_i kvs e
      cases h
      obtain ⟨vs, h1, h2⟩ := o.at_ a _ e
      exact ⟨a, vs, rfl, .inl h1, h2⟩
    · cases h
  | _ => cases h
theorem keyD_is {v : V} {w : Dt} {k : Key} (d : IsD K mg H v w) (e : keyD w = some k) : v = kV k := by
  cases d <;> cases e <;> rfl
end
def onK (a : Option (List (Key × Dt))) (b : Option Key) (f : List (Key × Dt) → Key → Prop) : Prop := match a, b with
  | some kvs, some key => f kvs key
  | _, _ => False
theorem onK_some {kvs : List (Key × Dt)} {key : Key} {f : List (Key × Dt) → Key → Prop} : onK (some kvs) (some key) f = f kvs key := rfl
/-- d[k] -/
def dgW (td ti : TEw) : TEw := fun Ex τ O Q => td Ex τ O fun x O1 => ti Ex τ O1 fun k O2 => onK (asK O2 x) (keyD k) fun kvs key => onS (valD kvs key) fun w => Q w O2
theorem two_some {a : Option (List (Key × Dt))} {b : Option Key} {f : List (Key × Dt) → Key → Prop} (h : onK a b f) : ∃ x y, a = some x ∧ b = some y ∧ f x y := by
  match a, b, h with
  | some x, some y, h => exact ⟨x, y, rfl, rfl, h⟩
/-- o[k] = v, o an owned dict -/
def setDct (x k w : Dt) (O : OW) (Q : OW → Prop) : Prop := match x, keyD k with
  | .ref a, some key => (match O a with
    | some (.dct kvs) => kvs.length < LIM ∧ Q (upo O a (.dct (putD kvs key w)))
    | _ => False)
  | _, _ => False
theorem setDct_is {x k w : Dt} {O : OW} {Q : OW → Prop} (h : setDct x k w O Q) : ∃ a key kvs, x = .ref a ∧ keyD k = some key ∧ O a = some (.dct kvs) ∧ kvs.length < LIM ∧ Q (upo O a (.dct (putD kvs key w))) := by
  unfold setDct at h
  cases x with
  | ref a =>
    cases e : keyD k with
    | none => rw [e] at h; exact h.elim
    | some key =>
      rw [e] at h
      have h : (match O a with | some (.dct kvs) => kvs.length < LIM ∧ Q (upo O a (.dct (putD kvs key w))) | _ => False) := h
      split at h
      · rename_i kvs e2
        exact ⟨a, key, kvs, rfl, rfl, e2, h⟩
      · exact h.elim
  | _ => cases keyD k <;> exact h.elim
def dsubW (te to ti : TEw) : TSw := fun Ex D τ O => te Ex τ O fun w O1 => to Ex τ O1 fun x O2 => ti Ex τ O2 fun k O3 => setDct x k w O3 fun O4 => D.nx τ O4
/-- a new dict: frozen, or owned -/
def newD (fz : Bool) (ks : List (Key × Dt)) (O : OW) (Q : KW) : Prop :=
  if fz = true then Q (.dct ks) O else ∀ p, O p = none → Q (.ref p) (upo O p (.dct ks))
/-- {} -/
def dnewW (fz : Bool) : TEw := fun _ _ O Q => newD fz [] O Q
section
variable {X : Cx} {k : Nat} {e o i : Expr} {es : List Expr} {pos p : Pos} {te to ti : TEw} {t : TAw} {sp : SpW} {cn : Str}
theorem xdg (C : Cok X k) (ho : WE X o to) (hi : WE X i ti) (hs : NoSl i := by intro _ _; rfl) : WE X (.Subscript o i pos) (dgW to ti) := fun Fm Ex tk => by
  have hu := C.u
  refine PE.imp (pe_dget (by omega) (ho Fm Ex tk) (hi Fm Ex tk) hs) fun σ H Q' ⟨τ, O, Q, S, oo, h, kk⟩ => ?_
  refine ⟨τ, O, _, S, oo, h, fun v H1 ⟨x, O1, P1, d1, o1, q1⟩ => ⟨τ, O1, _, S.pers P1, o1, q1, fun y H2 ⟨kd, O2, P2, d2, o2, q2⟩ => ?_⟩⟩
  obtain ⟨kvs, key, e1, e2, q3⟩ := two_some q2
  obtain ⟨a, vs, rfl, rd, t1⟩ := asK_rd (d1.pers P2) o2 e1
  obtain ⟨w, ew, q4⟩ := onS_is q3
  obtain ⟨u, eu, du⟩ := t1.val ew
  refine ⟨a, u, rfl, .inl ⟨vs, key, rd, keyD_is d2 e2, eu.symm⟩, kk _ _ ⟨w, O2, P1.trans P2, du, o2, q4⟩⟩
theorem sdsub (C : Cok X k) {p2 : Pos} (he : WE X e te) (ho : WE X o to) (hi : WE X i ti) (ha : ∀ v, assign (.Subscript o i p2) X.env v = (do
      let ov ← holding [v] (eval o X.env)
      let iv ← holding [v, ov] (eval i X.env)
      standAt p2
      holding [v, ov, iv] (setItem ov iv v)
      release [v, ov, iv] []) := by intro _; rfl) (hs : swapsWithSole [.Subscript o i p2] e pos.line X.env = pure false := by rfl) (hw : swappedStores [.Subscript o i p2] e X.env = pure none := by rfl) (h1 : (assignEach [.Subscript o i p2] X.env).map (·.2) = [assign (.Subscript o i p2) X.env] := by rfl) :
    WS X (.Assign [.Subscript o i p2] e pos) (dsubW te to ti) := fun Fm Ex tk =>
  PS.imp (ps_asg (he Fm Ex tk) (pg_sub (ho Fm Ex tk) (hi Fm Ex tk) (set_dict (by have := C.u; omega)) ha) hs hw h1) fun D' σ H ⟨D, τ, O, S, o, q, l⟩ => by
    refine ⟨τ, O, _, S, o, q, fun v H1 ⟨w, O1, P1, d1, o1, q1⟩ => ?_⟩
    refine ⟨τ, O1, _, S.pers P1, o1, q1, fun y H2 ⟨x, O2, P2, d2, o2, q2⟩ => ?_⟩
    refine ⟨τ, O2, _, (S.pers P1).pers P2, o2, q2, fun z H3 ⟨kd, O3, P3, d3, o3, q3⟩ => ?_⟩
    obtain ⟨a, key, kvs, rfl, ek, ea, hl, q4⟩ := setDct_is q3
    obtain ⟨vs, hH, dl⟩ := o3.at_ a _ ea
    have ey := (d2.pers P3).of_ref
    subst ey
    have P4 := o3.pers_upd (u := .dK (putK vs key v)) ea
    refine ⟨a, _, rfl, .inl ⟨vs, key, hH, keyD_is d3 ek, by rw [dl.length, lim_eq]; exact hl, rfl⟩, ?_⟩
    refine l.nx σ _ τ _ ((((S.pers P1).pers P2).pers P3).pers P4) (o3.write (o3.fown ea) P4 (show OwnAt X.K X.mg _ a (.dct _) from ⟨_, upd_same, ?_⟩)) q4
    exact (IsKs.put ((d1.pers P2).pers P3) dl).pers P4
theorem ep_newD {Fm H0 H : Hp} {O : OW} {pins : List (Addr × Obj)} {σ : L2.St} {s : Shared} {fz : Bool} {p : Addr} {vs : List (Key × V)} {ws : List (Key × Dt)} {Q : KW} {Q' : VK} (np : H p = none) (P0 : Pers H0 H) (I : Inv X pins σ (upd H p (.dK vs)) s) (d : IsKs X.K X.mg H vs ws) (o : Own X.K X.mg Fm O H) (q : newD fz ws O Q)
    (k : ∀ v H', LQ X.K X.mg Fm H0 Q v H' → Q' v H') : EP X pins σ Q' (.ref p) s := by
  have P1 : Pers H (upd H p (.dK vs)) := Pers.new np
  unfold newD at q
  cases fz with
  | false =>
    rw [if_neg Bool.false_ne_true] at q
    refine ⟨.ref p, _, I, rfl, k _ _ ⟨.ref p, _, P0.trans P1, .ref p, ?_, q p (o.none np)⟩⟩
    exact o.write (o.fnone np) P1 ⟨vs, upd_same, d.pers P1⟩
  | true =>
    rw [if_pos rfl] at q
    obtain ⟨ob, I2⟩ := I.lock upd_same trivial
    rw [upd_upd] at I2
    have P2 : Pers H (upd H p (.frz ob (.dK vs))) := Pers.new np
    exact ⟨.ref p, _, I2, rfl, k _ _ ⟨.dct ws, O, P0.trans P2, .dct upd_same (d.pers P2), o.laid np, q⟩⟩
theorem xdnew (fz : Bool) : WE X (.Dict [] [] pos) (dnewW fz) := fun Fm Ex tk => by
  refine ⟨fun pins s σ H Q' I ⟨τ, O, Q, S, o, h, k⟩ => ?_⟩
  refine thn (pe_dnewK.run pins s σ H (fun v H' => ∃ p, v = .ref p ∧ H' = upd H p (.dK []) ∧ H p = none) I fun p np => ⟨p, rfl, rfl, np⟩) fun u s1 ⟨v, H', I', r', p, e1, e2, np⟩ => ?_
  subst e1 e2
  cases r'
  exact ep_newD np (Pers.refl H) I' .nil o h k

/-! ### C(..) -/
theorem xmake (C0 : Cok X k) {j : Nat} (c : MakeW X.prog X.w X.K X.mg X.base j cn sp) (ha : WA X (e :: es) t) (hj : j ≤ k := by decide) (gl : Gl X cn := by rfl) (hdb : (cn == ("__debug__" : Str)) = false := by decide)
    (he : starEach (e :: es) X.env = (false, eval e X.env) :: starEach es X.env := by rfl) (hpl : (backTo pos (starEach es X.env)).any (·.1) = false := by rfl) : WE X (.Call (.Name cn p) (e :: es) [] pos) (makeW cn sp t) := fun Fm Ex tk => by
  obtain ⟨C, i, f, fd, ps, hi, G, hC, hm, hb⟩ := c.ex
  refine ⟨fun pins s σ H Q' I ⟨τ, O, Q, S, o, h, kk⟩ => ?_⟩
  refine wpAny_Call_Name_kw (ld_glob I gl hC ?_ hdb)
  refine PySem.W.callWith_K (h₀ := X.base) I.ok.mod.kin hm.kp (thn ((ha Fm Ex tk).run pos pins s σ H (fun vs H1 => ∃ ws O1, Pers H H1 ∧ IsDs X.K X.mg H1 vs ws ∧ Own X.K X.mg Fm O1 H1 ∧ ∀ p, O1 p = none → sp (.ref p :: ws) (upo O1 p (.ins cn [])) (fun v O2 => v = .non ∧ Q (.ref p) O2) fun y O' => Ex y τ O') I ⟨τ, O, _, S, o, h, fun vs ws H1 O1 P d o q => ⟨ws, O1, P, d, o, q⟩⟩) fun us s1 ⟨vs, H1, I1, r, ws, O1, P1, d1, o1, q⟩ => ⟨I1.kIn, ?_⟩) he hpl
  exact run_make (j := 0) hm G hC ((C0.hr.mono hj).mono hi) (C0.hg.mono (Nat.le_trans (Nat.le_of_succ_le hi) hj)) hb tk I1 r (S.pers P1) d1 o1 q fun v H' z => kk v H' (z.trans P1)
theorem xmake0 (C0 : Cok X k) {j : Nat} (c : MakeW X.prog X.w X.K X.mg X.base j cn sp) (hj : j ≤ k := by decide) (gl : Gl X cn := by rfl) (hdb : (cn == ("__debug__" : Str)) = false := by decide) : WE X (.Call (.Name cn p) [] [] pos) (makeW cn sp nilA) := fun Fm Ex tk => by
  obtain ⟨C, i, f, fd, ps, hi, G, hC, hm, hb⟩ := c.ex
  refine ⟨fun pins s σ H Q' I ⟨τ, O, Q, S, o, h, kk⟩ => ?_⟩
  refine wpAny_Call_Name_kw (ld_glob I gl hC ?_ hdb)
  exact PySem.W.callWith_K0 I.kIn hm.kp (run_make (j := 0) (us := []) (vs := []) (ws := []) hm G hC ((C0.hr.mono hj).mono hi) (C0.hg.mono (Nat.le_trans (Nat.le_of_succ_le hi) hj)) hb tk I .nil S .nil o h kk)
end
end TF

/-! TF21: dict comprehensions, slices from behind, divmod, sorted(reverse=True) -/
namespace TF
open PySem PySem.Spec L2 RZ PyProof.Rows

def onK1 (b : Option Key) (f : Key → Prop) : Prop := match b with
  | some key => f key
  | none => False
theorem onK1_some {k : Key} {f : Key → Prop} : onK1 (some k) f = f k := rfl
theorem onK1_is {b : Option Key} {f : Key → Prop} (h : onK1 b f) : ∃ k, b = some k ∧ f k := by
  cases b with
  | some k => exact ⟨k, rfl, h⟩
  | none => exact h.elim
def dcompGo (ok : OW → Prop) (T : Tg) (tt : TTw) (tk tv : TEw) (τ : SW) : List Y → List (Key × Dt) → OW → (List (Key × Dt) → OW → Prop) → Prop
  | [], acc, O, k => ok O ∧ k acc O
  | y :: ys, acc, O, k => ok O ∧ tgtW T y τ fun τ1 => tt botX τ1 O fun b O1 => if b = true then tk botX τ1 O1 fun kd O2 => tv botX τ1 O2 fun w O3 => onK1 (keyD kd) fun key => acc.length < LIM ∧ dcompGo ok T tt tk tv τ ys (putD acc key w) O3 k else dcompGo ok T tt tk tv τ ys acc O1 k
def dcompW (fz : Bool) (ti : TIw) (T : Tg) (tt : TTw) (tk tv : TEw) (own : List Nat) : TEw := fun Ex τ O Q => ti Ex τ O fun I O1 => dcompGo I.ok T tt tk tv (wipeW τ own) I.items [] O1 fun ws O2 => newD fz ws O2 Q
section
variable {X : Cx} {Fm : Hp}
def DcPost (X : Cx) (Fm H : Hp) (R : List (Key × Dt) → OW → Prop) : VK := fun v H' => ∃ D vs ws O2, v = .ref D ∧ H' D = some (.dK vs) ∧ Pers H H' ∧ IsKs X.K X.mg H' vs ws ∧ Own X.K X.mg Fm O2 H' ∧ O2 D = none ∧ Fm D = none ∧ R ws O2
theorem IsKs.pers' {K : PySem.W.Frag} {mg : Str → Option Value} {H H' : Hp} (p : Pers H H') {vs : List (Key × V)} {ks : List (Key × Dt)} (h : IsKs K mg H vs ks) : IsKs K mg H' vs ks := IsKs.pers p h
/-- a dict in the frame grows -/
theorem Own.growD {K : PySem.W.Frag} {mg : Str → Option Value} {F H : Hp} {D : Addr} {vs us : List (Key × V)} {O : OW} (fD : F D = Option.none) (o : Own K mg (upd F D (.dK vs)) O H) : Own K mg (upd F D (.dK us)) O (upd H D (.dK us)) ∧ Pers H (upd H D (.dK us)) := by
  have hD : H D = some (.dK vs) := o.fr D _ upd_same
  have oD : O D = Option.none := o.ap D _ upd_same
  have P : Pers H (upd H D (.dK us)) := Pers.upd (fun _ e => by rw [hD] at e; cases e) (fun _ _ e => by rw [hD] at e; cases e)
  refine ⟨⟨fun a oo e => ?_, fun a u e => ?_, fun a u e => ?_⟩, P⟩
  · have ha : a ≠ D := fun z => by subst z; rw [oD] at e; cases e
    exact (o.at_ a oo e).stay P (upd_ne ha)
  · by_cases ha : a = D
    · subst ha; rw [upd_same] at e ⊢; exact e
    · rw [upd_ne ha] at e ⊢
      exact o.fr a u (by rw [upd_ne ha]; exact e)
  · by_cases ha : a = D
    · subst ha; exact oD
    · rw [upd_ne ha] at e
      exact o.ap a u (by rw [upd_ne ha]; exact e)
theorem wipe_wipe2 {σ : L2.St} {own : List Nat} : wipe (wipe σ own) own = wipe σ own := by
  have : ∀ (vs us : List Nat), (∀ v ∈ us, v ∈ vs) → wipe (wipe σ us) vs = wipe σ vs := by
    intro vs us
    induction us with
    | nil => intro _; rfl
    | cons u us ih =>
      intro h
      show wipe ((wipe σ us).set u none) vs = _
      rw [wipe_set (h u (by simp)), ih fun v hv => h v (by simp [hv])]
  exact this own own fun v hv => hv
theorem tDc_ok {ti : TIw} {T : Tg} {tt : TTw} {tk tv : TEw} {own : List Nat} {Ex : XW} {σ : L2.St} {H : Hp} {τ : SW} {O : OW} {R : List (Key × Dt) → OW → Prop} (hT : ∀ i ∈ T.slots, i ∈ own) (S : Slots X.K X.mg H σ τ) (o : Own X.K X.mg Fm O H)
    (h : ti Ex τ O fun I O1 => dcompGo I.ok T tt tk tv (wipeW τ own) I.items [] O1 R) :
    tDc (LI X.K X.mg Fm (ti Ex)) (gOf X.K T) (fun σ H Q => ∃ F, LT X.K X.mg F (tt botX) σ H Q) (fun σ H Q => ∃ F, LE X.K X.mg F (tk botX) σ H Q) (fun σ H Q => ∃ F, LE X.K X.mg F (tv botX) σ H Q) own σ H (DcPost X Fm H R) := by
  refine ⟨τ, O, _, S, o, h, fun J I H1 O1 P1 o1 sv q D nD => ?_⟩
  have fD : perF Fm H1 D = none := by
    unfold perF
    rw [nD]
    exact o1.fnone nD
  have l1 := fle_perF o1
  refine ⟨fun i m H2 => m = I.items.length - i ∧ ∃ vs ws O2, Own X.K X.mg (upd (perF Fm H1) D (.dK vs)) O2 H2 ∧ IsKs X.K X.mg H2 vs ws ∧ dcompGo I.ok T tt tk tv (wipeW τ own) (I.items.drop i) ws O2 R, ⟨_, rfl, [], [], O1, ?_, .nil, by rw [List.drop_zero]; exact q⟩, ?_⟩
  · have P := Pers.new (o := .dK []) nD
    have o1' := o1.perF
    refine ⟨fun a oo e => ?_, fun a u e => ?_, fun a u e => ?_⟩
    · have ha : a ≠ D := fun z => by subst z; rw [o1.none nD] at e; cases e
      exact (o1.at_ a oo e).stay P (upd_ne ha)
    · by_cases ha : a = D
      · subst ha; rw [upd_same] at e ⊢; exact e
      · rw [upd_ne ha] at e ⊢; exact o1'.fr a u e
    · by_cases ha : a = D
      · subst ha; exact o1.none nD
      · rw [upd_ne ha] at e; exact o1'.ap a u e
  · rintro i m H2 ⟨rfl, vs, ws, O2, o2, d2, q2⟩
    have l2 : Fle (perF Fm H1) (upd (perF Fm H1) D (.dK vs)) := fun a u e => by
      rw [upd_ne (fun z => by subst z; rw [fD] at e; cases e)]; exact e
    have P2 : Pers H1 H2 := pers_perF (o2.fle l2)
    have sv2 := fun ok => sv _ H2 O2 P2 o2 ok i
    have hD : H2 D = some (.dK vs) := o2.fr D _ upd_same
    by_cases hlt : i < I.items.length
    · have e := List.getElem?_eq_getElem hlt
      rw [List.drop_eq_getElem_cons hlt] at q2
      obtain ⟨ok2, q2⟩ := q2
      obtain ⟨go, yl⟩ := (sv2 ok2).1 _ e
      refine .inr ⟨go, fun H3 => ∃ vs ws O2, Own X.K X.mg (upd (perF Fm H1) D (.dK vs)) O2 H3 ∧ IsKs X.K X.mg H3 vs ws ∧ dcompGo I.ok T tt tk tv (wipeW τ own) (I.items.drop (i + 1)) ws O2 R, fun H3 q3 => ⟨_, by omega, rfl, q3⟩, fun x H3 y => ?_⟩
      obtain ⟨P3, o3, d3⟩ := yl x H3 y
      have S3 := (((S.pers P1).pers P2).pers P3).wipe own
      refine tgt_ok own hT d3 S3 q2 fun σ4 τ4 S4 q4 hw => ⟨by rw [hw]; exact wipe_wipe2, ?_⟩
      refine ⟨_, τ4, O2, _, S4, o3, q4, fun b H5 O5 P5 o5 q5 => ?_⟩
      cases b with
      | false => exact ⟨vs, ws, O5, o5, d2.pers' (P3.trans P5), q5⟩
      | true =>
        refine ⟨_, τ4, O5, _, S4.pers P5, o5, q5, fun kv H6 ⟨kd, O6, P6, d6, o6, q6⟩ => ?_⟩
        refine ⟨_, τ4, O6, _, (S4.pers P5).pers P6, o6, q6, fun v H7 ⟨w, O7, P7, d7, o7, q7⟩ => ?_⟩
        obtain ⟨key, ek, z7, q8⟩ := onK1_is q7
        refine ⟨vs, key, keyD_is d6 ek, o7.fr D _ upd_same, ?_, ?_⟩
        · rw [d2.length, lim_eq]; exact z7
        · obtain ⟨o8, P8⟩ := Own.growD (us := putK vs key v) fD o7
          exact ⟨_, _, O7, o8, (IsKs.put d7 (d2.pers' (((P3.trans P5).trans P6).trans P7))).pers' P8, q8⟩
    · have e : I.items.drop i = [] := List.drop_eq_nil_of_le (by omega)
      rw [e] at q2
      obtain ⟨ok2, q2⟩ := q2
      refine .inl ⟨(sv2 ok2).2 (by omega), D, vs, ws, O2, rfl, hD, P1.trans P2, d2, (o2.fle l2).fle l1, o2.ap D _ upd_same, ?_, q2⟩
      exact o1.fnone nD
/-- name = {k: v for ..} -/
theorem ps_setDc {i : Nat} {y : Str} {py : Pos} {kx vx tg iter : Expr} {ifs : List Expr} {scope : Scope} {own : List (Str × Nat)} {pos spos : Pos} {wi : TI} {g : TG} {tt : TT} {tk tv : TE} (hc : X.calm = true) (hN : X.N.Nodup) (hy : X.N[i]? = some y) (hyl : X.env.scope.names.lookup y = some .local)
    (hsw : swapsWith (.DictComp kx vx [⟨tg, iter, ifs, 0⟩] scope pos) (some (.Name y py)) spos.line X.env = pure true) (hi : PI X tg iter wi) (ok : BlkOk X.N X.env.scope scope own)
    (hg : ∀ (s : Shared) (H : Hp) (C : Addr) (cl : List (Str × Addr)) (fp : List Addr), PG (X.blk s H scope (compEnvC scope cl C X.env) fp) tg g) (ht : ∀ (s : Shared) (H : Hp) (C : Addr) (cl : List (Str × Addr)) (fp : List Addr), PTs (X.blk s H scope (compEnvC scope cl C X.env) fp) ifs tt)
    (hk : ∀ (s : Shared) (H : Hp) (C : Addr) (cl : List (Str × Addr)) (fp : List Addr), PE (X.blk s H scope (compEnvC scope cl C X.env) fp) kx tk)
    (he : ∀ (s : Shared) (H : Hp) (C : Addr) (cl : List (Str × Addr)) (fp : List Addr), PE (X.blk s H scope (compEnvC scope cl C X.env) fp) vx tv) (hs : ∀ x, foldedSetIterable iter X.env x = pure x := by intro _; rfl) :
    PS X (.Assign [.Name y py] (.DictComp kx vx [⟨tg, iter, ifs, 0⟩] scope pos) spos) (tAsg (tDc wi g tt tk tv (own.map (·.2))) (gName i)) := by
  refine ⟨fun pins s σ H D I h => ?_⟩
  rw [exec_Assign_Name_used _ _ _ _ hsw]
  refine wpAny_bind (wpAny_standAt (wpAny_bind ?_))
  show wpAny _ X.A (do let _ ← comprehension (.DictComp kx vx [⟨tg, iter, ifs, 0⟩] scope pos) scope X.env (firstIterPos [⟨tg, iter, ifs, 0⟩] pos) newDict false (eval iter X.env) (some (assign (.Name y py) X.env))) _ _ s
  have h : tDc wi g tt tk tv (own.map (·.2)) σ H (fun x H1 => gName i x σ H1 D.nx) := h
  refine wpAny_bind (thn (dc_core (Qf := fun _ s' => SP X pins D .next s') hc hN I hi ok hg ht hk he hs h fun L C s' m H' I' q hn f => ?_) fun _ s' hq => wpAny_pure (wpAny_pure hq))
  show wpAny _ _ (assign (.Name y py) X.env (.ref L)) _ _ _
  refine wpAny_assign_Name (store_ok2 (v := V.ref L) I' hN hy (.inl hyl) rfl (fun s2 I2 ⟨a, sb, ha⟩ => ?_) (.inr hyl))
  obtain ⟨f0, f1, f2, f3, f4, f5⟩ := f
  have haC : C ≠ a := by
    rcases ha with z | z
    · rw [z]; exact f1
    · exact fun e => f4 y a z e.symm
  refine ⟨m, hn.sameBut sb haC, fun h3 sb3 => ?_⟩
  exact ⟨_, H', I2.turned (t' := s2.toks) (fun b o hb e => (sb3.2 b hb).trans e) f0 f1 f3 f4 f5, q⟩
end
section
variable {X : Cx} {k : Nat} {tg iter a b c e : Expr} {ifs : List Expr} {T : Tg} {wi : TIw} {tt : TTw} {tk tv ta te : TEw} {pos p : Pos}
theorem ep_dcPost {Fm : Hp} {pins : List (Addr × Obj)} {σ : L2.St} {s : Shared} {H H' : Hp} {fz : Bool} {Q : KW} {v : V} {u : Value} (I : Inv X pins σ H' s) (r : RelV v u) (p : DcPost X Fm H (fun ws O2 => newD fz ws O2 Q) v H') :
    ∃ H2, Inv X pins σ H2 s ∧ RelV v u ∧ LQ X.K X.mg Fm H Q v H2 := by
  obtain ⟨D, vs, ws, O2, rfl, hD, P, d, o, oD, fD, q⟩ := p
  unfold newD at q
  cases fz with
  | false =>
    rw [if_neg Bool.false_ne_true] at q
    refine ⟨H', I, r, ⟨.ref D, _, P, .ref D, ⟨fun a oo e => ?_, o.fr, fun a w e => ?_⟩, q D oD⟩⟩
    · by_cases ha : a = D
      · subst ha; rw [upo_same] at e; cases e; exact ⟨vs, hD, d⟩
      · rw [upo_ne ha] at e; exact o.at_ a oo e
    · rw [upo_ne (fun z => by subst z; rw [fD] at e; cases e)]; exact o.ap a w e
  | true =>
    rw [if_pos rfl] at q
    obtain ⟨ob, I2⟩ := I.lock hD trivial
    have P2 : Pers H' (upd H' D (.frz ob (.dK vs))) := Pers.upd (fun _ e => by rw [hD] at e; cases e) (fun _ _ e => by rw [hD] at e; cases e)
    refine ⟨_, I2, r, ⟨.dct ws, O2, P.trans P2, .dct upd_same (d.pers P2), ⟨fun a oo e => ?_, fun a w e => ?_, o.ap⟩, q⟩⟩
    · exact (o.at_ a oo e).stay P2 (upd_ne (fun z => by subst z; rw [oD] at e; cases e))
    · rw [upd_ne (fun z => by subst z; rw [fD] at e; cases e)]; exact o.fr a w e
theorem xdc (C : Cok X k) (fz : Bool) {kx vx : Expr} {scope : Scope} (own : List (Str × Nat)) (hi : WI X tg iter wi) (hg : ∀ s H D cl fp, WG (Blk X scope s H D cl fp) tg T) (ht : ∀ s H D cl fp, WTs (Blk X scope s H D cl fp) ifs tt) (hk : ∀ s H D cl fp, WE (Blk X scope s H D cl fp) kx tk) (he : ∀ s H D cl fp, WE (Blk X scope s H D cl fp) vx tv)
    (hT : ∀ i ∈ T.slots, i ∈ own.map (·.2) := by decide) (ok : blkC X.N X.env.scope scope own = true := by first | rfl | kernel_rfl) (hs : ∀ x, foldedSetIterable iter X.env x = pure x := by intro _; rfl) : WE X (.DictComp kx vx [⟨tg, iter, ifs, 0⟩] scope pos) (dcompW fz wi T tt tk tv (own.map (·.2))) := fun Fm Ex tk' => by
  refine ⟨fun pins s σ H Q' I ⟨τ, O, Q, S, o, h, k⟩ => ?_⟩
  refine thn ((pe_dc (g := gOf X.K T) C.calm C.hN (hi Fm Ex tk') (blkOk_by ok) hg (fun s H C cl fp => pts_anyF (ht s H C cl fp)) (fun s H C cl fp => pe_anyF (hk s H C cl fp)) (fun s H C cl fp => pe_anyF (he s H C cl fp)) hs).run pins s σ H _ I (tDc_ok hT S o h)) fun u s1 ⟨v, H1, I1, r1, q1⟩ => ?_
  obtain ⟨H2, I2, r2, q2⟩ := ep_dcPost I1 r1 q1
  exact ⟨v, H2, I2, r2, k _ _ q2⟩
theorem sdc (C : Cok X k) (i : Nat) {y : Str} {py : Pos} (fz : Bool) {kx vx : Expr} {scope : Scope} (own : List (Str × Nat)) (hi : WI X tg iter wi) (hg : ∀ s H D cl fp, WG (Blk X scope s H D cl fp) tg T) (ht : ∀ s H D cl fp, WTs (Blk X scope s H D cl fp) ifs tt) (hk : ∀ s H D cl fp, WE (Blk X scope s H D cl fp) kx tk) (he : ∀ s H D cl fp, WE (Blk X scope s H D cl fp) vx tv)
    (hy : X.N[i]? = some y := by rfl) (hyl : X.env.scope.names.lookup y = some .local := by rfl) (hsw : swapsWith (.DictComp kx vx [⟨tg, iter, ifs, 0⟩] scope p) (some (.Name y py)) pos.line X.env = pure true := by rfl)
    (hT : ∀ i ∈ T.slots, i ∈ own.map (·.2) := by decide) (ok : blkC X.N X.env.scope scope own = true := by first | rfl | kernel_rfl) (hs : ∀ x, foldedSetIterable iter X.env x = pure x := by intro _; rfl) :
    WS X (.Assign [.Name y py] (.DictComp kx vx [⟨tg, iter, ifs, 0⟩] scope p) pos) (asgW (dcompW fz wi T tt tk tv (own.map (·.2))) (.one i)) := fun Fm Ex tk' => by
  refine ⟨fun pins s σ H D' I ⟨D, τ, O, S, o, h, l⟩ => ?_⟩
  have h : wi Ex τ O fun I O1 => dcompGo I.ok T tt tk tv (wipeW τ (own.map (·.2))) I.items [] O1 fun ws O2 => newD fz ws O2 fun w O1 => D.nx (τ.set i (some w)) O1 := h
  refine thn ((ps_setDc (i := i) (g := gOf X.K T) (tt := fun σ H Q => ∃ F, LT X.K X.mg F (tt botX) σ H Q) (tk := fun σ H Q => ∃ F, LE X.K X.mg F (tk botX) σ H Q) (tv := fun σ H Q => ∃ F, LE X.K X.mg F (tv botX) σ H Q) C.calm C.hN hy hyl hsw (hi Fm Ex tk') (blkOk_by ok) hg (fun s H C cl fp => pts_anyF (ht s H C cl fp)) (fun s H C cl fp => pe_anyF (hk s H C cl fp)) (fun s H C cl fp => pe_anyF (he s H C cl fp)) hs).run pins s σ H
    { nx := fun σ' H' => ∃ v, σ' = σ.set i (some v) ∧ DcPost X Fm H (fun ws O2 => newD fz ws O2 fun w O1 => D.nx (τ.set i (some w)) O1) v H', rt := fun _ _ => False } I ?_) fun f s1 q => ?_
  · show tDc _ _ _ _ _ _ σ H _
    have c := tDc_ok (T := T) (tt := tt) (tk := tk) (tv := tv) (own := own.map (·.2)) hT S o h
    obtain ⟨τ', O', R', S', o', h', k'⟩ := c
    refine ⟨τ', O', R', S', o', h', fun J I H1 O1 P1 o1 sv q D2 nD => ?_⟩
    obtain ⟨W, m0, turn⟩ := k' J I H1 O1 P1 o1 sv q D2 nD
    refine ⟨W, m0, fun i m H2 w => ?_⟩
    rcases turn i m H2 w with ⟨st, z⟩ | z
    · exact .inl ⟨st, ⟨_, rfl, z⟩⟩
    · exact .inr z
  · cases f with
    | next =>
      obtain ⟨σ', H', I', v, rfl, D2, vs, ws, O2, rfl, hD, P, d, o2, oD, fD, q⟩ := q
      unfold newD at q
      cases fz with
      | false =>
        rw [if_neg Bool.false_ne_true] at q
        refine ⟨_, H', I', l.nx _ H' _ _ ((S.pers P).set i (.ref D2)) ⟨fun a oo e => ?_, o2.fr, fun a w e => ?_⟩ (q D2 oD)⟩
        · by_cases ha : a = D2
          · subst ha; rw [upo_same] at e; cases e; exact ⟨vs, hD, d⟩
          · rw [upo_ne ha] at e; exact o2.at_ a oo e
        · rw [upo_ne (fun z => by subst z; rw [fD] at e; cases e)]; exact o2.ap a w e
      | true =>
        rw [if_pos rfl] at q
        obtain ⟨ob, I2⟩ := I'.lock hD trivial
        have P2 : Pers H' (upd H' D2 (.frz ob (.dK vs))) := Pers.upd (fun _ e => by rw [hD] at e; cases e) (fun _ _ e => by rw [hD] at e; cases e)
        refine ⟨_, _, I2, l.nx _ _ _ _ ((S.pers (P.trans P2)).set i (.dct upd_same (d.pers P2))) ⟨fun a oo e => ?_, fun a w e => ?_, o2.ap⟩ q⟩
        · exact (o2.at_ a oo e).stay P2 (upd_ne (fun z => by subst z; rw [oD] at e; cases e))
        · rw [upd_ne (fun z => by subst z; rw [fD] at e; cases e)]; exact o2.fr a w e
    | ret v => obtain ⟨_, _, _, _, _, q⟩ := q; exact q.elim
    | brk => obtain ⟨_, _, _, q⟩ := q; exact False.elim q
    | cont => obtain ⟨_, _, _, q⟩ := q; exact False.elim q
end

/-! ### slices from behind -/
theorem sr_back (a b : Nat) : sliceRange ((a : Int) - 1) ((b : Int) - 1) (-1) = ((List.range (a - b)).map (b + ·)).reverse := by
  unfold sliceRange
  have h1 : ¬ ((-1 : Int) > 0) := by decide
  by_cases h : (a : Int) - 1 > (b : Int) - 1
  · have e : ((a : Int) - 1 - ((b : Int) - 1) - -1 - 1) / (- -1) = ((a - b : Nat) : Int) := by
      rw [show (- -1 : Int) = 1 by decide, Int.ediv_one]
      omega
    simp only [h1, if_false, h, if_true, e, Int.toNat_natCast]
    rw [← List.map_reverse, ← PySem.W.krv_range, List.map_map]
    apply List.map_congr_left
    intro k hk
    have := List.mem_range.mp hk
    show _ = b + (a - b - 1 - k)
    omega
  · have e : a - b = 0 := by omega
    simp only [h1, if_false, h, e, List.range_zero, List.map_nil, List.reverse_nil, Int.toNat_zero]
theorem pick_back {α : Type} (xs : List α) (a b : Nat) : ((List.range (a - b)).map (b + ·)).filterMap (xs.toArray[·]?) = (xs.take a).drop b := by
  have h := pick_run xs.toArray b (a - b)
  rw [h]
  rw [List.drop_take]
theorem pick_to0 (items : Array Value) : slicePick items none (some 0) (some (-1)) = (items.toList.drop 1).reverse.toArray := by
  unfold slicePick
  have e : sliceBounds none (some 0) (some (-1)) items.size = ((items.size : Int) - 1, ((min 1 items.size : Nat) : Int) - 1, -1) := by
    simp only [sliceBounds]
    rcases Nat.eq_zero_or_pos items.size with h | h
    · rw [h]; rfl
    · have : min 1 items.size = 1 := by omega
      rw [this]
      simp
      omega
  rw [e]
  show ((sliceRange ((items.size : Int) - 1) (((min 1 items.size : Nat) : Int) - 1) (-1)).filterMap (items[·]?)).toArray = _
  rw [sr_back, List.filterMap_reverse]
  have := pick_back items.toList items.size (min 1 items.size)
  rw [Array.toArray_toList] at this
  rw [this, List.take_of_length_le (by rw [Array.length_toList]; exact Nat.le_refl _)]
  rcases Nat.eq_zero_or_pos items.size with h | h
  · have : items.toList = [] := by rw [← List.length_eq_zero_iff, Array.length_toList]; exact h
    rw [this]; simp
  · have : min 1 items.size = 1 := by omega
    rw [this]
theorem pick_from2 (items : Array Value) : slicePick items (some (-2)) none (some (-1)) = (items.toList.take (items.size - 1)).reverse.toArray := by
  unfold slicePick
  have e : sliceBounds (some (-2)) none (some (-1)) items.size = (((items.size - 1 : Nat) : Int) - 1, ((0 : Nat) : Int) - 1, -1) := by
    simp only [sliceBounds]
    simp
    omega
  rw [e]
  show ((sliceRange (((items.size - 1 : Nat) : Int) - 1) (((0 : Nat) : Int) - 1) (-1)).filterMap (items[·]?)).toArray = _
  rw [sr_back, List.filterMap_reverse]
  have := pick_back items.toList (items.size - 1) 0
  rw [Array.toArray_toList] at this
  rw [this, List.drop_zero]
/-- xs[:0:-1], xs[-2::-1] -/
def cutB {α : Type} (w : Bool) (xs : List α) : List α := if w = true then (xs.drop 1).reverse else (xs.take (xs.length - 1)).reverse
theorem cutB_le {α : Type} (w : Bool) (xs : List α) : (cutB w xs).length ≤ xs.length := by
  unfold cutB
  cases w <;> simp <;> omega
theorem cutB_vals {w : Bool} {xs : List V} {us : List Value} (r : Vals xs us) : Vals (cutB w xs) (cutB w us) := by
  unfold cutB
  cases w with
  | true => exact (r.drop 1).reverse
  | false =>
    have := r.length
    rw [if_neg Bool.false_ne_true, if_neg Bool.false_ne_true, this]
    exact (r.take _).reverse
theorem IsDs.cutB {K : PySem.W.Frag} {mg : Str → Option Value} {H : Hp} {w : Bool} {vs : List V} {ws : List Dt} (d : IsDs K mg H vs ws) : IsDs K mg H (TF.cutB w vs) (TF.cutB w ws) := by
  unfold TF.cutB
  cases w with
  | true => exact (d.drop 1).reverse
  | false =>
    have := d.length
    rw [if_neg Bool.false_ne_true, if_neg Bool.false_ne_true, this]
    exact (d.take _).reverse
def cutLo : Bool → Option Int | true => none | false => some (-2)
def cutHi : Bool → Option Int | true => some 0 | false => none
theorem pick_cut (w : Bool) (items : List Value) : slicePick items.toArray (cutLo w) (cutHi w) (some (-1)) = (cutB w items).toArray := by
  cases w with
  | true => exact pick_to0 _
  | false => exact (pick_from2 _).trans (by show _ = ((items.take (items.length - 1)).reverse).toArray; rw [List.size_toArray])
def backW (fz w : Bool) (ta : TEw) : TEw := fun Ex τ O Q => ta Ex τ O fun x O1 => match asL O1 x with
  | some ws => newL fz (cutB w ws) O1 Q
  | none => False
section
variable {X : Cx} {k : Nat} {a b c e : Expr} {pos p p1 p2 p3 p4 p5 : Pos} {ta te : TEw} {j j2 : Nat}
theorem pe_backL {te : TE} {l h st : Option Expr} (w : Bool) (he : PE X e te) (hl : PO X l fun _ H Q => Q (cutLo w) H) (hh : PO X h fun _ H Q => Q (cutHi w) H) (hst : PO X st fun _ H Q => Q (some (-1)) H) (hp : ∀ v iv, subscripted (.Slice l h st p) false v iv = operate [v, iv] (getItem v iv)) :
    PE X (.Subscript e (.Slice l h st p) pos) (fun σ H Q => te σ H fun x H1 => ∃ a xs, x = .ref a ∧ SqL X.K H1 a xs ∧ ∀ p, H1 p = none → Q (.ref p) (upd H1 p (.lst (cutB w xs)))) := by
  refine ⟨fun pins s σ H Q I hq => ?_⟩
  refine Subscript_ (thn (he.run pins s σ H _ I hq) fun v s1 ⟨x, H1, I1, r1, q1⟩ => ?_)
  obtain ⟨a, xs, ex, hx, q⟩ := q1
  subst ex
  cases r1
  refine wpAny_Slice (thn (hl.run pins s1 σ H1 (fun o H2 => o = cutLo w ∧ H2 = H1) I1 ⟨rfl, rfl⟩) fun vl s2 ⟨l', H2, I2, pl, el, e2⟩ => ?_)
  subst el e2
  refine thn (hh.run pins s2 σ H2 (fun o H3 => o = cutHi w ∧ H3 = H2) I2 ⟨rfl, rfl⟩) fun vu s3 ⟨u, H3, I3, pu, eu, e3⟩ => ?_
  subst eu e3
  refine thn (hst.run pins s3 σ H3 (fun o H4 => o = some (-1) ∧ H4 = H3) I3 ⟨rfl, rfl⟩) fun vs s4 ⟨o, H4, I4, ps, eo, e4⟩ => ?_
  subst eo e4
  have I5 : Inv X pins σ H4 { s4 with heap := s4.heap.push { cls := .type "slice", data := .fields #[vl, vu, vs] } } := I4.kept (t' := s4.toks) fun b ob q => Heap.get?_push_of_some _ q
  obtain ⟨its, r, ht, hz⟩ := I5.list hx
  have hlen := r.length
  refine tail_any (ops := [.ref a, .ref s4.heap.objs.size]) ht.isList.typeIs (PySem.slot_list_getitem.lookup) ?_ (hp _ _)
  refine wpAny_getItem_list_slice ht.isList (Heap.IsSliceOf.new _ vl vu vs) pl pu ps (by decide) ?_ (by rw [List.size_toArray]; omega)
  rw [pick_cut]
  refine ⟨.ref _, _, I5.laid (t' := s4.toks) (o := .lst (cutB w xs)) (fun b ob q => Heap.get?_push_of_some _ q) (Nat.le_refl _) ?_, rfl, q _ (I5.hok.fresh (Nat.le_refl _))⟩
  exact ⟨Nat.le_trans (cutB_le w xs) hz, _, 0, cutB_vals r, Heap.get?_push_size _ rfl⟩
theorem we_back {l h st : Option Expr} (fz w : Bool) (ha : WE X a ta) (hl : PO X l fun _ H Q => Q (cutLo w) H) (hh : PO X h fun _ H Q => Q (cutHi w) H) (hst : PO X st fun _ H Q => Q (some (-1)) H) (hp : ∀ v iv, subscripted (.Slice l h st p) false v iv = operate [v, iv] (getItem v iv)) : WE X (.Subscript a (.Slice l h st p) pos) (backW fz w ta) := fun Fm Ex tk => by
  refine ⟨fun pins s σ H Q' I ⟨τ, O, Q, S, o, h, k⟩ => ?_⟩
  refine thn ((pe_backL w (ha Fm Ex tk) hl hh hst hp).run pins s σ H (fun v H' => ∃ p vs ws H1 O1, v = .ref p ∧ H' = upd H1 p (.lst vs) ∧ H1 p = none ∧ Pers H H1 ∧ IsDs X.K X.mg H1 vs ws ∧ Own X.K X.mg Fm O1 H1 ∧ newL fz ws O1 Q) I ?_) fun u s1 ⟨v, H', I', r', p, vs, ws, H1, O1, e1, e2, np, P1, d1, o1, q1⟩ => ?_
  · refine ⟨τ, O, _, S, o, h, fun v H1 ⟨w', O1, P1, d1, o1, q1⟩ => ?_⟩
    cases e : asL O1 w' with
    | none => simp only [e] at q1
    | some ws =>
      simp only [e] at q1
      obtain ⟨a, vs, rfl, h1, t1⟩ := asL_rd d1 o1 e
      exact ⟨a, vs, rfl, .inl h1, fun p np => ⟨p, _, _, H1, O1, rfl, rfl, np, P1, t1.cutB, o1, q1⟩⟩
  · subst e1 e2
    cases r'
    exact ep_newL np P1 I' d1 o1 q1 k
theorem po_m1 : PO X (some (.UnaryOp .USub (.Constant (.int 1) j p1) p2)) fun _ H Q => Q (some (-1)) H := ⟨fun pins s σ H Q I q => (po_some (pe_un un_neg pe_int)).run pins s σ H Q I ⟨1, rfl, -1, rfl, q⟩⟩
theorem po_m2 : PO X (some (.UnaryOp .USub (.Constant (.int 2) j p1) p2)) fun _ H Q => Q (some (-2)) H := ⟨fun pins s σ H Q I q => (po_some (pe_un un_neg pe_int)).run pins s σ H Q I ⟨2, rfl, -2, rfl, q⟩⟩
theorem po_0 : PO X (some (.Constant (.int 0) j p1)) fun _ H Q => Q (some 0) H := ⟨fun pins s σ H Q I q => (po_some pe_int).run pins s σ H Q I ⟨0, rfl, q⟩⟩
theorem xbk0 (fz : Bool) (ha : WE X a ta) : WE X (.Subscript a (.Slice none (some (.Constant (.int 0) j p1)) (some (.UnaryOp .USub (.Constant (.int 1) j2 p2) p3)) p) pos) (backW fz true ta) := we_back fz true ha po_none po_0 po_m1 (by intro _ _; with_unfolding_all rfl)
theorem xbk2 (fz : Bool) (ha : WE X a ta) : WE X (.Subscript a (.Slice (some (.UnaryOp .USub (.Constant (.int 2) j p1) p4)) none (some (.UnaryOp .USub (.Constant (.int 1) j2 p2) p3)) p) pos) (backW fz false ta) := we_back fz false ha po_m2 po_none po_m1 (by intro _ _; with_unfolding_all rfl)
end
end TF

/-! TF22: sorted(.., reverse=True); equations of the words of TF19..TF21 -/
namespace TF
open PySem PySem.Spec L2 RZ PyProof.Rows

def sortRW (fz : Bool) (ta : TEw) : TEw := fun Ex τ O Q => ta Ex τ O fun w O1 => ∃ ns : List Int, asQ O1 w = some (ns.map Dt.int) ∧ ∀ ns' : List Int, ns'.Perm ns → ns'.Pairwise (· ≥ ·) → newL fz (ns'.map Dt.int) O1 Q
section
variable {X : Cx} {k : Nat} {e : Expr} {pos p p1 p2 : Pos} {te : TEw}
theorem xsortR (fz : Bool) {j : Nat} (he : WE X e te) (hm : X.mg "sorted" = none) (hg : Gl X "sorted" := by rfl) (hs0 : starEach [e] X.env = (false, eval e X.env) :: starEach [] X.env := by rfl)
    (hs : backTo pos (starEach [e] X.env) = (false, eval e X.env) :: backTo pos (starEach [] X.env) := by rfl) (hpl : (backTo pos (starEach [e] X.env)).any (·.1) = false := by rfl)
    (hall : (backToKw pos (keywordEach [⟨some (Str.ofString "reverse"), .Constant (.bool true) j p2, p1⟩] X.env)).all (·.1.isSome) = true := by rfl) (hnone : (backToKw pos (keywordEach [⟨some (Str.ofString "reverse"), .Constant (.bool true) j p2, p1⟩] X.env)).any (·.1.isNone) = false := by rfl) (hks : (backToKw pos (keywordEach [⟨some (Str.ofString "reverse"), .Constant (.bool true) j p2, p1⟩] X.env)).filterMap (·.1) = [Str.ofString "reverse"] := by rfl) :
    WE X (.Call (.Name "sorted" p) [e] [⟨some (Str.ofString "reverse"), .Constant (.bool true) j p2, p1⟩] pos) (sortRW fz te) := fun Fm Ex tk => by
  refine ⟨fun pins s σ H Q' I ⟨τ, O, Q, S, o, h, kk⟩ => ?_⟩
  have hc : CallRK X (.builtin "sorted") [Str.ofString "reverse"] (fun vs zs H Q => ∃ (a : Addr) (ns : List Int), vs = [V.ref a] ∧ zs = [.bl true] ∧ (SqL X.K H a (ns.map V.int) ∨ SqT X.K H a (ns.map V.int)) ∧
      ∀ (ns' : List Int) (p : Addr), ns'.Perm ns → OrdB true ns' → H p = none → Q (.ref p) (upd H p (.lst (ns'.map V.int)))) := fun pins s σ H vs zs us ws Q I r rz ⟨a, ns, e1, e2, hq, q⟩ => by
    rcases hq with hq | hq
    · exact cr_sortedRev pins s σ H vs zs us ws Q I r rz ⟨a, ns, e1, e2, hq, q⟩
    · exact cr_sortedRevQ pins s σ H vs zs us ws Q I r rz ⟨a, ns, e1, e2, hq, q⟩
  have hw : PE X (.Call (.Name "sorted" p) [e] [⟨some (Str.ofString "reverse"), .Constant (.bool true) j p2, p1⟩] pos) (tCKw _ (tCons (LE X.K X.mg Fm (te Ex)) tNil) (tCons (tC (.bl true)) tNil)) := pe_callBK hc hg hm (by decide +kernel) (pa_cons (he Fm Ex tk) pa_nil hs0) (pk_cons pe_bl pk_nil) (by decide) (by decide) hs hpl hall hnone hks
  refine thn (hw.run pins s σ H (fun v H' => ∃ p vs ws H1 O1, v = .ref p ∧ H' = upd H1 p (.lst vs) ∧ H1 p = none ∧ Pers H H1 ∧ IsDs X.K X.mg H1 vs ws ∧ Own X.K X.mg Fm O1 H1 ∧ newL fz ws O1 Q) I ?_) fun u s1 ⟨v, H', I', r', p, vs, ws, H1, O1, e1, e2, np, P1, d1, o1, q1⟩ => ?_
  · refine ⟨τ, O, _, S, o, h, fun v H1 ⟨w', O1, P1, d1, o1, q1⟩ => ?_⟩
    obtain ⟨ns, en, q2⟩ := q1
    obtain ⟨a, xs, rfl, hq, t⟩ := asQ_rd d1 o1 en
    refine ⟨a, ns, rfl, rfl, by rw [← t.ints]; exact hq.imp (fun z => .inl z) (fun z => z.tup), fun ns' p h1 h2 np => ⟨p, _, _, H1, O1, rfl, rfl, np, P1, IsDs.map (f := V.int) (g := Dt.int) (fun i => .int i) ns', o1, q2 ns' h1 h2⟩⟩
  · subst e1 e2
    cases r'
    exact ep_newL np P1 I' d1 o1 q1 kk
end
section
variable {Ex : XW} {D : EndsW} {τ : SW} {O : OW} {Q : KW} {t u : TSw} {ta tb tc te to ti td tk tv : TEw} {tt : TTw} {ar : TAw} {T : Tg} {wi : TIw} {cn f m : Str} {sp : SpW}
theorem e_sortR {fz : Bool} : sortRW fz ta Ex τ O Q = ta Ex τ O fun w O1 => ∃ ns : List Int, asQ O1 w = some (ns.map Dt.int) ∧ ∀ ns' : List Int, ns'.Perm ns → ns'.Pairwise (· ≥ ·) → newL fz (ns'.map Dt.int) O1 Q := rfl
theorem e_dg : dgW td ti Ex τ O Q = td Ex τ O fun x O1 => ti Ex τ O1 fun k O2 => onK (asK O2 x) (keyD k) fun kvs key => onS (valD kvs key) fun w => Q w O2 := rfl
theorem e_dsub : dsubW te to ti Ex D τ O = te Ex τ O fun w O1 => to Ex τ O1 fun x O2 => ti Ex τ O2 fun k O3 => setDct x k w O3 fun O4 => D.nx τ O4 := rfl
theorem e_dnew {fz : Bool} : dnewW fz Ex τ O Q = newD fz [] O Q := rfl
theorem e_dcomp {fz : Bool} {own : List Nat} : dcompW fz wi T tt tk tv own Ex τ O Q = wi Ex τ O fun I O1 => dcompGo I.ok T tt tk tv (wipeW τ own) I.items [] O1 fun ws O2 => newD fz ws O2 Q := rfl
theorem e_back {fz w : Bool} : backW fz w ta Ex τ O Q = ta Ex τ O fun x O1 => onL1 (asL O1 x) fun ws => newL fz (cutB w ws) O1 Q := by
  unfold backW
  congr 1
theorem e_fld : fldW cn f te Ex τ O Q = te Ex τ O fun x O1 => onI O1 x cn fun _ fs => onS (fs.lookup f) fun w => Q w O1 := rfl
theorem e_sfld : sfldW cn f tv te Ex D τ O = tv Ex τ O fun w O1 => te Ex τ O1 fun x O2 => onI O2 x cn fun a fs => fs.length < 1000 ∧ D.nx τ (upo O2 a (.ins cn (putW f w fs))) := rfl
theorem e_meth : methW cn m sp te ar Ex τ O Q = te Ex τ O fun x O1 => onI O1 x cn fun a fs => fs.lookup m = none ∧ ar Ex τ O1 fun ws O2 => sp (.ref a :: ws) O2 Q fun y O' => Ex y τ O' := rfl
theorem e_make : makeW cn sp ar Ex τ O Q = ar Ex τ O fun ws O1 => ∀ p, O1 p = none → sp (.ref p :: ws) (upo O1 p (.ins cn [])) (fun v O2 => v = .non ∧ Q (.ref p) O2) fun y O' => Ex y τ O' := rfl
theorem key_int {i : Int} : keyD (.int i) = some (.inl i) := rfl
theorem key_str {s : Str} : keyD (.str s) = some (.inr s) := rfl
theorem asK_dct {kvs : List (Key × Dt)} : asK O (.dct kvs) = some kvs := rfl
theorem asK_ref {a : Addr} {kvs : List (Key × Dt)} (h : O a = some (OO.dct kvs)) : asK O (.ref a) = some kvs := by
  show (match O a with | some (.dct kvs) => some kvs | _ => none) = _
  rw [h]
theorem setDct_ref {a : Addr} {k w : Dt} {key : Key} {kvs : List (Key × Dt)} {R : OW → Prop} (h : O a = some (OO.dct kvs)) (ek : keyD k = some key) : setDct (.ref a) k w O R = (kvs.length < LIM ∧ R (upo O a (.dct (putD kvs key w)))) := by
  unfold setDct
  rw [ek]
  show (match O a with | some (.dct kvs) => kvs.length < LIM ∧ R (upo O a (.dct (putD kvs key w))) | _ => False) = _
  rw [h]
theorem newD_t {ks : List (Key × Dt)} : newD true ks O Q = Q (.dct ks) O := rfl
theorem newD_f {ks : List (Key × Dt)} : newD false ks O Q = ∀ p, O p = none → Q (.ref p) (upo O p (.dct ks)) := rfl
theorem cutB_t {α : Type} {xs : List α} : cutB true xs = (xs.drop 1).reverse := rfl
theorem cutB_f {α : Type} {xs : List α} : cutB false xs = (xs.take (xs.length - 1)).reverse := rfl
theorem f_divmod {i j : Int} : Blt.sem .divmod [.int i, .int j] O Q = ((0 < j ∧ j < 1073741824) ∧ Q (.tup [.int (i / j), .int (i % j)]) O) := rfl
end
end TF

/-! TF23: methods of own classes -/
namespace TF
open PySem PySem.Spec L2 RZ PyProof.Rows

/-- a method of the text -/
structure MethAt (K : PySem.W.Frag) (mg : Str → Option Value) (cn m q : Str) (st : Stmt) : Prop where
  ex : ∃ (C f : Addr) (fd : FuncData), Fun K m q st f fd ∧ mg cn = some (.ref C) ∧ Cls K C ∧ Meth K C m f
structure MkAt (K : PySem.W.Frag) (mg : Str → Option Value) (cn q : Str) (st : Stmt) : Prop where
  ex : ∃ (C f : Addr) (fd : FuncData), Fun K "__init__" q st f fd ∧ mg cn = some (.ref C) ∧ Mk K C f
section
variable {P : Program} {w : World} {K : PySem.W.Frag} {mg : Str → Option Value} {base : Heap}
theorem fnG_ofM {k : Nat} {x q : Str} {st : Stmt} {N ps : List Str} {t : TSw} {f : Addr} {fd : FuncData} (F : Fun K x q st f fd) (S : FnScope N ps (defScope st))
    (hbody : ∀ (f : Addr) (cdv : Value) (A : Around) (outer : List Env) (s : Shared) (H : Hp) (E : XK), Cok (cxOf (L2N.CX P w) P w K mg base N q (defScope st) f cdv A outer s H E) k → PassesOwn (model P w) (cxOf (L2N.CX P w) P w K mg base N q (defScope st) f cdv A outer s H E).A (cxOf (L2N.CX P w) P w K mg base N q (defScope st) f cdv A outer s H E).env (cxOf (L2N.CX P w) P w K mg base N q (defScope st) f cdv A outer s H E).xe →
      WB (cxOf (L2N.CX P w) P w K mg base N q (defScope st) f cdv A outer s H E) (defBody st) t) : FnG P w K mg base (k + 1) f fd ps (semFn ps.length N.length t) := by
  obtain ⟨oc, od, kV, doc, pm, an, cdv, ct, osl, rfl, lk, hcd⟩ := F.ex
  exact fn_ofG lk hcd S fun A outer s H E hr hg => hbody f cdv A outer s H E ⟨hr, hg, rfl, S.nd⟩ (passes_of rfl)
theorem methW_of {k : Nat} {cn x q : Str} {st : Stmt} {N ps : List Str} {t : TSw} (F : MethAt K mg cn x q st) (S : FnScope N ps (defScope st))
    (hb : ∀ (kV doc pm : Value) (an : Option Addr) (cdv ct : Value) (us : List Value), us.length = ps.length → bindArgs (PySem.W.fnOf x q (defArgs st) (defBody st) (defScope st) .none kV doc pm an cdv ct) ⟨us, []⟩ = pure (ps.zip us))
    (hbody : ∀ (f : Addr) (cdv : Value) (A : Around) (outer : List Env) (s : Shared) (H : Hp) (E : XK), Cok (cxOf (L2N.CX P w) P w K mg base N q (defScope st) f cdv A outer s H E) k → PassesOwn (model P w) (cxOf (L2N.CX P w) P w K mg base N q (defScope st) f cdv A outer s H E).A (cxOf (L2N.CX P w) P w K mg base N q (defScope st) f cdv A outer s H E).env (cxOf (L2N.CX P w) P w K mg base N q (defScope st) f cdv A outer s H E).xe →
      WB (cxOf (L2N.CX P w) P w K mg base N q (defScope st) f cdv A outer s H E) (defBody st) t) : MethW P w K mg base (k + 1) cn x (semFn ps.length N.length t) := by
  obtain ⟨C, f, fd, F, hm, hc, M⟩ := F.ex
  exact ⟨C, k + 1, f, fd, ps, Nat.le_refl _, fnG_ofM F S hbody, hm, hc, M, F.binds hb⟩
theorem makeW_of {k : Nat} {cn q : Str} {st : Stmt} {N ps : List Str} {t : TSw} (F : MkAt K mg cn q st) (S : FnScope N ps (defScope st))
    (hb : ∀ (kV doc pm : Value) (an : Option Addr) (cdv ct : Value) (us : List Value), us.length = ps.length → bindArgs (PySem.W.fnOf "__init__" q (defArgs st) (defBody st) (defScope st) .none kV doc pm an cdv ct) ⟨us, []⟩ = pure (ps.zip us))
    (hbody : ∀ (f : Addr) (cdv : Value) (A : Around) (outer : List Env) (s : Shared) (H : Hp) (E : XK), Cok (cxOf (L2N.CX P w) P w K mg base N q (defScope st) f cdv A outer s H E) k → PassesOwn (model P w) (cxOf (L2N.CX P w) P w K mg base N q (defScope st) f cdv A outer s H E).A (cxOf (L2N.CX P w) P w K mg base N q (defScope st) f cdv A outer s H E).env (cxOf (L2N.CX P w) P w K mg base N q (defScope st) f cdv A outer s H E).xe →
      WB (cxOf (L2N.CX P w) P w K mg base N q (defScope st) f cdv A outer s H E) (defBody st) t) : MakeW P w K mg base (k + 2) cn (semFn ps.length N.length t) := by
  obtain ⟨C, f, fd, F, hm, M⟩ := F.ex
  exact ⟨C, k + 1, f, fd, ps, Nat.le_refl _, fnG_ofM F S hbody, hm, M, F.binds hb⟩
theorem FnG.imp' {k : Nat} {f : Addr} {fd : FuncData} {ps : List Str} {sp sp' : SpW} (G : FnG P w K mg base k f fd ps sp) (h : ∀ ws O Q E, sp' ws O Q E → sp ws O Q E) : FnG P w K mg base k f fd ps sp' :=
  ⟨fun ws O Q E q => G.len ws O Q E (h _ _ _ _ q), fun A outer s H args us vs Q E hr hg e0 b r ⟨Fm, ws, O, Qw, Ew, d, o, q, k1, k2⟩ => G.run A outer s H args us vs Q E hr hg e0 b r ⟨Fm, ws, O, Qw, Ew, d, o, h _ _ _ _ q, k1, k2⟩⟩
theorem MethW.imp {j : Nat} {cn m : Str} {sp sp' : SpW} (c : MethW P w K mg base j cn m sp) (h : ∀ ws O Q E, sp' ws O Q E → sp ws O Q E) : MethW P w K mg base j cn m sp' := by
  obtain ⟨C, k, f, fd, ps, hk, G, r⟩ := c.ex
  exact ⟨C, k, f, fd, ps, hk, G.imp' h, r⟩
theorem MakeW.imp {j : Nat} {cn : Str} {sp sp' : SpW} (c : MakeW P w K mg base j cn sp) (h : ∀ ws O Q E, sp' ws O Q E → sp ws O Q E) : MakeW P w K mg base j cn sp' := by
  obtain ⟨C, k, f, fd, ps, hk, G, r⟩ := c.ex
  exact ⟨C, k, f, fd, ps, hk, G.imp' h, r⟩
end
end TF

set_option maxHeartbeats 4000000
/-! TF24: sorted of a list of tuples of ints, any length -/
namespace TF
open PySem PySem.Spec L2 PyProof.Rows SrtO Srt

def lxB : List Int → List Int → Bool
  | [], [] => false
  | [], _ :: _ => true
  | _ :: _, [] => false
  | x :: xs, y :: ys => if x = y then lxB xs ys else decide (x < y)
theorem lxB_asym : ∀ {a b : List Int}, lxB a b = true → lxB b a = false
  | [], [], h => by cases h
  | [], _ :: _, _ => rfl
  | _ :: _, [], h => by cases h
  | x :: xs, y :: ys, h => by
    unfold lxB at h ⊢
    by_cases e : x = y
    · subst e
      rw [if_pos rfl] at h ⊢
      exact lxB_asym h
    · rw [if_neg e] at h
      rw [if_neg (Ne.symm e)]
      have := of_decide_eq_true h
      exact decide_eq_false (by omega)
theorem lxB_tr : ∀ {a b c : List Int}, lxB a b = false → lxB b c = false → lxB a c = false
  | [], [], [], _, _ => rfl
  | [], [], _ :: _, _, h => by cases h
  | [], _ :: _, _, h, _ => by cases h
  | _ :: _, _, [], _, _ => by simp [lxB]
  | _ :: _, [], _ :: _, _, h => by cases h
  | x :: xs, y :: ys, z :: zs, h1, h2 => by
    unfold lxB at h1 h2 ⊢
    by_cases e : x = y
    · subst e
      rw [if_pos rfl] at h1
      by_cases e2 : x = z
      · subst e2
        rw [if_pos rfl] at h2 ⊢
        exact lxB_tr h1 h2
      · rw [if_neg e2] at h2 ⊢
        exact h2
    · rw [if_neg e] at h1
      have h1 := of_decide_eq_false h1
      by_cases e2 : y = z
      · subst e2
        rw [if_neg e]
        exact decide_eq_false (by omega)
      · rw [if_neg e2] at h2
        have h2 := of_decide_eq_false h2
        rw [if_neg (by omega)]
        exact decide_eq_false (by omega)
theorem lxB_tot : ∀ {a b : List Int}, lxB a b = false → lxB b a = false → a = b
  | [], [], _, _ => rfl
  | [], _ :: _, h, _ => by cases h
  | _ :: _, [], _, h => by cases h
  | x :: xs, y :: ys, h1, h2 => by
    unfold lxB at h1 h2
    by_cases e : x = y
    · subst e
      rw [if_pos rfl] at h1 h2
      rw [lxB_tot h1 h2]
    · rw [if_neg e] at h1
      rw [if_neg (Ne.symm e)] at h2
      have h1 := of_decide_eq_false h1
      have h2 := of_decide_eq_false h2
      omega
/-- sorted rows of rows -/
def Lxs (l : List (List Int)) : Prop := l.Pairwise fun a b => lxB b a = false
theorem lxs_uniq : ∀ {a b : List (List Int)}, a.Perm b → Lxs a → Lxs b → a = b
  | [], b, p, _, _ => p.symm.eq_nil.symm
  | x :: a, [], p, _, _ => by cases p.eq_nil
  | x :: a, y :: b, p, ha, hb => by
    have hx := List.pairwise_cons.mp ha
    have hy := List.pairwise_cons.mp hb
    have e : x = y := by
      have h1 : x ∈ y :: b := p.mem_iff.mp (by simp)
      have h2 : y ∈ x :: a := p.mem_iff.mpr (by simp)
      rcases List.mem_cons.mp h1 with h1 | h1
      · exact h1
      · rcases List.mem_cons.mp h2 with h2 | h2
        · exact h2.symm
        · exact lxB_tot (hy.1 x h1) (hx.1 y h2) |> fun z => z
    subst e
    rw [lxs_uniq (p.cons_inv) hx.2 hy.2]
/-- a tuple of ints -/
def IsTI (h : Heap) (v : Value) (ns : List Int) : Prop := ∃ a o its n, v = .ref a ∧ h.get? a = some o ∧ o.cls = .type "tuple" ∧ o.data = .seq its n ∧ IntsAre its.toList ns
theorem IsTI.keeps {h h' : Heap} {v : Value} {ns : List Int} (p : IsTI h v ns) (k : ∀ b o, h.get? b = some o → o.cls = .type "tuple" → h'.get? b = some o) : IsTI h' v ns := by
  obtain ⟨a, o, its, n, e, ho, hc, hd, hi⟩ := p
  exact ⟨a, o, its, n, e, k _ _ ho hc, hc, hd, hi⟩
section
variable {prog : Program} {w : World} {A : Around} {E : Value → Shared → Prop} {s : Shared}
theorem lex_go : ∀ {xs ys : List Value} {ns ms : List Int} (i : Nat), IntsAre xs ns → IntsAre ys ms →
    PySem.W.KatLex prog w A true (decide (xs.length < ys.length)) (fun r s' => s' = s ∧ r = lxB ns ms) (xs.zip ys) i s := by
  intro xs ys ns ms i hx hy
  induction hx generalizing ys ms i with
  | nil =>
    cases hy with
    | nil => exact PySem.W.kat_nil ⟨rfl, rfl⟩
    | cons q u hy => exact PySem.W.kat_nil ⟨rfl, by simp [lxB]⟩
  | @cons x t xs ns hx ih =>
    cases hy with
    | nil => exact PySem.W.kat_nil ⟨rfl, by simp [lxB]⟩
    | @cons y u ys ms hy' =>
      have ih' := ih (i + 1) hy'
      have ef : decide ((Value.int x t :: xs).length < (Value.int y u :: ys).length) = decide (xs.length < ys.length) := by
        rw [decide_eq_decide]; simp
      rw [ef]
      show PySem.W.KatLex prog w A true _ _ ((Value.int x t, Value.int y u) :: xs.zip ys) i s
      refine PySem.W.kat_cons (SeqAt.EqAt.int_int x t y u prog w _ _ ?_)
      refine PySem.W.kat_go (fun e1 => ?_) (fun e1 => ?_)
      · have ex : x = y := by simpa using e1
        have el : lxB (x :: ns) (y :: ms) = lxB ns ms := if_pos ex
        refine PySem.W.kat_yes ?_
        rw [el]
        exact ih'
      · have ex : ¬ x = y := by simpa using e1
        have el : lxB (x :: ns) (y :: ms) = decide (x < y) := if_neg ex
        refine PySem.W.kat_no ?_
        rw [el]
        exact (show wpAny (model prog w) A (oneLt' (true && i == 0) (.int x t) (.int y u)) (fun r s' => s' = s ∧ r = decide (x < y)) (fun _ _ => False) s from by
          cases (true && i == 0) with
          | true => exact oneLt_int ⟨rfl, rfl⟩
          | false => exact PySem.W.kat_one _ _ (PyProof.Rows.lt_int (Q := PySem.W.BoolBack _) ⟨rfl, rfl⟩))
theorem tup_cmp {vs : List Value} {k : Value → List Int} (hp : ∀ v ∈ vs, IsTI s.heap v (k v)) : Cmp prog w A s (tuples' true) (fun p => p.1 ∈ vs) (lt2 fun v u => lxB (k v) (k u)) := by
  intro p q hm hm'
  have h1 := hp _ hm
  have h2 := hp _ hm'
  show wpAny (model prog w) A (keyLt' (tuples' true) p.1 q.1) (fun r s' => s' = s ∧ r = lxB (k p.1) (k q.1)) (fun _ _ => False) s
  obtain ⟨a, o, its, n, e, ho, hc, hd, hi⟩ := h1
  obtain ⟨a', o', its', n', e', ho', hc', hd', hi'⟩ := h2
  generalize k p.1 = ns at hi ⊢
  generalize k q.1 = ms at hi' ⊢
  rw [e, e']
  refine PySem.W.kat_lt ho hd ho' hd' ?_
  have := lex_go (prog := prog) (w := w) (A := A) (s := s) 0 hi hi'
  rw [Array.length_toList, Array.length_toList] at this
  exact this
theorem swo_tup (k : Value → List Int) : Swo fun v u => lxB (k v) (k u) := ⟨fun _ _ h => lxB_asym h, fun _ _ _ h1 h2 => lxB_tr h2 h1⟩
theorem firsts_tup {h : Heap} {k : Value → List Int} : ∀ {vs : List Value}, (∀ v ∈ vs, IsTI h v (k v) ∧ k v ≠ []) → ∃ fs, PySem.W.KatTups h vs fs ∧ fs.length = vs.length ∧ ∀ f ∈ fs, ∃ x t, f = Value.int x t
  | [], _ => ⟨[], PySem.W.KatTups.nil, rfl, fun _ h => by cases h⟩
  | v :: vs, hp => by
    obtain ⟨fs, h1, h2, h3⟩ := firsts_tup fun v hv => hp v (List.mem_cons_of_mem _ hv)
    obtain ⟨⟨a, o, its, n, rfl, ho, hc, hd, hi⟩, hne⟩ := hp v (by simp)
    generalize k (.ref a) = ns at hi hne
    cases ns with
    | nil => exact absurd rfl hne
    | cons x ns =>
      have : ∃ t rest, its.toList = Value.int x t :: rest := by
        generalize its.toList = l at hi
        cases hi with
        | cons _ => exact ⟨_, _, rfl⟩
      obtain ⟨t, rest, e⟩ := this
      have hf : its[0]? = some (Value.int x t) := by rw [← Array.getElem?_toList, e]; rfl
      refine ⟨Value.int x t :: fs, PySem.W.KatTups.cons ho hc hd hf h1, by simp [h2], fun f hf => ?_⟩
      rcases List.mem_cons.mp hf with rfl | hf
      · exact ⟨x, t, rfl⟩
      · exact h3 f hf
theorem tups_sortableO {a : Addr} {vs : List Value} {k : Value → List Int} (h0 : 0 < vs.length) (hp : ∀ v ∈ vs, IsTI s.heap v (k v) ∧ k v ≠ []) (ha : ∀ o, s.heap.get? a = some o → o.cls ≠ .type "tuple") : SortableO prog w A s a vs fun v u => lxB (k v) (k u) := by
  intro h' keep
  have hp' : ∀ v ∈ vs, IsTI h' v (k v) ∧ k v ≠ [] := fun v hm => ⟨(hp v hm).1.keeps fun b o e c => keep b o (fun z => by subst z; exact ha o e c) e, (hp v hm).2⟩
  obtain ⟨fs, h1, h2, h3⟩ := firsts_tup hp'
  refine ⟨tuples' true, fun Q E hq => ?_, tup_cmp fun v hm => (hp' v hm).1⟩
  refine PySem.W.kat_kind (T := .type "int") h1 (by omega) (fun f hm => ?_) (by rfl) ?_
  · obtain ⟨x, t, rfl⟩ := h3 f hm
    exact PySem.W.Looks.now
  · have e : (Value.type "int" != Value.type "tuple") = true := by first | decide +kernel | rfl | decide
    rw [e]
    exact hq
theorem sorted_tupsO {l : Addr} {vs : List Value} {k : Value → List Int} {Q : Value → Shared → Prop} (hl : s.heap.IsList l vs.toArray) (hz : vs.length ≤ sizeLine) (hp : ∀ v ∈ vs, IsTI s.heap v (k v) ∧ k v ≠ [])
    (h : ∀ (h' : Heap) (d : Addr) (out : List Value), Srtd (fun v u => lxB (k v) (k u)) out → Stb (fun v u => lxB (k v) (k u)) out vs → (∀ b o, s.heap.get? b = some o → h'.get? b = some o) → s.heap.objs.size ≤ d → (∃ n, h'.get? d = some (seqObj "list" out.toArray n)) → Q (.ref d) { s with heap := h' }) :
    wpAny (model prog w) A (call (.builtin "sorted") [.ref l]) Q E s := by
  refine sorted_ord (swo_tup k) hl hz (fun h2 h₁ a ha kk => ?_) fun out hs hb => ?_
  · refine tups_sortableO (s := { s with heap := h₁ }) (by omega) (fun v hm => ⟨(hp v hm).1.keeps fun b o e _ => (kk b o e).2, (hp v hm).2⟩) fun o e => ?_
    have e' : some o = some (seqObj "list" vs.toArray 0) := e.symm.trans ha
    cases e'
    intro c
    exact absurd (Value.type.inj c) (by decide)
  · exact h _ _ out hs hb (fun b o e => sortedAll_old e) (Nat.le_succ _) (sortedAll_at s.heap vs out.toArray)
end
abbrev tI (ns : List Int) : Dt := .tup (ns.map Dt.int)
def sortT1 (fz : Bool) (w : Dt) (O : OW) (Q : KW) : Prop := ∃ nss : List (List Int), asL O w = some (nss.map tI) ∧ (∀ ns ∈ nss, ns ≠ []) ∧ ∀ out : List (List Int), out.Perm nss → Lxs out → newL fz (out.map tI) O Q
def sortTW (fz : Bool) : RCW := fun ws O Q => match ws with
  | [w] => sortT1 fz w O Q
  | _ => False
section
variable {X : Cx}
theorem tups_in {pins : List (Addr × Obj)} {σ : L2.St} {s : Shared} {H : Hp} (I : Inv X pins σ H s) : ∀ {vs : List V} {us : List Value} {nss : List (List Int)}, Vals vs us → IsDs X.K X.mg H vs (nss.map tI) → us.length = nss.length ∧ ∀ (i : Nat) (u : Value) (ns : List Int), us[i]? = some u → nss[i]? = some ns → IsTI s.heap u ns
  | _, _, [], rv, d => by
    cases d
    cases rv
    exact ⟨rfl, fun i u ns h => by simp at h⟩
  | _, _, ns :: nss, rv, d => by
    cases d with
    | cons d1 d2 =>
      cases rv with
      | cons r1 r2 =>
        obtain ⟨h1, h2⟩ := tups_in I r2 d2
        refine ⟨by simp [h1], fun i u ms hu hm => ?_⟩
        cases i with
        | zero =>
          simp at hu hm
          subst hu hm
          cases d1 with
          | tup p t =>
            cases r1
            obtain ⟨its, rr, p1, _⟩ := I.tuple p.tup
            obtain ⟨o, ho, hc, m, hd⟩ := id p1
            refine ⟨_, o, its.toArray, m, rfl, ho, hc, hd, ?_⟩
            rw [t.ints] at rr
            exact rr.ints
        | succ i => exact h2 i u ms (by simpa using hu) (by simpa using hm)
open Classical in
/-- the ints of a tuple -/
noncomputable def kTI (h : Heap) (v : Value) : List Int := if e : ∃ ns, IsTI h v ns then e.choose else []
theorem IsTI.uniq {h : Heap} {v : Value} {ns ms : List Int} (a : IsTI h v ns) (b : IsTI h v ms) : ns = ms := by
  obtain ⟨x, o, its, n, e, ho, hc, hd, hi⟩ := a
  obtain ⟨x', o', its', n', e', ho', hc', hd', hi'⟩ := b
  rw [e] at e'
  cases e'
  rw [ho] at ho'
  cases ho'
  rw [hd] at hd'
  cases hd'
  rw [← SrtO.iv_ints hi, ← SrtO.iv_ints hi']
theorem kTI_of {h : Heap} {v : Value} {ns : List Int} (a : IsTI h v ns) : kTI h v = ns := by
  unfold kTI
  rw [dif_pos ⟨ns, a⟩]
  exact IsTI.uniq (Exists.choose_spec (⟨ns, a⟩ : ∃ ns, IsTI h v ns)) a
theorem map_kTI {h : Heap} : ∀ {us : List Value} {nss : List (List Int)}, us.length = nss.length → (∀ (i : Nat) (u : Value) (ns : List Int), us[i]? = some u → nss[i]? = some ns → IsTI h u ns) → us.map (kTI h) = nss
  | [], [], _, _ => rfl
  | [], _ :: _, h, _ => by simp at h
  | _ :: _, [], h, _ => by simp at h
  | u :: us, ns :: nss, hl, h => by
    rw [List.map_cons, kTI_of (h 0 u ns rfl rfl), map_kTI (by simpa using hl) fun i u ns h1 h2 => h (i + 1) u ns (by simpa using h1) (by simpa using h2)]
theorem tups_back {H : Hp} {h : Heap} {K : PySem.W.Frag} {mg : Str → Option Value} : ∀ {out : List Value}, (∀ u ∈ out, IsD K mg H (backV u) (tI (kTI h u))) → IsDs K mg H (out.map backV) ((out.map (kTI h)).map tI)
  | [], _ => .nil
  | u :: out, hp => .cons (hp u (by simp)) (tups_back fun v hv => hp v (List.mem_cons_of_mem _ hv))
theorem sortT_ok (fz : Bool) : CallW X (.builtin "sorted") (sortTW fz) := by
  intro Fm pins s σ H vs us ws O Q Q' I rv d o q k
  obtain ⟨w, rfl, nss, e, hne, q⟩ := one_of (r := sortT1 fz) q
  obtain ⟨v, ev, dv⟩ := d.one
  subst ev
  obtain ⟨a, xs, rfl, hq, t⟩ := asL_rd dv o e
  obtain ⟨u, rfl, ru⟩ := vals1 rv
  obtain rfl : u = Value.ref a := ru
  obtain ⟨its, r', hl, hz⟩ := I.list (.inl hq)
  obtain ⟨hlen, hget⟩ := tups_in I r' t
  have hk : ∀ u ∈ its, IsTI s.heap u (kTI s.heap u) ∧ kTI s.heap u ∈ nss := fun u hu => by
    obtain ⟨i, hi⟩ := List.getElem?_of_mem hu
    have hi2 : i < nss.length := by rw [← hlen]; exact (List.getElem?_eq_some_iff.mp hi).1
    have := hget i u nss[i] hi (List.getElem?_eq_getElem hi2)
    rw [kTI_of this]
    exact ⟨this, List.getElem_mem _⟩
  have emap := map_kTI hlen hget
  have hrefs : ∀ u ∈ its, ∃ a, u = Value.ref a := fun u hu => by
    obtain ⟨⟨a, _, _, _, e, _⟩, _⟩ := hk u hu
    exact ⟨a, e⟩
  -- the data of the items
  have hdat : ∀ u ∈ its, IsD X.K X.mg H (backV u) (tI (kTI s.heap u)) := by
    intro u hu
    obtain ⟨i, hi⟩ := List.getElem?_of_mem hu
    have hi2 : i < nss.length := by rw [← hlen]; exact (List.getElem?_eq_some_iff.mp hi).1
    have h1 := hget i u nss[i] hi (List.getElem?_eq_getElem hi2)
    rw [kTI_of h1]
    obtain ⟨v, hv, dd⟩ := t.get (i := i) (w := tI nss[i]) (by rw [List.getElem?_map, List.getElem?_eq_getElem hi2]; rfl)
    obtain ⟨b, rfl⟩ := hrefs u hu
    have : v = backV (.ref b) := by
      have hxs : xs = its.map backV := (refs_back r' fun x hx => by
        obtain ⟨j, hj⟩ := List.getElem?_of_mem hx
        obtain ⟨w', _, dw⟩ := t.get' hj
        have hw : ∃ ns, w' = tI ns := by
          rename_i h4
          rw [List.getElem?_map] at h4
          cases e5 : nss[j]? with
          | none => rw [e5] at h4; cases h4
          | some ns => rw [e5] at h4; cases h4; exact ⟨ns, rfl⟩
        obtain ⟨ns, rfl⟩ := hw
        cases dw with
        | tup p _ => exact ⟨_, rfl⟩).1
      rw [hxs, List.getElem?_map, hi] at hv
      cases hv
      rfl
    rw [← this]
    exact dd
  refine sorted_tupsO (k := kTI s.heap) hl.isList (by rw [← r'.length]; exact hz) (fun u hu => ⟨(hk u hu).1, hne _ (hk u hu).2⟩) fun h' d out h1 h2 kp hd hn => ?_
  obtain ⟨n, hn⟩ := hn
  have h3 : ∀ u ∈ out, ∃ a, u = Value.ref a := fun u hu => hrefs u (h2.perm.mem_iff.mp hu)
  have hp : (out.map (kTI s.heap)).Perm nss := by rw [← emap]; exact h2.perm.map _
  have hs : Lxs (out.map (kTI s.heap)) := List.pairwise_map.mpr h1
  have np : H d = none := I.hok.fresh hd
  have hlo : (out.map backV).length ≤ sizeLine := by rw [List.length_map, h2.perm.length_eq, ← r'.length]; exact hz
  have I2 : Inv X pins σ (upd H d (.lst (out.map backV))) { s with heap := h' } := I.laid (t' := s.toks) kp hd ⟨hlo, out, n, vals_back h3, hn⟩
  exact ep_newL np (Pers.refl H) I2 (tups_back fun u hu => hdat u (h2.perm.mem_iff.mp hu)) o (q _ hp hs) k
variable {k : Nat} {e : Expr} {pos p : Pos} {te : TEw}
theorem xsortT (C : Cok X k) (fz : Bool) (he : WE X e te) (hm : X.mg "sorted" = none) (hg : Gl X "sorted" := by rfl) (hs : starEach [e] X.env = (false, eval e X.env) :: starEach [] X.env := by rfl) (hpl : (backTo pos (starEach [] X.env)).any (·.1) = false := by rfl) :
    WE X (.Call (.Name "sorted" p) [e] [] pos) (bltW (sortTW fz) (consA te nilA)) := we_callB (sortT_ok fz) hg hm (by decide +kernel) (a1 (hs := hs) he a0) (by decide +kernel) (by decide +kernel) hs hpl
end
section
variable {O : OW} {Q : KW}
theorem f_sortT {fz : Bool} {x : Dt} : sortTW fz [x] O Q = sortT1 fz x O Q := rfl
end
end TF

set_option maxHeartbeats 1000000
/-! TF25: for in the body of a generator -/
namespace TF
open PySem PySem.Spec L2 PyProof.Rows GenW
def tGFor (wi : TI) (g : TG) (tb : TGn) : TGn := fun D ys σ H => wi σ H fun J H1 => ∃ W : Nat → Nat → List V → L2.St → Hp → Prop, (∃ m, W 0 m ys σ H1) ∧ ∀ i m ys σ H, W i m ys σ H →
  (J.stop i H ∧ D.nx ys σ H) ∨ (J.go i H ∧ ∃ N : List V → L2.St → Hp → Prop, (∀ ys' σ' H', N ys' σ' H' → ∃ m', m' < m ∧ W (i + 1) m' ys' σ' H') ∧ ∀ x H', J.yld i H x H' → g x σ H' fun σ2 H2 => tb { D with nx := N, ct := N, bk := D.nx } ys σ2 H2)
/-- what the loop's code does with an exception -/
def noted (env : Env) (x : Value) : Sem Unit := do
  noteFrame x env
  theTreesLotGoes x
section
variable {X : Cx}
theorem gs_for {tg iter : Expr} {body : List Stmt} {pos : Pos} {wi : TI} {gt : TG} {tb : TGn} (hp : PassesOwn (model X.prog X.w) X.A X.env X.xe) (hc : X.calm = true) (hi : PI X tg iter wi) (hg : PG X tg gt) (hb : GSs X body tb)
    (hs : ∀ x, foldedSetIterable iter X.env x = pure x := by intro _; rfl) : GS X (.For tg iter body [] pos) (tGFor wi gt tb) := by
  refine ⟨fun A S ip R n ys s₀ c fs K J gd lv s σ H D g hn k hI ht => ?_⟩
  rw [exec_For]
  refine seg_bind_wrap (wpAny_standAt ?_)
  refine seg_bind_wrap ?_
  rw [g.over]
  obtain ⟨acc, cc, r, I⟩ := hI
  refine wpAny_mono (hi.run _ s σ H _ I ht) (fun v s1 h1 => ?_) fun x s' hx => k.exc n s₀ x s' hx
  refine seg_bind_wrap (wpAny_of_eq (hs v) ?_)
  refine seg_bind_wrap (wpAny_standAt ?_)
  refine seg_bind_wrap (wpAny_holding ?_)
  rw [g.over]
  refine wpAny_mono h1 (fun itv s2 h2 => ?_) fun x s' hx => k.exc n s₀ x s' hx
  obtain ⟨it, fp, tn, Jt, H2, e, I2, T, st2, f2, W, ⟨m0, w0⟩, turn⟩ := h2
  subst e
  refine seg_call fun p => ?_
  have gl := fun (ip' : List (Addr × Obj)) (hip : ∀ p ∈ ip', p.1 ≠ S) (kk : Result → Sem PySem.Fin) => gc_loop (X := X) (S := S) (ip := ip') (k := kk) (c' := .forLoop tg (.ref it) body [] X.env) (l := lv []) (kp := []) (p := p) ⟨g.pn, hip, g.apart, g.over, g.split, g.guard, g.gd⟩ rfl rfl
  have hSf : S ∉ fp := fun z => (f2 S z).2.2.2.2.2 (S, lstObj acc cc) (List.mem_append_right _ List.mem_cons_self) rfl
  -- what stays true of the iterator's objects
  have stat : ∀ {H' : Hp} {acc' : Array Value} {c' : Nat}, (∀ b ∈ fp, H' b = none) → ∀ b ∈ fp, FpOk X ((S, lstObj acc' c') :: ip) H' b := fun {H' acc' c'} hn b hb => by
    obtain ⟨_, a2, a3, a4, a5, a6⟩ := f2 b hb
    refine ⟨hn b hb, a2, a3, a4, a5, fun p hp => ?_⟩
    rcases List.mem_append.mp hp with hp | hp
    · exact a6 p (List.mem_append_left _ hp)
    · rcases List.mem_cons.mp hp with hp | hp
      · subst hp; exact fun z => hSf (by have z : S = b := z; rw [z]; exact hb)
      · exact a6 p (List.mem_append_right _ (List.mem_cons_of_mem _ hp))
  have loop : ∀ (m i n : Nat) (ys : List V) (s₀ s : Shared) (σ : L2.St) (H : Hp), n + ys.length = sizeLine → W i m ys σ H → GI X S ip ys σ H s → tn i s.heap → (∀ b ∈ fp, H b = none) →
      Seg (model X.prog X.w) A R (GY X S) n s₀ (.forLoop tg (.ref it) body [] X.env) ((model X.prog X.w).den (.forLoop tg (.ref it) body [] X.env))
        (.ret (fun r => ((match r with | .ok f => (.pure f : Sem Flow) | .error e => .raise e).onRaise (cameBack X.env)).wrap K J gd lv) none (gd false) (lv []) c p [] :: fs) s := by
    intro m
    induction m using Nat.strongRecOn with
    | ind m ih =>
      intro i n ys s₀ s σ H hn w hI st fr
      have ee : ∀ (n : Nat) (s₀ : Shared) (x : Value) (s' : Shared), X.xe x s' → Seg (model X.prog X.w) A R (GY X S) n s₀ (.forLoop tg (.ref it) body [] X.env)
          ((noted X.env x).bind fun _ => .raise x)
          (.ret (fun r => ((match r with | .ok f => (.pure f : Sem Flow) | .error e => .raise e).onRaise (cameBack X.env)).wrap K J gd lv) none (gd false) (lv []) c p [] :: fs) s' := fun n s₀ x s' hx => by
        rw [Sem.bind_eq_wrap]
        refine seg_wrap ?_
        rw [(gl ip g.ip _).over]
        unfold noted
        refine wpAny_bind (wpAny_mono (hp x s' hx) (fun _ s'' hcb => wpAny_theTreesLotGoes ?_) fun y s'' hcb => ?_)
        · exact seg_leaf (.error x) (seg_cameBack g k hcb)
        · exact seg_leaf (.error y) (seg_cameBack g k hcb)
      show Seg _ _ _ _ _ _ _ ((forTurn tg (.ref it) body [] X.env).onRaise (noted X.env)) _ _
      rw [Sem.onRaise_eq_wrap]
      unfold forTurn
      refine seg_bind_wrap (wpAny_standAt ?_)
      refine seg_bind_wrap ?_
      rw [(gl ip g.ip _).over]
      obtain ⟨acc, cc, r, I⟩ := hI
      rcases turn i m ys σ H w with ⟨stop, qn⟩ | ⟨go, N, hN, step⟩
      · refine wpAny_onRaise (wpAny_mono (T.done X rfl rfl rfl hc i _ s σ H X.xe I (stat fr) st stop) (fun r s4 hr4 => ?_) fun x s' hx => wpAny_standAt (ee n s₀ x s' hx))
        obtain ⟨hr, I4⟩ := hr4
        subst hr
        refine seg_again rfl ?_
        show Seg _ _ _ _ _ _ _ ((do return PySem.Fin.done (← (execs [] X.env).onRaise (fun x => do noteFrame x X.env; theTreesLotGoes x)) : Sem PySem.Fin)) _ _
        refine seg_leaf (.ok .next) (k.ok n ys s₀ s4 .next hn ⟨σ, H, ⟨acc, cc, r, I4⟩, qn⟩)
      · refine wpAny_onRaise (wpAny_mono (T.item X rfl rfl rfl hc i _ s σ H X.xe I (stat fr) st go) (fun r s4 hr4 => ?_) fun x s' hx => wpAny_standAt (ee n s₀ x s' hx))
        obtain ⟨u, hr, h4⟩ := hr4
        subst hr
        refine seg_bind_wrap ?_
        rw [(gl ip g.ip _).over]
        refine wpAny_mono h4 (fun _ s5 h5 => ?_) fun x s' hx => ee n s₀ x s' hx
        obtain ⟨x, H5, I5, r5, y5, st5, fr5⟩ := h5
        have I5' := I5.pinned (stat fr5) (T.obj _ _ st5)
        refine seg_bind_wrap ?_
        rw [(gl ip g.ip _).over]
        refine wpAny_mono (hg.run _ s5 σ H5 x u _ I5' r5 (step x H5 y5)) (fun _ s6 h6 => ?_) fun x s' hx => ee n s₀ x s' hx
        obtain ⟨σ6, H6, I6, q6⟩ := h6
        have hip : ∀ p ∈ ip ++ pinsAt fp s5.heap, p.1 ≠ S := fun p hp => by
          rcases List.mem_append.mp hp with hp | hp
          · exact g.ip p hp
          · exact fun z => hSf (z ▸ (of_pinsAt hp).1)
        have back : ∀ {ys' : List V} {σ7 : L2.St} {H7 : Hp} {s7 : Shared}, GI X S (ip ++ pinsAt fp s5.heap) ys' σ7 H7 s7 → GI X S ip ys' σ7 H7 s7 ∧ tn (i + 1) s7.heap ∧ ∀ b ∈ fp, H7 b = none := fun {ys' σ7 H7 s7} ⟨acc7, c7, r7, I7⟩ => by
          have I7' : Inv X (((S, lstObj acc7 c7) :: ip) ++ pinsAt fp s5.heap) σ7 H7 s7 := I7
          refine ⟨⟨acc7, c7, r7, I7'.unpinned⟩, T.keep _ _ _ st5 fun b hb o e => (I7'.pin (b, o) (List.mem_append_right _ (List.mem_append_right _ (mem_pinsAt hb e)))).1, fun b hb => ?_⟩
          obtain ⟨o, e, d⟩ := T.obj _ _ st5 b hb
          exact (I7'.pin (b, o) (List.mem_append_right _ (List.mem_append_right _ (mem_pinsAt hb e)))).2.1
        rw [Sem.bind_eq_wrap', Sem.wrap_wrap]
        refine hb.run A S (ip ++ pinsAt fp s5.heap) R n ys s₀ _ _ _ _ id id s6 σ6 H6 { D with nx := N, ct := N, bk := D.nx } (gl _ hip _) hn ⟨fun n' ys' s₀' s7 f hn' hs => ?_, fun n' s₀' x s7 hx => ee n' s₀' x s7 hx⟩ ⟨acc, cc, r, I6⟩ q6
        cases f with
        | next =>
          obtain ⟨σ7, H7, I7, n7⟩ := hs
          obtain ⟨m', hm, w7⟩ := hN ys' σ7 H7 n7
          obtain ⟨b1, b2, b3⟩ := back I7
          exact seg_again rfl (ih m' hm (i + 1) n' ys' s₀' s7 σ7 H7 hn' w7 b1 b2 b3)
        | cont =>
          obtain ⟨σ7, H7, I7, n7⟩ := hs
          obtain ⟨m', hm, w7⟩ := hN ys' σ7 H7 n7
          obtain ⟨b1, b2, b3⟩ := back I7
          exact seg_again rfl (ih m' hm (i + 1) n' ys' s₀' s7 σ7 H7 hn' w7 b1 b2 b3)
        | brk =>
          obtain ⟨σ7, H7, I7, n7⟩ := hs
          exact seg_leaf (.ok .next) (k.ok n' ys' s₀' s7 .next hn' ⟨σ7, H7, (back I7).1, n7⟩)
        | ret v =>
          obtain ⟨x7, σ7, H7, I7, r7, n7⟩ := hs
          exact seg_leaf (.ok (.ret v)) (k.ok n' ys' s₀' s7 (.ret v) hn' ⟨x7, σ7, H7, (back I7).1, r7, n7⟩)
  exact loop m0 0 n ys s₀ s2 σ H2 hn w0 ⟨acc, cc, r, I2⟩ st2 fun b hb => (f2 b hb).1
end
end TF

set_option maxHeartbeats 1000000
/-! TF26: generators by data; keyword-only defaults -/
namespace TF
open PySem PySem.Spec L2 RZ PyProof.Rows GenW
open PyProof.Rows (envOfC)

structure GEndsW where
  nx : List Dt → SW → OW → Prop
  rt : List Dt → KW
  bk : List Dt → SW → OW → Prop := fun _ _ _ => False
  ct : List Dt → SW → OW → Prop := fun _ _ _ => False
abbrev TGw := XW → GEndsW → List Dt → SW → OW → Prop
def GEndsW.at (D : GEndsW) (zs : List Dt) : EndsW := { nx := D.nx zs, rt := D.rt zs, bk := D.bk zs, ct := D.ct zs }
structure GEndsLe (K : PySem.W.Frag) (mg : Str → Option Value) (Fm : Hp) (D : GEndsW) (D' : GEnds) : Prop where
  nx : ∀ ys zs σ H τ O, IsDs K mg H ys zs → Slots K mg H σ τ → Own K mg Fm O H → D.nx zs τ O → D'.nx ys σ H
  rt : ∀ ys zs v H w O, IsDs K mg H ys zs → IsD K mg H v w → Own K mg Fm O H → D.rt zs w O → D'.rt ys v H
  bk : ∀ ys zs σ H τ O, IsDs K mg H ys zs → Slots K mg H σ τ → Own K mg Fm O H → D.bk zs τ O → D'.bk ys σ H
  ct : ∀ ys zs σ H τ O, IsDs K mg H ys zs → Slots K mg H σ τ → Own K mg Fm O H → D.ct zs τ O → D'.ct ys σ H
theorem GEndsLe.fle {K : PySem.W.Frag} {mg : Str → Option Value} {Fm F' : Hp} {D : GEndsW} {D' : GEnds} (h : GEndsLe K mg Fm D D') (l : Fle Fm F') : GEndsLe K mg F' D D' :=
  ⟨fun ys zs σ H τ O d S o => h.nx ys zs σ H τ O d S (o.fle l), fun ys zs v H w O d d2 o => h.rt ys zs v H w O d d2 (o.fle l), fun ys zs σ H τ O d S o => h.bk ys zs σ H τ O d S (o.fle l), fun ys zs σ H τ O d S o => h.ct ys zs σ H τ O d S (o.fle l)⟩
def LG (K : PySem.W.Frag) (mg : Str → Option Value) (Fm : Hp) (t : GEndsW → List Dt → SW → OW → Prop) : TGn := fun D' ys σ H => ∃ D zs τ O F', Fle Fm F' ∧ IsDs K mg H ys zs ∧ Slots K mg H σ τ ∧ Own K mg F' O H ∧ t D zs τ O ∧ GEndsLe K mg F' D D'
def WGS (X : Cx) (st : Stmt) (t : TGw) : Prop := ∀ Fm Ex, Takes X (LX X.K X.mg Fm Ex) → GS X st (LG X.K X.mg Fm (t Ex))
def WGB (X : Cx) (st : List Stmt) (t : TGw) : Prop := ∀ Fm Ex, Takes X (LX X.K X.mg Fm Ex) → GSs X st (LG X.K X.mg Fm (t Ex))
section
variable {X : Cx} {st : Stmt} {sts body : List Stmt} {e tg iter : Expr} {te : TEw} {t u tb : TGw} {pos yp : Pos} {T : Tg} {ti : TIw}
theorem GS.imp {t t' : TGn} (h : GS X st t) (i : ∀ D ys σ H, t' D ys σ H → t D ys σ H) : GS X st t' := ⟨fun A S ip R n ys s₀ c fs K J gd lv s σ H D g hn k hI q => h.run A S ip R n ys s₀ c fs K J gd lv s σ H D g hn k hI (i _ _ _ _ q)⟩
theorem GSs.imp {t t' : TGn} (h : GSs X sts t) (i : ∀ D ys σ H, t' D ys σ H → t D ys σ H) : GSs X sts t' := ⟨fun A S ip R n ys s₀ c fs K J gd lv s σ H D g hn k hI q => h.run A S ip R n ys s₀ c fs K J gd lv s σ H D g hn k hI (i _ _ _ _ q)⟩
/-- a statement that hands out nothing -/
def plainG (t : TSw) : TGw := fun Ex D zs τ O => t Ex (D.at zs) τ O
theorem wg_plain {t : TSw} (h : WS X st t) : WGS X st (plainG t) := fun Fm Ex tk => by
  refine ⟨fun A S ip R n ys s₀ c fs K J gd lv s σ H D g hn k hI ⟨Dw, zs, τ, O, F', l, d, S0, o, q, le⟩ => ?_⟩
  have l1 := fle_perF o
  refine (gs_ps (h (perF F' H) Ex (takes_le tk (fun a u e => l1 a u (l a u e))))).run A S ip R n ys s₀ c fs K J gd lv s σ H D g hn k hI ⟨Dw.at zs, τ, O, S0, o.perF, q, ?_⟩
  exact ⟨fun σ2 H2 τ2 O2 S2 o2 q2 => le.nx ys zs σ2 H2 τ2 O2 (d.pers (pers_perF o2)) S2 (o2.fle l1) q2, fun v H2 w O2 d2 o2 q2 => le.rt ys zs v H2 w O2 (d.pers (pers_perF o2)) d2 (o2.fle l1) q2,
    fun σ2 H2 τ2 O2 S2 o2 q2 => le.bk ys zs σ2 H2 τ2 O2 (d.pers (pers_perF o2)) S2 (o2.fle l1) q2, fun σ2 H2 τ2 O2 S2 o2 q2 => le.ct ys zs σ2 H2 τ2 O2 (d.pers (pers_perF o2)) S2 (o2.fle l1) q2⟩
def seqG (t u : TGw) : TGw := fun Ex D zs τ O => t Ex { D with nx := fun zs1 τ1 O1 => u Ex D zs1 τ1 O1 } zs τ O
def nilG : TGw := fun _ D zs τ O => D.nx zs τ O
theorem wg_nil : WGB X [] nilG := fun Fm Ex tk => GSs.imp gss_nil fun D' ys σ H ⟨D, zs, τ, O, F', l, d, S, o, q, le⟩ => le.nx ys zs σ H τ O d S o q
theorem wg_cons (h : WGS X st t) (h2 : WGB X sts u) : WGB X (st :: sts) (seqG t u) := fun Fm Ex tk => GSs.imp (gss_cons (h Fm Ex tk) (h2 Fm Ex tk)) fun D' ys σ H ⟨D, zs, τ, O, F', l, d, S, o, q, le⟩ =>
  ⟨_, zs, τ, O, F', l, d, S, o, q, ⟨fun ys1 zs1 σ1 H1 τ1 O1 d1 S1 o1 q1 => ⟨D, zs1, τ1, O1, F', l, d1, S1, o1, q1, le⟩, le.rt, le.bk, le.ct⟩⟩
theorem wg_one (h : WGS X st t) : WGB X [st] (seqG t nilG) := wg_cons h wg_nil
def yieldG (te : TEw) : TGw := fun Ex D zs τ O => zs.length < LIM ∧ te Ex τ O fun w O1 => D.nx (zs ++ [w]) τ O1
theorem wg_yield (he : WE X e te) (hco : X.env.scope.isCoroutine = false := by rfl) (hi : interactive X.env = false := by rfl) : WGS X (.Expr (.Yield (some e) yp) pos) (yieldG te) := fun Fm Ex tk => by
  refine ⟨fun A S ip R n ys s₀ c fs K J gd lv s σ H D g hn k hI ⟨Dw, zs, τ, O, F', l, d, S0, o, q, le⟩ => ?_⟩
  refine (gs_yield (he F' Ex (takes_le tk l)) hco hi).run A S ip R n ys s₀ c fs K J gd lv s σ H D g hn k hI ⟨by rw [d.length, lim_eq]; exact q.1, τ, O, _, S0, o, q.2, fun v H1 ⟨w, O1, P1, d1, o1, q1⟩ => ?_⟩
  exact le.nx _ _ σ H1 τ O1 ((d.pers P1).append (.cons d1 .nil)) (S0.pers P1) o1 q1
def loopG (ok : OW → Prop) (T : Tg) (body : GEndsW → List Dt → SW → OW → Prop) (D : GEndsW) : List Y → List Dt → SW → OW → Prop
  | [], zs, τ, O => ok O ∧ D.nx zs τ O
  | y :: ys, zs, τ, O => ok O ∧ tgtW T y τ fun τ1 => body { nx := loopG ok T body D ys, rt := D.rt, bk := D.nx, ct := loopG ok T body D ys } zs τ1 O
def forG (ti : TIw) (T : Tg) (body : TGw) : TGw := fun Ex D zs τ O => ti Ex τ O fun I O1 => loopG I.ok T (body Ex) D I.items zs τ O1
theorem gss_any {Fm : Hp} {Ex : XW} (tk : Takes X (LX X.K X.mg Fm Ex)) (h : WGB X body tb) : GSs X body fun D ys σ H => ∃ F', Fle Fm F' ∧ LG X.K X.mg F' (tb Ex) D ys σ H :=
  ⟨fun A S ip R n ys s₀ c fs K J gd lv s σ H D g hn k hI ⟨F', l, q⟩ => (h F' Ex (takes_le tk l)).run A S ip R n ys s₀ c fs K J gd lv s σ H D g hn k hI q⟩
theorem wg_for (hp : PassesOwn (model X.prog X.w) X.A X.env X.xe) (hc : X.calm = true) (hi : WI X tg iter ti) (hg : WG X tg T) (hb : WGB X body tb) (hs : ∀ x, foldedSetIterable iter X.env x = pure x := by intro _; rfl) : WGS X (.For tg iter body [] pos) (forG ti T tb) := fun Fm Ex tk => by
  refine ⟨fun A S ip R n ys s₀ c fs K J gd lv s σ H D' g hn k hI ⟨D, zs, τ, O, F', l0, d, S0, o, h, l⟩ => ?_⟩
  refine (gs_for hp hc (hi F' Ex (takes_le tk l0)) hg (gss_any tk hb) hs).run A S ip R n ys s₀ c fs K J gd lv s σ H D' g hn k hI ?_
  refine ⟨τ, O, _, S0, o, h, fun Jt I H1 O1 P1 o1 sv q => ?_⟩
  refine ⟨fun i m ys2 σ2 H2 => m = I.items.length - i ∧ ∃ zs2 τ2 O2, IsDs X.K X.mg H2 ys2 zs2 ∧ Slots X.K X.mg H2 σ2 τ2 ∧ Own X.K X.mg (perF F' H1) O2 H2 ∧ loopG I.ok T (tb Ex) D (I.items.drop i) zs2 τ2 O2, ⟨_, rfl, zs, τ, O1, d.pers P1, S0.pers P1, o1.perF, by rw [List.drop_zero]; exact q⟩, ?_⟩
  rintro i m ys2 σ2 H2 ⟨rfl, zs2, τ2, O2, d2, S2, o2, q2⟩
  have l1 := fle_perF o1
  have P2 := pers_perF o2
  have sv2 := fun ok => sv (perF F' H1) H2 O2 P2 o2 ok i
  by_cases hlt : i < I.items.length
  · have e := List.getElem?_eq_getElem hlt
    rw [List.drop_eq_getElem_cons hlt] at q2
    obtain ⟨ok2, q2⟩ := q2
    obtain ⟨go, yl⟩ := (sv2 ok2).1 _ e
    refine .inr ⟨go, fun ys3 σ3 H3 => ∃ zs3 τ3 O3, IsDs X.K X.mg H3 ys3 zs3 ∧ Slots X.K X.mg H3 σ3 τ3 ∧ Own X.K X.mg (perF F' H1) O3 H3 ∧ loopG I.ok T (tb Ex) D (I.items.drop (i + 1)) zs3 τ3 O3, fun ys3 σ3 H3 q3 => ⟨_, by omega, rfl, q3⟩, fun x H3 y => ?_⟩
    obtain ⟨P3, o3, d3⟩ := yl x H3 y
    refine tgt_ok T.slots (fun i h => h) d3 (S2.pers P3) q2 fun σ4 τ4 S4 q4 _ => ?_
    refine ⟨perF F' H1, fun a u e => l1 a u (l0 a u e), _, zs2, τ4, O2, perF F' H1, Fle.refl _, d2.pers P3, S4, o3, q4, ?_⟩
    refine ⟨fun ys5 zs5 σ5 H5 τ5 O5 d5 S5 o5 q5 => ⟨zs5, τ5, O5, d5, S5, o5, q5⟩, fun ys5 zs5 v H5 w O5 d5 dv o5 q5 => l.rt ys5 zs5 v H5 w O5 d5 dv (o5.fle l1) q5, fun ys5 zs5 σ5 H5 τ5 O5 d5 S5 o5 q5 => l.nx ys5 zs5 σ5 H5 τ5 O5 d5 S5 (o5.fle l1) q5, fun ys5 zs5 σ5 H5 τ5 O5 d5 S5 o5 q5 => ⟨zs5, τ5, O5, d5, S5, o5, q5⟩⟩
  · have e : I.items.drop i = [] := List.drop_eq_nil_of_le (by omega)
    rw [e] at q2
    obtain ⟨ok2, q2⟩ := q2
    exact .inl ⟨(sv2 ok2).2 (by omega), l.nx _ _ _ _ _ _ d2 S2 (o2.fle l1) q2⟩
end

/-! ### a generator def -/
theorem sky_up {B h : Heap} {l : List Env} {a L : Addr} {cls : Value} {d : Option Addr} (x : Sky B l a (L2N.Zn cls d) L h) : Sky B l a (Zc cls d) L h := by
  rcases x with ⟨h1, h2, h3, oe, vs, e, z, r⟩ | ⟨h1, h2, h3, oe, vs, T, oT, ts, e, z, r⟩ | ⟨h1, h2, h3, oe, vs, T, oT, ts, e, z, r⟩
  · exact .inl ⟨h1, h2, h3, oe, vs, e, z.zc, r⟩
  · exact .inr (.inl ⟨h1, h2, h3, oe, vs, T, oT, ts, e, z.zc, r⟩)
  · exact .inr (.inr ⟨h1, h2, h3, oe, vs, T, oT, ts, e, z.zc, r⟩)
theorem takes_up {X : Cx} {W : WX} (t : L2.Takes X W) : Takes X W := fun u s' ⟨a, B, sI, pins, σ, H, cls, d, e, I, nb, up, sky, r⟩ => t u s' ⟨a, B, sI, pins, σ, H, cls, d, e, I, nb, up, sky_up sky, r⟩
abbrev SpGW := List Dt → OW → (List Dt → OW → Prop) → (Exc → OW → Prop) → Prop
def liftG (K : PySem.W.Frag) (mg : Str → Option Value) (sp : SpGW) : SpG := fun vs H Q' E' => ∃ Fm ws O Q E, IsDs K mg H vs ws ∧ Own K mg Fm O H ∧ sp ws O Q E ∧
  (∀ ys zs H' O', Pers H H' → IsDs K mg H' ys zs → Own K mg Fm O' H' → Q zs O' → Q' ys H') ∧ ∀ x cls d H' O', Pers H H' → Own K mg Fm O' H' → ExcRel K mg x cls d H' → E x O' → E' cls d H'
def semGen (n m : Nat) (body : TGw) : SpGW := fun ws O Q E => ws.length = n ∧
  body (fun x _ O' => ∃ O'', OLe O'' O' ∧ E x O'') { nx := fun zs _ O' => ∃ O'', OLe O'' O' ∧ Q zs O'', rt := fun zs w O' => w = .non ∧ ∃ O'', OLe O'' O' ∧ Q zs O'' } [] (startW m ws) O
section
variable {P : Program} {w : World} {K : PySem.W.Frag} {mg : Str → Option Value} {base : Heap}
theorem gfn_ofG {k : Nat} {f : Addr} {name qual : Str} {params : Arguments} {body : List Stmt} {scope : Scope} {dV kV doc pm cdv ct oc : Value} {an od : Option Addr}
    {osl : Array (Option Value)} {N ps : List Str} {t : TGw} (lk : K.lookup f = some ⟨oc, od, .func (PySem.W.fnOf name qual params body scope dV kV doc pm an cdv ct), osl⟩) (hcd : PySem.W.codeIn K cdv qual = true) (S : GScope N ps scope)
    (hbody : ∀ (A : Around) (outer : List Env) (s : Shared) (H : Hp) (E : XK) (pn : List (Addr × Obj)), Room k (A.deeper (envOfC qual scope s.heap.objs.size f cdv)) → WGB (gcxOf P w K mg base N qual scope f cdv A outer s H E pn) body t) :
    GFn P w K mg base (k + 1) f (PySem.W.fnOf name qual params body scope dV kV doc pm an cdv ct) ps (liftG K mg (semGen ps.length N.length t)) := by
  refine gfn_of lk hcd S (fun vs H Q E ⟨Fm, ws, O, Qw, Ew, d, o, h, _⟩ => d.length.trans h.1) fun A outer s H vs Q E pn hr ⟨Fm, ws, O, Qw, Ew, dw, o, hsp, hQ, hE⟩ => ?_
  have o' := o.perF
  have tk : Takes (gcxOf P w K mg base N qual scope f cdv A outer s H E pn) (LX K mg (perF Fm H) (fun x _ O' => ∃ O'', OLe O'' O' ∧ Ew x O'')) := by
    refine Takes.impI (takes_up takes_gcx) fun pins s2 c d σ H2 I2 ⟨x, τ, O2, S2, o2, er, O3, l3, ee⟩ => ?_
    exact hE x c d H2 O3 (pers_perF o2) ((o2.fle (fle_perF o)).le l3) er ee
  refine ⟨_, hbody A outer s H E pn hr (perF Fm H) _ tk, ?_⟩
  refine ⟨_, [], startW N.length ws, O, perF Fm H, Fle.refl _, .nil, slots_start (ps := ps) dw, o', hsp.2, ?_⟩
  exact ⟨fun ys zs σ H2 τ O2 d2 S2 o2 ⟨O3, l3, q⟩ => hQ ys zs H2 O3 (pers_perF o2) d2 ((o2.fle (fle_perF o)).le l3) q, fun ys zs v H2 w O2 d2 dv o2 ⟨ew, O3, l3, q⟩ => ⟨by subst ew; exact dv.of_non, hQ ys zs H2 O3 (pers_perF o2) d2 ((o2.fle (fle_perF o)).le l3) q⟩,
    fun _ _ _ _ _ _ _ _ _ h => h.elim, fun _ _ _ _ _ _ _ _ _ h => h.elim⟩
/-- a generator def that may be called by its name, its last parameters at their defaults -/
structure GCallee (P : Program) (w : World) (K : PySem.W.Frag) (mg : Str → Option Value) (base : Heap) (j : Nat) (nm : Str) (sp : SpGW) : Prop where
  ex : ∃ (k : Nat) (f : Addr) (fd : FuncData) (ps : List Str) (ds : List Value) (dvs : List V) (dws : List Dt), k ≤ j ∧ GFn P w K mg base k f fd ps (liftG K mg fun ws O Q E => ∃ us, ws = us ++ dws ∧ sp us O Q E) ∧ mg nm = some (.ref f) ∧ PySem.W.keepIn K (.ref f) = true ∧ Binds K fd ps ds ∧ Vals dvs ds ∧ (∀ H, IsDs K mg H dvs dws) ∧ (∀ us O Q E, sp us O Q E → us.length + dws.length = ps.length)
/-- a def called with its last parameters at their defaults -/
structure CalleeD (P : Program) (w : World) (K : PySem.W.Frag) (mg : Str → Option Value) (base : Heap) (j : Nat) (nm : Str) (sp : SpW) : Prop where
  ex : ∃ (k : Nat) (f : Addr) (fd : FuncData) (ps : List Str) (ds : List Value) (dvs : List V) (dws : List Dt), k ≤ j ∧ FnG P w K mg base k f fd ps (fun ws O Q E => ∃ us, ws = us ++ dws ∧ sp us O Q E) ∧ mg nm = some (.ref f) ∧ PySem.W.keepIn K (.ref f) = true ∧ Binds K fd ps ds ∧ Vals dvs ds ∧ (∀ H, IsDs K mg H dvs dws)
end
end TF

set_option maxHeartbeats 1000000
/-! TF27: list(f(..)) of a generator def; calls with defaults -/
namespace TF
open PySem PySem.Spec L2 RZ PyProof.Rows GenW
open PyProof.Rows (envOfC)
/-- a def of the text with keyword-only defaults -/
structure FnAtD (K : PySem.W.Frag) (mg : Str → Option Value) (x : Str) (st : Stmt) (kws : List (Str × V)) : Prop where
  ex : ∃ (f : Addr) (fd : FuncData), FunD K x x (defArgs st) (defBody st) (defScope st) [] kws f fd ∧ mg x = some (.ref f)
def noE : XK := fun _ _ _ => False
def listGW (fz : Bool) (sp : SpGW) (t : TAw) : TEw := fun Ex τ O Q => t Ex τ O fun ws O1 => sp ws O1 (fun zs O2 => newL fz zs O2 Q) (fun _ _ => False)
section
variable {X : Cx} {k : Nat} {e : Expr} {es : List Expr} {pos p p2 pos2 : Pos} {t : TAw} {nm : Str} {sp : SpGW} {spf : SpW}
theorem pass_no : Passes (L2.CX X.prog X.w) X noE := fun pins σ H s e s' I ⟨a, B, H', cls, d, _, _, _, _, _, _, _, w⟩ => w.elim
theorem xlistG (C : Cok X k) (fz : Bool) {j : Nat} (c : GCallee X.prog X.w X.K X.mg X.base j nm sp) (ha : WA X (e :: es) t) (hm : X.mg "list" = none) (hj : j + 3 ≤ k := by decide) (gl : Gl X nm := by rfl) (gl2 : Gl X "list" := by rfl) (hdb : (nm == ("__debug__" : Str)) = false := by decide)
    (he : starEach (e :: es) X.env = (false, eval e X.env) :: starEach es X.env := by rfl) (hpl : (backTo pos2 (starEach es X.env)).any (·.1) = false := by rfl)
    (he2 : starEach [.Call (.Name nm p2) (e :: es) [] pos2] X.env = (false, eval (.Call (.Name nm p2) (e :: es) [] pos2) X.env) :: starEach [] X.env := by rfl) :
    WE X (.Call (.Name "list" p) [.Call (.Name nm p2) (e :: es) [] pos2] [] pos) (listGW fz sp t) := fun Fm Ex tk => by
  obtain ⟨i, f, fd, ps, ds, dvs, dws, hi, F, hmf, hkp, hb, hd, hdw, _⟩ := c.ex
  refine ⟨fun pins s σ H Q' I ⟨τ, O, Q, S, o, h, kk⟩ => ?_⟩
  have hr : Room (i + 3) X.A := C.hr.mono (by omega)
  have pg := pgen_call (E := noE) (pos' := pos2) (p := p2) F (hr.mono (by omega)) gl hmf hkp hb hd (ha Fm Ex tk) hdb he hpl
  refine thn ((pe_listG (nm := "list") (p := p) (pos := pos) pg pass_no (fun _ _ _ h => h.elim) hr gl2 hm (by decide +kernel) (by decide) (by decide) he2).run pins s σ H (fun v H' => ∃ p vs ws H1 O1, v = .ref p ∧ H' = upd H1 p (.lst vs) ∧ H1 p = none ∧ Pers H H1 ∧ IsDs X.K X.mg H1 vs ws ∧ Own X.K X.mg Fm O1 H1 ∧ newL fz ws O1 Q) I ?_) fun u s1 ⟨v, H', I', r', p, vs, ws, H1, O1, e1, e2, np, P1, d1, o1, q1⟩ => ?_
  · refine ⟨τ, O, _, S, o, h, fun vs ws H1 O1 P1 d1 o1 q1 => ?_⟩
    refine ⟨Fm, ws ++ dws, O1, _, _, d1.append (hdw H1), o1, ⟨ws, rfl, q1⟩, fun ys zs H2 O2 P2 d2 o2 q2 p np => ?_, fun x cls d H2 O2 P2 o2 er q => q.elim⟩
    exact ⟨p, ys, zs, H2, O2, rfl, rfl, np, P1.trans P2, d2, o2, q2⟩
  · subst e1 e2
    cases r'
    exact ep_newL np P1 I' d1 o1 q1 kk
theorem run_GD {k : Nat} {f : Addr} {fd : FuncData} {ps : List Str} {pins : List (Addr × Obj)} {σ : L2.St} {H : Hp} {s : Shared} {us ds : List Value} {vs dvs : List V} {ws dws : List Dt} {Fm : Hp} {O : OW} {Q : KW} {Q' : VK} {Ex : XW} {τ : SW}
    (Gf : FnG X.prog X.w X.K X.mg X.base k f fd ps (fun ws O Q E => ∃ us, ws = us ++ dws ∧ spf us O Q E)) (hr : Room k X.A) (hg : Gd k X.A) (hb : Binds X.K fd ps ds) (rd : Vals dvs ds) (hdw : ∀ H, IsDs X.K X.mg H dvs dws) (tk : Takes X (LX X.K X.mg Fm Ex))
    (I : Inv X pins σ H s) (r : Vals vs us) (S : Slots X.K X.mg H σ τ) (d : IsDs X.K X.mg H vs ws) (o : Own X.K X.mg Fm O H) (h : spf ws O Q fun x O' => Ex x τ O') (k' : ∀ v H', LQ X.K X.mg Fm H Q v H' → Q' v H') :
    wpAny (model X.prog X.w) X.A (call (.ref f) us) (EP X pins σ Q') X.xe s := by
  have r2 : Vals (vs ++ dvs) (us ++ ds) := r.append rd
  have d2 : IsDs X.K X.mg H (vs ++ dvs) (ws ++ dws) := d.append (hdw H)
  have hl : (us ++ ds).length = ps.length := by rw [← r2.length, d2.length]; exact Gf.len _ _ _ _ ⟨ws, rfl, h⟩
  have b := hb s us I.kIn hl
  refine wpAny_call (codeAny_mono (Gf.run X.A X.stack s H ⟨us, []⟩ (us ++ ds) (vs ++ dvs) Q' (fun cls dd H' => LX X.K X.mg Fm Ex cls dd σ H') hr hg I.env0 b r2 ⟨Fm, ws ++ dws, O, Q, _, d2, o, ⟨ws, rfl, h⟩, k', fun x cls dd H' O' p o' er ee => ⟨x, τ, O', S.pers p, o', er, ee⟩⟩) fun r s' hq => ?_)
  cases r with
  | error e => exact tk e s' (L2N.XE.of_call I (fun _ _ _ z => z) hq)
  | ok fl =>
    cases fl with
    | ret u => exact I.after hq
    | next => exact False.elim hq
    | brk => exact False.elim hq
    | cont => exact False.elim hq
/-- f(e, ..), the others at their defaults -/
theorem xcallD (C : Cok X k) {j : Nat} (c : CalleeD X.prog X.w X.K X.mg X.base j nm spf) (ha : WA X (e :: es) t) (hj : j ≤ k := by decide) (gl : Gl X nm := by rfl) (hdb : (nm == ("__debug__" : Str)) = false := by decide)
    (he : starEach (e :: es) X.env = (false, eval e X.env) :: starEach es X.env := by rfl) (hpl : (backTo pos (starEach es X.env)).any (·.1) = false := by rfl) : WE X (.Call (.Name nm p) (e :: es) [] pos) (callW spf t) := fun Fm Ex tk => by
  obtain ⟨i, f, fd, ps, ds, dvs, dws, hi, Gf, hm, hkp, hb, rd, hdw⟩ := c.ex
  refine ⟨fun pins s σ H Q' I ⟨τ, O, Q, S, o, h, kk⟩ => ?_⟩
  refine wpAny_Call_Name_kw (ld_glob I gl hm ?_ hdb)
  refine PySem.W.callWith_K (h₀ := X.base) I.ok.mod.kin hkp (thn ((ha Fm Ex tk).run pos pins s σ H (fun vs H1 => ∃ ws O1, Pers H H1 ∧ IsDs X.K X.mg H1 vs ws ∧ Own X.K X.mg Fm O1 H1 ∧ spf ws O1 Q fun x O' => Ex x τ O') I ⟨τ, O, _, S, o, h, fun vs ws H1 O1 P d o q => ⟨ws, O1, P, d, o, q⟩⟩) fun us s1 ⟨vs, H1, I1, r, ws, O1, P1, d1, o1, q⟩ => ⟨I1.kIn, ?_⟩) he hpl
  exact run_GD Gf ((C.hr.mono hj).mono hi) ((C.hg.mono hj).mono hi) hb rd hdw tk I1 r (S.pers P1) d1 o1 q fun v H' z => kk v H' (z.trans P1)
end
section
variable {P : Program} {w : World} {K : PySem.W.Frag} {mg : Str → Option Value} {base : Heap}
theorem CalleeD.imp {j : Nat} {nm : Str} {sp sp' : SpW} (c : CalleeD P w K mg base j nm sp) (h : ∀ ws O Q E, sp' ws O Q E → sp ws O Q E) : CalleeD P w K mg base j nm sp' := by
  obtain ⟨k, f, fd, ps, ds, dvs, dws, hk, G, r⟩ := c.ex
  exact ⟨k, f, fd, ps, ds, dvs, dws, hk, G.imp fun ws O Q E ⟨us, e, q⟩ => ⟨us, e, h _ _ _ _ q⟩, r⟩
theorem GCallee.imp {j : Nat} {nm : Str} {sp sp' : SpGW} (c : GCallee P w K mg base j nm sp) (h : ∀ ws O Q E, sp' ws O Q E → sp ws O Q E) : GCallee P w K mg base j nm sp' := by
  obtain ⟨k, f, fd, ps, ds, dvs, dws, hk, G, r1, r2, r3, r4, r5, r6⟩ := c.ex
  refine ⟨⟨k, f, fd, ps, ds, dvs, dws, hk, ⟨fun vs H Q E ⟨Fm, ws, O, Qw, Ew, d, o, ⟨us, e, q⟩, x⟩ => G.len vs H Q E ⟨Fm, ws, O, Qw, Ew, d, o, ⟨us, e, h _ _ _ _ q⟩, x⟩, fun A outer s H args us vs Q E hr e0 b r ⟨Fm, ws, O, Qw, Ew, d, o, ⟨us', e, q⟩, x⟩ => G.run A outer s H args us vs Q E hr e0 b r ⟨Fm, ws, O, Qw, Ew, d, o, ⟨us', e, h _ _ _ _ q⟩, x⟩⟩, r1, r2, r3, r4, r5, fun us O Q E q => r6 us O Q E (h _ _ _ _ q)⟩⟩
/-- one keyword-only parameter behind n others, at its default -/
theorem binds_kw1 {x gp : Str} {st : Stmt} {v : V} {f : Addr} {fd : FuncData} {ps : List Str} (n : Nat) (F : FunD K x x (defArgs st) (defBody st) (defScope st) [] [(gp, v)] f fd) (hn : n + 1 = ps.length)
    (h : ∀ (D : Addr) (doc pm : Value) (an : Option Addr) (cdv ct : Value) (us : List Value) (u : Value), us.length = n → KwChain D [(gp, u)] (bindArgs (PySem.W.fnOf x x (defArgs st) (defBody st) (defScope st) .none (.ref D) doc pm an cdv ct) ⟨us, []⟩) (ps.zip (us ++ [u]))) :
    ∃ ds, Vals [v] ds ∧ Binds K fd ps ds := by
  refine F.binds0 n (by simp) hn fun D doc pm an cdv ct us ks h1 h2 => ?_
  match ks, h2 with
  | [u], _ => exact h D doc pm an cdv ct us u h1
theorem calleeD_of {k n : Nat} {x gp : Str} {st : Stmt} {N ps : List Str} {t : TSw} {i : Int} (F : FnAtD K mg x st [(gp, .int i)]) (S : FnScope N ps (defScope st)) (hn : n + 1 = ps.length)
    (h : ∀ (D : Addr) (doc pm : Value) (an : Option Addr) (cdv ct : Value) (us : List Value) (u : Value), us.length = n → KwChain D [(gp, u)] (bindArgs (PySem.W.fnOf x x (defArgs st) (defBody st) (defScope st) .none (.ref D) doc pm an cdv ct) ⟨us, []⟩) (ps.zip (us ++ [u])))
    (hbody : ∀ (f : Addr) (cdv : Value) (A : Around) (outer : List Env) (s : Shared) (H : Hp) (E : XK), Cok (cxOf (L2N.CX P w) P w K mg base N x (defScope st) f cdv A outer s H E) k → PassesOwn (model P w) (cxOf (L2N.CX P w) P w K mg base N x (defScope st) f cdv A outer s H E).A (cxOf (L2N.CX P w) P w K mg base N x (defScope st) f cdv A outer s H E).env (cxOf (L2N.CX P w) P w K mg base N x (defScope st) f cdv A outer s H E).xe →
      WB (cxOf (L2N.CX P w) P w K mg base N x (defScope st) f cdv A outer s H E) (defBody st) t) : CalleeD P w K mg base (k + 1) x (fun us O Q E => semFn ps.length N.length t (us ++ [.int i]) O Q E) := by
  obtain ⟨f, fd, F, hm⟩ := F.ex
  obtain ⟨ds, rd, hb⟩ := binds_kw1 n F hn h
  obtain ⟨oc, od, dV, kV, doc, pm, an, cdv, ct, osl, rfl, lk, hcd, _, _⟩ := F.ex
  refine ⟨k + 1, f, _, ps, ds, [.int i], [.int i], Nat.le_refl _, ?_, hm, F.kp, hb, rd, fun H => .cons (.int i) .nil⟩
  exact (fn_ofG lk hcd S fun A outer s H E hr hg => hbody f cdv A outer s H E ⟨hr, hg, rfl, S.nd⟩ (passes_of rfl)).imp fun ws O Q E ⟨us, e, q⟩ => by subst e; exact q
theorem gcallee_of {k n : Nat} {x gp : Str} {st : Stmt} {N ps : List Str} {t : TGw} {i : Int} (F : FnAtD K mg x st [(gp, .int i)]) (S : GScope N ps (defScope st)) (hn : n + 1 = ps.length) (hk20 : k < 20)
    (h : ∀ (D : Addr) (doc pm : Value) (an : Option Addr) (cdv ct : Value) (us : List Value) (u : Value), us.length = n → KwChain D [(gp, u)] (bindArgs (PySem.W.fnOf x x (defArgs st) (defBody st) (defScope st) .none (.ref D) doc pm an cdv ct) ⟨us, []⟩) (ps.zip (us ++ [u])))
    (hbody : ∀ (f : Addr) (cdv : Value) (A : Around) (outer : List Env) (s : Shared) (H : Hp) (E : XK) (pn : List (Addr × Obj)), Cok (gcxOf P w K mg base N x (defScope st) f cdv A outer s H E pn) k → PassesOwn (model P w) (gcxOf P w K mg base N x (defScope st) f cdv A outer s H E pn).A (gcxOf P w K mg base N x (defScope st) f cdv A outer s H E pn).env (gcxOf P w K mg base N x (defScope st) f cdv A outer s H E pn).xe →
      WGB (gcxOf P w K mg base N x (defScope st) f cdv A outer s H E pn) (defBody st) t) : GCallee P w K mg base (k + 1) x (fun us O Q E => semGen ps.length N.length t (us ++ [.int i]) O Q E) := by
  obtain ⟨f, fd, F, hm⟩ := F.ex
  obtain ⟨ds, rd, hb⟩ := binds_kw1 n F hn h
  obtain ⟨oc, od, dV, kV, doc, pm, an, cdv, ct, osl, rfl, lk, hcd, _, _⟩ := F.ex
  have G := gfn_ofG (P := P) (w := w) (mg := mg) (base := base) (k := k) lk hcd S fun A outer s H E pn hr => hbody f cdv A outer s H E pn ⟨hr, fun z => absurd z (by omega), rfl, S.nd⟩ owns_gcx
  refine ⟨⟨k + 1, f, _, ps, ds, [.int i], [.int i], Nat.le_refl _, ?_, hm, F.kp, hb, rd, fun H => .cons (.int i) .nil, fun us O Q E q => ?_⟩⟩
  · exact ⟨fun vs H Q E ⟨Fm, ws, O, Qw, Ew, d, o, ⟨us, e, q⟩, x⟩ => G.len vs H Q E ⟨Fm, ws, O, Qw, Ew, d, o, by subst e; exact q, x⟩, fun A outer s H args us vs Q E hr e0 b r ⟨Fm, ws, O, Qw, Ew, d, o, ⟨us', e, q⟩, x⟩ => G.run A outer s H args us vs Q E hr e0 b r ⟨Fm, ws, O, Qw, Ew, d, o, by subst e; exact q, x⟩⟩
  · have := q.1
    rw [List.length_append] at this
    exact this
end
end TF

set_option maxHeartbeats 1000000
/-! TF28: dict(a list of pairs) -/
namespace TF
open PySem PySem.Spec L2 RZ PyProof.Rows

def kD : Key → Dt
  | .inl i => .int i
  | .inr s => .str s
def mrgD (kws : List (Key × Dt)) : List (Key × Dt) := kws.foldl (fun acc kv => putD acc kv.1 kv.2) []
def dictP1 (fz : Bool) (w : Dt) (O : OW) (Q : KW) : Prop := ∃ kws : List (Key × Dt), asL O w = some (kws.map fun kv => .tup [kD kv.1, kv.2]) ∧ newD fz (mrgD kws) O Q
def dictPW (fz : Bool) : RCW := fun ws O Q => match ws with
  | [w] => dictP1 fz w O Q
  | _ => False
section
variable {X : Cx} {K : PySem.W.Frag} {mg : Str → Option Value} {H : Hp}
theorem pairs_in : ∀ {vs : List V} {kws : List (Key × Dt)}, IsDs K mg H vs (kws.map fun kv => .tup [kD kv.1, kv.2]) → ∃ (ps : List Addr) (kvs : List (Key × V)), vs = ps.map V.ref ∧ Paired (fun p (kv : Key × V) => SqT K H p [kV kv.1, kv.2]) ps kvs ∧ IsKs K mg H kvs kws
  | _, [], d => by
    cases d
    exact ⟨[], [], rfl, .nil, .nil⟩
  | _, (k, w) :: kws, d => by
    cases d with
    | cons d1 d2 =>
      obtain ⟨ps, kvs, e, p, ks⟩ := pairs_in d2
      cases d1 with
      | tup h t =>
        cases t with
        | cons a b =>
          cases b with
          | cons c z =>
            cases z
            rename_i a0 v1 v2
            have e1 : v1 = kV k := by
              cases k with
              | inl i => exact a.of_int
              | inr s => exact a.of_str
            subst e1
            exact ⟨_ :: ps, (k, v2) :: kvs, by rw [e]; rfl, .cons h.tup p, .cons c ks⟩
theorem merge_ks : ∀ {more : List (Key × V)} {mw : List (Key × Dt)} {kvs : List (Key × V)} {kws : List (Key × Dt)}, IsKs K mg H more mw → IsKs K mg H kvs kws → IsKs K mg H (mergeK kvs more) (mw.foldl (fun acc kv => putD acc kv.1 kv.2) kws) := by
  intro more
  induction more with
  | nil => intro mw kvs kws d h; cases d; exact h
  | cons m more ih =>
    intro mw kvs kws d h
    cases d with
    | cons d r =>
      rename_i k v w ws
      exact ih (mw := ws) (kvs := putK kvs k v) (kws := putD kws k w) r (IsKs.put d h)
theorem dictP_ok (hc : X.calm = true) (fz : Bool) : CallW X (.type "dict") (dictPW fz) := by
  intro Fm pins s σ H vs us ws O Q Q' I rv d o q k
  obtain ⟨w, rfl, kws, e, q⟩ := one_of (r := dictP1 fz) q
  obtain ⟨v, ev, dv⟩ := d.one
  subst ev
  obtain ⟨a, xs, rfl, hq, t⟩ := asL_rd dv o e
  obtain ⟨ps, kvs, rfl, hp, hk⟩ := pairs_in t
  refine thn (call_dictP hc pins s σ H _ us (fun v H' => ∃ p, v = .ref p ∧ H' = upd H p (.dK (mergeK [] kvs)) ∧ H p = none) I rv ⟨a, ps, kvs, rfl, .inl hq, hp, fun p np => ⟨p, rfl, rfl, np⟩⟩) fun u s1 ⟨v, H', I', r', p, e1, e2, np⟩ => ?_
  subst e1 e2
  cases r'
  exact ep_newD np (Pers.refl H) I' (merge_ks hk .nil) o q k
variable {k : Nat} {e : Expr} {pos p : Pos} {te : TEw}
theorem xdictP (C : Cok X k) (fz : Bool) (he : WE X e te) (hm : X.mg "dict" = none) (hg : Gl X "dict" := by rfl) (hs : starEach [e] X.env = (false, eval e X.env) :: starEach [] X.env := by rfl) (hpl : (backTo pos (starEach [] X.env)).any (·.1) = false := by rfl) :
    WE X (.Call (.Name "dict" p) [e] [] pos) (bltW (dictPW fz) (consA te nilA)) := we_callTy (dictP_ok C.calm fz) hg hm (by decide +kernel) (a1 (hs := hs) he a0) (by decide +kernel) (by decide +kernel) hs hpl
end
theorem f_dictP {O : OW} {Q : KW} {fz : Bool} {x : Dt} : dictPW fz [x] O Q = dictP1 fz x O Q := rfl
section
variable {Ex : XW} {D : GEndsW} {zs : List Dt} {τ : SW} {O : OW} {Q : KW} {t : TSw} {u v : TGw} {te : TEw} {ti : TIw} {T : Tg} {ar : TAw} {sp : SpGW}
theorem e_listG {fz : Bool} : listGW fz sp ar Ex τ O Q = ar Ex τ O fun ws O1 => sp ws O1 (fun zs O2 => newL fz zs O2 Q) (fun _ _ => False) := rfl
theorem e_seqG : seqG u v Ex D zs τ O = u Ex { D with nx := fun zs1 τ1 O1 => v Ex D zs1 τ1 O1 } zs τ O := rfl
theorem e_nilG : nilG Ex D zs τ O = D.nx zs τ O := rfl
theorem e_plainG : plainG t Ex D zs τ O = t Ex { nx := D.nx zs, rt := D.rt zs, bk := D.bk zs, ct := D.ct zs } τ O := rfl
theorem e_forG : forG ti T u Ex D zs τ O = ti Ex τ O fun I O1 => loopG I.ok T (u Ex) D I.items zs τ O1 := rfl
theorem e_yieldG : yieldG te Ex D zs τ O = (zs.length < LIM ∧ te Ex τ O fun w O1 => D.nx (zs ++ [w]) τ O1) := rfl
end
end TF

set_option maxHeartbeats 2000000
/-! TF29: list(enumerate(list)) -/
namespace TF
open PySem PySem.Spec L2 RZ PyProof.Rows PySem.W
open PyProof.Rows (envOfC)

theorem nolen_enum : typeLookup (.type "enumerate") "__len__" = pure none := by rw [typeLookup_type, builtinLookup_eq_fast]; kernel_rfl
theorem nohint_enum : typeLookup (.type "enumerate") "__length_hint__" = pure none := by rw [typeLookup_type, builtinLookup_eq_fast]; kernel_rfl
def prD : Int → List Dt → List Dt
  | _, [] => []
  | k, w :: ws => .tup [.int k, w] :: prD (k + 1) ws
/-- an enumerate whose pair was handed out and still lives -/
abbrev EnO (h : Heap) (e it : Addr) (i : Int) (a : Addr) (f : Bool) (old : Value) : Prop :=
  h.get? e = some { cls := .type "enumerate", dict := none, data := .fields #[rawInt a, .bool f, .ref it, rawInt i, .none, old], slots := #[] }
section
variable {prog : Program} {w : World} {A : Around} {E : Value → Shared → Prop} {s : Shared}
theorem eno_item {e it l a : Addr} {f : Bool} {oa : Obj} {i : Nat} {items : Array Value} {x old : Value} {Q : Option Value → Shared → Prop}
    (he : EnO s.heap e it i a f old) (ha : s.heap.get? a = some oa) (hae : a ≠ e) (hai : a ≠ it) (hit : s.heap.IsListIter it l i) (hl : s.heap.IsList l items) (hx : items[i]? = some x) (hne : e ≠ it)
    (hQ : ∀ h' old', EnO h' e it ((i : Int) + 1) a true old' → h'.IsListIter it l (i + 1) →
      h'.get? s.heap.objs.size = some { cls := .type "tuple", data := .seq #[.int i s.toks, x] } → h'.objs.size = s.heap.objs.size + 1 →
      (∀ b o, b ≠ e → b ≠ it → s.heap.get? b = some o → h'.get? b = some o) → Q (some (.ref s.heap.objs.size)) { s with heap := h', toks := s.toks + 1 }) :
    wpAny (model prog w) A (pyNext (.ref e)) Q E s := by
  have hT : s.TypeIs (.ref e) "enumerate" := ⟨_, he, rfl⟩
  unfold pyNext
  refine wpAny_bind (wpAny_attempt (wpAny_callSpecial?_slot (name := Str.ofString "__next__") hT PySem.F.slot_enumerate_next
    (wpAny_call_entry PySem.F.slot_enumerate_next hT PySem.F.entry_enumerate_next ?_ (PySem.F.args_enumerate_next_1 _))))
  obtain ⟨hp, g, d, tk, os⟩ := s
  show wpAny _ _ (field (.ref e) 2 >>= _) _ _ _
  refine wpAny_bind (wpAny_field he rfl (x := .ref it) rfl ?_)
  refine wpAny_bind (wpAny_nextOf_list_item hit hl hx fun h₁ hit₁ hs₁ => ?_)
  replace hs₁ : Heap.SameBut it hp h₁ := hs₁
  have he₁ : EnO h₁ e it i a f old := (hs₁.2 e hne).trans he
  show wpAny _ _ (field (.ref e) 3 >>= _) _ _ ⟨h₁, g, d, tk, os⟩
  refine wpAny_bind (wpAny_field he₁ rfl (x := rawInt i) rfl ?_)
  show wpAny _ _ (field (.ref e) 4 >>= _) _ _ ⟨h₁, g, d, tk, os⟩
  refine wpAny_bind (wpAny_field he₁ rfl (x := .none) rfl ?_)
  show wpAny _ _ (mkInt i >>= _) _ _ ⟨h₁, g, d, tk, os⟩
  refine wpAny_bind (wpAny_mkInt ?_)
  show wpAny _ _ (setField (.ref e) 3 (rawInt ((i : Int) + 1)) >>= _) _ _ ⟨h₁, g, d, tk + 1, os⟩
  refine wpAny_bind (wpAny_setField_rec he₁ (by simp) fun h₂ he₂ hs₂ => ?_)
  replace hs₂ : Heap.SameBut e h₁ h₂ := hs₂
  replace he₂ : EnO h₂ e it ((i : Int) + 1) a f old := he₂
  show wpAny _ _ (setField (.ref e) 4 .none >>= _) _ _ ⟨h₂, g, d, tk + 1, os⟩
  refine wpAny_bind (wpAny_setField_rec he₂ (by simp) fun h₃ he₃ hs₃ => ?_)
  replace hs₃ : Heap.SameBut e h₂ h₃ := hs₃
  replace he₃ : EnO h₃ e it ((i : Int) + 1) a f old := he₃
  show wpAny _ _ (newTuple [.int i tk, x] >>= _) _ _ ⟨h₃, g, d, tk + 1, os⟩
  refine wpAny_bind (wpAny_newTuple ?_)
  have he₄ : EnO (h₃.push { cls := .type "tuple", data := .seq #[.int i tk, x] }) e it ((i : Int) + 1) a f old := Heap.get?_push_of_some _ he₃
  generalize hh₄ : h₃.push { cls := .type "tuple", data := .seq #[.int i tk, x] } = h₄ at he₄
  have hsz : h₃.objs.size = hp.objs.size := by rw [hs₃.1, hs₂.1, hs₁.1]
  have hel : e < hp.objs.size := Heap.lt_size he
  have ht₄ : h₄.get? hp.objs.size = some { cls := .type "tuple", data := .seq #[.int i tk, x] } := by rw [← hh₄, ← hsz]; exact Heap.get?_push_size _ rfl
  have hz₄ : h₄.objs.size = hp.objs.size + 1 := by rw [← hh₄, Heap.size_push, hsz]
  have hk₄ : ∀ b o, b ≠ e → b ≠ it → hp.get? b = some o → h₄.get? b = some o := fun b o hbe hbi hb => by
    rw [← hh₄]; exact Heap.get?_push_of_some _ (hs₃.extBut b o hbe (hs₂.extBut b o hbe (hs₁.extBut b o hbi hb)))
  have hit₄ : h₄.IsListIter it l (i + 1) := by
    rw [← hh₄]; obtain ⟨o, ho, r⟩ := (hit₁.extBut hs₂.extBut (Ne.symm hne)).extBut hs₃.extBut (Ne.symm hne); exact ⟨o, Heap.get?_push_of_some _ ho, r⟩
  show wpAny _ _ (Builtin.SmallTypes.ownedTupleIsFree (.ref e) >>= _) _ _ ⟨h₄, g, d, tk + 1, os⟩
  rw [hsz]
  clear hh₄ he₃ hs₃ he₂ hs₂ he₁ hs₁ hit₁ hsz h₃ h₂ h₁
  have ha₄ : h₄.get? a = some oa := hk₄ a oa hae hai ha
  refine wpAny_bind ?_
  unfold Builtin.SmallTypes.ownedTupleIsFree
  refine wpAny_bind (wpAny_field he₄ rfl (x := rawInt a) rfl ?_)
  show wpAny _ _ (loadIfAlive ((a : Int).toNat) >>= _) _ _ _
  rw [Int.toNat_natCast]
  refine wpAny_bind (kdx_alive ha₄ ?_)
  simp only [Option.isNone_some, Bool.false_eq_true, if_false]
  refine wpAny_bind (wpAny_field he₄ rfl (x := .bool f) rfl ?_)
  cases f with
  | true =>
    rw [if_neg (show ¬ ((Value.bool true != Value.bool true) = true) from Bool.false_ne_true)]
    refine wpAny_pure ?_
    simp only [Bool.false_eq_true, if_false]
    exact wpAny_pure ⟨_, rfl, wpAny_pure (hQ h₄ old he₄ hit₄ ht₄ hz₄ hk₄)⟩
  | false =>
    rw [if_pos (show (Value.bool false != Value.bool true) = true from rfl)]
    refine wpAny_bind (wpAny_setField_rec he₄ (by simp) fun h₅ he₅ hs₅ => ?_)
    replace hs₅ : Heap.SameBut e h₄ h₅ := hs₅
    replace he₅ : EnO h₅ e it ((i : Int) + 1) a true old := he₅
    refine wpAny_pure ?_
    simp only [Bool.false_eq_true, if_false]
    exact wpAny_pure ⟨_, rfl, wpAny_pure (hQ h₅ old he₅ (hit₄.extBut hs₅.extBut (Ne.symm hne)) (hs₅.extBut _ _ (Nat.ne_of_gt hel) ht₄) (by rw [hs₅.1, hz₄]) fun b o hbe hbi hb => hs₅.extBut b o hbe (hk₄ b o hbe hbi hb))⟩
theorem eno_end {e it l a : Addr} {f : Bool} {i : Nat} {items : Array Value} {old : Value} {Q : Option Value → Shared → Prop} (hh : A.handled = none)
    (he : EnO s.heap e it i a f old) (hit : s.heap.IsListIter it l i) (hl : s.heap.IsList l items) (hx : items[i]? = none)
    (hQ : ∀ h', Heap.ExtBut it s.heap h' → Q none { s with heap := h' }) : wpAny (model prog w) A (pyNext (.ref e)) Q E s := by
  have hT : s.TypeIs (.ref e) "enumerate" := ⟨_, he, rfl⟩
  unfold pyNext
  refine wpAny_bind (wpAny_attempt (wpAny_callSpecial?_slot (name := Str.ofString "__next__") hT PySem.F.slot_enumerate_next
    (wpAny_call_entry PySem.F.slot_enumerate_next hT PySem.F.entry_enumerate_next ?_ (PySem.F.args_enumerate_next_1 _))))
  show wpAny _ _ (field (.ref e) 2 >>= _) _ _ _
  refine wpAny_bind (wpAny_field he rfl (x := .ref it) rfl ?_)
  refine wpAny_bind (wpAny_nextOf_list_end hh hit hl hx fun h' x he' hx' => ?_)
  obtain ⟨o, ho, hc'⟩ := hx'
  refine wpAny_bind (wpAny_isInstance (T := "StopIteration") (b := true) ⟨o, ho, hc'⟩ isSubtype_stop ?_)
  exact wpAny_pure (hQ _ he')
end

/-- where the enumerate stands -/
def EnS (h : Heap) (e it q : Addr) (i : Int) : Prop := (∃ old, IsEnum h e it i old) ∨ ∃ T f old o, EnO h e it i T f old ∧ h.get? T = some o ∧ T ≠ e ∧ T ≠ it ∧ T ≠ q
theorem EnS.lt {h : Heap} {e it q : Addr} {i : Int} (x : EnS h e it q i) : e < h.objs.size := by
  rcases x with ⟨old, z⟩ | ⟨T, f, old, o, z, _⟩
  · exact Heap.lt_size z
  · exact Heap.lt_size z
theorem EnS.upd {h : Heap} {e it q : Addr} {i : Int} {f : Obj → Obj} (x : EnS h e it q i) (hq : q ≠ e) : EnS (h.update q f) e it q i := by
  rcases x with ⟨old, z⟩ | ⟨T, f, old, o, z, z1, z2, z3, z4⟩
  · exact .inl ⟨old, (Heap.get?_update_other _ _ hq).trans z⟩
  · exact .inr ⟨T, f, old, o, (Heap.get?_update_other _ _ hq).trans z, (Heap.get?_update_other _ _ (Ne.symm z4)).trans z1, z2, z3, z4⟩
section
variable {X : Cx} {pins : List (Addr × Obj)} {σ : L2.St} {Fm : Hp} {A1 : Around}
theorem enum_loop (hh : A1.in1.handled = none) {a q e it : Addr} {xs : List V} {ws : List Dt} {H0 : Hp} {O : OW} {Rs : Result → Shared → Prop} (hne : e ≠ it) (hz : xs.length ≤ sizeLine)
    (hs : ∀ H, Pers H0 H → SqL X.K H a xs) (hd : IsDs X.K X.mg H0 xs ws)
    (hdone : ∀ H1 vs s, Inv X pins σ (upd H1 q (.lst vs)) s → H1 q = none → Pers H0 H1 → Own X.K X.mg Fm O H1 → IsDs X.K X.mg H1 vs (prD 0 ws) → Rs (.ok (.ret .none)) s) :
    ∀ (m i : Nat) (acc : List V) (zs : List Dt) (H1 : Hp) (s : Shared), i + m = xs.length → acc.length = i → prD 0 ws = zs ++ prD (i : Int) (ws.drop i) →
      Inv X pins σ (upd H1 q (.lst acc)) s → H1 q = none → Pers H0 H1 → Own X.K X.mg Fm O H1 → IsDs X.K X.mg H1 acc zs →
      FpOk X pins (upd H1 q (.lst acc)) e → FpOk X pins (upd H1 q (.lst acc)) it → EnS s.heap e it q i → s.heap.IsListIter it a i →
      codeAny (model X.prog X.w) A1 (.builtin "list.extend.loop" ⟨[.ref q, .ref e, .none], []⟩) Rs s := by
  intro m
  induction m with
  | zero =>
    intro i acc zs H1 s hm hal hzs I nq P o da fe fi st hit
    have hlw : ws.length = i := by rw [← hd.length]; omega
    have ezs : prD 0 ws = zs := by
      rw [hzs, List.drop_eq_nil_of_le (by omega)]
      exact List.append_nil _
    refine codeAny_builtin PySem.F.entry_extend_loop ?_
    rw [Around.under_plainId PySem.F.plain_extend_loop _]
    show wpAny _ A1.in1 (pyNext (.ref e) >>= _) _ _ s
    obtain ⟨its, rv, p, hz2⟩ := I.list (hs _ (P.trans (Pers.new nq)))
    have hl := rv.length
    have fin : ∀ h', Heap.ExtBut it s.heap h' → Rs (.ok (.ret .none)) { s with heap := h' } := fun h' eb => by
      obtain ⟨f0, f1, f2, f3, f4, f5⟩ := fi
      exact hdone H1 acc _ (I.turned (t' := s.toks) (fun b o hb q => eb b o hb q) f0 f1 f3 f4 f5) nq P o (by rw [ezs]; exact da)
    rcases st with ⟨old, z⟩ | ⟨T, f, old, ob, z, z1, z2, z3, z4⟩
    · exact wpAny_bind (wpAny_pyNext_enum_end hh z hit p.isList (by simp; omega) fun h' eb => wpAny_pure (fin h' eb))
    · exact wpAny_bind (eno_end hh z hit p.isList (by simp; omega) fun h' eb => wpAny_pure (fin h' eb))
  | succ m ih =>
    intro i acc zs H1 s hm hal hzs I nq P o da fe fi st hit
    refine codeAny_builtin PySem.F.entry_extend_loop ?_
    rw [Around.under_plainId PySem.F.plain_extend_loop _]
    show wpAny _ A1.in1 (pyNext (.ref e) >>= _) _ _ s
    obtain ⟨its, rv, p, hz2⟩ := I.list (hs _ (P.trans (Pers.new nq)))
    have hlx : xs[i]? = some xs[i] := List.getElem?_eq_getElem (by omega)
    obtain ⟨u, hu, ru⟩ := rv.get hlx
    obtain ⟨w, hw, dw⟩ := hd.get' hlx
    have hel : e < s.heap.objs.size := st.lt
    have hil : it < s.heap.objs.size := by obtain ⟨_, q, _⟩ := hit; exact Heap.lt_size q
    have hqs : upd H1 q (.lst acc) q = some (.lst acc) := upd_same
    have hql : q < s.heap.objs.size := Nat.lt_of_not_le fun z => by have := I.hok.fresh z; rw [hqs] at this; cases this
    have hqe : q ≠ e := fun z => by have := fe.1; rw [← z, hqs] at this; cases this
    have hqi : q ≠ it := fun z => by have := fi.1; rw [← z, hqs] at this; cases this
    have nT' : upd H1 q (.lst acc) s.heap.objs.size = none := I.hok.fresh (Nat.le_refl _)
    have hTq : s.heap.objs.size ≠ q := Nat.ne_of_gt hql
    have nT : H1 s.heap.objs.size = none := by rw [upd_ne hTq] at nT'; exact nT'
    have step : ∀ h', EnS h' e it q ((i : Int) + 1) → h'.IsListIter it a (i + 1) → h'.get? s.heap.objs.size = some { cls := .type "tuple", data := .seq #[.int i s.toks, u] } →
        (∀ b o, b ≠ e → b ≠ it → s.heap.get? b = some o → h'.get? b = some o) →
        wpAny (model X.prog X.w) A1.in1 (updateSeq q (·.push (.ref s.heap.objs.size)) >>= fun _ => again (.builtin "list.extend.loop" ⟨[.ref q, .ref e, .none], []⟩))
          (fun fin s' => match fin with | .done f => Rs (.ok f) s' | .again c' => c'.quiet = true ∧ codeAny (model X.prog X.w) A1 c' Rs s') (fun e s' => Rs (.error e) s') { s with heap := h', toks := s.toks + 1 } := by
      intro h' st' hit' hT hk
      have new : ObjOk X.prog X.w (upd (upd H1 q (.lst acc)) s.heap.objs.size (.frz { cls := .type "tuple", data := .seq #[.int i s.toks, u] } (.tup [.int (i : Nat), xs[i]]))) h' s.heap.objs.size (.frz { cls := .type "tuple", data := .seq #[.int i s.toks, u] } (.tup [.int (i : Nat), xs[i]])) :=
        ⟨hT, by show 2 ≤ sizeLine; decide, [.int i s.toks, u], .cons ⟨_, rfl⟩ (.cons ru .nil), ⟨_, hT, rfl, _, rfl⟩⟩
      have I1 : Inv X pins σ (upd (upd H1 q (.lst acc)) s.heap.objs.size (.frz { cls := .type "tuple", data := .seq #[.int i s.toks, u] } (.tup [.int (i : Nat), xs[i]]))) { s with heap := h', toks := s.toks + 1 } :=
        I.turnedNew (ch := [e, it]) (fun b ob hb q => hk b ob (fun z => hb (by simp [z])) (fun z => hb (by simp [z])) q) (fun b hb => by
          have e' : b = e ∨ b = it := by simpa using hb
          rcases e' with z | z
          · subst z; exact fe
          · subst z; exact fi) (Nat.le_refl _) new
      have hq1 : (upd (upd H1 q (.lst acc)) s.heap.objs.size (.frz { cls := .type "tuple", data := .seq #[.int i s.toks, u] } (.tup [.int (i : Nat), xs[i]]))) q = some (.lst acc) := by rw [upd_ne (Ne.symm hTq)]; exact hqs
      obtain ⟨z, its2, k, r2, hl2, e2⟩ := I1.lstM hq1
      refine wpAny_bind (wpAny_updateSeq e2 rfl (wpAny_pure ⟨plainId_quiet PySem.F.plain_extend_loop _, ?_⟩) (by rw [List.size_toArray]; omega) (by show (its2.toArray.push _).size ≤ sizeLine + 1; rw [Array.size_push, List.size_toArray]; omega))
      have I2 := I1.lset (its' := its2 ++ [Value.ref s.heap.objs.size]) (ys := acc ++ [V.ref s.heap.objs.size]) (f := (·.push (Value.ref s.heap.objs.size))) (t' := s.toks + 1) hq1 e2 (by simp) (r2.append (.cons rfl .nil)) (by rw [List.length_append, List.length_singleton]; omega)
      have eH : upd (upd (upd H1 q (.lst acc)) s.heap.objs.size (.frz { cls := .type "tuple", data := .seq #[.int i s.toks, u] } (.tup [.int (i : Nat), xs[i]]))) q (.lst (acc ++ [V.ref s.heap.objs.size])) =
          upd (upd H1 s.heap.objs.size (.frz { cls := .type "tuple", data := .seq #[.int i s.toks, u] } (.tup [.int (i : Nat), xs[i]]))) q (.lst (acc ++ [V.ref s.heap.objs.size])) := by
        funext b
        by_cases h1 : b = q
        · subst h1; rw [upd_same, upd_same]
        · rw [upd_ne h1, upd_ne h1]
          by_cases h2 : b = s.heap.objs.size
          · subst h2; rw [upd_same, upd_same]
          · rw [upd_ne h2, upd_ne h2, upd_ne h1]
      rw [eH] at I2
      have PT : Pers H1 (upd H1 s.heap.objs.size (.frz { cls := .type "tuple", data := .seq #[.int i s.toks, u] } (.tup [.int (i : Nat), xs[i]]))) := Pers.new nT
      have fp : ∀ b, b < s.heap.objs.size → b ≠ q → FpOk X pins (upd H1 q (.lst acc)) b → FpOk X pins (upd (upd H1 s.heap.objs.size (.frz { cls := .type "tuple", data := .seq #[.int i s.toks, u] } (.tup [.int (i : Nat), xs[i]]))) q (.lst (acc ++ [V.ref s.heap.objs.size]))) b := fun b hb hbq f => by
        refine ⟨?_, f.2⟩
        rw [upd_ne hbq, upd_ne (Nat.ne_of_lt hb)]
        have := f.1
        rwa [upd_ne hbq] at this
      have hlw : i < ws.length := by rw [← hd.length]; omega
      refine ih (i + 1) _ (zs ++ [.tup [.int i, w]]) _ _ (by omega) (by rw [List.length_append, hal]; rfl) ?_ I2 (by rw [upd_ne (Ne.symm hTq)]; exact nq) (P.trans PT) (o.laid nT) ((da.pers PT).append (.cons (.tup (.inl ⟨_, upd_same, rfl⟩) (.cons (.int _) (.cons (dw.pers (P.trans PT)) .nil))) .nil)) (fp e hel (Ne.symm hqe) fe) (fp it hil (Ne.symm hqi) fi) ?_ ?_
      · rw [hzs, List.append_assoc]
        have : ws.drop i = w :: ws.drop (i + 1) := by
          obtain ⟨h3, h4⟩ := List.getElem?_eq_some_iff.mp hw
          rw [← h4]; exact List.drop_eq_getElem_cons h3
        rw [this]
        rfl
      · exact st'.upd hqe
      · exact hit'.at fun o z => (Heap.get?_update_other _ _ hqi).trans z
    rcases st with ⟨old, z⟩ | ⟨T, f, old, ob, z, z1, z2, z3, z4⟩
    · refine wpAny_bind (wpAny_pyNext_enum_item z hit p.isList (x := u) (by simpa using hu) hne fun h' ho hit' hT hsz hk => ?_)
      exact step h' (.inr ⟨_, _, _, _, ho, hT, Nat.ne_of_gt hel, Nat.ne_of_gt hil, hTq⟩) hit' hT hk
    · refine wpAny_bind (eno_item z z1 z2 z3 hit p.isList (x := u) (by simpa using hu) hne fun h' old' ho hit' hT hsz hk => ?_)
      exact step h' (.inr ⟨_, _, _, _, ho, hk _ _ z2 z3 z1, z2, z3, z4⟩) hit' hT hk
end

def onEn (fz : Bool) (ws : List Dt) (O1 : OW) (Q : KW) : Prop := match ws with
  | [.lst zs] => newL fz (prD 0 zs) O1 Q
  | _ => False
theorem on_en {fz : Bool} {zs : List Dt} {O1 : OW} {Q : KW} : onEn fz [.lst zs] O1 Q = newL fz (prD 0 zs) O1 Q := rfl
def listEnW (fz : Bool) (t : TAw) : TEw := fun Ex τ O Q => t Ex τ O fun ws O1 => onEn fz ws O1 Q
section
variable {X : Cx} {k : Nat} {e : Expr} {pos p p2 pos2 : Pos} {t : TAw}
theorem xlistEn (C : Cok X k) (fz : Bool) (ha : WA X [e] t) (hm : X.mg "list" = none) (hm2 : X.mg "enumerate" = none) (gl : Gl X "list" := by rfl) (gl2 : Gl X "enumerate" := by rfl) (hs : starEach [e] X.env = [(false, eval e X.env)] := by rfl)
    (hs2 : starEach [.Call (.Name "enumerate" p2) [e] [] pos2] X.env = (false, eval (.Call (.Name "enumerate" p2) [e] [] pos2) X.env) :: starEach [] X.env := by rfl) :
    WE X (.Call (.Name "list" p) [.Call (.Name "enumerate" p2) [e] [] pos2] [] pos) (listEnW fz t) := fun Fm Ex tk => by
  refine ⟨fun pins s σ H Q' I ⟨τ, O, Q, S, o, h, kk⟩ => ?_⟩
  refine wpAny_Call_Name_kw (ld_blt I gl hm (u := .type "list") (by decide +kernel) ?_ (by decide) (by decide))
  refine PyProof.Rows.callWith_type1 ?_ hs2 rfl
  rw [hs2]
  show wpAny _ _ (spliced ((false, eval _ X.env) :: backTo pos (starEach [] X.env))) _ _ s
  refine Calls.spliced_cons ?_
  refine PyProof.Rows.Call_ (ld_blt I gl2 hm2 PyProof.Rows.boot_enumerate (PyProof.Rows.callWith_type1 (thn ((ha Fm Ex tk).run pos2 pins s σ H (fun vs H1 => ∃ ws O1, Pers H H1 ∧ IsDs X.K X.mg H1 vs ws ∧ Own X.K X.mg Fm O1 H1 ∧ onEn fz ws O1 Q) I ⟨τ, O, _, S, o, h, fun vs ws H1 O1 P d o q => ⟨ws, O1, P, d, o, q⟩⟩) fun us s1 ⟨vs, H1, I1, r1, ws, O1, P1, d1, o1, q1⟩ => ?_) hs rfl))
  cases d1 with
  | nil => exact q1.elim
  | cons dv dr =>
    cases dr with
    | cons _ _ => 
      unfold onEn at q1
      split at q1
      · rename_i h7; simp at h7
      · exact q1.elim
    | nil =>
      unfold onEn at q1
      split at q1
      case h_2 => exact q1.elim
      rename_i zs h7
      simp only [List.cons.injEq, and_true] at h7
      subst h7
      cases dv with
      | lst h1 h2 =>
        rename_i a xs
        cases r1 with
        | cons r rr =>
          cases rr
          cases r
          have hq : SqL X.K H1 a xs := .inl h1.rd
          obtain ⟨its, rv, p', hz⟩ := I1.list hq
          refine call_enumerate_list p'.isList fun h' he hit hsz hk => ?_
          have I2 : Inv X pins σ H1 { s1 with heap := h' } := I1.kept (t' := s1.toks) hk
          have fresh2 : ∀ b, (b = s1.heap.objs.size + 1 ∨ b = s1.heap.objs.size) → FpOk X pins H1 b := fun b e' => by
            have hle : s1.heap.objs.size ≤ b := by
              rcases e' with z | z
              · rw [z]; exact Nat.le_add_right _ _
              · rw [z]; exact Nat.le_refl _
            exact I1.fpOk hle (I1.hok.fresh hle)
          refine Calls.spliced_nil ?_
          have hel : s1.heap.objs.size + 1 < h'.objs.size := by rw [hsz]; omega
          generalize hee : s1.heap.objs.size + 1 = ea at *
          generalize hii : s1.heap.objs.size = ia at *
          have hne : ea ≠ ia := by omega
          refine callType_codes (Q₁ := fun obj s₁ => obj = .ref h'.objs.size ∧ s₁ = { s1 with heap := h'.push { cls := .type "list", data := .seq #[] } }) PySem.F.called_list (PySem.F.typeCall_list_1 _) PySem.F.entry_list_init
            (code_list_new _ ⟨rfl, rfl⟩) fun obj s₁ h₁ => ?_
          obtain ⟨rfl, rfl⟩ := h₁
          have hS : (h'.push { cls := .type "list", data := .seq #[] }).get? h'.objs.size = some { cls := .type "list", data := .seq #[] } := Heap.get?_push_size _ rfl
          refine ⟨⟨_, hS, rfl⟩, PySem.F.args_list_init_2 _ _, ?_⟩
          have fr : H1 h'.objs.size = none := I2.hok.fresh (Nat.le_refl _)
          have I3 : Inv X pins σ (upd H1 h'.objs.size (.lst [])) { s1 with heap := h'.push { cls := .type "list", data := .seq #[] } } := I2.lnew (its := []) (t' := s1.toks) .nil (Nat.zero_le _)
          have hSe : h'.objs.size ≠ ea := by omega
          have hSi : h'.objs.size ≠ ia := by omega
          have he3 : IsEnum (h'.push { cls := .type "list", data := .seq #[] }) ea ia 0 .none := Heap.get?_push_of_some _ he
          have hit3 : (h'.push { cls := .type "list", data := .seq #[] }).IsListIter ia a 0 := hit.at fun o e => Heap.get?_push_of_some _ e
          show wpAny _ _ (do let old ← Builtin.List.listItems (.ref h'.objs.size); Builtin.List.listUpdate (.ref h'.objs.size) (fun _ => #[]); letGo old.toList.reverse; Builtin.List.listExtendWith (.ref h'.objs.size) (.ref ea) .none) _ _ _
          refine wpAny_bind ?_
          unfold Builtin.List.listItems
          refine wpAny_bind (wpAny_seqItems hS rfl (wpAny_pure ?_))
          show wpAny _ _ (updateSeq h'.objs.size (fun _ => #[]) >>= fun _ => letGo (#[] : Array Value).toList.reverse >>= fun _ => Builtin.List.listExtendWith (.ref h'.objs.size) (.ref ea) .none) _ _ _
          refine wpAny_bind (wpAny_updateSeq hS rfl ?_)
          have I4 := I3.lset (f := fun _ => #[]) (its := []) (its' := []) (ys := []) (t' := s1.toks) upd_same hS rfl .nil (Nat.zero_le _)
          rw [upd_upd] at I4
          have he4 : IsEnum ((h'.push { cls := .type "list", data := .seq #[] }).update h'.objs.size (Obj.mapSeq fun _ => #[])) ea ia 0 .none := (Heap.get?_update_other _ _ hSe).trans he3
          have hit4 : ((h'.push { cls := .type "list", data := .seq #[] }).update h'.objs.size (Obj.mapSeq fun _ => #[])).IsListIter ia a 0 := hit3.at fun o e => (Heap.get?_update_other _ _ hSi).trans e
          refine wpAny_bind (wpAny_letGo ?_)
          obtain ⟨z3, its3, k3, r3, hl3, e3⟩ := I4.lstM upd_same
          cases r3
          have hT : Shared.TypeIs { s1 with heap := (h'.push { cls := .type "list", data := .seq #[] }).update h'.objs.size (Obj.mapSeq fun _ => #[]) } (.ref ea) "enumerate" := ⟨_, he4, rfl⟩
          unfold Builtin.List.listExtendWith
          refine wpAny_bind (wpAny_typeOf hT ?_)
          have g1 : Builtin.List.listSameRef (.ref h'.objs.size) (.ref ea) = false := by simp [Builtin.List.listSameRef, hSe]
          have g2 : (Value.type "enumerate" == Value.type "list") = false := by decide
          have g3 : (Value.type "enumerate" == Value.type "tuple") = false := by decide
          simp only [g1, g2, g3, Bool.or_false, Bool.false_eq_true, if_false]
          refine wpAny_bind (wpAny_pyIter_enum he4 ?_)
          refine wpAny_bind (wpAny_holding ?_)
          unfold Builtin.List.listLengthHint
          refine wpAny_bind (wpAny_specialOf hT nolen_enum ?_)
          show wpAny _ _ (specialOf (Value.ref ea) (Str.ofString "__length_hint__") >>= _) _ _ _
          refine wpAny_bind (wpAny_specialOf hT nohint_enum ?_)
          refine wpAny_pure ?_
          show wpAny _ _ (rule "list.extend.makes-room" >>= fun _ => Builtin.List.listTouch (.ref h'.objs.size) >>= fun _ =>
            again (.builtin "list.extend.loop" ⟨[.ref h'.objs.size, .ref ea, .none], []⟩)) _ _ _
          refine wpAny_bind (wpAny_rule ?_)
          refine wpAny_bind ?_
          show wpAny _ _ (updateSeq h'.objs.size (·.push .none) >>= fun _ => updateSeq h'.objs.size (·.pop)) _ _ _
          refine wpAny_bind (wpAny_updateSeq e3 rfl ?_)
          have I5 := I4.lset (f := (·.push Value.none)) (its' := [Value.none]) (ys := [.non]) (t' := s1.toks) upd_same e3 (by simp) (.cons rfl .nil) (by rw [List.length_singleton, sizeLine_eq]; decide)
          rw [upd_upd] at I5
          obtain ⟨z4, its5, k4, r4, hl4, e5⟩ := I5.lstM upd_same
          obtain ⟨u4, rfl, ru4⟩ := r4.one
          refine wpAny_updateSeq e5 rfl ?_ (by show 1 ≤ sizeLine; rw [sizeLine_eq]; decide) (by show 0 ≤ sizeLine + 1; exact Nat.zero_le _)
          have I6 := I5.lset (f := (·.pop)) (its := [u4]) (its' := []) (ys := []) (t' := s1.toks) upd_same e5 (by rfl) .nil (Nat.zero_le _)
          rw [upd_upd] at I6
          have fp : ∀ b, b ≠ h'.objs.size → FpOk X pins H1 b → FpOk X pins (upd H1 h'.objs.size (.lst [])) b := fun b hb f => ⟨by rw [upd_ne hb]; exact f.1, f.2⟩
          refine wpAny_pure ⟨plainId_quiet PySem.F.plain_extend_loop _, ?_⟩
          refine enum_loop (X := X) (pins := pins) (σ := σ) (Fm := Fm) (A1 := X.A.in1) (H0 := H1) (O := O1) (xs := xs) (ws := zs) (a := a) (it := ia) (show X.A.in1.in1.handled = none from I1.ok.hd C.calm) hne hz (fun H' P => .inl (h1.pers P).rd) h2 (fun H' vs s' I' nq P o' d => ?_) xs.length 0 [] [] H1 _ (by omega) rfl (by simp) I6 fr (Pers.refl H1) o1 .nil (fp _ (Ne.symm hSe) (fresh2 ea (by omega))) (fp _ (Ne.symm hSi) (fresh2 ia (by omega))) ?_ ?_
          · exact ⟨rfl, ep_newL nq (P1.trans P) I' d o' q1 kk⟩
          · exact ((EnS.upd (.inl ⟨_, he4⟩) hSe).upd hSe)
          · exact (hit4.at fun o e => (Heap.get?_update_other _ _ hSi).trans e).at fun o e => (Heap.get?_update_other _ _ hSi).trans e
end
section
variable {Ex : XW} {τ : SW} {O : OW} {Q : KW} {t : TAw}
theorem e_listEn {fz : Bool} : listEnW fz t Ex τ O Q = t Ex τ O fun ws O1 => onEn fz ws O1 Q := rfl
end
end TF

set_option maxHeartbeats 1000000
/-! TF30: a list is frozen where it is read; repr of a list -/
namespace TF
open PySem PySem.Spec L2 RZ PyProof.Rows

def angW (ta : TEw) : TEw := fun Ex τ O Q => ta Ex τ O fun w O1 => Ang w O1 Q
def reprDW : RCW := fun ws O Q => ∃ zs d, ws = [.lst zs] ∧ PD O (.lst zs) d ∧ d.canLay0 = true ∧ d.showable = true ∧ d.depth ≤ 100 ∧ d.shown.length ≤ sizeLine ∧ Q (.str d.shown) O
section
variable {X : Cx} {k : Nat} {e : Expr} {pos p : Pos} {ta : TEw}
theorem xang (he : WE X e ta) : WE X e (angW ta) := fun Fm Ex tk => by
  refine ⟨fun pins s σ H Q' I ⟨τ, O, Q, S, o, h, kk⟩ => ?_⟩
  refine thn ((he Fm Ex tk).run pins s σ H (fun v H' => ∃ w O1, Pers H H' ∧ IsD X.K X.mg H' v w ∧ Own X.K X.mg Fm O1 H' ∧ Ang w O1 Q) I ⟨τ, O, _, S, o, h, fun v H1 ⟨w, O1, P, d, o1, q⟩ => ⟨w, O1, P, d, o1, q⟩⟩) fun u s1 ⟨v, H', I', r', w, O1, P1, d1, o1, q1⟩ => ?_
  obtain ⟨H2, O2, d2, I2, P2, iv, o2, q2⟩ := Inv.ang I' d1 o1 q1
  exact ⟨v, H2, I2, r', kk _ _ ⟨d2, O2, P1.trans P2, iv, o2, q2⟩⟩
theorem reprD_ok (hg : X.A.guards = some []) (hu : X.A.units + 200 < cLine) : CallW X (.builtin "repr") reprDW := by
  intro Fm pins s σ H vs us ws O Q Q' I rv d o q k
  obtain ⟨zs, dd, rfl, p, c, sh, dp, hl, q⟩ := q
  obtain ⟨v, ev, dv⟩ := d.one
  subst ev
  have D := p.dp o c dv
  obtain ⟨u, rfl, ru⟩ := rv.one
  cases dv with
  | lst h1 h2 =>
    obtain ⟨as, hr⟩ := Dp.reads I dd _ _ D ru
    cases ru
    refine repr_of_reads' hr sh (fun z => by rw [PyData.hasDict_of_canLay _ c] at z; cases z) hg (by omega) (fun _ _ e => e) (fun h' u tk hk => ?_) hl
    exact ⟨.str dd.shown, H, I.kept (t' := tk) hk, ⟨_, rfl⟩, k _ _ (LQ.mk (.str _) o q)⟩
theorem xreprD (C : Cok X k) (h20 : 20 ≤ k) (he : WE X e ta) (hm : X.mg "repr" = none) (hg : Gl X "repr" := by rfl) (hs : starEach [e] X.env = (false, eval e X.env) :: starEach [] X.env := by rfl) (hpl : (backTo pos (starEach [] X.env)).any (·.1) = false := by rfl) :
    WE X (.Call (.Name "repr" p) [e] [] pos) (bltW reprDW (consA ta nilA)) := we_callB (reprD_ok (C.hg h20) (by have := C.hr.un; omega)) hg hm (by decide +kernel) (a1 (hs := hs) he a0) (by decide +kernel) (by decide +kernel) hs hpl
end
section
variable {Ex : XW} {τ : SW} {O : OW} {Q : KW} {ta : TEw} {zs : List Dt}
theorem e_ang : angW ta Ex τ O Q = ta Ex τ O fun w O1 => Ang w O1 Q := rfl
theorem f_reprD : reprDW [.lst zs] O Q = ∃ d, PD O (.lst zs) d ∧ d.canLay0 = true ∧ d.showable = true ∧ d.depth ≤ 100 ∧ d.shown.length ≤ sizeLine ∧ Q (.str d.shown) O := by
  unfold reprDW
  apply propext
  constructor
  · rintro ⟨zs', d, e, r⟩
    cases e
    exact ⟨d, r⟩
  · rintro ⟨d, r⟩
    exact ⟨zs, d, rfl, r⟩
end
end TF

set_option maxHeartbeats 1000000
/-! TF31: comprehensions with two clauses; a, b, c = x, y, z; what is never reached -/
namespace TF
open PySem PySem.Spec L2 RZ PyProof.Rows

def comp2Go (ok : OW → Prop) (T : Tg) (tt : TTw) (ti1 : TIw) (T1 : Tg) (tt1 : TTw) (te : TEw) (τ : SW) (own1 : List Nat) : List Y → List Dt → OW → (List Dt → OW → Prop) → Prop
  | [], acc, O, k => ok O ∧ k acc O
  | y :: ys, acc, O, k => ok O ∧ tgtW T y τ fun τ1 => tt botX τ1 O fun b O1 => if b = true then ti1 botX τ1 O1 fun I1 O2 => compGo I1.ok T1 tt1 te (wipeW τ1 own1) I1.items acc O2 fun acc2 O3 => comp2Go ok T tt ti1 T1 tt1 te τ own1 ys acc2 O3 k
      else comp2Go ok T tt ti1 T1 tt1 te τ own1 ys acc O1 k
def comp2W (fz : Bool) (ti : TIw) (T : Tg) (tt : TTw) (ti1 : TIw) (T1 : Tg) (tt1 : TTw) (te : TEw) (own own1 : List Nat) : TEw := fun Ex τ O Q => ti Ex τ O fun I O1 => comp2Go I.ok T tt ti1 T1 tt1 te (wipeW τ own) own1 I.items [] O1 fun ws O2 => newL fz ws O2 Q
section
variable {X : Cx} {Fm : Hp}
theorem pi_anyF {tg iter : Expr} {t : TIw} (h : WI X tg iter t) : PI X tg iter fun σ H R => ∃ F, LI X.K X.mg F (t botX) σ H R := ⟨fun pins s σ H R I ⟨F, q⟩ => (h F botX takes_bot).run pins s σ H R I q⟩
theorem tLc2_ok {ti ti1 : TIw} {T T1 : Tg} {tt tt1 : TTw} {te : TEw} {own own1 : List Nat} {Ex : XW} {σ : L2.St} {H : Hp} {τ : SW} {O : OW} {R : List Dt → OW → Prop} (hT : ∀ i ∈ T.slots, i ∈ own) (hT1 : ∀ i ∈ T1.slots, i ∈ own1) (S : Slots X.K X.mg H σ τ) (o : Own X.K X.mg Fm O H)
    (h : ti Ex τ O fun I O1 => comp2Go I.ok T tt ti1 T1 tt1 te (wipeW τ own) own1 I.items [] O1 R) :
    tLc2 (LI X.K X.mg Fm (ti Ex)) (gOf X.K T) (fun σ H Q => ∃ F, LT X.K X.mg F (tt botX) σ H Q) (fun σ H R => ∃ F, LI X.K X.mg F (ti1 botX) σ H R) (gOf X.K T1) (fun σ H Q => ∃ F, LT X.K X.mg F (tt1 botX) σ H Q) (fun σ H Q => ∃ F, LE X.K X.mg F (te botX) σ H Q) own own1 σ H (LcPost X Fm H R) := by
  refine ⟨τ, O, _, S, o, h, fun J I H1 O1 P1 o1 sv q D nD => ?_⟩
  have fD : perF Fm H1 D = none := by
    unfold perF
    rw [nD]
    exact o1.fnone nD
  have l1 := fle_perF o1
  refine ⟨fun i m H2 => m = I.items.length - i ∧ ∃ vs ws O2, Own X.K X.mg (upd (perF Fm H1) D (.lst vs)) O2 H2 ∧ IsDs X.K X.mg H2 vs ws ∧ comp2Go I.ok T tt ti1 T1 tt1 te (wipeW τ own) own1 (I.items.drop i) ws O2 R, ⟨_, rfl, [], [], O1, ?_, .nil, by rw [List.drop_zero]; exact q⟩, ?_⟩
  · have P := Pers.new (o := .lst []) nD
    have o1' := o1.perF
    refine ⟨fun a oo e => ?_, fun a u e => ?_, fun a u e => ?_⟩
    · have ha : a ≠ D := fun z => by subst z; rw [o1.none nD] at e; cases e
      exact (o1.at_ a oo e).stay P (upd_ne ha)
    · by_cases ha : a = D
      · subst ha; rw [upd_same] at e ⊢; exact e
      · rw [upd_ne ha] at e ⊢; exact o1'.fr a u e
    · by_cases ha : a = D
      · subst ha; exact o1.none nD
      · rw [upd_ne ha] at e; exact o1'.ap a u e
  · rintro i m H2 ⟨rfl, vs, ws, O2, o2, d2, q2⟩
    have l2 : Fle (perF Fm H1) (upd (perF Fm H1) D (.lst vs)) := fun a u e => by
      rw [upd_ne (fun z => by subst z; rw [fD] at e; cases e)]; exact e
    have P2 : Pers H1 H2 := pers_perF (o2.fle l2)
    have sv2 := fun ok => sv _ H2 O2 P2 o2 ok i
    have hD : H2 D = some (.lst vs) := o2.fr D _ upd_same
    by_cases hlt : i < I.items.length
    · have e := List.getElem?_eq_getElem hlt
      rw [List.drop_eq_getElem_cons hlt] at q2
      obtain ⟨ok2, q2⟩ := q2
      obtain ⟨go, yl⟩ := (sv2 ok2).1 _ e
      refine .inr ⟨go, fun H3 => ∃ vs ws O2, Own X.K X.mg (upd (perF Fm H1) D (.lst vs)) O2 H3 ∧ IsDs X.K X.mg H3 vs ws ∧ comp2Go I.ok T tt ti1 T1 tt1 te (wipeW τ own) own1 (I.items.drop (i + 1)) ws O2 R, fun H3 q3 => ⟨_, by omega, rfl, q3⟩, fun x H3 y => ?_⟩
      obtain ⟨P3, o3, d3⟩ := yl x H3 y
      have S3 := (((S.pers P1).pers P2).pers P3).wipe own
      refine tgt_ok own hT d3 S3 q2 fun σ4 τ4 S4 q4 hw => ⟨by rw [hw]; exact wipe_wipe2, ?_⟩
      refine ⟨_, τ4, O2, _, S4, o3, q4, fun b H5 O5 P5 o5 q5 => ?_⟩
      cases b with
      | false => exact ⟨vs, ws, O5, o5, d2.pers (P3.trans P5), q5⟩
      | true =>
        have S5 := S4.pers P5
        refine ⟨_, τ4, O5, _, S5, o5, q5, fun J1 I1 H6 O6 P6 o6 sv6 q6 => ?_⟩
        refine ⟨fun j k H7 => k = I1.items.length - j ∧ Pers H6 H7 ∧ ∃ vs ws O7, Own X.K X.mg (upd (perF Fm H1) D (.lst vs)) O7 H7 ∧ IsDs X.K X.mg H7 vs ws ∧ compGo I1.ok T1 tt1 te (wipeW τ4 own1) (I1.items.drop j) ws O7 (fun acc2 O3 => comp2Go I.ok T tt ti1 T1 tt1 te (wipeW τ own) own1 (I.items.drop (i + 1)) acc2 O3 R), ⟨_, rfl, Pers.refl _, vs, ws, O6, o6, d2.pers ((P3.trans P5).trans P6), by rw [List.drop_zero]; exact q6⟩, ?_⟩
        rintro j k H7 ⟨rfl, P7, vs7, ws7, O7, o7, d7, q7⟩
        have sv7 := fun ok => sv6 _ H7 O7 P7 o7 ok j
        by_cases hl1 : j < I1.items.length
        · have e1 := List.getElem?_eq_getElem hl1
          rw [List.drop_eq_getElem_cons hl1] at q7
          obtain ⟨ok7, q7⟩ := q7
          obtain ⟨go1, yl1⟩ := (sv7 ok7).1 _ e1
          refine .inr ⟨go1, fun H8 => Pers H6 H8 ∧ ∃ vs ws O7, Own X.K X.mg (upd (perF Fm H1) D (.lst vs)) O7 H8 ∧ IsDs X.K X.mg H8 vs ws ∧ compGo I1.ok T1 tt1 te (wipeW τ4 own1) (I1.items.drop (j + 1)) ws O7 (fun acc2 O3 => comp2Go I.ok T tt ti1 T1 tt1 te (wipeW τ own) own1 (I.items.drop (i + 1)) acc2 O3 R), fun H8 ⟨p8, q8⟩ => ⟨_, by omega, rfl, p8, q8⟩, fun x8 H8 y8 => ?_⟩
          obtain ⟨P8, o8, d8⟩ := yl1 x8 H8 y8
          have S8 := (((S5.pers P6).pers P7).pers P8).wipe own1
          refine tgt_ok own1 hT1 d8 S8 q7 fun σ9 τ9 S9 q9 hw9 => ⟨by rw [hw9]; exact wipe_wipe2, ?_⟩
          refine ⟨_, τ9, O7, _, S9, o8, q9, fun b9 H10 O10 P10 o10 q10 => ?_⟩
          cases b9 with
          | false => exact ⟨(P7.trans P8).trans P10, vs7, ws7, O10, o10, d7.pers (P8.trans P10), q10⟩
          | true =>
            refine ⟨_, τ9, O10, _, S9.pers P10, o10, q10, fun v H11 ⟨w, O11, P11, d11, o11, z11, q11⟩ => ⟨vs7, o11.fr D _ upd_same, ?_, ?_⟩⟩
            · rw [d7.length, lim_eq]; exact z11
            · have fD7 : upd (perF Fm H1) D (.lst vs7) D = some (.lst vs7) := upd_same
              obtain ⟨o12, P12⟩ := Own.grow (us := vs7 ++ [v]) fD o11
              exact ⟨(((P7.trans P8).trans P10).trans P11).trans P12, _, _, O11, o12, ((d7.pers ((P8.trans P10).trans P11)).append (.cons d11 .nil)).pers P12, q11⟩
        · have e1 : I1.items.drop j = [] := List.drop_eq_nil_of_le (by omega)
          rw [e1] at q7
          obtain ⟨ok7, q7⟩ := q7
          exact .inl ⟨(sv7 ok7).2 (by omega), vs7, ws7, O7, o7, d7, q7⟩
    · have e : I.items.drop i = [] := List.drop_eq_nil_of_le (by omega)
      rw [e] at q2
      obtain ⟨ok2, q2⟩ := q2
      refine .inl ⟨(sv2 ok2).2 (by omega), D, vs, ws, O2, rfl, hD, P1.trans P2, d2, (o2.fle l2).fle l1, o2.ap D _ upd_same, ?_, q2⟩
      exact o1.fnone nD
end
def par3W (i j l : Nat) (t : TAw) : TSw := fun Ex D τ O => t Ex τ O fun ws O1 => match ws with
  | [x, y, z] => D.nx (((τ.set i (some x)).set j (some y)).set l (some z)) O1
  | _ => False
/-- a statement that is never reached -/
def nevW : TSw := fun _ _ _ _ => False
section
variable {X : Cx} {k : Nat} {a b c e tg iter tg1 iter1 : Expr} {pos p : Pos} {te : TEw} {tt tt1 : TTw} {T T1 : Tg} {wi wi1 : TIw} {t : TAw}
theorem snev {st : Stmt} : WS X st nevW := fun Fm Ex tk => ⟨fun pins s σ H D' I ⟨D, τ, O, S, o, h, l⟩ => h.elim⟩
theorem three {K : PySem.W.Frag} {mg : Str → Option Value} {H : Hp} {vs : List V} {x y z : Dt} (d : IsDs K mg H vs [x, y, z]) : ∃ u v w, vs = [u, v, w] ∧ IsD K mg H u x ∧ IsD K mg H v y ∧ IsD K mg H w z := by
  cases d with
  | cons d1 d => cases d with
    | cons d2 d => cases d with
      | cons d3 d => cases d; exact ⟨_, _, _, rfl, d1, d2, d3⟩
theorem spar3 (C : Cok X k) (i j l : Nat) {x y z : Str} {px py pz pt : Pos} {kt k2 pt2} (ha : WA X [a, b, c] t) (hi : X.N[i]? = some x := by rfl) (hj : X.N[j]? = some y := by rfl) (hl : X.N[l]? = some z := by rfl) (hij : i ≠ j := by decide) (hil : i ≠ l := by decide) (hjl : j ≠ l := by decide)
    (hx : X.env.scope.names.lookup x = some .local := by rfl) (hy : X.env.scope.names.lookup y = some .local := by rfl) (hz : X.env.scope.names.lookup z = some .local := by rfl)
    (hw : swappedStores [.Tuple [.Name x px, .Name y py, .Name z pz] kt pt] (.Tuple [a, b, c] k2 pt2) X.env = pure (some [x, y, z]) := by rfl)
    (hs : swapsWithSole [.Tuple [.Name x px, .Name y py, .Name z pz] kt pt] (.Tuple [a, b, c] k2 pt2) pos.line X.env = pure false := by rfl) :
    WS X (.Assign [.Tuple [.Name x px, .Name y py, .Name z pz] kt pt] (.Tuple [a, b, c] k2 pt2) pos) (par3W i j l t) := fun Fm Ex tk => PS.imp (ps_par3 C.calm C.hN hi hj hl hij hil hjl hx hy hz (ha Fm Ex tk) hw hs) fun D' σ H ⟨D, τ, O, S, o, q, lx⟩ => by
  refine ⟨τ, O, _, S, o, q, fun vs ws H1 O1 P1 d1 o1 q1 => ?_⟩
  match ws, q1 with
  | [x, y, z], q1 =>
    obtain ⟨v, u, w, ev, dv, du, dw⟩ := three d1
    subst ev
    exact ⟨v, u, w, rfl, lx.nx _ H1 _ O1 ((((S.pers P1).set i dv).set j du).set l dw) o1 q1⟩
theorem xlc2 (C : Cok X k) (fz : Bool) {elt : Expr} {ifs ifs1 : List Expr} {scope : Scope} (own : List (Str × Nat)) (own1 : List Nat) (hi : WI X tg iter wi) (hg : ∀ s H D cl fp, WG (Blk X scope s H D cl fp) tg T) (ht : ∀ s H D cl fp, WTs (Blk X scope s H D cl fp) ifs tt)
    (hi1 : ∀ s H D cl fp, WI (Blk X scope s H D cl fp) tg1 iter1 wi1) (hg1 : ∀ s H D cl fp, WG (Blk X scope s H D cl fp) tg1 T1) (ht1 : ∀ s H D cl fp, WTs (Blk X scope s H D cl fp) ifs1 tt1) (he : ∀ s H D cl fp, WE (Blk X scope s H D cl fp) elt te)
    (hT : ∀ i ∈ T.slots, i ∈ own.map (·.2) := by decide) (hT1 : ∀ i ∈ T1.slots, i ∈ own1 := by decide) (hv : ∀ i ∈ own1, i ∈ own.map (·.2) := by decide) (ok : blkC X.N X.env.scope scope own = true := by first | rfl | kernel_rfl) (hs : ∀ x, foldedSetIterable iter X.env x = pure x := by intro _; rfl) (hs1 : ∀ env x, foldedSetIterable iter1 env x = pure x := by intro _ _; rfl) :
    WE X (.ListComp elt [⟨tg, iter, ifs, 0⟩, ⟨tg1, iter1, ifs1, 0⟩] scope pos) (comp2W fz wi T tt wi1 T1 tt1 te (own.map (·.2)) own1) := fun Fm Ex tk => by
  refine ⟨fun pins s σ H Q' I ⟨τ, O, Q, S, o, h, k⟩ => ?_⟩
  refine thn ((pe_lc2 (g := gOf X.K T) (g1 := gOf X.K T1) C.calm C.hN (hi Fm Ex tk) (blkOk_by ok) hv hg (fun s H C cl fp => pts_anyF (ht s H C cl fp)) (fun s H C cl fp => pi_anyF (hi1 s H C cl fp)) hg1 (fun s H C cl fp => pts_anyF (ht1 s H C cl fp)) (fun s H C cl fp => pe_anyF (he s H C cl fp)) hs hs1).run pins s σ H _ I (tLc2_ok hT hT1 S o h)) fun u s1 ⟨v, H1, I1, r1, q1⟩ => ?_
  exact ep_lcPost I1 r1 q1 k
theorem slc2 (C : Cok X k) (i : Nat) {y : Str} {py : Pos} (fz : Bool) {elt : Expr} {ifs ifs1 : List Expr} {scope : Scope} (own : List (Str × Nat)) (own1 : List Nat) (hi : WI X tg iter wi) (hg : ∀ s H D cl fp, WG (Blk X scope s H D cl fp) tg T) (ht : ∀ s H D cl fp, WTs (Blk X scope s H D cl fp) ifs tt)
    (hi1 : ∀ s H D cl fp, WI (Blk X scope s H D cl fp) tg1 iter1 wi1) (hg1 : ∀ s H D cl fp, WG (Blk X scope s H D cl fp) tg1 T1) (ht1 : ∀ s H D cl fp, WTs (Blk X scope s H D cl fp) ifs1 tt1) (he : ∀ s H D cl fp, WE (Blk X scope s H D cl fp) elt te)
    (hy : X.N[i]? = some y := by rfl) (hyl : X.env.scope.names.lookup y = some .local := by rfl) (hsw : swapsWith (.ListComp elt [⟨tg, iter, ifs, 0⟩, ⟨tg1, iter1, ifs1, 0⟩] scope p) (some (.Name y py)) pos.line X.env = pure true := by rfl)
    (hT : ∀ i ∈ T.slots, i ∈ own.map (·.2) := by decide) (hT1 : ∀ i ∈ T1.slots, i ∈ own1 := by decide) (hv : ∀ i ∈ own1, i ∈ own.map (·.2) := by decide) (ok : blkC X.N X.env.scope scope own = true := by first | rfl | kernel_rfl) (hs : ∀ x, foldedSetIterable iter X.env x = pure x := by intro _; rfl) (hs1 : ∀ env x, foldedSetIterable iter1 env x = pure x := by intro _ _; rfl) :
    WS X (.Assign [.Name y py] (.ListComp elt [⟨tg, iter, ifs, 0⟩, ⟨tg1, iter1, ifs1, 0⟩] scope p) pos) (asgW (comp2W fz wi T tt wi1 T1 tt1 te (own.map (·.2)) own1) (.one i)) := fun Fm Ex tk => by
  refine ⟨fun pins s σ H D' I ⟨D, τ, O, S, o, h, l⟩ => ?_⟩
  have h : wi Ex τ O fun I O1 => comp2Go I.ok T tt wi1 T1 tt1 te (wipeW τ (own.map (·.2))) own1 I.items [] O1 fun ws O2 => newL fz ws O2 fun w O1 => D.nx (τ.set i (some w)) O1 := h
  refine thn ((ps_setLc2 (i := i) (g := gOf X.K T) (g1 := gOf X.K T1) (tt := fun σ H Q => ∃ F, LT X.K X.mg F (tt botX) σ H Q) (tt1 := fun σ H Q => ∃ F, LT X.K X.mg F (tt1 botX) σ H Q) (wi1 := fun σ H R => ∃ F, LI X.K X.mg F (wi1 botX) σ H R) (te := fun σ H Q => ∃ F, LE X.K X.mg F (te botX) σ H Q) C.calm C.hN hy hyl hsw (hi Fm Ex tk) (blkOk_by ok) hv hg (fun s H C cl fp => pts_anyF (ht s H C cl fp)) (fun s H C cl fp => pi_anyF (hi1 s H C cl fp)) hg1 (fun s H C cl fp => pts_anyF (ht1 s H C cl fp)) (fun s H C cl fp => pe_anyF (he s H C cl fp)) hs hs1).run pins s σ H
    { nx := fun σ' H' => ∃ v, σ' = σ.set i (some v) ∧ LcPost X Fm H (fun ws O2 => newL fz ws O2 fun w O1 => D.nx (τ.set i (some w)) O1) v H', rt := fun _ _ => False } I ?_) fun f s1 q => ?_
  · show tLc2 _ _ _ _ _ _ _ _ _ σ H _
    have c := tLc2_ok (T := T) (tt := tt) (T1 := T1) (tt1 := tt1) (te := te) (own := own.map (·.2)) (own1 := own1) hT hT1 S o h
    obtain ⟨τ', O', R', S', o', h', k'⟩ := c
    refine ⟨τ', O', R', S', o', h', fun J I H1 O1 P1 o1 sv q D2 nD => ?_⟩
    obtain ⟨W, m0, turn⟩ := k' J I H1 O1 P1 o1 sv q D2 nD
    refine ⟨W, m0, fun i m H2 w => ?_⟩
    rcases turn i m H2 w with ⟨st, z⟩ | z
    · exact .inl ⟨st, ⟨_, rfl, z⟩⟩
    · exact .inr z
  · cases f with
    | next =>
      obtain ⟨σ', H', I', v, rfl, D2, vs, ws, O2, rfl, hD, P, d, o2, oD, fD, q⟩ := q
      unfold newL at q
      cases fz with
      | false =>
        rw [if_neg Bool.false_ne_true] at q
        refine ⟨_, H', I', l.nx _ H' _ _ ((S.pers P).set i (.ref D2)) ⟨fun a oo e => ?_, o2.fr, fun a w e => ?_⟩ (q D2 oD)⟩
        · by_cases ha : a = D2
          · subst ha; rw [upo_same] at e; cases e; exact ⟨vs, hD, d⟩
          · rw [upo_ne ha] at e; exact o2.at_ a oo e
        · rw [upo_ne (fun z => by subst z; rw [fD] at e; cases e)]; exact o2.ap a w e
      | true =>
        rw [if_pos rfl] at q
        obtain ⟨ob, I2⟩ := I'.lock hD trivial
        have P2 : Pers H' (upd H' D2 (.frz ob (.lst vs))) := Pers.upd (fun _ e => by rw [hD] at e; cases e) (fun _ _ e => by rw [hD] at e; cases e)
        refine ⟨_, _, I2, l.nx _ _ _ _ ((S.pers (P.trans P2)).set i (.lst ⟨ob, upd_same⟩ (d.pers P2))) ⟨fun a oo e => ?_, fun a w e => ?_, o2.ap⟩ q⟩
        · exact (o2.at_ a oo e).stay P2 (upd_ne (fun z => by subst z; rw [oD] at e; cases e))
        · rw [upd_ne (fun z => by subst z; rw [fD] at e; cases e)]; exact o2.fr a w e
    | ret v => obtain ⟨_, _, _, _, _, q⟩ := q; exact q.elim
    | brk => obtain ⟨_, _, _, q⟩ := q; exact False.elim q
    | cont => obtain ⟨_, _, _, q⟩ := q; exact False.elim q
end
section
variable {Ex : XW} {D : EndsW} {τ : SW} {O : OW} {Q : KW} {tt tt1 : TTw} {T T1 : Tg} {wi wi1 : TIw} {te ta tb tc : TEw}
theorem e_comp2 {fz : Bool} {own own1 : List Nat} : comp2W fz wi T tt wi1 T1 tt1 te own own1 Ex τ O Q = wi Ex τ O fun I O1 => comp2Go I.ok T tt wi1 T1 tt1 te (wipeW τ own) own1 I.items [] O1 fun ws O2 => newL fz ws O2 Q := rfl
theorem e_par3 {i j l : Nat} : par3W i j l (consA ta (consA tb (consA tc nilA))) Ex D τ O = ta Ex τ O fun x O1 => tb Ex τ O1 fun y O2 => tc Ex τ O2 fun z O3 => D.nx (((τ.set i (some x)).set j (some y)).set l (some z)) O3 := rfl
end
end TF

set_option maxHeartbeats 1000000
/-! TF32: tuple(a dict), list.extend, repr of an int or None -/
namespace TF
open PySem PySem.Spec L2 RZ PyProof.Rows

def reprNW : RCW := fun ws O Q => match ws with
  | [.int i] => Small i ∧ Q (.str (istr i)) O
  | [.non] => Q (.str "None") O
  | _ => False
section
variable {X : Cx} {k : Nat} {e : Expr} {pos p : Pos} {ta : TEw}
theorem reprN_ok : CallW X (.builtin "repr") reprNW := by
  intro Fm pins s σ H vs us ws O Q Q' I rv d o q k
  match ws, q with
  | [.int i], q => exact repr_ok Fm pins s σ H vs us [.int i] O Q Q' I rv d o q k
  | [.non], q =>
    obtain ⟨v, ev, dv⟩ := d.one
    subst ev
    obtain ⟨u, rfl, ru⟩ := rv.one
    cases dv
    cases ru
    refine PySem.P.repr_of_none ?_
    exact ⟨.str "None", H, I.kept (t' := s.toks + 1) fun _ _ e => e, ⟨_, rfl⟩, k _ _ (LQ.mk (.str _) o q)⟩
theorem xreprN (he : WE X e ta) (hm : X.mg "repr" = none) (hg : Gl X "repr" := by rfl) (hs : starEach [e] X.env = (false, eval e X.env) :: starEach [] X.env := by rfl) (hpl : (backTo pos (starEach [] X.env)).any (·.1) = false := by rfl) :
    WE X (.Call (.Name "repr" p) [e] [] pos) (bltW reprNW (consA ta nilA)) := we_callB reprN_ok hg hm (by decide +kernel) (a1 (hs := hs) he a0) (by decide +kernel) (by decide +kernel) hs hpl
end
section
variable {prog : Program} {w : World} {A : Around} {E : Value → Shared → Prop} {s : Shared}
theorem code_tuple_newD {d : Addr} {n : Nat} {P : Nat → Value → Prop} {OK : Heap → Prop} {Q₁ : Value → Shared → Prop} (K : PySem.W.KdlSrc prog w "dict" d d n P OK) (hh : A.handled = none) (hok : OK s.heap) (hT : s.TypeIs (.ref d) "dict") (hn : n ≤ sizeLine)
    (h : ∀ (h' : Heap) (tk : Nat) (acc : Array Value), (∀ b o, s.heap.get? b = some o → h'.get? b = some o) → ItemsOf P acc n →
      Q₁ (.ref h'.objs.size) { s with heap := h'.push { cls := .type "tuple", data := .seq acc }, toks := tk }) :
    codeAny (model prog w) A (.call (.builtin "tuple.__new__") ⟨[.type "tuple", .ref d], []⟩) (wants Q₁ E) s := by
  refine codeAny_of_tree ?_
  show wpAny _ A.in1 (do checkBuiltinCall "tuple.__new__" ⟨[.type "tuple", .ref d], []⟩; again (.builtin "tuple.__new__" ⟨[.type "tuple", .ref d], []⟩)) _ _ s
  refine wpAny_bind (wpAny_of_eq (F.newCall_tuple_1 _) (wpAny_pure ⟨plainId_quiet F.plain_tuple_new _, codeAny_builtin F.entry_tuple_new ?_⟩))
  rw [Around.under_plainId F.plain_tuple_new _]
  have hsub := sub_tuple_self
  have hinit := init_tuple_lookup
  have hmh := madeHere_tuple
  have hh1 : A.in1.handled = none := hh
  wp_walk using wpAny_typeOf hT, PySem.W.kdu_collect (A := A.in1) K hh1 hok hn
  intro h' tk acc hk hacc
  show wpAny _ _ (Builtin.Tuple.tupleExact acc.toList.toArray >>= fun v => ret v) _ _ _
  unfold Builtin.Tuple.tupleExact
  refine wpAny_bind (wpAny_newObj_type ?_ (by show acc.toList.toArray.size ≤ sizeLine; simp only [Array.toArray_toList]; rw [hacc.1]; exact hn))
  refine wpAny_pure ?_
  have e : acc.toList.toArray = acc := by simp
  rw [e]
  exact h h' tk acc hk hacc
theorem call_tuple_newD {d : Addr} {n : Nat} {P : Nat → Value → Prop} {OK : Heap → Prop} {Q : Value → Shared → Prop} (K : PySem.W.KdlSrc prog w "dict" d d n P OK) (hh : A.handled = none) (hok : OK s.heap) (hT : s.TypeIs (.ref d) "dict") (hn : n ≤ sizeLine)
    (h : ∀ (h' : Heap) (tk : Nat) (acc : Array Value), (∀ b o, s.heap.get? b = some o → h'.get? b = some o) → ItemsOf P acc n →
      Q (.ref h'.objs.size) { s with heap := h'.push { cls := .type "tuple", data := .seq acc }, toks := tk }) :
    wpAny (model prog w) A (call (.type "tuple") [.ref d]) Q E s := by
  refine callType_codes (Q₁ := fun obj s₁ => s₁.TypeIs obj "tuple" ∧ Q obj s₁) F.called_tuple (F.typeCall_tuple_1 _) F.entry_object_init
    (code_tuple_newD (A := A.in1) K hh hok hT hn fun h' tk acc hk hacc => ⟨⟨_, Heap.get?_push_size _ rfl, rfl⟩, h h' tk acc hk hacc⟩) fun obj s₁ h₁ => ?_
  exact ⟨h₁.1, F.args_object_init_2 obj _, object_init_meets F.called_tuple.init.lookup F.called_tuple.made (by decide) prog w A.in1 _ s₁ ⟨h₁.1, rfl, h₁.2⟩⟩
end
/-- tuple(a dict): its keys -/
def tupDW : RCW := fun ws O Q => ∃ x kvs, ws = [x] ∧ asK O x = some kvs ∧ Q (.tup (kvs.map fun kv => kD kv.1)) O
section
variable {X : Cx} {K : PySem.W.Frag} {mg : Str → Option Value} {H : Hp}
theorem kV_is (k : Key) : IsD K mg H (kV k) (kD k) := by
  cases k with
  | inl i => exact .int i
  | inr s => exact .str s
theorem ks_keys : ∀ {vs : List (Key × V)} {ks : List (Key × Dt)}, IsKs K mg H vs ks → IsDs K mg H (vs.map fun kv => kV kv.1) (ks.map fun kv => kD kv.1)
  | _, _, .nil => .nil
  | _, _, .cons (k := k) d r => .cons (kV_is k) (ks_keys r)
theorem tupD_ok (hc : X.calm = true) : CallW X (.type "tuple") tupDW := by
  intro Fm pins s σ H vs us ws O Q Q' I rv d o q k
  obtain ⟨x, kws, rfl, e, q⟩ := q
  obtain ⟨v, ev, dv⟩ := d.one
  subst ev
  obtain ⟨a, kvs, rfl, rd, ks⟩ := asK_rd dv o e
  obtain ⟨u, rfl, ru⟩ := rv.one
  cases ru
  obtain ⟨z, lo, bs, rel, dd⟩ := dk_rd I.hok rd
  obtain ⟨ep, hat⟩ := dd.dictAt
  have ek : (kvs.map fun kv => kV kv.1) = bs.map fun p => kV p.1 := by
    have e := congrArg (List.map kV) rel.keys
    rw [List.map_map, List.map_map] at e
    exact e
  have hT : s.TypeIs (.ref a) "dict" := by
    obtain ⟨od, es, hod, hcd, _⟩ := hat
    exact ⟨od, hod, hcd.1⟩
  refine call_tuple_newD (PySem.W.kdl_dict (knd := mixKind X.prog X.w) (kvs := bs) (ep := ep) lo) (I.ok.hd hc) hat hT (by rw [← rel.length]; exact z) fun h' tk acc hk hacc => ?_
  have hv : Vals (bs.map fun p => kV p.1) acc.toList := keys_at (by rw [Array.length_toList]; exact hacc.1) fun j v e => hacc.2 j v (by rw [← Array.getElem?_toList]; exact e)
  have I' : Inv X pins σ H { s with heap := h', toks := tk } := I.kept hk
  have fin := ep_newT (t' := tk) (its := acc.toList) (vs := kvs.map fun kv => kV kv.1) I' (by rw [ek]; exact hv) (by rw [List.length_map]; exact z) (Pers.refl H) (ks_keys ks) o q k
  rw [Array.toArray_toList] at fin
  exact fin
variable {k : Nat} {e : Expr} {pos p : Pos} {te : TEw}
theorem xtupD (C : Cok X k) (he : WE X e te) (hm : X.mg "tuple" = none) (hg : Gl X "tuple" := by rfl) (hs : starEach [e] X.env = (false, eval e X.env) :: starEach [] X.env := by rfl) (hpl : (backTo pos (starEach [] X.env)).any (·.1) = false := by rfl) :
    WE X (.Call (.Name "tuple" p) [e] [] pos) (bltW tupDW (consA te nilA)) := we_callTy (tupD_ok C.calm) hg hm (by decide +kernel) (a1 (hs := hs) he a0) (by decide +kernel) (by decide +kernel) hs hpl
end
/-- l.extend(r) of a list that is not l -/
def extendM : RMW := fun x ws O Q => onL O x fun a l => match ws with
  | [.lst zs] => l.length + zs.length ≤ LIM ∧ Q .non (upo O a (.lst (l ++ zs)))
  | _ => False
section
variable {X : Cx} {k : Nat} {f e : Expr} {es : List Expr} {pos : Pos} {ta : TEw} {t : TAw}
theorem extend_ok : MtW X "list.extend" extendM := by
  intro Fm pins s σ H xv vs u us x ws O Q Q' I rx rv d1 d2 o q k
  obtain ⟨a, l, rfl, e, q⟩ := onL_is q
  match ws, q with
  | [.lst zs], ⟨hz, q⟩ =>
    obtain ⟨y, ev, dy⟩ := d2.one
    subst ev
    obtain ⟨ls, hH, dl⟩ := o.at_ a _ e
    cases d1
    cases dy with
    | lst h1 h2 =>
      rename_i b bs
      cases rx
      obtain ⟨u2, rfl, ru⟩ := rv.one
      cases ru
      obtain ⟨z, its, n, r, hl, e1⟩ := I.lstM hH
      obtain ⟨z2, its2, n2, r2, e2⟩ := (show ObjOk X.prog X.w H s.heap b (.lst bs) from rd_of I.hok h1.rd)
      have hl2 := r2.length
      have hsz : its.toArray.size + its2.toArray.size ≤ sizeLine := by
        rw [List.size_toArray, List.size_toArray, ← hl2, ← hl, dl.length, h2.length, lim_eq]; exact hz
      have hlong : ¬ (!its.toArray.isEmpty && Builtin.List.listTooLong (its.toArray.size + its2.toArray.size)) = true := by
        rw [notLongL hsz, Bool.and_false]
        exact Bool.false_ne_true
      refine call_meets F.slot_list_extend ⟨_, e1, rfl⟩ F.entry_list_extend (F.args_list_extend_2 _ _)
        (AutoSeq1.list_extend_list_list_0 a its.toArray n b its2.toArray n2 hlong (by rw [List.size_toArray]; omega) (by omega)) ⟨e1, e2, ?_⟩
      refine ⟨.non, _, I.lset (its' := its ++ its2) hH e1 (by simp) (r.append r2) ?_, rfl, k _ _ (LQ.lst o e (dl.append h2) .non q)⟩
      rw [List.length_append, dl.length, h2.length, lim_eq]; exact hz
theorem xextend (ho : WE X f ta) (ha : WA X (e :: es) t) {apos : Pos} (hbase : attributeBase f "extend" X.env (eval f X.env) = eval f X.env := by rfl)
    (hfew : ((backTo pos (starEach (e :: es) X.env)).all (fun x => !x.1) && (backToKw pos (keywordEach [] X.env)).all (fun x => x.1.isSome)
      && decide ((e :: es).length + ([] : List Keyword).length + (if ([] : List Keyword).isEmpty then 0 else 1) < 30)) = true := by rfl)
    (hline : (apos.endLine == pos.line) = true := by rfl) (hs : starEach (e :: es) X.env = (false, eval e X.env) :: starEach es X.env := by rfl) (hplain : (backTo pos (starEach es X.env)).any (·.1) = false := by rfl) :
    WE X (.Call (.Attribute f "extend" apos) (e :: es) [] pos) (mtW .list extendM ta t) := we_mt F.plainAttrs_list F.slot_list_extend rfl extend_ok ho ha hbase hfew hline hs hplain
end
section
variable {O : OW} {Q : KW}
theorem m_extend {a : Addr} {l zs : List Dt} (h : O a = some (OO.lst l)) : extendM (.ref a) [.lst zs] O Q = (l.length + zs.length ≤ LIM ∧ Q .non (upo O a (.lst (l ++ zs)))) := by
  show onL O (.ref a) _ = _
  unfold onL
  simp only [h]
theorem f_reprNi {i : Int} : reprNW [.int i] O Q = (Small i ∧ Q (.str (istr i)) O) := rfl
theorem f_reprNn : reprNW [.non] O Q = Q (.str "None") O := rfl
end
end TF

set_option maxHeartbeats 1000000
/-! TF33: where an exception is handled: walks end, tuples are taken apart -/
namespace TF
open PySem PySem.Spec L2 RZ PyProof.Rows

section
variable {prog : Program} {w : World} {A : Around} {E : Value → Shared → Prop} {s : Shared}
theorem list_end_hot {it l x1 : Addr} {i : Nat} {items : Array Value} {Q : Option Value → Shared → Prop} (hot : HotX.HotAt A x1 s.heap) (hne : x1 ≠ it) (hit : s.heap.IsListIter it l i) (hl : s.heap.IsList l items) (hx : items[i]? = none)
    (hQ : ∀ h', (∀ b o, b ≠ it → s.heap.get? b = some o → h'.get? b = some o) → Q none { s with heap := h' }) : wpAny (model prog w) A (pyNext (.ref it)) Q E s := by
  obtain ⟨o, ho, hc, hd⟩ := id hit
  obtain ⟨ol, hol, _, nl, hdl⟩ := hl
  obtain ⟨hh, o1, vs1, h1, d1, c1⟩ := hot
  unfold pyNext
  refine wpAny_bind (wpAny_attempt (wpAny_callSpecial?_slot (name := Str.ofString "__next__") hit.typeIs slot_listiter_next (wpAny_call_entry slot_listiter_next hit.typeIs entry_listiter_next ?_ (args_listiter_next _))))
  show wpAny _ _ (field (.ref it) 0 >>= _) _ _ s
  refine wpAny_bind (wpAny_field ho hd (x := .ref l) rfl ?_)
  show wpAny _ _ (if (Value.ref l == Value.none) = true then _ else _) _ _ s
  rw [if_neg (show ¬ ((Value.ref l == Value.none) = true) from Bool.false_ne_true)]
  show wpAny _ _ (field (.ref it) 1 >>= _) _ _ s
  refine wpAny_bind (wpAny_field ho hd (x := .int i 0) rfl ?_)
  show wpAny _ _ (seqItems? (.ref l) >>= _) _ _ s
  refine wpAny_bind (wpAny_seqItems hol hdl ?_)
  simp only [Int.toNat_natCast, hx]
  refine wpAny_bind (wpAny_rule (wpAny_bind (wpAny_setField ho hd (by simp) ?_)))
  have k : ∀ (f : Obj → Obj) b o, b ≠ it → s.heap.get? b = some o → (s.heap.update it f).get? b = some o := fun f b o hb e => (Heap.get?_update_other _ _ (Ne.symm hb)).trans e
  show wpAny _ _ (newExc (.type "StopIteration") [] >>= _) _ _ _
  refine wpAny_bind ?_
  simp only [newExc, newTuple]
  refine wpAny_bind (wpAny_newObj_type ?_ (by size_fits))
  refine wpAny_bind (m := firstArgMember _ _) (wpAny_of_eq (a := Value.none) (by first | rfl | (simp only [firstArgMember]; rfl)) ?_)
  refine wpAny_newObj_type ?_ (by size_fits)
  refine HotX.raiseNew_hot ⟨hh, o1, vs1, Heap.get?_push_of_some _ (Heap.get?_push_of_some _ (k _ _ _ hne h1)), d1, c1⟩ (Nat.ne_of_lt (Heap.lt_size (Heap.get?_push_of_some _ (k _ _ _ hne h1)))) (Heap.get?_push_size _ rfl) rfl (by first | (simp; done) | (simp; omega) | (simp only [Array.size_append]; simp; omega)) ?_
  refine wpAny_bind (wpAny_isInstance (T := "StopIteration") (b := true) ⟨_, Heap.get?_update_self _ (Heap.get?_push_size _ rfl) rfl, rfl⟩ isSubtype_stop ?_)
  refine wpAny_pure (hQ _ fun b o hb e => ?_)
  rw [Heap.get?_update_other _ _ (Nat.ne_of_gt (Heap.lt_size (Heap.get?_push_of_some _ (k _ b o hb e))))]
  exact Heap.get?_push_of_some _ (Heap.get?_push_of_some _ (k _ b o hb e))
theorem tuple_end_hot {it t x1 : Addr} {i : Nat} {items : Array Value} {Q : Option Value → Shared → Prop} (hot : HotX.HotAt A x1 s.heap) (hne : x1 ≠ it) (hit : IsTupIter s.heap it t i) (ht : IsTup s.heap t items) (hx : items[i]? = none)
    (hQ : ∀ h', (∀ b o, b ≠ it → s.heap.get? b = some o → h'.get? b = some o) → Q none { s with heap := h' }) : wpAny (model prog w) A (pyNext (.ref it)) Q E s := by
  obtain ⟨o, ho, hc, hd⟩ := id hit
  obtain ⟨ol, hol, _, nl, hdl⟩ := ht
  obtain ⟨hh, o1, vs1, h1, d1, c1⟩ := hot
  unfold pyNext
  refine wpAny_bind (wpAny_attempt (wpAny_callSpecial?_slot (name := Str.ofString "__next__") hit.typeIs slot_tupleiter_next (wpAny_call_entry slot_tupleiter_next hit.typeIs entry_tupleiter_next ?_ (args_tupleiter_next _))))
  show wpAny _ _ (field (.ref it) 0 >>= _) _ _ s
  refine wpAny_bind (wpAny_field ho hd (x := .ref t) rfl ?_)
  show wpAny _ _ (if (Value.ref t == Value.none) = true then _ else _) _ _ s
  rw [if_neg (show ¬ ((Value.ref t == Value.none) = true) from Bool.false_ne_true)]
  show wpAny _ _ (field (.ref it) 1 >>= _) _ _ s
  refine wpAny_bind (wpAny_field ho hd (x := .int i 0) rfl ?_)
  show wpAny _ _ (seqItems? (.ref t) >>= _) _ _ s
  refine wpAny_bind (wpAny_seqItems hol hdl ?_)
  simp only [Int.toNat_natCast, hx]
  refine wpAny_bind (wpAny_rule (wpAny_bind (wpAny_setField ho hd (by simp) ?_)))
  have k : ∀ (f : Obj → Obj) b o, b ≠ it → s.heap.get? b = some o → (s.heap.update it f).get? b = some o := fun f b o hb e => (Heap.get?_update_other _ _ (Ne.symm hb)).trans e
  show wpAny _ _ (newExc (.type "StopIteration") [] >>= _) _ _ _
  refine wpAny_bind ?_
  simp only [newExc, newTuple]
  refine wpAny_bind (wpAny_newObj_type ?_ (by size_fits))
  refine wpAny_bind (m := firstArgMember _ _) (wpAny_of_eq (a := Value.none) (by first | rfl | (simp only [firstArgMember]; rfl)) ?_)
  refine wpAny_newObj_type ?_ (by size_fits)
  refine HotX.raiseNew_hot ⟨hh, o1, vs1, Heap.get?_push_of_some _ (Heap.get?_push_of_some _ (k _ _ _ hne h1)), d1, c1⟩ (Nat.ne_of_lt (Heap.lt_size (Heap.get?_push_of_some _ (k _ _ _ hne h1)))) (Heap.get?_push_size _ rfl) rfl (by first | (simp; done) | (simp; omega) | (simp only [Array.size_append]; simp; omega)) ?_
  refine wpAny_bind (wpAny_isInstance (T := "StopIteration") (b := true) ⟨_, Heap.get?_update_self _ (Heap.get?_push_size _ rfl) rfl, rfl⟩ isSubtype_stop ?_)
  refine wpAny_pure (hQ _ fun b o hb e => ?_)
  rw [Heap.get?_update_other _ _ (Nat.ne_of_gt (Heap.lt_size (Heap.get?_push_of_some _ (k _ b o hb e))))]
  exact Heap.get?_push_of_some _ (Heap.get?_push_of_some _ (k _ b o hb e))
theorem unpack_hot {t x1 : Addr} {items : Array Value} {Q : List Value → Shared → Prop} (hot : HotX.HotAt A x1 s.heap) (ht : IsTup s.heap t items)
    (hQ : ∀ h', (∀ b o, s.heap.get? b = some o → h'.get? b = some o) → Q items.toList { s with heap := h' }) : wpAny (model prog w) A (unpackItems (.ref t) items.size none) Q E s := by
  have hlt : t ≠ s.heap.objs.size := by obtain ⟨o, ho, _⟩ := ht; exact Nat.ne_of_lt (Heap.lt_size ho)
  obtain ⟨hh, o1, vs1, h1, d1, c1⟩ := hot
  have hne : x1 ≠ s.heap.objs.size := Nat.ne_of_lt (Heap.lt_size h1)
  unfold unpackItems
  refine wpAny_bind ?_
  · unfold notIterableAtAll
    refine wpAny_bind (wpAny_specialOf ht.typeIs slot_tuple_iter.lookup ?_)
    refine wpAny_pure ?_
    simp only [Bool.false_eq_true, if_false]
    refine wpAny_bind (wpAny_holding (iter_tuple ht ?_))
    refine wpAny_bind (wpAny_holding (draw_tuple hlt items.size 0 _ _ ⟨_, Heap.get?_push_size _ rfl, rfl, rfl⟩ (ht.push _) (by omega) fun h₁ hit₁ hs₁ => ?_))
    have hall : List.take items.size (List.drop 0 items.toList) = items.toList := by
      rw [List.drop_zero]; exact List.take_of_length_le (by simp)
    rw [hall]
    rw [if_neg (by simp)]
    have ht₁ : IsTup h₁ t items := (ht.push _).extBut hs₁.extBut hlt
    have e1 := hs₁.extBut x1 o1 hne (Heap.get?_push_of_some _ h1)
    refine wpAny_bind (wpAny_holding (tuple_end_hot (x1 := x1) ⟨hh, o1, vs1, e1, d1, c1⟩ hne hit₁ ht₁ (by simp) fun h₂ he₂ => ?_))
    simp only [Option.isSome_none, Bool.false_eq_true, if_false]
    refine wpAny_pure (hQ h₂ fun b o e => he₂ b o (Nat.ne_of_lt (Heap.lt_size e)) (hs₁.extBut b o (Nat.ne_of_lt (Heap.lt_size e)) (Heap.get?_push_of_some _ e)))
theorem assign_hot {env : Env} {elts : List Expr} {k} {pos : Pos} {t x1 : Addr} {items : Array Value} {Q : Unit → Shared → Prop} (hot : HotX.HotAt A x1 s.heap) (ht : IsTup s.heap t items)
    (hn : (assignEach elts env).length = items.size) (hstar : (assignEach elts env).findIdx? (·.1) = none)
    (h : ∀ h', (∀ b o, s.heap.get? b = some o → h'.get? b = some o) → wpAny (model prog w) A (assignInOrder ((assignEach elts env).map (·.2)) items.toList) Q E { s with heap := h' }) :
    wpAny (model prog w) A (assign (.Tuple elts k pos) env (.ref t)) Q E s := by
  rw [assign_Tuple]
  refine wpAny_bind (wpAny_standAt ?_)
  unfold unpack
  rw [hn, hstar]
  exact wpAny_bind (wpAny_holding (unpack_hot hot ht h))
end
end TF

set_option maxHeartbeats 2000000
/-! TF34: walks and comprehensions where an exception is handled -/
namespace TF
open PySem PySem.Spec L2 RZ PyProof.Rows

/-- the exception that is handled stands in all states of the context -/
structure HotG (X : Cx) (a : Addr) (oe : Obj) : Prop where
  hot : L2H.Hot1 X.A (a, oe)
  at_ : ∀ (pins : List (Addr × Obj)) (σ : L2.St) (H : Hp) (s : Shared), Inv X pins σ H s → s.heap.get? a = some oe
section
variable {X : Cx} {a : Addr} {oe : Obj} {pins : List (Addr × Obj)} {σ : L2.St} {H : Hp} {s : Shared}
theorem HotG.hotAt (h : HotG X a oe) (I : Inv X pins σ H s) : HotX.HotAt X.A a s.heap := by
  obtain ⟨hh, vs, e, c⟩ := h.hot
  exact ⟨hh, oe, vs, h.at_ _ _ _ _ I, e, c⟩
theorem HotG.pin (hot : L2H.Hot1 X.A (a, oe)) (hp : (a, oe) ∈ X.pn) : HotG X a oe := ⟨hot, fun pins σ H s I => (I.pin (a, oe) (List.mem_append_left _ hp)).1⟩
theorem HotG.blk {scope : Scope} {ce : Env} {fp : List Addr} (hot : L2H.Hot1 X.A (a, oe)) (e : s.heap.get? a = some oe) (n : H a = none) (nf : a ∉ frs X.stack) (nx : a ∉ fp) : HotG (X.blk s H scope ce fp) a oe :=
  ⟨hot, fun pins σ H s I => I.base.keep a oe e n nf nx⟩
theorem pg_tupG {es : List Expr} {k : Nat} {t : TGs} {n : Nat} {pos : Pos} (hc : HotG X a oe) (h : PGs X es t) (hn : (assignEach es X.env).length = n) (hst : (assignEach es X.env).findIdx? (·.1) = none) : PG X (.Tuple es k pos) (gTup X.K n t) := by
  refine ⟨fun pins s σ H v u Q I r hw => ?_⟩
  obtain ⟨b, xs, e1, hq, hl, hw⟩ := hw
  subst e1
  cases r
  obtain ⟨its, rv, ht, hz⟩ := I.tuple hq
  refine assign_hot (hc.hotAt I) ht (by simp [hn, ← hl, rv.length]) hst fun h' hx => ?_
  exact h.run pins _ σ H xs _ Q (I.kept (t' := s.toks) hx) (by simpa using rv) hw
end

/-! ### walks -/
structure TurnG (P : Program) (w : World) (K : PySem.W.Frag) (a1 : Addr) (oe : Obj) (tg : Expr) (J : It) (fp : List Addr) (it : Addr) (tn : Nat → Heap → Prop) : Prop where
  mem : it ∈ fp
  obj : ∀ i h, tn i h → ∀ b ∈ fp, ∃ o, h.get? b = some o ∧ ∀ v, o.data ≠ .cell v
  keep : ∀ i h h', tn i h → (∀ b ∈ fp, ∀ o, h.get? b = some o → h'.get? b = some o) → tn i h'
  item : ∀ (X : Cx), X.prog = P → X.w = w → X.K = K → HotG X a1 oe → ∀ (i : Nat) (pins : List (Addr × Obj)) (s : Shared) (σ : L2.St) (H : Hp) (E : Value → Shared → Prop), Inv X pins σ H s → (∀ b ∈ fp, FpOk X pins H b ∧ a1 ≠ b) → tn i s.heap → J.go i H →
    wpAny (model P w) X.A (pyNext (.ref it)) (fun r s1 => ∃ u, r = some u ∧
      wpAny (model P w) X.A (letOwnedTupleGo tg (.ref it) u) (fun _ s2 => ∃ x H', Inv X pins σ H' s2 ∧ RelV x u ∧ J.yld i H x H' ∧ tn (i + 1) s2.heap ∧ ∀ b ∈ fp, H' b = none) E s1) E s
  done : ∀ (X : Cx), X.prog = P → X.w = w → X.K = K → HotG X a1 oe → ∀ (i : Nat) (pins : List (Addr × Obj)) (s : Shared) (σ : L2.St) (H : Hp) (E : Value → Shared → Prop), Inv X pins σ H s → (∀ b ∈ fp, FpOk X pins H b ∧ a1 ≠ b) → tn i s.heap → J.stop i H →
    wpAny (model P w) X.A (pyNext (.ref it)) (fun r s1 => r = none ∧ Inv X pins σ H s1) E s
  self : ∀ (A : Around) (i : Nat) (s : Shared) (Q : Value → Shared → Prop) (E : Value → Shared → Prop), tn i s.heap → Q (.ref it) s → wpAny (model P w) A (pyIter (.ref it)) Q E s
theorem turn_listG {P : Program} {w : World} {K : PySem.W.Frag} {a1 : Addr} {oe : Obj} {tg : Expr} (a it : Addr) : TurnG P w K a1 oe tg (Itl K a) [it] it (fun i h => h.IsListIter it a i) where
  mem := by simp
  obj := fun i h st b hb => by
    have e : b = it := by simpa using hb
    subst e
    obtain ⟨o, e, c, d⟩ := st
    exact ⟨o, e, fun v z => by rw [d] at z; cases z⟩
  keep := fun i h h' st k => st.at fun o e => k it (by simp) o e
  item := by
    intro X hP hw hK _ i pins s σ H E I hf st hg
    subst hP hw hK
    obtain ⟨xs, x, hq, hx⟩ := hg
    obtain ⟨its, rv, p, hz⟩ := I.list hq
    obtain ⟨u, hu, ru⟩ := rv.get hx
    obtain ⟨⟨f0, f1, f2, f3, f4, f5⟩, _⟩ := hf it (by simp)
    refine wpAny_pyNext_list_item st p.isList (x := u) (by simpa using hu) fun h' st' sb => ?_
    have I1 : Inv X pins σ H { s with heap := h' } := I.turned (t' := s.toks) (fun b o hb e => (sb.2 b hb).trans e) f0 f1 f3 f4 f5
    obtain ⟨o, e, c, d⟩ := id st'
    exact ⟨u, rfl, go_of (s := { s with heap := h' }) e c d (by decide) ⟨x, H, I1, ru, ⟨rfl, fun ys hy => by rw [I.list_inj hy hq]; exact hx⟩, st', fun b hb => (hf b hb).1.1⟩⟩
  done := by
    intro X hP hw hK hc i pins s σ H E I hf st hg
    subst hP hw hK
    obtain ⟨xs, hq, hx⟩ := hg
    obtain ⟨its, rv, p, hz⟩ := I.list hq
    obtain ⟨⟨f0, f1, f2, f3, f4, f5⟩, fa⟩ := hf it (by simp)
    have hl := rv.length
    exact list_end_hot (hc.hotAt I) fa st p.isList (by simp; omega) fun h' eb => ⟨rfl, I.turned (t' := s.toks) (fun b o hb e => eb b o hb e) f0 f1 f3 f4 f5⟩
  self := fun _ _ _ _ _ st h => wpAny_pyIter_listiter st h
def PIEG (X : Cx) (a1 : Addr) (oe : Obj) (pins : List (Addr × Obj)) (σ : L2.St) (tg : Expr) (R : It → Hp → Prop) (itv : Value) (s2 : Shared) : Prop :=
  ∃ (it : Addr) (fp : List Addr) (tn : Nat → Heap → Prop) (J : It) (H' : Hp), itv = .ref it ∧ Inv X pins σ H' s2 ∧ TurnG X.prog X.w X.K a1 oe tg J fp it tn ∧ tn 0 s2.heap ∧ (∀ b ∈ fp, FpOk X pins H' b) ∧ R J H'
structure PIG (X : Cx) (a1 : Addr) (oe : Obj) (tg iter : Expr) (wi : TI) : Prop where
  run : ∀ (pins : List (Addr × Obj)) (s : Shared) (σ : L2.St) (H : Hp) (R : It → Hp → Prop), Inv X pins σ H s → wi σ H R →
    wpAny (model X.prog X.w) X.A (eval iter X.env) (fun v s1 => wpAny (model X.prog X.w) X.A (pyIter v) (PIEG X a1 oe pins σ tg R) X.xe s1) X.xe s
theorem PIG.imp {X : Cx} {a1 : Addr} {oe : Obj} {tg iter : Expr} {t t' : TI} (h : PIG X a1 oe tg iter t) (i : ∀ σ H R, t' σ H R → t σ H R) : PIG X a1 oe tg iter t' := ⟨fun pins s σ H R I q => h.run pins s σ H R I (i _ _ _ q)⟩
theorem pi_seqG {X : Cx} {a1 : Addr} {oe : Obj} {tg l : Expr} {tl : TE} (hl : PE X l tl) : PIG X a1 oe tg l (fun σ H R => tl σ H fun x H1 => ∃ a, x = .ref a ∧ (∃ xs, SqL X.K H1 a xs) ∧ R (Itl X.K a) H1) := by
  refine ⟨fun pins s σ H R I h => ?_⟩
  refine thn (hl.run pins s σ H _ I h) fun v s1 ⟨x, H1, I1, r1, a, e, ⟨xs, hq⟩, q⟩ => ?_
  have fr : FpOk X pins H1 s1.heap.objs.size := I1.fpOk (Nat.le_refl _) (I1.hok.fresh (Nat.le_refl _))
  subst e
  cases r1
  obtain ⟨its, rv, p, hz⟩ := I1.list hq
  refine wpAny_pyIter_list p.isList ?_
  refine ⟨s1.heap.objs.size, [s1.heap.objs.size], _, _, H1, rfl, I1.kept (t' := s1.toks) fun b o e => Heap.get?_push_of_some _ e, turn_listG a _, ⟨_, Heap.get?_push_size _ rfl, rfl, rfl⟩, fun b hb => ?_, q⟩
  have e : b = s1.heap.objs.size := by simpa using hb
  subst e
  exact fr

/-! ### comprehensions -/
section
variable {X : Cx} {a1 : Addr} {oe : Obj}
theorem lc_coreG {pins : List (Addr × Obj)} {s : Shared} {σ : L2.St} {H : Hp} {Q : VK} {elt tg iter : Expr} {ifs : List Expr} {scope : Scope} {own : List (Str × Nat)} {pos pos' : Pos} {wi : TI} {g : TG} {tt : TT} {te : TE} {use : Option (Value → Sem Unit)} {Qf : Value → Shared → Prop}
    (hc : L2H.Hot1 X.A (a1, oe)) (hp : (a1, oe) ∈ X.pn) (hN : X.N.Nodup) (I : Inv X pins σ H s) (hi : PIG X a1 oe tg iter wi) (ok : BlkOk X.N X.env.scope scope own)
    (hg : ∀ (s : Shared) (H : Hp) (C : Addr) (cl : List (Str × Addr)) (fp : List Addr), HotG (X.blk s H scope (compEnvC scope cl C X.env) fp) a1 oe → PG (X.blk s H scope (compEnvC scope cl C X.env) fp) tg g) (ht : ∀ (s : Shared) (H : Hp) (C : Addr) (cl : List (Str × Addr)) (fp : List Addr), PTs (X.blk s H scope (compEnvC scope cl C X.env) fp) ifs tt)
    (he : ∀ (s : Shared) (H : Hp) (C : Addr) (cl : List (Str × Addr)) (fp : List Addr), PE (X.blk s H scope (compEnvC scope cl C X.env) fp) elt te) (hs : ∀ x, foldedSetIterable iter X.env x = pure x)
    (h : tLc wi g tt te (own.map (·.2)) σ H Q)
    (hRR : ∀ D C s' m H', Inv X pins σ H' s' → Q (.ref D) H' → s'.heap.Ns C m → FpOk X pins H' C → compPost (model X.prog X.w) X.A X.xe use Qf (.ref D) C (.ok .next) s') :
    wpAny (model X.prog X.w) X.A (comprehension (.ListComp elt [⟨tg, iter, ifs, 0⟩] scope pos) scope X.env pos' (newList []) false (eval iter X.env) use) Qf X.xe s := by
  have hfree : ∀ y ∈ scope.names, y.2 = .free → ∃ c, X.env.cells.lookup y.1 = some c := fun y hy e => by
    rcases ok.free y hy e with k | k
    · exact I.ok.has _ (.inl k)
    · exact I.ok.has _ (.inr k)
  refine wpAny_comprehension_free (use := use) rfl hs (closure_ok hfree) ok.kind (fun y hy e => by rw [ok.uniq y hy, e])
    (thn (hi.run pins s σ H _ I h) fun xv s1 hx => thn hx fun itv s2 h2 => ?_)
  obtain ⟨it, fp, tn, J, H2, e, I2, T, st2, f2, q⟩ := h2
  subst e
  have pinA := I2.pin (a1, oe) (List.mem_append_left _ hp)
  have nA : ∀ b ∈ fp, a1 ≠ b := fun b hb => (f2 b hb).2.2.2.2.2 (a1, oe) (List.mem_append_left _ hp)
  refine wpAny_newObj_type (newEnv_comp ?_) (by show 0 ≤ sizeLine; decide)
  generalize hD : s2.heap.objs.size = D
  have hDn : H2 D = none := I2.hok.fresh (Nat.le_of_eq hD)
  obtain ⟨W, ⟨m0, w0⟩, turn⟩ := q D hDn
  generalize hs3 : ({ s2 with heap := s2.heap.push { cls := .type "list", data := .seq ([] : List Value).toArray } } : Shared) = s3
  have I3 : Inv X pins σ (upd H2 D (.lst [])) s3 := by
    rw [← hs3]
    refine I2.laid (t' := s2.toks) (fun b o e => Heap.get?_push_of_some _ e) (Nat.le_of_eq hD) ⟨Nat.zero_le _, [], 0, .nil, ?_⟩
    rw [← hD]
    exact Heap.get?_push_size _ rfl
  have h3 : s3.heap = s2.heap.push { cls := .type "list", data := .seq ([] : List Value).toArray } := by rw [← hs3]
  have sz : ∀ b ∈ fp, b < s2.heap.objs.size := fun b hb => by
    obtain ⟨o, e, _⟩ := T.obj _ _ st2 b hb
    exact Heap.lt_size e
  have f3 : ∀ b ∈ fp, FpOk X pins (upd H2 D (.lst [])) b ∧ b < s3.heap.objs.size := fun b hb => by
    have hlt := sz b hb
    refine ⟨⟨?_, (f2 b hb).2⟩, by rw [h3, Heap.size_push]; exact Nat.lt_succ_of_lt hlt⟩
    rw [upd_ne (by rw [← hD]; exact Nat.ne_of_lt hlt)]
    exact (f2 b hb).1
  have st3 : tn 0 s3.heap := T.keep _ _ _ st2 fun b _ o e => by rw [h3]; exact Heap.get?_push_of_some _ e
  have I4 := block_start I3 ok hN f3
  have pinA3 := I3.pin (a1, oe) (List.mem_append_left _ hp)
  have nS : a1 ∉ frs X.stack := fun hm => (List.mem_cons.mp (I3.stkSub a1 hm)).elim pinA3.2.2.1 pinA3.2.2.2.1
  have hG : ∀ ce : Env, HotG (X.blk s3 (upd H2 D (.lst [])) scope ce fp) a1 oe := fun ce => HotG.blk hc pinA3.1 pinA3.2.1 nS fun z => nA a1 z rfl
  have pg := hg s3 (upd H2 D (.lst [])) s3.heap.objs.size (cellsFrom (s3.heap.objs.size + 1) scope.names (cloFrom X.env.cells scope.names [])) fp (hG _)
  have pt := ht s3 (upd H2 D (.lst [])) s3.heap.objs.size (cellsFrom (s3.heap.objs.size + 1) scope.names (cloFrom X.env.cells scope.names [])) fp
  have pe := he s3 (upd H2 D (.lst [])) s3.heap.objs.size (cellsFrom (s3.heap.objs.size + 1) scope.names (cloFrom X.env.cells scope.names [])) fp
  have hG2 := hG (compEnvC scope (cellsFrom (s3.heap.objs.size + 1) scope.names (cloFrom X.env.cells scope.names [])) s3.heap.objs.size X.env)
  show codeAny _ _ (.compStart (.ListComp elt [⟨tg, iter, ifs, 0⟩] scope pos) 0 (.ref it) (.ref D) (compEnvC scope (cellsFrom (s3.heap.objs.size + 1) scope.names (cloFrom X.env.cells scope.names [])) s3.heap.objs.size X.env)) (compPost (model X.prog X.w) X.A X.xe use Qf (.ref D) s3.heap.objs.size) { s3 with heap := pushCells (s3.heap.push { cls := .type "dict", data := .dict #[] }) scope.names }
  have nfp : ∀ b ∈ fp, (upd H2 D (.lst [])) b = none := fun b hb => (f3 b hb).1.1
  generalize hce : compEnvC scope (cellsFrom (s3.heap.objs.size + 1) scope.names (cloFrom X.env.cells scope.names [])) s3.heap.objs.size X.env = ce at I4 pg pt pe hG2 ⊢
  have cL : ce.locals = s3.heap.objs.size := by subst hce; rfl
  generalize hH3 : upd H2 D (.lst []) = H3 at I3 I4 pg pt pe w0 nfp f3 hG2
  generalize hs4 : ({ s3 with heap := pushCells (s3.heap.push { cls := .type "dict", data := .dict #[] }) scope.names } : Shared) = s4 at I4 ⊢
  have st4 : tn 0 s4.heap := T.keep _ _ _ st3 fun b _ o e => by rw [← hs4]; exact pushCells_keeps _ _ _ _ (Heap.get?_push_of_some _ e)
  have stat : ∀ {σ' : L2.St} {H' : Hp} {s' : Shared}, Inv (X.blk s3 H3 scope ce fp) [] σ' H' s' → (∀ b ∈ fp, H' b = none) → ∀ b ∈ fp, FpOk (X.blk s3 H3 scope ce fp) [] H' b := fun {σ' H' s'} I' hn b hb =>
    ⟨hn b hb, (I'.ok.exf b hb).1, I'.ok.exfs b hb, .inl hb, fun x c e => (I'.ok.exf b hb).2 x c e, fun p hp => absurd (show p ∈ ([] : List (Addr × Obj)) ++ [] from hp) (by simp)⟩
  have loop : codeAny (model X.prog X.w) X.A (.compLoop (.ListComp elt [⟨tg, iter, ifs, 0⟩] scope pos) 0 (.ref it) (.ref D) ce) (compPost (model X.prog X.w) X.A X.xe use Qf (.ref D) s3.heap.objs.size) s4 := by
    refine compLoop_any (fun n s' => ∃ i H', Inv (X.blk s3 H3 scope ce fp) [] (wipe σ (own.map (·.2))) H' s' ∧ tn i s'.heap ∧ (∀ b ∈ fp, H' b = none) ∧ W i n H') ?_ m0 ⟨0, H3, I4, st4, nfp, w0⟩
    rintro n s5 ⟨i, H5, I5, st5, n5, w5⟩
    rcases turn i n H5 w5 with ⟨stop, qq⟩ | ⟨go, Nx, hNx, step⟩
    · have td := T.done (X.blk s3 H3 scope ce fp) rfl rfl rfl hG2 i [] s5 _ H5 (fun _ _ => False) I5 (fun b hb => ⟨stat I5 n5 b hb, nA b hb⟩) st5 stop
      refine thnF td fun r s6 ⟨hr, I6⟩ => ?_
      subst hr
      have I7 : Inv X pins σ H5 s6 := I3.call' (ch := fp) I6.os I6.base I6.hok I6.bare fun b hb => ⟨(f3 b hb).1.2.2.2.1, (f3 b hb).1.2.1, (f3 b hb).1.2.2.2.2.1, (f3 b hb).1.2.2.2.2.2⟩
      have nC : H5 s3.heap.objs.size = none := by
        have z : H5 ce.locals = none := I6.free
        rw [cL] at z
        exact z
      obtain ⟨m, hn, _⟩ := I6.loc
      have hn : s6.heap.Ns ce.locals m := hn
      rw [cL] at hn
      exact hRR D s3.heap.objs.size s6 m H5 I7 qq hn (I3.fpOk (Nat.le_refl _) nC)
    · have ti := T.item (X.blk s3 H3 scope ce fp) rfl rfl rfl hG2 i [] s5 _ H5 (fun _ _ => False) I5 (fun b hb => ⟨stat I5 n5 b hb, nA b hb⟩) st5 go
      refine thnF ti fun r s6 ⟨u, hr, h6⟩ => ?_
      subst hr
      refine thnF h6 fun _ s7 ⟨x, H7, I7, r7, y7, st7, n7⟩ => ?_
      have I7' := I7.pinned (stat I7 n7) (T.obj _ _ st7)
      refine thnF (pg.run _ s7 _ H7 x u _ I7' r7 (step x H7 y7)) fun _ s8 ⟨σ8, H8, I8, hw8, q8⟩ => ?_
      refine thnF (pt.run _ s8 σ8 H8 _ I8 q8) fun b s9 ⟨H9, I9, q9⟩ => ?_
      have fin : ∀ {s' : Shared} {H' : Hp}, Inv (X.blk s3 H3 scope ce fp) ([] ++ pinsAt fp s7.heap) σ8 H' s' → Nx H' → ∃ m, m < n ∧ ∃ i H', Inv (X.blk s3 H3 scope ce fp) [] (wipe σ (own.map (·.2))) H' s' ∧ tn i s'.heap ∧ (∀ b ∈ fp, H' b = none) ∧ W i m H' := fun {s' H'} I' nx => by
        obtain ⟨m', hm, w'⟩ := hNx H' nx
        have pin' : ∀ b ∈ fp, ∀ o, s7.heap.get? b = some o → s'.heap.get? b = some o ∧ H' b = none := fun b hb o e =>
          let z := I'.pin (b, o) (List.mem_append_right _ (List.mem_append_right _ (mem_pinsAt hb e)))
          ⟨z.1, z.2.1⟩
        have hl : (wipe σ (own.map (·.2))).length = σ8.length := by rw [← hw8, wipe_length]
        refine ⟨m', hm, i + 1, H', (I'.unpinned (pins := [])).weak hl (fun j v e => ?_), T.keep _ _ _ st7 fun b hb o e => (pin' b hb o e).1, fun b hb => ?_, w'⟩
        · rw [← hw8] at e
          exact (wipe_some e).1
        · obtain ⟨o, e, _⟩ := T.obj _ _ st7 b hb
          exact (pin' b hb o e).2
      cases b with
      | false =>
        simp only [Bool.false_eq_true, if_false] at q9 ⊢
        exact fin I9 q9
      | true =>
        simp only [if_true] at q9 ⊢
        refine thnF (pe.run _ s9 σ8 H9 _ I9 q9) fun z s10 ⟨yv, H10, I10, r10, acc, hD10, hz10, nx⟩ => ?_
        exact app_ok (X := X.blk s3 H3 scope ce fp) I10 hD10 hz10 r10 fun s11 I11 => fin I11 nx
  exact codeAny_compStart_list loop (T.self X.A 0 _ _ _ st4 loop)
theorem pe_lcG {elt tg iter : Expr} {ifs : List Expr} {scope : Scope} {own : List (Str × Nat)} {pos : Pos} {wi : TI} {g : TG} {tt : TT} {te : TE} (hc : L2H.Hot1 X.A (a1, oe)) (hp : (a1, oe) ∈ X.pn) (hN : X.N.Nodup) (hi : PIG X a1 oe tg iter wi) (ok : BlkOk X.N X.env.scope scope own)
    (hg : ∀ (s : Shared) (H : Hp) (C : Addr) (cl : List (Str × Addr)) (fp : List Addr), HotG (X.blk s H scope (compEnvC scope cl C X.env) fp) a1 oe → PG (X.blk s H scope (compEnvC scope cl C X.env) fp) tg g) (ht : ∀ (s : Shared) (H : Hp) (C : Addr) (cl : List (Str × Addr)) (fp : List Addr), PTs (X.blk s H scope (compEnvC scope cl C X.env) fp) ifs tt)
    (he : ∀ (s : Shared) (H : Hp) (C : Addr) (cl : List (Str × Addr)) (fp : List Addr), PE (X.blk s H scope (compEnvC scope cl C X.env) fp) elt te) (hs : ∀ x, foldedSetIterable iter X.env x = pure x) :
    PE X (.ListComp elt [⟨tg, iter, ifs, 0⟩] scope pos) (tLc wi g tt te (own.map (·.2))) := by
  refine ⟨fun pins s σ H Q I h => ?_⟩
  rw [eval_ListComp]
  refine lc_coreG hc hp hN I hi ok hg ht he hs h fun D C s' m H' I' q hn f => ⟨m, hn, fun h'' sb => ?_⟩
  obtain ⟨f0, f1, f2, f3, f4, f5⟩ := f
  exact ⟨.ref D, H', I'.turned (t' := s'.toks) (fun b o hb e => (sb.2 b hb).trans e) f0 f1 f3 f4 f5, rfl, q⟩
theorem ps_setLcG {i : Nat} {y : Str} {py : Pos} {elt tg iter : Expr} {ifs : List Expr} {scope : Scope} {own : List (Str × Nat)} {pos spos : Pos} {wi : TI} {g : TG} {tt : TT} {te : TE} (hc : L2H.Hot1 X.A (a1, oe)) (hp : (a1, oe) ∈ X.pn) (hN : X.N.Nodup) (hy : X.N[i]? = some y) (hyl : X.env.scope.names.lookup y = some .local)
    (hsw : swapsWith (.ListComp elt [⟨tg, iter, ifs, 0⟩] scope pos) (some (.Name y py)) spos.line X.env = pure true) (hi : PIG X a1 oe tg iter wi) (ok : BlkOk X.N X.env.scope scope own)
    (hg : ∀ (s : Shared) (H : Hp) (C : Addr) (cl : List (Str × Addr)) (fp : List Addr), HotG (X.blk s H scope (compEnvC scope cl C X.env) fp) a1 oe → PG (X.blk s H scope (compEnvC scope cl C X.env) fp) tg g) (ht : ∀ (s : Shared) (H : Hp) (C : Addr) (cl : List (Str × Addr)) (fp : List Addr), PTs (X.blk s H scope (compEnvC scope cl C X.env) fp) ifs tt)
    (he : ∀ (s : Shared) (H : Hp) (C : Addr) (cl : List (Str × Addr)) (fp : List Addr), PE (X.blk s H scope (compEnvC scope cl C X.env) fp) elt te) (hs : ∀ x, foldedSetIterable iter X.env x = pure x) :
    PS X (.Assign [.Name y py] (.ListComp elt [⟨tg, iter, ifs, 0⟩] scope pos) spos) (tAsg (tLc wi g tt te (own.map (·.2))) (gName i)) := by
  refine ⟨fun pins s σ H D I h => ?_⟩
  rw [exec_Assign_Name_used _ _ _ _ hsw]
  refine wpAny_bind (wpAny_standAt (wpAny_bind ?_))
  show wpAny _ X.A (do let _ ← comprehension (.ListComp elt [⟨tg, iter, ifs, 0⟩] scope pos) scope X.env (firstIterPos [⟨tg, iter, ifs, 0⟩] pos) (newList []) false (eval iter X.env) (some (assign (.Name y py) X.env))) _ _ s
  have h : tLc wi g tt te (own.map (·.2)) σ H (fun x H1 => gName i x σ H1 D.nx) := h
  refine wpAny_bind (thn (lc_coreG (Qf := fun _ s' => SP X pins D .next s') hc hp hN I hi ok hg ht he hs h fun L C s' m H' I' q hn f => ?_) fun _ s' hq => wpAny_pure (wpAny_pure hq))
  show wpAny _ _ (assign (.Name y py) X.env (.ref L)) _ _ _
  refine wpAny_assign_Name (store_ok2 (v := V.ref L) I' hN hy (.inl hyl) rfl (fun s2 I2 ⟨a, sb, ha⟩ => ?_) (.inr hyl))
  obtain ⟨f0, f1, f2, f3, f4, f5⟩ := f
  have haC : C ≠ a := by
    rcases ha with z | z
    · rw [z]; exact f1
    · exact fun e => f4 y a z e.symm
  refine ⟨m, hn.sameBut sb haC, fun h3 sb3 => ?_⟩
  exact ⟨_, H', I2.turned (t' := s2.toks) (fun b o hb e => (sb3.2 b hb).trans e) f0 f1 f3 f4 f5, q⟩
end
/-! ### by data -/
def WIG (X : Cx) (a1 : Addr) (oe : Obj) (tg iter : Expr) (ti : TIw) : Prop := ∀ Fm Ex, Takes X (LX X.K X.mg Fm Ex) → PIG X a1 oe tg iter (LI X.K X.mg Fm (ti Ex))
def seqLI (ta : TEw) : TIw := fun Ex τ O R => ta Ex τ O fun x O1 => ∃ ws, asL O1 x = some ws ∧ R ⟨ones ws, fun O' => asL O' x = some ws⟩ O1
section
variable {X : Cx} {a1 : Addr} {oe : Obj} {tg e : Expr} {ta : TEw}
theorem wi_seqG (h : WE X e ta) : WIG X a1 oe tg e (seqLI ta) := fun Fm Ex tk => PIG.imp (pi_seqG (h Fm Ex tk)) fun σ H R ⟨τ, O, R', S, o, q, k⟩ => by
  refine ⟨τ, O, _, S, o, q, fun v H1 ⟨w, O1, P1, d1, o1, ws, e1, q1⟩ => ?_⟩
  obtain ⟨a, vs, rfl, r, t⟩ := asL_rd d1 o1 e1
  refine ⟨a, rfl, ⟨vs, .inl r⟩, k _ _ _ _ P1 o1 (serves_list (mk := ones) fun Fm' H' O' p o' k' => ?_) q1⟩
  obtain ⟨a', vs', ea, r', t'⟩ := asL_rd (d1.pers p) o' k'
  cases ea
  exact ⟨vs', .inl r', t'⟩
theorem wg_tupG {es : List Expr} {k : Nat} {is : List Nat} {pos : Pos} (hc : HotG X a1 oe) (h : WGs X es is) (hn : (assignEach es X.env).length = is.length) (hst : (assignEach es X.env).findIdx? (·.1) = none) : WG X (.Tuple es k pos) (.pack is) := pg_tupG hc h hn hst
theorem we_lcG {elt iter : Expr} {ifs : List Expr} {scope : Scope} {own : List (Str × Nat)} {pos : Pos} {ti : TIw} {T : Tg} {tt : TTw} {te : TEw} (fz : Bool) (hc : L2H.Hot1 X.A (a1, oe)) (hp : (a1, oe) ∈ X.pn) (hN : X.N.Nodup) (hi : WIG X a1 oe tg iter ti) (ok : BlkOk X.N X.env.scope scope own) (hT : ∀ i ∈ T.slots, i ∈ own.map (·.2))
    (hg : ∀ s H C cl fp, HotG (Blk X scope s H C cl fp) a1 oe → WG (Blk X scope s H C cl fp) tg T) (ht : ∀ s H C cl fp, WTs (Blk X scope s H C cl fp) ifs tt) (he : ∀ s H C cl fp, WE (Blk X scope s H C cl fp) elt te) (hs : ∀ x, foldedSetIterable iter X.env x = pure x) :
    WE X (.ListComp elt [⟨tg, iter, ifs, 0⟩] scope pos) (compW fz ti T tt te (own.map (·.2))) := fun Fm Ex tk => by
  refine ⟨fun pins s σ H Q' I ⟨τ, O, Q, S, o, h, k⟩ => ?_⟩
  refine thn ((pe_lcG (g := gOf X.K T) hc hp hN (hi Fm Ex tk) ok hg (fun s H C cl fp => pts_anyF (ht s H C cl fp)) (fun s H C cl fp => pe_anyF (he s H C cl fp)) hs).run pins s σ H _ I (tLc_ok hT S o h)) fun u s1 ⟨v, H1, I1, r1, q1⟩ => ?_
  exact ep_lcPost I1 r1 q1 k
end
end TF

set_option maxHeartbeats 2000000
/-! TF35: try .. except; defs called where an exception is handled -/
namespace TF
open PySem PySem.Spec L2 RZ PyProof.Rows
open PyProof.Rows (envOfC)

/-- the package's own classes of exceptions: all but the root are side by side -/
def subc (cn c : Str) : Bool := cn == c || c == "QueueError" || c == "ValueError"
/-- the class n below the class c -/
def ExmK (K : PySem.W.Frag) (mg : Str → Option Value) (n c : Str) (b : Bool) : Prop := ∃ C D : Addr, mg n = some (.ref C) ∧ mg c = some (.ref D) ∧ PySem.W.exmOne K (.ref C) (.ref D) = some b
def KitK (K : PySem.W.Frag) (mg : Str → Option Value) (n c : Str) (b : Bool) : Prop := ∃ C D : Addr, mg n = some (.ref C) ∧ mg c = some (.ref D) ∧ PySem.W.kitOne K (.ref C) (.ref D) = some b
def KitT (K : PySem.W.Frag) (mg : Str → Option Value) (n : Str) (T : String) (b : Bool) : Prop := ∃ C : Addr, mg n = some (.ref C) ∧ PySem.W.kitOne K (.ref C) (.type T) = some b
def ExcK (K : PySem.W.Frag) (mg : Str → Option Value) (n : Str) : Prop := ∃ C : Addr, mg n = some (.ref C) ∧ ExcC K C
/-- the object of the exception y -/
def XObj (K : PySem.W.Frag) (mg : Str → Option Value) (y : Exc) (oe : Obj) : Prop := ∃ C d, mg y.cn = some (.ref C) ∧ L2N.Zn (.ref C) d oe ∧ (y.fs = [] → d = none) ∧ ∃ vs, oe.data = .fields vs

/-! ### try -/
def setI (i : Option Nat) (a : Addr) (τ : SW) : SW := match i with
  | some j => τ.set j (some (.ref a))
  | none => τ
def dropI (i : Option Nat) (τ : SW) : SW := match i with
  | some j => τ.set j none
  | none => τ
/-- try: tb / except c as (slot i): ts; rx: the classes that may come -/
def tryW (rx : List Str) (c : Str) (tb : TSw) (i : Option Nat) (ts : Exc → Addr → TSw) : TSw := fun Ex D τ O =>
  tb (fun y τ1 O1 => y.cn ∈ rx ∧ if subc y.cn c = true then
      ∀ a, O1 a = none → ts y a botX { nx := fun τ2 O2 => D.nx (dropI i τ2) O2, rt := D.rt, bk := fun τ2 O2 => D.bk (dropI i τ2) O2, ct := fun τ2 O2 => D.ct (dropI i τ2) O2 } (setI i a τ1) O1
    else Ex y τ1 O1) D τ O
section
variable {X : Cx} {x n : Str} {i k : Nat} {body suite : List Stmt} {b₀ : Stmt} {np pos pos' : Pos} {tb : TSw} {ts : Exc → Addr → TSw} {rx : List Str}
theorem suite_ok (hsu : ∀ (a : Addr) (oe : Obj) (y : Exc) (pn : List (Addr × Obj)), XObj X.K X.mg y oe → WB (X.suite a ((a, oe) :: pn)) (b₀ :: suite) (ts y a)) (a : Addr) (oe : Obj) (cls : Value) (d : Option Addr) (pn : List (Addr × Obj)) (hz : L2N.Zn cls d oe) (hf : ∃ vs, oe.data = .fields vs) :
    PSs (X.suite a ((a, oe) :: pn)) (b₀ :: suite) (fun D σ H => ∃ Fm y C, cls = .ref C ∧ X.mg y.cn = some (.ref C) ∧ (y.fs = [] → d = none) ∧ LS X.K X.mg Fm (ts y a botX) D σ H) :=
  ⟨fun pins s σ H D I ⟨Fm, y, C, ec, hm, hd, q⟩ => by subst ec; exact (hsu a oe y pn ⟨C, d, hm, hz, hd, hf⟩ Fm botX takes_bot).run pins s σ H D I q⟩
theorem ws_try_as (hs : X.stack = X.env :: X.outer) (hf : X.env.frame = some X.env.locals) (hN : X.N.Nodup) (hi : X.N[i]? = some n) (hln : X.env.kindOf n = some .local) (hg : Gl X x) (hdb : (x == ("__debug__" : Str)) = false) (hx : ∃ D : Addr, X.mg x = some (.ref D)) (hk : ∀ m ∈ rx, ExmK X.K X.mg m x (subc m x))
    (hb : ∀ (pn : List (Addr × Obj)) (xe : Value → Shared → Prop), PassesOwn (model X.prog X.w) X.A X.env xe → WB (X.tr pn xe) body tb)
    (hsu : ∀ (a : Addr) (oe : Obj) (y : Exc) (pn : List (Addr × Obj)), XObj X.K X.mg y oe → WB (X.suite a ((a, oe) :: pn)) (b₀ :: suite) (ts y a)) :
    WS X (.Try body [.ExceptHandler (some (.Name x np)) (some n) (b₀ :: suite) pos'] [] [] pos) (tryW rx x tb (some i) ts) := fun Fm Ex tk => by
  obtain ⟨Dx, hDx⟩ := hx
  refine PS.imp (L2N.ps_try_as (c := .ref Dx) (Wout := LX X.K X.mg Fm Ex) hs hf hN hi hln ⟨hg, hdb, .inl hDx⟩ tk (tb := fun W D' σ H => ∃ Fm Ex', (∀ cls d σ H, LX X.K X.mg Fm Ex' cls d σ H → W cls d σ H) ∧ LS X.K X.mg Fm (tb Ex') D' σ H)
    (ts := fun a cls d D σ H => ∃ Fm y C, cls = .ref C ∧ X.mg y.cn = some (.ref C) ∧ (y.fs = [] → d = none) ∧ LS X.K X.mg Fm (ts y a botX) D σ H)
    (fun W pn xe t po => ⟨fun pins s σ H D I ⟨Fm, Ex', hle, q⟩ => (hb pn xe po Fm Ex' (L2N.Takes.imp t hle)).run pins s σ H D I q⟩) (suite_ok hsu)) fun D' σ H ⟨D, τ, O, S, o, q, l⟩ => ?_
  refine ⟨Fm, fun y τ1 O1 => y.cn ∈ rx ∧ if subc y.cn x = true then
      ∀ a, O1 a = none → ts y a botX { nx := fun τ2 O2 => D.nx (dropI (some i) τ2) O2, rt := D.rt, bk := fun τ2 O2 => D.bk (dropI (some i) τ2) O2, ct := fun τ2 O2 => D.ct (dropI (some i) τ2) O2 } (setI (some i) a τ1) O1
    else Ex y τ1 O1, fun cls d σ1 H1 ⟨y, τ1, O1, S1, o1, ⟨C, hC, ec, ef⟩, hm, e⟩ => ?_, D, τ, O, S, o, q, l⟩
  obtain ⟨C', D2, h1, h2, h3⟩ := hk _ hm
  rw [hC] at h1
  rw [hDx] at h2
  cases h1
  cases h2
  subst ec
  refine ⟨_, h3, fun hb a na => ?_, fun hb => ?_⟩
  · rw [if_pos hb] at e
    refine ⟨Fm, y, C, rfl, hC, fun z => ef.elim (fun w => w.2) fun w => absurd z w.1, _, _, O1, S1.set i (.ref a), o1, e a (o1.none na), ?_⟩
    exact ⟨fun σ2 H2 τ2 O2 S2 o2 q2 => l.nx _ _ _ _ (S2.unset i) o2 q2, l.rt, fun σ2 H2 τ2 O2 S2 o2 q2 => l.bk _ _ _ _ (S2.unset i) o2 q2, fun σ2 H2 τ2 O2 S2 o2 q2 => l.ct _ _ _ _ (S2.unset i) o2 q2⟩
  · rw [if_neg (by rw [hb]; exact Bool.false_ne_true)] at e
    exact ⟨y, τ1, O1, S1, o1, ⟨C, hC, rfl, ef⟩, e⟩
theorem ws_try_only (hs : X.stack = X.env :: X.outer) (hf : X.env.frame = some X.env.locals) (hg : Gl X x) (hdb : (x == ("__debug__" : Str)) = false) (hx : ∃ D : Addr, X.mg x = some (.ref D)) (hk : ∀ m ∈ rx, ExmK X.K X.mg m x (subc m x))
    (hb : ∀ (pn : List (Addr × Obj)) (xe : Value → Shared → Prop), PassesOwn (model X.prog X.w) X.A X.env xe → WB (X.tr pn xe) body tb)
    (hsu : ∀ (a : Addr) (oe : Obj) (y : Exc) (pn : List (Addr × Obj)), XObj X.K X.mg y oe → WB (X.suite a ((a, oe) :: pn)) (b₀ :: suite) (ts y a)) :
    WS X (.Try body [.ExceptHandler (some (.Name x np)) none (b₀ :: suite) pos'] [] [] pos) (tryW rx x tb none ts) := fun Fm Ex tk => by
  obtain ⟨Dx, hDx⟩ := hx
  refine PS.imp (L2N.ps_try_many (Wout := LX X.K X.mg Fm Ex) hs hf tk (tb := fun W D' σ H => ∃ Fm Ex', (∀ cls d σ H, LX X.K X.mg Fm Ex' cls d σ H → W cls d σ H) ∧ LS X.K X.mg Fm (tb Ex') D' σ H)
    (fun W pn xe t po => ⟨fun pins s σ H D I ⟨Fm, Ex', hle, q⟩ => (hb pn xe po Fm Ex' (L2N.Takes.imp t hle)).run pins s σ H D I q⟩) (.cons (c := .ref Dx) ⟨hg, hdb, .inl hDx⟩ (suite_ok hsu) .nil)) fun D' σ H ⟨D, τ, O, S, o, q, l⟩ => ?_
  refine ⟨Fm, fun y τ1 O1 => y.cn ∈ rx ∧ if subc y.cn x = true then
      ∀ a, O1 a = none → ts y a botX { nx := fun τ2 O2 => D.nx (dropI none τ2) O2, rt := D.rt, bk := fun τ2 O2 => D.bk (dropI none τ2) O2, ct := fun τ2 O2 => D.ct (dropI none τ2) O2 } (setI none a τ1) O1
    else Ex y τ1 O1, fun cls d σ1 H1 ⟨y, τ1, O1, S1, o1, ⟨C, hC, ec, ef⟩, hm, e⟩ => ?_, D, τ, O, S, o, q, l⟩
  obtain ⟨C', D2, h1, h2, h3⟩ := hk _ hm
  rw [hC] at h1
  rw [hDx] at h2
  cases h1
  cases h2
  subst ec
  refine ⟨_, h3, fun hb a na => ?_, fun hb => ?_⟩
  · rw [if_pos hb] at e
    refine ⟨Fm, y, C, rfl, hC, fun z => ef.elim (fun w => w.2) fun w => absurd z w.1, _, _, O1, S1, o1, e a (o1.none na), ?_⟩
    exact ⟨fun σ2 H2 τ2 O2 S2 o2 q2 => l.nx _ _ _ _ S2 o2 q2, l.rt, fun σ2 H2 τ2 O2 S2 o2 q2 => l.bk _ _ _ _ S2 o2 q2, fun σ2 H2 τ2 O2 S2 o2 q2 => l.ct _ _ _ _ S2 o2 q2⟩
  · rw [if_neg (by rw [hb]; exact Bool.false_ne_true)] at e
    exact ⟨y, τ1, O1, S1, o1, ⟨C, hC, rfl, ef⟩, e⟩
end

/-! ### contexts in which an exception is handled -/
structure CokH (X : Cx) (k : Nat) (y : Exc) (a : Addr) : Prop where
  hr : L2H.RoomH k X.A
  hg : Gd k X.A
  hN : X.N.Nodup
  hot : ∃ oe, L2H.Hot1 X.A (a, oe) ∧ (a, oe) ∈ X.pn ∧ XObj X.K X.mg y oe
section
variable {X : Cx} {k : Nat} {y : Exc} {a : Addr} {oe : Obj}
theorem Cok.tr (c : Cok X k) {pn : List (Addr × Obj)} {xe : Value → Shared → Prop} : Cok (X.tr pn xe) k := ⟨c.hr, c.hg, c.calm, c.hN⟩
theorem Cok.suite (c : Cok X k) {pn : List (Addr × Obj)} (h : XObj X.K X.mg y oe) : CokH (X.suite a ((a, oe) :: pn)) k y a := by
  refine ⟨⟨c.hr.dp, c.hr.un⟩, c.hg, c.hN, oe, ⟨rfl, ?_⟩, List.mem_cons_self, h⟩
  obtain ⟨C, d, _, hz, _, vs, hv⟩ := h
  exact ⟨vs, hv, hz.2.2 vs hv⟩
theorem CokH.u (c : CokH X k y a) : X.A.units + 65 < cLine := by have := c.hr.un; omega
end

/-! ### a def that is called there -/
structure FnGH (P : Program) (w : World) (K : PySem.W.Frag) (mg : Str → Option Value) (base : Heap) (k : Nat) (f : Addr) (fd : FuncData) (ps : List Str) (sp : Exc → Addr → SpW) : Prop where
  len : ∀ y a ws O Q E, sp y a ws O Q E → ws.length = ps.length
  run : ∀ (y : Exc) (A : Around) (outer : List Env) (s : Shared) (H : Hp) (args : Args) (us : List Value) (vs : List V) (Q : VK) (E : XK) (p : Addr × Obj), L2H.RoomH k A → Gd k A → L2H.Hot1 A p → XObj K mg y p.2 → L2H.PinOk outer H s p → Env0 P w K mg base A outer s H → BindsTo s fd args (ps.zip us) → Vals vs us → liftSp K mg (sp y p.1) vs H Q E →
    codeAny (model P w) A (.call (.ref f) args) (CR (L2N.CX P w) outer P w H s Q E) s
structure CalleeH (P : Program) (w : World) (K : PySem.W.Frag) (mg : Str → Option Value) (base : Heap) (j : Nat) (nm : Str) (sp : Exc → Addr → SpW) : Prop where
  ex : ∃ (k : Nat) (f : Addr) (fd : FuncData) (ps : List Str), k ≤ j ∧ FnGH P w K mg base k f fd ps sp ∧ mg nm = some (.ref f) ∧ PySem.W.keepIn K (.ref f) = true ∧ Binds K fd ps []
section
variable {P : Program} {w : World} {K : PySem.W.Frag} {mg : Str → Option Value} {base : Heap}
theorem fn_ofGH {k : Nat} {f : Addr} {name qual : Str} {params : Arguments} {body : List Stmt} {scope : Scope} {dV kV doc pm cdv ct oc : Value} {an od : Option Addr}
    {osl : Array (Option Value)} {N ps : List Str} {t : Exc → Addr → TSw} (lk : K.lookup f = some ⟨oc, od, .func (PySem.W.fnOf name qual params body scope dV kV doc pm an cdv ct), osl⟩) (hcd : PySem.W.codeIn K cdv qual = true) (S : FnScope N ps scope)
    (hbody : ∀ (A : Around) (outer : List Env) (s : Shared) (H : Hp) (E : XK) (a : Addr) (oe : Obj) (y : Exc), CokH (L2H.cxH (L2N.CX P w) P w K mg base N qual scope f cdv A outer s H E (a, oe)) k y a →
      WB (L2H.cxH (L2N.CX P w) P w K mg base N qual scope f cdv A outer s H E (a, oe)) body (t y a)) :
    FnGH P w K mg base (k + 1) f (PySem.W.fnOf name qual params body scope dV kV doc pm an cdv ct) ps (fun y a => semFn ps.length N.length (t y a)) := by
  refine ⟨fun y a ws O Q E h => h.1, fun y A outer s H args us vs Q E p hr hg hot hx hpin e0 hb r ⟨Fm, ws, O, Qw, Ew, dw, o, hsp, hQ, hE⟩ => ?_⟩
  have hl : vs.length = ps.length := dw.length.trans hsp.1
  have KX : K.In s.heap := e0.mod.kin.keeps fun b o e => (e0.bs b o e).1
  have lim : s.heap.NoLimit := e0.mod.nolimit.keeps fun b o e => (e0.bs b o e).1
  have hkind : ∀ y ∈ ps.zip us, scope.names.lookup y.1 = some .local ∨ (scope.names.lookup y.1 = some .cell ∧ ((cellsFrom (s.heap.objs.size + 1) scope.names []).lookup y.1).isSome = true) := fun ⟨n, v⟩ hy => by
    rcases S.par n (List.of_mem_zip hy).1 with q | q
    · exact .inl q
    · exact .inr ⟨q, PySem.W.cellsFrom_some _ _ _ (.inl q)⟩
  refine codeAny_call_function hr.depth (KX _ _ lk) rfl S.co S.gen rfl (PySem.W.codeRec_of KX hcd) (hb _ _ _ _ ?_)
  refine wpAny_newFunctionEnv_cells S.kind hkind fun env he s1 x => ?_
  subst he
  refine ⟨lim.keeps x.toInCall.keep, codeAny_func ?_⟩
  have I : Inv (L2H.cxH (L2N.CX P w) P w K mg base N qual scope f cdv A outer s H E p) [] (L2.start N vs) H s1 := L2H.inv_startH S hpin e0 hl r x
  have tk : Takes (L2H.cxH (L2N.CX P w) P w K mg base N qual scope f cdv A outer s H E p) (LX K mg Fm (fun x _ O' => ∃ O'', OLe O'' O' ∧ Ew x O'')) := by
    refine Takes.impI (L2N.takes_of (E := E) rfl rfl rfl rfl) fun pins s2 c d σ H2 I2 ⟨x, τ, O2, S2, o2, er, O3, l3, ee⟩ => ?_
    exact hE x c d H2 O3 ⟨I2.base.tups, I2.base.frzs⟩ (o2.le l3) er ee
  have hb2 := hbody A outer s H E p.1 p.2 y ⟨hr.deeper _, hg.mono (Nat.le_succ k), S.nd, p.2, hot, List.mem_singleton.mpr rfl, hx⟩ Fm _ tk
  refine wpAny_mono (hb2.run [] s1 (L2.start N vs) H { nx := fun _ H' => ∃ O', Own K mg Fm O' H' ∧ Ang .non O' Qw, rt := fun v H' => ∃ w O', IsD K mg H' v w ∧ Own K mg Fm O' H' ∧ Ang w O' Qw } I ?_) (fun fl s' hs => ?_) fun e s' hs => hs
  · exact ⟨_, startW N.length ws, O, slots_start (ps := ps) dw, o, hsp.2, fun σ H τ O _ o h => ⟨O, o, h⟩, fun v H w O d o h => ⟨w, O, d, o, h⟩, fun _ _ _ _ _ _ h => h.elim, fun _ _ _ _ _ _ h => h.elim⟩
  · have fin : ∀ {σ' : L2.St} {H' : Hp} {v : V} {u : Value} {d : Dt} {O' : OW}, Inv (L2H.cxH (L2N.CX P w) P w K mg base N qual scope f cdv A outer s H E p) [] σ' H' s' → RelV v u → IsD K mg H' v d → Own K mg Fm O' H' → Ang d O' Qw → CE outer P w H s Q u s' := by
      intro σ' H' v u d O' J rv iv o2 q
      obtain ⟨H2, O2, d2, J2, p2, iv2, o3, q2⟩ := Inv.ang J iv o2 q
      exact ⟨v, H2, J2.os, J2.bare, J2.base, J2.hok, rv, hQ v H2 ⟨d2, O2, ⟨J2.base.tups, J2.base.frzs⟩, iv2, o3, q2⟩⟩
    cases fl with
    | ret u =>
      obtain ⟨v, σ', H', J, rv, d, O', iv, o2, q⟩ := hs
      exact fin J rv iv o2 q
    | next =>
      obtain ⟨σ', H', J, O', o2, q⟩ := hs
      exact fin (v := V.non) (u := Value.none) J rfl .non o2 q
    | brk =>
      obtain ⟨_, _, _, q⟩ := hs
      exact False.elim q
    | cont =>
      obtain ⟨_, _, _, q⟩ := hs
      exact False.elim q
theorem calleeH_of {k : Nat} {x : Str} {st : Stmt} {N ps : List Str} {t : Exc → Addr → TSw} (F : FnAt K mg x st) (S : FnScope N ps (defScope st))
    (hb : ∀ (kV doc pm : Value) (an : Option Addr) (cdv ct : Value) (us : List Value), us.length = ps.length → bindArgs (PySem.W.fnOf x x (defArgs st) (defBody st) (defScope st) .none kV doc pm an cdv ct) ⟨us, []⟩ = pure (ps.zip us))
    (hbody : ∀ (f : Addr) (cdv : Value) (A : Around) (outer : List Env) (s : Shared) (H : Hp) (E : XK) (a : Addr) (oe : Obj) (y : Exc), CokH (L2H.cxH (L2N.CX P w) P w K mg base N x (defScope st) f cdv A outer s H E (a, oe)) k y a →
      WB (L2H.cxH (L2N.CX P w) P w K mg base N x (defScope st) f cdv A outer s H E (a, oe)) (defBody st) (t y a)) : CalleeH P w K mg base (k + 1) x (fun y a => semFn ps.length N.length (t y a)) := by
  obtain ⟨f, fd, F, hm⟩ := F.ex
  obtain ⟨oc, od, kV, doc, pm, an, cdv, ct, osl, rfl, lk, hcd⟩ := id F.ex
  exact ⟨k + 1, f, _, ps, Nat.le_refl _, fn_ofGH lk hcd S fun A outer s H E a oe y C => hbody f cdv A outer s H E a oe y C, hm, F.kp, F.binds hb⟩
theorem CalleeH.imp {j : Nat} {nm : Str} {sp sp' : Exc → Addr → SpW} (c : CalleeH P w K mg base j nm sp) (h : ∀ y a ws O Q E, sp' y a ws O Q E → sp y a ws O Q E) : CalleeH P w K mg base j nm sp' := by
  obtain ⟨k, f, fd, ps, hk, G, hm, kp, hb⟩ := c.ex
  exact ⟨k, f, fd, ps, hk, ⟨fun y a ws O Q E q => G.len y a ws O Q E (h _ _ _ _ _ _ q), fun y A outer s H args us vs Q E p hr hg hot hx hp e0 b r ⟨Fm, ws, O, Qw, Ew, d, o, q, k1, k2⟩ => G.run y A outer s H args us vs Q E p hr hg hot hx hp e0 b r ⟨Fm, ws, O, Qw, Ew, d, o, h _ _ _ _ _ _ q, k1, k2⟩⟩, hm, kp, hb⟩
end
section
variable {X : Cx} {k : Nat} {y : Exc} {a : Addr} {e : Expr} {es : List Expr} {pos p : Pos} {t : TAw} {nm : Str}
theorem xcallH (C : CokH X k y a) {j : Nat} {sp : Exc → Addr → SpW} (cl : CalleeH X.prog X.w X.K X.mg X.base j nm sp) (ha : WA X (e :: es) t) (hj : j ≤ k := by decide) (gl : Gl X nm := by rfl) (hdb : (nm == ("__debug__" : Str)) = false := by decide)
    (he : starEach (e :: es) X.env = (false, eval e X.env) :: starEach es X.env := by rfl) (hpl : (backTo pos (starEach es X.env)).any (·.1) = false := by rfl) : WE X (.Call (.Name nm p) (e :: es) [] pos) (callW (sp y a) t) := fun Fm Ex tk => by
  obtain ⟨i, f, fd, ps, hi, G, hm, hkp, hb⟩ := cl.ex
  obtain ⟨oe, hot, hp, hx⟩ := C.hot
  refine ⟨fun pins s σ H Q' I ⟨τ, O, Q, S, o, h, kk⟩ => ?_⟩
  refine wpAny_Call_Name_kw (ld_glob I gl hm ?_ hdb)
  refine PySem.W.callWith_K (h₀ := X.base) I.ok.mod.kin hkp (thn ((ha Fm Ex tk).run pos pins s σ H (fun vs H1 => ∃ ws O1, Pers H H1 ∧ IsDs X.K X.mg H1 vs ws ∧ Own X.K X.mg Fm O1 H1 ∧ sp y a ws O1 Q fun x O' => Ex x τ O') I ⟨τ, O, _, S, o, h, fun vs ws H1 O1 P d o q => ⟨ws, O1, P, d, o, q⟩⟩) fun us s1 ⟨vs, H1, I1, r, ws, O1, P1, d1, o1, q⟩ => ⟨I1.kIn, ?_⟩) he hpl
  have hl : us.length = ps.length := by rw [← r.length, d1.length]; exact G.len _ _ _ _ _ _ q
  have b := hb s1 us I1.kIn (by rw [List.append_nil]; exact hl)
  rw [List.append_nil] at b
  have P2 := I1.pin (a, oe) (List.mem_append_left _ hp)
  have hpin : L2H.PinOk X.stack H1 s1 (a, oe) := ⟨P2.1, P2.2.1, fun hm => (List.mem_cons.mp (I1.stkSub a hm)).elim P2.2.2.1 P2.2.2.2.1, P2.2.2.2.2⟩
  refine wpAny_call (codeAny_mono (G.run y X.A X.stack s1 H1 ⟨us, []⟩ us vs Q' (fun cls dd H' => LX X.K X.mg Fm Ex cls dd σ H') (a, oe) ((C.hr.mono hj).mono hi) ((C.hg.mono hj).mono hi) hot hx hpin I1.env0 b r ⟨Fm, ws, O1, Q, _, d1, o1, q, fun v H' z => kk v H' (z.trans P1), fun x cls d H' O' p o' er ee => ⟨x, τ, O', (S.pers P1).pers p, o', er, ee⟩⟩) fun r s' hq => ?_)
  cases r with
  | error e => exact tk e s' (L2N.XE.of_call I1 (fun _ _ _ z => z) hq)
  | ok fl =>
    cases fl with
    | ret u => exact I1.after hq
    | next => exact False.elim hq
    | brk => exact False.elim hq
    | cont => exact False.elim hq
end
end TF

set_option maxHeartbeats 2000000
/-! TF36: rules where an exception is handled; isinstance of the exception; try in short -/
namespace TF
open PySem PySem.Spec L2 RZ PyProof.Rows

/-- isinstance(e, c), e the exception that is handled -/
def isxW (rx : List Str) (y : Exc) (a : Addr) (c : Str) (te : TEw) : TEw := fun Ex τ O Q => y.fs = [] ∧ y.cn ∈ rx ∧ te Ex τ O fun x O1 => x = .ref a ∧ Q (.bl (subc y.cn c)) O1
def isxR (a : Addr) (w : Dt) (b : Bool) : RCW := fun ws O Q => ∃ x, ws = [x, w] ∧ x = .ref a ∧ Q (.bl b) O
section
variable {X : Cx} {k : Nat} {y : Exc} {a : Addr} {oe : Obj} {e f tg iter b : Expr} {es : List Expr} {pos p : Pos} {te ta tb tc : TEw} {t : TAw} {nm : Str} {rx : List Str} {T : Tg} {wi : TIw} {tt : TTw}
theorem call_isX {D : Addr} {w : Dt} {cv : Value} {bb : Bool} (hC : ExcC X.K D) (hz : Zc (.ref D) none oe) (hf : ∃ vs, oe.data = .fields vs) (hp : (a, oe) ∈ X.pn) (hw : ∀ H v u, IsD X.K X.mg H v w → RelV v u → u = cv) (hk : PySem.W.kitOne X.K (.ref D) cv = some bb) : CallW X (.builtin "isinstance") (isxR a w bb) := by
  intro Fm pins s σ H vs us ws O Q Q' I r d o ⟨x, ew, ex, q⟩ k
  subst ew ex
  obtain ⟨v, u, ev, d1, d2⟩ := d.two
  subst ev
  have e1 := d1.of_ref
  subst e1
  cases r with
  | cons rx rr =>
    cases rr with
    | cons rt rr =>
      cases rr
      cases rx
      have ec := hw _ _ _ d2 rt
      subst ec
      obtain ⟨hget, _⟩ := I.pin (a, oe) (List.mem_append_left _ hp)
      obtain ⟨vs, hv⟩ := hf
      have J : PySem.W.InstAt s.heap a oe D none := by
        obtain ⟨oc, od, oda, osl⟩ := oe
        obtain ⟨h1, h2⟩ := hz
        dsimp only at h1 h2 hv
        subst h1 h2 hv
        exact ⟨hget, rfl, rfl, trivial⟩
      exact PySem.W.kia_one (PySem.W.handS_kitx_exc hC.hg hC.hk hC.hs hC.hd hC.ha hC.hn hC.ht hC.hm) I.kIn J hk (fun z => nomatch z) fun tk => ⟨.bl bb, H, I.kept (t' := tk) fun _ _ z => z, rfl, k _ _ (LQ.mk (.bl bb) o q)⟩
theorem we_cref {x : Str} {D : Addr} (hg : Gl X x) (h : X.mg x = some (.ref D)) (hd : (x == ("__debug__" : Str)) = false) : WE X (.Name x pos) (cstW (.ref D)) := we_cst (pe_glob (v := .ref D) hg h rfl hd) fun H => .ref D
theorem xisx (C : CokH X k y a) (rx : List Str) {c : Str} {p2 : Pos} (h : WE X e te) (hm : X.mg "isinstance" = none) (exc : ∀ n ∈ rx, ExcK X.K X.mg n) (kit : ∀ n ∈ rx, KitK X.K X.mg n c (subc n c)) (hg : Gl X "isinstance" := by rfl) (hg2 : Gl X c := by rfl) (hdb : (c == ("__debug__" : Str)) = false := by decide)
    (hs : starEach [e, .Name c p2] X.env = (false, eval e X.env) :: starEach [.Name c p2] X.env := by rfl) (hs2 : starEach [.Name c p2] X.env = (false, eval (.Name c p2) X.env) :: starEach [] X.env := by rfl) (hpl : (backTo pos (starEach [.Name c p2] X.env)).any (·.1) = false := by rfl) :
    WE X (.Call (.Name "isinstance" p) [e, .Name c p2] [] pos) (isxW rx y a c te) := fun Fm Ex tk => by
  refine ⟨fun pins s σ H Q' I ⟨τ, O, Q, S, o, ⟨hfs, hmem, h2⟩, kk⟩ => ?_⟩
  obtain ⟨oe, hot, hp, C1, d, g1, hz, hd, hf⟩ := C.hot
  obtain ⟨C2, g2, hC⟩ := exc _ hmem
  obtain ⟨C3, D, g3, gD, hk⟩ := kit _ hmem
  rw [g1] at g2 g3
  cases g2
  cases g3
  have hd0 := hd hfs
  subst hd0
  refine ((we_callB (call_isX (w := .ref D) (cv := .ref D) hC hz.zc hf hp (fun H v u d r => by have e := d.of_ref; subst e; exact r) hk) hg hm (by decide +kernel) (wa_cons h (wa_cons (we_cref hg2 gD hdb) wa_nil hs2) hs) (by decide) (by decide) hs hpl) Fm Ex tk).run pins s σ H Q' I ⟨τ, O, Q, S, o, ?_, kk⟩
  show te Ex τ O fun x O1 => isxR a (.ref D) (subc y.cn c) [x, .ref D] O1 Q
  have e2 : (fun (x : Dt) (O1 : OW) => isxR a (.ref D) (subc y.cn c) [x, .ref D] O1 Q) = fun x O1 => x = .ref a ∧ Q (.bl (subc y.cn c)) O1 := by
    funext x O1
    exact propext ⟨fun ⟨x', e, r⟩ => by cases e; exact r, fun r => ⟨x, rfl, r⟩⟩
  rw [e2]
  exact h2
theorem xisxT (C : CokH X k y a) (rx : List Str) {c : Str} (n : String) {p2 : Pos} (h : WE X e te) (hm : X.mg "isinstance" = none) (hm2 : X.mg c = none) (exc : ∀ n ∈ rx, ExcK X.K X.mg n) (kit : ∀ m ∈ rx, KitT X.K X.mg m n (subc m c)) (hg : Gl X "isinstance" := by rfl) (hg2 : Gl X c := by rfl) (hv : bootBuiltins c = some (.type n) := by decide +kernel) (hn : c ≠ "__name__" := by decide) (hdb : (c == ("__debug__" : Str)) = false := by decide)
    (hs : starEach [e, .Name c p2] X.env = (false, eval e X.env) :: starEach [.Name c p2] X.env := by rfl) (hs2 : starEach [.Name c p2] X.env = (false, eval (.Name c p2) X.env) :: starEach [] X.env := by rfl) (hpl : (backTo pos (starEach [.Name c p2] X.env)).any (·.1) = false := by rfl) :
    WE X (.Call (.Name "isinstance" p) [e, .Name c p2] [] pos) (isxW rx y a c te) := fun Fm Ex tk => by
  refine ⟨fun pins s σ H Q' I ⟨τ, O, Q, S, o, ⟨hfs, hmem, h2⟩, kk⟩ => ?_⟩
  obtain ⟨oe, hot, hp, C1, d, g1, hz, hd, hf⟩ := C.hot
  obtain ⟨C2, g2, hC⟩ := exc _ hmem
  obtain ⟨C3, g3, hk⟩ := kit _ hmem
  rw [g1] at g2 g3
  cases g2
  cases g3
  have hd0 := hd hfs
  subst hd0
  refine ((we_callB (call_isX (w := .ty n) (cv := .type n) hC hz.zc hf hp (fun H v u d r => by cases d; exact r) hk) hg hm (by decide +kernel) (wa_cons h (wa_cons (we_ty hg2 hm2 hv hn hdb) wa_nil hs2) hs) (by decide) (by decide) hs hpl) Fm Ex tk).run pins s σ H Q' I ⟨τ, O, Q, S, o, ?_, kk⟩
  show te Ex τ O fun x O1 => isxR a (.ty n) (subc y.cn c) [x, .ty n] O1 Q
  have e2 : (fun (x : Dt) (O1 : OW) => isxR a (.ty n) (subc y.cn c) [x, .ty n] O1 Q) = fun x O1 => x = .ref a ∧ Q (.bl (subc y.cn c)) O1 := by
    funext x O1
    exact propext ⟨fun ⟨x', e, r⟩ => by cases e; exact r, fun r => ⟨x, rfl, r⟩⟩
  rw [e2]
  exact h2
/-! the rules that ask for the context -/
theorem xcmpH (C : CokH X k y a) (op : COp) (ha : WE X e ta) (hb : WE X b tb) {o : CmpOp} (ho : o = op.op := by rfl) (hm : behindInMarks op.op b = false := by first | exact nobehind _ (by decide) (by decide) | rfl | with_unfolding_all rfl) : WE X (.Compare e [o] [b] pos) (opW (cmpW op) ta tb) := by subst ho; exact we_cmp (cmp_ok C.u op) ha hb hm
theorem xtcmpH (C : CokH X k y a) (op : COp) (ha : WE X e ta) (hb : WE X b tb) {o : CmpOp} (ho : o = op.op := by rfl) (hm : behindInMarks op.op b = false := by first | exact nobehind _ (by decide) (by decide) | rfl | with_unfolding_all rfl) : WT X (.Compare e [o] [b] pos) (tstW (opW (cmpW op) ta tb)) := by subst ho; exact wt_cmp (cmp_ok C.u op) ha hb hm
theorem xlenH (C : CokH X k y a) (ha : WE X e ta) (hm : X.mg "len" = none) (hg : Gl X "len" := by rfl) (he : starEach [e] X.env = (false, eval e X.env) :: starEach [] X.env := by rfl) : WE X (.Call (.Name "len" p) [e] [] pos) (bltW (Blt.sem .len) (consA ta nilA)) :=
  we_callB len_ok hg hm (by decide +kernel) (wa_cons ha wa_nil he) (by decide) (by decide) he rfl
theorem CokH.bN (C : CokH X k y a) {scope : Scope} {s : Shared} {H : Hp} {D : Addr} {cl : List (Str × Addr)} {fp : List Addr} : (Blk X scope s H D cl fp).N.Nodup := C.hN
theorem gnH (hN : X.N.Nodup) (i : Nat) {x : Str} (hi : X.N[i]? = some x := by rfl) (hx : Loc X.env.scope x := by first | exact Or.inl rfl | exact Or.inr rfl) (hf : X.fn x = true ∨ X.env.scope.names.lookup x = some .local := by first | exact .inl rfl | exact .inr rfl) : WG X (.Name x pos) (.one i) := wg_name hN hi hx hf
theorem gtH (h : HotG X a oe) {es : List Expr} {kk : Nat} {is : List Nat} (g : WGs X es is) (hn : (assignEach es X.env).length = is.length := by rfl) (hst : (assignEach es X.env).findIdx? (·.1) = none := by rfl) : WG X (.Tuple es kk pos) (.pack is) := wg_tupG h g hn hst
theorem xlcH (C : CokH X k y a) (fz : Bool) {elt : Expr} {ifs : List Expr} {scope : Scope} (own : List (Str × Nat)) (hi : ∀ oe, WIG X a oe tg iter wi) (hg : ∀ s H D cl fp oe, HotG (Blk X scope s H D cl fp) a oe → WG (Blk X scope s H D cl fp) tg T) (ht : ∀ s H D cl fp, WTs (Blk X scope s H D cl fp) ifs tt) (he : ∀ s H D cl fp, WE (Blk X scope s H D cl fp) elt te)
    (hT : ∀ i ∈ T.slots, i ∈ own.map (·.2) := by decide) (ok : blkC X.N X.env.scope scope own = true := by first | rfl | kernel_rfl) (hs : ∀ x, foldedSetIterable iter X.env x = pure x := by intro _; rfl) : WE X (.ListComp elt [⟨tg, iter, ifs, 0⟩] scope pos) (compW fz wi T tt te (own.map (·.2))) := by
  obtain ⟨oe, hot, hp, _⟩ := C.hot
  exact we_lcG fz hot hp C.hN (hi oe) (blkOk_by ok) hT (fun s H D cl fp h => hg s H D cl fp oe h) ht he hs
theorem ssetH (C : CokH X k y a) (i : Nat) {x : Str} {pos' : Pos} (he : WE X e te) (hi : X.N[i]? = some x := by rfl) (hx : Loc X.env.scope x := by first | exact Or.inl rfl | exact Or.inr rfl) (hs : swapsWith e (some (.Name x pos')) pos.line X.env = pure false := by rfl)
    (hf : X.fn x = true ∨ X.env.scope.names.lookup x = some .local := by first | exact .inl rfl | exact .inr rfl) : WS X (.Assign [.Name x pos'] e pos) (asgW te (.one i)) := ws_set C.hN hi hx he hs hf
theorem slcH (C : CokH X k y a) (i : Nat) {n : Str} {py : Pos} (fz : Bool) {elt : Expr} {ifs : List Expr} {scope : Scope} (own : List (Str × Nat)) (hi : ∀ oe, WIG X a oe tg iter wi) (hg : ∀ s H D cl fp oe, HotG (Blk X scope s H D cl fp) a oe → WG (Blk X scope s H D cl fp) tg T) (ht : ∀ s H D cl fp, WTs (Blk X scope s H D cl fp) ifs tt) (he : ∀ s H D cl fp, WE (Blk X scope s H D cl fp) elt te)
    (hy : X.N[i]? = some n := by rfl) (hyl : X.env.scope.names.lookup n = some .local := by rfl) (hsw : swapsWith (.ListComp elt [⟨tg, iter, ifs, 0⟩] scope p) (some (.Name n py)) pos.line X.env = pure true := by rfl)
    (hT : ∀ i ∈ T.slots, i ∈ own.map (·.2) := by decide) (ok : blkC X.N X.env.scope scope own = true := by first | rfl | kernel_rfl) (hs : ∀ x, foldedSetIterable iter X.env x = pure x := by intro _; rfl) :
    WS X (.Assign [.Name n py] (.ListComp elt [⟨tg, iter, ifs, 0⟩] scope p) pos) (asgW (compW fz wi T tt te (own.map (·.2))) (.one i)) := fun Fm Ex tk => by
  obtain ⟨oe, hot, hp, _⟩ := C.hot
  refine ⟨fun pins s σ H D' I ⟨D, τ, O, S, o, h, l⟩ => ?_⟩
  have h : wi Ex τ O fun I O1 => compGo I.ok T tt te (wipeW τ (own.map (·.2))) I.items [] O1 fun ws O2 => newL fz ws O2 fun w O1 => D.nx (τ.set i (some w)) O1 := h
  refine thn ((ps_setLcG (i := i) (g := gOf X.K T) (tt := fun σ H Q => ∃ F, LT X.K X.mg F (tt botX) σ H Q) (te := fun σ H Q => ∃ F, LE X.K X.mg F (te botX) σ H Q) hot hp C.hN hy hyl hsw (hi oe Fm Ex tk) (blkOk_by ok) (fun s H D cl fp h => hg s H D cl fp oe h) (fun s H C cl fp => pts_anyF (ht s H C cl fp)) (fun s H C cl fp => pe_anyF (he s H C cl fp)) hs).run pins s σ H
    { nx := fun σ' H' => ∃ v, σ' = σ.set i (some v) ∧ LcPost X Fm H (fun ws O2 => newL fz ws O2 fun w O1 => D.nx (τ.set i (some w)) O1) v H', rt := fun _ _ => False } I ?_) fun f s1 q => ?_
  · show tLc _ _ _ _ _ σ H _
    have c := tLc_ok (T := T) (tt := tt) (te := te) (own := own.map (·.2)) hT S o h
    obtain ⟨τ', O', R', S', o', h', k'⟩ := c
    refine ⟨τ', O', R', S', o', h', fun J I H1 O1 P1 o1 sv q D2 nD => ?_⟩
    obtain ⟨W, m0, turn⟩ := k' J I H1 O1 P1 o1 sv q D2 nD
    refine ⟨W, m0, fun i m H2 w => ?_⟩
    rcases turn i m H2 w with ⟨st, z⟩ | z
    · exact .inl ⟨st, ⟨_, rfl, z⟩⟩
    · exact .inr z
  · cases f with
    | next =>
      obtain ⟨σ', H', I', v, rfl, D2, vs, ws, O2, rfl, hD, P, d, o2, oD, fD, q⟩ := q
      unfold newL at q
      cases fz with
      | false =>
        rw [if_neg Bool.false_ne_true] at q
        refine ⟨_, H', I', l.nx _ H' _ _ ((S.pers P).set i (.ref D2)) ⟨fun a oo e => ?_, o2.fr, fun a w e => ?_⟩ (q D2 oD)⟩
        · by_cases ha : a = D2
          · subst ha; rw [upo_same] at e; cases e; exact ⟨vs, hD, d⟩
          · rw [upo_ne ha] at e; exact o2.at_ a oo e
        · rw [upo_ne (fun z => by subst z; rw [fD] at e; cases e)]; exact o2.ap a w e
      | true =>
        rw [if_pos rfl] at q
        obtain ⟨ob, I2⟩ := I'.lock hD trivial
        have P2 : Pers H' (upd H' D2 (.frz ob (.lst vs))) := Pers.upd (fun _ e => by rw [hD] at e; cases e) (fun _ _ e => by rw [hD] at e; cases e)
        refine ⟨_, _, I2, l.nx _ _ _ _ ((S.pers (P.trans P2)).set i (.lst ⟨ob, upd_same⟩ (d.pers P2))) ⟨fun a oo e => ?_, fun a w e => ?_, o2.ap⟩ q⟩
        · exact (o2.at_ a oo e).stay P2 (upd_ne (fun z => by subst z; rw [oD] at e; cases e))
        · rw [upd_ne (fun z => by subst z; rw [fD] at e; cases e)]; exact o2.fr a w e
    | ret v => obtain ⟨_, _, _, _, _, q⟩ := q; exact q.elim
    | brk => obtain ⟨_, _, _, q⟩ := q; exact False.elim q
    | cont => obtain ⟨_, _, _, q⟩ := q; exact False.elim q
theorem iseqH (h : WE X e ta) (oe : Obj) : WIG X a oe tg e (seqLI ta) := wi_seqG h
end
/-! try in short -/
section
variable {X : Cx} {x n : Str} {k : Nat} {body suite : List Stmt} {b₀ : Stmt} {np pos pos' : Pos} {tb : TSw} {ts : Exc → Addr → TSw}
theorem stry (C : Cok X k) (i : Nat) (rx : List Str) (hx : ∃ D : Addr, X.mg x = some (.ref D)) (hk : ∀ m ∈ rx, ExmK X.K X.mg m x (subc m x)) (hb : ∀ (pn : List (Addr × Obj)) (xe : Value → Shared → Prop), PassesOwn (model X.prog X.w) X.A X.env xe → WB (X.tr pn xe) body tb)
    (hsu : ∀ (a : Addr) (oe : Obj) (y : Exc) (pn : List (Addr × Obj)), CokH (X.suite a ((a, oe) :: pn)) k y a → WB (X.suite a ((a, oe) :: pn)) (b₀ :: suite) (ts y a)) (hs : X.stack = X.env :: X.outer := by rfl) (hf : X.env.frame = some X.env.locals := by rfl) (hi : X.N[i]? = some n := by rfl) (hln : X.env.kindOf n = some .local := by rfl) (hg : Gl X x := by rfl) (hdb : (x == ("__debug__" : Str)) = false := by decide) :
    WS X (.Try body [.ExceptHandler (some (.Name x np)) (some n) (b₀ :: suite) pos'] [] [] pos) (tryW rx x tb (some i) ts) := ws_try_as hs hf C.hN hi hln hg hdb hx hk hb fun a oe y pn h => hsu a oe y pn (C.suite h)
theorem stry0 (C : Cok X k) (rx : List Str) (hx : ∃ D : Addr, X.mg x = some (.ref D)) (hk : ∀ m ∈ rx, ExmK X.K X.mg m x (subc m x)) (hb : ∀ (pn : List (Addr × Obj)) (xe : Value → Shared → Prop), PassesOwn (model X.prog X.w) X.A X.env xe → WB (X.tr pn xe) body tb)
    (hsu : ∀ (a : Addr) (oe : Obj) (y : Exc) (pn : List (Addr × Obj)), CokH (X.suite a ((a, oe) :: pn)) k y a → WB (X.suite a ((a, oe) :: pn)) (b₀ :: suite) (ts y a)) (hs : X.stack = X.env :: X.outer := by rfl) (hf : X.env.frame = some X.env.locals := by rfl) (hg : Gl X x := by rfl) (hdb : (x == ("__debug__" : Str)) = false := by decide) :
    WS X (.Try body [.ExceptHandler (some (.Name x np)) none (b₀ :: suite) pos'] [] [] pos) (tryW rx x tb none ts) := ws_try_only hs hf hg hdb hx hk hb fun a oe y pn h => hsu a oe y pn (C.suite h)
end
theorem setI_s {i : Nat} {a : Addr} {τ : SW} : setI (some i) a τ = τ.set i (some (.ref a)) := rfl
theorem setI_n {a : Addr} {τ : SW} : setI none a τ = τ := rfl
theorem dropI_s {i : Nat} {τ : SW} : dropI (some i) τ = τ.set i none := rfl
theorem dropI_n {τ : SW} : dropI none τ = τ := rfl
/-! tables of classes -/
theorem allc {α : Type} {P : α → Prop} {a : α} {l : List α} (h : P a) (r : ∀ m ∈ l, P m) : ∀ m ∈ a :: l, P m := fun m hm => (List.mem_cons.mp hm).elim (fun e => e ▸ h) (r m)
theorem alln {α : Type} {P : α → Prop} : ∀ m ∈ ([] : List α), P m := fun _ h => absurd h (by simp)
section
variable {K : PySem.W.Frag} {mg : Str → Option Value} {n c : Str} {b : Bool} {C D : Addr}
theorem exm_mk (hb : subc n c = b) (h1 : mg n = some (.ref C)) (h2 : mg c = some (.ref D)) (h3 : PySem.W.exmOne K (.ref C) (.ref D) = some b) : ExmK K mg n c (subc n c) := by rw [hb]; exact ⟨C, D, h1, h2, h3⟩
theorem kit_mk (hb : subc n c = b) (h1 : mg n = some (.ref C)) (h2 : mg c = some (.ref D)) (h3 : PySem.W.kitOne K (.ref C) (.ref D) = some b) : KitK K mg n c (subc n c) := by rw [hb]; exact ⟨C, D, h1, h2, h3⟩
theorem kit_mkT {T : String} (hb : subc n c = b) (h1 : mg n = some (.ref C)) (h3 : PySem.W.kitOne K (.ref C) (.type T) = some b) : KitT K mg n T (subc n c) := by rw [hb]; exact ⟨C, h1, h3⟩
end
/-! the equations -/
section
variable {rx : List Str} {y : Exc} {a : Addr} {c : Str} {te ta : TEw} {Ex : XW} {τ : SW} {O : OW} {Q : KW} {tb : TSw} {i : Option Nat} {ts : Exc → Addr → TSw} {D : EndsW} {R : ItW → OW → Prop}
theorem e_isx : isxW rx y a c te Ex τ O Q = (y.fs = [] ∧ y.cn ∈ rx ∧ te Ex τ O fun x O1 => x = .ref a ∧ Q (.bl (subc y.cn c)) O1) := rfl
theorem e_try : tryW rx c tb i ts Ex D τ O = tb (fun y τ1 O1 => y.cn ∈ rx ∧ if subc y.cn c = true then
      ∀ a, O1 a = none → ts y a botX { nx := fun τ2 O2 => D.nx (dropI i τ2) O2, rt := D.rt, bk := fun τ2 O2 => D.bk (dropI i τ2) O2, ct := fun τ2 O2 => D.ct (dropI i τ2) O2 } (setI i a τ1) O1
    else Ex y τ1 O1) D τ O := rfl
theorem e_seqL : seqLI ta Ex τ O R = ta Ex τ O fun x O1 => ∃ ws, asL O1 x = some ws ∧ R ⟨ones ws, fun O' => asL O' x = some ws⟩ O1 := rfl
end
end TF

/-! TF37: list(range(..)), tuple(range(..)) -/
namespace TF
open PySem PySem.Spec L2 RZ PyProof.Rows

def rgI (a b : Int) : List Int := (List.range (b - a).toNat).map fun i => a + (i : Nat)
theorem isDs_rg {K : PySem.W.Frag} {mg : Str → Option Value} {H : Hp} (a b : Int) : IsDs K mg H (rgV a b) ((rgI a b).map Dt.int) := by
  unfold rgV rgI
  rw [List.map_map]
  exact IsDs.map (f := fun i : Nat => V.int (a + (i : Nat))) (g := Dt.int ∘ fun i : Nat => a + (i : Nat)) (fun i => .int _) _
def lrg1W (fz : Bool) (te : TEw) : TEw := fun Ex τ O Q => te Ex τ O fun x O1 => asI x fun n => RgOk 0 n ∧ newL fz ((rgI 0 n).map Dt.int) O1 Q
def lrg2W (fz : Bool) (ta tb : TEw) : TEw := fun Ex τ O Q => ta Ex τ O fun x O1 => tb Ex τ O1 fun y O2 => asI x fun m => asI y fun n => RgOk m n ∧ newL fz ((rgI m n).map Dt.int) O2 Q
def trg1W (te : TEw) : TEw := fun Ex τ O Q => te Ex τ O fun x O1 => asI x fun n => RgOk 0 n ∧ Q (.tup ((rgI 0 n).map Dt.int)) O1
def trg2W (ta tb : TEw) : TEw := fun Ex τ O Q => ta Ex τ O fun x O1 => tb Ex τ O1 fun y O2 => asI x fun m => asI y fun n => RgOk m n ∧ Q (.tup ((rgI m n).map Dt.int)) O2
section
variable {X : Cx} {k : Nat} {e b : Expr} {pos p p2 pos2 : Pos} {te tb : TEw} {t : L2.St → Hp → (Int → Int → Hp → Prop) → Prop} {Fm : Hp}
theorem xlrg1 (C : Cok X k) (fz : Bool) (he : WE X e te) (hm : X.mg "list" = none) (hm2 : X.mg "range" = none) (hg : Gl X "list" := by rfl) (hg2 : Gl X "range" := by rfl) (na : starEach [e] X.env = (false, eval e X.env) :: starEach [] X.env := by rfl)
    (na2 : starEach [.Call (.Name "range" p2) [e] [] pos2] X.env = (false, eval (.Call (.Name "range" p2) [e] [] pos2) X.env) :: starEach [] X.env := by rfl) : WE X (.Call (.Name "list" p) [.Call (.Name "range" p2) [e] [] pos2] [] pos) (lrg1W fz te) := fun Fm Ex tk => by
  refine ⟨fun pins s σ H Q' I ⟨τ, O, Q, S, o, h, kk⟩ => ?_⟩
  refine thn ((pe_listRg (p := p) (pos := pos) C.calm hg hm (prg_1 hg2 hm2 (he Fm Ex tk) na) na2).run pins s σ H (fun v H' => ∃ p vs ws H1 O1, v = .ref p ∧ H' = upd H1 p (.lst vs) ∧ H1 p = none ∧ Pers H H1 ∧ IsDs X.K X.mg H1 vs ws ∧ Own X.K X.mg Fm O1 H1 ∧ newL fz ws O1 Q) I ?_) fun u s1 ⟨v, H', I', r', p, vs, ws, H1, O1, e1, e2, np, P1, d1, o1, q1⟩ => ?_
  · refine ⟨τ, O, _, S, o, h, fun v H1 ⟨w, O1, P1, d1, o1, q1⟩ => ?_⟩
    obtain ⟨n, rfl, ok, q1⟩ := asI_is q1
    exact ⟨n, d1.of_int, ok, fun q nq => ⟨q, _, _, H1, O1, rfl, rfl, nq, P1, isDs_rg _ _, o1, q1⟩⟩
  · subst e1 e2
    cases r'
    exact ep_newL np P1 I' d1 o1 q1 kk
theorem xlrg2 (C : Cok X k) (fz : Bool) (he : WE X e te) (hb : WE X b tb) (hm : X.mg "list" = none) (hm2 : X.mg "range" = none) (hg : Gl X "list" := by rfl) (hg2 : Gl X "range" := by rfl) (na : starEach [e, b] X.env = (false, eval e X.env) :: starEach [b] X.env := by rfl) (nb : starEach [b] X.env = (false, eval b X.env) :: starEach [] X.env := by rfl)
    (hp : (backTo pos2 (starEach [b] X.env)).any (·.1) = false := by rfl) (na2 : starEach [.Call (.Name "range" p2) [e, b] [] pos2] X.env = (false, eval (.Call (.Name "range" p2) [e, b] [] pos2) X.env) :: starEach [] X.env := by rfl) : WE X (.Call (.Name "list" p) [.Call (.Name "range" p2) [e, b] [] pos2] [] pos) (lrg2W fz te tb) := fun Fm Ex tk => by
  refine ⟨fun pins s σ H Q' I ⟨τ, O, Q, S, o, h, kk⟩ => ?_⟩
  refine thn ((pe_listRg (p := p) (pos := pos) C.calm hg hm (prg_2 hg2 hm2 (he Fm Ex tk) (hb Fm Ex tk) na nb hp) na2).run pins s σ H (fun v H' => ∃ p vs ws H1 O1, v = .ref p ∧ H' = upd H1 p (.lst vs) ∧ H1 p = none ∧ Pers H H1 ∧ IsDs X.K X.mg H1 vs ws ∧ Own X.K X.mg Fm O1 H1 ∧ newL fz ws O1 Q) I ?_) fun u s1 ⟨v, H', I', r', p, vs, ws, H1, O1, e1, e2, np, P1, d1, o1, q1⟩ => ?_
  · refine ⟨τ, O, _, S, o, h, fun v H1 ⟨w, O1, P1, d1, o1, q1⟩ => ⟨τ, O1, _, S.pers P1, o1, q1, fun v2 H2 ⟨w2, O2, P2, d2, o2, q2⟩ => ?_⟩⟩
    obtain ⟨m, ew, q3⟩ := asI_is q2
    obtain ⟨n, ew2, ok, q4⟩ := asI_is q3
    subst ew ew2
    exact ⟨m, n, d1.of_int, d2.of_int, ok, fun q nq => ⟨q, _, _, H2, O2, rfl, rfl, nq, P1.trans P2, isDs_rg _ _, o2, q4⟩⟩
  · subst e1 e2
    cases r'
    exact ep_newL np P1 I' d1 o1 q1 kk
/-- tuple(a range) -/
theorem tup_rg (C : Cok X k) (he : PRg X e t) (hm : X.mg "tuple" = none) (hg : Gl X "tuple") (na : starEach [e] X.env = (false, eval e X.env) :: starEach [] X.env) {pins : List (Addr × Obj)} {s : Shared} {σ : L2.St} {H : Hp} {Q : KW} {Q' : VK} (I : Inv X pins σ H s)
    (h : t σ H fun a b H1 => RgOk a b ∧ ∃ O1, Pers H H1 ∧ Own X.K X.mg Fm O1 H1 ∧ Q (.tup ((rgI a b).map Dt.int)) O1) (kk : ∀ v H', LQ X.K X.mg Fm H Q v H' → Q' v H') : wpAny (model X.prog X.w) X.A (eval (.Call (.Name "tuple" p) [e] [] pos) X.env) (EP X pins σ Q') X.xe s := by
  refine Call_ (ld_blt I hg hm boot_tuple (PyProof.Rows.callWith_type1 (args_cons (thn (he pins s σ H _ I h) fun x s1 ⟨r, a, b, t, u, v, H1, ex, hr, I1, ok, O1, P1, o1, q⟩ => args_nil ?_) na) na))
  subst ex
  obtain ⟨b1, b2, b3, b4, b5⟩ := ok
  refine call_tuple_range (n := (b - a).toNat) (I1.ok.hd C.calm) hr (small_one b1 b2 b3 b4) (rangeSize_nat a b) b5 fun h' tk acc hk hi => ?_
  have I2 : Inv X pins σ H1 { s1 with heap := h', toks := tk } := I1.kept hk
  exact ep_newT (t' := tk) I2 (vals_rg hi) (by rw [rgV_length, sizeLine_eq]; omega) P1 (isDs_rg a b) o1 q kk
theorem xtrg1 (C : Cok X k) (he : WE X e te) (hm : X.mg "tuple" = none) (hm2 : X.mg "range" = none) (hg : Gl X "tuple" := by rfl) (hg2 : Gl X "range" := by rfl) (na : starEach [e] X.env = (false, eval e X.env) :: starEach [] X.env := by rfl)
    (na2 : starEach [.Call (.Name "range" p2) [e] [] pos2] X.env = (false, eval (.Call (.Name "range" p2) [e] [] pos2) X.env) :: starEach [] X.env := by rfl) : WE X (.Call (.Name "tuple" p) [.Call (.Name "range" p2) [e] [] pos2] [] pos) (trg1W te) := fun Fm Ex tk => by
  refine ⟨fun pins s σ H Q' I ⟨τ, O, Q, S, o, h, kk⟩ => ?_⟩
  refine tup_rg (Fm := Fm) (Q := Q) C (prg_1 hg2 hm2 (he Fm Ex tk) na) hm hg na2 I ?_ kk
  refine ⟨τ, O, _, S, o, h, fun v H1 ⟨w, O1, P1, d1, o1, q1⟩ => ?_⟩
  obtain ⟨n, rfl, ok, q1⟩ := asI_is q1
  exact ⟨n, d1.of_int, ok, O1, P1, o1, q1⟩
theorem xtrg2 (C : Cok X k) (he : WE X e te) (hb : WE X b tb) (hm : X.mg "tuple" = none) (hm2 : X.mg "range" = none) (hg : Gl X "tuple" := by rfl) (hg2 : Gl X "range" := by rfl) (na : starEach [e, b] X.env = (false, eval e X.env) :: starEach [b] X.env := by rfl) (nb : starEach [b] X.env = (false, eval b X.env) :: starEach [] X.env := by rfl)
    (hp : (backTo pos2 (starEach [b] X.env)).any (·.1) = false := by rfl) (na2 : starEach [.Call (.Name "range" p2) [e, b] [] pos2] X.env = (false, eval (.Call (.Name "range" p2) [e, b] [] pos2) X.env) :: starEach [] X.env := by rfl) : WE X (.Call (.Name "tuple" p) [.Call (.Name "range" p2) [e, b] [] pos2] [] pos) (trg2W te tb) := fun Fm Ex tk => by
  refine ⟨fun pins s σ H Q' I ⟨τ, O, Q, S, o, h, kk⟩ => ?_⟩
  refine tup_rg (Fm := Fm) (Q := Q) C (prg_2 hg2 hm2 (he Fm Ex tk) (hb Fm Ex tk) na nb hp) hm hg na2 I ?_ kk
  refine ⟨τ, O, _, S, o, h, fun v H1 ⟨w, O1, P1, d1, o1, q1⟩ => ⟨τ, O1, _, S.pers P1, o1, q1, fun v2 H2 ⟨w2, O2, P2, d2, o2, q2⟩ => ?_⟩⟩
  obtain ⟨m, ew, q3⟩ := asI_is q2
  obtain ⟨n, ew2, ok, q4⟩ := asI_is q3
  subst ew ew2
  exact ⟨m, n, d1.of_int, d2.of_int, ok, O2, P1.trans P2, o2, q4⟩
end
section
variable {te ta tb : TEw} {Ex : XW} {τ : SW} {O : OW} {Q : KW} {fz : Bool}
theorem e_lrg1 : lrg1W fz te Ex τ O Q = te Ex τ O fun x O1 => asI x fun n => RgOk 0 n ∧ newL fz ((rgI 0 n).map Dt.int) O1 Q := rfl
theorem e_lrg2 : lrg2W fz ta tb Ex τ O Q = ta Ex τ O fun x O1 => tb Ex τ O1 fun y O2 => asI x fun m => asI y fun n => RgOk m n ∧ newL fz ((rgI m n).map Dt.int) O2 Q := rfl
theorem e_trg1 : trg1W te Ex τ O Q = te Ex τ O fun x O1 => asI x fun n => RgOk 0 n ∧ Q (.tup ((rgI 0 n).map Dt.int)) O1 := rfl
theorem e_trg2 : trg2W ta tb Ex τ O Q = ta Ex τ O fun x O1 => tb Ex τ O1 fun y O2 => asI x fun m => asI y fun n => RgOk m n ∧ Q (.tup ((rgI m n).map Dt.int)) O2 := rfl
end
end TF

set_option maxHeartbeats 1000000
/-! TF38: repr of lists that hold {} -/
namespace TF
open PySem PySem.Spec L2 RZ PyProof.Rows

section
variable {X : Cx} {Fm H : Hp} {O : OW} {pins : List (Addr × Obj)} {σ : L2.St} {s : Shared}
theorem one_dict (hB : M1 X.base) (I : Inv X pins σ H s) : ∃ o es ep, s.heap.get? sysModules = some o ∧ o.data = .dict es ep := by
  obtain ⟨mm, o, es, ep, e, d, _⟩ := hB
  exact ⟨o, es, ep, I.bk _ _ e, d⟩
mutual
theorem PD.reads (hB : M1 X.base) (I : Inv X pins σ H s) (o : Own X.K X.mg Fm O H) : ∀ {w : Dt} {d : PyData} {v : V} {u : Value}, PD O w d → IsD X.K X.mg H v w → RelV v u → ∃ as, Reads s.heap u d as ∧ sysModules ∉ as
  | _, _, _, _, .non, h, r => by cases h; cases r; exact ⟨_, .none, by simp⟩
  | _, _, _, _, .bl b, h, r => by cases h; cases r; exact ⟨_, .bool b, by simp⟩
  | _, _, _, _, .int i, h, r => by cases h; obtain ⟨t, rfl⟩ := r; exact ⟨_, .int i t, by simp⟩
  | _, _, _, _, .str z, h, r => by cases h; obtain ⟨t, rfl⟩ := r; exact ⟨_, .str z t, by simp⟩
  | _, _, _, _, .tup t, h, r => by
    cases h with
    | tup h1 h2 =>
      cases r
      obtain ⟨its, rv, ⟨ob, ho, hc, n, hd⟩, _⟩ := I.tuple h1.tup
      obtain ⟨as, hr, ha⟩ := PDs.reads hB I o t h2 rv
      exact ⟨_, .tuple ho hc hd hr, ha⟩
  | _, _, _, _, .lst t, h, r => by
    cases h with
    | lst h1 h2 =>
      cases r
      obtain ⟨its, rv, ⟨ob, n, ho, hc, _, hd⟩, _⟩ := I.list (.inl h1.rd)
      obtain ⟨as, hr, ha⟩ := PDs.reads hB I o t h2 rv
      refine ⟨_, .list ho hc hd hr, fun hm => ?_⟩
      rcases List.mem_cons.mp hm with e | e
      · obtain ⟨o1, es, ep, e1, e2⟩ := one_dict hB I
        rw [e, ho] at e1
        cases e1
        rw [hd] at e2
        cases e2
      · exact ha e
  | _, _, _, _, .own (a := a) e t, h, r => by
    cases h with
    | ref _ =>
      cases r
      obtain ⟨vs, h1, h2⟩ := o.at_ a _ e
      obtain ⟨its, rv, ⟨ob, n, ho, hc, _, hd⟩, _⟩ := I.list (.inl (.inl h1))
      obtain ⟨as, hr, ha⟩ := PDs.reads hB I o t h2 rv
      refine ⟨_, .list ho hc hd hr, fun hm => ?_⟩
      rcases List.mem_cons.mp hm with e | e
      · obtain ⟨o1, es, ep, e1, e2⟩ := one_dict hB I
        rw [e, ho] at e1
        cases e1
        rw [hd] at e2
        cases e2
      · exact ha e
  | _, _, _, _, .dct0, h, r => by
    cases h with
    | dct h1 h2 =>
      cases h2
      cases r
      obtain ⟨e1, _, hs, vs, kv, o2, es, ep, e2, ⟨hx, _⟩, e3, _, pr, _⟩ := I.hok _ _ h1
      have hne := beq_eq_false_iff_ne.mp hs
      cases kv
      have e4 : es.toList = [] := by
        cases q : es.toList with
        | nil => rfl
        | cons a l => rw [q] at pr; cases pr
      refine ⟨_, .dict (as := []) (bs := []) e2 hx e3 (by rw [e4]; exact .nil) (by rw [e4]; exact .nil), fun hm => hne ?_⟩
      exact (List.mem_singleton.mp (by simpa using hm)).symm
theorem PDs.reads (hB : M1 X.base) (I : Inv X pins σ H s) (o : Own X.K X.mg Fm O H) : ∀ {ws : List Dt} {ds : List PyData} {vs : List V} {us : List Value}, PDs O ws ds → IsDs X.K X.mg H vs ws → Vals vs us → ∃ as, ReadsAll s.heap us ds as ∧ sysModules ∉ as
  | _, _, _, _, .nil, h, r => by cases h; cases r; exact ⟨_, .nil, by simp⟩
  | _, _, _, _, .cons p t, h, r => by
    cases h with
    | cons h1 h2 =>
      cases r with
      | cons r1 r2 =>
        obtain ⟨as, q1, a1⟩ := PD.reads hB I o p h1 r1
        obtain ⟨bs, q2, a2⟩ := PDs.reads hB I o t h2 r2
        exact ⟨_, .cons q1 q2, fun hm => (List.mem_append.mp hm).elim a1 a2⟩
end
end
def reprXW : RCW := fun ws O Q => ∃ zs d, ws = [.lst zs] ∧ PD O (.lst zs) d ∧ d.showable = true ∧ d.depth ≤ 100 ∧ d.shown.length ≤ sizeLine ∧ Q (.str d.shown) O
section
variable {X : Cx} {k : Nat} {e : Expr} {pos p : Pos} {ta : TEw}
theorem reprX_ok (hB : M1 X.base) (hg : X.A.guards = some []) (hu : X.A.units + 200 < cLine) : CallW X (.builtin "repr") reprXW := by
  intro Fm pins s σ H vs us ws O Q Q' I rv d o q k
  obtain ⟨zs, dd, rfl, p, sh, dp, hl, q⟩ := q
  obtain ⟨v, ev, dv⟩ := d.one
  subst ev
  obtain ⟨u, rfl, ru⟩ := rv.one
  obtain ⟨as, hr, ha⟩ := p.reads hB I o dv ru
  cases dv with
  | lst h1 h2 =>
    cases ru
    refine repr_of_reads' hr sh (fun _ => ha) hg (by omega) (fun _ _ e => e) (fun h' u tk hk => ?_) hl
    exact ⟨.str dd.shown, H, I.kept (t' := tk) hk, ⟨_, rfl⟩, k _ _ (LQ.mk (.str _) o q)⟩
theorem xreprX (C : Cok X k) (hB : M1 X.base) (h20 : 20 ≤ k) (he : WE X e ta) (hm : X.mg "repr" = none) (hg : Gl X "repr" := by rfl) (hs : starEach [e] X.env = (false, eval e X.env) :: starEach [] X.env := by rfl) (hpl : (backTo pos (starEach [] X.env)).any (·.1) = false := by rfl) :
    WE X (.Call (.Name "repr" p) [e] [] pos) (bltW reprXW (consA ta nilA)) := we_callB (reprX_ok hB (C.hg h20) (by have := C.hr.un; omega)) hg hm (by decide +kernel) (a1 (hs := hs) he a0) (by decide +kernel) (by decide +kernel) hs hpl
end
section
variable {O : OW} {Q : KW} {zs : List Dt}
theorem f_reprX : reprXW [.lst zs] O Q = ∃ d, PD O (.lst zs) d ∧ d.showable = true ∧ d.depth ≤ 100 ∧ d.shown.length ≤ sizeLine ∧ Q (.str d.shown) O := by
  unfold reprXW
  apply propext
  constructor
  · rintro ⟨zs', d, e, r⟩
    cases e
    exact ⟨d, r⟩
  · rintro ⟨d, r⟩
    exact ⟨zs, d, rfl, r⟩
end
end TF

/-! P1: the package's checks of values -/
namespace TF
open PySem L2

/-- a bool reading that is known -/
theorem if_t {A B : Prop} (h : A) : (if true = true then A else B) := by rw [if_pos rfl]; exact h
theorem if_f {A B : Prop} (h : B) : (if false = true then A else B) := by rw [if_neg Bool.false_ne_true]; exact h

def inR (x : Dt) (lo hi : Int) : Bool := match x with
  | .int i => decide (lo ≤ i) && decide (i ≤ hi)
  | _ => false
def isI (x : Dt) : Bool := match x with
  | .int _ => true
  | _ => false
def isH (x : Dt) : Bool := inR x (-1000000000000000000000000000000) 1000000000000000000000000000000
def intOf : Dt → Int
  | .int i => i
  | _ => 0
def intsOf (ws : List Dt) : List Int := ws.map intOf
def isQ (x : Dt) : Bool := match x with
  | .tup ws => decide (1 ≤ ws.length ∧ ws.length ≤ 40) && ws.all isH && decide ((intsOf ws).Nodup)
  | _ => false
def known (O : OW) (x : Dt) : Prop := ∃ t, tnOf O x = some t
def knowns (O : OW) (x : Dt) : Prop := match x with
  | .tup ws => ∀ y ∈ ws, known O y
  | _ => True

def sp_is_int : SpW := fun ws O Q E => ∃ x, ws = [x] ∧ known O x ∧ Q (.bl (isI x)) O
def sem_is_int : TSw := retW (andW (isiW .int (varW 0)) (notW (isiW .bool (varW 0))))
theorem isI_of {O : OW} {x : Dt} {t : TN} (h : tnOf O x = some t) : isI x = (t.sub .int && !t.sub .bool) := by
  cases x with
  | ref a =>
    have h : (match O a with | some (.lst _) => some TN.list | some (.dct _) => some TN.dict | _ => none) = some t := h
    split at h <;> first | (cases h; rfl) | cases h
  | _ => cases h <;> rfl
theorem is_int_ok : ∀ ws O Q E, sp_is_int ws O Q E → semFn 1 1 sem_is_int ws O Q E := by
  rintro ws O Q E ⟨x, rfl, ⟨t, ht⟩, q⟩
  rw [isI_of ht] at q
  refine ⟨rfl, ?_⟩
  try simp only [sem_is_int, sb_none_bool, sb_none_int, sb_none_str, sb_none_tuple, sb_none_list, sb_none_dict, sb_bool_bool, sb_bool_int, sb_bool_str, sb_bool_tuple, sb_bool_list, sb_bool_dict, sb_int_bool, sb_int_int, sb_int_str, sb_int_tuple, sb_int_list, sb_int_dict, sb_str_bool, sb_str_int, sb_str_str, sb_str_tuple, sb_str_list, sb_str_dict, sb_tuple_bool, sb_tuple_int, sb_tuple_str, sb_tuple_tuple, sb_tuple_list, sb_tuple_dict, sb_list_bool, sb_list_int, sb_list_str, sb_list_tuple, sb_list_list, sb_list_dict, sb_dict_bool, sb_dict_int, sb_dict_str, sb_dict_tuple, sb_dict_list, sb_dict_dict, decide_true, decide_false, Bool.or_false, Bool.false_or, Bool.or_true, Bool.true_or, Bool.and_true, Bool.true_and, Bool.and_false, Bool.false_and, onBl_bl, onS_some, e_seq, e_asg, e_par, e_two, e_expr, e_retN, e_if, e_tst, e_brk, e_cnt, e_next, e_sub, e_ag, e_raise, e_for, e_var, e_cst, e_op, e_chn, asI_int, e_neg, e_not, e_and, e_or, e_ife, onB_some, e_isN, isN_non, isN_int, isN_bl, isN_str, isN_tup, isN_lst, isN_ref, e_sl, e_none, e_some, e_nil, e_cons, e_tup, e_lst, e_call, e_blt, onT_some, e_isi, e_isii, tn_non, tn_bl, tn_int, tn_str, tn_tup, tn_lst, e_mt, ty_str, ty_tup, ty_lst, e_comp, e_seqI, seqX_str, seqX_tup, seqX_lst, e_one1, e_enum, walk_tup, walk_lst, e_zip, zip_tup, zip_lst, e_rng1, e_rng2, e_yes, onL1_some, e_rev, newL_t, newL_f, asQ_lst, asQ_tup, tgt_one, tgt_pack, tgt_tup, b_add, add_int, add_str, add_tup, add_lst, b_sub, b_mul, mul_int, b_mod, b_fdiv, b_pow, c_eq, c_ne, c_lt, c_le, c_gt, c_ge, c_in, c_nin, eq_int, eq_str, eq_bl, eq_non, in_chr, idx_str, idx_tup, idx_lst, idx_scr, slc_str, slc_tup, slc_lst, slc_scr, f_len, len_str, len_tup, len_lst, len_scr, f_max2, f_min2, f_abs, f_stri, f_strs, f_ints, f_all, f_sum, f_max1, f_min1, f_list, f_tuple, f_sorted, f_sortT, f_dictP, e_listG, e_seqG, e_nilG, e_plainG, e_forG, e_yieldG, m_join, m_split, m_strip, m_index, e_ret, asL_lst, e_lset, e_sortR, e_dg, e_dsub, e_dnew, e_dcomp, e_back, e_fld, e_sfld, e_meth, e_make, key_int, key_str, asK_dct, newD_t, newD_f, cutB_t, cutB_f, f_divmod, f_repr, e_isx, e_try, e_seqL, setI_s, setI_n, dropI_s, dropI_n, e_lrg1, e_lrg2, e_trg1, e_trg2, onK_some, onK1_some, getS, startW, wipeW, Mth.T, Mth.sem, augI, if_true, if_false, Bool.false_eq_true, true_and, and_true, Bool.not_true, Bool.not_false, List.map, List.length, List.replicate, List.cons_append, List.nil_append, List.set_cons_zero, List.set_cons_succ, Nat.reduceAdd, Nat.reduceSub, Int.reduceAdd, Int.reduceSub, Int.reduceNeg, Int.reduceMul, Nat.zero_add, List.map, List.length, List.append_eq, List.cons_append, List.nil_append, ht]
  cases h1 : t.sub .int
  · rw [h1] at q
    exact if_f (Ang.keep q)
  · rw [h1] at q
    exact if_t (Ang.keep q)
def sp_in_range : SpW := fun ws O Q E => ∃ x lo hi, ws = [x, .int lo, .int hi] ∧ known O x ∧ Q (.bl (inR x lo hi)) O
def sem_in_range : TSw := retW (andW (callW sp_is_int (consA (varW 0) (nilA))) (chnW (cmpW .le) (cmpW .le) (varW 1) (varW 0) (varW 2)))
theorem in_range_ok : ∀ ws O Q E, sp_in_range ws O Q E → semFn 3 3 sem_in_range ws O Q E := by
  rintro ws O Q E ⟨x, lo, hi, rfl, k, q⟩
  refine ⟨rfl, ?_⟩
  try simp only [sem_in_range, sb_none_bool, sb_none_int, sb_none_str, sb_none_tuple, sb_none_list, sb_none_dict, sb_bool_bool, sb_bool_int, sb_bool_str, sb_bool_tuple, sb_bool_list, sb_bool_dict, sb_int_bool, sb_int_int, sb_int_str, sb_int_tuple, sb_int_list, sb_int_dict, sb_str_bool, sb_str_int, sb_str_str, sb_str_tuple, sb_str_list, sb_str_dict, sb_tuple_bool, sb_tuple_int, sb_tuple_str, sb_tuple_tuple, sb_tuple_list, sb_tuple_dict, sb_list_bool, sb_list_int, sb_list_str, sb_list_tuple, sb_list_list, sb_list_dict, sb_dict_bool, sb_dict_int, sb_dict_str, sb_dict_tuple, sb_dict_list, sb_dict_dict, decide_true, decide_false, Bool.or_false, Bool.false_or, Bool.or_true, Bool.true_or, Bool.and_true, Bool.true_and, Bool.and_false, Bool.false_and, onBl_bl, onS_some, e_seq, e_asg, e_par, e_two, e_expr, e_retN, e_if, e_tst, e_brk, e_cnt, e_next, e_sub, e_ag, e_raise, e_for, e_var, e_cst, e_op, e_chn, asI_int, e_neg, e_not, e_and, e_or, e_ife, onB_some, e_isN, isN_non, isN_int, isN_bl, isN_str, isN_tup, isN_lst, isN_ref, e_sl, e_none, e_some, e_nil, e_cons, e_tup, e_lst, e_call, e_blt, onT_some, e_isi, e_isii, tn_non, tn_bl, tn_int, tn_str, tn_tup, tn_lst, e_mt, ty_str, ty_tup, ty_lst, e_comp, e_seqI, seqX_str, seqX_tup, seqX_lst, e_one1, e_enum, walk_tup, walk_lst, e_zip, zip_tup, zip_lst, e_rng1, e_rng2, e_yes, onL1_some, e_rev, newL_t, newL_f, asQ_lst, asQ_tup, tgt_one, tgt_pack, tgt_tup, b_add, add_int, add_str, add_tup, add_lst, b_sub, b_mul, mul_int, b_mod, b_fdiv, b_pow, c_eq, c_ne, c_lt, c_le, c_gt, c_ge, c_in, c_nin, eq_int, eq_str, eq_bl, eq_non, in_chr, idx_str, idx_tup, idx_lst, idx_scr, slc_str, slc_tup, slc_lst, slc_scr, f_len, len_str, len_tup, len_lst, len_scr, f_max2, f_min2, f_abs, f_stri, f_strs, f_ints, f_all, f_sum, f_max1, f_min1, f_list, f_tuple, f_sorted, f_sortT, f_dictP, e_listG, e_seqG, e_nilG, e_plainG, e_forG, e_yieldG, m_join, m_split, m_strip, m_index, e_ret, asL_lst, e_lset, e_sortR, e_dg, e_dsub, e_dnew, e_dcomp, e_back, e_fld, e_sfld, e_meth, e_make, key_int, key_str, asK_dct, newD_t, newD_f, cutB_t, cutB_f, f_divmod, f_repr, e_isx, e_try, e_seqL, setI_s, setI_n, dropI_s, dropI_n, e_lrg1, e_lrg2, e_trg1, e_trg2, onK_some, onK1_some, getS, startW, wipeW, Mth.T, Mth.sem, augI, if_true, if_false, Bool.false_eq_true, true_and, and_true, Bool.not_true, Bool.not_false, List.map, List.length, List.replicate, List.cons_append, List.nil_append, List.set_cons_zero, List.set_cons_succ, Nat.reduceAdd, Nat.reduceSub, Int.reduceAdd, Int.reduceSub, Int.reduceNeg, Int.reduceMul, Nat.zero_add, List.map, List.length, List.append_eq, List.cons_append, List.nil_append]
  refine ⟨x, rfl, k, ?_⟩
  try simp only [sb_none_bool, sb_none_int, sb_none_str, sb_none_tuple, sb_none_list, sb_none_dict, sb_bool_bool, sb_bool_int, sb_bool_str, sb_bool_tuple, sb_bool_list, sb_bool_dict, sb_int_bool, sb_int_int, sb_int_str, sb_int_tuple, sb_int_list, sb_int_dict, sb_str_bool, sb_str_int, sb_str_str, sb_str_tuple, sb_str_list, sb_str_dict, sb_tuple_bool, sb_tuple_int, sb_tuple_str, sb_tuple_tuple, sb_tuple_list, sb_tuple_dict, sb_list_bool, sb_list_int, sb_list_str, sb_list_tuple, sb_list_list, sb_list_dict, sb_dict_bool, sb_dict_int, sb_dict_str, sb_dict_tuple, sb_dict_list, sb_dict_dict, decide_true, decide_false, Bool.or_false, Bool.false_or, Bool.or_true, Bool.true_or, Bool.and_true, Bool.true_and, Bool.and_false, Bool.false_and, onBl_bl, onS_some, e_seq, e_asg, e_par, e_two, e_expr, e_retN, e_if, e_tst, e_brk, e_cnt, e_next, e_sub, e_ag, e_raise, e_for, e_var, e_cst, e_op, e_chn, asI_int, e_neg, e_not, e_and, e_or, e_ife, onB_some, e_isN, isN_non, isN_int, isN_bl, isN_str, isN_tup, isN_lst, isN_ref, e_sl, e_none, e_some, e_nil, e_cons, e_tup, e_lst, e_call, e_blt, onT_some, e_isi, e_isii, tn_non, tn_bl, tn_int, tn_str, tn_tup, tn_lst, e_mt, ty_str, ty_tup, ty_lst, e_comp, e_seqI, seqX_str, seqX_tup, seqX_lst, e_one1, e_enum, walk_tup, walk_lst, e_zip, zip_tup, zip_lst, e_rng1, e_rng2, e_yes, onL1_some, e_rev, newL_t, newL_f, asQ_lst, asQ_tup, tgt_one, tgt_pack, tgt_tup, b_add, add_int, add_str, add_tup, add_lst, b_sub, b_mul, mul_int, b_mod, b_fdiv, b_pow, c_eq, c_ne, c_lt, c_le, c_gt, c_ge, c_in, c_nin, eq_int, eq_str, eq_bl, eq_non, in_chr, idx_str, idx_tup, idx_lst, idx_scr, slc_str, slc_tup, slc_lst, slc_scr, f_len, len_str, len_tup, len_lst, len_scr, f_max2, f_min2, f_abs, f_stri, f_strs, f_ints, f_all, f_sum, f_max1, f_min1, f_list, f_tuple, f_sorted, f_sortT, f_dictP, e_listG, e_seqG, e_nilG, e_plainG, e_forG, e_yieldG, m_join, m_split, m_strip, m_index, e_ret, asL_lst, e_lset, e_sortR, e_dg, e_dsub, e_dnew, e_dcomp, e_back, e_fld, e_sfld, e_meth, e_make, key_int, key_str, asK_dct, newD_t, newD_f, cutB_t, cutB_f, f_divmod, f_repr, e_isx, e_try, e_seqL, setI_s, setI_n, dropI_s, dropI_n, e_lrg1, e_lrg2, e_trg1, e_trg2, onK_some, onK1_some, getS, startW, wipeW, Mth.T, Mth.sem, augI, if_true, if_false, Bool.false_eq_true, true_and, and_true, Bool.not_true, Bool.not_false, List.map, List.length, List.replicate, List.cons_append, List.nil_append, List.set_cons_zero, List.set_cons_succ, Nat.reduceAdd, Nat.reduceSub, Int.reduceAdd, Int.reduceSub, Int.reduceNeg, Int.reduceMul, Nat.zero_add]
  cases h : isI x
  · have e : inR x lo hi = false := by
      cases x <;> first | rfl | cases h
    rw [e] at q
    exact if_f (Ang.keep q)
  · cases x with
    | int i => 
      refine if_t ?_
      try simp only [sb_none_bool, sb_none_int, sb_none_str, sb_none_tuple, sb_none_list, sb_none_dict, sb_bool_bool, sb_bool_int, sb_bool_str, sb_bool_tuple, sb_bool_list, sb_bool_dict, sb_int_bool, sb_int_int, sb_int_str, sb_int_tuple, sb_int_list, sb_int_dict, sb_str_bool, sb_str_int, sb_str_str, sb_str_tuple, sb_str_list, sb_str_dict, sb_tuple_bool, sb_tuple_int, sb_tuple_str, sb_tuple_tuple, sb_tuple_list, sb_tuple_dict, sb_list_bool, sb_list_int, sb_list_str, sb_list_tuple, sb_list_list, sb_list_dict, sb_dict_bool, sb_dict_int, sb_dict_str, sb_dict_tuple, sb_dict_list, sb_dict_dict, decide_true, decide_false, Bool.or_false, Bool.false_or, Bool.or_true, Bool.true_or, Bool.and_true, Bool.true_and, Bool.and_false, Bool.false_and, onBl_bl, onS_some, e_seq, e_asg, e_par, e_two, e_expr, e_retN, e_if, e_tst, e_brk, e_cnt, e_next, e_sub, e_ag, e_raise, e_for, e_var, e_cst, e_op, e_chn, asI_int, e_neg, e_not, e_and, e_or, e_ife, onB_some, e_isN, isN_non, isN_int, isN_bl, isN_str, isN_tup, isN_lst, isN_ref, e_sl, e_none, e_some, e_nil, e_cons, e_tup, e_lst, e_call, e_blt, onT_some, e_isi, e_isii, tn_non, tn_bl, tn_int, tn_str, tn_tup, tn_lst, e_mt, ty_str, ty_tup, ty_lst, e_comp, e_seqI, seqX_str, seqX_tup, seqX_lst, e_one1, e_enum, walk_tup, walk_lst, e_zip, zip_tup, zip_lst, e_rng1, e_rng2, e_yes, onL1_some, e_rev, newL_t, newL_f, asQ_lst, asQ_tup, tgt_one, tgt_pack, tgt_tup, b_add, add_int, add_str, add_tup, add_lst, b_sub, b_mul, mul_int, b_mod, b_fdiv, b_pow, c_eq, c_ne, c_lt, c_le, c_gt, c_ge, c_in, c_nin, eq_int, eq_str, eq_bl, eq_non, in_chr, idx_str, idx_tup, idx_lst, idx_scr, slc_str, slc_tup, slc_lst, slc_scr, f_len, len_str, len_tup, len_lst, len_scr, f_max2, f_min2, f_abs, f_stri, f_strs, f_ints, f_all, f_sum, f_max1, f_min1, f_list, f_tuple, f_sorted, f_sortT, f_dictP, e_listG, e_seqG, e_nilG, e_plainG, e_forG, e_yieldG, m_join, m_split, m_strip, m_index, e_ret, asL_lst, e_lset, e_sortR, e_dg, e_dsub, e_dnew, e_dcomp, e_back, e_fld, e_sfld, e_meth, e_make, key_int, key_str, asK_dct, newD_t, newD_f, cutB_t, cutB_f, f_divmod, f_repr, e_isx, e_try, e_seqL, setI_s, setI_n, dropI_s, dropI_n, e_lrg1, e_lrg2, e_trg1, e_trg2, onK_some, onK1_some, getS, startW, wipeW, Mth.T, Mth.sem, augI, if_true, if_false, Bool.false_eq_true, true_and, and_true, Bool.not_true, Bool.not_false, List.map, List.length, List.replicate, List.cons_append, List.nil_append, List.set_cons_zero, List.set_cons_succ, Nat.reduceAdd, Nat.reduceSub, Int.reduceAdd, Int.reduceSub, Int.reduceNeg, Int.reduceMul, Nat.zero_add]
      cases h1 : decide (lo ≤ i) with
      | false =>
        refine if_f (Ang.keep ?_)
        simpa [inR, h1] using q
      | true =>
        refine if_t (Ang.keep ?_)
        simpa [inR, h1] using q
    | _ => cases h

/-! ### places -/
theorem ixN_nat {n j : Nat} (h : j < n) : L2.ixN n (j : Int) = some j := by
  unfold L2.ixN
  rw [if_pos (by omega), if_pos (by omega)]
  simp
theorem ixN_int {n : Nat} {i : Int} (h0 : 0 ≤ i) (h : i < n) : L2.ixN n i = some i.toNat := by
  unfold L2.ixN
  rw [if_pos h0, if_pos h]
theorem at_nat {α : Type} {xs : List α} {z : Int} {j : Nat} {v : α} (e : z = (j : Int)) (h : xs[j]? = some v) : L2.atI xs z = some v := by
  have hj := (List.getElem?_eq_some_iff.mp h).1
  unfold L2.atI
  rw [e, ixN_nat hj]
  exact h
theorem at_int {α : Type} {xs : List α} {z : Int} {v : α} (h0 : 0 ≤ z) (h : xs[z.toNat]? = some v) : L2.atI xs z = some v := at_nat (j := z.toNat) (by omega) h
theorem sIx_int {n d : Nat} {i : Int} (h : 0 ≤ i) : HT.sIx n d (some i) = min i.toNat n := by
  show (if i < 0 then (i + (n : Int)).toNat else min i.toNat n) = _
  rw [if_neg (by omega)]
/-! ### comprehensions -/
theorem comp_map {ok : OW → Prop} {T : Tg} {te : TEw} {τ : SW} (g : Y → Dt) {O : OW} {k : List Dt → OW → Prop} (hok : ok O) : ∀ (ys : List Y) (acc : List Dt), acc.length + ys.length ≤ LIM →
    (∀ y ∈ ys, ∀ Q : KW, Q (g y) O → tgtW T y τ fun τ1 => te botX τ1 O Q) → k (acc ++ ys.map g) O → compGo ok T yesT te τ ys acc O k
  | [], acc, _, _, q => ⟨hok, by simpa using q⟩
  | y :: ys, acc, hl, h, q => by
    refine ⟨hok, ?_⟩
    have := h y (by simp) (fun w O2 => acc.length < LIM ∧ compGo ok T yesT te τ ys (acc ++ [w]) O2 k) ⟨by simp at hl; omega, comp_map g hok ys (acc ++ [g y]) (by simp at hl ⊢; omega) (fun y hy => h y (by simp [hy])) (by simpa using q)⟩
    exact this
theorem comp_filter {ok : OW → Prop} {T : Tg} {tt : TTw} {te : TEw} {τ : SW} (p : Y → Bool) (g : Y → Dt) {O : OW} {k : List Dt → OW → Prop} (hok : ok O) : ∀ (ys : List Y) (acc : List Dt), acc.length + ys.length ≤ LIM →
    (∀ y ∈ ys, ∀ (Q : KW) (R : OW → Prop), (p y = true → Q (g y) O) → (p y = false → R O) → tgtW T y τ fun τ1 => tt botX τ1 O fun b O1 => if b = true then te botX τ1 O1 Q else R O1) → k (acc ++ (ys.filter p).map g) O → compGo ok T tt te τ ys acc O k
  | [], acc, _, _, q => ⟨hok, by simpa using q⟩
  | y :: ys, acc, hl, h, q => by
    refine ⟨hok, ?_⟩
    have := h y (by simp) (fun w O2 => acc.length < LIM ∧ compGo ok T tt te τ ys (acc ++ [w]) O2 k) (fun O1 => compGo ok T tt te τ ys acc O1 k) (fun hp => ⟨by simp at hl; omega, comp_filter p g hok ys (acc ++ [g y]) (by simp at hl ⊢; omega) (fun y hy => h y (by simp [hy])) (by simpa [List.filter_cons, hp] using q)⟩)
      (fun hp => comp_filter p g hok ys acc (by simp at hl ⊢; omega) (fun y hy => h y (by simp [hy])) (by simpa [List.filter_cons, hp] using q))
    exact this
theorem ones_map {ws : List Dt} {g : Y → Dt} : (ones ws).map g = ws.map fun w => g (.one w) := by unfold ones; rw [List.map_map]; rfl
theorem ones_mem {ws : List Dt} {y : Y} (h : y ∈ ones ws) : ∃ w ∈ ws, y = .one w := by
  unfold ones at h
  obtain ⟨w, hw, rfl⟩ := List.mem_map.mp h
  exact ⟨w, hw, rfl⟩
def datOf : Y → Dt
  | .one w => w
  | .pack ws => .tup ws

def sp_is_height : SpW := fun ws O Q E => ∃ x, ws = [x] ∧ known O x ∧ Q (.bl (isH x)) O
def sem_is_height : TSw := retW (callW sp_in_range (consA (varW 0) (consA (negW (cstW (.int 1000000000000000000000000000000))) (consA (cstW (.int 1000000000000000000000000000000)) (nilA)))))
theorem is_height_ok : ∀ ws O Q E, sp_is_height ws O Q E → semFn 1 1 sem_is_height ws O Q E := by
  rintro ws O Q E ⟨x, rfl, k, q⟩
  refine ⟨rfl, ?_⟩
  try simp only [sem_is_height, sb_none_bool, sb_none_int, sb_none_str, sb_none_tuple, sb_none_list, sb_none_dict, sb_bool_bool, sb_bool_int, sb_bool_str, sb_bool_tuple, sb_bool_list, sb_bool_dict, sb_int_bool, sb_int_int, sb_int_str, sb_int_tuple, sb_int_list, sb_int_dict, sb_str_bool, sb_str_int, sb_str_str, sb_str_tuple, sb_str_list, sb_str_dict, sb_tuple_bool, sb_tuple_int, sb_tuple_str, sb_tuple_tuple, sb_tuple_list, sb_tuple_dict, sb_list_bool, sb_list_int, sb_list_str, sb_list_tuple, sb_list_list, sb_list_dict, sb_dict_bool, sb_dict_int, sb_dict_str, sb_dict_tuple, sb_dict_list, sb_dict_dict, decide_true, decide_false, Bool.or_false, Bool.false_or, Bool.or_true, Bool.true_or, Bool.and_true, Bool.true_and, Bool.and_false, Bool.false_and, onBl_bl, onS_some, e_seq, e_asg, e_par, e_two, e_expr, e_retN, e_if, e_tst, e_brk, e_cnt, e_next, e_sub, e_ag, e_raise, e_for, e_var, e_cst, e_op, e_chn, asI_int, e_neg, e_not, e_and, e_or, e_ife, onB_some, e_isN, isN_non, isN_int, isN_bl, isN_str, isN_tup, isN_lst, isN_ref, e_sl, e_none, e_some, e_nil, e_cons, e_tup, e_lst, e_call, e_blt, onT_some, e_isi, e_isii, tn_non, tn_bl, tn_int, tn_str, tn_tup, tn_lst, e_mt, ty_str, ty_tup, ty_lst, e_comp, e_seqI, seqX_str, seqX_tup, seqX_lst, e_one1, e_enum, walk_tup, walk_lst, e_zip, zip_tup, zip_lst, e_rng1, e_rng2, e_yes, onL1_some, e_rev, newL_t, newL_f, asQ_lst, asQ_tup, tgt_one, tgt_pack, tgt_tup, b_add, add_int, add_str, add_tup, add_lst, b_sub, b_mul, mul_int, b_mod, b_fdiv, b_pow, c_eq, c_ne, c_lt, c_le, c_gt, c_ge, c_in, c_nin, eq_int, eq_str, eq_bl, eq_non, in_chr, idx_str, idx_tup, idx_lst, idx_scr, slc_str, slc_tup, slc_lst, slc_scr, f_len, len_str, len_tup, len_lst, len_scr, f_max2, f_min2, f_abs, f_stri, f_strs, f_ints, f_all, f_sum, f_max1, f_min1, f_list, f_tuple, f_sorted, f_sortT, f_dictP, e_listG, e_seqG, e_nilG, e_plainG, e_forG, e_yieldG, m_join, m_split, m_strip, m_index, e_ret, asL_lst, e_lset, e_sortR, e_dg, e_dsub, e_dnew, e_dcomp, e_back, e_fld, e_sfld, e_meth, e_make, key_int, key_str, asK_dct, newD_t, newD_f, cutB_t, cutB_f, f_divmod, f_repr, e_isx, e_try, e_seqL, setI_s, setI_n, dropI_s, dropI_n, e_lrg1, e_lrg2, e_trg1, e_trg2, onK_some, onK1_some, getS, startW, wipeW, Mth.T, Mth.sem, augI, if_true, if_false, Bool.false_eq_true, true_and, and_true, Bool.not_true, Bool.not_false, List.map, List.length, List.replicate, List.cons_append, List.nil_append, List.set_cons_zero, List.set_cons_succ, Nat.reduceAdd, Nat.reduceSub, Int.reduceAdd, Int.reduceSub, Int.reduceNeg, Int.reduceMul, Nat.zero_add, List.map, List.length, List.append_eq, List.cons_append, List.nil_append]
  exact ⟨x, _, _, rfl, k, Ang.keep q⟩
def sp_is_queue : SpW := fun ws O Q E => ∃ x, ws = [x] ∧ known O x ∧ knowns O x ∧ Q (.bl (isQ x)) O
def sem_is_queue : TSw := seqW (ifW (tstW (orW (notW (isiW .tuple (varW 0))) (notW (chnW (cmpW .le) (cmpW .le) (cstW (.int 1)) (bltW (Blt.sem .len) (consA (varW 0) (nilA))) (cstW (.int 40))))))
  (retW (cstW (.bl false)))
  (nextW))
  (retW (andW (bltW (Blt.sem .all) (consA (compW true (seqI (varW 0)) (.one 1) (yesT) (callW sp_is_height (consA (varW 1) (nilA))) [1]) (nilA))) (opW (cmpW .eq) (lsetW (varW 0)) (bltW (Blt.sem .len) (consA (varW 0) (nilA))))))
theorem isH_int {x : Dt} (h : isH x = true) : x = .int (intOf x) := by
  cases x <;> first | rfl | cases h
theorem allH_ints {ws : List Dt} (h : ws.all isH = true) : ws = (intsOf ws).map Dt.int := by
  unfold intsOf
  rw [List.map_map]
  rw [List.all_eq_true] at h
  exact (List.map_id' ws).symm.trans (List.map_congr_left fun x hx => isH_int (h x hx))
theorem nodup_sub_len : ∀ {L ns : List Int}, L.Nodup → (∀ k ∈ L, k ∈ ns) → L.length ≤ ns.length
  | [], _, _, _ => Nat.zero_le _
  | k :: L, ns, h, hs => by
    have hk := hs k (by simp)
    have hn := List.nodup_cons.mp h
    have := nodup_sub_len (ns := ns.erase k) hn.2 fun j hj => (List.mem_erase_of_ne (fun (e : j = k) => hn.1 (by rw [← e]; exact hj))).mpr (hs j (by simp [hj]))
    rw [List.length_erase_of_mem hk] at this
    have h0 : 0 < ns.length := List.length_pos_of_mem hk
    simp only [List.length_cons]
    omega
theorem dup_erase : ∀ {ns : List Int}, ¬ ns.Nodup → ∃ k, k ∈ ns ∧ k ∈ ns.erase k
  | [], h => absurd List.nodup_nil h
  | k :: ns, h => by
    by_cases hk : k ∈ ns
    · exact ⟨k, by simp, by simpa using hk⟩
    · have h2 : ¬ ns.Nodup := fun z => h (List.nodup_cons.mpr ⟨hk, z⟩)
      obtain ⟨j, h3, h4⟩ := dup_erase h2
      refine ⟨j, by simp [h3], ?_⟩
      have : k ≠ j := fun e => hk (e ▸ h3)
      rw [List.erase_cons_tail (by simpa using this)]
      exact List.mem_cons_of_mem _ h4
theorem nodup_len {L ns : List Int} (h1 : L.Nodup) (h2 : ∀ k, k ∈ L ↔ k ∈ ns) : decide (L.length = ns.length) = decide ns.Nodup := by
  have p1 : L.length = ns.length ↔ ns.Nodup := by
    have a := nodup_sub_len h1 fun k hk => (h2 k).mp hk
    constructor
    · intro hl
      by_cases h : ns.Nodup
      · exact h
      · obtain ⟨k, h3, h4⟩ := dup_erase h
        have := nodup_sub_len (ns := ns.erase k) h1 fun j hj => by
          by_cases e : j = k
          · subst e; exact h4
          · exact (List.mem_erase_of_ne e).mpr ((h2 j).mp hj)
        rw [List.length_erase_of_mem h3] at this
        have h0 : 0 < ns.length := List.length_pos_of_mem h3
        omega
    · intro hn
      have b := nodup_sub_len hn fun k hk => (h2 k).mpr hk
      omega
  by_cases h : ns.Nodup
  · rw [decide_eq_true h, decide_eq_true (p1.mpr h)]
  · rw [decide_eq_false h, decide_eq_false (fun z => h (p1.mp z))]
theorem is_queue_ok : ∀ ws O Q E, sp_is_queue ws O Q E → semFn 1 2 sem_is_queue ws O Q E := by
  rintro ws O Q E ⟨x, rfl, ⟨t, ht⟩, kn, q⟩
  refine ⟨rfl, ?_⟩
  try simp only [sem_is_queue, sb_none_bool, sb_none_int, sb_none_str, sb_none_tuple, sb_none_list, sb_none_dict, sb_bool_bool, sb_bool_int, sb_bool_str, sb_bool_tuple, sb_bool_list, sb_bool_dict, sb_int_bool, sb_int_int, sb_int_str, sb_int_tuple, sb_int_list, sb_int_dict, sb_str_bool, sb_str_int, sb_str_str, sb_str_tuple, sb_str_list, sb_str_dict, sb_tuple_bool, sb_tuple_int, sb_tuple_str, sb_tuple_tuple, sb_tuple_list, sb_tuple_dict, sb_list_bool, sb_list_int, sb_list_str, sb_list_tuple, sb_list_list, sb_list_dict, sb_dict_bool, sb_dict_int, sb_dict_str, sb_dict_tuple, sb_dict_list, sb_dict_dict, decide_true, decide_false, Bool.or_false, Bool.false_or, Bool.or_true, Bool.true_or, Bool.and_true, Bool.true_and, Bool.and_false, Bool.false_and, onBl_bl, onS_some, e_seq, e_asg, e_par, e_two, e_expr, e_retN, e_if, e_tst, e_brk, e_cnt, e_next, e_sub, e_ag, e_raise, e_for, e_var, e_cst, e_op, e_chn, asI_int, e_neg, e_not, e_and, e_or, e_ife, onB_some, e_isN, isN_non, isN_int, isN_bl, isN_str, isN_tup, isN_lst, isN_ref, e_sl, e_none, e_some, e_nil, e_cons, e_tup, e_lst, e_call, e_blt, onT_some, e_isi, e_isii, tn_non, tn_bl, tn_int, tn_str, tn_tup, tn_lst, e_mt, ty_str, ty_tup, ty_lst, e_comp, e_seqI, seqX_str, seqX_tup, seqX_lst, e_one1, e_enum, walk_tup, walk_lst, e_zip, zip_tup, zip_lst, e_rng1, e_rng2, e_yes, onL1_some, e_rev, newL_t, newL_f, asQ_lst, asQ_tup, tgt_one, tgt_pack, tgt_tup, b_add, add_int, add_str, add_tup, add_lst, b_sub, b_mul, mul_int, b_mod, b_fdiv, b_pow, c_eq, c_ne, c_lt, c_le, c_gt, c_ge, c_in, c_nin, eq_int, eq_str, eq_bl, eq_non, in_chr, idx_str, idx_tup, idx_lst, idx_scr, slc_str, slc_tup, slc_lst, slc_scr, f_len, len_str, len_tup, len_lst, len_scr, f_max2, f_min2, f_abs, f_stri, f_strs, f_ints, f_all, f_sum, f_max1, f_min1, f_list, f_tuple, f_sorted, f_sortT, f_dictP, e_listG, e_seqG, e_nilG, e_plainG, e_forG, e_yieldG, m_join, m_split, m_strip, m_index, e_ret, asL_lst, e_lset, e_sortR, e_dg, e_dsub, e_dnew, e_dcomp, e_back, e_fld, e_sfld, e_meth, e_make, key_int, key_str, asK_dct, newD_t, newD_f, cutB_t, cutB_f, f_divmod, f_repr, e_isx, e_try, e_seqL, setI_s, setI_n, dropI_s, dropI_n, e_lrg1, e_lrg2, e_trg1, e_trg2, onK_some, onK1_some, getS, startW, wipeW, Mth.T, Mth.sem, augI, if_true, if_false, Bool.false_eq_true, true_and, and_true, Bool.not_true, Bool.not_false, List.map, List.length, List.replicate, List.cons_append, List.nil_append, List.set_cons_zero, List.set_cons_succ, Nat.reduceAdd, Nat.reduceSub, Int.reduceAdd, Int.reduceSub, Int.reduceNeg, Int.reduceMul, Nat.zero_add, List.map, List.length, List.append_eq, List.cons_append, List.nil_append, ht]
  have sub : t.sub .tuple = decide (t = .tuple) := by cases t <;> rfl
  rw [sub]
  by_cases htt : t = .tuple
  · subst htt
    cases x with
    | tup l =>
      show if (!decide _) = true then _ else _
      refine if_f ?_
      try simp only [sb_none_bool, sb_none_int, sb_none_str, sb_none_tuple, sb_none_list, sb_none_dict, sb_bool_bool, sb_bool_int, sb_bool_str, sb_bool_tuple, sb_bool_list, sb_bool_dict, sb_int_bool, sb_int_int, sb_int_str, sb_int_tuple, sb_int_list, sb_int_dict, sb_str_bool, sb_str_int, sb_str_str, sb_str_tuple, sb_str_list, sb_str_dict, sb_tuple_bool, sb_tuple_int, sb_tuple_str, sb_tuple_tuple, sb_tuple_list, sb_tuple_dict, sb_list_bool, sb_list_int, sb_list_str, sb_list_tuple, sb_list_list, sb_list_dict, sb_dict_bool, sb_dict_int, sb_dict_str, sb_dict_tuple, sb_dict_list, sb_dict_dict, decide_true, decide_false, Bool.or_false, Bool.false_or, Bool.or_true, Bool.true_or, Bool.and_true, Bool.true_and, Bool.and_false, Bool.false_and, onBl_bl, onS_some, e_seq, e_asg, e_par, e_two, e_expr, e_retN, e_if, e_tst, e_brk, e_cnt, e_next, e_sub, e_ag, e_raise, e_for, e_var, e_cst, e_op, e_chn, asI_int, e_neg, e_not, e_and, e_or, e_ife, onB_some, e_isN, isN_non, isN_int, isN_bl, isN_str, isN_tup, isN_lst, isN_ref, e_sl, e_none, e_some, e_nil, e_cons, e_tup, e_lst, e_call, e_blt, onT_some, e_isi, e_isii, tn_non, tn_bl, tn_int, tn_str, tn_tup, tn_lst, e_mt, ty_str, ty_tup, ty_lst, e_comp, e_seqI, seqX_str, seqX_tup, seqX_lst, e_one1, e_enum, walk_tup, walk_lst, e_zip, zip_tup, zip_lst, e_rng1, e_rng2, e_yes, onL1_some, e_rev, newL_t, newL_f, asQ_lst, asQ_tup, tgt_one, tgt_pack, tgt_tup, b_add, add_int, add_str, add_tup, add_lst, b_sub, b_mul, mul_int, b_mod, b_fdiv, b_pow, c_eq, c_ne, c_lt, c_le, c_gt, c_ge, c_in, c_nin, eq_int, eq_str, eq_bl, eq_non, in_chr, idx_str, idx_tup, idx_lst, idx_scr, slc_str, slc_tup, slc_lst, slc_scr, f_len, len_str, len_tup, len_lst, len_scr, f_max2, f_min2, f_abs, f_stri, f_strs, f_ints, f_all, f_sum, f_max1, f_min1, f_list, f_tuple, f_sorted, f_sortT, f_dictP, e_listG, e_seqG, e_nilG, e_plainG, e_forG, e_yieldG, m_join, m_split, m_strip, m_index, e_ret, asL_lst, e_lset, e_sortR, e_dg, e_dsub, e_dnew, e_dcomp, e_back, e_fld, e_sfld, e_meth, e_make, key_int, key_str, asK_dct, newD_t, newD_f, cutB_t, cutB_f, f_divmod, f_repr, e_isx, e_try, e_seqL, setI_s, setI_n, dropI_s, dropI_n, e_lrg1, e_lrg2, e_trg1, e_trg2, onK_some, onK1_some, getS, startW, wipeW, Mth.T, Mth.sem, augI, if_true, if_false, Bool.false_eq_true, true_and, and_true, Bool.not_true, Bool.not_false, List.map, List.length, List.replicate, List.cons_append, List.nil_append, List.set_cons_zero, List.set_cons_succ, Nat.reduceAdd, Nat.reduceSub, Int.reduceAdd, Int.reduceSub, Int.reduceNeg, Int.reduceMul, Nat.zero_add]
      by_cases h1 : (1 : Int) ≤ l.length
      · rw [decide_eq_true h1]
        refine if_t ?_
        by_cases h2 : (l.length : Int) ≤ 40
        · rw [decide_eq_true h2]
          refine if_f ?_
          have hlen : l.length ≤ 40 := by omega
          refine comp_map (fun y => .bl (isH (datOf y))) trivial _ _ (by rw [ones_len]; show 0 + l.length ≤ 16777216; omega) (fun y hy Q q => ?_) ?_
          · obtain ⟨w, hw, rfl⟩ := ones_mem hy
            exact ⟨w, rfl, kn w hw, q⟩
          · refine ⟨l.map isH, ?_, ?_⟩
            · show some _ = some _
              rw [ones_map, List.map_map]
              rfl
            · have ea : (l.map isH).all id = l.all isH := by rw [List.all_map]; rfl
              rw [ea]
              cases hall : l.all isH with
              | false =>
                refine if_f (Ang.keep ?_)
                simpa [isQ, hall] using q
              | true =>
                refine if_t ⟨intsOf l, congrArg some (allH_ints hall), ?_, fun L n1 n2 => ?_⟩
                · unfold intsOf; rw [List.length_map]; omega
                · refine Ang.keep ?_
                  have e := nodup_len n1 n2
                  have e2 : (intsOf l).length = l.length := by unfold intsOf; rw [List.length_map]
                  have e3 : decide ((L.length : Int) = (l.length : Int)) = decide (intsOf l).Nodup := by
                    rw [← e, e2]
                    exact decide_eq_decide.mpr (by omega)
                  rw [e3]
                  have : decide (1 ≤ l.length ∧ l.length ≤ 40) = true := decide_eq_true (by omega)
                  simpa [isQ, hall, this] using q
        · rw [decide_eq_false h2]
          refine if_t (Ang.keep ?_)
          have : decide (1 ≤ l.length ∧ l.length ≤ 40) = false := decide_eq_false (by omega)
          simpa [isQ, this] using q
      · rw [decide_eq_false h1]
        refine if_f (Ang.keep ?_)
        have : decide (1 ≤ l.length ∧ l.length ≤ 40) = false := decide_eq_false (by omega)
        simpa [isQ, this] using q
    | ref a =>
      have ht : (match O a with | some (.lst _) => some TN.list | some (.dct _) => some TN.dict | _ => none) = some TN.tuple := ht
      split at ht <;> cases ht
    | _ => cases ht
  · rw [decide_eq_false htt]
    refine if_t (Ang.keep ?_)
    have : isQ x = false := by
      cases x with
      | tup l => cases ht; exact absurd rfl htt
      | _ => rfl
    rw [this] at q
    exact q
def sp_require_queue : SpW := fun ws O Q E => ∃ x, ws = [x] ∧ known O x ∧ knowns O x ∧ (isQ x = true → Q .non O) ∧ (isQ x = false → E ⟨"NoQueue", []⟩ O)
def sem_require_queue : TSw := ifW (tstW (notW (callW sp_is_queue (consA (varW 0) (nilA)))))
  (raiseW "NoQueue")
  (nextW)
theorem require_queue_ok : ∀ ws O Q E, sp_require_queue ws O Q E → semFn 1 1 sem_require_queue ws O Q E := by
  rintro ws O Q E ⟨x, rfl, k, kn, q1, q2⟩
  refine ⟨rfl, ?_⟩
  try simp only [sem_require_queue, sb_none_bool, sb_none_int, sb_none_str, sb_none_tuple, sb_none_list, sb_none_dict, sb_bool_bool, sb_bool_int, sb_bool_str, sb_bool_tuple, sb_bool_list, sb_bool_dict, sb_int_bool, sb_int_int, sb_int_str, sb_int_tuple, sb_int_list, sb_int_dict, sb_str_bool, sb_str_int, sb_str_str, sb_str_tuple, sb_str_list, sb_str_dict, sb_tuple_bool, sb_tuple_int, sb_tuple_str, sb_tuple_tuple, sb_tuple_list, sb_tuple_dict, sb_list_bool, sb_list_int, sb_list_str, sb_list_tuple, sb_list_list, sb_list_dict, sb_dict_bool, sb_dict_int, sb_dict_str, sb_dict_tuple, sb_dict_list, sb_dict_dict, decide_true, decide_false, Bool.or_false, Bool.false_or, Bool.or_true, Bool.true_or, Bool.and_true, Bool.true_and, Bool.and_false, Bool.false_and, onBl_bl, onS_some, e_seq, e_asg, e_par, e_two, e_expr, e_retN, e_if, e_tst, e_brk, e_cnt, e_next, e_sub, e_ag, e_raise, e_for, e_var, e_cst, e_op, e_chn, asI_int, e_neg, e_not, e_and, e_or, e_ife, onB_some, e_isN, isN_non, isN_int, isN_bl, isN_str, isN_tup, isN_lst, isN_ref, e_sl, e_none, e_some, e_nil, e_cons, e_tup, e_lst, e_call, e_blt, onT_some, e_isi, e_isii, tn_non, tn_bl, tn_int, tn_str, tn_tup, tn_lst, e_mt, ty_str, ty_tup, ty_lst, e_comp, e_seqI, seqX_str, seqX_tup, seqX_lst, e_one1, e_enum, walk_tup, walk_lst, e_zip, zip_tup, zip_lst, e_rng1, e_rng2, e_yes, onL1_some, e_rev, newL_t, newL_f, asQ_lst, asQ_tup, tgt_one, tgt_pack, tgt_tup, b_add, add_int, add_str, add_tup, add_lst, b_sub, b_mul, mul_int, b_mod, b_fdiv, b_pow, c_eq, c_ne, c_lt, c_le, c_gt, c_ge, c_in, c_nin, eq_int, eq_str, eq_bl, eq_non, in_chr, idx_str, idx_tup, idx_lst, idx_scr, slc_str, slc_tup, slc_lst, slc_scr, f_len, len_str, len_tup, len_lst, len_scr, f_max2, f_min2, f_abs, f_stri, f_strs, f_ints, f_all, f_sum, f_max1, f_min1, f_list, f_tuple, f_sorted, f_sortT, f_dictP, e_listG, e_seqG, e_nilG, e_plainG, e_forG, e_yieldG, m_join, m_split, m_strip, m_index, e_ret, asL_lst, e_lset, e_sortR, e_dg, e_dsub, e_dnew, e_dcomp, e_back, e_fld, e_sfld, e_meth, e_make, key_int, key_str, asK_dct, newD_t, newD_f, cutB_t, cutB_f, f_divmod, f_repr, e_isx, e_try, e_seqL, setI_s, setI_n, dropI_s, dropI_n, e_lrg1, e_lrg2, e_trg1, e_trg2, onK_some, onK1_some, getS, startW, wipeW, Mth.T, Mth.sem, augI, if_true, if_false, Bool.false_eq_true, true_and, and_true, Bool.not_true, Bool.not_false, List.map, List.length, List.replicate, List.cons_append, List.nil_append, List.set_cons_zero, List.set_cons_succ, Nat.reduceAdd, Nat.reduceSub, Int.reduceAdd, Int.reduceSub, Int.reduceNeg, Int.reduceMul, Nat.zero_add, List.map, List.length, List.append_eq, List.cons_append, List.nil_append]
  refine ⟨x, rfl, k, kn, ?_⟩
  try simp only [sb_none_bool, sb_none_int, sb_none_str, sb_none_tuple, sb_none_list, sb_none_dict, sb_bool_bool, sb_bool_int, sb_bool_str, sb_bool_tuple, sb_bool_list, sb_bool_dict, sb_int_bool, sb_int_int, sb_int_str, sb_int_tuple, sb_int_list, sb_int_dict, sb_str_bool, sb_str_int, sb_str_str, sb_str_tuple, sb_str_list, sb_str_dict, sb_tuple_bool, sb_tuple_int, sb_tuple_str, sb_tuple_tuple, sb_tuple_list, sb_tuple_dict, sb_list_bool, sb_list_int, sb_list_str, sb_list_tuple, sb_list_list, sb_list_dict, sb_dict_bool, sb_dict_int, sb_dict_str, sb_dict_tuple, sb_dict_list, sb_dict_dict, decide_true, decide_false, Bool.or_false, Bool.false_or, Bool.or_true, Bool.true_or, Bool.and_true, Bool.true_and, Bool.and_false, Bool.false_and, onBl_bl, onS_some, e_seq, e_asg, e_par, e_two, e_expr, e_retN, e_if, e_tst, e_brk, e_cnt, e_next, e_sub, e_ag, e_raise, e_for, e_var, e_cst, e_op, e_chn, asI_int, e_neg, e_not, e_and, e_or, e_ife, onB_some, e_isN, isN_non, isN_int, isN_bl, isN_str, isN_tup, isN_lst, isN_ref, e_sl, e_none, e_some, e_nil, e_cons, e_tup, e_lst, e_call, e_blt, onT_some, e_isi, e_isii, tn_non, tn_bl, tn_int, tn_str, tn_tup, tn_lst, e_mt, ty_str, ty_tup, ty_lst, e_comp, e_seqI, seqX_str, seqX_tup, seqX_lst, e_one1, e_enum, walk_tup, walk_lst, e_zip, zip_tup, zip_lst, e_rng1, e_rng2, e_yes, onL1_some, e_rev, newL_t, newL_f, asQ_lst, asQ_tup, tgt_one, tgt_pack, tgt_tup, b_add, add_int, add_str, add_tup, add_lst, b_sub, b_mul, mul_int, b_mod, b_fdiv, b_pow, c_eq, c_ne, c_lt, c_le, c_gt, c_ge, c_in, c_nin, eq_int, eq_str, eq_bl, eq_non, in_chr, idx_str, idx_tup, idx_lst, idx_scr, slc_str, slc_tup, slc_lst, slc_scr, f_len, len_str, len_tup, len_lst, len_scr, f_max2, f_min2, f_abs, f_stri, f_strs, f_ints, f_all, f_sum, f_max1, f_min1, f_list, f_tuple, f_sorted, f_sortT, f_dictP, e_listG, e_seqG, e_nilG, e_plainG, e_forG, e_yieldG, m_join, m_split, m_strip, m_index, e_ret, asL_lst, e_lset, e_sortR, e_dg, e_dsub, e_dnew, e_dcomp, e_back, e_fld, e_sfld, e_meth, e_make, key_int, key_str, asK_dct, newD_t, newD_f, cutB_t, cutB_f, f_divmod, f_repr, e_isx, e_try, e_seqL, setI_s, setI_n, dropI_s, dropI_n, e_lrg1, e_lrg2, e_trg1, e_trg2, onK_some, onK1_some, getS, startW, wipeW, Mth.T, Mth.sem, augI, if_true, if_false, Bool.false_eq_true, true_and, and_true, Bool.not_true, Bool.not_false, List.map, List.length, List.replicate, List.cons_append, List.nil_append, List.set_cons_zero, List.set_cons_succ, Nat.reduceAdd, Nat.reduceSub, Int.reduceAdd, Int.reduceSub, Int.reduceNeg, Int.reduceMul, Nat.zero_add]
  cases h : isQ x with
  | true => exact if_f (Ang.keep (q1 h))
  | false => exact if_t ⟨O, OLe.refl O, q2 h⟩
theorem comp_inv {ok : OW → Prop} {T : Tg} {te : TEw} {τ : SW} {k : List Dt → OW → Prop} (I : Nat → List Dt → OW → Prop) : ∀ (ys : List Y) (i : Nat) (acc : List Dt) (O : OW), I i acc O → (∀ j acc O, I j acc O → ok O) → (∀ j acc O, I j acc O → j < i + ys.length → acc.length < LIM) →
    (∀ j y acc O, ys[j]? = some y → I (i + j) acc O → ∀ Q : KW, (∀ w O2, I (i + j + 1) (acc ++ [w]) O2 → Q w O2) → tgtW T y τ fun τ1 => te botX τ1 O Q) → (∀ acc O, I (i + ys.length) acc O → k acc O) → compGo ok T yesT te τ ys acc O k
  | [], i, acc, O, h0, hok, _, _, fin => ⟨hok _ _ _ h0, fin acc O h0⟩
  | y :: ys, i, acc, O, h0, hok, hl, h, fin => by
    refine ⟨hok _ _ _ h0, ?_⟩
    have := h 0 y acc O rfl h0 (fun w O2 => acc.length < LIM ∧ compGo ok T yesT te τ ys (acc ++ [w]) O2 k) (fun w O2 hI => ⟨hl _ _ _ h0 (by simp), ?_⟩)
    · exact this
    · refine comp_inv I ys (i + 1) (acc ++ [w]) O2 hI hok (fun j acc O hj hlt => hl j acc O hj (by simp at hlt ⊢; omega)) (fun j z acc O hz hj Q hQ => ?_) fun acc O hj => fin acc O (by rw [show i + (y :: ys).length = i + 1 + ys.length by simp; omega]; exact hj)
      refine h (j + 1) z acc O (by simpa using hz) (by rw [show i + (j + 1) = i + 1 + j by omega]; exact hj) Q fun w O2 hw => hQ w O2 (by rw [show i + 1 + j + 1 = i + (j + 1) + 1 by omega]; exact hw)
theorem loop_inv {ok : OW → Prop} {T : Tg} {body els : EndsW → SW → OW → Prop} {D : EndsW} (I : Nat → SW → OW → Prop) : ∀ (ys : List Y) (i : Nat) (τ : SW) (O : OW), I i τ O → (∀ j τ O, I j τ O → ok O) →
    (∀ j y τ O, ys[j]? = some y → I (i + j) τ O → ∀ N : SW → OW → Prop, (∀ τ2 O2, I (i + j + 1) τ2 O2 → N τ2 O2) → tgtW T y τ fun τ1 => body { nx := N, rt := D.rt, bk := D.nx, ct := N } τ1 O) → (∀ τ O, I (i + ys.length) τ O → els D τ O) → loopW ok T body els D ys τ O
  | [], i, τ, O, h0, hok, _, fin => ⟨hok _ _ _ h0, fin τ O h0⟩
  | y :: ys, i, τ, O, h0, hok, h, fin => by
    refine ⟨hok _ _ _ h0, ?_⟩
    refine h 0 y τ O rfl h0 _ fun τ2 O2 hI => ?_
    refine loop_inv I ys (i + 1) τ2 O2 hI hok (fun j z τ O hz hj N hN => ?_) fun τ O hj => fin τ O (by rw [show i + (y :: ys).length = i + 1 + ys.length by simp; omega]; exact hj)
    refine h (j + 1) z τ O (by simpa using hz) (by rw [show i + (j + 1) = i + 1 + j by omega]; exact hj) N fun w O2 hw => hN w O2 (by rw [show i + 1 + j + 1 = i + (j + 1) + 1 by omega]; exact hw)

/-- p is let go -/
def rmo (O : OW) (p : Addr) : OW := fun a => if a = p then none else O a
theorem rmo_same {O : OW} {p : Addr} : rmo O p p = none := if_pos rfl
theorem rmo_ne {O : OW} {p a : Addr} (h : a ≠ p) : rmo O p a = O a := if_neg h
theorem rmo_le {O : OW} {p : Addr} : OLe (rmo O p) O := fun a o e => by
  by_cases h : a = p
  · rw [h, rmo_same] at e; cases e
  · rw [rmo_ne h] at e; exact e
theorem cutD_from {ws : List Dt} {i : Int} (h : 0 ≤ i) : cutD ws (some i) none = ws.drop i.toNat := by
  unfold cutD
  rw [HT.sIx_none, sIx_int h, List.take_of_length_le (by rw [List.length_drop]; omega)]
  by_cases hl : i.toNat ≤ ws.length
  · rw [Nat.min_eq_left hl]
  · rw [Nat.min_eq_right (by omega), List.drop_eq_nil_of_le (Nat.le_refl _), List.drop_eq_nil_of_le (by omega)]
theorem cutD_to {ws : List Dt} {i : Int} (h : 0 ≤ i) : cutD ws none (some i) = ws.take i.toNat := by
  unfold cutD
  rw [HT.sIx_none, sIx_int h, List.drop_zero, Nat.sub_zero]
  by_cases hl : i.toNat ≤ ws.length
  · rw [Nat.min_eq_left hl]
  · rw [Nat.min_eq_right (by omega), List.take_of_length_le (Nat.le_refl _), List.take_of_length_le (by omega)]
theorem cutD_mid {ws : List Dt} {i j : Int} (h : 0 ≤ i) (h2 : i ≤ j) : cutD ws (some i) (some j) = (ws.drop i.toNat).take (j.toNat - i.toNat) := by
  unfold cutD
  rw [sIx_int h, sIx_int (by omega)]
  by_cases hl : i.toNat ≤ ws.length
  · rw [Nat.min_eq_left hl]
    by_cases hj : j.toNat ≤ ws.length
    · rw [Nat.min_eq_left hj]
    · rw [Nat.min_eq_right (by omega), List.take_of_length_le (by rw [List.length_drop]; omega), List.take_of_length_le (by rw [List.length_drop]; omega)]
  · rw [Nat.min_eq_right (a := i.toNat) (by omega), List.drop_eq_nil_of_le (Nat.le_refl _), List.drop_eq_nil_of_le (by omega), List.take_nil, List.take_nil]
/-! ### equality of tuples of ints -/
theorem shaped_ints (ns : List Int) : SeqAt.shaped (.tuple (ns.map PyData.int)) = true := by
  have h1 : PyData.canLayAll0 (ns.map PyData.int) = true := by
    induction ns with
    | nil => rfl
    | cons a r ih => show (true && _) = true; rw [ih]; rfl
  have h2 : PyData.depthAll (ns.map PyData.int) ≤ 1 := by
    induction ns with
    | nil => decide
    | cons a r ih =>
      rw [List.map_cons]
      unfold PyData.depthAll
      have h3 : PyData.canLayAll0 (r.map PyData.int) = true := by
        rw [List.map_cons] at h1
        have h1 : (true && PyData.canLayAll0 (r.map PyData.int)) = true := h1
        simpa using h1
      have : (PyData.int a).depth ≤ 1 := by unfold PyData.depth; omega
      exact Nat.max_le.mpr ⟨this, ih h3⟩
  unfold SeqAt.shaped
  rw [Bool.and_eq_true]
  refine ⟨by simpa [PyData.canLay0] using h1, decide_eq_true ?_⟩
  unfold PyData.depth
  omega
theorem pds_ints (O : OW) (ns : List Int) : PDs O (ns.map Dt.int) (ns.map PyData.int) := by
  induction ns with
  | nil => exact .nil
  | cons a r ih => exact .cons (.int a) ih
theorem eqv_ints : ∀ (ns ms : List Int), PyData.eqvAll (ns.map PyData.int) (ms.map PyData.int) = decide (ns = ms)
  | [], [] => rfl
  | [], _ :: _ => rfl
  | _ :: _, [] => rfl
  | a :: r, b :: s => by
    show ((a == b) && PyData.eqvAll (r.map PyData.int) (s.map PyData.int)) = _
    rw [eqv_ints r s]
    by_cases h : a = b
    · subst h
      simp
    · simp [h]
abbrev qD (ns : List Int) : Dt := .tup (ns.map Dt.int)
theorem eq_ints {O : OW} {ns ms : List Int} {k : Bool → Prop} (h : k (decide (ns = ms))) : eqW (qD ns) (qD ms) O k := by
  rw [eq_tup]
  refine ⟨_, _, .tup (pds_ints O ns), .tup (pds_ints O ms), shaped_ints ns, shaped_ints ms, ?_⟩
  show k (PyData.eqvAll _ _)
  rw [eqv_ints]
  exact h

theorem shaped_lints (ns : List Int) : SeqAt.shaped (.list (ns.map PyData.int)) = true := by
  have h := shaped_ints ns
  unfold SeqAt.shaped at h ⊢
  rw [Bool.and_eq_true] at h ⊢
  refine ⟨by simpa [PyData.canLay0] using h.1, decide_eq_true ?_⟩
  have h2 := of_decide_eq_true h.2
  unfold PyData.depth at h2 ⊢
  exact h2
theorem eq_lints {O : OW} {ns ms : List Int} {k : Bool → Prop} (h : k (decide (ns = ms))) : eqW (.lst (ns.map Dt.int)) (.lst (ms.map Dt.int)) O k := by
  rw [eq_lst]
  refine ⟨_, _, .lst (pds_ints O ns), .lst (pds_ints O ms), shaped_lints ns, shaped_lints ms, ?_⟩
  show k (PyData.eqvAll _ _)
  rw [eqv_ints]
  exact h
theorem cutD_last {ws : List Dt} : cutD ws none (some (-1)) = ws.take (ws.length - 1) := by
  unfold cutD
  rw [HT.sIx_none, List.drop_zero, Nat.sub_zero]
  have : HT.sIx ws.length ws.length (some (-1)) = (-1 + (ws.length : Int)).toNat := rfl
  rw [this]
  congr 1
  omega
theorem rngY_map {n : Nat} {g : Y → Dt} : (rngY 0 n).map g = (List.range n).map fun (i : Nat) => g (.one (.int (i : Int))) := by
  apply List.ext_getElem?
  intro i
  rw [List.getElem?_map, List.getElem?_map]
  by_cases hi : i < n
  · rw [List.getElem?_range hi]
    have : i < (rngY 0 n).length := by rw [rngY_len]; exact hi
    rw [List.getElem?_eq_getElem this]
    obtain ⟨_, e⟩ := rngY_get (List.getElem?_eq_getElem this)
    rw [e, Int.zero_add]
    rfl
  · rw [List.getElem?_eq_none (by rw [rngY_len]; omega), List.getElem?_eq_none (by rw [List.length_range]; omega)]
    rfl
theorem rngY_mem {n : Nat} {lo : Int} {y : Y} (h : y ∈ rngY lo n) : ∃ i, i < n ∧ y = .one (.int (lo + (i : Int))) := by
  obtain ⟨i, hi⟩ := List.mem_iff_getElem?.mp h
  obtain ⟨h1, h2⟩ := rngY_get hi
  exact ⟨i, h1, h2⟩
theorem slc_ref {fz : Bool} {O : OW} {Q : KW} {a : Addr} {ws : List Dt} {lo hi : Option Int} (h : O a = some (OO.lst ws)) : slcW fz (.ref a) lo hi O Q = newL fz (cutD ws lo hi) O Q := by
  show (match asL O (.ref a) with | some ws => newL fz (cutD ws lo hi) O Q | none => False) = _
  rw [asL_ref h]
end TF

/-! P2: texts of queues -/
namespace TF
open PySem L2 TL

/-! ### the signs of an int -/
/-- the signs of i -/
def sgn (i : Int) : List Nat := if 0 ≤ i then numL i.toNat else 45 :: numL (-i).toNat
theorem tl_istr (i : Int) : tl (istr i) = sgn i := by
  cases i with
  | ofNat n =>
    have h : (0 : Int) ≤ Int.ofNat n := Int.natCast_nonneg n
    unfold sgn
    rw [if_pos h]
    exact tl_num n
  | negSucc n =>
    have h : ¬ (0 : Int) ≤ Int.negSucc n := by omega
    unfold sgn
    rw [if_neg h]
    have e : (-(Int.negSucc n)).toNat = n + 1 := by omega
    rw [e]
    have e1 : toString (Int.negSucc n) = "-" ++ toString ((n + 1 : Nat) : Int) := rfl
    show tl (Str.ofString (toString (Int.negSucc n))) = _
    rw [e1]
    have e2 := tl_num (n + 1)
    unfold tl at e2 ⊢
    rw [PyProof.Rows.signs_ofString] at e2 ⊢
    rw [String.toList_append, List.map_append, e2]
    rfl
theorem numL_head : ∀ (n : Nat), 0 < n → ∃ c cs, numL n = c :: cs ∧ 49 ≤ c ∧ c ≤ 57 := by
  intro n
  induction n using Nat.strongRecOn with
  | _ n ih =>
    intro h0
    by_cases h : n < 10
    · rw [numL_lt h]
      exact ⟨48 + n, [], rfl, by omega, by omega⟩
    · obtain ⟨c, cs, e, h1, h2⟩ := ih (n / 10) (by omega) (by omega)
      rw [numL_step (by omega), e]
      exact ⟨c, cs ++ [48 + n % 10], rfl, h1, h2⟩
def digs (l : List Nat) : Bool := l.all fun c => decide (48 ≤ c) && decide (c ≤ 57)
theorem digs_iff {l : List Nat} : digs l = true ↔ NumText.AllDigits l := by
  unfold digs NumText.AllDigits
  rw [List.all_eq_true]
  constructor
  · intro h c hc
    have := h c hc
    rw [Bool.and_eq_true] at this
    exact ⟨of_decide_eq_true this.1, of_decide_eq_true this.2⟩
  · intro h c hc
    obtain ⟨a, b⟩ := h c hc
    rw [Bool.and_eq_true]
    exact ⟨decide_eq_true a, decide_eq_true b⟩
/-- what at most 31 digits without leading zeros denote -/
def pnL (l : List Nat) : Option Int :=
  if (decide (1 ≤ l.length ∧ l.length ≤ 31) && digs l) = true then (if l = [48] ∨ l.head? ≠ some 48 then some ((NumText.digitsVal l : Nat) : Int) else none) else none
def phL (l : List Nat) : Option Int := if l.head? = some 45 then (match pnL l.tail with
    | none => none
    | some n => if n = 0 then none else some (-n)) else pnL l
def optI : Option Int → Dt
  | some n => .int n
  | none => .non

def sp_parse_number : SpW := fun ws O Q E => ∃ z : Str, ws = [.str z] ∧ z.length ≤ LIM ∧ Q (optI (pnL (tl z))) O
def sem_parse_number : TSw := seqW (ifW (tstW (orW (notW (chnW (cmpW .le) (cmpW .le) (cstW (.int 1)) (bltW (Blt.sem .len) (consA (varW 0) (nilA))) (cstW (.int 31)))) (notW (bltW (Blt.sem .all) (consA (compW true (seqI (varW 0)) (.one 1) (yesT) (opW (cmpW .inn) (varW 1) (cstW (.str "0123456789"))) [1]) (nilA))))))
  (retW (cstW .non))
  (nextW))
  (retW (ifeW (orW (opW (cmpW .eq) (varW 0) (cstW (.str "0"))) (opW (cmpW .ne) (opW idxW (varW 0) (cstW (.int 0))) (cstW (.str "0")))) (bltW (Blt.sem .int) (consA (varW 0) (nilA))) (cstW .non)))
theorem tl_digits : tl ("0123456789" : Str) = [48, 49, 50, 51, 52, 53, 54, 55, 56, 57] := by decide +kernel
theorem tl_zero : tl ("0" : Str) = [48] := by decide +kernel
theorem tl_minus : tl ("-" : Str) = [45] := by decide +kernel
theorem tl_space : tl (" " : Str) = [32] := by decide +kernel
theorem str_eq {a b : Str} : a = b ↔ tl a = tl b := ⟨fun h => by rw [h], fun h => ext_tl h⟩
theorem strY_mem {z : Str} {y : Y} (h : y ∈ strY z) : ∃ c, c ∈ tl z ∧ y = .one (.str ⟨#[c]⟩) := by
  unfold strY at h
  obtain ⟨c, hc, rfl⟩ := List.mem_map.mp h
  exact ⟨c, hc, rfl⟩
theorem strY_len {z : Str} : (strY z).length = z.length := by
  unfold strY
  rw [List.length_map]
  exact Array.length_toList
def chrOf : Y → Nat
  | .one (.str s) => s.cps.toList.headD 0
  | _ => 0
theorem parse_number_ok : ∀ ws O Q E, sp_parse_number ws O Q E → semFn 1 2 sem_parse_number ws O Q E := by
  rintro ws O Q E ⟨z, rfl, hz, q⟩
  refine ⟨rfl, ?_⟩
  try simp only [sem_parse_number, sb_none_bool, sb_none_int, sb_none_str, sb_none_tuple, sb_none_list, sb_none_dict, sb_bool_bool, sb_bool_int, sb_bool_str, sb_bool_tuple, sb_bool_list, sb_bool_dict, sb_int_bool, sb_int_int, sb_int_str, sb_int_tuple, sb_int_list, sb_int_dict, sb_str_bool, sb_str_int, sb_str_str, sb_str_tuple, sb_str_list, sb_str_dict, sb_tuple_bool, sb_tuple_int, sb_tuple_str, sb_tuple_tuple, sb_tuple_list, sb_tuple_dict, sb_list_bool, sb_list_int, sb_list_str, sb_list_tuple, sb_list_list, sb_list_dict, sb_dict_bool, sb_dict_int, sb_dict_str, sb_dict_tuple, sb_dict_list, sb_dict_dict, decide_true, decide_false, Bool.or_false, Bool.false_or, Bool.or_true, Bool.true_or, Bool.and_true, Bool.true_and, Bool.and_false, Bool.false_and, onBl_bl, onS_some, e_seq, e_asg, e_par, e_two, e_expr, e_retN, e_if, e_tst, e_brk, e_cnt, e_next, e_sub, e_ag, e_raise, e_for, e_var, e_cst, e_op, e_chn, asI_int, e_neg, e_not, e_and, e_or, e_ife, onB_some, e_isN, isN_non, isN_int, isN_bl, isN_str, isN_tup, isN_lst, isN_ref, e_sl, e_none, e_some, e_nil, e_cons, e_tup, e_lst, e_call, e_blt, onT_some, e_isi, e_isii, tn_non, tn_bl, tn_int, tn_str, tn_tup, tn_lst, e_mt, ty_str, ty_tup, ty_lst, e_comp, e_seqI, seqX_str, seqX_tup, seqX_lst, e_one1, e_enum, walk_tup, walk_lst, e_zip, zip_tup, zip_lst, e_rng1, e_rng2, e_yes, onL1_some, e_rev, newL_t, newL_f, asQ_lst, asQ_tup, tgt_one, tgt_pack, tgt_tup, b_add, add_int, add_str, add_tup, add_lst, b_sub, b_mul, mul_int, b_mod, b_fdiv, b_pow, c_eq, c_ne, c_lt, c_le, c_gt, c_ge, c_in, c_nin, eq_int, eq_str, eq_bl, eq_non, in_chr, idx_str, idx_tup, idx_lst, idx_scr, slc_str, slc_tup, slc_lst, slc_scr, f_len, len_str, len_tup, len_lst, len_scr, f_max2, f_min2, f_abs, f_stri, f_strs, f_ints, f_all, f_sum, f_max1, f_min1, f_list, f_tuple, f_sorted, f_sortT, f_dictP, e_listG, e_seqG, e_nilG, e_plainG, e_forG, e_yieldG, m_join, m_split, m_strip, m_index, e_ret, asL_lst, e_lset, e_sortR, e_dg, e_dsub, e_dnew, e_dcomp, e_back, e_fld, e_sfld, e_meth, e_make, key_int, key_str, asK_dct, newD_t, newD_f, cutB_t, cutB_f, f_divmod, f_repr, e_isx, e_try, e_seqL, setI_s, setI_n, dropI_s, dropI_n, e_lrg1, e_lrg2, e_trg1, e_trg2, onK_some, onK1_some, getS, startW, wipeW, Mth.T, Mth.sem, augI, if_true, if_false, Bool.false_eq_true, true_and, and_true, Bool.not_true, Bool.not_false, List.map, List.length, List.replicate, List.cons_append, List.nil_append, List.set_cons_zero, List.set_cons_succ, Nat.reduceAdd, Nat.reduceSub, Int.reduceAdd, Int.reduceSub, Int.reduceNeg, Int.reduceMul, Nat.zero_add, List.map, List.length, List.append_eq, List.cons_append, List.nil_append]
  refine ⟨hz, ?_⟩
  have hl : z.length = (tl z).length := len_tl z
  by_cases h1 : (1 : Int) ≤ z.length
  · rw [decide_eq_true h1]
    refine if_t ?_
    by_cases h2 : (z.length : Int) ≤ 31
    · rw [decide_eq_true h2]
      refine if_f ?_
      have hw : decide (1 ≤ (tl z).length ∧ (tl z).length ≤ 31) = true := decide_eq_true (by omega)
      refine comp_map (fun y => .bl (decide (48 ≤ chrOf y) && decide (chrOf y ≤ 57))) trivial _ _ (by rw [strY_len]; show 0 + z.length ≤ 16777216; omega) (fun y hy Q q => ?_) ?_
      · obtain ⟨c, hc, rfl⟩ := strY_mem hy
        have e : decide (c ∈ tl ("0123456789" : Str)) = (decide (48 ≤ c) && decide (c ≤ 57)) := by
          rw [tl_digits, ← Bool.decide_and]
          refine decide_eq_decide.mpr ?_
          simp only [List.mem_cons, List.not_mem_nil, or_false]
          omega
        show Q (.bl (decide (c ∈ tl ("0123456789" : Str)))) O
        rw [e]
        exact q
      · refine ⟨(tl z).map fun c => decide (48 ≤ c) && decide (c ≤ 57), ?_, ?_⟩
        · unfold strY
          rw [List.map_map, List.map_map]
          rfl
        · have ea : ((tl z).map fun c => decide (48 ≤ c) && decide (c ≤ 57)).all id = digs (tl z) := by rw [List.all_map]; rfl
          rw [ea]
          cases hd : digs (tl z) with
          | false =>
            refine if_t (Ang.keep ?_)
            simpa [pnL, hd, optI] using q
          | true =>
            refine if_f ?_
            have hne : tl z ≠ [] := fun e => by rw [e] at hl; simp at hl; omega
            obtain ⟨c, cs, hc⟩ := List.exists_cons_of_ne_nil hne
            have hint : intText? z = some ((NumText.digitsVal (tl z) : Nat) : Int) := PySem.intText_digits (digs_iff.mp hd) hne (by omega)
            have key : pnL (tl z) = if tl z = [48] ∨ c ≠ 48 then some ((NumText.digitsVal (tl z) : Nat) : Int) else none := by
              unfold pnL
              rw [hw, hd, Bool.and_true, if_pos rfl, hc]
              simp
            rw [key] at q
            by_cases h0 : z = ("0" : Str)
            · have e0 : tl z = [48] := by rw [h0]; exact tl_zero
              rw [decide_eq_true h0]
              refine if_t ⟨_, hint, by omega, Ang.keep ?_⟩
              rw [if_pos (.inl e0)] at q
              exact q
            · have e0 : ¬ tl z = [48] := fun e => h0 (str_eq.mpr (e.trans tl_zero.symm))
              rw [decide_eq_false h0]
              refine if_f ⟨hz, ?_⟩
              have ea : L2.atI z.cps.toList 0 = some c := by
                have hc' : z.cps.toList = c :: cs := hc
                rw [hc']
                exact at_nat (j := 0) rfl rfl
              rw [ea]
              show if (!decide ((⟨#[c]⟩ : Str) = ("0" : Str))) = true then _ else _
              have e1 : decide ((⟨#[c]⟩ : Str) = ("0" : Str)) = decide (c = 48) := by
                refine decide_eq_decide.mpr ?_
                rw [str_eq, tl_zero]
                show [c] = [48] ↔ c = 48
                simp
              rw [e1]
              by_cases h48 : c = 48
              · rw [decide_eq_true h48]
                refine if_f (Ang.keep ?_)
                rw [if_neg (by rintro (e | e); exact e0 e; exact e h48)] at q
                exact q
              · rw [decide_eq_false h48]
                refine if_t ⟨_, hint, by omega, Ang.keep ?_⟩
                rw [if_pos (.inr h48)] at q
                exact q
    · rw [decide_eq_false h2]
      refine if_t (Ang.keep ?_)
      have hw : decide (1 ≤ (tl z).length ∧ (tl z).length ≤ 31) = false := decide_eq_false (by omega)
      have : pnL (tl z) = none := by unfold pnL; rw [hw]; rfl
      rw [this] at q
      exact q
  · rw [decide_eq_false h1]
    refine if_f (Ang.keep ?_)
    have hw : decide (1 ≤ (tl z).length ∧ (tl z).length ≤ 31) = false := decide_eq_false (by omega)
    have : pnL (tl z) = none := by unfold pnL; rw [hw]; rfl
    rw [this] at q
    exact q

def sp_parse_height : SpW := fun ws O Q E => ∃ z : Str, ws = [.str z] ∧ z.length ≤ LIM ∧ Q (optI (phL (tl z))) O
def sem_parse_height : TSw := seqW (ifW (tstW (opW (cmpW .ne) (slW true (varW 0) (noneO) (someO (cstW (.int 1)))) (cstW (.str "-"))))
  (retW (callW sp_parse_number (consA (varW 0) (nilA))))
  (nextW))
  (seqW (asgW (callW sp_parse_number (consA (slW true (varW 0) (someO (cstW (.int 1))) (noneO)) (nilA))) (.one 1))
  (retW (ifeW (orW (isNW false (varW 1)) (opW (cmpW .eq) (varW 1) (cstW (.int 0)))) (cstW .non) (negW (varW 1)))))
theorem cut_hd {z : Str} : tl (cutS z none (some 1)) = (tl z).take 1 := by
  have hl : z.length = (tl z).length := len_tl z
  unfold cutS tl at *
  rw [HT.sIx_none, sIx_int (by omega), List.drop_zero]
  show ((z.cps.toList).take (min 1 z.length - 0)).toArray.toList = _
  rw [List.toList_toArray, Nat.sub_zero, hl]
  rcases z.cps.toList with _ | ⟨c, cs⟩
  · rfl
  · simp
theorem cut_tail {z : Str} : tl (cutS z (some 1) none) = (tl z).drop 1 := by
  have hl : z.length = (tl z).length := len_tl z
  unfold cutS tl at *
  rw [HT.sIx_none, sIx_int (by omega)]
  show ((z.cps.toList.drop (min 1 z.length)).take (z.length - min 1 z.length)).toArray.toList = _
  rw [List.toList_toArray, hl]
  rcases z.cps.toList with _ | ⟨c, cs⟩
  · rfl
  · simp
theorem cut_len {z : Str} {lo hi : Option Int} : (cutS z lo hi).length ≤ z.length := L2.cutS_length z lo hi
theorem optI_cases {o : Option Int} {P : Dt → Prop} (h0 : o = none → P .non) (h1 : ∀ n, o = some n → P (.int n)) : P (optI o) := by
  cases o with
  | none => exact h0 rfl
  | some n => exact h1 n rfl
theorem parse_height_ok : ∀ ws O Q E, sp_parse_height ws O Q E → semFn 1 2 sem_parse_height ws O Q E := by
  rintro ws O Q E ⟨z, rfl, hz, q⟩
  refine ⟨rfl, ?_⟩
  try simp only [sem_parse_height, sb_none_bool, sb_none_int, sb_none_str, sb_none_tuple, sb_none_list, sb_none_dict, sb_bool_bool, sb_bool_int, sb_bool_str, sb_bool_tuple, sb_bool_list, sb_bool_dict, sb_int_bool, sb_int_int, sb_int_str, sb_int_tuple, sb_int_list, sb_int_dict, sb_str_bool, sb_str_int, sb_str_str, sb_str_tuple, sb_str_list, sb_str_dict, sb_tuple_bool, sb_tuple_int, sb_tuple_str, sb_tuple_tuple, sb_tuple_list, sb_tuple_dict, sb_list_bool, sb_list_int, sb_list_str, sb_list_tuple, sb_list_list, sb_list_dict, sb_dict_bool, sb_dict_int, sb_dict_str, sb_dict_tuple, sb_dict_list, sb_dict_dict, decide_true, decide_false, Bool.or_false, Bool.false_or, Bool.or_true, Bool.true_or, Bool.and_true, Bool.true_and, Bool.and_false, Bool.false_and, onBl_bl, onS_some, e_seq, e_asg, e_par, e_two, e_expr, e_retN, e_if, e_tst, e_brk, e_cnt, e_next, e_sub, e_ag, e_raise, e_for, e_var, e_cst, e_op, e_chn, asI_int, e_neg, e_not, e_and, e_or, e_ife, onB_some, e_isN, isN_non, isN_int, isN_bl, isN_str, isN_tup, isN_lst, isN_ref, e_sl, e_none, e_some, e_nil, e_cons, e_tup, e_lst, e_call, e_blt, onT_some, e_isi, e_isii, tn_non, tn_bl, tn_int, tn_str, tn_tup, tn_lst, e_mt, ty_str, ty_tup, ty_lst, e_comp, e_seqI, seqX_str, seqX_tup, seqX_lst, e_one1, e_enum, walk_tup, walk_lst, e_zip, zip_tup, zip_lst, e_rng1, e_rng2, e_yes, onL1_some, e_rev, newL_t, newL_f, asQ_lst, asQ_tup, tgt_one, tgt_pack, tgt_tup, b_add, add_int, add_str, add_tup, add_lst, b_sub, b_mul, mul_int, b_mod, b_fdiv, b_pow, c_eq, c_ne, c_lt, c_le, c_gt, c_ge, c_in, c_nin, eq_int, eq_str, eq_bl, eq_non, in_chr, idx_str, idx_tup, idx_lst, idx_scr, slc_str, slc_tup, slc_lst, slc_scr, f_len, len_str, len_tup, len_lst, len_scr, f_max2, f_min2, f_abs, f_stri, f_strs, f_ints, f_all, f_sum, f_max1, f_min1, f_list, f_tuple, f_sorted, f_sortT, f_dictP, e_listG, e_seqG, e_nilG, e_plainG, e_forG, e_yieldG, m_join, m_split, m_strip, m_index, e_ret, asL_lst, e_lset, e_sortR, e_dg, e_dsub, e_dnew, e_dcomp, e_back, e_fld, e_sfld, e_meth, e_make, key_int, key_str, asK_dct, newD_t, newD_f, cutB_t, cutB_f, f_divmod, f_repr, e_isx, e_try, e_seqL, setI_s, setI_n, dropI_s, dropI_n, e_lrg1, e_lrg2, e_trg1, e_trg2, onK_some, onK1_some, getS, startW, wipeW, Mth.T, Mth.sem, augI, if_true, if_false, Bool.false_eq_true, true_and, and_true, Bool.not_true, Bool.not_false, List.map, List.length, List.replicate, List.cons_append, List.nil_append, List.set_cons_zero, List.set_cons_succ, Nat.reduceAdd, Nat.reduceSub, Int.reduceAdd, Int.reduceSub, Int.reduceNeg, Int.reduceMul, Nat.zero_add, List.map, List.length, List.append_eq, List.cons_append, List.nil_append]
  refine ⟨hz, ?_⟩
  have e1 : decide (cutS z none (some 1) = ("-" : Str)) = decide ((tl z).head? = some 45) := by
    refine decide_eq_decide.mpr ?_
    rw [str_eq, cut_hd, tl_minus]
    rcases tl z with _ | ⟨c, cs⟩ <;> simp
  rw [e1]
  by_cases h : (tl z).head? = some 45
  · rw [decide_eq_true h]
    refine if_f ⟨hz, cutS z (some 1) none, rfl, Nat.le_trans cut_len hz, ?_⟩
    have e2 : (tl z).tail = (tl z).drop 1 := by rcases tl z with _ | ⟨c, cs⟩ <;> rfl
    unfold phL at q
    rw [if_pos h, e2, ← cut_tail] at q
    revert q
    cases hp : pnL (tl (cutS z (some 1) none)) with
    | none => intro q; exact Ang.keep q
    | some n =>
      intro q
      show if decide (n = 0) = true then _ else _
      by_cases h0 : n = 0
      · rw [decide_eq_true h0]
        refine if_t (Ang.keep ?_)
        simpa [h0, optI] using q
      · rw [decide_eq_false h0]
        refine if_f (Ang.keep ?_)
        simpa [h0, optI] using q
  · rw [decide_eq_false h]
    refine if_t ⟨z, rfl, hz, Ang.keep ?_⟩
    unfold phL at q
    rw [if_neg h] at q
    exact q

/-! ### the text of a queue -/
def txtQ (ns : List Int) : Str := Txt.join " " (ns.map istr)
/-- a person -/
def IsH (i : Int) : Prop := -1000000000000000000000000000000 ≤ i ∧ i ≤ 1000000000000000000000000000000
theorem IsH.small {i : Int} (h : IsH i) : Small i := by
  obtain ⟨h1, h2⟩ := h
  have e : 1000000000000000000000000000000 ≤ (10 : Int) ^ 300 := by decide +kernel
  exact ⟨by omega, by omega⟩
structure Que (ns : List Int) : Prop where
  l1 : 1 ≤ ns.length
  l40 : ns.length ≤ 40
  nd : ns.Nodup
  hs : ∀ i ∈ ns, IsH i
theorem intsOf_map (ns : List Int) : intsOf (ns.map Dt.int) = ns := by
  unfold intsOf
  rw [List.map_map]
  exact List.map_id' ns
theorem isQ_que {ns : List Int} (h : Que ns) : isQ (qD ns) = true := by
  have h1 : decide (1 ≤ (ns.map Dt.int).length ∧ (ns.map Dt.int).length ≤ 40) = true := decide_eq_true (by rw [List.length_map]; exact ⟨h.l1, h.l40⟩)
  have h2 : (ns.map Dt.int).all isH = true := by
    rw [List.all_map, List.all_eq_true]
    intro i hi
    obtain ⟨a, b⟩ := h.hs i hi
    show (decide (-1000000000000000000000000000000 ≤ i) && decide (i ≤ 1000000000000000000000000000000)) = true
    rw [decide_eq_true a, decide_eq_true b]
    rfl
  show (decide (1 ≤ (ns.map Dt.int).length ∧ (ns.map Dt.int).length ≤ 40) && (ns.map Dt.int).all isH && decide ((intsOf (ns.map Dt.int)).Nodup)) = true
  rw [intsOf_map, h1, h2, decide_eq_true h.nd]
  rfl
theorem que_isQ {x : Dt} (h : isQ x = true) : ∃ ns, x = qD ns ∧ Que ns := by
  cases x with
  | tup ws =>
    have h : (decide (1 ≤ ws.length ∧ ws.length ≤ 40) && ws.all isH && decide ((intsOf ws).Nodup)) = true := h
    rw [Bool.and_eq_true, Bool.and_eq_true] at h
    obtain ⟨⟨h1, h2⟩, h3⟩ := h
    have h1 := of_decide_eq_true h1
    refine ⟨intsOf ws, congrArg Dt.tup (allH_ints h2), ⟨?_, ?_, of_decide_eq_true h3, fun i hi => ?_⟩⟩
    · unfold intsOf; rw [List.length_map]; exact h1.1
    · unfold intsOf; rw [List.length_map]; exact h1.2
    · unfold intsOf at hi
      obtain ⟨x, hx, rfl⟩ := List.mem_map.mp hi
      have hh := List.all_eq_true.mp h2 x hx
      rw [isH_int hh] at hh
      have hh : (decide (-1000000000000000000000000000000 ≤ intOf x) && decide (intOf x ≤ 1000000000000000000000000000000)) = true := hh
      rw [Bool.and_eq_true] at hh
      exact ⟨of_decide_eq_true hh.1, of_decide_eq_true hh.2⟩
  | _ => cases h
theorem knowns_ints (O : OW) (ns : List Int) : knowns O (qD ns) := by
  intro y hy
  obtain ⟨i, _, rfl⟩ := List.mem_map.mp hy
  exact ⟨_, rfl⟩
theorem sgn_len {i : Int} (h : IsH i) : (sgn i).length ≤ 32 := by
  obtain ⟨h1, h2⟩ := h
  unfold sgn
  split
  · have h3 : i.toNat < 10 ^ 31 := Nat.lt_of_le_of_lt (show i.toNat ≤ 1000000000000000000000000000000 by omega) (by decide +kernel)
    exact Nat.le_trans (numL_len (k := 31) (by omega) h3) (by omega)
  · have h3 : (-i).toNat < 10 ^ 31 := Nat.lt_of_le_of_lt (show (-i).toNat ≤ 1000000000000000000000000000000 by omega) (by decide +kernel)
    have := numL_len (n := (-i).toNat) (k := 31) (by omega) h3
    simp only [List.length_cons]
    omega
theorem istr_len {i : Int} (h : IsH i) : (istr i).length ≤ 32 := by
  rw [len_tl, tl_istr]
  exact sgn_len h
theorem sum_le {l : List Nat} {m : Nat} (h : ∀ x ∈ l, x ≤ m) : l.sum ≤ l.length * m := by
  induction l with
  | nil => simp
  | cons a r ih =>
    rw [List.sum_cons, List.length_cons, Nat.succ_mul]
    have h1 := h a (by simp)
    have h2 := ih fun x hx => h x (by simp [hx])
    omega
def sp_law_text : SpW := fun ws O Q E => ∃ ns : List Int, ws = [qD ns] ∧ ns.length ≤ 40 ∧ (∀ i ∈ ns, IsH i) ∧ Q (.str (txtQ ns)) O
def sem_law_text : TSw := retW (mtW (Mth.T .join) (Mth.sem .join) (cstW (.str " ")) (consA (compW true (seqI (varW 0)) (.one 1) (yesT) (bltW (Blt.sem .str) (consA (varW 1) (nilA))) [1]) (nilA)))
/-- " ".join([str(person) for person in queue]) -/
theorem join_sem {ns : List Int} {O : OW} {Q : KW} (hl : ns.length ≤ 40) (hs : ∀ i ∈ ns, IsH i) (q : Q (.str (txtQ ns)) O) :
    ∃ ys : List Str, some ((ns.map Dt.int).map fun w => Dt.str (istr (intOf w))) = some (ys.map Dt.str) ∧ (ys.map (·.length)).sum + ys.length * (Str.ofString " ").length ≤ LIM ∧ Q (.str (Txt.join " " ys)) O := by
  refine ⟨ns.map istr, ?_, ?_, q⟩
  · rw [List.map_map, List.map_map]
    rfl
  · have h1 : ((ns.map istr).map (·.length)).sum ≤ ((ns.map istr).map (·.length)).length * 32 := sum_le fun x hx => by
      obtain ⟨y, hy, rfl⟩ := List.mem_map.mp hx
      obtain ⟨i, hi, rfl⟩ := List.mem_map.mp hy
      exact istr_len (hs i hi)
    rw [List.length_map, List.length_map] at h1
    have h2 : (Str.ofString " ").length = 1 := by rw [len_tl, tl_space]; rfl
    rw [h2, List.length_map]
    show _ ≤ 16777216
    omega
theorem law_text_ok : ∀ ws O Q E, sp_law_text ws O Q E → semFn 1 2 sem_law_text ws O Q E := by
  rintro ws O Q E ⟨ns, rfl, hl, hs, q⟩
  refine ⟨rfl, ?_⟩
  try simp only [sem_law_text, sb_none_bool, sb_none_int, sb_none_str, sb_none_tuple, sb_none_list, sb_none_dict, sb_bool_bool, sb_bool_int, sb_bool_str, sb_bool_tuple, sb_bool_list, sb_bool_dict, sb_int_bool, sb_int_int, sb_int_str, sb_int_tuple, sb_int_list, sb_int_dict, sb_str_bool, sb_str_int, sb_str_str, sb_str_tuple, sb_str_list, sb_str_dict, sb_tuple_bool, sb_tuple_int, sb_tuple_str, sb_tuple_tuple, sb_tuple_list, sb_tuple_dict, sb_list_bool, sb_list_int, sb_list_str, sb_list_tuple, sb_list_list, sb_list_dict, sb_dict_bool, sb_dict_int, sb_dict_str, sb_dict_tuple, sb_dict_list, sb_dict_dict, decide_true, decide_false, Bool.or_false, Bool.false_or, Bool.or_true, Bool.true_or, Bool.and_true, Bool.true_and, Bool.and_false, Bool.false_and, onBl_bl, onS_some, e_seq, e_asg, e_par, e_two, e_expr, e_retN, e_if, e_tst, e_brk, e_cnt, e_next, e_sub, e_ag, e_raise, e_for, e_var, e_cst, e_op, e_chn, asI_int, e_neg, e_not, e_and, e_or, e_ife, onB_some, e_isN, isN_non, isN_int, isN_bl, isN_str, isN_tup, isN_lst, isN_ref, e_sl, e_none, e_some, e_nil, e_cons, e_tup, e_lst, e_call, e_blt, onT_some, e_isi, e_isii, tn_non, tn_bl, tn_int, tn_str, tn_tup, tn_lst, e_mt, ty_str, ty_tup, ty_lst, e_comp, e_seqI, seqX_str, seqX_tup, seqX_lst, e_one1, e_enum, walk_tup, walk_lst, e_zip, zip_tup, zip_lst, e_rng1, e_rng2, e_yes, onL1_some, e_rev, newL_t, newL_f, asQ_lst, asQ_tup, tgt_one, tgt_pack, tgt_tup, b_add, add_int, add_str, add_tup, add_lst, b_sub, b_mul, mul_int, b_mod, b_fdiv, b_pow, c_eq, c_ne, c_lt, c_le, c_gt, c_ge, c_in, c_nin, eq_int, eq_str, eq_bl, eq_non, in_chr, idx_str, idx_tup, idx_lst, idx_scr, slc_str, slc_tup, slc_lst, slc_scr, f_len, len_str, len_tup, len_lst, len_scr, f_max2, f_min2, f_abs, f_stri, f_strs, f_ints, f_all, f_sum, f_max1, f_min1, f_list, f_tuple, f_sorted, f_sortT, f_dictP, e_listG, e_seqG, e_nilG, e_plainG, e_forG, e_yieldG, m_join, m_split, m_strip, m_index, e_ret, asL_lst, e_lset, e_sortR, e_dg, e_dsub, e_dnew, e_dcomp, e_back, e_fld, e_sfld, e_meth, e_make, key_int, key_str, asK_dct, newD_t, newD_f, cutB_t, cutB_f, f_divmod, f_repr, e_isx, e_try, e_seqL, setI_s, setI_n, dropI_s, dropI_n, e_lrg1, e_lrg2, e_trg1, e_trg2, onK_some, onK1_some, getS, startW, wipeW, Mth.T, Mth.sem, augI, if_true, if_false, Bool.false_eq_true, true_and, and_true, Bool.not_true, Bool.not_false, List.map, List.length, List.replicate, List.cons_append, List.nil_append, List.set_cons_zero, List.set_cons_succ, Nat.reduceAdd, Nat.reduceSub, Int.reduceAdd, Int.reduceSub, Int.reduceNeg, Int.reduceMul, Nat.zero_add, List.map, List.length, List.append_eq, List.cons_append, List.nil_append]
  refine comp_map (fun y => .str (istr (intOf (datOf y)))) trivial _ _ (by rw [ones_len, List.length_map]; show 0 + ns.length ≤ 16777216; omega) (fun y hy Q q => ?_) ?_
  · obtain ⟨w, hw, rfl⟩ := ones_mem hy
    obtain ⟨i, hi, rfl⟩ := List.mem_map.mp hw
    exact ⟨(hs i hi).small, q⟩
  · rw [ones_map]
    exact join_sem (Q := fun w O => Ang w O Q) hl hs (Ang.keep q)
def sp_show_queue : SpW := fun ws O Q E => ∃ x, ws = [x] ∧ known O x ∧ knowns O x ∧ (∀ ns, x = qD ns → Que ns → Q (.str (txtQ ns)) O) ∧ (isQ x = false → E ⟨"NoQueue", []⟩ O)
def sem_show_queue : TSw := seqW (exprW (callW sp_require_queue (consA (varW 0) (nilA))))
  (retW (mtW (Mth.T .join) (Mth.sem .join) (cstW (.str " ")) (consA (compW true (seqI (varW 0)) (.one 1) (yesT) (bltW (Blt.sem .str) (consA (varW 1) (nilA))) [1]) (nilA))))
theorem show_queue_ok : ∀ ws O Q E, sp_show_queue ws O Q E → semFn 1 2 sem_show_queue ws O Q E := by
  rintro ws O Q E ⟨x, rfl, k, kn, q1, q2⟩
  refine ⟨rfl, ?_⟩
  try simp only [sem_show_queue, sb_none_bool, sb_none_int, sb_none_str, sb_none_tuple, sb_none_list, sb_none_dict, sb_bool_bool, sb_bool_int, sb_bool_str, sb_bool_tuple, sb_bool_list, sb_bool_dict, sb_int_bool, sb_int_int, sb_int_str, sb_int_tuple, sb_int_list, sb_int_dict, sb_str_bool, sb_str_int, sb_str_str, sb_str_tuple, sb_str_list, sb_str_dict, sb_tuple_bool, sb_tuple_int, sb_tuple_str, sb_tuple_tuple, sb_tuple_list, sb_tuple_dict, sb_list_bool, sb_list_int, sb_list_str, sb_list_tuple, sb_list_list, sb_list_dict, sb_dict_bool, sb_dict_int, sb_dict_str, sb_dict_tuple, sb_dict_list, sb_dict_dict, decide_true, decide_false, Bool.or_false, Bool.false_or, Bool.or_true, Bool.true_or, Bool.and_true, Bool.true_and, Bool.and_false, Bool.false_and, onBl_bl, onS_some, e_seq, e_asg, e_par, e_two, e_expr, e_retN, e_if, e_tst, e_brk, e_cnt, e_next, e_sub, e_ag, e_raise, e_for, e_var, e_cst, e_op, e_chn, asI_int, e_neg, e_not, e_and, e_or, e_ife, onB_some, e_isN, isN_non, isN_int, isN_bl, isN_str, isN_tup, isN_lst, isN_ref, e_sl, e_none, e_some, e_nil, e_cons, e_tup, e_lst, e_call, e_blt, onT_some, e_isi, e_isii, tn_non, tn_bl, tn_int, tn_str, tn_tup, tn_lst, e_mt, ty_str, ty_tup, ty_lst, e_comp, e_seqI, seqX_str, seqX_tup, seqX_lst, e_one1, e_enum, walk_tup, walk_lst, e_zip, zip_tup, zip_lst, e_rng1, e_rng2, e_yes, onL1_some, e_rev, newL_t, newL_f, asQ_lst, asQ_tup, tgt_one, tgt_pack, tgt_tup, b_add, add_int, add_str, add_tup, add_lst, b_sub, b_mul, mul_int, b_mod, b_fdiv, b_pow, c_eq, c_ne, c_lt, c_le, c_gt, c_ge, c_in, c_nin, eq_int, eq_str, eq_bl, eq_non, in_chr, idx_str, idx_tup, idx_lst, idx_scr, slc_str, slc_tup, slc_lst, slc_scr, f_len, len_str, len_tup, len_lst, len_scr, f_max2, f_min2, f_abs, f_stri, f_strs, f_ints, f_all, f_sum, f_max1, f_min1, f_list, f_tuple, f_sorted, f_sortT, f_dictP, e_listG, e_seqG, e_nilG, e_plainG, e_forG, e_yieldG, m_join, m_split, m_strip, m_index, e_ret, asL_lst, e_lset, e_sortR, e_dg, e_dsub, e_dnew, e_dcomp, e_back, e_fld, e_sfld, e_meth, e_make, key_int, key_str, asK_dct, newD_t, newD_f, cutB_t, cutB_f, f_divmod, f_repr, e_isx, e_try, e_seqL, setI_s, setI_n, dropI_s, dropI_n, e_lrg1, e_lrg2, e_trg1, e_trg2, onK_some, onK1_some, getS, startW, wipeW, Mth.T, Mth.sem, augI, if_true, if_false, Bool.false_eq_true, true_and, and_true, Bool.not_true, Bool.not_false, List.map, List.length, List.replicate, List.cons_append, List.nil_append, List.set_cons_zero, List.set_cons_succ, Nat.reduceAdd, Nat.reduceSub, Int.reduceAdd, Int.reduceSub, Int.reduceNeg, Int.reduceMul, Nat.zero_add, List.map, List.length, List.append_eq, List.cons_append, List.nil_append]
  refine ⟨x, rfl, k, kn, fun h => ?_, fun h => ⟨O, OLe.refl O, q2 h⟩⟩
  obtain ⟨ns, rfl, hq⟩ := que_isQ h
  try simp only [sb_none_bool, sb_none_int, sb_none_str, sb_none_tuple, sb_none_list, sb_none_dict, sb_bool_bool, sb_bool_int, sb_bool_str, sb_bool_tuple, sb_bool_list, sb_bool_dict, sb_int_bool, sb_int_int, sb_int_str, sb_int_tuple, sb_int_list, sb_int_dict, sb_str_bool, sb_str_int, sb_str_str, sb_str_tuple, sb_str_list, sb_str_dict, sb_tuple_bool, sb_tuple_int, sb_tuple_str, sb_tuple_tuple, sb_tuple_list, sb_tuple_dict, sb_list_bool, sb_list_int, sb_list_str, sb_list_tuple, sb_list_list, sb_list_dict, sb_dict_bool, sb_dict_int, sb_dict_str, sb_dict_tuple, sb_dict_list, sb_dict_dict, decide_true, decide_false, Bool.or_false, Bool.false_or, Bool.or_true, Bool.true_or, Bool.and_true, Bool.true_and, Bool.and_false, Bool.false_and, onBl_bl, onS_some, e_seq, e_asg, e_par, e_two, e_expr, e_retN, e_if, e_tst, e_brk, e_cnt, e_next, e_sub, e_ag, e_raise, e_for, e_var, e_cst, e_op, e_chn, asI_int, e_neg, e_not, e_and, e_or, e_ife, onB_some, e_isN, isN_non, isN_int, isN_bl, isN_str, isN_tup, isN_lst, isN_ref, e_sl, e_none, e_some, e_nil, e_cons, e_tup, e_lst, e_call, e_blt, onT_some, e_isi, e_isii, tn_non, tn_bl, tn_int, tn_str, tn_tup, tn_lst, e_mt, ty_str, ty_tup, ty_lst, e_comp, e_seqI, seqX_str, seqX_tup, seqX_lst, e_one1, e_enum, walk_tup, walk_lst, e_zip, zip_tup, zip_lst, e_rng1, e_rng2, e_yes, onL1_some, e_rev, newL_t, newL_f, asQ_lst, asQ_tup, tgt_one, tgt_pack, tgt_tup, b_add, add_int, add_str, add_tup, add_lst, b_sub, b_mul, mul_int, b_mod, b_fdiv, b_pow, c_eq, c_ne, c_lt, c_le, c_gt, c_ge, c_in, c_nin, eq_int, eq_str, eq_bl, eq_non, in_chr, idx_str, idx_tup, idx_lst, idx_scr, slc_str, slc_tup, slc_lst, slc_scr, f_len, len_str, len_tup, len_lst, len_scr, f_max2, f_min2, f_abs, f_stri, f_strs, f_ints, f_all, f_sum, f_max1, f_min1, f_list, f_tuple, f_sorted, f_sortT, f_dictP, e_listG, e_seqG, e_nilG, e_plainG, e_forG, e_yieldG, m_join, m_split, m_strip, m_index, e_ret, asL_lst, e_lset, e_sortR, e_dg, e_dsub, e_dnew, e_dcomp, e_back, e_fld, e_sfld, e_meth, e_make, key_int, key_str, asK_dct, newD_t, newD_f, cutB_t, cutB_f, f_divmod, f_repr, e_isx, e_try, e_seqL, setI_s, setI_n, dropI_s, dropI_n, e_lrg1, e_lrg2, e_trg1, e_trg2, onK_some, onK1_some, getS, startW, wipeW, Mth.T, Mth.sem, augI, if_true, if_false, Bool.false_eq_true, true_and, and_true, Bool.not_true, Bool.not_false, List.map, List.length, List.replicate, List.cons_append, List.nil_append, List.set_cons_zero, List.set_cons_succ, Nat.reduceAdd, Nat.reduceSub, Int.reduceAdd, Int.reduceSub, Int.reduceNeg, Int.reduceMul, Nat.zero_add]
  refine comp_map (fun y => .str (istr (intOf (datOf y)))) trivial _ _ (by rw [ones_len, List.length_map]; show 0 + ns.length ≤ 16777216; have := hq.l40; omega) (fun y hy Q q => ?_) ?_
  · obtain ⟨w, hw, rfl⟩ := ones_mem hy
    obtain ⟨i, hi, rfl⟩ := List.mem_map.mp hw
    exact ⟨(hq.hs i hi).small, q⟩
  · rw [ones_map]
    exact join_sem (Q := fun w O => Ang w O Q) hq.l40 hq.hs (Ang.keep (q1 ns rfl hq))

/-! ### reading -/
def rdD (z : Str) : Dt := .tup ((Txt.split z " ").map fun w => optI (phL (tl w)))
def sp_read_queue : SpW := fun ws O Q E => ∃ x, ws = [x] ∧ known O x ∧ (∀ z, x = .str z → z.length + 2 ≤ LIM ∧ (∀ w ∈ Txt.split z " ", w.length ≤ LIM) ∧ (Txt.split z " ").length ≤ LIM ∧ (isQ (rdD z) = true → Q (rdD z) O) ∧ (isQ (rdD z) = false → E ⟨"NoText", []⟩ O)) ∧ ((∀ z, x ≠ .str z) → E ⟨"NoText", []⟩ O)
def sem_read_queue : TSw := seqW (ifW (tstW (notW (isiW .str (varW 0))))
  (raiseW "NoText")
  (nextW))
  (seqW (asgW (bltW (Blt.sem .tuple) (consA (compW true (seqI (mtW (Mth.T (.split true)) (Mth.sem (.split true)) (varW 0) (consA (cstW (.str " ")) (nilA)))) (.one 2) (yesT) (callW sp_parse_height (consA (varW 2) (nilA))) [2]) (nilA))) (.one 1))
  (seqW (ifW (tstW (notW (callW sp_is_queue (consA (varW 1) (nilA)))))
  (raiseW "NoText")
  (nextW))
  (retW (varW 1))))
theorem read_queue_ok : ∀ ws O Q E, sp_read_queue ws O Q E → semFn 1 3 sem_read_queue ws O Q E := by
  rintro ws O Q E ⟨x, rfl, ⟨t, ht⟩, q1, q2⟩
  refine ⟨rfl, ?_⟩
  try simp only [sem_read_queue, sb_none_bool, sb_none_int, sb_none_str, sb_none_tuple, sb_none_list, sb_none_dict, sb_bool_bool, sb_bool_int, sb_bool_str, sb_bool_tuple, sb_bool_list, sb_bool_dict, sb_int_bool, sb_int_int, sb_int_str, sb_int_tuple, sb_int_list, sb_int_dict, sb_str_bool, sb_str_int, sb_str_str, sb_str_tuple, sb_str_list, sb_str_dict, sb_tuple_bool, sb_tuple_int, sb_tuple_str, sb_tuple_tuple, sb_tuple_list, sb_tuple_dict, sb_list_bool, sb_list_int, sb_list_str, sb_list_tuple, sb_list_list, sb_list_dict, sb_dict_bool, sb_dict_int, sb_dict_str, sb_dict_tuple, sb_dict_list, sb_dict_dict, decide_true, decide_false, Bool.or_false, Bool.false_or, Bool.or_true, Bool.true_or, Bool.and_true, Bool.true_and, Bool.and_false, Bool.false_and, onBl_bl, onS_some, e_seq, e_asg, e_par, e_two, e_expr, e_retN, e_if, e_tst, e_brk, e_cnt, e_next, e_sub, e_ag, e_raise, e_for, e_var, e_cst, e_op, e_chn, asI_int, e_neg, e_not, e_and, e_or, e_ife, onB_some, e_isN, isN_non, isN_int, isN_bl, isN_str, isN_tup, isN_lst, isN_ref, e_sl, e_none, e_some, e_nil, e_cons, e_tup, e_lst, e_call, e_blt, onT_some, e_isi, e_isii, tn_non, tn_bl, tn_int, tn_str, tn_tup, tn_lst, e_mt, ty_str, ty_tup, ty_lst, e_comp, e_seqI, seqX_str, seqX_tup, seqX_lst, e_one1, e_enum, walk_tup, walk_lst, e_zip, zip_tup, zip_lst, e_rng1, e_rng2, e_yes, onL1_some, e_rev, newL_t, newL_f, asQ_lst, asQ_tup, tgt_one, tgt_pack, tgt_tup, b_add, add_int, add_str, add_tup, add_lst, b_sub, b_mul, mul_int, b_mod, b_fdiv, b_pow, c_eq, c_ne, c_lt, c_le, c_gt, c_ge, c_in, c_nin, eq_int, eq_str, eq_bl, eq_non, in_chr, idx_str, idx_tup, idx_lst, idx_scr, slc_str, slc_tup, slc_lst, slc_scr, f_len, len_str, len_tup, len_lst, len_scr, f_max2, f_min2, f_abs, f_stri, f_strs, f_ints, f_all, f_sum, f_max1, f_min1, f_list, f_tuple, f_sorted, f_sortT, f_dictP, e_listG, e_seqG, e_nilG, e_plainG, e_forG, e_yieldG, m_join, m_split, m_strip, m_index, e_ret, asL_lst, e_lset, e_sortR, e_dg, e_dsub, e_dnew, e_dcomp, e_back, e_fld, e_sfld, e_meth, e_make, key_int, key_str, asK_dct, newD_t, newD_f, cutB_t, cutB_f, f_divmod, f_repr, e_isx, e_try, e_seqL, setI_s, setI_n, dropI_s, dropI_n, e_lrg1, e_lrg2, e_trg1, e_trg2, onK_some, onK1_some, getS, startW, wipeW, Mth.T, Mth.sem, augI, if_true, if_false, Bool.false_eq_true, true_and, and_true, Bool.not_true, Bool.not_false, List.map, List.length, List.replicate, List.cons_append, List.nil_append, List.set_cons_zero, List.set_cons_succ, Nat.reduceAdd, Nat.reduceSub, Int.reduceAdd, Int.reduceSub, Int.reduceNeg, Int.reduceMul, Nat.zero_add, List.map, List.length, List.append_eq, List.cons_append, List.nil_append, ht]
  have sub : t.sub .str = decide (t = .str) := by cases t <;> rfl
  rw [sub]
  by_cases htt : t = .str
  · subst htt
    cases x with
    | str z =>
      obtain ⟨h1, h2, h3, q3, q4⟩ := q1 z rfl
      refine if_f ?_
      try simp only [sb_none_bool, sb_none_int, sb_none_str, sb_none_tuple, sb_none_list, sb_none_dict, sb_bool_bool, sb_bool_int, sb_bool_str, sb_bool_tuple, sb_bool_list, sb_bool_dict, sb_int_bool, sb_int_int, sb_int_str, sb_int_tuple, sb_int_list, sb_int_dict, sb_str_bool, sb_str_int, sb_str_str, sb_str_tuple, sb_str_list, sb_str_dict, sb_tuple_bool, sb_tuple_int, sb_tuple_str, sb_tuple_tuple, sb_tuple_list, sb_tuple_dict, sb_list_bool, sb_list_int, sb_list_str, sb_list_tuple, sb_list_list, sb_list_dict, sb_dict_bool, sb_dict_int, sb_dict_str, sb_dict_tuple, sb_dict_list, sb_dict_dict, decide_true, decide_false, Bool.or_false, Bool.false_or, Bool.or_true, Bool.true_or, Bool.and_true, Bool.true_and, Bool.and_false, Bool.false_and, onBl_bl, onS_some, e_seq, e_asg, e_par, e_two, e_expr, e_retN, e_if, e_tst, e_brk, e_cnt, e_next, e_sub, e_ag, e_raise, e_for, e_var, e_cst, e_op, e_chn, asI_int, e_neg, e_not, e_and, e_or, e_ife, onB_some, e_isN, isN_non, isN_int, isN_bl, isN_str, isN_tup, isN_lst, isN_ref, e_sl, e_none, e_some, e_nil, e_cons, e_tup, e_lst, e_call, e_blt, onT_some, e_isi, e_isii, tn_non, tn_bl, tn_int, tn_str, tn_tup, tn_lst, e_mt, ty_str, ty_tup, ty_lst, e_comp, e_seqI, seqX_str, seqX_tup, seqX_lst, e_one1, e_enum, walk_tup, walk_lst, e_zip, zip_tup, zip_lst, e_rng1, e_rng2, e_yes, onL1_some, e_rev, newL_t, newL_f, asQ_lst, asQ_tup, tgt_one, tgt_pack, tgt_tup, b_add, add_int, add_str, add_tup, add_lst, b_sub, b_mul, mul_int, b_mod, b_fdiv, b_pow, c_eq, c_ne, c_lt, c_le, c_gt, c_ge, c_in, c_nin, eq_int, eq_str, eq_bl, eq_non, in_chr, idx_str, idx_tup, idx_lst, idx_scr, slc_str, slc_tup, slc_lst, slc_scr, f_len, len_str, len_tup, len_lst, len_scr, f_max2, f_min2, f_abs, f_stri, f_strs, f_ints, f_all, f_sum, f_max1, f_min1, f_list, f_tuple, f_sorted, f_sortT, f_dictP, e_listG, e_seqG, e_nilG, e_plainG, e_forG, e_yieldG, m_join, m_split, m_strip, m_index, e_ret, asL_lst, e_lset, e_sortR, e_dg, e_dsub, e_dnew, e_dcomp, e_back, e_fld, e_sfld, e_meth, e_make, key_int, key_str, asK_dct, newD_t, newD_f, cutB_t, cutB_f, f_divmod, f_repr, e_isx, e_try, e_seqL, setI_s, setI_n, dropI_s, dropI_n, e_lrg1, e_lrg2, e_trg1, e_trg2, onK_some, onK1_some, getS, startW, wipeW, Mth.T, Mth.sem, augI, if_true, if_false, Bool.false_eq_true, true_and, and_true, Bool.not_true, Bool.not_false, List.map, List.length, List.replicate, List.cons_append, List.nil_append, List.set_cons_zero, List.set_cons_succ, Nat.reduceAdd, Nat.reduceSub, Int.reduceAdd, Int.reduceSub, Int.reduceNeg, Int.reduceMul, Nat.zero_add]
      have hsp : ((Str.ofString " ").length == 0) = false := by decide +kernel
      refine ⟨⟨hsp, h1⟩, ?_⟩
      refine comp_map (fun y => optI (phL (match datOf y with | .str w => tl w | _ => []))) trivial _ _ (by rw [ones_len, List.length_map]; show 0 + _ ≤ _; rw [Nat.zero_add]; exact h3) (fun y hy Q q => ?_) ?_
      · obtain ⟨w, hw, rfl⟩ := ones_mem hy
        obtain ⟨u, hu, rfl⟩ := List.mem_map.mp hw
        exact ⟨u, rfl, h2 u hu, q⟩
      · rw [ones_map]
        have e : ((Txt.split z " ").map Dt.str).map (fun w => optI (phL (match datOf (.one w) with | .str w => tl w | _ => []))) = (Txt.split z " ").map fun w => optI (phL (tl w)) := by
          rw [List.map_map]
          rfl
        rw [e]
        refine ⟨_, rfl, ⟨_, rfl⟩, ?_, ?_⟩
        · intro y hy
          have hy : y ∈ (Txt.split z " ").map fun w => optI (phL (tl w)) := hy
          obtain ⟨w, _, rfl⟩ := List.mem_map.mp hy
          exact optI_cases (P := known O) (fun _ => ⟨_, rfl⟩) fun n _ => ⟨_, rfl⟩
        · show if (!isQ (rdD z)) = true then _ else _
          cases h : isQ (rdD z) with
          | true => exact if_f (Ang.keep (q3 h))
          | false => exact if_t ⟨O, OLe.refl O, q4 h⟩
    | ref a =>
      have ht : (match O a with | some (.lst _) => some TN.list | some (.dct _) => some TN.dict | _ => none) = some TN.str := ht
      split at ht <;> cases ht
    | _ => cases ht
  · rw [decide_eq_false htt]
    refine if_t ⟨O, OLe.refl O, q2 fun z e => ?_⟩
    subst e
    cases ht
    exact htt rfl

/-! ### there and back -/
theorem digs_num (n : Nat) : digs (numL n) = true := digs_iff.mpr (numL_digits n)
theorem pn_num {n : Nat} (h : n < 10 ^ 31) : pnL (numL n) = some (n : Int) := by
  have hl := numL_len (n := n) (k := 31) (by omega) h
  have h0 : 1 ≤ (numL n).length := List.length_pos_iff.mpr (numL_ne n)
  unfold pnL
  rw [decide_eq_true ⟨h0, hl⟩, digs_num, Bool.and_true, if_pos rfl, numL_val]
  by_cases hn : n = 0
  · subst hn
    rw [if_pos (.inl (numL_lt (by omega)))]
  · obtain ⟨c, cs, e, h1, h2⟩ := numL_head n (by omega)
    rw [if_pos (.inr (by rw [e]; simp; omega))]
theorem ph_sgn {i : Int} (h : IsH i) : phL (sgn i) = some i := by
  obtain ⟨h1, h2⟩ := h
  unfold sgn phL
  by_cases h0 : 0 ≤ i
  · rw [if_pos h0]
    have hne : ¬ (numL i.toNat).head? = some 45 := by
      intro e
      have hm : 45 ∈ numL i.toNat := List.mem_of_mem_head? (by rw [e]; rfl)
      exact numL_free (n := i.toNat) (s := 45) (by omega) hm
    rw [if_neg hne, pn_num (Nat.lt_of_le_of_lt (show i.toNat ≤ 1000000000000000000000000000000 by omega) (by decide +kernel))]
    congr 1
    omega
  · rw [if_neg h0]
    show (if some 45 = some 45 then (match pnL (numL (-i).toNat) with | none => none | some n => if n = 0 then none else some (-n)) else _) = _
    rw [if_pos rfl, pn_num (Nat.lt_of_le_of_lt (show (-i).toNat ≤ 1000000000000000000000000000000 by omega) (by decide +kernel))]
    show (if (((-i).toNat : Nat) : Int) = 0 then none else some (-(((-i).toNat : Nat) : Int))) = some i
    rw [if_neg (by omega)]
    congr 1
    omega
theorem sgn_free (i : Int) : 32 ∉ sgn i := by
  unfold sgn
  split
  · exact numL_free (by omega)
  · intro h
    rcases List.mem_cons.mp h with h | h
    · cases h
    · exact numL_free (by omega) h
theorem split_txt {ns : List Int} (h : ns ≠ []) : Txt.split (txtQ ns) " " = ns.map istr := by
  refine split_join (s := 32) (S := []) tl_space (by decide +kernel) (by simpa using h) fun p hp => ?_
  obtain ⟨i, _, rfl⟩ := List.mem_map.mp hp
  rw [tl_istr]
  exact sgn_free i
theorem txt_inj {ns ms : List Int} (h1 : ns ≠ []) (h2 : ms ≠ []) (hn : ∀ i ∈ ns, IsH i) (hm : ∀ i ∈ ms, IsH i) (h : txtQ ns = txtQ ms) : ns = ms := by
  have e := split_txt h1
  rw [h, split_txt h2] at e
  have e2 : (ns.map istr).map (fun w => phL (tl w)) = (ms.map istr).map (fun w => phL (tl w)) := by rw [e]
  rw [List.map_map, List.map_map] at e2
  have a : ∀ l : List Int, (∀ i ∈ l, IsH i) → l.map ((fun w => phL (tl w)) ∘ istr) = l.map some := fun l hl => List.map_congr_left fun i hi => by
    show phL (tl (istr i)) = some i
    rw [tl_istr, ph_sgn (hl i hi)]
  rw [a ns hn, a ms hm] at e2
  exact List.map_inj_right (fun _ _ h => Option.some.inj h) |>.mp e2
theorem txt_len {ns : List Int} (hl : ns.length ≤ 40) (hs : ∀ i ∈ ns, IsH i) : (txtQ ns).length ≤ 2000 := by
  unfold txtQ
  rw [join_eq]
  have : ∀ l : List Int, (∀ i ∈ l, IsH i) → (Str.join " " (l.map istr)).length ≤ 33 * l.length := by
    intro l
    induction l with
    | nil => intro _; show Str.length Str.empty ≤ _; exact Nat.zero_le _
    | cons i r ih =>
      intro h
      have hi := istr_len (h i (by simp))
      have hr := ih fun j hj => h j (by simp [hj])
      cases r with
      | nil =>
        show (istr i).length ≤ _
        simp only [List.length_cons]
        omega
      | cons j r =>
        show (istr i ++ " " ++ Str.join " " ((j :: r).map istr)).length ≤ _
        have h2 : (Str.ofString " ").length = 1 := by rw [len_tl, tl_space]; rfl
        rw [len_tl, TL.tl_append, TL.tl_append, List.length_append, List.length_append, ← len_tl, ← len_tl, ← len_tl, h2]
        simp only [List.length_cons] at hr ⊢
        omega
  have := this ns hs
  omega
theorem rd_txt {ns : List Int} (h : ns ≠ []) (hs : ∀ i ∈ ns, IsH i) : rdD (txtQ ns) = qD ns := by
  unfold rdD
  rw [split_txt h, List.map_map]
  congr 1
  refine List.map_congr_left fun i hi => ?_
  show optI (phL (tl (istr i))) = .int i
  rw [tl_istr, ph_sgn (hs i hi)]
  rfl
end TF

/-! P3: the laws' drawn queues -/
namespace TF
open PySem L2 TL

/-! ### comprehensions, loops, by an invariant -/
/-! ### drawing numbers -/
/-- a fount: three ints; the count of draws is at most B -/
def Fo (O : OW) (f : Addr) (B : Int) : Prop := ∃ a b c : Int, O f = some (.lst [.int a, .int b, .int c]) ∧ 0 ≤ a ∧ (0 ≤ b ∧ b ≤ 1000000000000000000000000000000000000000000000000000000000000) ∧ 0 ≤ c ∧ c ≤ B
theorem Fo.at_ {O O' : OW} {f : Addr} {B : Int} (h : Fo O f B) (e : O' f = O f) : Fo O' f B := by
  obtain ⟨a, b, c, h1, h2⟩ := h
  exact ⟨a, b, c, e.trans h1, h2⟩
/-- all but f is as it was -/
def Sm (f : Addr) (O O' : OW) : Prop := ∀ a, a ≠ f → O' a = O a
theorem Sm.trans {f : Addr} {O O1 O2 : OW} (h : Sm f O O1) (k : Sm f O1 O2) : Sm f O O2 := fun a ha => (k a ha).trans (h a ha)
theorem Sm.refl (f : Addr) (O : OW) : Sm f O O := fun _ _ => rfl
theorem Sm.upo {f : Addr} {O : OW} {o : OO} : Sm f O (upo O f o) := fun a ha => upo_ne ha
theorem small_of {i : Int} (h1 : -1000000000000000000000000000000000000000000000000000000000000 ≤ i) (h2 : i ≤ 1000000000000000000000000000000000000000000000000000000000000) : Small i := by
  have e : (1000000000000000000000000000000000000000000000000000000000000 : Int) ≤ (10 : Int) ^ 300 := by decide +kernel
  exact ⟨by omega, by omega⟩
/-- between 10 ** 60 and 10 ** 300 -/
theorem small_big {i : Int} (h1 : 0 ≤ i) (h2 : i ≤ (1000000000000000000000000000000000000000000000000000000000000 : Int) ^ 4) : Small i := by
  have e : (1000000000000000000000000000000000000000000000000000000000000 : Int) ^ 4 ≤ (10 : Int) ^ 300 := by decide +kernel
  exact ⟨by omega, by omega⟩
theorem sip_le : (1000000000000000000000000000000000000000000000000000000000000 : Int) * 1000000000 ≤ (1000000000000000000000000000000000000000000000000000000000000 : Int) ^ 4 := by decide +kernel
def sp_law_sip : SpW := fun ws O Q E => ∃ f many B, ws = [.ref f, .int many] ∧ 1 ≤ many ∧ Small many ∧ Fo O f B ∧ B ≤ 100000000000000000000000000000000000000000000000000 ∧ ∀ r O', 0 ≤ r → r < many → Fo O' f (B + 1) → Sm f O O' → Q (.int r) O'
def sem_law_sip : TSw := seqW (ifW (tstW (opW (cmpW .gt) (opW idxW (varW 0) (cstW (.int 0))) (cstW (.int 0))))
  (seqW (asgW (opW (binW .mod true) (opW idxW (varW 0) (cstW (.int 0))) (varW 1)) (.one 2))
  (seqW (subW (opW (binW .fdiv true) (opW idxW (varW 0) (cstW (.int 0))) (varW 1)) (varW 0) (cstW (.int 0)))
  (retW (varW 2))))
  (nextW))
  (seqW (subW (opW (binW .add true) (opW idxW (varW 0) (cstW (.int 2))) (cstW (.int 1))) (varW 0) (cstW (.int 2)))
  (seqW (asgW (opW (binW .mod true) (opW (binW .pow true) (opW (binW .add true) (opW idxW (varW 0) (cstW (.int 1))) (opW (binW .mul true) (cstW (.int 86028157)) (opW idxW (varW 0) (cstW (.int 2))))) (cstW (.int 3))) (opW (binW .add true) (opW (binW .pow true) (cstW (.int 10)) (cstW (.int 44))) (cstW (.int 31)))) (.one 3))
  (seqW (asgW (opW (binW .mod true) (opW (binW .pow true) (opW (binW .add true) (varW 3) (opW (binW .mul true) (cstW (.int 49979693)) (opW idxW (varW 0) (cstW (.int 2))))) (cstW (.int 3))) (opW (binW .add true) (opW (binW .pow true) (cstW (.int 10)) (cstW (.int 42))) (cstW (.int 63)))) (.one 3))
  (retW (opW (binW .mod true) (opW (binW .fdiv true) (varW 3) (cstW (.int 131071))) (varW 1))))))
theorem law_sip_ok : ∀ ws O Q E, sp_law_sip ws O Q E → semFn 2 4 sem_law_sip ws O Q E := by
  rintro ws O Q E ⟨f, many, B, rfl, hm, hs, ⟨a, b, c, hf, ha, ⟨hb, hb2⟩, hc, hcB⟩, hB, q⟩
  refine ⟨rfl, ?_⟩
  try simp only [sem_law_sip, sb_none_bool, sb_none_int, sb_none_str, sb_none_tuple, sb_none_list, sb_none_dict, sb_bool_bool, sb_bool_int, sb_bool_str, sb_bool_tuple, sb_bool_list, sb_bool_dict, sb_int_bool, sb_int_int, sb_int_str, sb_int_tuple, sb_int_list, sb_int_dict, sb_str_bool, sb_str_int, sb_str_str, sb_str_tuple, sb_str_list, sb_str_dict, sb_tuple_bool, sb_tuple_int, sb_tuple_str, sb_tuple_tuple, sb_tuple_list, sb_tuple_dict, sb_list_bool, sb_list_int, sb_list_str, sb_list_tuple, sb_list_list, sb_list_dict, sb_dict_bool, sb_dict_int, sb_dict_str, sb_dict_tuple, sb_dict_list, sb_dict_dict, decide_true, decide_false, Bool.or_false, Bool.false_or, Bool.or_true, Bool.true_or, Bool.and_true, Bool.true_and, Bool.and_false, Bool.false_and, onBl_bl, onS_some, e_seq, e_asg, e_par, e_two, e_expr, e_retN, e_if, e_tst, e_brk, e_cnt, e_next, e_sub, e_ag, e_raise, e_for, e_var, e_cst, e_op, e_chn, asI_int, e_neg, e_not, e_and, e_or, e_ife, onB_some, e_isN, isN_non, isN_int, isN_bl, isN_str, isN_tup, isN_lst, isN_ref, e_sl, e_none, e_some, e_nil, e_cons, e_tup, e_lst, e_call, e_blt, onT_some, e_isi, e_isii, tn_non, tn_bl, tn_int, tn_str, tn_tup, tn_lst, e_mt, ty_str, ty_tup, ty_lst, e_comp, e_seqI, seqX_str, seqX_tup, seqX_lst, e_one1, e_enum, walk_tup, walk_lst, e_zip, zip_tup, zip_lst, e_rng1, e_rng2, e_yes, onL1_some, e_rev, newL_t, newL_f, asQ_lst, asQ_tup, tgt_one, tgt_pack, tgt_tup, b_add, add_int, add_str, add_tup, add_lst, b_sub, b_mul, mul_int, b_mod, b_fdiv, b_pow, c_eq, c_ne, c_lt, c_le, c_gt, c_ge, c_in, c_nin, eq_int, eq_str, eq_bl, eq_non, in_chr, idx_str, idx_tup, idx_lst, idx_scr, slc_str, slc_tup, slc_lst, slc_scr, f_len, len_str, len_tup, len_lst, len_scr, f_max2, f_min2, f_abs, f_stri, f_strs, f_ints, f_all, f_sum, f_max1, f_min1, f_list, f_tuple, f_sorted, f_sortT, f_dictP, e_listG, e_seqG, e_nilG, e_plainG, e_forG, e_yieldG, m_join, m_split, m_strip, m_index, e_ret, asL_lst, e_lset, e_sortR, e_dg, e_dsub, e_dnew, e_dcomp, e_back, e_fld, e_sfld, e_meth, e_make, key_int, key_str, asK_dct, newD_t, newD_f, cutB_t, cutB_f, f_divmod, f_repr, e_isx, e_try, e_seqL, setI_s, setI_n, dropI_s, dropI_n, e_lrg1, e_lrg2, e_trg1, e_trg2, onK_some, onK1_some, getS, startW, wipeW, Mth.T, Mth.sem, augI, if_true, if_false, Bool.false_eq_true, true_and, and_true, Bool.not_true, Bool.not_false, List.map, List.length, List.replicate, List.cons_append, List.nil_append, List.set_cons_zero, List.set_cons_succ, Nat.reduceAdd, Nat.reduceSub, Int.reduceAdd, Int.reduceSub, Int.reduceNeg, Int.reduceMul, Nat.zero_add, idx_ref hf]
  have e0 : L2.atI [Dt.int a, .int b, .int c] 0 = some (.int a) := at_nat (j := 0) rfl rfl
  have e1 : L2.atI [Dt.int a, .int b, .int c] 1 = some (.int b) := at_nat (j := 1) rfl rfl
  have e2 : L2.atI [Dt.int a, .int b, .int c] 2 = some (.int c) := at_nat (j := 2) rfl rfl
  try simp only [sb_none_bool, sb_none_int, sb_none_str, sb_none_tuple, sb_none_list, sb_none_dict, sb_bool_bool, sb_bool_int, sb_bool_str, sb_bool_tuple, sb_bool_list, sb_bool_dict, sb_int_bool, sb_int_int, sb_int_str, sb_int_tuple, sb_int_list, sb_int_dict, sb_str_bool, sb_str_int, sb_str_str, sb_str_tuple, sb_str_list, sb_str_dict, sb_tuple_bool, sb_tuple_int, sb_tuple_str, sb_tuple_tuple, sb_tuple_list, sb_tuple_dict, sb_list_bool, sb_list_int, sb_list_str, sb_list_tuple, sb_list_list, sb_list_dict, sb_dict_bool, sb_dict_int, sb_dict_str, sb_dict_tuple, sb_dict_list, sb_dict_dict, decide_true, decide_false, Bool.or_false, Bool.false_or, Bool.or_true, Bool.true_or, Bool.and_true, Bool.true_and, Bool.and_false, Bool.false_and, onBl_bl, onS_some, e_seq, e_asg, e_par, e_two, e_expr, e_retN, e_if, e_tst, e_brk, e_cnt, e_next, e_sub, e_ag, e_raise, e_for, e_var, e_cst, e_op, e_chn, asI_int, e_neg, e_not, e_and, e_or, e_ife, onB_some, e_isN, isN_non, isN_int, isN_bl, isN_str, isN_tup, isN_lst, isN_ref, e_sl, e_none, e_some, e_nil, e_cons, e_tup, e_lst, e_call, e_blt, onT_some, e_isi, e_isii, tn_non, tn_bl, tn_int, tn_str, tn_tup, tn_lst, e_mt, ty_str, ty_tup, ty_lst, e_comp, e_seqI, seqX_str, seqX_tup, seqX_lst, e_one1, e_enum, walk_tup, walk_lst, e_zip, zip_tup, zip_lst, e_rng1, e_rng2, e_yes, onL1_some, e_rev, newL_t, newL_f, asQ_lst, asQ_tup, tgt_one, tgt_pack, tgt_tup, b_add, add_int, add_str, add_tup, add_lst, b_sub, b_mul, mul_int, b_mod, b_fdiv, b_pow, c_eq, c_ne, c_lt, c_le, c_gt, c_ge, c_in, c_nin, eq_int, eq_str, eq_bl, eq_non, in_chr, idx_str, idx_tup, idx_lst, idx_scr, slc_str, slc_tup, slc_lst, slc_scr, f_len, len_str, len_tup, len_lst, len_scr, f_max2, f_min2, f_abs, f_stri, f_strs, f_ints, f_all, f_sum, f_max1, f_min1, f_list, f_tuple, f_sorted, f_sortT, f_dictP, e_listG, e_seqG, e_nilG, e_plainG, e_forG, e_yieldG, m_join, m_split, m_strip, m_index, e_ret, asL_lst, e_lset, e_sortR, e_dg, e_dsub, e_dnew, e_dcomp, e_back, e_fld, e_sfld, e_meth, e_make, key_int, key_str, asK_dct, newD_t, newD_f, cutB_t, cutB_f, f_divmod, f_repr, e_isx, e_try, e_seqL, setI_s, setI_n, dropI_s, dropI_n, e_lrg1, e_lrg2, e_trg1, e_trg2, onK_some, onK1_some, getS, startW, wipeW, Mth.T, Mth.sem, augI, if_true, if_false, Bool.false_eq_true, true_and, and_true, Bool.not_true, Bool.not_false, List.map, List.length, List.replicate, List.cons_append, List.nil_append, List.set_cons_zero, List.set_cons_succ, Nat.reduceAdd, Nat.reduceSub, Int.reduceAdd, Int.reduceSub, Int.reduceNeg, Int.reduceMul, Nat.zero_add, e0]
  by_cases h : 0 < a
  · rw [decide_eq_true h]
    refine if_t ?_
    try simp only [sb_none_bool, sb_none_int, sb_none_str, sb_none_tuple, sb_none_list, sb_none_dict, sb_bool_bool, sb_bool_int, sb_bool_str, sb_bool_tuple, sb_bool_list, sb_bool_dict, sb_int_bool, sb_int_int, sb_int_str, sb_int_tuple, sb_int_list, sb_int_dict, sb_str_bool, sb_str_int, sb_str_str, sb_str_tuple, sb_str_list, sb_str_dict, sb_tuple_bool, sb_tuple_int, sb_tuple_str, sb_tuple_tuple, sb_tuple_list, sb_tuple_dict, sb_list_bool, sb_list_int, sb_list_str, sb_list_tuple, sb_list_list, sb_list_dict, sb_dict_bool, sb_dict_int, sb_dict_str, sb_dict_tuple, sb_dict_list, sb_dict_dict, decide_true, decide_false, Bool.or_false, Bool.false_or, Bool.or_true, Bool.true_or, Bool.and_true, Bool.true_and, Bool.and_false, Bool.false_and, onBl_bl, onS_some, e_seq, e_asg, e_par, e_two, e_expr, e_retN, e_if, e_tst, e_brk, e_cnt, e_next, e_sub, e_ag, e_raise, e_for, e_var, e_cst, e_op, e_chn, asI_int, e_neg, e_not, e_and, e_or, e_ife, onB_some, e_isN, isN_non, isN_int, isN_bl, isN_str, isN_tup, isN_lst, isN_ref, e_sl, e_none, e_some, e_nil, e_cons, e_tup, e_lst, e_call, e_blt, onT_some, e_isi, e_isii, tn_non, tn_bl, tn_int, tn_str, tn_tup, tn_lst, e_mt, ty_str, ty_tup, ty_lst, e_comp, e_seqI, seqX_str, seqX_tup, seqX_lst, e_one1, e_enum, walk_tup, walk_lst, e_zip, zip_tup, zip_lst, e_rng1, e_rng2, e_yes, onL1_some, e_rev, newL_t, newL_f, asQ_lst, asQ_tup, tgt_one, tgt_pack, tgt_tup, b_add, add_int, add_str, add_tup, add_lst, b_sub, b_mul, mul_int, b_mod, b_fdiv, b_pow, c_eq, c_ne, c_lt, c_le, c_gt, c_ge, c_in, c_nin, eq_int, eq_str, eq_bl, eq_non, in_chr, idx_str, idx_tup, idx_lst, idx_scr, slc_str, slc_tup, slc_lst, slc_scr, f_len, len_str, len_tup, len_lst, len_scr, f_max2, f_min2, f_abs, f_stri, f_strs, f_ints, f_all, f_sum, f_max1, f_min1, f_list, f_tuple, f_sorted, f_sortT, f_dictP, e_listG, e_seqG, e_nilG, e_plainG, e_forG, e_yieldG, m_join, m_split, m_strip, m_index, e_ret, asL_lst, e_lset, e_sortR, e_dg, e_dsub, e_dnew, e_dcomp, e_back, e_fld, e_sfld, e_meth, e_make, key_int, key_str, asK_dct, newD_t, newD_f, cutB_t, cutB_f, f_divmod, f_repr, e_isx, e_try, e_seqL, setI_s, setI_n, dropI_s, dropI_n, e_lrg1, e_lrg2, e_trg1, e_trg2, onK_some, onK1_some, getS, startW, wipeW, Mth.T, Mth.sem, augI, if_true, if_false, Bool.false_eq_true, true_and, and_true, Bool.not_true, Bool.not_false, List.map, List.length, List.replicate, List.cons_append, List.nil_append, List.set_cons_zero, List.set_cons_succ, Nat.reduceAdd, Nat.reduceSub, Int.reduceAdd, Int.reduceSub, Int.reduceNeg, Int.reduceMul, Nat.zero_add, idx_ref hf, e0]
    refine ⟨by omega, ⟨by omega, hs⟩, ?_⟩
    rw [set_ref hf (by omega) (by show (0 : Int) < 3; omega)]
    refine Ang.keep (q _ _ (Int.emod_nonneg _ (by omega)) (Int.emod_lt_of_pos _ (by omega)) ⟨a / many, b, c, upo_same, Int.ediv_nonneg ha (by omega), ⟨hb, hb2⟩, hc, by omega⟩ Sm.upo)
  · rw [decide_eq_false h]
    refine if_f ?_
    try simp only [sb_none_bool, sb_none_int, sb_none_str, sb_none_tuple, sb_none_list, sb_none_dict, sb_bool_bool, sb_bool_int, sb_bool_str, sb_bool_tuple, sb_bool_list, sb_bool_dict, sb_int_bool, sb_int_int, sb_int_str, sb_int_tuple, sb_int_list, sb_int_dict, sb_str_bool, sb_str_int, sb_str_str, sb_str_tuple, sb_str_list, sb_str_dict, sb_tuple_bool, sb_tuple_int, sb_tuple_str, sb_tuple_tuple, sb_tuple_list, sb_tuple_dict, sb_list_bool, sb_list_int, sb_list_str, sb_list_tuple, sb_list_list, sb_list_dict, sb_dict_bool, sb_dict_int, sb_dict_str, sb_dict_tuple, sb_dict_list, sb_dict_dict, decide_true, decide_false, Bool.or_false, Bool.false_or, Bool.or_true, Bool.true_or, Bool.and_true, Bool.true_and, Bool.and_false, Bool.false_and, onBl_bl, onS_some, e_seq, e_asg, e_par, e_two, e_expr, e_retN, e_if, e_tst, e_brk, e_cnt, e_next, e_sub, e_ag, e_raise, e_for, e_var, e_cst, e_op, e_chn, asI_int, e_neg, e_not, e_and, e_or, e_ife, onB_some, e_isN, isN_non, isN_int, isN_bl, isN_str, isN_tup, isN_lst, isN_ref, e_sl, e_none, e_some, e_nil, e_cons, e_tup, e_lst, e_call, e_blt, onT_some, e_isi, e_isii, tn_non, tn_bl, tn_int, tn_str, tn_tup, tn_lst, e_mt, ty_str, ty_tup, ty_lst, e_comp, e_seqI, seqX_str, seqX_tup, seqX_lst, e_one1, e_enum, walk_tup, walk_lst, e_zip, zip_tup, zip_lst, e_rng1, e_rng2, e_yes, onL1_some, e_rev, newL_t, newL_f, asQ_lst, asQ_tup, tgt_one, tgt_pack, tgt_tup, b_add, add_int, add_str, add_tup, add_lst, b_sub, b_mul, mul_int, b_mod, b_fdiv, b_pow, c_eq, c_ne, c_lt, c_le, c_gt, c_ge, c_in, c_nin, eq_int, eq_str, eq_bl, eq_non, in_chr, idx_str, idx_tup, idx_lst, idx_scr, slc_str, slc_tup, slc_lst, slc_scr, f_len, len_str, len_tup, len_lst, len_scr, f_max2, f_min2, f_abs, f_stri, f_strs, f_ints, f_all, f_sum, f_max1, f_min1, f_list, f_tuple, f_sorted, f_sortT, f_dictP, e_listG, e_seqG, e_nilG, e_plainG, e_forG, e_yieldG, m_join, m_split, m_strip, m_index, e_ret, asL_lst, e_lset, e_sortR, e_dg, e_dsub, e_dnew, e_dcomp, e_back, e_fld, e_sfld, e_meth, e_make, key_int, key_str, asK_dct, newD_t, newD_f, cutB_t, cutB_f, f_divmod, f_repr, e_isx, e_try, e_seqL, setI_s, setI_n, dropI_s, dropI_n, e_lrg1, e_lrg2, e_trg1, e_trg2, onK_some, onK1_some, getS, startW, wipeW, Mth.T, Mth.sem, augI, if_true, if_false, Bool.false_eq_true, true_and, and_true, Bool.not_true, Bool.not_false, List.map, List.length, List.replicate, List.cons_append, List.nil_append, List.set_cons_zero, List.set_cons_succ, Nat.reduceAdd, Nat.reduceSub, Int.reduceAdd, Int.reduceSub, Int.reduceNeg, Int.reduceMul, Nat.zero_add, idx_ref hf, e2]
    rw [set_ref hf (by omega) (by show (2 : Int) < 3; omega)]
    have hf2 : upo O f (.lst ([Dt.int a, .int b, .int c].set (2 : Int).toNat (.int (c + 1)))) f = some (OO.lst [.int a, .int b, .int (c + 1)]) := upo_same
    have e3 : L2.atI [Dt.int a, .int b, .int (c + 1)] 1 = some (.int b) := at_nat (j := 1) rfl rfl
    have e4 : L2.atI [Dt.int a, .int b, .int (c + 1)] 2 = some (.int (c + 1)) := at_nat (j := 2) rfl rfl
    have s1 : Small (b + 86028157 * (c + 1)) := small_big (by omega) (by have e := sip_le; omega)
    have m0 : (0 : Int) < 10 ^ (44 : Int).toNat + 31 := by decide +kernel
    have m1 : (0 : Int) < 10 ^ (42 : Int).toNat + 63 := by decide +kernel
    have k2 : (10 ^ (44 : Int).toNat + 31 : Int) ≤ 1000000000000000000000000000000000000000000000000000000000000 := by decide +kernel
    try simp only [sb_none_bool, sb_none_int, sb_none_str, sb_none_tuple, sb_none_list, sb_none_dict, sb_bool_bool, sb_bool_int, sb_bool_str, sb_bool_tuple, sb_bool_list, sb_bool_dict, sb_int_bool, sb_int_int, sb_int_str, sb_int_tuple, sb_int_list, sb_int_dict, sb_str_bool, sb_str_int, sb_str_str, sb_str_tuple, sb_str_list, sb_str_dict, sb_tuple_bool, sb_tuple_int, sb_tuple_str, sb_tuple_tuple, sb_tuple_list, sb_tuple_dict, sb_list_bool, sb_list_int, sb_list_str, sb_list_tuple, sb_list_list, sb_list_dict, sb_dict_bool, sb_dict_int, sb_dict_str, sb_dict_tuple, sb_dict_list, sb_dict_dict, decide_true, decide_false, Bool.or_false, Bool.false_or, Bool.or_true, Bool.true_or, Bool.and_true, Bool.true_and, Bool.and_false, Bool.false_and, onBl_bl, onS_some, e_seq, e_asg, e_par, e_two, e_expr, e_retN, e_if, e_tst, e_brk, e_cnt, e_next, e_sub, e_ag, e_raise, e_for, e_var, e_cst, e_op, e_chn, asI_int, e_neg, e_not, e_and, e_or, e_ife, onB_some, e_isN, isN_non, isN_int, isN_bl, isN_str, isN_tup, isN_lst, isN_ref, e_sl, e_none, e_some, e_nil, e_cons, e_tup, e_lst, e_call, e_blt, onT_some, e_isi, e_isii, tn_non, tn_bl, tn_int, tn_str, tn_tup, tn_lst, e_mt, ty_str, ty_tup, ty_lst, e_comp, e_seqI, seqX_str, seqX_tup, seqX_lst, e_one1, e_enum, walk_tup, walk_lst, e_zip, zip_tup, zip_lst, e_rng1, e_rng2, e_yes, onL1_some, e_rev, newL_t, newL_f, asQ_lst, asQ_tup, tgt_one, tgt_pack, tgt_tup, b_add, add_int, add_str, add_tup, add_lst, b_sub, b_mul, mul_int, b_mod, b_fdiv, b_pow, c_eq, c_ne, c_lt, c_le, c_gt, c_ge, c_in, c_nin, eq_int, eq_str, eq_bl, eq_non, in_chr, idx_str, idx_tup, idx_lst, idx_scr, slc_str, slc_tup, slc_lst, slc_scr, f_len, len_str, len_tup, len_lst, len_scr, f_max2, f_min2, f_abs, f_stri, f_strs, f_ints, f_all, f_sum, f_max1, f_min1, f_list, f_tuple, f_sorted, f_sortT, f_dictP, e_listG, e_seqG, e_nilG, e_plainG, e_forG, e_yieldG, m_join, m_split, m_strip, m_index, e_ret, asL_lst, e_lset, e_sortR, e_dg, e_dsub, e_dnew, e_dcomp, e_back, e_fld, e_sfld, e_meth, e_make, key_int, key_str, asK_dct, newD_t, newD_f, cutB_t, cutB_f, f_divmod, f_repr, e_isx, e_try, e_seqL, setI_s, setI_n, dropI_s, dropI_n, e_lrg1, e_lrg2, e_trg1, e_trg2, onK_some, onK1_some, getS, startW, wipeW, Mth.T, Mth.sem, augI, if_true, if_false, Bool.false_eq_true, true_and, and_true, Bool.not_true, Bool.not_false, List.map, List.length, List.replicate, List.cons_append, List.nil_append, List.set_cons_zero, List.set_cons_succ, Nat.reduceAdd, Nat.reduceSub, Int.reduceAdd, Int.reduceSub, Int.reduceNeg, Int.reduceMul, Nat.zero_add, idx_ref hf2, e3, e4]
    have k0 := Int.emod_nonneg ((b + 86028157 * (c + 1)) ^ Int.toNat 3) (show (10 ^ (44 : Int).toNat + 31 : Int) ≠ 0 by omega)
    have k1 := Int.emod_lt_of_pos ((b + 86028157 * (c + 1)) ^ Int.toNat 3) m0
    generalize (b + 86028157 * (c + 1)) ^ Int.toNat 3 % (10 ^ Int.toNat 44 + 31) = x at k0 k1 ⊢
    have s2 : Small (x + 49979693 * (c + 1)) := small_big (by omega) (by have e := sip_le; omega)
    have s3 : Small (c + 1) := small_of (by omega) (by omega)
    refine ⟨⟨small_of (by omega) (by omega), s3⟩, ⟨⟨by omega, by omega⟩, s1⟩, ⟨⟨by omega, by omega⟩, small_of (by omega) (by omega)⟩, m0, ⟨small_of (by omega) (by omega), s3⟩, ⟨⟨by omega, by omega⟩, s2⟩, ⟨⟨by omega, by omega⟩, small_of (by omega) (by omega)⟩, m1, ⟨by omega, small_of (by omega) (by omega)⟩, by omega, ?_⟩
    exact Ang.keep (q _ _ (Int.emod_nonneg _ (by omega)) (Int.emod_lt_of_pos _ (by omega)) ⟨a, b, c + 1, hf2, ha, ⟨hb, hb2⟩, by omega, by omega⟩ Sm.upo)
def sp_law_fount : SpW := fun ws O Q E => ∃ (ns : List Int) (k : Int), ws = [.scr (ns.map Dt.int), .int k] ∧ 0 ≤ k ∧ k ≤ 1000 ∧ ∀ p O', O p = none → Fo O' p 0 → Sm p O O' → Q (.ref p) O'
def sem_law_fount : TSw := seqW (asgW (cstW (.int 0)) (.one 2))
  (seqW (ifW (tstW (opW (cmpW .lt) (varW 1) (bltW (Blt.sem .len) (consA (varW 0) (nilA)))))
  (asgW (opW idxW (varW 0) (varW 1)) (.one 2))
  (nextW))
  (retW (lstW false (consA (bltW (Blt.sem .max2) (consA (cstW (.int 0)) (consA (opW (binW .sub true) (varW 2) (opW (binW .pow true) (cstW (.int 10)) (cstW (.int 18)))) (nilA)))) (consA (opW (binW .add true) (opW (binW .mul true) (opW (binW .mod true) (varW 2) (opW (binW .add true) (opW (binW .pow true) (cstW (.int 10)) (cstW (.int 39))) (cstW (.int 3)))) (cstW (.int 512))) (varW 1)) (consA (cstW (.int 0)) (nilA)))))))
theorem map_get {ns : List Int} {k : Int} (h0 : 0 ≤ k) (h : k < ns.length) : ∃ n, L2.atI (ns.map Dt.int) k = some (.int n) := by
  have hk : k.toNat < ns.length := by omega
  refine ⟨ns[k.toNat], at_int h0 ?_⟩
  rw [List.getElem?_map, List.getElem?_eq_getElem hk]
  rfl
theorem law_fount_ok : ∀ ws O Q E, sp_law_fount ws O Q E → semFn 2 3 sem_law_fount ws O Q E := by
  rintro ws O Q E ⟨ns, k, rfl, h0, h1, q⟩
  refine ⟨rfl, ?_⟩
  try simp only [sem_law_fount, sb_none_bool, sb_none_int, sb_none_str, sb_none_tuple, sb_none_list, sb_none_dict, sb_bool_bool, sb_bool_int, sb_bool_str, sb_bool_tuple, sb_bool_list, sb_bool_dict, sb_int_bool, sb_int_int, sb_int_str, sb_int_tuple, sb_int_list, sb_int_dict, sb_str_bool, sb_str_int, sb_str_str, sb_str_tuple, sb_str_list, sb_str_dict, sb_tuple_bool, sb_tuple_int, sb_tuple_str, sb_tuple_tuple, sb_tuple_list, sb_tuple_dict, sb_list_bool, sb_list_int, sb_list_str, sb_list_tuple, sb_list_list, sb_list_dict, sb_dict_bool, sb_dict_int, sb_dict_str, sb_dict_tuple, sb_dict_list, sb_dict_dict, decide_true, decide_false, Bool.or_false, Bool.false_or, Bool.or_true, Bool.true_or, Bool.and_true, Bool.true_and, Bool.and_false, Bool.false_and, onBl_bl, onS_some, e_seq, e_asg, e_par, e_two, e_expr, e_retN, e_if, e_tst, e_brk, e_cnt, e_next, e_sub, e_ag, e_raise, e_for, e_var, e_cst, e_op, e_chn, asI_int, e_neg, e_not, e_and, e_or, e_ife, onB_some, e_isN, isN_non, isN_int, isN_bl, isN_str, isN_tup, isN_lst, isN_ref, e_sl, e_none, e_some, e_nil, e_cons, e_tup, e_lst, e_call, e_blt, onT_some, e_isi, e_isii, tn_non, tn_bl, tn_int, tn_str, tn_tup, tn_lst, e_mt, ty_str, ty_tup, ty_lst, e_comp, e_seqI, seqX_str, seqX_tup, seqX_lst, e_one1, e_enum, walk_tup, walk_lst, e_zip, zip_tup, zip_lst, e_rng1, e_rng2, e_yes, onL1_some, e_rev, newL_t, newL_f, asQ_lst, asQ_tup, tgt_one, tgt_pack, tgt_tup, b_add, add_int, add_str, add_tup, add_lst, b_sub, b_mul, mul_int, b_mod, b_fdiv, b_pow, c_eq, c_ne, c_lt, c_le, c_gt, c_ge, c_in, c_nin, eq_int, eq_str, eq_bl, eq_non, in_chr, idx_str, idx_tup, idx_lst, idx_scr, slc_str, slc_tup, slc_lst, slc_scr, f_len, len_str, len_tup, len_lst, len_scr, f_max2, f_min2, f_abs, f_stri, f_strs, f_ints, f_all, f_sum, f_max1, f_min1, f_list, f_tuple, f_sorted, f_sortT, f_dictP, e_listG, e_seqG, e_nilG, e_plainG, e_forG, e_yieldG, m_join, m_split, m_strip, m_index, e_ret, asL_lst, e_lset, e_sortR, e_dg, e_dsub, e_dnew, e_dcomp, e_back, e_fld, e_sfld, e_meth, e_make, key_int, key_str, asK_dct, newD_t, newD_f, cutB_t, cutB_f, f_divmod, f_repr, e_isx, e_try, e_seqL, setI_s, setI_n, dropI_s, dropI_n, e_lrg1, e_lrg2, e_trg1, e_trg2, onK_some, onK1_some, getS, startW, wipeW, Mth.T, Mth.sem, augI, if_true, if_false, Bool.false_eq_true, true_and, and_true, Bool.not_true, Bool.not_false, List.map, List.length, List.replicate, List.cons_append, List.nil_append, List.set_cons_zero, List.set_cons_succ, Nat.reduceAdd, Nat.reduceSub, Int.reduceAdd, Int.reduceSub, Int.reduceNeg, Int.reduceMul, Nat.zero_add]
  have fin : ∀ n : Int, ((0 ≤ (18 : Int) ∧ (18 : Int) ≤ 100) ∧ Small 10) ∧ ((0 ≤ (39 : Int) ∧ (39 : Int) ≤ 100) ∧ Small 10) ∧ 0 < (10 : Int) ^ Int.toNat 39 + 3 ∧ (Small (n % (10 ^ Int.toNat 39 + 3)) ∧ Small 512) ∧ 3 ≤ LIM ∧
      ∀ (p : Addr), O p = none → Ang (Dt.ref p) (upo O p (OO.lst [Dt.int (if n - 10 ^ Int.toNat 18 > 0 then n - 10 ^ Int.toNat 18 else 0), Dt.int (n % (10 ^ Int.toNat 39 + 3) * 512 + k), Dt.int 0])) Q := fun cell => by
    have m0 : (0 : Int) < 10 ^ (39 : Int).toNat + 3 := by decide +kernel
    have k2 : (10 ^ (39 : Int).toNat + 3 : Int) * 1000000 ≤ 1000000000000000000000000000000000000000000000000000000000000 := by decide +kernel
    have k0 := Int.emod_nonneg cell (show (10 ^ (39 : Int).toNat + 3 : Int) ≠ 0 by omega)
    have k1 := Int.emod_lt_of_pos cell m0
    generalize cell % (10 ^ (39 : Int).toNat + 3) = x at k0 k1 ⊢
    refine ⟨⟨⟨by omega, by omega⟩, small_of (by omega) (by omega)⟩, ⟨⟨by omega, by omega⟩, small_of (by omega) (by omega)⟩, m0, ⟨small_of (by omega) (by omega), small_of (by omega) (by omega)⟩, by decide, fun p hp => ?_⟩
    refine Ang.keep (q p _ hp ⟨_, _, 0, upo_same, ?_, ⟨by omega, by omega⟩, by omega, by omega⟩ Sm.upo)
    split <;> omega
  by_cases h : k < ns.length
  · rw [List.length_map, decide_eq_true h]
    refine if_t ?_
    obtain ⟨n, hn⟩ := map_get h0 h
    try simp only [sb_none_bool, sb_none_int, sb_none_str, sb_none_tuple, sb_none_list, sb_none_dict, sb_bool_bool, sb_bool_int, sb_bool_str, sb_bool_tuple, sb_bool_list, sb_bool_dict, sb_int_bool, sb_int_int, sb_int_str, sb_int_tuple, sb_int_list, sb_int_dict, sb_str_bool, sb_str_int, sb_str_str, sb_str_tuple, sb_str_list, sb_str_dict, sb_tuple_bool, sb_tuple_int, sb_tuple_str, sb_tuple_tuple, sb_tuple_list, sb_tuple_dict, sb_list_bool, sb_list_int, sb_list_str, sb_list_tuple, sb_list_list, sb_list_dict, sb_dict_bool, sb_dict_int, sb_dict_str, sb_dict_tuple, sb_dict_list, sb_dict_dict, decide_true, decide_false, Bool.or_false, Bool.false_or, Bool.or_true, Bool.true_or, Bool.and_true, Bool.true_and, Bool.and_false, Bool.false_and, onBl_bl, onS_some, e_seq, e_asg, e_par, e_two, e_expr, e_retN, e_if, e_tst, e_brk, e_cnt, e_next, e_sub, e_ag, e_raise, e_for, e_var, e_cst, e_op, e_chn, asI_int, e_neg, e_not, e_and, e_or, e_ife, onB_some, e_isN, isN_non, isN_int, isN_bl, isN_str, isN_tup, isN_lst, isN_ref, e_sl, e_none, e_some, e_nil, e_cons, e_tup, e_lst, e_call, e_blt, onT_some, e_isi, e_isii, tn_non, tn_bl, tn_int, tn_str, tn_tup, tn_lst, e_mt, ty_str, ty_tup, ty_lst, e_comp, e_seqI, seqX_str, seqX_tup, seqX_lst, e_one1, e_enum, walk_tup, walk_lst, e_zip, zip_tup, zip_lst, e_rng1, e_rng2, e_yes, onL1_some, e_rev, newL_t, newL_f, asQ_lst, asQ_tup, tgt_one, tgt_pack, tgt_tup, b_add, add_int, add_str, add_tup, add_lst, b_sub, b_mul, mul_int, b_mod, b_fdiv, b_pow, c_eq, c_ne, c_lt, c_le, c_gt, c_ge, c_in, c_nin, eq_int, eq_str, eq_bl, eq_non, in_chr, idx_str, idx_tup, idx_lst, idx_scr, slc_str, slc_tup, slc_lst, slc_scr, f_len, len_str, len_tup, len_lst, len_scr, f_max2, f_min2, f_abs, f_stri, f_strs, f_ints, f_all, f_sum, f_max1, f_min1, f_list, f_tuple, f_sorted, f_sortT, f_dictP, e_listG, e_seqG, e_nilG, e_plainG, e_forG, e_yieldG, m_join, m_split, m_strip, m_index, e_ret, asL_lst, e_lset, e_sortR, e_dg, e_dsub, e_dnew, e_dcomp, e_back, e_fld, e_sfld, e_meth, e_make, key_int, key_str, asK_dct, newD_t, newD_f, cutB_t, cutB_f, f_divmod, f_repr, e_isx, e_try, e_seqL, setI_s, setI_n, dropI_s, dropI_n, e_lrg1, e_lrg2, e_trg1, e_trg2, onK_some, onK1_some, getS, startW, wipeW, Mth.T, Mth.sem, augI, if_true, if_false, Bool.false_eq_true, true_and, and_true, Bool.not_true, Bool.not_false, List.map, List.length, List.replicate, List.cons_append, List.nil_append, List.set_cons_zero, List.set_cons_succ, Nat.reduceAdd, Nat.reduceSub, Int.reduceAdd, Int.reduceSub, Int.reduceNeg, Int.reduceMul, Nat.zero_add, newL_f, hn]
    exact fin n
  · rw [List.length_map, decide_eq_false h]
    refine if_f ?_
    exact fin 0
end TF

/-! P4: the laws' drawn queues, second part -/
namespace TF
open PySem L2 TL

theorem getElem_cons_erase {α : Type} : ∀ {l : List α} {i : Nat} (h : i < l.length), (l[i] :: l.eraseIdx i).Perm l
  | a :: l, 0, h => by simp
  | a :: l, i + 1, h => by
    have h' : i < l.length := by simpa using h
    have ih := getElem_cons_erase h'
    show (l[i] :: a :: l.eraseIdx i).Perm (a :: l)
    exact (List.Perm.swap a l[i] _).trans (ih.cons a)
def sp_law_mixed : SpW := fun ws O Q E => ∃ f B l x, ws = [.ref f, x] ∧ (∀ a, x = .ref a → False) ∧ asQ O x = some l ∧ l.length ≤ 1000 ∧ Fo O f B ∧ B ≤ 10000 ∧ ∀ l' O', l'.Perm l → Fo O' f (B + l.length) → Sm f O O' → Q (.lst l') O'
def sem_law_mixed : TSw := seqW (asgW (bltW (Blt.sem (.list false)) (consA (varW 1) (nilA))) (.one 2))
  (retW (compW true (rng1I (consA (bltW (Blt.sem .len) (consA (varW 2) (nilA))) (nilA))) (.one 3) (yesT) (mtW (Mth.T .pop) (Mth.sem .pop) (varW 2) (consA (callW sp_law_sip (consA (varW 0) (consA (bltW (Blt.sem .len) (consA (varW 2) (nilA))) (nilA)))) (nilA))) [3]))
theorem upo_of {O : OW} {a b : Addr} {o u : OO} (hb : O b = none) (h : O a = some u) : upo O b o a = O a := upo_ne fun e => by rw [e, hb] at h; cases h
theorem law_mixed_ok : ∀ ws O Q E, sp_law_mixed ws O Q E → semFn 2 4 sem_law_mixed ws O Q E := by
  rintro ws O Q E ⟨f, B, l, x, rfl, nr, hx, hl, F, hB, q⟩
  refine ⟨rfl, ?_⟩
  try simp only [sem_law_mixed, sb_none_bool, sb_none_int, sb_none_str, sb_none_tuple, sb_none_list, sb_none_dict, sb_bool_bool, sb_bool_int, sb_bool_str, sb_bool_tuple, sb_bool_list, sb_bool_dict, sb_int_bool, sb_int_int, sb_int_str, sb_int_tuple, sb_int_list, sb_int_dict, sb_str_bool, sb_str_int, sb_str_str, sb_str_tuple, sb_str_list, sb_str_dict, sb_tuple_bool, sb_tuple_int, sb_tuple_str, sb_tuple_tuple, sb_tuple_list, sb_tuple_dict, sb_list_bool, sb_list_int, sb_list_str, sb_list_tuple, sb_list_list, sb_list_dict, sb_dict_bool, sb_dict_int, sb_dict_str, sb_dict_tuple, sb_dict_list, sb_dict_dict, decide_true, decide_false, Bool.or_false, Bool.false_or, Bool.or_true, Bool.true_or, Bool.and_true, Bool.true_and, Bool.and_false, Bool.false_and, onBl_bl, onS_some, e_seq, e_asg, e_par, e_two, e_expr, e_retN, e_if, e_tst, e_brk, e_cnt, e_next, e_sub, e_ag, e_raise, e_for, e_var, e_cst, e_op, e_chn, asI_int, e_neg, e_not, e_and, e_or, e_ife, onB_some, e_isN, isN_non, isN_int, isN_bl, isN_str, isN_tup, isN_lst, isN_ref, e_sl, e_none, e_some, e_nil, e_cons, e_tup, e_lst, e_call, e_blt, onT_some, e_isi, e_isii, tn_non, tn_bl, tn_int, tn_str, tn_tup, tn_lst, e_mt, ty_str, ty_tup, ty_lst, e_comp, e_seqI, seqX_str, seqX_tup, seqX_lst, e_one1, e_enum, walk_tup, walk_lst, e_zip, zip_tup, zip_lst, e_rng1, e_rng2, e_yes, onL1_some, e_rev, newL_t, newL_f, asQ_lst, asQ_tup, tgt_one, tgt_pack, tgt_tup, b_add, add_int, add_str, add_tup, add_lst, b_sub, b_mul, mul_int, b_mod, b_fdiv, b_pow, c_eq, c_ne, c_lt, c_le, c_gt, c_ge, c_in, c_nin, eq_int, eq_str, eq_bl, eq_non, in_chr, idx_str, idx_tup, idx_lst, idx_scr, slc_str, slc_tup, slc_lst, slc_scr, f_len, len_str, len_tup, len_lst, len_scr, f_max2, f_min2, f_abs, f_stri, f_strs, f_ints, f_all, f_sum, f_max1, f_min1, f_list, f_tuple, f_sorted, f_sortT, f_dictP, e_listG, e_seqG, e_nilG, e_plainG, e_forG, e_yieldG, m_join, m_split, m_strip, m_index, e_ret, asL_lst, e_lset, e_sortR, e_dg, e_dsub, e_dnew, e_dcomp, e_back, e_fld, e_sfld, e_meth, e_make, key_int, key_str, asK_dct, newD_t, newD_f, cutB_t, cutB_f, f_divmod, f_repr, e_isx, e_try, e_seqL, setI_s, setI_n, dropI_s, dropI_n, e_lrg1, e_lrg2, e_trg1, e_trg2, onK_some, onK1_some, getS, startW, wipeW, Mth.T, Mth.sem, augI, if_true, if_false, Bool.false_eq_true, true_and, and_true, Bool.not_true, Bool.not_false, List.map, List.length, List.replicate, List.cons_append, List.nil_append, List.set_cons_zero, List.set_cons_succ, Nat.reduceAdd, Nat.reduceSub, Int.reduceAdd, Int.reduceSub, Int.reduceNeg, Int.reduceMul, Nat.zero_add, hx, newL_f]
  intro p hp
  have pf : p ≠ f := fun e => by obtain ⟨a, b, c, h, _⟩ := F; rw [← e, hp] at h; cases h
  simp only [len_ref (upo_same (O := O) (a := p) (o := .lst l))]
  refine ⟨⟨by omega, by omega⟩, ?_⟩
  refine comp_inv (fun i acc O' => ∃ r, O' p = some (.lst r) ∧ (acc ++ r).Perm l ∧ r.length + i = l.length ∧ acc.length = i ∧ Fo O' f (B + i) ∧ ∀ a, a ≠ f → a ≠ p → O' a = O a) _ 0 [] _ ?_ (fun _ _ _ _ => trivial) ?_ ?_ ?_
  · refine ⟨l, upo_same, by simp, by omega, rfl, ?_, fun a h1 h2 => upo_ne h2⟩
    have : B + ((0 : Nat) : Int) = B := by omega
    rw [this]
    exact F.at_ (upo_ne (Ne.symm pf))
  · rintro j acc O' ⟨r, _, _, h3, h4, _⟩ hj
    show acc.length < 16777216
    omega
  · rintro j y acc O' hy ⟨r, h1, h2, h3, h4, h5, h6⟩ Q' hQ
    rw [Nat.zero_add] at *
    obtain ⟨hj, rfl⟩ := rngY_get hy
    have hj : j < l.length := by omega
    try simp only [sb_none_bool, sb_none_int, sb_none_str, sb_none_tuple, sb_none_list, sb_none_dict, sb_bool_bool, sb_bool_int, sb_bool_str, sb_bool_tuple, sb_bool_list, sb_bool_dict, sb_int_bool, sb_int_int, sb_int_str, sb_int_tuple, sb_int_list, sb_int_dict, sb_str_bool, sb_str_int, sb_str_str, sb_str_tuple, sb_str_list, sb_str_dict, sb_tuple_bool, sb_tuple_int, sb_tuple_str, sb_tuple_tuple, sb_tuple_list, sb_tuple_dict, sb_list_bool, sb_list_int, sb_list_str, sb_list_tuple, sb_list_list, sb_list_dict, sb_dict_bool, sb_dict_int, sb_dict_str, sb_dict_tuple, sb_dict_list, sb_dict_dict, decide_true, decide_false, Bool.or_false, Bool.false_or, Bool.or_true, Bool.true_or, Bool.and_true, Bool.true_and, Bool.and_false, Bool.false_and, onBl_bl, onS_some, e_seq, e_asg, e_par, e_two, e_expr, e_retN, e_if, e_tst, e_brk, e_cnt, e_next, e_sub, e_ag, e_raise, e_for, e_var, e_cst, e_op, e_chn, asI_int, e_neg, e_not, e_and, e_or, e_ife, onB_some, e_isN, isN_non, isN_int, isN_bl, isN_str, isN_tup, isN_lst, isN_ref, e_sl, e_none, e_some, e_nil, e_cons, e_tup, e_lst, e_call, e_blt, onT_some, e_isi, e_isii, tn_non, tn_bl, tn_int, tn_str, tn_tup, tn_lst, e_mt, ty_str, ty_tup, ty_lst, e_comp, e_seqI, seqX_str, seqX_tup, seqX_lst, e_one1, e_enum, walk_tup, walk_lst, e_zip, zip_tup, zip_lst, e_rng1, e_rng2, e_yes, onL1_some, e_rev, newL_t, newL_f, asQ_lst, asQ_tup, tgt_one, tgt_pack, tgt_tup, b_add, add_int, add_str, add_tup, add_lst, b_sub, b_mul, mul_int, b_mod, b_fdiv, b_pow, c_eq, c_ne, c_lt, c_le, c_gt, c_ge, c_in, c_nin, eq_int, eq_str, eq_bl, eq_non, in_chr, idx_str, idx_tup, idx_lst, idx_scr, slc_str, slc_tup, slc_lst, slc_scr, f_len, len_str, len_tup, len_lst, len_scr, f_max2, f_min2, f_abs, f_stri, f_strs, f_ints, f_all, f_sum, f_max1, f_min1, f_list, f_tuple, f_sorted, f_sortT, f_dictP, e_listG, e_seqG, e_nilG, e_plainG, e_forG, e_yieldG, m_join, m_split, m_strip, m_index, e_ret, asL_lst, e_lset, e_sortR, e_dg, e_dsub, e_dnew, e_dcomp, e_back, e_fld, e_sfld, e_meth, e_make, key_int, key_str, asK_dct, newD_t, newD_f, cutB_t, cutB_f, f_divmod, f_repr, e_isx, e_try, e_seqL, setI_s, setI_n, dropI_s, dropI_n, e_lrg1, e_lrg2, e_trg1, e_trg2, onK_some, onK1_some, getS, startW, wipeW, Mth.T, Mth.sem, augI, if_true, if_false, Bool.false_eq_true, true_and, and_true, Bool.not_true, Bool.not_false, List.map, List.length, List.replicate, List.cons_append, List.nil_append, List.set_cons_zero, List.set_cons_succ, Nat.reduceAdd, Nat.reduceSub, Int.reduceAdd, Int.reduceSub, Int.reduceNeg, Int.reduceMul, Nat.zero_add, len_ref h1, ty_ref h1]
    refine ⟨f, r.length, B + j, rfl, by omega, small_of (by omega) (by omega), h5, by omega, fun k O2 k0 k1 F2 s2 => ?_⟩
    have h1' : O2 p = some (.lst r) := (s2 p pf).trans h1
    show popM (.ref p) [.int k] O2 Q'
    rw [m_pop h1']
    have hk : k.toNat < r.length := by omega
    refine ⟨⟨k0, k1⟩, ?_⟩
    rw [List.getElem?_eq_getElem hk, onS_some]
    refine hQ _ _ ⟨r.eraseIdx k.toNat, upo_same, ?_, ?_, by simp [h4], ?_, fun a ha1 ha2 => by rw [upo_ne ha2, s2 a ha1, h6 a ha1 ha2]⟩
    · refine List.Perm.trans ?_ h2
      rw [List.append_assoc]
      refine List.Perm.append_left acc ?_
      exact getElem_cons_erase hk
    · rw [List.length_eraseIdx_of_lt hk]
      omega
    · have e : B + (j : Int) + 1 = B + ((j + 1 : Nat) : Int) := by omega
      rw [← e]
      exact F2.at_ (upo_ne (Ne.symm pf))
  · rintro acc O' ⟨r, h1, h2, h3, h4, h5, h6⟩
    rw [Nat.zero_add, rngY_len] at *
    have hr : r = [] := List.length_eq_zero_iff.mp (by omega)
    subst hr
    rw [List.append_nil] at h2
    -- left is let go
    refine Ang.drop (rmo_le (p := p)) (q acc _ h2 ?_ fun a ha => ?_)
    · have e : B + ((Int.toNat (l.length : Int) : Nat) : Int) = B + (l.length : Int) := by omega
      rw [← e]
      exact h5.at_ (rmo_ne (Ne.symm pf))
    · by_cases hap : a = p
      · rw [hap, rmo_same, hp]
      · rw [rmo_ne hap]
        exact h6 a ha hap

/-! ### persons -/
/-- ascending persons -/
structure Asc (ns : List Int) : Prop where
  l1 : 1 ≤ ns.length
  l40 : ns.length ≤ 40
  up : ns.Pairwise (· < ·)
  hs : ∀ i ∈ ns, IsH i
def sp_law_people : SpW := fun ws O Q E => ∃ f most B, ws = [.ref f, .int most] ∧ 1 ≤ most ∧ most ≤ 40 ∧ Fo O f B ∧ B ≤ 10000 ∧ ∀ ns O', Asc ns → (ns.length : Int) ≤ most → Fo O' f (B + 200) → Sm f O O' → Q (.lst (ns.map Dt.int)) O'
def sem_law_people : TSw := seqW (asgW (opW idxW (lstW true (consA (opW (binW .add true) (cstW (.int 1)) (callW sp_law_sip (consA (varW 0) (consA (varW 1) (nilA))))) (consA (varW 1) (consA (opW (binW .add true) (cstW (.int 1)) (callW sp_law_sip (consA (varW 0) (consA (bltW (Blt.sem .min2) (consA (varW 1) (consA (cstW (.int 5)) (nilA)))) (nilA))))) (nilA))))) (callW sp_law_sip (consA (varW 0) (consA (cstW (.int 3)) (nilA))))) (.one 2))
  (seqW (parW 3 4 (consA (callW sp_law_sip (consA (varW 0) (consA (cstW (.int 5)) (nilA)))) (consA (lstW false (nilA)) (nilA))))
  (seqW (asgW (opW idxW (lstW true (consA (cstW (.int 0)) (consA (opW (binW .sub true) (callW sp_law_sip (consA (varW 0) (consA (cstW (.int 50)) (nilA)))) (cstW (.int 25))) (consA (opW (binW .sub true) (opW (binW .sub true) (cstW (.int 0)) (opW (binW .pow true) (cstW (.int 10)) (cstW (.int 30)))) (cstW (.int 1))) (consA (opW (binW .sub true) (opW (binW .pow true) (cstW (.int 10)) (cstW (.int 30))) (cstW (.int 400))) (consA (opW (binW .sub true) (cstW (.int 0)) (callW sp_law_sip (consA (varW 0) (consA (opW (binW .pow true) (cstW (.int 10)) (cstW (.int 20))) (nilA))))) (nilA))))))) (varW 3)) (.one 5))
  (seqW (forW (rng1I (consA (varW 2) (nilA))) (.one 6)
  (seqW (asgW (opW idxW (lstW true (consA (opW (binW .pow true) (cstW (.int 10)) (cstW (.int 3))) (consA (opW (binW .pow true) (cstW (.int 10)) (cstW (.int 7))) (consA (opW (binW .pow true) (cstW (.int 10)) (cstW (.int 13))) (consA (opW (binW .pow true) (cstW (.int 10)) (cstW (.int 20))) (consA (opW (binW .pow true) (cstW (.int 10)) (cstW (.int 27))) (nilA))))))) (callW sp_law_sip (consA (varW 0) (consA (cstW (.int 5)) (nilA))))) (.one 7))
  (seqW (asgW (opW (binW .add true) (opW (binW .add true) (varW 5) (cstW (.int 1))) (callW sp_law_sip (consA (varW 0) (consA (opW idxW (lstW true (consA (cstW (.int 1)) (consA (cstW (.int 7)) (consA (opW (binW .mul true) (cstW (.int 5)) (opW (binW .pow true) (cstW (.int 10)) (cstW (.int 28)))) (consA (cstW (.int 9)) (consA (varW 7) (nilA))))))) (varW 3)) (nilA))))) (.one 5))
  (exprW (mtW (Mth.T .append) (Mth.sem .append) (varW 4) (consA (varW 5) (nilA))))))
  (nextW))
  (retW (varW 4)))))
theorem Fo.mono {O : OW} {f : Addr} {B C : Int} (h : Fo O f B) (l : B ≤ C) : Fo O f C := by
  obtain ⟨a, b, c, h1, h2, h3, h4, h5⟩ := h
  exact ⟨a, b, c, h1, h2, h3, h4, by omega⟩
/-- a drawn number of a few -/
theorem sip_ok {O : OW} {f : Addr} {many B : Int} {Q : KW} {E : Exc → OW → Prop} (F : Fo O f B) (h1 : 1 ≤ many) (h2 : many ≤ 1000000000000000000000000000000000000000000000000000000000000) (hB : B ≤ 100000) (q : ∀ r O', 0 ≤ r → r < many → Fo O' f (B + 1) → Sm f O O' → Q (.int r) O') : sp_law_sip [.ref f, .int many] O Q E :=
  ⟨f, many, B, rfl, h1, small_of (by omega) (by omega), F, by omega, q⟩
def loT (s : Int) : Int := if s = 0 then 0 else if s = 1 then -25 else if s = 2 then -1000000000000000000000000000000 - 1 else if s = 3 then 1000000000000000000000000000000 - 400 else -100000000000000000000
def hiT (s : Int) : Int := if s = 0 then 0 else if s = 1 then 24 else if s = 2 then -1000000000000000000000000000000 - 1 else if s = 3 then 1000000000000000000000000000000 - 400 else 0
def stT (s : Int) : Int := if s = 0 then 1 else if s = 1 then 7 else if s = 2 then 50000000000000000000000000000 else if s = 3 then 9 else 1000000000000000000000000000
theorem tabT {s : Int} (h0 : 0 ≤ s) (h1 : s < 5) : -1000000000000000000000000000000 - 1 ≤ loT s ∧ hiT s + 40 * stT s ≤ 1000000000000000000000000000000 ∧ 1 ≤ stT s := by
  unfold loT hiT stT
  rcases (show s = 0 ∨ s = 1 ∨ s = 2 ∨ s = 3 ∨ s = 4 by omega) with rfl | rfl | rfl | rfl | rfl <;> simp
theorem pick3 {a b c i : Int} (h0 : 0 ≤ i) (h1 : i < 3) : ∃ m, (m = a ∨ m = b ∨ m = c) ∧ L2.atI [Dt.int a, .int b, .int c] i = some (.int m) := by
  rcases (show i = 0 ∨ i = 1 ∨ i = 2 by omega) with rfl | rfl | rfl
  · exact ⟨a, .inl rfl, at_nat (j := 0) rfl rfl⟩
  · exact ⟨b, .inr (.inl rfl), at_nat (j := 1) rfl rfl⟩
  · exact ⟨c, .inr (.inr rfl), at_nat (j := 2) rfl rfl⟩
theorem pick5 {a b c d e i : Int} (h0 : 0 ≤ i) (h1 : i < 5) : L2.atI [Dt.int a, .int b, .int c, .int d, .int e] i = some (.int (if i = 0 then a else if i = 1 then b else if i = 2 then c else if i = 3 then d else e)) := by
  rcases (show i = 0 ∨ i = 1 ∨ i = 2 ∨ i = 3 ∨ i = 4 by omega) with rfl | rfl | rfl | rfl | rfl
  · exact at_nat (j := 0) rfl rfl
  · exact at_nat (j := 1) rfl rfl
  · exact at_nat (j := 2) rfl rfl
  · exact at_nat (j := 3) rfl rfl
  · exact at_nat (j := 4) rfl rfl
theorem p20 : (10 : Int) ^ Int.toNat 20 = 100000000000000000000 := by decide +kernel
theorem p30 : (10 : Int) ^ Int.toNat 30 = 1000000000000000000000000000000 := by decide +kernel
theorem p28 : (10 : Int) ^ Int.toNat 28 = 10000000000000000000000000000 := by decide +kernel
theorem p27 : (10 : Int) ^ Int.toNat 27 = 1000000000000000000000000000 := by decide +kernel
theorem p13 : (10 : Int) ^ Int.toNat 13 = 10000000000000 := by decide +kernel
theorem p7 : (10 : Int) ^ Int.toNat 7 = 10000000 := by decide +kernel
theorem p3 : (10 : Int) ^ Int.toNat 3 = 1000 := by decide +kernel
theorem pw_ok {n : Int} (h0 : 0 ≤ n) (h1 : n ≤ 100) : (0 ≤ n ∧ n ≤ 100) ∧ Small 10 := ⟨⟨h0, h1⟩, small_of (by omega) (by omega)⟩
theorem law_people_ok : ∀ ws O Q E, sp_law_people ws O Q E → semFn 2 8 sem_law_people ws O Q E := by
  rintro ws O Q E ⟨f, most, B, rfl, m1, m2, F, hB, q⟩
  refine ⟨rfl, ?_⟩
  try simp only [sem_law_people, sb_none_bool, sb_none_int, sb_none_str, sb_none_tuple, sb_none_list, sb_none_dict, sb_bool_bool, sb_bool_int, sb_bool_str, sb_bool_tuple, sb_bool_list, sb_bool_dict, sb_int_bool, sb_int_int, sb_int_str, sb_int_tuple, sb_int_list, sb_int_dict, sb_str_bool, sb_str_int, sb_str_str, sb_str_tuple, sb_str_list, sb_str_dict, sb_tuple_bool, sb_tuple_int, sb_tuple_str, sb_tuple_tuple, sb_tuple_list, sb_tuple_dict, sb_list_bool, sb_list_int, sb_list_str, sb_list_tuple, sb_list_list, sb_list_dict, sb_dict_bool, sb_dict_int, sb_dict_str, sb_dict_tuple, sb_dict_list, sb_dict_dict, decide_true, decide_false, Bool.or_false, Bool.false_or, Bool.or_true, Bool.true_or, Bool.and_true, Bool.true_and, Bool.and_false, Bool.false_and, onBl_bl, onS_some, e_seq, e_asg, e_par, e_two, e_expr, e_retN, e_if, e_tst, e_brk, e_cnt, e_next, e_sub, e_ag, e_raise, e_for, e_var, e_cst, e_op, e_chn, asI_int, e_neg, e_not, e_and, e_or, e_ife, onB_some, e_isN, isN_non, isN_int, isN_bl, isN_str, isN_tup, isN_lst, isN_ref, e_sl, e_none, e_some, e_nil, e_cons, e_tup, e_lst, e_call, e_blt, onT_some, e_isi, e_isii, tn_non, tn_bl, tn_int, tn_str, tn_tup, tn_lst, e_mt, ty_str, ty_tup, ty_lst, e_comp, e_seqI, seqX_str, seqX_tup, seqX_lst, e_one1, e_enum, walk_tup, walk_lst, e_zip, zip_tup, zip_lst, e_rng1, e_rng2, e_yes, onL1_some, e_rev, newL_t, newL_f, asQ_lst, asQ_tup, tgt_one, tgt_pack, tgt_tup, b_add, add_int, add_str, add_tup, add_lst, b_sub, b_mul, mul_int, b_mod, b_fdiv, b_pow, c_eq, c_ne, c_lt, c_le, c_gt, c_ge, c_in, c_nin, eq_int, eq_str, eq_bl, eq_non, in_chr, idx_str, idx_tup, idx_lst, idx_scr, slc_str, slc_tup, slc_lst, slc_scr, f_len, len_str, len_tup, len_lst, len_scr, f_max2, f_min2, f_abs, f_stri, f_strs, f_ints, f_all, f_sum, f_max1, f_min1, f_list, f_tuple, f_sorted, f_sortT, f_dictP, e_listG, e_seqG, e_nilG, e_plainG, e_forG, e_yieldG, m_join, m_split, m_strip, m_index, e_ret, asL_lst, e_lset, e_sortR, e_dg, e_dsub, e_dnew, e_dcomp, e_back, e_fld, e_sfld, e_meth, e_make, key_int, key_str, asK_dct, newD_t, newD_f, cutB_t, cutB_f, f_divmod, f_repr, e_isx, e_try, e_seqL, setI_s, setI_n, dropI_s, dropI_n, e_lrg1, e_lrg2, e_trg1, e_trg2, onK_some, onK1_some, getS, startW, wipeW, Mth.T, Mth.sem, augI, if_true, if_false, Bool.false_eq_true, true_and, and_true, Bool.not_true, Bool.not_false, List.map, List.length, List.replicate, List.cons_append, List.nil_append, List.set_cons_zero, List.set_cons_succ, Nat.reduceAdd, Nat.reduceSub, Int.reduceAdd, Int.reduceSub, Int.reduceNeg, Int.reduceMul, Nat.zero_add]
  refine sip_ok F (by omega) (by omega) (by omega) fun r1 O1 a0 a1 F1 S1 => ?_
  try simp only [sb_none_bool, sb_none_int, sb_none_str, sb_none_tuple, sb_none_list, sb_none_dict, sb_bool_bool, sb_bool_int, sb_bool_str, sb_bool_tuple, sb_bool_list, sb_bool_dict, sb_int_bool, sb_int_int, sb_int_str, sb_int_tuple, sb_int_list, sb_int_dict, sb_str_bool, sb_str_int, sb_str_str, sb_str_tuple, sb_str_list, sb_str_dict, sb_tuple_bool, sb_tuple_int, sb_tuple_str, sb_tuple_tuple, sb_tuple_list, sb_tuple_dict, sb_list_bool, sb_list_int, sb_list_str, sb_list_tuple, sb_list_list, sb_list_dict, sb_dict_bool, sb_dict_int, sb_dict_str, sb_dict_tuple, sb_dict_list, sb_dict_dict, decide_true, decide_false, Bool.or_false, Bool.false_or, Bool.or_true, Bool.true_or, Bool.and_true, Bool.true_and, Bool.and_false, Bool.false_and, onBl_bl, onS_some, e_seq, e_asg, e_par, e_two, e_expr, e_retN, e_if, e_tst, e_brk, e_cnt, e_next, e_sub, e_ag, e_raise, e_for, e_var, e_cst, e_op, e_chn, asI_int, e_neg, e_not, e_and, e_or, e_ife, onB_some, e_isN, isN_non, isN_int, isN_bl, isN_str, isN_tup, isN_lst, isN_ref, e_sl, e_none, e_some, e_nil, e_cons, e_tup, e_lst, e_call, e_blt, onT_some, e_isi, e_isii, tn_non, tn_bl, tn_int, tn_str, tn_tup, tn_lst, e_mt, ty_str, ty_tup, ty_lst, e_comp, e_seqI, seqX_str, seqX_tup, seqX_lst, e_one1, e_enum, walk_tup, walk_lst, e_zip, zip_tup, zip_lst, e_rng1, e_rng2, e_yes, onL1_some, e_rev, newL_t, newL_f, asQ_lst, asQ_tup, tgt_one, tgt_pack, tgt_tup, b_add, add_int, add_str, add_tup, add_lst, b_sub, b_mul, mul_int, b_mod, b_fdiv, b_pow, c_eq, c_ne, c_lt, c_le, c_gt, c_ge, c_in, c_nin, eq_int, eq_str, eq_bl, eq_non, in_chr, idx_str, idx_tup, idx_lst, idx_scr, slc_str, slc_tup, slc_lst, slc_scr, f_len, len_str, len_tup, len_lst, len_scr, f_max2, f_min2, f_abs, f_stri, f_strs, f_ints, f_all, f_sum, f_max1, f_min1, f_list, f_tuple, f_sorted, f_sortT, f_dictP, e_listG, e_seqG, e_nilG, e_plainG, e_forG, e_yieldG, m_join, m_split, m_strip, m_index, e_ret, asL_lst, e_lset, e_sortR, e_dg, e_dsub, e_dnew, e_dcomp, e_back, e_fld, e_sfld, e_meth, e_make, key_int, key_str, asK_dct, newD_t, newD_f, cutB_t, cutB_f, f_divmod, f_repr, e_isx, e_try, e_seqL, setI_s, setI_n, dropI_s, dropI_n, e_lrg1, e_lrg2, e_trg1, e_trg2, onK_some, onK1_some, getS, startW, wipeW, Mth.T, Mth.sem, augI, if_true, if_false, Bool.false_eq_true, true_and, and_true, Bool.not_true, Bool.not_false, List.map, List.length, List.replicate, List.cons_append, List.nil_append, List.set_cons_zero, List.set_cons_succ, Nat.reduceAdd, Nat.reduceSub, Int.reduceAdd, Int.reduceSub, Int.reduceNeg, Int.reduceMul, Nat.zero_add]
  refine sip_ok F1 (by split <;> omega) (by split <;> omega) (by omega) fun r2 O2 b0 b1 F2 S2 => ?_
  try simp only [sb_none_bool, sb_none_int, sb_none_str, sb_none_tuple, sb_none_list, sb_none_dict, sb_bool_bool, sb_bool_int, sb_bool_str, sb_bool_tuple, sb_bool_list, sb_bool_dict, sb_int_bool, sb_int_int, sb_int_str, sb_int_tuple, sb_int_list, sb_int_dict, sb_str_bool, sb_str_int, sb_str_str, sb_str_tuple, sb_str_list, sb_str_dict, sb_tuple_bool, sb_tuple_int, sb_tuple_str, sb_tuple_tuple, sb_tuple_list, sb_tuple_dict, sb_list_bool, sb_list_int, sb_list_str, sb_list_tuple, sb_list_list, sb_list_dict, sb_dict_bool, sb_dict_int, sb_dict_str, sb_dict_tuple, sb_dict_list, sb_dict_dict, decide_true, decide_false, Bool.or_false, Bool.false_or, Bool.or_true, Bool.true_or, Bool.and_true, Bool.true_and, Bool.and_false, Bool.false_and, onBl_bl, onS_some, e_seq, e_asg, e_par, e_two, e_expr, e_retN, e_if, e_tst, e_brk, e_cnt, e_next, e_sub, e_ag, e_raise, e_for, e_var, e_cst, e_op, e_chn, asI_int, e_neg, e_not, e_and, e_or, e_ife, onB_some, e_isN, isN_non, isN_int, isN_bl, isN_str, isN_tup, isN_lst, isN_ref, e_sl, e_none, e_some, e_nil, e_cons, e_tup, e_lst, e_call, e_blt, onT_some, e_isi, e_isii, tn_non, tn_bl, tn_int, tn_str, tn_tup, tn_lst, e_mt, ty_str, ty_tup, ty_lst, e_comp, e_seqI, seqX_str, seqX_tup, seqX_lst, e_one1, e_enum, walk_tup, walk_lst, e_zip, zip_tup, zip_lst, e_rng1, e_rng2, e_yes, onL1_some, e_rev, newL_t, newL_f, asQ_lst, asQ_tup, tgt_one, tgt_pack, tgt_tup, b_add, add_int, add_str, add_tup, add_lst, b_sub, b_mul, mul_int, b_mod, b_fdiv, b_pow, c_eq, c_ne, c_lt, c_le, c_gt, c_ge, c_in, c_nin, eq_int, eq_str, eq_bl, eq_non, in_chr, idx_str, idx_tup, idx_lst, idx_scr, slc_str, slc_tup, slc_lst, slc_scr, f_len, len_str, len_tup, len_lst, len_scr, f_max2, f_min2, f_abs, f_stri, f_strs, f_ints, f_all, f_sum, f_max1, f_min1, f_list, f_tuple, f_sorted, f_sortT, f_dictP, e_listG, e_seqG, e_nilG, e_plainG, e_forG, e_yieldG, m_join, m_split, m_strip, m_index, e_ret, asL_lst, e_lset, e_sortR, e_dg, e_dsub, e_dnew, e_dcomp, e_back, e_fld, e_sfld, e_meth, e_make, key_int, key_str, asK_dct, newD_t, newD_f, cutB_t, cutB_f, f_divmod, f_repr, e_isx, e_try, e_seqL, setI_s, setI_n, dropI_s, dropI_n, e_lrg1, e_lrg2, e_trg1, e_trg2, onK_some, onK1_some, getS, startW, wipeW, Mth.T, Mth.sem, augI, if_true, if_false, Bool.false_eq_true, true_and, and_true, Bool.not_true, Bool.not_false, List.map, List.length, List.replicate, List.cons_append, List.nil_append, List.set_cons_zero, List.set_cons_succ, Nat.reduceAdd, Nat.reduceSub, Int.reduceAdd, Int.reduceSub, Int.reduceNeg, Int.reduceMul, Nat.zero_add]
  refine ⟨by decide, ?_⟩
  refine sip_ok F2 (by omega) (by omega) (by omega) fun r3 O3 c0 c1 F3 S3 => ?_
  obtain ⟨cnt, hcnt, e3⟩ := pick3 (a := 1 + r1) (b := most) (c := 1 + r2) c0 c1
  have hc1 : 1 ≤ cnt ∧ cnt ≤ most := by
    split at b1 <;> omega
  try simp only [sb_none_bool, sb_none_int, sb_none_str, sb_none_tuple, sb_none_list, sb_none_dict, sb_bool_bool, sb_bool_int, sb_bool_str, sb_bool_tuple, sb_bool_list, sb_bool_dict, sb_int_bool, sb_int_int, sb_int_str, sb_int_tuple, sb_int_list, sb_int_dict, sb_str_bool, sb_str_int, sb_str_str, sb_str_tuple, sb_str_list, sb_str_dict, sb_tuple_bool, sb_tuple_int, sb_tuple_str, sb_tuple_tuple, sb_tuple_list, sb_tuple_dict, sb_list_bool, sb_list_int, sb_list_str, sb_list_tuple, sb_list_list, sb_list_dict, sb_dict_bool, sb_dict_int, sb_dict_str, sb_dict_tuple, sb_dict_list, sb_dict_dict, decide_true, decide_false, Bool.or_false, Bool.false_or, Bool.or_true, Bool.true_or, Bool.and_true, Bool.true_and, Bool.and_false, Bool.false_and, onBl_bl, onS_some, e_seq, e_asg, e_par, e_two, e_expr, e_retN, e_if, e_tst, e_brk, e_cnt, e_next, e_sub, e_ag, e_raise, e_for, e_var, e_cst, e_op, e_chn, asI_int, e_neg, e_not, e_and, e_or, e_ife, onB_some, e_isN, isN_non, isN_int, isN_bl, isN_str, isN_tup, isN_lst, isN_ref, e_sl, e_none, e_some, e_nil, e_cons, e_tup, e_lst, e_call, e_blt, onT_some, e_isi, e_isii, tn_non, tn_bl, tn_int, tn_str, tn_tup, tn_lst, e_mt, ty_str, ty_tup, ty_lst, e_comp, e_seqI, seqX_str, seqX_tup, seqX_lst, e_one1, e_enum, walk_tup, walk_lst, e_zip, zip_tup, zip_lst, e_rng1, e_rng2, e_yes, onL1_some, e_rev, newL_t, newL_f, asQ_lst, asQ_tup, tgt_one, tgt_pack, tgt_tup, b_add, add_int, add_str, add_tup, add_lst, b_sub, b_mul, mul_int, b_mod, b_fdiv, b_pow, c_eq, c_ne, c_lt, c_le, c_gt, c_ge, c_in, c_nin, eq_int, eq_str, eq_bl, eq_non, in_chr, idx_str, idx_tup, idx_lst, idx_scr, slc_str, slc_tup, slc_lst, slc_scr, f_len, len_str, len_tup, len_lst, len_scr, f_max2, f_min2, f_abs, f_stri, f_strs, f_ints, f_all, f_sum, f_max1, f_min1, f_list, f_tuple, f_sorted, f_sortT, f_dictP, e_listG, e_seqG, e_nilG, e_plainG, e_forG, e_yieldG, m_join, m_split, m_strip, m_index, e_ret, asL_lst, e_lset, e_sortR, e_dg, e_dsub, e_dnew, e_dcomp, e_back, e_fld, e_sfld, e_meth, e_make, key_int, key_str, asK_dct, newD_t, newD_f, cutB_t, cutB_f, f_divmod, f_repr, e_isx, e_try, e_seqL, setI_s, setI_n, dropI_s, dropI_n, e_lrg1, e_lrg2, e_trg1, e_trg2, onK_some, onK1_some, getS, startW, wipeW, Mth.T, Mth.sem, augI, if_true, if_false, Bool.false_eq_true, true_and, and_true, Bool.not_true, Bool.not_false, List.map, List.length, List.replicate, List.cons_append, List.nil_append, List.set_cons_zero, List.set_cons_succ, Nat.reduceAdd, Nat.reduceSub, Int.reduceAdd, Int.reduceSub, Int.reduceNeg, Int.reduceMul, Nat.zero_add, e3]
  refine sip_ok F3 (by omega) (by omega) (by omega) fun sty O4 d0 d1 F4 S4 => ?_
  try simp only [sb_none_bool, sb_none_int, sb_none_str, sb_none_tuple, sb_none_list, sb_none_dict, sb_bool_bool, sb_bool_int, sb_bool_str, sb_bool_tuple, sb_bool_list, sb_bool_dict, sb_int_bool, sb_int_int, sb_int_str, sb_int_tuple, sb_int_list, sb_int_dict, sb_str_bool, sb_str_int, sb_str_str, sb_str_tuple, sb_str_list, sb_str_dict, sb_tuple_bool, sb_tuple_int, sb_tuple_str, sb_tuple_tuple, sb_tuple_list, sb_tuple_dict, sb_list_bool, sb_list_int, sb_list_str, sb_list_tuple, sb_list_list, sb_list_dict, sb_dict_bool, sb_dict_int, sb_dict_str, sb_dict_tuple, sb_dict_list, sb_dict_dict, decide_true, decide_false, Bool.or_false, Bool.false_or, Bool.or_true, Bool.true_or, Bool.and_true, Bool.true_and, Bool.and_false, Bool.false_and, onBl_bl, onS_some, e_seq, e_asg, e_par, e_two, e_expr, e_retN, e_if, e_tst, e_brk, e_cnt, e_next, e_sub, e_ag, e_raise, e_for, e_var, e_cst, e_op, e_chn, asI_int, e_neg, e_not, e_and, e_or, e_ife, onB_some, e_isN, isN_non, isN_int, isN_bl, isN_str, isN_tup, isN_lst, isN_ref, e_sl, e_none, e_some, e_nil, e_cons, e_tup, e_lst, e_call, e_blt, onT_some, e_isi, e_isii, tn_non, tn_bl, tn_int, tn_str, tn_tup, tn_lst, e_mt, ty_str, ty_tup, ty_lst, e_comp, e_seqI, seqX_str, seqX_tup, seqX_lst, e_one1, e_enum, walk_tup, walk_lst, e_zip, zip_tup, zip_lst, e_rng1, e_rng2, e_yes, onL1_some, e_rev, newL_t, newL_f, asQ_lst, asQ_tup, tgt_one, tgt_pack, tgt_tup, b_add, add_int, add_str, add_tup, add_lst, b_sub, b_mul, mul_int, b_mod, b_fdiv, b_pow, c_eq, c_ne, c_lt, c_le, c_gt, c_ge, c_in, c_nin, eq_int, eq_str, eq_bl, eq_non, in_chr, idx_str, idx_tup, idx_lst, idx_scr, slc_str, slc_tup, slc_lst, slc_scr, f_len, len_str, len_tup, len_lst, len_scr, f_max2, f_min2, f_abs, f_stri, f_strs, f_ints, f_all, f_sum, f_max1, f_min1, f_list, f_tuple, f_sorted, f_sortT, f_dictP, e_listG, e_seqG, e_nilG, e_plainG, e_forG, e_yieldG, m_join, m_split, m_strip, m_index, e_ret, asL_lst, e_lset, e_sortR, e_dg, e_dsub, e_dnew, e_dcomp, e_back, e_fld, e_sfld, e_meth, e_make, key_int, key_str, asK_dct, newD_t, newD_f, cutB_t, cutB_f, f_divmod, f_repr, e_isx, e_try, e_seqL, setI_s, setI_n, dropI_s, dropI_n, e_lrg1, e_lrg2, e_trg1, e_trg2, onK_some, onK1_some, getS, startW, wipeW, Mth.T, Mth.sem, augI, if_true, if_false, Bool.false_eq_true, true_and, and_true, Bool.not_true, Bool.not_false, List.map, List.length, List.replicate, List.cons_append, List.nil_append, List.set_cons_zero, List.set_cons_succ, Nat.reduceAdd, Nat.reduceSub, Int.reduceAdd, Int.reduceSub, Int.reduceNeg, Int.reduceMul, Nat.zero_add, newL_f]
  refine ⟨by decide, fun p hp => ?_⟩
  have pf : p ≠ f := fun e => by obtain ⟨a, b, c, h, _⟩ := F4; rw [← e, hp] at h; cases h
  refine sip_ok (F4.at_ (upo_ne (Ne.symm pf))) (by omega) (by omega) (by omega) fun r5 O5 e0 e1 F5 S5 => ?_
  try simp only [sb_none_bool, sb_none_int, sb_none_str, sb_none_tuple, sb_none_list, sb_none_dict, sb_bool_bool, sb_bool_int, sb_bool_str, sb_bool_tuple, sb_bool_list, sb_bool_dict, sb_int_bool, sb_int_int, sb_int_str, sb_int_tuple, sb_int_list, sb_int_dict, sb_str_bool, sb_str_int, sb_str_str, sb_str_tuple, sb_str_list, sb_str_dict, sb_tuple_bool, sb_tuple_int, sb_tuple_str, sb_tuple_tuple, sb_tuple_list, sb_tuple_dict, sb_list_bool, sb_list_int, sb_list_str, sb_list_tuple, sb_list_list, sb_list_dict, sb_dict_bool, sb_dict_int, sb_dict_str, sb_dict_tuple, sb_dict_list, sb_dict_dict, decide_true, decide_false, Bool.or_false, Bool.false_or, Bool.or_true, Bool.true_or, Bool.and_true, Bool.true_and, Bool.and_false, Bool.false_and, onBl_bl, onS_some, e_seq, e_asg, e_par, e_two, e_expr, e_retN, e_if, e_tst, e_brk, e_cnt, e_next, e_sub, e_ag, e_raise, e_for, e_var, e_cst, e_op, e_chn, asI_int, e_neg, e_not, e_and, e_or, e_ife, onB_some, e_isN, isN_non, isN_int, isN_bl, isN_str, isN_tup, isN_lst, isN_ref, e_sl, e_none, e_some, e_nil, e_cons, e_tup, e_lst, e_call, e_blt, onT_some, e_isi, e_isii, tn_non, tn_bl, tn_int, tn_str, tn_tup, tn_lst, e_mt, ty_str, ty_tup, ty_lst, e_comp, e_seqI, seqX_str, seqX_tup, seqX_lst, e_one1, e_enum, walk_tup, walk_lst, e_zip, zip_tup, zip_lst, e_rng1, e_rng2, e_yes, onL1_some, e_rev, newL_t, newL_f, asQ_lst, asQ_tup, tgt_one, tgt_pack, tgt_tup, b_add, add_int, add_str, add_tup, add_lst, b_sub, b_mul, mul_int, b_mod, b_fdiv, b_pow, c_eq, c_ne, c_lt, c_le, c_gt, c_ge, c_in, c_nin, eq_int, eq_str, eq_bl, eq_non, in_chr, idx_str, idx_tup, idx_lst, idx_scr, slc_str, slc_tup, slc_lst, slc_scr, f_len, len_str, len_tup, len_lst, len_scr, f_max2, f_min2, f_abs, f_stri, f_strs, f_ints, f_all, f_sum, f_max1, f_min1, f_list, f_tuple, f_sorted, f_sortT, f_dictP, e_listG, e_seqG, e_nilG, e_plainG, e_forG, e_yieldG, m_join, m_split, m_strip, m_index, e_ret, asL_lst, e_lset, e_sortR, e_dg, e_dsub, e_dnew, e_dcomp, e_back, e_fld, e_sfld, e_meth, e_make, key_int, key_str, asK_dct, newD_t, newD_f, cutB_t, cutB_f, f_divmod, f_repr, e_isx, e_try, e_seqL, setI_s, setI_n, dropI_s, dropI_n, e_lrg1, e_lrg2, e_trg1, e_trg2, onK_some, onK1_some, getS, startW, wipeW, Mth.T, Mth.sem, augI, if_true, if_false, Bool.false_eq_true, true_and, and_true, Bool.not_true, Bool.not_false, List.map, List.length, List.replicate, List.cons_append, List.nil_append, List.set_cons_zero, List.set_cons_succ, Nat.reduceAdd, Nat.reduceSub, Int.reduceAdd, Int.reduceSub, Int.reduceNeg, Int.reduceMul, Nat.zero_add, p20, p30]
  refine ⟨pw_ok (by omega) (by omega), pw_ok (by omega) (by omega), pw_ok (by omega) (by omega), ?_⟩
  refine sip_ok F5 (by omega) (by omega) (by omega) fun r6 O6 g0 g1 F6 S6 => ?_
  try simp only [sb_none_bool, sb_none_int, sb_none_str, sb_none_tuple, sb_none_list, sb_none_dict, sb_bool_bool, sb_bool_int, sb_bool_str, sb_bool_tuple, sb_bool_list, sb_bool_dict, sb_int_bool, sb_int_int, sb_int_str, sb_int_tuple, sb_int_list, sb_int_dict, sb_str_bool, sb_str_int, sb_str_str, sb_str_tuple, sb_str_list, sb_str_dict, sb_tuple_bool, sb_tuple_int, sb_tuple_str, sb_tuple_tuple, sb_tuple_list, sb_tuple_dict, sb_list_bool, sb_list_int, sb_list_str, sb_list_tuple, sb_list_list, sb_list_dict, sb_dict_bool, sb_dict_int, sb_dict_str, sb_dict_tuple, sb_dict_list, sb_dict_dict, decide_true, decide_false, Bool.or_false, Bool.false_or, Bool.or_true, Bool.true_or, Bool.and_true, Bool.true_and, Bool.and_false, Bool.false_and, onBl_bl, onS_some, e_seq, e_asg, e_par, e_two, e_expr, e_retN, e_if, e_tst, e_brk, e_cnt, e_next, e_sub, e_ag, e_raise, e_for, e_var, e_cst, e_op, e_chn, asI_int, e_neg, e_not, e_and, e_or, e_ife, onB_some, e_isN, isN_non, isN_int, isN_bl, isN_str, isN_tup, isN_lst, isN_ref, e_sl, e_none, e_some, e_nil, e_cons, e_tup, e_lst, e_call, e_blt, onT_some, e_isi, e_isii, tn_non, tn_bl, tn_int, tn_str, tn_tup, tn_lst, e_mt, ty_str, ty_tup, ty_lst, e_comp, e_seqI, seqX_str, seqX_tup, seqX_lst, e_one1, e_enum, walk_tup, walk_lst, e_zip, zip_tup, zip_lst, e_rng1, e_rng2, e_yes, onL1_some, e_rev, newL_t, newL_f, asQ_lst, asQ_tup, tgt_one, tgt_pack, tgt_tup, b_add, add_int, add_str, add_tup, add_lst, b_sub, b_mul, mul_int, b_mod, b_fdiv, b_pow, c_eq, c_ne, c_lt, c_le, c_gt, c_ge, c_in, c_nin, eq_int, eq_str, eq_bl, eq_non, in_chr, idx_str, idx_tup, idx_lst, idx_scr, slc_str, slc_tup, slc_lst, slc_scr, f_len, len_str, len_tup, len_lst, len_scr, f_max2, f_min2, f_abs, f_stri, f_strs, f_ints, f_all, f_sum, f_max1, f_min1, f_list, f_tuple, f_sorted, f_sortT, f_dictP, e_listG, e_seqG, e_nilG, e_plainG, e_forG, e_yieldG, m_join, m_split, m_strip, m_index, e_ret, asL_lst, e_lset, e_sortR, e_dg, e_dsub, e_dnew, e_dcomp, e_back, e_fld, e_sfld, e_meth, e_make, key_int, key_str, asK_dct, newD_t, newD_f, cutB_t, cutB_f, f_divmod, f_repr, e_isx, e_try, e_seqL, setI_s, setI_n, dropI_s, dropI_n, e_lrg1, e_lrg2, e_trg1, e_trg2, onK_some, onK1_some, getS, startW, wipeW, Mth.T, Mth.sem, augI, if_true, if_false, Bool.false_eq_true, true_and, and_true, Bool.not_true, Bool.not_false, List.map, List.length, List.replicate, List.cons_append, List.nil_append, List.set_cons_zero, List.set_cons_succ, Nat.reduceAdd, Nat.reduceSub, Int.reduceAdd, Int.reduceSub, Int.reduceNeg, Int.reduceMul, Nat.zero_add, pick5 d0 d1]
  refine ⟨by decide, ⟨by omega, by omega⟩, ?_⟩
  have hp6 : O6 p = some (.lst []) := by rw [S6 p pf, S5 p pf]; exact upo_same
  have old6 : ∀ a, a ≠ f → a ≠ p → O6 a = O a := fun a h1 h2 => by rw [S6 a h1, S5 a h1, upo_ne h2, S4 a h1, S3 a h1, S2 a h1, S1 a h1]
  obtain ⟨t1, t2, t3⟩ := tabT d0 d1
  generalize hl0 : (if sty = 0 then (0 : Int) else if sty = 1 then r5 - 25 else if sty = 2 then -1000000000000000000000000000001 else if sty = 3 then 999999999999999999999999999600 else 0 - r6) = last0
  have hl : loT sty ≤ last0 ∧ last0 ≤ hiT sty := by
    rw [← hl0]
    unfold loT hiT
    rcases (show sty = 0 ∨ sty = 1 ∨ sty = 2 ∨ sty = 3 ∨ sty = 4 by omega) with rfl | rfl | rfl | rfl | rfl <;> simp <;> omega
  refine loop_inv (fun i τ O' => ∃ (ns : List Int) (last : Int) (v6 v7 : Option Dt), τ = [some (.ref f), some (.int most), some (.int cnt), some (.int sty), some (.ref p), some (.int last), v6, v7] ∧ O' p = some (.lst (ns.map Dt.int)) ∧ ns.length = i ∧ ns.Pairwise (· < ·) ∧ (∀ x ∈ ns, x ≤ last ∧ IsH x) ∧
    (loT sty ≤ last ∧ last ≤ hiT sty + i * stT sty) ∧ Fo O' f (B + 6 + 2 * i) ∧ ∀ a, a ≠ f → a ≠ p → O' a = O a) _ 0 _ _ ?_ (fun _ _ _ _ => trivial) ?_ ?_
  · refine ⟨[], last0, none, none, rfl, hp6, rfl, List.Pairwise.nil, fun x hx => by simp at hx, ⟨hl.1, by omega⟩, F6.mono (by omega), old6⟩
  · rintro j y τ O' hy ⟨ns, last, v6, v7, rfl, h1, h2, h3, h4, h5, h6, h7⟩ N hN
    rw [Nat.zero_add] at *
    obtain ⟨hj, rfl⟩ := rngY_get hy
    have hj : (j : Int) < cnt := by omega
    try simp only [sb_none_bool, sb_none_int, sb_none_str, sb_none_tuple, sb_none_list, sb_none_dict, sb_bool_bool, sb_bool_int, sb_bool_str, sb_bool_tuple, sb_bool_list, sb_bool_dict, sb_int_bool, sb_int_int, sb_int_str, sb_int_tuple, sb_int_list, sb_int_dict, sb_str_bool, sb_str_int, sb_str_str, sb_str_tuple, sb_str_list, sb_str_dict, sb_tuple_bool, sb_tuple_int, sb_tuple_str, sb_tuple_tuple, sb_tuple_list, sb_tuple_dict, sb_list_bool, sb_list_int, sb_list_str, sb_list_tuple, sb_list_list, sb_list_dict, sb_dict_bool, sb_dict_int, sb_dict_str, sb_dict_tuple, sb_dict_list, sb_dict_dict, decide_true, decide_false, Bool.or_false, Bool.false_or, Bool.or_true, Bool.true_or, Bool.and_true, Bool.true_and, Bool.and_false, Bool.false_and, onBl_bl, onS_some, e_seq, e_asg, e_par, e_two, e_expr, e_retN, e_if, e_tst, e_brk, e_cnt, e_next, e_sub, e_ag, e_raise, e_for, e_var, e_cst, e_op, e_chn, asI_int, e_neg, e_not, e_and, e_or, e_ife, onB_some, e_isN, isN_non, isN_int, isN_bl, isN_str, isN_tup, isN_lst, isN_ref, e_sl, e_none, e_some, e_nil, e_cons, e_tup, e_lst, e_call, e_blt, onT_some, e_isi, e_isii, tn_non, tn_bl, tn_int, tn_str, tn_tup, tn_lst, e_mt, ty_str, ty_tup, ty_lst, e_comp, e_seqI, seqX_str, seqX_tup, seqX_lst, e_one1, e_enum, walk_tup, walk_lst, e_zip, zip_tup, zip_lst, e_rng1, e_rng2, e_yes, onL1_some, e_rev, newL_t, newL_f, asQ_lst, asQ_tup, tgt_one, tgt_pack, tgt_tup, b_add, add_int, add_str, add_tup, add_lst, b_sub, b_mul, mul_int, b_mod, b_fdiv, b_pow, c_eq, c_ne, c_lt, c_le, c_gt, c_ge, c_in, c_nin, eq_int, eq_str, eq_bl, eq_non, in_chr, idx_str, idx_tup, idx_lst, idx_scr, slc_str, slc_tup, slc_lst, slc_scr, f_len, len_str, len_tup, len_lst, len_scr, f_max2, f_min2, f_abs, f_stri, f_strs, f_ints, f_all, f_sum, f_max1, f_min1, f_list, f_tuple, f_sorted, f_sortT, f_dictP, e_listG, e_seqG, e_nilG, e_plainG, e_forG, e_yieldG, m_join, m_split, m_strip, m_index, e_ret, asL_lst, e_lset, e_sortR, e_dg, e_dsub, e_dnew, e_dcomp, e_back, e_fld, e_sfld, e_meth, e_make, key_int, key_str, asK_dct, newD_t, newD_f, cutB_t, cutB_f, f_divmod, f_repr, e_isx, e_try, e_seqL, setI_s, setI_n, dropI_s, dropI_n, e_lrg1, e_lrg2, e_trg1, e_trg2, onK_some, onK1_some, getS, startW, wipeW, Mth.T, Mth.sem, augI, if_true, if_false, Bool.false_eq_true, true_and, and_true, Bool.not_true, Bool.not_false, List.map, List.length, List.replicate, List.cons_append, List.nil_append, List.set_cons_zero, List.set_cons_succ, Nat.reduceAdd, Nat.reduceSub, Int.reduceAdd, Int.reduceSub, Int.reduceNeg, Int.reduceMul, Nat.zero_add, p3, p7, p13, p20, p27]
    refine ⟨pw_ok (by omega) (by omega), pw_ok (by omega) (by omega), pw_ok (by omega) (by omega), pw_ok (by omega) (by omega), pw_ok (by omega) (by omega), by decide, ?_⟩
    refine sip_ok h6 (by omega) (by omega) (by omega) fun r7 O7 i0 i1 F7 S7 => ?_
    try simp only [sb_none_bool, sb_none_int, sb_none_str, sb_none_tuple, sb_none_list, sb_none_dict, sb_bool_bool, sb_bool_int, sb_bool_str, sb_bool_tuple, sb_bool_list, sb_bool_dict, sb_int_bool, sb_int_int, sb_int_str, sb_int_tuple, sb_int_list, sb_int_dict, sb_str_bool, sb_str_int, sb_str_str, sb_str_tuple, sb_str_list, sb_str_dict, sb_tuple_bool, sb_tuple_int, sb_tuple_str, sb_tuple_tuple, sb_tuple_list, sb_tuple_dict, sb_list_bool, sb_list_int, sb_list_str, sb_list_tuple, sb_list_list, sb_list_dict, sb_dict_bool, sb_dict_int, sb_dict_str, sb_dict_tuple, sb_dict_list, sb_dict_dict, decide_true, decide_false, Bool.or_false, Bool.false_or, Bool.or_true, Bool.true_or, Bool.and_true, Bool.true_and, Bool.and_false, Bool.false_and, onBl_bl, onS_some, e_seq, e_asg, e_par, e_two, e_expr, e_retN, e_if, e_tst, e_brk, e_cnt, e_next, e_sub, e_ag, e_raise, e_for, e_var, e_cst, e_op, e_chn, asI_int, e_neg, e_not, e_and, e_or, e_ife, onB_some, e_isN, isN_non, isN_int, isN_bl, isN_str, isN_tup, isN_lst, isN_ref, e_sl, e_none, e_some, e_nil, e_cons, e_tup, e_lst, e_call, e_blt, onT_some, e_isi, e_isii, tn_non, tn_bl, tn_int, tn_str, tn_tup, tn_lst, e_mt, ty_str, ty_tup, ty_lst, e_comp, e_seqI, seqX_str, seqX_tup, seqX_lst, e_one1, e_enum, walk_tup, walk_lst, e_zip, zip_tup, zip_lst, e_rng1, e_rng2, e_yes, onL1_some, e_rev, newL_t, newL_f, asQ_lst, asQ_tup, tgt_one, tgt_pack, tgt_tup, b_add, add_int, add_str, add_tup, add_lst, b_sub, b_mul, mul_int, b_mod, b_fdiv, b_pow, c_eq, c_ne, c_lt, c_le, c_gt, c_ge, c_in, c_nin, eq_int, eq_str, eq_bl, eq_non, in_chr, idx_str, idx_tup, idx_lst, idx_scr, slc_str, slc_tup, slc_lst, slc_scr, f_len, len_str, len_tup, len_lst, len_scr, f_max2, f_min2, f_abs, f_stri, f_strs, f_ints, f_all, f_sum, f_max1, f_min1, f_list, f_tuple, f_sorted, f_sortT, f_dictP, e_listG, e_seqG, e_nilG, e_plainG, e_forG, e_yieldG, m_join, m_split, m_strip, m_index, e_ret, asL_lst, e_lset, e_sortR, e_dg, e_dsub, e_dnew, e_dcomp, e_back, e_fld, e_sfld, e_meth, e_make, key_int, key_str, asK_dct, newD_t, newD_f, cutB_t, cutB_f, f_divmod, f_repr, e_isx, e_try, e_seqL, setI_s, setI_n, dropI_s, dropI_n, e_lrg1, e_lrg2, e_trg1, e_trg2, onK_some, onK1_some, getS, startW, wipeW, Mth.T, Mth.sem, augI, if_true, if_false, Bool.false_eq_true, true_and, and_true, Bool.not_true, Bool.not_false, List.map, List.length, List.replicate, List.cons_append, List.nil_append, List.set_cons_zero, List.set_cons_succ, Nat.reduceAdd, Nat.reduceSub, Int.reduceAdd, Int.reduceSub, Int.reduceNeg, Int.reduceMul, Nat.zero_add, pick5 i0 i1, p28]
    generalize hw0 : (if r7 = 0 then (1000 : Int) else if r7 = 1 then 10000000 else if r7 = 2 then 10000000000000 else if r7 = 3 then 100000000000000000000 else 1000000000000000000000000000) = wide
    have hw : 1 ≤ wide ∧ wide ≤ 1000000000000000000000000000 := by
      rw [← hw0]
      rcases (show r7 = 0 ∨ r7 = 1 ∨ r7 = 2 ∨ r7 = 3 ∨ r7 = 4 by omega) with rfl | rfl | rfl | rfl | rfl <;> simp
    refine ⟨pw_ok (by omega) (by omega), ⟨small_of (by omega) (by omega), small_of (by omega) (by omega)⟩, by decide, ?_⟩
    try simp only [sb_none_bool, sb_none_int, sb_none_str, sb_none_tuple, sb_none_list, sb_none_dict, sb_bool_bool, sb_bool_int, sb_bool_str, sb_bool_tuple, sb_bool_list, sb_bool_dict, sb_int_bool, sb_int_int, sb_int_str, sb_int_tuple, sb_int_list, sb_int_dict, sb_str_bool, sb_str_int, sb_str_str, sb_str_tuple, sb_str_list, sb_str_dict, sb_tuple_bool, sb_tuple_int, sb_tuple_str, sb_tuple_tuple, sb_tuple_list, sb_tuple_dict, sb_list_bool, sb_list_int, sb_list_str, sb_list_tuple, sb_list_list, sb_list_dict, sb_dict_bool, sb_dict_int, sb_dict_str, sb_dict_tuple, sb_dict_list, sb_dict_dict, decide_true, decide_false, Bool.or_false, Bool.false_or, Bool.or_true, Bool.true_or, Bool.and_true, Bool.true_and, Bool.and_false, Bool.false_and, onBl_bl, onS_some, e_seq, e_asg, e_par, e_two, e_expr, e_retN, e_if, e_tst, e_brk, e_cnt, e_next, e_sub, e_ag, e_raise, e_for, e_var, e_cst, e_op, e_chn, asI_int, e_neg, e_not, e_and, e_or, e_ife, onB_some, e_isN, isN_non, isN_int, isN_bl, isN_str, isN_tup, isN_lst, isN_ref, e_sl, e_none, e_some, e_nil, e_cons, e_tup, e_lst, e_call, e_blt, onT_some, e_isi, e_isii, tn_non, tn_bl, tn_int, tn_str, tn_tup, tn_lst, e_mt, ty_str, ty_tup, ty_lst, e_comp, e_seqI, seqX_str, seqX_tup, seqX_lst, e_one1, e_enum, walk_tup, walk_lst, e_zip, zip_tup, zip_lst, e_rng1, e_rng2, e_yes, onL1_some, e_rev, newL_t, newL_f, asQ_lst, asQ_tup, tgt_one, tgt_pack, tgt_tup, b_add, add_int, add_str, add_tup, add_lst, b_sub, b_mul, mul_int, b_mod, b_fdiv, b_pow, c_eq, c_ne, c_lt, c_le, c_gt, c_ge, c_in, c_nin, eq_int, eq_str, eq_bl, eq_non, in_chr, idx_str, idx_tup, idx_lst, idx_scr, slc_str, slc_tup, slc_lst, slc_scr, f_len, len_str, len_tup, len_lst, len_scr, f_max2, f_min2, f_abs, f_stri, f_strs, f_ints, f_all, f_sum, f_max1, f_min1, f_list, f_tuple, f_sorted, f_sortT, f_dictP, e_listG, e_seqG, e_nilG, e_plainG, e_forG, e_yieldG, m_join, m_split, m_strip, m_index, e_ret, asL_lst, e_lset, e_sortR, e_dg, e_dsub, e_dnew, e_dcomp, e_back, e_fld, e_sfld, e_meth, e_make, key_int, key_str, asK_dct, newD_t, newD_f, cutB_t, cutB_f, f_divmod, f_repr, e_isx, e_try, e_seqL, setI_s, setI_n, dropI_s, dropI_n, e_lrg1, e_lrg2, e_trg1, e_trg2, onK_some, onK1_some, getS, startW, wipeW, Mth.T, Mth.sem, augI, if_true, if_false, Bool.false_eq_true, true_and, and_true, Bool.not_true, Bool.not_false, List.map, List.length, List.replicate, List.cons_append, List.nil_append, List.set_cons_zero, List.set_cons_succ, Nat.reduceAdd, Nat.reduceSub, Int.reduceAdd, Int.reduceSub, Int.reduceNeg, Int.reduceMul, Nat.zero_add, pick5 d0 d1]
    generalize hm0 : (if sty = 0 then (1 : Int) else if sty = 1 then 7 else if sty = 2 then 5 * 10000000000000000000000000000 else if sty = 3 then 9 else wide) = m
    have hm : 1 ≤ m ∧ m ≤ stT sty ∧ m ≤ 1000000000000000000000000000000 := by
      rw [← hm0]
      unfold stT
      rcases (show sty = 0 ∨ sty = 1 ∨ sty = 2 ∨ sty = 3 ∨ sty = 4 by omega) with rfl | rfl | rfl | rfl | rfl <;> simp <;> omega
    refine sip_ok F7 (by omega) (by omega) (by omega) fun r8 O8 k0 k1 F8 S8 => ?_
    have hp8 : O8 p = some (.lst (ns.map Dt.int)) := by rw [S8 p pf, S7 p pf]; exact h1
    try simp only [sb_none_bool, sb_none_int, sb_none_str, sb_none_tuple, sb_none_list, sb_none_dict, sb_bool_bool, sb_bool_int, sb_bool_str, sb_bool_tuple, sb_bool_list, sb_bool_dict, sb_int_bool, sb_int_int, sb_int_str, sb_int_tuple, sb_int_list, sb_int_dict, sb_str_bool, sb_str_int, sb_str_str, sb_str_tuple, sb_str_list, sb_str_dict, sb_tuple_bool, sb_tuple_int, sb_tuple_str, sb_tuple_tuple, sb_tuple_list, sb_tuple_dict, sb_list_bool, sb_list_int, sb_list_str, sb_list_tuple, sb_list_list, sb_list_dict, sb_dict_bool, sb_dict_int, sb_dict_str, sb_dict_tuple, sb_dict_list, sb_dict_dict, decide_true, decide_false, Bool.or_false, Bool.false_or, Bool.or_true, Bool.true_or, Bool.and_true, Bool.true_and, Bool.and_false, Bool.false_and, onBl_bl, onS_some, e_seq, e_asg, e_par, e_two, e_expr, e_retN, e_if, e_tst, e_brk, e_cnt, e_next, e_sub, e_ag, e_raise, e_for, e_var, e_cst, e_op, e_chn, asI_int, e_neg, e_not, e_and, e_or, e_ife, onB_some, e_isN, isN_non, isN_int, isN_bl, isN_str, isN_tup, isN_lst, isN_ref, e_sl, e_none, e_some, e_nil, e_cons, e_tup, e_lst, e_call, e_blt, onT_some, e_isi, e_isii, tn_non, tn_bl, tn_int, tn_str, tn_tup, tn_lst, e_mt, ty_str, ty_tup, ty_lst, e_comp, e_seqI, seqX_str, seqX_tup, seqX_lst, e_one1, e_enum, walk_tup, walk_lst, e_zip, zip_tup, zip_lst, e_rng1, e_rng2, e_yes, onL1_some, e_rev, newL_t, newL_f, asQ_lst, asQ_tup, tgt_one, tgt_pack, tgt_tup, b_add, add_int, add_str, add_tup, add_lst, b_sub, b_mul, mul_int, b_mod, b_fdiv, b_pow, c_eq, c_ne, c_lt, c_le, c_gt, c_ge, c_in, c_nin, eq_int, eq_str, eq_bl, eq_non, in_chr, idx_str, idx_tup, idx_lst, idx_scr, slc_str, slc_tup, slc_lst, slc_scr, f_len, len_str, len_tup, len_lst, len_scr, f_max2, f_min2, f_abs, f_stri, f_strs, f_ints, f_all, f_sum, f_max1, f_min1, f_list, f_tuple, f_sorted, f_sortT, f_dictP, e_listG, e_seqG, e_nilG, e_plainG, e_forG, e_yieldG, m_join, m_split, m_strip, m_index, e_ret, asL_lst, e_lset, e_sortR, e_dg, e_dsub, e_dnew, e_dcomp, e_back, e_fld, e_sfld, e_meth, e_make, key_int, key_str, asK_dct, newD_t, newD_f, cutB_t, cutB_f, f_divmod, f_repr, e_isx, e_try, e_seqL, setI_s, setI_n, dropI_s, dropI_n, e_lrg1, e_lrg2, e_trg1, e_trg2, onK_some, onK1_some, getS, startW, wipeW, Mth.T, Mth.sem, augI, if_true, if_false, Bool.false_eq_true, true_and, and_true, Bool.not_true, Bool.not_false, List.map, List.length, List.replicate, List.cons_append, List.nil_append, List.set_cons_zero, List.set_cons_succ, Nat.reduceAdd, Nat.reduceSub, Int.reduceAdd, Int.reduceSub, Int.reduceNeg, Int.reduceMul, Nat.zero_add, ty_ref hp8, m_append hp8]
    have hst : (j : Int) * stT sty + stT sty ≤ 40 * stT sty := by
      have : ((j : Int) + 1) * stT sty ≤ 40 * stT sty := Int.mul_le_mul_of_nonneg_right (by omega) (by omega)
      rw [Int.add_mul, Int.one_mul] at this
      exact this
    refine ⟨by rw [List.length_map]; show ns.length < 16777216; omega, hN _ _ ⟨ns ++ [last + 1 + r8], last + 1 + r8, _, _, rfl, ?_, by simp [h2], ?_, ?_, ⟨by omega, ?_⟩, ?_, ?_⟩⟩
    · rw [List.map_append]
      exact upo_same
    · rw [List.pairwise_append]
      exact ⟨h3, by simp, fun x hx y hy => by simp at hy; have := (h4 x hx).1; omega⟩
    · intro x hx
      rcases List.mem_append.mp hx with hx | hx
      · exact ⟨by have := (h4 x hx).1; omega, (h4 x hx).2⟩
      · simp at hx
        subst hx
        exact ⟨by omega, by omega, by omega⟩
    · have e : (((j + 1 : Nat) : Int)) * stT sty = (j : Int) * stT sty + stT sty := by
        rw [Int.natCast_add, Int.add_mul]
        omega
      rw [e]
      omega
    · exact (F8.at_ (upo_ne (Ne.symm pf))).mono (by omega)
    · intro a ha1 ha2
      rw [upo_ne ha2, S8 a ha1, S7 a ha1]
      exact h7 a ha1 ha2
  · rintro τ O' ⟨ns, last, v6, v7, rfl, h1, h2, h3, h4, h5, h6, h7⟩
    rw [Nat.zero_add, rngY_len] at *
    try simp only [sb_none_bool, sb_none_int, sb_none_str, sb_none_tuple, sb_none_list, sb_none_dict, sb_bool_bool, sb_bool_int, sb_bool_str, sb_bool_tuple, sb_bool_list, sb_bool_dict, sb_int_bool, sb_int_int, sb_int_str, sb_int_tuple, sb_int_list, sb_int_dict, sb_str_bool, sb_str_int, sb_str_str, sb_str_tuple, sb_str_list, sb_str_dict, sb_tuple_bool, sb_tuple_int, sb_tuple_str, sb_tuple_tuple, sb_tuple_list, sb_tuple_dict, sb_list_bool, sb_list_int, sb_list_str, sb_list_tuple, sb_list_list, sb_list_dict, sb_dict_bool, sb_dict_int, sb_dict_str, sb_dict_tuple, sb_dict_list, sb_dict_dict, decide_true, decide_false, Bool.or_false, Bool.false_or, Bool.or_true, Bool.true_or, Bool.and_true, Bool.true_and, Bool.and_false, Bool.false_and, onBl_bl, onS_some, e_seq, e_asg, e_par, e_two, e_expr, e_retN, e_if, e_tst, e_brk, e_cnt, e_next, e_sub, e_ag, e_raise, e_for, e_var, e_cst, e_op, e_chn, asI_int, e_neg, e_not, e_and, e_or, e_ife, onB_some, e_isN, isN_non, isN_int, isN_bl, isN_str, isN_tup, isN_lst, isN_ref, e_sl, e_none, e_some, e_nil, e_cons, e_tup, e_lst, e_call, e_blt, onT_some, e_isi, e_isii, tn_non, tn_bl, tn_int, tn_str, tn_tup, tn_lst, e_mt, ty_str, ty_tup, ty_lst, e_comp, e_seqI, seqX_str, seqX_tup, seqX_lst, e_one1, e_enum, walk_tup, walk_lst, e_zip, zip_tup, zip_lst, e_rng1, e_rng2, e_yes, onL1_some, e_rev, newL_t, newL_f, asQ_lst, asQ_tup, tgt_one, tgt_pack, tgt_tup, b_add, add_int, add_str, add_tup, add_lst, b_sub, b_mul, mul_int, b_mod, b_fdiv, b_pow, c_eq, c_ne, c_lt, c_le, c_gt, c_ge, c_in, c_nin, eq_int, eq_str, eq_bl, eq_non, in_chr, idx_str, idx_tup, idx_lst, idx_scr, slc_str, slc_tup, slc_lst, slc_scr, f_len, len_str, len_tup, len_lst, len_scr, f_max2, f_min2, f_abs, f_stri, f_strs, f_ints, f_all, f_sum, f_max1, f_min1, f_list, f_tuple, f_sorted, f_sortT, f_dictP, e_listG, e_seqG, e_nilG, e_plainG, e_forG, e_yieldG, m_join, m_split, m_strip, m_index, e_ret, asL_lst, e_lset, e_sortR, e_dg, e_dsub, e_dnew, e_dcomp, e_back, e_fld, e_sfld, e_meth, e_make, key_int, key_str, asK_dct, newD_t, newD_f, cutB_t, cutB_f, f_divmod, f_repr, e_isx, e_try, e_seqL, setI_s, setI_n, dropI_s, dropI_n, e_lrg1, e_lrg2, e_trg1, e_trg2, onK_some, onK1_some, getS, startW, wipeW, Mth.T, Mth.sem, augI, if_true, if_false, Bool.false_eq_true, true_and, and_true, Bool.not_true, Bool.not_false, List.map, List.length, List.replicate, List.cons_append, List.nil_append, List.set_cons_zero, List.set_cons_succ, Nat.reduceAdd, Nat.reduceSub, Int.reduceAdd, Int.reduceSub, Int.reduceNeg, Int.reduceMul, Nat.zero_add]
    refine Ang.frz h1 (rmo_le (p := p)) rmo_same (q ns _ ⟨by omega, by omega, h3, fun i hi => (h4 i hi).2⟩ (by omega) ((h6.at_ (rmo_ne (Ne.symm pf))).mono (by omega)) fun a ha => ?_)
    by_cases hap : a = p
    · rw [hap, rmo_same]
      have : O p = O4 p := by rw [S4 p pf, S3 p pf, S2 p pf, S1 p pf]
      rw [this, hp]
    · rw [rmo_ne hap]
      exact h7 a ha hap
end TF

/-! P5: a drawn queue; equality with kinds -/
namespace TF
open PySem L2 TL

theorem Que.perm {ns ms : List Int} (h : Que ns) (p : ms.Perm ns) : Que ms := ⟨by rw [p.length_eq]; exact h.l1, by rw [p.length_eq]; exact h.l40, p.nodup_iff.mpr h.nd, fun i hi => h.hs i (p.mem_iff.mp hi)⟩
theorem Asc.que {ns : List Int} (h : Asc ns) : Que ns := ⟨h.l1, h.l40, h.up.imp fun h => by omega, h.hs⟩
theorem perm_ints {l : List Dt} {ns : List Int} (p : l.Perm (ns.map Dt.int)) : ∃ ms : List Int, l = ms.map Dt.int ∧ ms.Perm ns := by
  refine ⟨intsOf l, ?_, ?_⟩
  · unfold intsOf
    rw [List.map_map]
    refine (List.map_id' l).symm.trans (List.map_congr_left fun x hx => ?_)
    obtain ⟨i, _, rfl⟩ := List.mem_map.mp (p.mem_iff.mp hx)
    rfl
  · have := p.map intOf
    rw [List.map_map] at this
    have e : ns.map (intOf ∘ Dt.int) = ns := List.map_id' ns
    rw [e] at this
    exact this
theorem map_drop_int {ns : List Int} {n : Nat} : (ns.map Dt.int).drop n = (ns.drop n).map Dt.int := (List.map_drop).symm
theorem map_take_int {ns : List Int} {n : Nat} : (ns.map Dt.int).take n = (ns.take n).map Dt.int := (List.map_take).symm
theorem map_rev_int {ns : List Int} : (ns.map Dt.int).reverse = ns.reverse.map Dt.int := (List.map_reverse).symm
def sp_law_line : SpW := fun ws O Q E => ∃ f most B, ws = [.ref f, .int most] ∧ 1 ≤ most ∧ most ≤ 40 ∧ Fo O f B ∧ B ≤ 5000 ∧ ∀ ns O', Que ns → (ns.length : Int) ≤ most → Fo O' f (B + 400) → Sm f O O' → Q (qD ns) O'
def sem_law_line : TSw := seqW (asgW (callW sp_law_people (consA (varW 0) (consA (varW 1) (nilA)))) (.one 2))
  (seqW (asgW (lstW true (consA (varW 2) (consA (revW true (varW 2)) (consA (callW sp_law_mixed (consA (varW 0) (consA (varW 2) (nilA)))) (consA (callW sp_law_mixed (consA (varW 0) (consA (varW 2) (nilA)))) (consA (opW (binW .add true) (slW true (varW 2) (someO (cstW (.int 1))) (noneO)) (slW true (varW 2) (noneO) (someO (cstW (.int 1))))) (nilA))))))) (.one 3))
  (retW (bltW (Blt.sem .tuple) (consA (opW idxW (varW 3) (callW sp_law_sip (consA (varW 0) (consA (cstW (.int 5)) (nilA))))) (nilA)))))
theorem pick5D {a b c d e : Dt} {i : Int} (h0 : 0 ≤ i) (h1 : i < 5) : ∃ m, (m = a ∨ m = b ∨ m = c ∨ m = d ∨ m = e) ∧ L2.atI [a, b, c, d, e] i = some m := by
  rcases (show i = 0 ∨ i = 1 ∨ i = 2 ∨ i = 3 ∨ i = 4 by omega) with rfl | rfl | rfl | rfl | rfl
  · exact ⟨a, .inl rfl, at_nat (j := 0) rfl rfl⟩
  · exact ⟨b, .inr (.inl rfl), at_nat (j := 1) rfl rfl⟩
  · exact ⟨c, .inr (.inr (.inl rfl)), at_nat (j := 2) rfl rfl⟩
  · exact ⟨d, .inr (.inr (.inr (.inl rfl))), at_nat (j := 3) rfl rfl⟩
  · exact ⟨e, .inr (.inr (.inr (.inr rfl))), at_nat (j := 4) rfl rfl⟩
theorem law_line_ok : ∀ ws O Q E, sp_law_line ws O Q E → semFn 2 4 sem_law_line ws O Q E := by
  rintro ws O Q E ⟨f, most, B, rfl, m1, m2, F, hB, q⟩
  refine ⟨rfl, ?_⟩
  try simp only [sem_law_line, sb_none_bool, sb_none_int, sb_none_str, sb_none_tuple, sb_none_list, sb_none_dict, sb_bool_bool, sb_bool_int, sb_bool_str, sb_bool_tuple, sb_bool_list, sb_bool_dict, sb_int_bool, sb_int_int, sb_int_str, sb_int_tuple, sb_int_list, sb_int_dict, sb_str_bool, sb_str_int, sb_str_str, sb_str_tuple, sb_str_list, sb_str_dict, sb_tuple_bool, sb_tuple_int, sb_tuple_str, sb_tuple_tuple, sb_tuple_list, sb_tuple_dict, sb_list_bool, sb_list_int, sb_list_str, sb_list_tuple, sb_list_list, sb_list_dict, sb_dict_bool, sb_dict_int, sb_dict_str, sb_dict_tuple, sb_dict_list, sb_dict_dict, decide_true, decide_false, Bool.or_false, Bool.false_or, Bool.or_true, Bool.true_or, Bool.and_true, Bool.true_and, Bool.and_false, Bool.false_and, onBl_bl, onS_some, e_seq, e_asg, e_par, e_two, e_expr, e_retN, e_if, e_tst, e_brk, e_cnt, e_next, e_sub, e_ag, e_raise, e_for, e_var, e_cst, e_op, e_chn, asI_int, e_neg, e_not, e_and, e_or, e_ife, onB_some, e_isN, isN_non, isN_int, isN_bl, isN_str, isN_tup, isN_lst, isN_ref, e_sl, e_none, e_some, e_nil, e_cons, e_tup, e_lst, e_call, e_blt, onT_some, e_isi, e_isii, tn_non, tn_bl, tn_int, tn_str, tn_tup, tn_lst, e_mt, ty_str, ty_tup, ty_lst, e_comp, e_seqI, seqX_str, seqX_tup, seqX_lst, e_one1, e_enum, walk_tup, walk_lst, e_zip, zip_tup, zip_lst, e_rng1, e_rng2, e_yes, onL1_some, e_rev, newL_t, newL_f, asQ_lst, asQ_tup, tgt_one, tgt_pack, tgt_tup, b_add, add_int, add_str, add_tup, add_lst, b_sub, b_mul, mul_int, b_mod, b_fdiv, b_pow, c_eq, c_ne, c_lt, c_le, c_gt, c_ge, c_in, c_nin, eq_int, eq_str, eq_bl, eq_non, in_chr, idx_str, idx_tup, idx_lst, idx_scr, slc_str, slc_tup, slc_lst, slc_scr, f_len, len_str, len_tup, len_lst, len_scr, f_max2, f_min2, f_abs, f_stri, f_strs, f_ints, f_all, f_sum, f_max1, f_min1, f_list, f_tuple, f_sorted, f_sortT, f_dictP, e_listG, e_seqG, e_nilG, e_plainG, e_forG, e_yieldG, m_join, m_split, m_strip, m_index, e_ret, asL_lst, e_lset, e_sortR, e_dg, e_dsub, e_dnew, e_dcomp, e_back, e_fld, e_sfld, e_meth, e_make, key_int, key_str, asK_dct, newD_t, newD_f, cutB_t, cutB_f, f_divmod, f_repr, e_isx, e_try, e_seqL, setI_s, setI_n, dropI_s, dropI_n, e_lrg1, e_lrg2, e_trg1, e_trg2, onK_some, onK1_some, getS, startW, wipeW, Mth.T, Mth.sem, augI, if_true, if_false, Bool.false_eq_true, true_and, and_true, Bool.not_true, Bool.not_false, List.map, List.length, List.replicate, List.cons_append, List.nil_append, List.set_cons_zero, List.set_cons_succ, Nat.reduceAdd, Nat.reduceSub, Int.reduceAdd, Int.reduceSub, Int.reduceNeg, Int.reduceMul, Nat.zero_add]
  refine ⟨f, most, B, rfl, m1, m2, F, by omega, fun ns O1 hA hl F1 S1 => ?_⟩
  have h40 := hA.l40
  try simp only [sb_none_bool, sb_none_int, sb_none_str, sb_none_tuple, sb_none_list, sb_none_dict, sb_bool_bool, sb_bool_int, sb_bool_str, sb_bool_tuple, sb_bool_list, sb_bool_dict, sb_int_bool, sb_int_int, sb_int_str, sb_int_tuple, sb_int_list, sb_int_dict, sb_str_bool, sb_str_int, sb_str_str, sb_str_tuple, sb_str_list, sb_str_dict, sb_tuple_bool, sb_tuple_int, sb_tuple_str, sb_tuple_tuple, sb_tuple_list, sb_tuple_dict, sb_list_bool, sb_list_int, sb_list_str, sb_list_tuple, sb_list_list, sb_list_dict, sb_dict_bool, sb_dict_int, sb_dict_str, sb_dict_tuple, sb_dict_list, sb_dict_dict, decide_true, decide_false, Bool.or_false, Bool.false_or, Bool.or_true, Bool.true_or, Bool.and_true, Bool.true_and, Bool.and_false, Bool.false_and, onBl_bl, onS_some, e_seq, e_asg, e_par, e_two, e_expr, e_retN, e_if, e_tst, e_brk, e_cnt, e_next, e_sub, e_ag, e_raise, e_for, e_var, e_cst, e_op, e_chn, asI_int, e_neg, e_not, e_and, e_or, e_ife, onB_some, e_isN, isN_non, isN_int, isN_bl, isN_str, isN_tup, isN_lst, isN_ref, e_sl, e_none, e_some, e_nil, e_cons, e_tup, e_lst, e_call, e_blt, onT_some, e_isi, e_isii, tn_non, tn_bl, tn_int, tn_str, tn_tup, tn_lst, e_mt, ty_str, ty_tup, ty_lst, e_comp, e_seqI, seqX_str, seqX_tup, seqX_lst, e_one1, e_enum, walk_tup, walk_lst, e_zip, zip_tup, zip_lst, e_rng1, e_rng2, e_yes, onL1_some, e_rev, newL_t, newL_f, asQ_lst, asQ_tup, tgt_one, tgt_pack, tgt_tup, b_add, add_int, add_str, add_tup, add_lst, b_sub, b_mul, mul_int, b_mod, b_fdiv, b_pow, c_eq, c_ne, c_lt, c_le, c_gt, c_ge, c_in, c_nin, eq_int, eq_str, eq_bl, eq_non, in_chr, idx_str, idx_tup, idx_lst, idx_scr, slc_str, slc_tup, slc_lst, slc_scr, f_len, len_str, len_tup, len_lst, len_scr, f_max2, f_min2, f_abs, f_stri, f_strs, f_ints, f_all, f_sum, f_max1, f_min1, f_list, f_tuple, f_sorted, f_sortT, f_dictP, e_listG, e_seqG, e_nilG, e_plainG, e_forG, e_yieldG, m_join, m_split, m_strip, m_index, e_ret, asL_lst, e_lset, e_sortR, e_dg, e_dsub, e_dnew, e_dcomp, e_back, e_fld, e_sfld, e_meth, e_make, key_int, key_str, asK_dct, newD_t, newD_f, cutB_t, cutB_f, f_divmod, f_repr, e_isx, e_try, e_seqL, setI_s, setI_n, dropI_s, dropI_n, e_lrg1, e_lrg2, e_trg1, e_trg2, onK_some, onK1_some, getS, startW, wipeW, Mth.T, Mth.sem, augI, if_true, if_false, Bool.false_eq_true, true_and, and_true, Bool.not_true, Bool.not_false, List.map, List.length, List.replicate, List.cons_append, List.nil_append, List.set_cons_zero, List.set_cons_succ, Nat.reduceAdd, Nat.reduceSub, Int.reduceAdd, Int.reduceSub, Int.reduceNeg, Int.reduceMul, Nat.zero_add]
  refine ⟨f, _, _, _, rfl, (fun a e => by cases e), rfl, by rw [List.length_map]; omega, F1, by omega, fun l2 O2 p2 F2 S2 => ?_⟩
  try simp only [sb_none_bool, sb_none_int, sb_none_str, sb_none_tuple, sb_none_list, sb_none_dict, sb_bool_bool, sb_bool_int, sb_bool_str, sb_bool_tuple, sb_bool_list, sb_bool_dict, sb_int_bool, sb_int_int, sb_int_str, sb_int_tuple, sb_int_list, sb_int_dict, sb_str_bool, sb_str_int, sb_str_str, sb_str_tuple, sb_str_list, sb_str_dict, sb_tuple_bool, sb_tuple_int, sb_tuple_str, sb_tuple_tuple, sb_tuple_list, sb_tuple_dict, sb_list_bool, sb_list_int, sb_list_str, sb_list_tuple, sb_list_list, sb_list_dict, sb_dict_bool, sb_dict_int, sb_dict_str, sb_dict_tuple, sb_dict_list, sb_dict_dict, decide_true, decide_false, Bool.or_false, Bool.false_or, Bool.or_true, Bool.true_or, Bool.and_true, Bool.true_and, Bool.and_false, Bool.false_and, onBl_bl, onS_some, e_seq, e_asg, e_par, e_two, e_expr, e_retN, e_if, e_tst, e_brk, e_cnt, e_next, e_sub, e_ag, e_raise, e_for, e_var, e_cst, e_op, e_chn, asI_int, e_neg, e_not, e_and, e_or, e_ife, onB_some, e_isN, isN_non, isN_int, isN_bl, isN_str, isN_tup, isN_lst, isN_ref, e_sl, e_none, e_some, e_nil, e_cons, e_tup, e_lst, e_call, e_blt, onT_some, e_isi, e_isii, tn_non, tn_bl, tn_int, tn_str, tn_tup, tn_lst, e_mt, ty_str, ty_tup, ty_lst, e_comp, e_seqI, seqX_str, seqX_tup, seqX_lst, e_one1, e_enum, walk_tup, walk_lst, e_zip, zip_tup, zip_lst, e_rng1, e_rng2, e_yes, onL1_some, e_rev, newL_t, newL_f, asQ_lst, asQ_tup, tgt_one, tgt_pack, tgt_tup, b_add, add_int, add_str, add_tup, add_lst, b_sub, b_mul, mul_int, b_mod, b_fdiv, b_pow, c_eq, c_ne, c_lt, c_le, c_gt, c_ge, c_in, c_nin, eq_int, eq_str, eq_bl, eq_non, in_chr, idx_str, idx_tup, idx_lst, idx_scr, slc_str, slc_tup, slc_lst, slc_scr, f_len, len_str, len_tup, len_lst, len_scr, f_max2, f_min2, f_abs, f_stri, f_strs, f_ints, f_all, f_sum, f_max1, f_min1, f_list, f_tuple, f_sorted, f_sortT, f_dictP, e_listG, e_seqG, e_nilG, e_plainG, e_forG, e_yieldG, m_join, m_split, m_strip, m_index, e_ret, asL_lst, e_lset, e_sortR, e_dg, e_dsub, e_dnew, e_dcomp, e_back, e_fld, e_sfld, e_meth, e_make, key_int, key_str, asK_dct, newD_t, newD_f, cutB_t, cutB_f, f_divmod, f_repr, e_isx, e_try, e_seqL, setI_s, setI_n, dropI_s, dropI_n, e_lrg1, e_lrg2, e_trg1, e_trg2, onK_some, onK1_some, getS, startW, wipeW, Mth.T, Mth.sem, augI, if_true, if_false, Bool.false_eq_true, true_and, and_true, Bool.not_true, Bool.not_false, List.map, List.length, List.replicate, List.cons_append, List.nil_append, List.set_cons_zero, List.set_cons_succ, Nat.reduceAdd, Nat.reduceSub, Int.reduceAdd, Int.reduceSub, Int.reduceNeg, Int.reduceMul, Nat.zero_add]
  refine ⟨f, _, _, _, rfl, (fun a e => by cases e), rfl, by rw [List.length_map]; omega, F2, by rw [List.length_map]; omega, fun l3 O3 p3 F3 S3 => ?_⟩
  try simp only [sb_none_bool, sb_none_int, sb_none_str, sb_none_tuple, sb_none_list, sb_none_dict, sb_bool_bool, sb_bool_int, sb_bool_str, sb_bool_tuple, sb_bool_list, sb_bool_dict, sb_int_bool, sb_int_int, sb_int_str, sb_int_tuple, sb_int_list, sb_int_dict, sb_str_bool, sb_str_int, sb_str_str, sb_str_tuple, sb_str_list, sb_str_dict, sb_tuple_bool, sb_tuple_int, sb_tuple_str, sb_tuple_tuple, sb_tuple_list, sb_tuple_dict, sb_list_bool, sb_list_int, sb_list_str, sb_list_tuple, sb_list_list, sb_list_dict, sb_dict_bool, sb_dict_int, sb_dict_str, sb_dict_tuple, sb_dict_list, sb_dict_dict, decide_true, decide_false, Bool.or_false, Bool.false_or, Bool.or_true, Bool.true_or, Bool.and_true, Bool.true_and, Bool.and_false, Bool.false_and, onBl_bl, onS_some, e_seq, e_asg, e_par, e_two, e_expr, e_retN, e_if, e_tst, e_brk, e_cnt, e_next, e_sub, e_ag, e_raise, e_for, e_var, e_cst, e_op, e_chn, asI_int, e_neg, e_not, e_and, e_or, e_ife, onB_some, e_isN, isN_non, isN_int, isN_bl, isN_str, isN_tup, isN_lst, isN_ref, e_sl, e_none, e_some, e_nil, e_cons, e_tup, e_lst, e_call, e_blt, onT_some, e_isi, e_isii, tn_non, tn_bl, tn_int, tn_str, tn_tup, tn_lst, e_mt, ty_str, ty_tup, ty_lst, e_comp, e_seqI, seqX_str, seqX_tup, seqX_lst, e_one1, e_enum, walk_tup, walk_lst, e_zip, zip_tup, zip_lst, e_rng1, e_rng2, e_yes, onL1_some, e_rev, newL_t, newL_f, asQ_lst, asQ_tup, tgt_one, tgt_pack, tgt_tup, b_add, add_int, add_str, add_tup, add_lst, b_sub, b_mul, mul_int, b_mod, b_fdiv, b_pow, c_eq, c_ne, c_lt, c_le, c_gt, c_ge, c_in, c_nin, eq_int, eq_str, eq_bl, eq_non, in_chr, idx_str, idx_tup, idx_lst, idx_scr, slc_str, slc_tup, slc_lst, slc_scr, f_len, len_str, len_tup, len_lst, len_scr, f_max2, f_min2, f_abs, f_stri, f_strs, f_ints, f_all, f_sum, f_max1, f_min1, f_list, f_tuple, f_sorted, f_sortT, f_dictP, e_listG, e_seqG, e_nilG, e_plainG, e_forG, e_yieldG, m_join, m_split, m_strip, m_index, e_ret, asL_lst, e_lset, e_sortR, e_dg, e_dsub, e_dnew, e_dcomp, e_back, e_fld, e_sfld, e_meth, e_make, key_int, key_str, asK_dct, newD_t, newD_f, cutB_t, cutB_f, f_divmod, f_repr, e_isx, e_try, e_seqL, setI_s, setI_n, dropI_s, dropI_n, e_lrg1, e_lrg2, e_trg1, e_trg2, onK_some, onK1_some, getS, startW, wipeW, Mth.T, Mth.sem, augI, if_true, if_false, Bool.false_eq_true, true_and, and_true, Bool.not_true, Bool.not_false, List.map, List.length, List.replicate, List.cons_append, List.nil_append, List.set_cons_zero, List.set_cons_succ, Nat.reduceAdd, Nat.reduceSub, Int.reduceAdd, Int.reduceSub, Int.reduceNeg, Int.reduceMul, Nat.zero_add, cutD_from (show (0 : Int) ≤ 1 by omega), cutD_to (show (0 : Int) ≤ 1 by omega)]
  rw [List.length_map] at *
  refine ⟨?_, by decide, ?_⟩
  · rw [List.length_drop, List.length_take, List.length_map]
    show _ ≤ 16777216
    omega
  refine sip_ok F3 (by omega) (by omega) (by omega) fun r O4 a0 a1 F4 S4 => ?_
  obtain ⟨m, hm, em⟩ := pick5D (a := Dt.lst (ns.map Dt.int)) (b := .lst (ns.map Dt.int).reverse) (c := .lst l2) (d := .lst l3) (e := .lst ((ns.map Dt.int).drop (Int.toNat 1) ++ (ns.map Dt.int).take (Int.toNat 1))) a0 a1
  have key : ∃ ms : List Int, m = .lst (ms.map Dt.int) ∧ ms.Perm ns := by
    rcases hm with rfl | rfl | rfl | rfl | rfl
    · exact ⟨ns, rfl, List.Perm.refl _⟩
    · exact ⟨ns.reverse, by rw [map_rev_int], List.reverse_perm ns⟩
    · obtain ⟨ms, rfl, h⟩ := perm_ints p2
      exact ⟨ms, rfl, h⟩
    · obtain ⟨ms, rfl, h⟩ := perm_ints p3
      exact ⟨ms, rfl, h⟩
    · refine ⟨ns.drop (Int.toNat 1) ++ ns.take (Int.toNat 1), by rw [map_drop_int, map_take_int, List.map_append], ?_⟩
      have := List.perm_append_comm (l₁ := ns.drop (Int.toNat 1)) (l₂ := ns.take (Int.toNat 1))
      rw [List.take_append_drop] at this
      exact this
  obtain ⟨ms, rfl, hp⟩ := key
  try simp only [sb_none_bool, sb_none_int, sb_none_str, sb_none_tuple, sb_none_list, sb_none_dict, sb_bool_bool, sb_bool_int, sb_bool_str, sb_bool_tuple, sb_bool_list, sb_bool_dict, sb_int_bool, sb_int_int, sb_int_str, sb_int_tuple, sb_int_list, sb_int_dict, sb_str_bool, sb_str_int, sb_str_str, sb_str_tuple, sb_str_list, sb_str_dict, sb_tuple_bool, sb_tuple_int, sb_tuple_str, sb_tuple_tuple, sb_tuple_list, sb_tuple_dict, sb_list_bool, sb_list_int, sb_list_str, sb_list_tuple, sb_list_list, sb_list_dict, sb_dict_bool, sb_dict_int, sb_dict_str, sb_dict_tuple, sb_dict_list, sb_dict_dict, decide_true, decide_false, Bool.or_false, Bool.false_or, Bool.or_true, Bool.true_or, Bool.and_true, Bool.true_and, Bool.and_false, Bool.false_and, onBl_bl, onS_some, e_seq, e_asg, e_par, e_two, e_expr, e_retN, e_if, e_tst, e_brk, e_cnt, e_next, e_sub, e_ag, e_raise, e_for, e_var, e_cst, e_op, e_chn, asI_int, e_neg, e_not, e_and, e_or, e_ife, onB_some, e_isN, isN_non, isN_int, isN_bl, isN_str, isN_tup, isN_lst, isN_ref, e_sl, e_none, e_some, e_nil, e_cons, e_tup, e_lst, e_call, e_blt, onT_some, e_isi, e_isii, tn_non, tn_bl, tn_int, tn_str, tn_tup, tn_lst, e_mt, ty_str, ty_tup, ty_lst, e_comp, e_seqI, seqX_str, seqX_tup, seqX_lst, e_one1, e_enum, walk_tup, walk_lst, e_zip, zip_tup, zip_lst, e_rng1, e_rng2, e_yes, onL1_some, e_rev, newL_t, newL_f, asQ_lst, asQ_tup, tgt_one, tgt_pack, tgt_tup, b_add, add_int, add_str, add_tup, add_lst, b_sub, b_mul, mul_int, b_mod, b_fdiv, b_pow, c_eq, c_ne, c_lt, c_le, c_gt, c_ge, c_in, c_nin, eq_int, eq_str, eq_bl, eq_non, in_chr, idx_str, idx_tup, idx_lst, idx_scr, slc_str, slc_tup, slc_lst, slc_scr, f_len, len_str, len_tup, len_lst, len_scr, f_max2, f_min2, f_abs, f_stri, f_strs, f_ints, f_all, f_sum, f_max1, f_min1, f_list, f_tuple, f_sorted, f_sortT, f_dictP, e_listG, e_seqG, e_nilG, e_plainG, e_forG, e_yieldG, m_join, m_split, m_strip, m_index, e_ret, asL_lst, e_lset, e_sortR, e_dg, e_dsub, e_dnew, e_dcomp, e_back, e_fld, e_sfld, e_meth, e_make, key_int, key_str, asK_dct, newD_t, newD_f, cutB_t, cutB_f, f_divmod, f_repr, e_isx, e_try, e_seqL, setI_s, setI_n, dropI_s, dropI_n, e_lrg1, e_lrg2, e_trg1, e_trg2, onK_some, onK1_some, getS, startW, wipeW, Mth.T, Mth.sem, augI, if_true, if_false, Bool.false_eq_true, true_and, and_true, Bool.not_true, Bool.not_false, List.map, List.length, List.replicate, List.cons_append, List.nil_append, List.set_cons_zero, List.set_cons_succ, Nat.reduceAdd, Nat.reduceSub, Int.reduceAdd, Int.reduceSub, Int.reduceNeg, Int.reduceMul, Nat.zero_add, em]
  refine Ang.keep (q ms O4 (hA.que.perm hp) (by rw [hp.length_eq]; exact hl) (F4.mono (by omega)) fun a ha => by rw [S4 a ha, S3 a ha, S2 a ha, S1 a ha])

/-! ### equality with kinds -/
/-- of ints -/
def sp_same0 : SpW := fun ws O Q E => ∃ a b : Int, ws = [.int a, .int b] ∧ Q (.bl (decide (a = b))) O
/-- of tuples of ints -/
def sp_law_same : SpW := fun ws O Q E => ∃ ns ms : List Int, ws = [qD ns, qD ms] ∧ ms.length ≤ 1000 ∧ Q (.bl (decide (ns = ms))) O
def sem_law_same (sp_law_same : SpW) : TSw := seqW (ifW (tstW (isiiW .list .tuple (varW 1)))
  (seqW (ifW (tstW (orW (opW (cmpW .ne) (isiW .list (varW 0)) (isiW .list (varW 1))) (opW (cmpW .ne) (isiW .tuple (varW 0)) (isiW .tuple (varW 1)))))
  (retW (cstW (.bl false)))
  (nextW))
  (retW (andW (opW (cmpW .eq) (bltW (Blt.sem .len) (consA (varW 0) (nilA))) (bltW (Blt.sem .len) (consA (varW 1) (nilA)))) (bltW (Blt.sem .all) (consA (compW true (rng1I (consA (bltW (Blt.sem .len) (consA (varW 1) (nilA))) (nilA))) (.one 2) (yesT) (callW sp_law_same (consA (opW idxW (varW 0) (varW 2)) (consA (opW idxW (varW 1) (varW 2)) (nilA)))) [2]) (nilA))))))
  (nextW))
  (retW (andW (opW (cmpW .eq) (isiW .bool (varW 0)) (isiW .bool (varW 1))) (opW (cmpW .eq) (varW 0) (varW 1))))
theorem law_same0_ok : ∀ ws O Q E, sp_same0 ws O Q E → semFn 2 3 (sem_law_same fun _ _ _ _ => False) ws O Q E := by
  rintro ws O Q E ⟨a, b, rfl, q⟩
  refine ⟨rfl, ?_⟩
  try simp only [sem_law_same, sb_none_bool, sb_none_int, sb_none_str, sb_none_tuple, sb_none_list, sb_none_dict, sb_bool_bool, sb_bool_int, sb_bool_str, sb_bool_tuple, sb_bool_list, sb_bool_dict, sb_int_bool, sb_int_int, sb_int_str, sb_int_tuple, sb_int_list, sb_int_dict, sb_str_bool, sb_str_int, sb_str_str, sb_str_tuple, sb_str_list, sb_str_dict, sb_tuple_bool, sb_tuple_int, sb_tuple_str, sb_tuple_tuple, sb_tuple_list, sb_tuple_dict, sb_list_bool, sb_list_int, sb_list_str, sb_list_tuple, sb_list_list, sb_list_dict, sb_dict_bool, sb_dict_int, sb_dict_str, sb_dict_tuple, sb_dict_list, sb_dict_dict, decide_true, decide_false, Bool.or_false, Bool.false_or, Bool.or_true, Bool.true_or, Bool.and_true, Bool.true_and, Bool.and_false, Bool.false_and, onBl_bl, onS_some, e_seq, e_asg, e_par, e_two, e_expr, e_retN, e_if, e_tst, e_brk, e_cnt, e_next, e_sub, e_ag, e_raise, e_for, e_var, e_cst, e_op, e_chn, asI_int, e_neg, e_not, e_and, e_or, e_ife, onB_some, e_isN, isN_non, isN_int, isN_bl, isN_str, isN_tup, isN_lst, isN_ref, e_sl, e_none, e_some, e_nil, e_cons, e_tup, e_lst, e_call, e_blt, onT_some, e_isi, e_isii, tn_non, tn_bl, tn_int, tn_str, tn_tup, tn_lst, e_mt, ty_str, ty_tup, ty_lst, e_comp, e_seqI, seqX_str, seqX_tup, seqX_lst, e_one1, e_enum, walk_tup, walk_lst, e_zip, zip_tup, zip_lst, e_rng1, e_rng2, e_yes, onL1_some, e_rev, newL_t, newL_f, asQ_lst, asQ_tup, tgt_one, tgt_pack, tgt_tup, b_add, add_int, add_str, add_tup, add_lst, b_sub, b_mul, mul_int, b_mod, b_fdiv, b_pow, c_eq, c_ne, c_lt, c_le, c_gt, c_ge, c_in, c_nin, eq_int, eq_str, eq_bl, eq_non, in_chr, idx_str, idx_tup, idx_lst, idx_scr, slc_str, slc_tup, slc_lst, slc_scr, f_len, len_str, len_tup, len_lst, len_scr, f_max2, f_min2, f_abs, f_stri, f_strs, f_ints, f_all, f_sum, f_max1, f_min1, f_list, f_tuple, f_sorted, f_sortT, f_dictP, e_listG, e_seqG, e_nilG, e_plainG, e_forG, e_yieldG, m_join, m_split, m_strip, m_index, e_ret, asL_lst, e_lset, e_sortR, e_dg, e_dsub, e_dnew, e_dcomp, e_back, e_fld, e_sfld, e_meth, e_make, key_int, key_str, asK_dct, newD_t, newD_f, cutB_t, cutB_f, f_divmod, f_repr, e_isx, e_try, e_seqL, setI_s, setI_n, dropI_s, dropI_n, e_lrg1, e_lrg2, e_trg1, e_trg2, onK_some, onK1_some, getS, startW, wipeW, Mth.T, Mth.sem, augI, if_true, if_false, Bool.false_eq_true, true_and, and_true, Bool.not_true, Bool.not_false, List.map, List.length, List.replicate, List.cons_append, List.nil_append, List.set_cons_zero, List.set_cons_succ, Nat.reduceAdd, Nat.reduceSub, Int.reduceAdd, Int.reduceSub, Int.reduceNeg, Int.reduceMul, Nat.zero_add]
  exact Ang.keep q
theorem all_zip {ns ms : List Int} (h : ns.length = ms.length) : ((List.range ms.length).map fun i => decide (ns[i]? = ms[i]?)).all id = decide (ns = ms) := by
  by_cases e : ns = ms
  · rw [decide_eq_true e, List.all_eq_true]
    intro x hx
    obtain ⟨i, _, rfl⟩ := List.mem_map.mp hx
    rw [e]
    exact decide_eq_true rfl
  · rw [decide_eq_false e]
    cases hb : ((List.range ms.length).map fun i => decide (ns[i]? = ms[i]?)).all id with
    | false => rfl
    | true =>
      refine absurd (List.ext_getElem? fun i => ?_) e
      by_cases hi : i < ms.length
      · have := List.all_eq_true.mp hb _ (List.mem_map.mpr ⟨i, List.mem_range.mpr hi, rfl⟩)
        exact of_decide_eq_true this
      · rw [List.getElem?_eq_none (by omega), List.getElem?_eq_none (by omega)]
theorem at_map {ns : List Int} {i : Nat} (h : i < ns.length) : L2.atI (ns.map Dt.int) (i : Int) = some (.int ns[i]) := at_nat rfl (by rw [List.getElem?_map, List.getElem?_eq_getElem h]; rfl)
theorem law_same_ok : ∀ ws O Q E, sp_law_same ws O Q E → semFn 2 3 (sem_law_same sp_same0) ws O Q E := by
  rintro ws O Q E ⟨ns, ms, rfl, hl, q⟩
  refine ⟨rfl, ?_⟩
  try simp only [sem_law_same, sb_none_bool, sb_none_int, sb_none_str, sb_none_tuple, sb_none_list, sb_none_dict, sb_bool_bool, sb_bool_int, sb_bool_str, sb_bool_tuple, sb_bool_list, sb_bool_dict, sb_int_bool, sb_int_int, sb_int_str, sb_int_tuple, sb_int_list, sb_int_dict, sb_str_bool, sb_str_int, sb_str_str, sb_str_tuple, sb_str_list, sb_str_dict, sb_tuple_bool, sb_tuple_int, sb_tuple_str, sb_tuple_tuple, sb_tuple_list, sb_tuple_dict, sb_list_bool, sb_list_int, sb_list_str, sb_list_tuple, sb_list_list, sb_list_dict, sb_dict_bool, sb_dict_int, sb_dict_str, sb_dict_tuple, sb_dict_list, sb_dict_dict, decide_true, decide_false, Bool.or_false, Bool.false_or, Bool.or_true, Bool.true_or, Bool.and_true, Bool.true_and, Bool.and_false, Bool.false_and, onBl_bl, onS_some, e_seq, e_asg, e_par, e_two, e_expr, e_retN, e_if, e_tst, e_brk, e_cnt, e_next, e_sub, e_ag, e_raise, e_for, e_var, e_cst, e_op, e_chn, asI_int, e_neg, e_not, e_and, e_or, e_ife, onB_some, e_isN, isN_non, isN_int, isN_bl, isN_str, isN_tup, isN_lst, isN_ref, e_sl, e_none, e_some, e_nil, e_cons, e_tup, e_lst, e_call, e_blt, onT_some, e_isi, e_isii, tn_non, tn_bl, tn_int, tn_str, tn_tup, tn_lst, e_mt, ty_str, ty_tup, ty_lst, e_comp, e_seqI, seqX_str, seqX_tup, seqX_lst, e_one1, e_enum, walk_tup, walk_lst, e_zip, zip_tup, zip_lst, e_rng1, e_rng2, e_yes, onL1_some, e_rev, newL_t, newL_f, asQ_lst, asQ_tup, tgt_one, tgt_pack, tgt_tup, b_add, add_int, add_str, add_tup, add_lst, b_sub, b_mul, mul_int, b_mod, b_fdiv, b_pow, c_eq, c_ne, c_lt, c_le, c_gt, c_ge, c_in, c_nin, eq_int, eq_str, eq_bl, eq_non, in_chr, idx_str, idx_tup, idx_lst, idx_scr, slc_str, slc_tup, slc_lst, slc_scr, f_len, len_str, len_tup, len_lst, len_scr, f_max2, f_min2, f_abs, f_stri, f_strs, f_ints, f_all, f_sum, f_max1, f_min1, f_list, f_tuple, f_sorted, f_sortT, f_dictP, e_listG, e_seqG, e_nilG, e_plainG, e_forG, e_yieldG, m_join, m_split, m_strip, m_index, e_ret, asL_lst, e_lset, e_sortR, e_dg, e_dsub, e_dnew, e_dcomp, e_back, e_fld, e_sfld, e_meth, e_make, key_int, key_str, asK_dct, newD_t, newD_f, cutB_t, cutB_f, f_divmod, f_repr, e_isx, e_try, e_seqL, setI_s, setI_n, dropI_s, dropI_n, e_lrg1, e_lrg2, e_trg1, e_trg2, onK_some, onK1_some, getS, startW, wipeW, Mth.T, Mth.sem, augI, if_true, if_false, Bool.false_eq_true, true_and, and_true, Bool.not_true, Bool.not_false, List.map, List.length, List.replicate, List.cons_append, List.nil_append, List.set_cons_zero, List.set_cons_succ, Nat.reduceAdd, Nat.reduceSub, Int.reduceAdd, Int.reduceSub, Int.reduceNeg, Int.reduceMul, Nat.zero_add, List.length_map]
  by_cases h : ns.length = ms.length
  · have hd : decide ((ns.length : Int) = (ms.length : Int)) = true := decide_eq_true (by omega)
    rw [hd]
    refine if_t ⟨⟨by omega, by omega⟩, ?_⟩
    refine comp_map (fun y => .bl (decide (ns[(intOf (datOf y)).toNat]? = ms[(intOf (datOf y)).toNat]?))) trivial _ _ (by rw [rngY_len]; show 0 + _ ≤ 16777216; omega) (fun y hy Q q => ?_) ?_
    · obtain ⟨i, hi, rfl⟩ := rngY_mem hy
      have hi : i < ms.length := by omega
      try simp only [sb_none_bool, sb_none_int, sb_none_str, sb_none_tuple, sb_none_list, sb_none_dict, sb_bool_bool, sb_bool_int, sb_bool_str, sb_bool_tuple, sb_bool_list, sb_bool_dict, sb_int_bool, sb_int_int, sb_int_str, sb_int_tuple, sb_int_list, sb_int_dict, sb_str_bool, sb_str_int, sb_str_str, sb_str_tuple, sb_str_list, sb_str_dict, sb_tuple_bool, sb_tuple_int, sb_tuple_str, sb_tuple_tuple, sb_tuple_list, sb_tuple_dict, sb_list_bool, sb_list_int, sb_list_str, sb_list_tuple, sb_list_list, sb_list_dict, sb_dict_bool, sb_dict_int, sb_dict_str, sb_dict_tuple, sb_dict_list, sb_dict_dict, decide_true, decide_false, Bool.or_false, Bool.false_or, Bool.or_true, Bool.true_or, Bool.and_true, Bool.true_and, Bool.and_false, Bool.false_and, onBl_bl, onS_some, e_seq, e_asg, e_par, e_two, e_expr, e_retN, e_if, e_tst, e_brk, e_cnt, e_next, e_sub, e_ag, e_raise, e_for, e_var, e_cst, e_op, e_chn, asI_int, e_neg, e_not, e_and, e_or, e_ife, onB_some, e_isN, isN_non, isN_int, isN_bl, isN_str, isN_tup, isN_lst, isN_ref, e_sl, e_none, e_some, e_nil, e_cons, e_tup, e_lst, e_call, e_blt, onT_some, e_isi, e_isii, tn_non, tn_bl, tn_int, tn_str, tn_tup, tn_lst, e_mt, ty_str, ty_tup, ty_lst, e_comp, e_seqI, seqX_str, seqX_tup, seqX_lst, e_one1, e_enum, walk_tup, walk_lst, e_zip, zip_tup, zip_lst, e_rng1, e_rng2, e_yes, onL1_some, e_rev, newL_t, newL_f, asQ_lst, asQ_tup, tgt_one, tgt_pack, tgt_tup, b_add, add_int, add_str, add_tup, add_lst, b_sub, b_mul, mul_int, b_mod, b_fdiv, b_pow, c_eq, c_ne, c_lt, c_le, c_gt, c_ge, c_in, c_nin, eq_int, eq_str, eq_bl, eq_non, in_chr, idx_str, idx_tup, idx_lst, idx_scr, slc_str, slc_tup, slc_lst, slc_scr, f_len, len_str, len_tup, len_lst, len_scr, f_max2, f_min2, f_abs, f_stri, f_strs, f_ints, f_all, f_sum, f_max1, f_min1, f_list, f_tuple, f_sorted, f_sortT, f_dictP, e_listG, e_seqG, e_nilG, e_plainG, e_forG, e_yieldG, m_join, m_split, m_strip, m_index, e_ret, asL_lst, e_lset, e_sortR, e_dg, e_dsub, e_dnew, e_dcomp, e_back, e_fld, e_sfld, e_meth, e_make, key_int, key_str, asK_dct, newD_t, newD_f, cutB_t, cutB_f, f_divmod, f_repr, e_isx, e_try, e_seqL, setI_s, setI_n, dropI_s, dropI_n, e_lrg1, e_lrg2, e_trg1, e_trg2, onK_some, onK1_some, getS, startW, wipeW, Mth.T, Mth.sem, augI, if_true, if_false, Bool.false_eq_true, true_and, and_true, Bool.not_true, Bool.not_false, List.map, List.length, List.replicate, List.cons_append, List.nil_append, List.set_cons_zero, List.set_cons_succ, Nat.reduceAdd, Nat.reduceSub, Int.reduceAdd, Int.reduceSub, Int.reduceNeg, Int.reduceMul, Nat.zero_add, Int.zero_add, at_map hi, at_map (show i < ns.length by omega)]
      refine ⟨_, _, rfl, ?_⟩
      have q : Q (.bl (decide (ns[(0 + (i : Int)).toNat]? = ms[(0 + (i : Int)).toNat]?))) O := q
      have e : (0 + (i : Int)).toNat = i := by omega
      rw [e, List.getElem?_eq_getElem hi, List.getElem?_eq_getElem (show i < ns.length by omega)] at q
      simpa using q
    · refine ⟨(List.range ms.length).map fun i => decide (ns[i]? = ms[i]?), ?_, ?_⟩
      · rw [rngY_map, List.nil_append, List.map_map]
        have e : (Int.toNat (ms.length : Int)) = ms.length := by omega
        rw [e]
        rfl
      · rw [all_zip h]
        exact Ang.keep q
  · have hd : decide ((ns.length : Int) = (ms.length : Int)) = false := decide_eq_false (by omega)
    rw [hd]
    refine if_f (Ang.keep ?_)
    have : decide (ns = ms) = false := decide_eq_false fun e => h (by rw [e])
    rw [this] at q
    exact q
end TF

/-! PK: the word of an error -/
namespace TF
open PySem L2

def rxL : List Str := ["NoQueue"]
def somesX (cn : Str) : List (Str × Bool) := [("queue", subc cn "NoQueue"), ("person", subc cn "NoPerson"), ("gap", subc cn "NoGap"), ("steps", subc cn "NoSteps"), ("number", subc cn "NoNumber"), ("settled", subc cn "NotSettled"), ("alike", subc cn "NotAlike"), ("movers", subc cn "NoRow"),
  ("fitting", subc cn "NotFitting"), ("many", subc cn "TooMany"), ("form", subc cn "NoOperation"), ("full", subc cn "Full"), ("nothing", subc cn "Nothing"), ("text", subc cn "NoText"), ("row", subc cn "NoLine")]
def allX : List Str := ["NoQueue", "NoPerson", "NoGap", "NoSteps", "NoNumber", "NotSettled", "NotAlike", "NoRow", "NotFitting", "TooMany", "NoOperation", "Full", "Nothing", "NoText", "NoLine"]
def wordX (cn : Str) : Str := match (somesX cn).find? (·.2) with
  | some p => p.1
  | none => "odd"
theorem rx_all : ∀ c ∈ rxL, c ∈ allX := by decide +kernel
theorem somes_one : ∀ c ∈ allX, ((somesX c).filter (·.2)).map (·.1) = [wordX c] := by decide +kernel
theorem subc_ve (c : Str) : subc c "ValueError" = true := by
  unfold subc
  rw [show (("ValueError" : Str) == "ValueError") = true by decide, Bool.or_true]
def pairX (p : Str × Bool) : Dt := .tup [.str p.1, .bl p.2]
def sp_law_kind : Exc → Addr → SpW := fun y a ws O Q E => ws = [.ref a] ∧ y.fs = [] ∧ y.cn ∈ rxL ∧ Q (.str (wordX y.cn)) O
def sem_law_kind : Exc → Addr → TSw := fun y a => seqW (asgW (lstW false (consA (tupW (consA (cstW (.str "queue")) (consA (isxW rxL y a "NoQueue" (varW 0)) (nilA)))) (consA (tupW (consA (cstW (.str "person")) (consA (isxW rxL y a "NoPerson" (varW 0)) (nilA)))) (nilA)))) (.one 1))
  (seqW (asgW (opW (binW .add false) (varW 1) (lstW true (consA (tupW (consA (cstW (.str "gap")) (consA (isxW rxL y a "NoGap" (varW 0)) (nilA)))) (consA (tupW (consA (cstW (.str "steps")) (consA (isxW rxL y a "NoSteps" (varW 0)) (nilA)))) (nilA))))) (.one 1))
  (seqW (asgW (opW (binW .add false) (varW 1) (lstW true (consA (tupW (consA (cstW (.str "number")) (consA (isxW rxL y a "NoNumber" (varW 0)) (nilA)))) (consA (tupW (consA (cstW (.str "settled")) (consA (isxW rxL y a "NotSettled" (varW 0)) (nilA)))) (nilA))))) (.one 1))
  (seqW (asgW (opW (binW .add false) (varW 1) (lstW true (consA (tupW (consA (cstW (.str "alike")) (consA (isxW rxL y a "NotAlike" (varW 0)) (nilA)))) (consA (tupW (consA (cstW (.str "movers")) (consA (isxW rxL y a "NoRow" (varW 0)) (nilA)))) (nilA))))) (.one 1))
  (seqW (asgW (opW (binW .add false) (varW 1) (lstW true (consA (tupW (consA (cstW (.str "fitting")) (consA (isxW rxL y a "NotFitting" (varW 0)) (nilA)))) (consA (tupW (consA (cstW (.str "many")) (consA (isxW rxL y a "TooMany" (varW 0)) (nilA)))) (nilA))))) (.one 1))
  (seqW (asgW (opW (binW .add false) (varW 1) (lstW true (consA (tupW (consA (cstW (.str "form")) (consA (isxW rxL y a "NoOperation" (varW 0)) (nilA)))) (consA (tupW (consA (cstW (.str "full")) (consA (isxW rxL y a "Full" (varW 0)) (nilA)))) (nilA))))) (.one 1))
  (seqW (asgW (opW (binW .add false) (varW 1) (lstW true (consA (tupW (consA (cstW (.str "nothing")) (consA (isxW rxL y a "Nothing" (varW 0)) (nilA)))) (consA (tupW (consA (cstW (.str "text")) (consA (isxW rxL y a "NoText" (varW 0)) (nilA)))) (nilA))))) (.one 1))
  (seqW (exprW (mtW (Mth.T .append) (Mth.sem .append) (varW 1) (consA (tupW (consA (cstW (.str "row")) (consA (isxW rxL y a "NoLine" (varW 0)) (nilA)))) (nilA))))
  (seqW (asgW (compW true (seqLI (varW 1)) (.pack [3, 4]) (tstW (varW 4)) (varW 3) [3, 4]) (.one 2))
  (retW (ifeW (andW (opW (cmpW .eq) (bltW (Blt.sem .len) (consA (varW 2) (nilA))) (cstW (.int 1))) (isxW rxL y a "ValueError" (varW 0))) (opW idxW (varW 2) (cstW (.int 0))) (cstW (.str "odd"))))))))))))
theorem isx_go {rx : List Str} {y : Exc} {a : Addr} {c : Str} {te : TEw} {Ex : XW} {τ : SW} {O : OW} {Q : KW} (h1 : y.fs = []) (h2 : y.cn ∈ rx) : isxW rx y a c te Ex τ O Q = te Ex τ O fun x O1 => x = .ref a ∧ Q (.bl (subc y.cn c)) O1 :=
  propext ⟨fun h => h.2.2, fun h => ⟨h1, h2, h⟩⟩
theorem leLIM {n : Nat} (h : Nat.ble n 16777216 = true) : n ≤ LIM := Nat.le_of_ble_eq_true h
theorem ltLIM {n : Nat} (h : Nat.ble (n + 1) 16777216 = true) : n < LIM := Nat.le_of_ble_eq_true h
theorem add_ref {O : OW} {p : Addr} {k l : List Dt} {Q : KW} (h : O p = some (.lst k)) (hl : k.length + l.length ≤ LIM) (hq : ∀ p2, O p2 = none → Q (.ref p2) (upo O p2 (.lst (k ++ l)))) : addW false (.ref p) (.lst l) O Q := by
  show ∃ a b, asL O (.ref p) = some a ∧ asL O (.lst l) = some b ∧ a.length + b.length ≤ LIM ∧ newL false (a ++ b) O Q
  refine ⟨k, l, asL_ref h, rfl, hl, ?_⟩
  rw [newL_f]
  exact hq
def isB : Y → Bool
  | .one (.tup [_, .bl b]) => b
  | _ => false
def fstB : Y → Dt
  | .one (.tup [x, _]) => x
  | _ => .non
theorem kind_end {O : OW} {w : Dt} {τ : SW} {cn : Str} {k : List Dt → OW → Prop} (hs : ((somesX cn).filter (·.2)).map (·.1) = [wordX cn]) (hw : asL O w = some ((somesX cn).map pairX)) (hτ : τ.length = 5) (hk : k [Dt.str (wordX cn)] O) :
    compGo (fun O' => asL O' w = some ((somesX cn).map pairX)) (.pack [3, 4]) (tstW (varW 4)) (varW 3) τ (ones ((somesX cn).map pairX)) [] O k := by
  obtain ⟨a0, a1, a2, a3, a4, rfl⟩ : ∃ a0 a1 a2 a3 a4, τ = [a0, a1, a2, a3, a4] := by
    match τ, hτ with
    | [a0, a1, a2, a3, a4], _ => exact ⟨_, _, _, _, _, rfl⟩
  refine comp_filter isB fstB hw _ _ ?_ ?_ ?_
  · rw [ones_len]; exact leLIM rfl
  · intro z hz K R hK hR
    obtain ⟨w, hw, rfl⟩ := ones_mem hz
    obtain ⟨⟨n, b⟩, _, rfl⟩ := List.mem_map.mp hw
    try simp only [pairX, setMany, sb_none_bool, sb_none_int, sb_none_str, sb_none_tuple, sb_none_list, sb_none_dict, sb_bool_bool, sb_bool_int, sb_bool_str, sb_bool_tuple, sb_bool_list, sb_bool_dict, sb_int_bool, sb_int_int, sb_int_str, sb_int_tuple, sb_int_list, sb_int_dict, sb_str_bool, sb_str_int, sb_str_str, sb_str_tuple, sb_str_list, sb_str_dict, sb_tuple_bool, sb_tuple_int, sb_tuple_str, sb_tuple_tuple, sb_tuple_list, sb_tuple_dict, sb_list_bool, sb_list_int, sb_list_str, sb_list_tuple, sb_list_list, sb_list_dict, sb_dict_bool, sb_dict_int, sb_dict_str, sb_dict_tuple, sb_dict_list, sb_dict_dict, decide_true, decide_false, Bool.or_false, Bool.false_or, Bool.or_true, Bool.true_or, Bool.and_true, Bool.true_and, Bool.and_false, Bool.false_and, onBl_bl, onS_some, e_seq, e_asg, e_par, e_two, e_expr, e_retN, e_if, e_tst, e_brk, e_cnt, e_next, e_sub, e_ag, e_raise, e_for, e_var, e_cst, e_op, e_chn, asI_int, e_neg, e_not, e_and, e_or, e_ife, onB_some, e_isN, isN_non, isN_int, isN_bl, isN_str, isN_tup, isN_lst, isN_ref, e_sl, e_none, e_some, e_nil, e_cons, e_tup, e_lst, e_call, e_blt, onT_some, e_isi, e_isii, tn_non, tn_bl, tn_int, tn_str, tn_tup, tn_lst, e_mt, ty_str, ty_tup, ty_lst, e_comp, e_seqI, seqX_str, seqX_tup, seqX_lst, e_one1, e_enum, walk_tup, walk_lst, e_zip, zip_tup, zip_lst, e_rng1, e_rng2, e_yes, onL1_some, e_rev, newL_t, newL_f, asQ_lst, asQ_tup, tgt_one, tgt_pack, tgt_tup, b_add, add_int, add_str, add_tup, add_lst, b_sub, b_mul, mul_int, b_mod, b_fdiv, b_pow, c_eq, c_ne, c_lt, c_le, c_gt, c_ge, c_in, c_nin, eq_int, eq_str, eq_bl, eq_non, in_chr, idx_str, idx_tup, idx_lst, idx_scr, slc_str, slc_tup, slc_lst, slc_scr, f_len, len_str, len_tup, len_lst, len_scr, f_max2, f_min2, f_abs, f_stri, f_strs, f_ints, f_all, f_sum, f_max1, f_min1, f_list, f_tuple, f_sorted, f_sortT, f_dictP, e_listG, e_seqG, e_nilG, e_plainG, e_forG, e_yieldG, m_join, m_split, m_strip, m_index, e_ret, asL_lst, e_lset, e_sortR, e_dg, e_dsub, e_dnew, e_dcomp, e_back, e_fld, e_sfld, e_meth, e_make, key_int, key_str, asK_dct, newD_t, newD_f, cutB_t, cutB_f, f_divmod, f_repr, e_isx, e_try, e_seqL, setI_s, setI_n, dropI_s, dropI_n, e_lrg1, e_lrg2, e_trg1, e_trg2, onK_some, onK1_some, getS, startW, wipeW, Mth.T, Mth.sem, augI, if_true, if_false, Bool.false_eq_true, true_and, and_true, Bool.not_true, Bool.not_false, List.map, List.length, List.replicate, List.cons_append, List.nil_append, List.set_cons_zero, List.set_cons_succ, Nat.reduceAdd, Nat.reduceSub, Int.reduceAdd, Int.reduceSub, Int.reduceNeg, Int.reduceMul, Nat.zero_add]
    cases b with
    | true => exact if_t (hK rfl)
    | false => exact if_f (hR rfl)
  have e2 : ((ones ((somesX cn).map pairX)).filter isB).map fstB = (((somesX cn).filter (·.2)).map (·.1)).map Dt.str := by
    unfold ones
    rw [List.map_map, List.filter_map, List.map_map, List.map_map]
    rfl
  rw [List.nil_append, e2, hs]
  exact hk
theorem ole_upo {O : OW} {p : Addr} {o : OO} (h : O p = none) : OLe O (upo O p o) := fun b u e => by
  rw [upo_ne (fun z => by subst z; rw [h] at e; cases e)]
  exact e
theorem law_kind_ok : ∀ y a ws O Q E, sp_law_kind y a ws O Q E → semFn 1 5 (sem_law_kind y a) ws O Q E := by
  rintro y a ws O Q E ⟨rfl, hfs, hm, hq⟩
  refine ⟨rfl, ?_⟩
  have hs := somes_one _ (rx_all _ hm)
  try simp only [sem_law_kind, isx_go hfs hm, eq_self, sb_none_bool, sb_none_int, sb_none_str, sb_none_tuple, sb_none_list, sb_none_dict, sb_bool_bool, sb_bool_int, sb_bool_str, sb_bool_tuple, sb_bool_list, sb_bool_dict, sb_int_bool, sb_int_int, sb_int_str, sb_int_tuple, sb_int_list, sb_int_dict, sb_str_bool, sb_str_int, sb_str_str, sb_str_tuple, sb_str_list, sb_str_dict, sb_tuple_bool, sb_tuple_int, sb_tuple_str, sb_tuple_tuple, sb_tuple_list, sb_tuple_dict, sb_list_bool, sb_list_int, sb_list_str, sb_list_tuple, sb_list_list, sb_list_dict, sb_dict_bool, sb_dict_int, sb_dict_str, sb_dict_tuple, sb_dict_list, sb_dict_dict, decide_true, decide_false, Bool.or_false, Bool.false_or, Bool.or_true, Bool.true_or, Bool.and_true, Bool.true_and, Bool.and_false, Bool.false_and, onBl_bl, onS_some, e_seq, e_asg, e_par, e_two, e_expr, e_retN, e_if, e_tst, e_brk, e_cnt, e_next, e_sub, e_ag, e_raise, e_for, e_var, e_cst, e_op, e_chn, asI_int, e_neg, e_not, e_and, e_or, e_ife, onB_some, e_isN, isN_non, isN_int, isN_bl, isN_str, isN_tup, isN_lst, isN_ref, e_sl, e_none, e_some, e_nil, e_cons, e_tup, e_lst, e_call, e_blt, onT_some, e_isi, e_isii, tn_non, tn_bl, tn_int, tn_str, tn_tup, tn_lst, e_mt, ty_str, ty_tup, ty_lst, e_comp, e_seqI, seqX_str, seqX_tup, seqX_lst, e_one1, e_enum, walk_tup, walk_lst, e_zip, zip_tup, zip_lst, e_rng1, e_rng2, e_yes, onL1_some, e_rev, newL_t, newL_f, asQ_lst, asQ_tup, tgt_one, tgt_pack, tgt_tup, b_add, add_int, add_str, add_tup, add_lst, b_sub, b_mul, mul_int, b_mod, b_fdiv, b_pow, c_eq, c_ne, c_lt, c_le, c_gt, c_ge, c_in, c_nin, eq_int, eq_str, eq_bl, eq_non, in_chr, idx_str, idx_tup, idx_lst, idx_scr, slc_str, slc_tup, slc_lst, slc_scr, f_len, len_str, len_tup, len_lst, len_scr, f_max2, f_min2, f_abs, f_stri, f_strs, f_ints, f_all, f_sum, f_max1, f_min1, f_list, f_tuple, f_sorted, f_sortT, f_dictP, e_listG, e_seqG, e_nilG, e_plainG, e_forG, e_yieldG, m_join, m_split, m_strip, m_index, e_ret, asL_lst, e_lset, e_sortR, e_dg, e_dsub, e_dnew, e_dcomp, e_back, e_fld, e_sfld, e_meth, e_make, key_int, key_str, asK_dct, newD_t, newD_f, cutB_t, cutB_f, f_divmod, f_repr, e_isx, e_try, e_seqL, setI_s, setI_n, dropI_s, dropI_n, e_lrg1, e_lrg2, e_trg1, e_trg2, onK_some, onK1_some, getS, startW, wipeW, Mth.T, Mth.sem, augI, if_true, if_false, Bool.false_eq_true, true_and, and_true, Bool.not_true, Bool.not_false, List.map, List.length, List.replicate, List.cons_append, List.nil_append, List.set_cons_zero, List.set_cons_succ, Nat.reduceAdd, Nat.reduceSub, Int.reduceAdd, Int.reduceSub, Int.reduceNeg, Int.reduceMul, Nat.zero_add]
  have t2 : 2 ≤ LIM := by decide
  refine ⟨t2, t2, t2, fun p0 h0 => ⟨t2, t2, t2, add_ref upo_same (leLIM rfl) fun p1 h1 => ⟨t2, t2, t2, add_ref upo_same (leLIM rfl) fun p2 h2 => ⟨t2, t2, t2, add_ref upo_same (leLIM rfl) fun p3 h3 => ⟨t2, t2, t2, add_ref upo_same (leLIM rfl) fun p4 h4 => ⟨t2, t2, t2, add_ref upo_same (leLIM rfl) fun p5 h5 => ⟨t2, t2, t2, add_ref upo_same (leLIM rfl) fun p6 h6 => ⟨of_eq_true (ty_ref upo_same), t2, ?_⟩⟩⟩⟩⟩⟩⟩⟩
  rw [m_append upo_same, upo_upo]
  refine ⟨ltLIM rfl, (somesX y.cn).map pairX, asL_ref upo_same, kind_end hs (asL_ref upo_same) rfl ?_⟩
  have ol := ((((((ole_upo h0).trans (ole_upo h1)).trans (ole_upo h2)).trans (ole_upo h3)).trans (ole_upo h4)).trans (ole_upo h5)).trans (ole_upo (o := OO.lst ((somesX y.cn).map pairX)) h6)
  try simp only [subc_ve, isx_go hfs hm, eq_self, sb_none_bool, sb_none_int, sb_none_str, sb_none_tuple, sb_none_list, sb_none_dict, sb_bool_bool, sb_bool_int, sb_bool_str, sb_bool_tuple, sb_bool_list, sb_bool_dict, sb_int_bool, sb_int_int, sb_int_str, sb_int_tuple, sb_int_list, sb_int_dict, sb_str_bool, sb_str_int, sb_str_str, sb_str_tuple, sb_str_list, sb_str_dict, sb_tuple_bool, sb_tuple_int, sb_tuple_str, sb_tuple_tuple, sb_tuple_list, sb_tuple_dict, sb_list_bool, sb_list_int, sb_list_str, sb_list_tuple, sb_list_list, sb_list_dict, sb_dict_bool, sb_dict_int, sb_dict_str, sb_dict_tuple, sb_dict_list, sb_dict_dict, decide_true, decide_false, Bool.or_false, Bool.false_or, Bool.or_true, Bool.true_or, Bool.and_true, Bool.true_and, Bool.and_false, Bool.false_and, onBl_bl, onS_some, e_seq, e_asg, e_par, e_two, e_expr, e_retN, e_if, e_tst, e_brk, e_cnt, e_next, e_sub, e_ag, e_raise, e_for, e_var, e_cst, e_op, e_chn, asI_int, e_neg, e_not, e_and, e_or, e_ife, onB_some, e_isN, isN_non, isN_int, isN_bl, isN_str, isN_tup, isN_lst, isN_ref, e_sl, e_none, e_some, e_nil, e_cons, e_tup, e_lst, e_call, e_blt, onT_some, e_isi, e_isii, tn_non, tn_bl, tn_int, tn_str, tn_tup, tn_lst, e_mt, ty_str, ty_tup, ty_lst, e_comp, e_seqI, seqX_str, seqX_tup, seqX_lst, e_one1, e_enum, walk_tup, walk_lst, e_zip, zip_tup, zip_lst, e_rng1, e_rng2, e_yes, onL1_some, e_rev, newL_t, newL_f, asQ_lst, asQ_tup, tgt_one, tgt_pack, tgt_tup, b_add, add_int, add_str, add_tup, add_lst, b_sub, b_mul, mul_int, b_mod, b_fdiv, b_pow, c_eq, c_ne, c_lt, c_le, c_gt, c_ge, c_in, c_nin, eq_int, eq_str, eq_bl, eq_non, in_chr, idx_str, idx_tup, idx_lst, idx_scr, slc_str, slc_tup, slc_lst, slc_scr, f_len, len_str, len_tup, len_lst, len_scr, f_max2, f_min2, f_abs, f_stri, f_strs, f_ints, f_all, f_sum, f_max1, f_min1, f_list, f_tuple, f_sorted, f_sortT, f_dictP, e_listG, e_seqG, e_nilG, e_plainG, e_forG, e_yieldG, m_join, m_split, m_strip, m_index, e_ret, asL_lst, e_lset, e_sortR, e_dg, e_dsub, e_dnew, e_dcomp, e_back, e_fld, e_sfld, e_meth, e_make, key_int, key_str, asK_dct, newD_t, newD_f, cutB_t, cutB_f, f_divmod, f_repr, e_isx, e_try, e_seqL, setI_s, setI_n, dropI_s, dropI_n, e_lrg1, e_lrg2, e_trg1, e_trg2, onK_some, onK1_some, getS, startW, wipeW, Mth.T, Mth.sem, augI, if_true, if_false, Bool.false_eq_true, true_and, and_true, Bool.not_true, Bool.not_false, List.map, List.length, List.replicate, List.cons_append, List.nil_append, List.set_cons_zero, List.set_cons_succ, Nat.reduceAdd, Nat.reduceSub, Int.reduceAdd, Int.reduceSub, Int.reduceNeg, Int.reduceMul, Nat.zero_add]
  exact if_t (Ang.drop ol hq)
end TF

/-! PR: what repr of data costs -/
namespace TF
open PySem L2

theorem sumC {c : Nat} : ∀ {l : List Nat}, (∀ y ∈ l, y ≤ c) → l.sum ≤ c * l.length
  | [], _ => Nat.zero_le _
  | a :: r, h => by
    have h1 := h a (by simp)
    have h2 := sumC (l := r) fun y hy => h y (by simp [hy])
    rw [List.sum_cons, List.length_cons, Nat.mul_add]
    omega
theorem depC {n : Nat} : ∀ {ds : List PyData}, (∀ d ∈ ds, d.depth ≤ n) → PyData.depthAll ds ≤ n
  | [], _ => by unfold PyData.depthAll; omega
  | d :: ds, h => by
    unfold PyData.depthAll
    exact Nat.max_le.mpr ⟨h d (by simp), depC fun x hx => h x (by simp [hx])⟩
/-- made of plain values; what its repr costs -/
structure Fin (d c : Nat) (x : Dt) : Prop where
  p : pure? x = true
  s : (pd x).showable = true
  dp : (pd x).depth ≤ d
  len : (pd x).shown.length ≤ c
theorem Fin.mono {d c d' c' : Nat} {x : Dt} (h : Fin d c x) (h1 : d ≤ d') (h2 : c ≤ c') : Fin d' c' x := ⟨h.p, h.s, Nat.le_trans h.dp h1, Nat.le_trans h.len h2⟩
theorem log_smallC {i : Int} (h : Small i) : i.natAbs.log2 < 1920 := by
  obtain ⟨h1, h2⟩ := h
  have h3 : i.natAbs ≤ 10 ^ 300 := by omega
  by_cases h0 : i.natAbs = 0
  · rw [h0]; decide
  · exact (Nat.log2_lt h0).mpr (Nat.lt_of_le_of_lt h3 (by decide +kernel))
theorem Fin.int {i : Int} (h : Small i) : Fin 1 1921 (.int i) := by
  have hl := log_smallC h
  refine ⟨rfl, ?_, ?_, ?_⟩
  · unfold pd
    show decide (i.natAbs.log2 < 1920) = true
    exact decide_eq_true hl
  · unfold pd PyData.depth; omega
  · unfold pd
    show (Str.ofString (toString i)).length ≤ 1921
    rw [ofString_length]
    exact int_text_length_le (k := 1920) (by decide) hl
theorem pds_mem {w : PyData} : ∀ {ws : List Dt}, w ∈ pds ws → ∃ x ∈ ws, w = pd x
  | [], h => by unfold pds at h; cases h
  | x :: ws, h => by
    unfold pds at h
    rcases List.mem_cons.mp h with e | h
    · exact ⟨x, by simp, e⟩
    · obtain ⟨y, hy, e⟩ := pds_mem h
      exact ⟨y, by simp [hy], e⟩
theorem pds_length : ∀ {ws : List Dt}, (pds ws).length = ws.length
  | [] => by unfold pds; rfl
  | x :: ws => by unfold pds; rw [List.length_cons, List.length_cons, pds_length]
theorem pures_of : ∀ {ws : List Dt}, (∀ w ∈ ws, pure? w = true) → pures? ws = true
  | [], _ => by unfold pures?; rfl
  | x :: ws, h => by unfold pures?; rw [h x (by simp), pures_of fun w hw => h w (by simp [hw])]; rfl
theorem showAll_of : ∀ {ds : List PyData}, (∀ w ∈ ds, w.showable = true) → PyData.showableAll ds = true
  | [], _ => rfl
  | x :: ws, h => by
    show (x.showable && PyData.showableAll ws) = true
    rw [h x (by simp), showAll_of fun w hw => h w (by simp [hw])]
    rfl
theorem shownAll_mem {t : Str} : ∀ {ds : List PyData}, t ∈ PyData.shownAll ds → ∃ d ∈ ds, t = d.shown
  | [], h => by cases h
  | x :: ws, h => by
    have h : t ∈ x.shown :: PyData.shownAll ws := h
    rcases List.mem_cons.mp h with e | h
    · exact ⟨x, by simp, e⟩
    · obtain ⟨y, hy, e⟩ := shownAll_mem h
      exact ⟨y, by simp [hy], e⟩
theorem shownAll_len : ∀ {ds : List PyData}, (PyData.shownAll ds).length = ds.length
  | [] => rfl
  | x :: ws => by
    show (x.shown :: PyData.shownAll ws).length = _
    rw [List.length_cons, List.length_cons, shownAll_len]
section
variable {d c : Nat} {ws : List Dt}
theorem fin_parts (h : ∀ w ∈ ws, Fin d c w) : pures? ws = true ∧ PyData.showableAll (pds ws) = true ∧ PyData.depthAll (pds ws) ≤ d ∧ ((PyData.shownAll (pds ws)).map (·.length)).sum ≤ c * ws.length ∧ (PyData.shownAll (pds ws)).length = ws.length := by
  refine ⟨pures_of fun w hw => (h w hw).p, showAll_of fun w hw => ?_, depC fun w hw => ?_, ?_, by rw [shownAll_len, pds_length]⟩
  · obtain ⟨x, hx, rfl⟩ := pds_mem hw
    exact (h x hx).s
  · obtain ⟨x, hx, rfl⟩ := pds_mem hw
    exact (h x hx).dp
  · have := sumC (c := c) (l := (PyData.shownAll (pds ws)).map (·.length)) fun y hy => by
      obtain ⟨t, ht, rfl⟩ := List.mem_map.mp hy
      obtain ⟨dd, hd, rfl⟩ := shownAll_mem ht
      obtain ⟨x, hx, rfl⟩ := pds_mem hd
      exact (h x hx).len
    rw [List.length_map, shownAll_len, pds_length] at this
    exact this
theorem Fin.tup {n : Nat} (h : ∀ w ∈ ws, Fin d c w) (hn : c * ws.length + 2 * ws.length + 3 ≤ n) : Fin (d + 1) n (.tup ws) := by
  obtain ⟨a1, a2, a3, a4, a5⟩ := fin_parts h
  refine ⟨by unfold pure?; exact a1, by unfold pd; exact a2, by unfold pd PyData.depth; omega, ?_⟩
  unfold pd
  have := tupleText_len_le (PyData.shownAll (pds ws))
  show (tupleText (PyData.shownAll (pds ws))).length ≤ n
  omega
theorem Fin.lst {n : Nat} (h : ∀ w ∈ ws, Fin d c w) (hn : c * ws.length + 2 * ws.length + 3 ≤ n) : Fin (d + 1) n (.lst ws) := by
  obtain ⟨a1, a2, a3, a4, a5⟩ := fin_parts h
  refine ⟨by unfold pure?; exact a1, by unfold pd; exact a2, by unfold pd PyData.depth; omega, ?_⟩
  unfold pd
  have := listText_len_le (PyData.shownAll (pds ws))
  show (listText (PyData.shownAll (pds ws))).length ≤ n
  omega
/-- repr of a frozen list -/
theorem repr_fin {O : OW} {Q : KW} (h : Fin d c (.lst ws)) (hd : d ≤ 100) (hc : c ≤ 16777216) (q : Q (.str (pd (.lst ws)).shown) O) : reprXW [.lst ws] O Q := by
  rw [f_reprX]
  exact ⟨pd (.lst ws), PD.of_pure O _ h.p, h.s, Nat.le_trans h.dp hd, Nat.le_trans h.len hc, q⟩
end
theorem pure_known {O : OW} {x : Dt} (h : pure? x = true) : known O x := by
  cases x with
  | ref a => unfold pure? at h; cases h
  | scr a => unfold pure? at h; cases h
  | ty a => unfold pure? at h; cases h
  | exc a b => unfold pure? at h; cases h
  | _ => exact ⟨_, rfl⟩
theorem pures_mem : ∀ {ws : List Dt}, pures? ws = true → ∀ w ∈ ws, pure? w = true
  | [], _, w, hw => by cases hw
  | x :: ws, h, w, hw => by
    unfold pures? at h
    rw [Bool.and_eq_true] at h
    rcases List.mem_cons.mp hw with e | hw
    · rw [e]; exact h.1
    · exact pures_mem h.2 w hw
theorem pure_knowns {O : OW} {x : Dt} (h : pure? x = true) : knowns O x := by
  cases x with
  | tup ws => exact fun y hy => pure_known (pures_mem (by unfold pure? at h; exact h) y hy)
  | _ => exact trivial
theorem Fin.ints {n : Nat} {ns : List Int} (h : ∀ i ∈ ns, Small i) (hn : 1923 * ns.length + 3 ≤ n) : Fin 2 n (.tup (ns.map Dt.int)) := Fin.tup (d := 1) (c := 1921) (fun w hw => by
  obtain ⟨i, hi, rfl⟩ := List.mem_map.mp hw
  exact Fin.int (h i hi)) (by rw [List.length_map]; omega)
end TF

/-! L53: queues not shown -/
namespace TF
open PySem L2

theorem que_of_isQ {ns : List Int} (h : isQ (qD ns) = true) : Que ns := by
  obtain ⟨ms, e, hm⟩ := que_isQ h
  cases (List.map_inj_right (fun _ _ h => by cases h; rfl)).mp (Dt.tup.inj e)
  exact hm
/-- no queue, made of plain values -/
def Bad (x : Dt) : Prop := isQ x = false ∧ Fin 3 90000 x
theorem not_allH {ws : List Dt} {x : Dt} (h : x ∈ ws) (hx : isH x = false) : isQ (.tup ws) = false := by
  have : ws.all isH = false := by
    rw [List.all_eq_false]
    exact ⟨x, h, by rw [hx]; exact Bool.false_ne_true⟩
  show (_ && ws.all isH && _) = false
  rw [this, Bool.and_false, Bool.false_and]
theorem not_nodup {ns : List Int} (h : ¬ ns.Nodup) : isQ (qD ns) = false := by
  unfold isQ
  show (_ && decide ((intsOf (ns.map Dt.int)).Nodup)) = false
  rw [intsOf_map, decide_eq_false h, Bool.and_false]
/-- one odd person -/
theorem odd_bad {ns : List Int} (hq : Que ns) {a b : List Int} {x : Dt} (ha : ∀ i ∈ a, i ∈ ns) (hb : ∀ i ∈ b, i ∈ ns) (hl : a.length + b.length ≤ 40) (hx : isH x = false) (hf : Fin 2 1921 x) : Bad (.tup (a.map Dt.int ++ [x] ++ b.map Dt.int)) := by
  refine ⟨not_allH (x := x) (by simp) hx, Fin.tup (d := 2) (c := 1921) (fun w hw => ?_) ?_⟩
  · rcases List.mem_append.mp hw with hw | hw
    · rcases List.mem_append.mp hw with hw | hw
      · obtain ⟨i, hi, rfl⟩ := List.mem_map.mp hw
        exact (Fin.int (hq.hs i (ha i hi)).small).mono (by omega) (by omega)
      · rw [List.mem_singleton.mp hw]; exact hf
    · obtain ⟨i, hi, rfl⟩ := List.mem_map.mp hw
      exact (Fin.int (hq.hs i (hb i hi)).small).mono (by omega) (by omega)
  · simp only [List.length_append, List.length_map, List.length_singleton]
    omega
theorem oddsF : ∀ x ∈ [Dt.non, .bl true, .str "1", .tup [.int 1], .lst [.int 1], .dct [], .int 1000000000000000000000000000001, .int (-1000000000000000000000000000001)], isH x = false ∧ Fin 2 1921 x := by
  intro x hx
  have h1 : Small 1 := small_of (by omega) (by omega)
  simp only [List.mem_cons, List.not_mem_nil, or_false] at hx
  rcases hx with rfl | rfl | rfl | rfl | rfl | rfl | rfl | rfl
  · exact ⟨rfl, rfl, rfl, by decide +kernel, by decide +kernel⟩
  · exact ⟨rfl, rfl, rfl, by decide +kernel, by decide +kernel⟩
  · exact ⟨rfl, rfl, rfl, by decide +kernel, by decide +kernel⟩
  · exact ⟨rfl, rfl, rfl, by decide +kernel, by decide +kernel⟩
  · exact ⟨rfl, rfl, rfl, by decide +kernel, by decide +kernel⟩
  · exact ⟨rfl, rfl, rfl, by decide +kernel, by decide +kernel⟩
  · exact ⟨by decide +kernel, (Fin.int (small_of (by omega) (by omega))).mono (by omega) (by omega)⟩
  · exact ⟨by decide +kernel, (Fin.int (small_of (by omega) (by omega))).mono (by omega) (by omega)⟩
def sp_law_no_queues : SpW := fun ws O Q E => ∃ f B ns, ws = [.ref f, qD ns] ∧ Que ns ∧ Fo O f B ∧ B ≤ 50000 ∧ ∀ bad O', (∀ x ∈ bad, Bad x) → bad.length ≤ 64 → Fo O' f (B + 2) → Sm f O O' → Q (.lst bad) O'
def sem_law_no_queues : TSw := seqW (asgW (callW sp_law_sip (consA (varW 0) (consA (bltW (Blt.sem .len) (consA (varW 1) (nilA))) (nilA)))) (.one 2))
  (seqW (asgW (lstW true (consA (cstW .non) (consA (cstW (.bl true)) (consA (cstW (.str "1")) (consA (tupW (consA (cstW (.int 1)) (nilA))) (consA (lstW true (consA (cstW (.int 1)) (nilA))) (consA (dnewW true) (consA (opW (binW .add true) (opW (binW .pow true) (cstW (.int 10)) (cstW (.int 30))) (cstW (.int 1))) (consA (opW (binW .sub true) (opW (binW .sub true) (cstW (.int 0)) (opW (binW .pow true) (cstW (.int 10)) (cstW (.int 30)))) (cstW (.int 1))) (nilA)))))))))) (.one 3))
  (seqW (asgW (opW (binW .add false) (compW true (seqI (varW 3)) (.one 5) (yesT) (opW (binW .add true) (opW (binW .add true) (slW true (varW 1) (noneO) (someO (varW 2))) (tupW (consA (varW 5) (nilA)))) (slW true (varW 1) (someO (opW (binW .add true) (varW 2) (cstW (.int 1)))) (noneO))) [5]) (lstW true (consA (bltW (Blt.sem (.list true)) (consA (varW 1) (nilA))) (consA (opW (binW .add true) (varW 1) (slW true (varW 1) (noneO) (someO (cstW (.int 1))))) (consA (tupW (consA (varW 1) (nilA))) (nilA)))))) (.one 4))
  (seqW (ifW (tstW (opW (cmpW .gt) (bltW (Blt.sem .len) (consA (varW 1) (nilA))) (cstW (.int 1))))
  (seqW (asgW (opW (binW .mod true) (opW (binW .add true) (opW (binW .add true) (varW 2) (cstW (.int 1))) (callW sp_law_sip (consA (varW 0) (consA (opW (binW .sub true) (bltW (Blt.sem .len) (consA (varW 1) (nilA))) (cstW (.int 1))) (nilA))))) (bltW (Blt.sem .len) (consA (varW 1) (nilA)))) (.one 6))
  (exprW (mtW (Mth.T .append) (Mth.sem .append) (varW 4) (consA (opW (binW .add true) (opW (binW .add true) (slW true (varW 1) (noneO) (someO (varW 2))) (tupW (consA (opW idxW (varW 1) (varW 6)) (nilA)))) (slW true (varW 1) (someO (opW (binW .add true) (varW 2) (cstW (.int 1)))) (noneO))) (nilA)))))
  (nextW))
  (seqW (asgW (opW (binW .add false) (varW 4) (lstW true (consA (bltW (Blt.sem .tuple) (consA (lrg1W true (cstW (.int 41))) (nilA))) (consA (tupW (consA (cstW (.int 1)) (consA (cstW (.int 2)) (consA (cstW (.int 1)) (consA (cstW (.int 3)) (nilA)))))) (consA (tupW (consA (cstW (.int 1)) (consA (cstW (.int 2)) (consA (cstW (.int 3)) (consA (cstW (.int 4)) (consA (cstW (.int 2)) (nilA))))))) (nilA)))))) (.one 4))
  (retW (opW (binW .add true) (varW 4) (lstW true (consA (cstW .non) (consA (cstW (.int 0)) (consA (cstW (.bl true)) (consA (cstW (.str "")) (consA (cstW (.str "1")) (consA (lstW true (nilA)) (consA (lstW true (consA (cstW (.int 1)) (nilA))) (consA (dnewW true) (consA (tupW (nilA)) (consA (tupW (consA (cstW .non) (nilA))) (consA (tupW (consA (cstW (.bl false)) (nilA))) (consA (tupW (consA (cstW (.str "1")) (nilA))) (consA (tupW (consA (cstW (.int 1)) (consA (cstW (.int 1)) (nilA)))) (consA (tupW (consA (tupW (consA (cstW (.int 1)) (nilA))) (nilA))) (consA (tupW (consA (lstW true (nilA)) (nilA))) (consA (tupW (consA (dnewW true) (nilA))) (nilA))))))))))))))))))))))))
theorem law_no_queues_ok : ∀ ws O Q E, sp_law_no_queues ws O Q E → semFn 2 7 sem_law_no_queues ws O Q E := by
  rintro ws O Q E ⟨f, B, ns, rfl, h, F, hB, hq⟩
  refine ⟨rfl, ?_⟩
  have hl1 := h.l1
  have hl40 := h.l40
  try simp only [sem_law_no_queues, p30, sb_none_bool, sb_none_int, sb_none_str, sb_none_tuple, sb_none_list, sb_none_dict, sb_bool_bool, sb_bool_int, sb_bool_str, sb_bool_tuple, sb_bool_list, sb_bool_dict, sb_int_bool, sb_int_int, sb_int_str, sb_int_tuple, sb_int_list, sb_int_dict, sb_str_bool, sb_str_int, sb_str_str, sb_str_tuple, sb_str_list, sb_str_dict, sb_tuple_bool, sb_tuple_int, sb_tuple_str, sb_tuple_tuple, sb_tuple_list, sb_tuple_dict, sb_list_bool, sb_list_int, sb_list_str, sb_list_tuple, sb_list_list, sb_list_dict, sb_dict_bool, sb_dict_int, sb_dict_str, sb_dict_tuple, sb_dict_list, sb_dict_dict, decide_true, decide_false, Bool.or_false, Bool.false_or, Bool.or_true, Bool.true_or, Bool.and_true, Bool.true_and, Bool.and_false, Bool.false_and, onBl_bl, onS_some, e_seq, e_asg, e_par, e_two, e_expr, e_retN, e_if, e_tst, e_brk, e_cnt, e_next, e_sub, e_ag, e_raise, e_for, e_var, e_cst, e_op, e_chn, asI_int, e_neg, e_not, e_and, e_or, e_ife, onB_some, e_isN, isN_non, isN_int, isN_bl, isN_str, isN_tup, isN_lst, isN_ref, e_sl, e_none, e_some, e_nil, e_cons, e_tup, e_lst, e_call, e_blt, onT_some, e_isi, e_isii, tn_non, tn_bl, tn_int, tn_str, tn_tup, tn_lst, e_mt, ty_str, ty_tup, ty_lst, e_comp, e_seqI, seqX_str, seqX_tup, seqX_lst, e_one1, e_enum, walk_tup, walk_lst, e_zip, zip_tup, zip_lst, e_rng1, e_rng2, e_yes, onL1_some, e_rev, newL_t, newL_f, asQ_lst, asQ_tup, tgt_one, tgt_pack, tgt_tup, b_add, add_int, add_str, add_tup, add_lst, b_sub, b_mul, mul_int, b_mod, b_fdiv, b_pow, c_eq, c_ne, c_lt, c_le, c_gt, c_ge, c_in, c_nin, eq_int, eq_str, eq_bl, eq_non, in_chr, idx_str, idx_tup, idx_lst, idx_scr, slc_str, slc_tup, slc_lst, slc_scr, f_len, len_str, len_tup, len_lst, len_scr, f_max2, f_min2, f_abs, f_stri, f_strs, f_ints, f_all, f_sum, f_max1, f_min1, f_list, f_tuple, f_sorted, f_sortT, f_dictP, e_listG, e_seqG, e_nilG, e_plainG, e_forG, e_yieldG, m_join, m_split, m_strip, m_index, e_ret, asL_lst, e_lset, e_sortR, e_dg, e_dsub, e_dnew, e_dcomp, e_back, e_fld, e_sfld, e_meth, e_make, key_int, key_str, asK_dct, newD_t, newD_f, cutB_t, cutB_f, f_divmod, f_repr, e_isx, e_try, e_seqL, setI_s, setI_n, dropI_s, dropI_n, e_lrg1, e_lrg2, e_trg1, e_trg2, onK_some, onK1_some, getS, startW, wipeW, Mth.T, Mth.sem, augI, if_true, if_false, Bool.false_eq_true, true_and, and_true, Bool.not_true, Bool.not_false, List.map, List.length, List.replicate, List.cons_append, List.nil_append, List.set_cons_zero, List.set_cons_succ, Nat.reduceAdd, Nat.reduceSub, Int.reduceAdd, Int.reduceSub, Int.reduceNeg, Int.reduceMul, Nat.zero_add]
  rw [List.length_map]
  refine sip_ok F (by omega) (by omega) (by omega) fun at_ O1 a0 a1 F1 S1 => ?_
  try simp only [p30, sb_none_bool, sb_none_int, sb_none_str, sb_none_tuple, sb_none_list, sb_none_dict, sb_bool_bool, sb_bool_int, sb_bool_str, sb_bool_tuple, sb_bool_list, sb_bool_dict, sb_int_bool, sb_int_int, sb_int_str, sb_int_tuple, sb_int_list, sb_int_dict, sb_str_bool, sb_str_int, sb_str_str, sb_str_tuple, sb_str_list, sb_str_dict, sb_tuple_bool, sb_tuple_int, sb_tuple_str, sb_tuple_tuple, sb_tuple_list, sb_tuple_dict, sb_list_bool, sb_list_int, sb_list_str, sb_list_tuple, sb_list_list, sb_list_dict, sb_dict_bool, sb_dict_int, sb_dict_str, sb_dict_tuple, sb_dict_list, sb_dict_dict, decide_true, decide_false, Bool.or_false, Bool.false_or, Bool.or_true, Bool.true_or, Bool.and_true, Bool.true_and, Bool.and_false, Bool.false_and, onBl_bl, onS_some, e_seq, e_asg, e_par, e_two, e_expr, e_retN, e_if, e_tst, e_brk, e_cnt, e_next, e_sub, e_ag, e_raise, e_for, e_var, e_cst, e_op, e_chn, asI_int, e_neg, e_not, e_and, e_or, e_ife, onB_some, e_isN, isN_non, isN_int, isN_bl, isN_str, isN_tup, isN_lst, isN_ref, e_sl, e_none, e_some, e_nil, e_cons, e_tup, e_lst, e_call, e_blt, onT_some, e_isi, e_isii, tn_non, tn_bl, tn_int, tn_str, tn_tup, tn_lst, e_mt, ty_str, ty_tup, ty_lst, e_comp, e_seqI, seqX_str, seqX_tup, seqX_lst, e_one1, e_enum, walk_tup, walk_lst, e_zip, zip_tup, zip_lst, e_rng1, e_rng2, e_yes, onL1_some, e_rev, newL_t, newL_f, asQ_lst, asQ_tup, tgt_one, tgt_pack, tgt_tup, b_add, add_int, add_str, add_tup, add_lst, b_sub, b_mul, mul_int, b_mod, b_fdiv, b_pow, c_eq, c_ne, c_lt, c_le, c_gt, c_ge, c_in, c_nin, eq_int, eq_str, eq_bl, eq_non, in_chr, idx_str, idx_tup, idx_lst, idx_scr, slc_str, slc_tup, slc_lst, slc_scr, f_len, len_str, len_tup, len_lst, len_scr, f_max2, f_min2, f_abs, f_stri, f_strs, f_ints, f_all, f_sum, f_max1, f_min1, f_list, f_tuple, f_sorted, f_sortT, f_dictP, e_listG, e_seqG, e_nilG, e_plainG, e_forG, e_yieldG, m_join, m_split, m_strip, m_index, e_ret, asL_lst, e_lset, e_sortR, e_dg, e_dsub, e_dnew, e_dcomp, e_back, e_fld, e_sfld, e_meth, e_make, key_int, key_str, asK_dct, newD_t, newD_f, cutB_t, cutB_f, f_divmod, f_repr, e_isx, e_try, e_seqL, setI_s, setI_n, dropI_s, dropI_n, e_lrg1, e_lrg2, e_trg1, e_trg2, onK_some, onK1_some, getS, startW, wipeW, Mth.T, Mth.sem, augI, if_true, if_false, Bool.false_eq_true, true_and, and_true, Bool.not_true, Bool.not_false, List.map, List.length, List.replicate, List.cons_append, List.nil_append, List.set_cons_zero, List.set_cons_succ, Nat.reduceAdd, Nat.reduceSub, Int.reduceAdd, Int.reduceSub, Int.reduceNeg, Int.reduceMul, Nat.zero_add]
  have hsm : ∀ i ∈ ns, Small i := fun i hi => (h.hs i hi).small
  refine ⟨by decide, by decide, pw_ok (by omega) (by omega), pw_ok (by omega) (by omega), by decide, ?_⟩
  rw [cutD_to a0, cutD_from (show (0 : Int) ≤ at_ + 1 by omega), cutD_to (show (0 : Int) ≤ 1 by omega), map_take_int, map_drop_int, map_take_int]
  have hta : ∀ i ∈ ns.take at_.toNat, i ∈ ns := fun i hi => List.mem_of_mem_take hi
  have htb : ∀ i ∈ ns.drop (at_ + 1).toNat, i ∈ ns := fun i hi => List.mem_of_mem_drop hi
  have hab : (ns.take at_.toNat).length + (ns.drop (at_ + 1).toNat).length + 1 = ns.length := by
    rw [List.length_take, List.length_drop]; omega
  generalize ea : ns.take at_.toNat = a at *
  generalize eb : ns.drop (at_ + 1).toNat = b at *
  refine comp_map (fun y => .tup (a.map Dt.int ++ [datOf y] ++ b.map Dt.int)) trivial _ _ ?_ ?_ ?_
  · rw [ones_len]; exact leLIM rfl
  · intro y hy K hK
    obtain ⟨w, hw, rfl⟩ := ones_mem hy
    try simp only [cutD_to a0, cutD_from (show (0 : Int) ≤ at_ + 1 by omega), map_take_int, map_drop_int, ea, eb, List.length_append, List.length_map, sb_none_bool, sb_none_int, sb_none_str, sb_none_tuple, sb_none_list, sb_none_dict, sb_bool_bool, sb_bool_int, sb_bool_str, sb_bool_tuple, sb_bool_list, sb_bool_dict, sb_int_bool, sb_int_int, sb_int_str, sb_int_tuple, sb_int_list, sb_int_dict, sb_str_bool, sb_str_int, sb_str_str, sb_str_tuple, sb_str_list, sb_str_dict, sb_tuple_bool, sb_tuple_int, sb_tuple_str, sb_tuple_tuple, sb_tuple_list, sb_tuple_dict, sb_list_bool, sb_list_int, sb_list_str, sb_list_tuple, sb_list_list, sb_list_dict, sb_dict_bool, sb_dict_int, sb_dict_str, sb_dict_tuple, sb_dict_list, sb_dict_dict, decide_true, decide_false, Bool.or_false, Bool.false_or, Bool.or_true, Bool.true_or, Bool.and_true, Bool.true_and, Bool.and_false, Bool.false_and, onBl_bl, onS_some, e_seq, e_asg, e_par, e_two, e_expr, e_retN, e_if, e_tst, e_brk, e_cnt, e_next, e_sub, e_ag, e_raise, e_for, e_var, e_cst, e_op, e_chn, asI_int, e_neg, e_not, e_and, e_or, e_ife, onB_some, e_isN, isN_non, isN_int, isN_bl, isN_str, isN_tup, isN_lst, isN_ref, e_sl, e_none, e_some, e_nil, e_cons, e_tup, e_lst, e_call, e_blt, onT_some, e_isi, e_isii, tn_non, tn_bl, tn_int, tn_str, tn_tup, tn_lst, e_mt, ty_str, ty_tup, ty_lst, e_comp, e_seqI, seqX_str, seqX_tup, seqX_lst, e_one1, e_enum, walk_tup, walk_lst, e_zip, zip_tup, zip_lst, e_rng1, e_rng2, e_yes, onL1_some, e_rev, newL_t, newL_f, asQ_lst, asQ_tup, tgt_one, tgt_pack, tgt_tup, b_add, add_int, add_str, add_tup, add_lst, b_sub, b_mul, mul_int, b_mod, b_fdiv, b_pow, c_eq, c_ne, c_lt, c_le, c_gt, c_ge, c_in, c_nin, eq_int, eq_str, eq_bl, eq_non, in_chr, idx_str, idx_tup, idx_lst, idx_scr, slc_str, slc_tup, slc_lst, slc_scr, f_len, len_str, len_tup, len_lst, len_scr, f_max2, f_min2, f_abs, f_stri, f_strs, f_ints, f_all, f_sum, f_max1, f_min1, f_list, f_tuple, f_sorted, f_sortT, f_dictP, e_listG, e_seqG, e_nilG, e_plainG, e_forG, e_yieldG, m_join, m_split, m_strip, m_index, e_ret, asL_lst, e_lset, e_sortR, e_dg, e_dsub, e_dnew, e_dcomp, e_back, e_fld, e_sfld, e_meth, e_make, key_int, key_str, asK_dct, newD_t, newD_f, cutB_t, cutB_f, f_divmod, f_repr, e_isx, e_try, e_seqL, setI_s, setI_n, dropI_s, dropI_n, e_lrg1, e_lrg2, e_trg1, e_trg2, onK_some, onK1_some, getS, startW, wipeW, Mth.T, Mth.sem, augI, if_true, if_false, Bool.false_eq_true, true_and, and_true, Bool.not_true, Bool.not_false, List.map, List.length, List.replicate, List.cons_append, List.nil_append, List.set_cons_zero, List.set_cons_succ, Nat.reduceAdd, Nat.reduceSub, Int.reduceAdd, Int.reduceSub, Int.reduceNeg, Int.reduceMul, Nat.zero_add]
    refine ⟨by decide, by show _ ≤ 16777216; omega, by show _ ≤ 16777216; omega, hK⟩
  rw [List.nil_append, ones_map]
  have hodd : ∀ x ∈ List.map (fun w => Dt.tup (a.map Dt.int ++ [datOf (.one w)] ++ b.map Dt.int)) [Dt.non, .bl true, .str "1", .tup [.int 1], .lst [.int 1], .dct [], .int 1000000000000000000000000000001, .int (-1000000000000000000000000000001)], Bad x := by
    intro x hx
    obtain ⟨w, hw, rfl⟩ := List.mem_map.mp hx
    obtain ⟨w1, w2⟩ := oddsF w hw
    exact odd_bad h hta htb (by omega) w1 w2
  generalize hlo : List.map (fun w => Dt.tup (a.map Dt.int ++ [datOf (.one w)] ++ b.map Dt.int)) [Dt.non, .bl true, .str "1", .tup [.int 1], .lst [.int 1], .dct [], .int 1000000000000000000000000000001, .int (-1000000000000000000000000000001)] = odds at hodd
  have hlen : odds.length = 8 := by rw [← hlo]; rfl
  have t1 : (List.take (Int.toNat 1) ns).length ≤ 1 := by rw [List.length_take]; exact Nat.min_le_left _ _
  have c1 : ∀ {n : Nat}, n ≤ 16777216 → n ≤ LIM := fun h => h
  refine ⟨by rw [List.length_map]; exact c1 (by omega), by decide, by decide, by rw [hlen]; decide, fun p hp => ?_⟩
  have pf : p ≠ f := fun e => by obtain ⟨_, _, _, z, _⟩ := F1; rw [← e, hp] at z; cases z
  have fin : ∀ (O2 : OW) (l : List Dt), O2 p = some (.lst l) → (∀ x ∈ l, Bad x) → l.length ≤ 12 → Fo O2 f (B + 2) → (∀ c, c ≠ f → c ≠ p → O2 c = O1 c) →
      RgOk 0 41 ∧ 4 ≤ LIM ∧ 5 ≤ LIM ∧ 3 ≤ LIM ∧ addW false (.ref p) (.lst [.tup (List.map Dt.int (rgI 0 41)), .tup [.int 1, .int 2, .int 1, .int 3], .tup [.int 1, .int 2, .int 3, .int 4, .int 2]]) O2 fun x O1 =>
        0 ≤ LIM ∧ 1 ≤ LIM ∧ 0 ≤ LIM ∧ 1 ≤ LIM ∧ 1 ≤ LIM ∧ 1 ≤ LIM ∧ 2 ≤ LIM ∧ 1 ≤ LIM ∧ 1 ≤ LIM ∧ 0 ≤ LIM ∧ 1 ≤ LIM ∧ 1 ≤ LIM ∧ 16 ≤ LIM ∧ addW true x (.lst [.non, .int 0, .bl true, .str "", .str "1", .lst [], .lst [.int 1], .dct [], .tup [], .tup [.non], .tup [.bl false], .tup [.str "1"], .tup [.int 1, .int 1], .tup [.tup [.int 1]], .tup [.lst []], .tup [.dct []]]) O1 fun w O' => Ang w O' Q := by
    intro O2 l hL hbad hll F2 S2
    refine ⟨⟨by omega, by omega, by omega, by omega, by decide⟩, by decide, by decide, by decide, add_ref hL (by show _ + 3 ≤ 16777216; omega) fun p2 hp2 => ?_⟩
    refine ⟨by decide, by decide, by decide, by decide, by decide, by decide, by decide, by decide, by decide, by decide, by decide, by decide, by decide, ?_⟩
    have pf2 : p2 ≠ f := fun e => by obtain ⟨_, _, _, z, _⟩ := F2; rw [← e, hp2] at z; cases z
    refine ⟨_, _, asL_ref upo_same, rfl, by simp only [List.length_append]; show _ + 3 + 16 ≤ 16777216; omega, ?_⟩
    rw [newL_t]
    refine Ang.drop (O' := fun c => if c = f then O2 f else O c) (fun c o z => ?_) (hq _ _ (fun x hx => ?_) ?_ ?_ fun c hc => if_neg hc)
    · by_cases hc : c = f
      · subst hc
        have z : O2 c = some o := by simpa using z
        rw [upo_ne (Ne.symm pf2)]
        exact z
      · have z : O c = some o := by simpa [hc] using z
        have hcp : c ≠ p := fun e => by
          subst e
          rw [← S1 c hc, hp] at z
          cases z
        have hcp2 : c ≠ p2 := fun e => by
          subst e
          rw [S2 c hc hcp, S1 c hc, z] at hp2
          cases hp2
        rw [upo_ne hcp2, S2 c hc hcp, S1 c hc]
        exact z
    · rcases List.mem_append.mp hx with hx | hx
      · rcases List.mem_append.mp hx with hx | hx
        · exact hbad x hx
        · simp only [List.mem_cons, List.not_mem_nil, or_false] at hx
          rcases hx with rfl | rfl | rfl
          · refine ⟨by decide +kernel, (Fin.ints (n := 90000) (fun i hi => ?_) (by decide +kernel)).mono (by omega) (by omega)⟩
            unfold rgI at hi
            obtain ⟨j, hj, rfl⟩ := List.mem_map.mp hi
            rw [List.mem_range] at hj
            exact small_of (by omega) (by omega)
          · exact ⟨by decide +kernel, rfl, by decide +kernel, by decide +kernel, by decide +kernel⟩
          · exact ⟨by decide +kernel, rfl, by decide +kernel, by decide +kernel, by decide +kernel⟩
      · simp only [List.mem_cons, List.not_mem_nil, or_false] at hx
        rcases hx with rfl | rfl | rfl | rfl | rfl | rfl | rfl | rfl | rfl | rfl | rfl | rfl | rfl | rfl | rfl | rfl <;> exact ⟨by decide +kernel, rfl, by decide +kernel, by decide +kernel, by decide +kernel⟩
    · simp only [List.length_append]; show l.length + 3 + 16 ≤ 64; omega
    · exact F2.at_ (if_pos rfl)
  have hb0 : ∀ x ∈ odds ++ [Dt.lst (ns.map Dt.int), .tup (ns.map Dt.int ++ (ns.take (Int.toNat 1)).map Dt.int), .tup [qD ns]], Bad x := by
    intro x hx
    rcases List.mem_append.mp hx with hx | hx
    · exact hodd x hx
    · have hnsF : ∀ w ∈ ns.map Dt.int, Fin 1 1921 w := fun w hw => by
        obtain ⟨i, hi, rfl⟩ := List.mem_map.mp hw
        exact Fin.int (hsm i hi)
      simp only [List.mem_cons, List.not_mem_nil, or_false] at hx
      rcases hx with rfl | rfl | rfl
      · exact ⟨rfl, (Fin.lst (n := 90000) hnsF (by rw [List.length_map]; omega)).mono (by omega) (by omega)⟩
      · rw [← List.map_append]
        refine ⟨not_nodup fun hn => ?_, (Fin.ints (n := 90000) (fun i hi => ?_) (by rw [List.length_append]; omega)).mono (by omega) (by omega)⟩
        · obtain ⟨x, r, rfl⟩ : ∃ x r, ns = x :: r := by
            cases ns with
            | nil => simp at hl1
            | cons x r => exact ⟨x, r, rfl⟩
          exact (List.nodup_append.mp hn).2.2 x (by simp) x (by simp) rfl
        · rcases List.mem_append.mp hi with hi | hi
          · exact hsm i hi
          · exact hsm i (List.mem_of_mem_take hi)
      · refine ⟨not_allH (x := qD ns) (by simp) rfl, Fin.tup (d := 2) (c := 80000) (fun w hw => ?_) (by simp)⟩
        rw [List.mem_singleton.mp hw]
        exact Fin.ints hsm (by omega)
  have hl0 : (odds ++ [Dt.lst (ns.map Dt.int), .tup (ns.map Dt.int ++ (ns.take (Int.toNat 1)).map Dt.int), .tup [qD ns]]).length = 11 := by
    rw [List.length_append, hlen]; rfl
  generalize odds ++ [Dt.lst (ns.map Dt.int), .tup (ns.map Dt.int ++ (ns.take (Int.toNat 1)).map Dt.int), .tup [qD ns]] = l0 at *
  have hL1 : upo O1 p (.lst l0) p = some (.lst l0) := upo_same
  have F1' : Fo (upo O1 p (.lst l0)) f (B + 1) := F1.at_ (upo_ne (Ne.symm pf))
  by_cases h2 : (1 : Int) < ns.length
  · rw [decide_eq_true h2]
    refine if_t (sip_ok F1' (by omega) (by omega) (by omega) fun r O2 b0 b1 F2 S2 => ?_)
    have hL2 : O2 p = some (.lst l0) := (S2 p pf).trans hL1
    try simp only [sb_none_bool, sb_none_int, sb_none_str, sb_none_tuple, sb_none_list, sb_none_dict, sb_bool_bool, sb_bool_int, sb_bool_str, sb_bool_tuple, sb_bool_list, sb_bool_dict, sb_int_bool, sb_int_int, sb_int_str, sb_int_tuple, sb_int_list, sb_int_dict, sb_str_bool, sb_str_int, sb_str_str, sb_str_tuple, sb_str_list, sb_str_dict, sb_tuple_bool, sb_tuple_int, sb_tuple_str, sb_tuple_tuple, sb_tuple_list, sb_tuple_dict, sb_list_bool, sb_list_int, sb_list_str, sb_list_tuple, sb_list_list, sb_list_dict, sb_dict_bool, sb_dict_int, sb_dict_str, sb_dict_tuple, sb_dict_list, sb_dict_dict, decide_true, decide_false, Bool.or_false, Bool.false_or, Bool.or_true, Bool.true_or, Bool.and_true, Bool.true_and, Bool.and_false, Bool.false_and, onBl_bl, onS_some, e_seq, e_asg, e_par, e_two, e_expr, e_retN, e_if, e_tst, e_brk, e_cnt, e_next, e_sub, e_ag, e_raise, e_for, e_var, e_cst, e_op, e_chn, asI_int, e_neg, e_not, e_and, e_or, e_ife, onB_some, e_isN, isN_non, isN_int, isN_bl, isN_str, isN_tup, isN_lst, isN_ref, e_sl, e_none, e_some, e_nil, e_cons, e_tup, e_lst, e_call, e_blt, onT_some, e_isi, e_isii, tn_non, tn_bl, tn_int, tn_str, tn_tup, tn_lst, e_mt, ty_str, ty_tup, ty_lst, e_comp, e_seqI, seqX_str, seqX_tup, seqX_lst, e_one1, e_enum, walk_tup, walk_lst, e_zip, zip_tup, zip_lst, e_rng1, e_rng2, e_yes, onL1_some, e_rev, newL_t, newL_f, asQ_lst, asQ_tup, tgt_one, tgt_pack, tgt_tup, b_add, add_int, add_str, add_tup, add_lst, b_sub, b_mul, mul_int, b_mod, b_fdiv, b_pow, c_eq, c_ne, c_lt, c_le, c_gt, c_ge, c_in, c_nin, eq_int, eq_str, eq_bl, eq_non, in_chr, idx_str, idx_tup, idx_lst, idx_scr, slc_str, slc_tup, slc_lst, slc_scr, f_len, len_str, len_tup, len_lst, len_scr, f_max2, f_min2, f_abs, f_stri, f_strs, f_ints, f_all, f_sum, f_max1, f_min1, f_list, f_tuple, f_sorted, f_sortT, f_dictP, e_listG, e_seqG, e_nilG, e_plainG, e_forG, e_yieldG, m_join, m_split, m_strip, m_index, e_ret, asL_lst, e_lset, e_sortR, e_dg, e_dsub, e_dnew, e_dcomp, e_back, e_fld, e_sfld, e_meth, e_make, key_int, key_str, asK_dct, newD_t, newD_f, cutB_t, cutB_f, f_divmod, f_repr, e_isx, e_try, e_seqL, setI_s, setI_n, dropI_s, dropI_n, e_lrg1, e_lrg2, e_trg1, e_trg2, onK_some, onK1_some, getS, startW, wipeW, Mth.T, Mth.sem, augI, if_true, if_false, Bool.false_eq_true, true_and, and_true, Bool.not_true, Bool.not_false, List.map, List.length, List.replicate, List.cons_append, List.nil_append, List.set_cons_zero, List.set_cons_succ, Nat.reduceAdd, Nat.reduceSub, Int.reduceAdd, Int.reduceSub, Int.reduceNeg, Int.reduceMul, Nat.zero_add]
    have hpos : (0 : Int) < ns.length := by omega
    obtain ⟨j, ej⟩ : ∃ j : Nat, (at_ + 1 + r) % (ns.length : Int) = j := ⟨((at_ + 1 + r) % (ns.length : Int)).toNat, by have := Int.emod_nonneg (at_ + 1 + r) (show (ns.length : Int) ≠ 0 by omega); omega⟩
    have hj : j < ns.length := by have := Int.emod_lt_of_pos (at_ + 1 + r) hpos; omega
    have hne : (j : Int) ≠ at_ := fun e => by
      rw [e] at ej
      have h3 := Int.emod_add_mul_ediv (at_ + 1 + r) (ns.length : Int)
      rw [ej] at h3
      generalize (at_ + 1 + r) / (ns.length : Int) = q at h3
      have h4 : (ns.length : Int) * q = 1 + r := by omega
      have h5 : 0 < q := by
        rcases Int.lt_or_le 0 q with z | z
        · exact z
        · have := Int.mul_nonpos_of_nonneg_of_nonpos (Int.le_of_lt hpos) z
          omega
      have h6 : (ns.length : Int) * 1 ≤ ns.length * q := Int.mul_le_mul_of_nonneg_left (by omega) (Int.le_of_lt hpos)
      omega
    rw [ej]
    have hat : L2.atI (ns.map Dt.int) (j : Int) = some (.int ns[j]) := at_nat (j := j) rfl (by rw [List.getElem?_map, List.getElem?_eq_getElem hj]; rfl)
    try simp only [hat, sb_none_bool, sb_none_int, sb_none_str, sb_none_tuple, sb_none_list, sb_none_dict, sb_bool_bool, sb_bool_int, sb_bool_str, sb_bool_tuple, sb_bool_list, sb_bool_dict, sb_int_bool, sb_int_int, sb_int_str, sb_int_tuple, sb_int_list, sb_int_dict, sb_str_bool, sb_str_int, sb_str_str, sb_str_tuple, sb_str_list, sb_str_dict, sb_tuple_bool, sb_tuple_int, sb_tuple_str, sb_tuple_tuple, sb_tuple_list, sb_tuple_dict, sb_list_bool, sb_list_int, sb_list_str, sb_list_tuple, sb_list_list, sb_list_dict, sb_dict_bool, sb_dict_int, sb_dict_str, sb_dict_tuple, sb_dict_list, sb_dict_dict, decide_true, decide_false, Bool.or_false, Bool.false_or, Bool.or_true, Bool.true_or, Bool.and_true, Bool.true_and, Bool.and_false, Bool.false_and, onBl_bl, onS_some, e_seq, e_asg, e_par, e_two, e_expr, e_retN, e_if, e_tst, e_brk, e_cnt, e_next, e_sub, e_ag, e_raise, e_for, e_var, e_cst, e_op, e_chn, asI_int, e_neg, e_not, e_and, e_or, e_ife, onB_some, e_isN, isN_non, isN_int, isN_bl, isN_str, isN_tup, isN_lst, isN_ref, e_sl, e_none, e_some, e_nil, e_cons, e_tup, e_lst, e_call, e_blt, onT_some, e_isi, e_isii, tn_non, tn_bl, tn_int, tn_str, tn_tup, tn_lst, e_mt, ty_str, ty_tup, ty_lst, e_comp, e_seqI, seqX_str, seqX_tup, seqX_lst, e_one1, e_enum, walk_tup, walk_lst, e_zip, zip_tup, zip_lst, e_rng1, e_rng2, e_yes, onL1_some, e_rev, newL_t, newL_f, asQ_lst, asQ_tup, tgt_one, tgt_pack, tgt_tup, b_add, add_int, add_str, add_tup, add_lst, b_sub, b_mul, mul_int, b_mod, b_fdiv, b_pow, c_eq, c_ne, c_lt, c_le, c_gt, c_ge, c_in, c_nin, eq_int, eq_str, eq_bl, eq_non, in_chr, idx_str, idx_tup, idx_lst, idx_scr, slc_str, slc_tup, slc_lst, slc_scr, f_len, len_str, len_tup, len_lst, len_scr, f_max2, f_min2, f_abs, f_stri, f_strs, f_ints, f_all, f_sum, f_max1, f_min1, f_list, f_tuple, f_sorted, f_sortT, f_dictP, e_listG, e_seqG, e_nilG, e_plainG, e_forG, e_yieldG, m_join, m_split, m_strip, m_index, e_ret, asL_lst, e_lset, e_sortR, e_dg, e_dsub, e_dnew, e_dcomp, e_back, e_fld, e_sfld, e_meth, e_make, key_int, key_str, asK_dct, newD_t, newD_f, cutB_t, cutB_f, f_divmod, f_repr, e_isx, e_try, e_seqL, setI_s, setI_n, dropI_s, dropI_n, e_lrg1, e_lrg2, e_trg1, e_trg2, onK_some, onK1_some, getS, startW, wipeW, Mth.T, Mth.sem, augI, if_true, if_false, Bool.false_eq_true, true_and, and_true, Bool.not_true, Bool.not_false, List.map, List.length, List.replicate, List.cons_append, List.nil_append, List.set_cons_zero, List.set_cons_succ, Nat.reduceAdd, Nat.reduceSub, Int.reduceAdd, Int.reduceSub, Int.reduceNeg, Int.reduceMul, Nat.zero_add]
    refine ⟨hpos, of_eq_true (ty_ref hL2), by decide, by show (List.map _ _).length + 1 ≤ 16777216; rw [List.length_map]; omega, ?_, ?_⟩
    · simp only [List.length_append, List.length_map, List.length_cons, List.length_nil]
      exact c1 (by omega)
    rw [m_append hL2]
    refine ⟨by show _ < 16777216; omega, ?_⟩
    have hmem : ns[j] ∈ a ++ b := by
      rw [List.mem_append]
      rcases Nat.lt_or_ge j at_.toNat with z | z
      · refine .inl (ea ▸ ?_)
        rw [List.mem_iff_getElem?]
        exact ⟨j, by rw [List.getElem?_take_of_lt z, List.getElem?_eq_getElem hj]⟩
      · refine .inr (eb ▸ ?_)
        rw [List.mem_iff_getElem?]
        refine ⟨j - (at_ + 1).toNat, ?_⟩
        rw [List.getElem?_drop, show (at_ + 1).toNat + (j - (at_ + 1).toNat) = j by omega, List.getElem?_eq_getElem hj]
    refine fin _ (l0 ++ [_]) upo_same (fun x hx => ?_) (by rw [List.length_append, hl0]; exact Nat.le_refl _) ((F2.at_ (upo_ne (Ne.symm pf))).mono (by omega)) fun c h1 h2 => by rw [upo_ne h2, S2 c h1]; exact upo_ne h2
    rcases List.mem_append.mp hx with hx | hx
    · exact hb0 x hx
    · rw [List.mem_singleton.mp hx]
      have e1 : a.map Dt.int ++ [Dt.int ns[j]] ++ b.map Dt.int = (a ++ [ns[j]] ++ b).map Dt.int := by simp
      rw [e1]
      refine ⟨not_nodup fun hn => ?_, (Fin.ints (n := 90000) (fun i hi => ?_) ?_).mono (by omega) (by omega)⟩
      · rw [List.nodup_append, List.nodup_append] at hn
        rcases List.mem_append.mp hmem with z | z
        · exact hn.1.2.2 _ z _ (by simp) rfl
        · exact hn.2.2 _ (by simp) _ z rfl
      · rcases List.mem_append.mp hi with hi | hi
        · rcases List.mem_append.mp hi with hi | hi
          · exact hsm i (hta i hi)
          · rw [List.mem_singleton.mp hi]; exact hsm _ (List.getElem_mem _)
        · exact hsm i (htb i hi)
      · simp only [List.length_append, List.length_singleton]; omega
  · rw [decide_eq_false h2]
    refine if_f (fin _ l0 hL1 hb0 (by omega) (F1'.mono (by omega)) fun c _ hc => upo_ne hc)
def sp_law_tried : SpW := fun ws O Q E => ∃ x, ws = [x] ∧ known O x ∧ knowns O x ∧ (isQ x = true → Q (.str "none") O) ∧ (isQ x = false → Q (.str "queue") O)
def sem_law_tried : TSw := seqW (tryW rxL "QueueError" (exprW (callW sp_show_queue (consA (varW 0) (nilA)))) (some 1)
  (fun y a => retW (callW (sp_law_kind y a) (consA (varW 1) (nilA)))))
  (retW (cstW (.str "none")))
theorem law_tried_ok : ∀ ws O Q E, sp_law_tried ws O Q E → semFn 1 2 sem_law_tried ws O Q E := by
  rintro ws O Q E ⟨x, rfl, k, kn, q1, q2⟩
  refine ⟨rfl, ?_⟩
  try simp only [sem_law_tried, sb_none_bool, sb_none_int, sb_none_str, sb_none_tuple, sb_none_list, sb_none_dict, sb_bool_bool, sb_bool_int, sb_bool_str, sb_bool_tuple, sb_bool_list, sb_bool_dict, sb_int_bool, sb_int_int, sb_int_str, sb_int_tuple, sb_int_list, sb_int_dict, sb_str_bool, sb_str_int, sb_str_str, sb_str_tuple, sb_str_list, sb_str_dict, sb_tuple_bool, sb_tuple_int, sb_tuple_str, sb_tuple_tuple, sb_tuple_list, sb_tuple_dict, sb_list_bool, sb_list_int, sb_list_str, sb_list_tuple, sb_list_list, sb_list_dict, sb_dict_bool, sb_dict_int, sb_dict_str, sb_dict_tuple, sb_dict_list, sb_dict_dict, decide_true, decide_false, Bool.or_false, Bool.false_or, Bool.or_true, Bool.true_or, Bool.and_true, Bool.true_and, Bool.and_false, Bool.false_and, onBl_bl, onS_some, e_seq, e_asg, e_par, e_two, e_expr, e_retN, e_if, e_tst, e_brk, e_cnt, e_next, e_sub, e_ag, e_raise, e_for, e_var, e_cst, e_op, e_chn, asI_int, e_neg, e_not, e_and, e_or, e_ife, onB_some, e_isN, isN_non, isN_int, isN_bl, isN_str, isN_tup, isN_lst, isN_ref, e_sl, e_none, e_some, e_nil, e_cons, e_tup, e_lst, e_call, e_blt, onT_some, e_isi, e_isii, tn_non, tn_bl, tn_int, tn_str, tn_tup, tn_lst, e_mt, ty_str, ty_tup, ty_lst, e_comp, e_seqI, seqX_str, seqX_tup, seqX_lst, e_one1, e_enum, walk_tup, walk_lst, e_zip, zip_tup, zip_lst, e_rng1, e_rng2, e_yes, onL1_some, e_rev, newL_t, newL_f, asQ_lst, asQ_tup, tgt_one, tgt_pack, tgt_tup, b_add, add_int, add_str, add_tup, add_lst, b_sub, b_mul, mul_int, b_mod, b_fdiv, b_pow, c_eq, c_ne, c_lt, c_le, c_gt, c_ge, c_in, c_nin, eq_int, eq_str, eq_bl, eq_non, in_chr, idx_str, idx_tup, idx_lst, idx_scr, slc_str, slc_tup, slc_lst, slc_scr, f_len, len_str, len_tup, len_lst, len_scr, f_max2, f_min2, f_abs, f_stri, f_strs, f_ints, f_all, f_sum, f_max1, f_min1, f_list, f_tuple, f_sorted, f_sortT, f_dictP, e_listG, e_seqG, e_nilG, e_plainG, e_forG, e_yieldG, m_join, m_split, m_strip, m_index, e_ret, asL_lst, e_lset, e_sortR, e_dg, e_dsub, e_dnew, e_dcomp, e_back, e_fld, e_sfld, e_meth, e_make, key_int, key_str, asK_dct, newD_t, newD_f, cutB_t, cutB_f, f_divmod, f_repr, e_isx, e_try, e_seqL, setI_s, setI_n, dropI_s, dropI_n, e_lrg1, e_lrg2, e_trg1, e_trg2, onK_some, onK1_some, getS, startW, wipeW, Mth.T, Mth.sem, augI, if_true, if_false, Bool.false_eq_true, true_and, and_true, Bool.not_true, Bool.not_false, List.map, List.length, List.replicate, List.cons_append, List.nil_append, List.set_cons_zero, List.set_cons_succ, Nat.reduceAdd, Nat.reduceSub, Int.reduceAdd, Int.reduceSub, Int.reduceNeg, Int.reduceMul, Nat.zero_add]
  refine ⟨x, rfl, k, kn, fun ns e hQ => ?_, fun hf => ⟨by decide, ?_⟩⟩
  · try simp only [sb_none_bool, sb_none_int, sb_none_str, sb_none_tuple, sb_none_list, sb_none_dict, sb_bool_bool, sb_bool_int, sb_bool_str, sb_bool_tuple, sb_bool_list, sb_bool_dict, sb_int_bool, sb_int_int, sb_int_str, sb_int_tuple, sb_int_list, sb_int_dict, sb_str_bool, sb_str_int, sb_str_str, sb_str_tuple, sb_str_list, sb_str_dict, sb_tuple_bool, sb_tuple_int, sb_tuple_str, sb_tuple_tuple, sb_tuple_list, sb_tuple_dict, sb_list_bool, sb_list_int, sb_list_str, sb_list_tuple, sb_list_list, sb_list_dict, sb_dict_bool, sb_dict_int, sb_dict_str, sb_dict_tuple, sb_dict_list, sb_dict_dict, decide_true, decide_false, Bool.or_false, Bool.false_or, Bool.or_true, Bool.true_or, Bool.and_true, Bool.true_and, Bool.and_false, Bool.false_and, onBl_bl, onS_some, e_seq, e_asg, e_par, e_two, e_expr, e_retN, e_if, e_tst, e_brk, e_cnt, e_next, e_sub, e_ag, e_raise, e_for, e_var, e_cst, e_op, e_chn, asI_int, e_neg, e_not, e_and, e_or, e_ife, onB_some, e_isN, isN_non, isN_int, isN_bl, isN_str, isN_tup, isN_lst, isN_ref, e_sl, e_none, e_some, e_nil, e_cons, e_tup, e_lst, e_call, e_blt, onT_some, e_isi, e_isii, tn_non, tn_bl, tn_int, tn_str, tn_tup, tn_lst, e_mt, ty_str, ty_tup, ty_lst, e_comp, e_seqI, seqX_str, seqX_tup, seqX_lst, e_one1, e_enum, walk_tup, walk_lst, e_zip, zip_tup, zip_lst, e_rng1, e_rng2, e_yes, onL1_some, e_rev, newL_t, newL_f, asQ_lst, asQ_tup, tgt_one, tgt_pack, tgt_tup, b_add, add_int, add_str, add_tup, add_lst, b_sub, b_mul, mul_int, b_mod, b_fdiv, b_pow, c_eq, c_ne, c_lt, c_le, c_gt, c_ge, c_in, c_nin, eq_int, eq_str, eq_bl, eq_non, in_chr, idx_str, idx_tup, idx_lst, idx_scr, slc_str, slc_tup, slc_lst, slc_scr, f_len, len_str, len_tup, len_lst, len_scr, f_max2, f_min2, f_abs, f_stri, f_strs, f_ints, f_all, f_sum, f_max1, f_min1, f_list, f_tuple, f_sorted, f_sortT, f_dictP, e_listG, e_seqG, e_nilG, e_plainG, e_forG, e_yieldG, m_join, m_split, m_strip, m_index, e_ret, asL_lst, e_lset, e_sortR, e_dg, e_dsub, e_dnew, e_dcomp, e_back, e_fld, e_sfld, e_meth, e_make, key_int, key_str, asK_dct, newD_t, newD_f, cutB_t, cutB_f, f_divmod, f_repr, e_isx, e_try, e_seqL, setI_s, setI_n, dropI_s, dropI_n, e_lrg1, e_lrg2, e_trg1, e_trg2, onK_some, onK1_some, getS, startW, wipeW, Mth.T, Mth.sem, augI, if_true, if_false, Bool.false_eq_true, true_and, and_true, Bool.not_true, Bool.not_false, List.map, List.length, List.replicate, List.cons_append, List.nil_append, List.set_cons_zero, List.set_cons_succ, Nat.reduceAdd, Nat.reduceSub, Int.reduceAdd, Int.reduceSub, Int.reduceNeg, Int.reduceMul, Nat.zero_add]
    exact Ang.keep (q1 (by rw [e]; exact isQ_que hQ))
  · rw [if_pos (by decide)]
    intro a ha
    try simp only [sb_none_bool, sb_none_int, sb_none_str, sb_none_tuple, sb_none_list, sb_none_dict, sb_bool_bool, sb_bool_int, sb_bool_str, sb_bool_tuple, sb_bool_list, sb_bool_dict, sb_int_bool, sb_int_int, sb_int_str, sb_int_tuple, sb_int_list, sb_int_dict, sb_str_bool, sb_str_int, sb_str_str, sb_str_tuple, sb_str_list, sb_str_dict, sb_tuple_bool, sb_tuple_int, sb_tuple_str, sb_tuple_tuple, sb_tuple_list, sb_tuple_dict, sb_list_bool, sb_list_int, sb_list_str, sb_list_tuple, sb_list_list, sb_list_dict, sb_dict_bool, sb_dict_int, sb_dict_str, sb_dict_tuple, sb_dict_list, sb_dict_dict, decide_true, decide_false, Bool.or_false, Bool.false_or, Bool.or_true, Bool.true_or, Bool.and_true, Bool.true_and, Bool.and_false, Bool.false_and, onBl_bl, onS_some, e_seq, e_asg, e_par, e_two, e_expr, e_retN, e_if, e_tst, e_brk, e_cnt, e_next, e_sub, e_ag, e_raise, e_for, e_var, e_cst, e_op, e_chn, asI_int, e_neg, e_not, e_and, e_or, e_ife, onB_some, e_isN, isN_non, isN_int, isN_bl, isN_str, isN_tup, isN_lst, isN_ref, e_sl, e_none, e_some, e_nil, e_cons, e_tup, e_lst, e_call, e_blt, onT_some, e_isi, e_isii, tn_non, tn_bl, tn_int, tn_str, tn_tup, tn_lst, e_mt, ty_str, ty_tup, ty_lst, e_comp, e_seqI, seqX_str, seqX_tup, seqX_lst, e_one1, e_enum, walk_tup, walk_lst, e_zip, zip_tup, zip_lst, e_rng1, e_rng2, e_yes, onL1_some, e_rev, newL_t, newL_f, asQ_lst, asQ_tup, tgt_one, tgt_pack, tgt_tup, b_add, add_int, add_str, add_tup, add_lst, b_sub, b_mul, mul_int, b_mod, b_fdiv, b_pow, c_eq, c_ne, c_lt, c_le, c_gt, c_ge, c_in, c_nin, eq_int, eq_str, eq_bl, eq_non, in_chr, idx_str, idx_tup, idx_lst, idx_scr, slc_str, slc_tup, slc_lst, slc_scr, f_len, len_str, len_tup, len_lst, len_scr, f_max2, f_min2, f_abs, f_stri, f_strs, f_ints, f_all, f_sum, f_max1, f_min1, f_list, f_tuple, f_sorted, f_sortT, f_dictP, e_listG, e_seqG, e_nilG, e_plainG, e_forG, e_yieldG, m_join, m_split, m_strip, m_index, e_ret, asL_lst, e_lset, e_sortR, e_dg, e_dsub, e_dnew, e_dcomp, e_back, e_fld, e_sfld, e_meth, e_make, key_int, key_str, asK_dct, newD_t, newD_f, cutB_t, cutB_f, f_divmod, f_repr, e_isx, e_try, e_seqL, setI_s, setI_n, dropI_s, dropI_n, e_lrg1, e_lrg2, e_trg1, e_trg2, onK_some, onK1_some, getS, startW, wipeW, Mth.T, Mth.sem, augI, if_true, if_false, Bool.false_eq_true, true_and, and_true, Bool.not_true, Bool.not_false, List.map, List.length, List.replicate, List.cons_append, List.nil_append, List.set_cons_zero, List.set_cons_succ, Nat.reduceAdd, Nat.reduceSub, Int.reduceAdd, Int.reduceSub, Int.reduceNeg, Int.reduceMul, Nat.zero_add]
    refine ⟨rfl, rfl, by decide, ?_⟩
    rw [show wordX "NoQueue" = "queue" by decide +kernel]
    exact Ang.keep (q2 hf)
theorem tried_bad {x : Dt} {O : OW} {Q : KW} {E : Exc → OW → Prop} (h : Bad x) (q : Q (.str "queue") O) : sp_law_tried [x] O Q E :=
  ⟨x, rfl, pure_known h.2.p, pure_knowns h.2.p, fun z => (by rw [h.1] at z; cases z), fun _ => q⟩
theorem tried_good {ns : List Int} {O : OW} {Q : KW} {E : Exc → OW → Prop} (h : Que ns) (q : Q (.str "none") O) : sp_law_tried [qD ns] O Q E :=
  ⟨_, rfl, ⟨_, rfl⟩, pure_knowns (Fin.ints (fun i hi => (h.hs i hi).small) (Nat.le_refl _)).p, fun _ => q, fun z => (by rw [isQ_que h] at z; cases z)⟩
def sem_law : TSw := seqW (forW (rng1I (consA (bltW (Blt.sem .max2) (consA (cstW (.int 1)) (consA (bltW (Blt.sem .min2) (consA (cstW (.int 6)) (consA (bltW (Blt.sem .len) (consA (varW 0) (nilA))) (nilA)))) (nilA)))) (nilA))) (.one 1)
  (seqW (asgW (callW sp_law_fount (consA (varW 0) (consA (varW 1) (nilA)))) (.one 2))
  (seqW (asgW (callW sp_law_line (consA (varW 2) (consA (cstW (.int 40)) (nilA)))) (.one 3))
  (forW (rng1I (consA (cstW (.int 4)) (nilA))) (.one 4)
  (seqW (asgW (callW sp_law_no_queues (consA (varW 2) (consA (varW 3) (nilA)))) (.one 5))
  (seqW (asgW (bltW reprXW (consA (lstW true (consA (varW 3) (consA (varW 5) (nilA)))) (nilA))) (.one 6))
  (seqW (ifW (tstW (opW (cmpW .ne) (compW true (seqI (varW 5)) (.one 7) (tstW (opW (cmpW .ne) (callW sp_law_tried (consA (varW 7) (nilA))) (cstW (.str "queue")))) (varW 7) [7]) (lstW true (nilA))))
  (retW (cstW (.bl false)))
  (nextW))
  (ifW (tstW (orW (opW (cmpW .ne) (callW sp_law_tried (consA (varW 3) (nilA))) (cstW (.str "none"))) (opW (cmpW .ne) (bltW reprXW (consA (lstW true (consA (varW 3) (consA (varW 5) (nilA)))) (nilA))) (varW 6))))
  (retW (cstW (.bl false)))
  (nextW)))))
  (nextW))))
  (nextW))
  (retW (opW (cmpW .eq) (callW sp_law_tried (consA (bltW (Blt.sem .tuple) (consA (lrg1W true (cstW (.int 40))) (nilA))) (nilA))) (cstW (.str "none"))))
theorem law53_ok : ∀ ws O Q E, sp_LAW ws O Q E → semFn 1 8 sem_law ws O Q E := by
  rintro ws O Q E ⟨ns, rfl, hl, q⟩
  refine ⟨rfl, ?_⟩
  try simp only [sem_law, sb_none_bool, sb_none_int, sb_none_str, sb_none_tuple, sb_none_list, sb_none_dict, sb_bool_bool, sb_bool_int, sb_bool_str, sb_bool_tuple, sb_bool_list, sb_bool_dict, sb_int_bool, sb_int_int, sb_int_str, sb_int_tuple, sb_int_list, sb_int_dict, sb_str_bool, sb_str_int, sb_str_str, sb_str_tuple, sb_str_list, sb_str_dict, sb_tuple_bool, sb_tuple_int, sb_tuple_str, sb_tuple_tuple, sb_tuple_list, sb_tuple_dict, sb_list_bool, sb_list_int, sb_list_str, sb_list_tuple, sb_list_list, sb_list_dict, sb_dict_bool, sb_dict_int, sb_dict_str, sb_dict_tuple, sb_dict_list, sb_dict_dict, decide_true, decide_false, Bool.or_false, Bool.false_or, Bool.or_true, Bool.true_or, Bool.and_true, Bool.true_and, Bool.and_false, Bool.false_and, onBl_bl, onS_some, e_seq, e_asg, e_par, e_two, e_expr, e_retN, e_if, e_tst, e_brk, e_cnt, e_next, e_sub, e_ag, e_raise, e_for, e_var, e_cst, e_op, e_chn, asI_int, e_neg, e_not, e_and, e_or, e_ife, onB_some, e_isN, isN_non, isN_int, isN_bl, isN_str, isN_tup, isN_lst, isN_ref, e_sl, e_none, e_some, e_nil, e_cons, e_tup, e_lst, e_call, e_blt, onT_some, e_isi, e_isii, tn_non, tn_bl, tn_int, tn_str, tn_tup, tn_lst, e_mt, ty_str, ty_tup, ty_lst, e_comp, e_seqI, seqX_str, seqX_tup, seqX_lst, e_one1, e_enum, walk_tup, walk_lst, e_zip, zip_tup, zip_lst, e_rng1, e_rng2, e_yes, onL1_some, e_rev, newL_t, newL_f, asQ_lst, asQ_tup, tgt_one, tgt_pack, tgt_tup, b_add, add_int, add_str, add_tup, add_lst, b_sub, b_mul, mul_int, b_mod, b_fdiv, b_pow, c_eq, c_ne, c_lt, c_le, c_gt, c_ge, c_in, c_nin, eq_int, eq_str, eq_bl, eq_non, in_chr, idx_str, idx_tup, idx_lst, idx_scr, slc_str, slc_tup, slc_lst, slc_scr, f_len, len_str, len_tup, len_lst, len_scr, f_max2, f_min2, f_abs, f_stri, f_strs, f_ints, f_all, f_sum, f_max1, f_min1, f_list, f_tuple, f_sorted, f_sortT, f_dictP, e_listG, e_seqG, e_nilG, e_plainG, e_forG, e_yieldG, m_join, m_split, m_strip, m_index, e_ret, asL_lst, e_lset, e_sortR, e_dg, e_dsub, e_dnew, e_dcomp, e_back, e_fld, e_sfld, e_meth, e_make, key_int, key_str, asK_dct, newD_t, newD_f, cutB_t, cutB_f, f_divmod, f_repr, e_isx, e_try, e_seqL, setI_s, setI_n, dropI_s, dropI_n, e_lrg1, e_lrg2, e_trg1, e_trg2, onK_some, onK1_some, getS, startW, wipeW, Mth.T, Mth.sem, augI, if_true, if_false, Bool.false_eq_true, true_and, and_true, Bool.not_true, Bool.not_false, List.map, List.length, List.replicate, List.cons_append, List.nil_append, List.set_cons_zero, List.set_cons_succ, Nat.reduceAdd, Nat.reduceSub, Int.reduceAdd, Int.reduceSub, Int.reduceNeg, Int.reduceMul, Nat.zero_add, List.length_map]
  refine ⟨⟨by split <;> omega, by split <;> split <;> omega⟩, ?_⟩
  refine loop_inv (fun i τ O' => ∃ v1 v2 v3 v4 v5 v6 v7, τ = [some (.scr (ns.map Dt.int)), v1, v2, v3, v4, v5, v6, v7]) _ 0 _ _ ⟨none, none, none, none, none, none, none, rfl⟩ (fun _ _ _ _ => trivial) ?_ ?_
  · rintro j y τ O1 hy ⟨v1, v2, v3, v4, v5, v6, v7, rfl⟩ N hN
    obtain ⟨hj, rfl⟩ := rngY_get hy
    have hj : j < 6 := by
      split at hj <;> split at hj <;> omega
    try simp only [sb_none_bool, sb_none_int, sb_none_str, sb_none_tuple, sb_none_list, sb_none_dict, sb_bool_bool, sb_bool_int, sb_bool_str, sb_bool_tuple, sb_bool_list, sb_bool_dict, sb_int_bool, sb_int_int, sb_int_str, sb_int_tuple, sb_int_list, sb_int_dict, sb_str_bool, sb_str_int, sb_str_str, sb_str_tuple, sb_str_list, sb_str_dict, sb_tuple_bool, sb_tuple_int, sb_tuple_str, sb_tuple_tuple, sb_tuple_list, sb_tuple_dict, sb_list_bool, sb_list_int, sb_list_str, sb_list_tuple, sb_list_list, sb_list_dict, sb_dict_bool, sb_dict_int, sb_dict_str, sb_dict_tuple, sb_dict_list, sb_dict_dict, decide_true, decide_false, Bool.or_false, Bool.false_or, Bool.or_true, Bool.true_or, Bool.and_true, Bool.true_and, Bool.and_false, Bool.false_and, onBl_bl, onS_some, e_seq, e_asg, e_par, e_two, e_expr, e_retN, e_if, e_tst, e_brk, e_cnt, e_next, e_sub, e_ag, e_raise, e_for, e_var, e_cst, e_op, e_chn, asI_int, e_neg, e_not, e_and, e_or, e_ife, onB_some, e_isN, isN_non, isN_int, isN_bl, isN_str, isN_tup, isN_lst, isN_ref, e_sl, e_none, e_some, e_nil, e_cons, e_tup, e_lst, e_call, e_blt, onT_some, e_isi, e_isii, tn_non, tn_bl, tn_int, tn_str, tn_tup, tn_lst, e_mt, ty_str, ty_tup, ty_lst, e_comp, e_seqI, seqX_str, seqX_tup, seqX_lst, e_one1, e_enum, walk_tup, walk_lst, e_zip, zip_tup, zip_lst, e_rng1, e_rng2, e_yes, onL1_some, e_rev, newL_t, newL_f, asQ_lst, asQ_tup, tgt_one, tgt_pack, tgt_tup, b_add, add_int, add_str, add_tup, add_lst, b_sub, b_mul, mul_int, b_mod, b_fdiv, b_pow, c_eq, c_ne, c_lt, c_le, c_gt, c_ge, c_in, c_nin, eq_int, eq_str, eq_bl, eq_non, in_chr, idx_str, idx_tup, idx_lst, idx_scr, slc_str, slc_tup, slc_lst, slc_scr, f_len, len_str, len_tup, len_lst, len_scr, f_max2, f_min2, f_abs, f_stri, f_strs, f_ints, f_all, f_sum, f_max1, f_min1, f_list, f_tuple, f_sorted, f_sortT, f_dictP, e_listG, e_seqG, e_nilG, e_plainG, e_forG, e_yieldG, m_join, m_split, m_strip, m_index, e_ret, asL_lst, e_lset, e_sortR, e_dg, e_dsub, e_dnew, e_dcomp, e_back, e_fld, e_sfld, e_meth, e_make, key_int, key_str, asK_dct, newD_t, newD_f, cutB_t, cutB_f, f_divmod, f_repr, e_isx, e_try, e_seqL, setI_s, setI_n, dropI_s, dropI_n, e_lrg1, e_lrg2, e_trg1, e_trg2, onK_some, onK1_some, getS, startW, wipeW, Mth.T, Mth.sem, augI, if_true, if_false, Bool.false_eq_true, true_and, and_true, Bool.not_true, Bool.not_false, List.map, List.length, List.replicate, List.cons_append, List.nil_append, List.set_cons_zero, List.set_cons_succ, Nat.reduceAdd, Nat.reduceSub, Int.reduceAdd, Int.reduceSub, Int.reduceNeg, Int.reduceMul, Nat.zero_add]
    refine ⟨ns, _, rfl, by omega, by omega, fun f O2 hf F1 S1 => ?_⟩
    try simp only [sb_none_bool, sb_none_int, sb_none_str, sb_none_tuple, sb_none_list, sb_none_dict, sb_bool_bool, sb_bool_int, sb_bool_str, sb_bool_tuple, sb_bool_list, sb_bool_dict, sb_int_bool, sb_int_int, sb_int_str, sb_int_tuple, sb_int_list, sb_int_dict, sb_str_bool, sb_str_int, sb_str_str, sb_str_tuple, sb_str_list, sb_str_dict, sb_tuple_bool, sb_tuple_int, sb_tuple_str, sb_tuple_tuple, sb_tuple_list, sb_tuple_dict, sb_list_bool, sb_list_int, sb_list_str, sb_list_tuple, sb_list_list, sb_list_dict, sb_dict_bool, sb_dict_int, sb_dict_str, sb_dict_tuple, sb_dict_list, sb_dict_dict, decide_true, decide_false, Bool.or_false, Bool.false_or, Bool.or_true, Bool.true_or, Bool.and_true, Bool.true_and, Bool.and_false, Bool.false_and, onBl_bl, onS_some, e_seq, e_asg, e_par, e_two, e_expr, e_retN, e_if, e_tst, e_brk, e_cnt, e_next, e_sub, e_ag, e_raise, e_for, e_var, e_cst, e_op, e_chn, asI_int, e_neg, e_not, e_and, e_or, e_ife, onB_some, e_isN, isN_non, isN_int, isN_bl, isN_str, isN_tup, isN_lst, isN_ref, e_sl, e_none, e_some, e_nil, e_cons, e_tup, e_lst, e_call, e_blt, onT_some, e_isi, e_isii, tn_non, tn_bl, tn_int, tn_str, tn_tup, tn_lst, e_mt, ty_str, ty_tup, ty_lst, e_comp, e_seqI, seqX_str, seqX_tup, seqX_lst, e_one1, e_enum, walk_tup, walk_lst, e_zip, zip_tup, zip_lst, e_rng1, e_rng2, e_yes, onL1_some, e_rev, newL_t, newL_f, asQ_lst, asQ_tup, tgt_one, tgt_pack, tgt_tup, b_add, add_int, add_str, add_tup, add_lst, b_sub, b_mul, mul_int, b_mod, b_fdiv, b_pow, c_eq, c_ne, c_lt, c_le, c_gt, c_ge, c_in, c_nin, eq_int, eq_str, eq_bl, eq_non, in_chr, idx_str, idx_tup, idx_lst, idx_scr, slc_str, slc_tup, slc_lst, slc_scr, f_len, len_str, len_tup, len_lst, len_scr, f_max2, f_min2, f_abs, f_stri, f_strs, f_ints, f_all, f_sum, f_max1, f_min1, f_list, f_tuple, f_sorted, f_sortT, f_dictP, e_listG, e_seqG, e_nilG, e_plainG, e_forG, e_yieldG, m_join, m_split, m_strip, m_index, e_ret, asL_lst, e_lset, e_sortR, e_dg, e_dsub, e_dnew, e_dcomp, e_back, e_fld, e_sfld, e_meth, e_make, key_int, key_str, asK_dct, newD_t, newD_f, cutB_t, cutB_f, f_divmod, f_repr, e_isx, e_try, e_seqL, setI_s, setI_n, dropI_s, dropI_n, e_lrg1, e_lrg2, e_trg1, e_trg2, onK_some, onK1_some, getS, startW, wipeW, Mth.T, Mth.sem, augI, if_true, if_false, Bool.false_eq_true, true_and, and_true, Bool.not_true, Bool.not_false, List.map, List.length, List.replicate, List.cons_append, List.nil_append, List.set_cons_zero, List.set_cons_succ, Nat.reduceAdd, Nat.reduceSub, Int.reduceAdd, Int.reduceSub, Int.reduceNeg, Int.reduceMul, Nat.zero_add]
    refine ⟨f, 40, _, rfl, by omega, by omega, F1, by omega, fun l O3 hQ hlm F2 S2 => ?_⟩
    try simp only [sb_none_bool, sb_none_int, sb_none_str, sb_none_tuple, sb_none_list, sb_none_dict, sb_bool_bool, sb_bool_int, sb_bool_str, sb_bool_tuple, sb_bool_list, sb_bool_dict, sb_int_bool, sb_int_int, sb_int_str, sb_int_tuple, sb_int_list, sb_int_dict, sb_str_bool, sb_str_int, sb_str_str, sb_str_tuple, sb_str_list, sb_str_dict, sb_tuple_bool, sb_tuple_int, sb_tuple_str, sb_tuple_tuple, sb_tuple_list, sb_tuple_dict, sb_list_bool, sb_list_int, sb_list_str, sb_list_tuple, sb_list_list, sb_list_dict, sb_dict_bool, sb_dict_int, sb_dict_str, sb_dict_tuple, sb_dict_list, sb_dict_dict, decide_true, decide_false, Bool.or_false, Bool.false_or, Bool.or_true, Bool.true_or, Bool.and_true, Bool.true_and, Bool.and_false, Bool.false_and, onBl_bl, onS_some, e_seq, e_asg, e_par, e_two, e_expr, e_retN, e_if, e_tst, e_brk, e_cnt, e_next, e_sub, e_ag, e_raise, e_for, e_var, e_cst, e_op, e_chn, asI_int, e_neg, e_not, e_and, e_or, e_ife, onB_some, e_isN, isN_non, isN_int, isN_bl, isN_str, isN_tup, isN_lst, isN_ref, e_sl, e_none, e_some, e_nil, e_cons, e_tup, e_lst, e_call, e_blt, onT_some, e_isi, e_isii, tn_non, tn_bl, tn_int, tn_str, tn_tup, tn_lst, e_mt, ty_str, ty_tup, ty_lst, e_comp, e_seqI, seqX_str, seqX_tup, seqX_lst, e_one1, e_enum, walk_tup, walk_lst, e_zip, zip_tup, zip_lst, e_rng1, e_rng2, e_yes, onL1_some, e_rev, newL_t, newL_f, asQ_lst, asQ_tup, tgt_one, tgt_pack, tgt_tup, b_add, add_int, add_str, add_tup, add_lst, b_sub, b_mul, mul_int, b_mod, b_fdiv, b_pow, c_eq, c_ne, c_lt, c_le, c_gt, c_ge, c_in, c_nin, eq_int, eq_str, eq_bl, eq_non, in_chr, idx_str, idx_tup, idx_lst, idx_scr, slc_str, slc_tup, slc_lst, slc_scr, f_len, len_str, len_tup, len_lst, len_scr, f_max2, f_min2, f_abs, f_stri, f_strs, f_ints, f_all, f_sum, f_max1, f_min1, f_list, f_tuple, f_sorted, f_sortT, f_dictP, e_listG, e_seqG, e_nilG, e_plainG, e_forG, e_yieldG, m_join, m_split, m_strip, m_index, e_ret, asL_lst, e_lset, e_sortR, e_dg, e_dsub, e_dnew, e_dcomp, e_back, e_fld, e_sfld, e_meth, e_make, key_int, key_str, asK_dct, newD_t, newD_f, cutB_t, cutB_f, f_divmod, f_repr, e_isx, e_try, e_seqL, setI_s, setI_n, dropI_s, dropI_n, e_lrg1, e_lrg2, e_trg1, e_trg2, onK_some, onK1_some, getS, startW, wipeW, Mth.T, Mth.sem, augI, if_true, if_false, Bool.false_eq_true, true_and, and_true, Bool.not_true, Bool.not_false, List.map, List.length, List.replicate, List.cons_append, List.nil_append, List.set_cons_zero, List.set_cons_succ, Nat.reduceAdd, Nat.reduceSub, Int.reduceAdd, Int.reduceSub, Int.reduceNeg, Int.reduceMul, Nat.zero_add]
    refine ⟨⟨by omega, by omega⟩, ?_⟩
    refine loop_inv (fun i τ O' => Fo O' f (400 + 2 * i) ∧ ∃ v4 v5 v6 v7, τ = [some (.scr (ns.map Dt.int)), some (.int (0 + j)), some (.ref f), some (qD l), v4, v5, v6, v7]) _ 0 _ _ ⟨F2.mono (by omega), _, _, _, _, rfl⟩ (fun _ _ _ _ => trivial) ?_ ?_
    · rintro i y τ O4 hy2 ⟨F3, v4, v5, v6, v7, rfl⟩ N2 hN2
      obtain ⟨hi, rfl⟩ := rngY_get hy2
      have hi4 : i < 4 := by simpa using hi
      try simp only [sb_none_bool, sb_none_int, sb_none_str, sb_none_tuple, sb_none_list, sb_none_dict, sb_bool_bool, sb_bool_int, sb_bool_str, sb_bool_tuple, sb_bool_list, sb_bool_dict, sb_int_bool, sb_int_int, sb_int_str, sb_int_tuple, sb_int_list, sb_int_dict, sb_str_bool, sb_str_int, sb_str_str, sb_str_tuple, sb_str_list, sb_str_dict, sb_tuple_bool, sb_tuple_int, sb_tuple_str, sb_tuple_tuple, sb_tuple_list, sb_tuple_dict, sb_list_bool, sb_list_int, sb_list_str, sb_list_tuple, sb_list_list, sb_list_dict, sb_dict_bool, sb_dict_int, sb_dict_str, sb_dict_tuple, sb_dict_list, sb_dict_dict, decide_true, decide_false, Bool.or_false, Bool.false_or, Bool.or_true, Bool.true_or, Bool.and_true, Bool.true_and, Bool.and_false, Bool.false_and, onBl_bl, onS_some, e_seq, e_asg, e_par, e_two, e_expr, e_retN, e_if, e_tst, e_brk, e_cnt, e_next, e_sub, e_ag, e_raise, e_for, e_var, e_cst, e_op, e_chn, asI_int, e_neg, e_not, e_and, e_or, e_ife, onB_some, e_isN, isN_non, isN_int, isN_bl, isN_str, isN_tup, isN_lst, isN_ref, e_sl, e_none, e_some, e_nil, e_cons, e_tup, e_lst, e_call, e_blt, onT_some, e_isi, e_isii, tn_non, tn_bl, tn_int, tn_str, tn_tup, tn_lst, e_mt, ty_str, ty_tup, ty_lst, e_comp, e_seqI, seqX_str, seqX_tup, seqX_lst, e_one1, e_enum, walk_tup, walk_lst, e_zip, zip_tup, zip_lst, e_rng1, e_rng2, e_yes, onL1_some, e_rev, newL_t, newL_f, asQ_lst, asQ_tup, tgt_one, tgt_pack, tgt_tup, b_add, add_int, add_str, add_tup, add_lst, b_sub, b_mul, mul_int, b_mod, b_fdiv, b_pow, c_eq, c_ne, c_lt, c_le, c_gt, c_ge, c_in, c_nin, eq_int, eq_str, eq_bl, eq_non, in_chr, idx_str, idx_tup, idx_lst, idx_scr, slc_str, slc_tup, slc_lst, slc_scr, f_len, len_str, len_tup, len_lst, len_scr, f_max2, f_min2, f_abs, f_stri, f_strs, f_ints, f_all, f_sum, f_max1, f_min1, f_list, f_tuple, f_sorted, f_sortT, f_dictP, e_listG, e_seqG, e_nilG, e_plainG, e_forG, e_yieldG, m_join, m_split, m_strip, m_index, e_ret, asL_lst, e_lset, e_sortR, e_dg, e_dsub, e_dnew, e_dcomp, e_back, e_fld, e_sfld, e_meth, e_make, key_int, key_str, asK_dct, newD_t, newD_f, cutB_t, cutB_f, f_divmod, f_repr, e_isx, e_try, e_seqL, setI_s, setI_n, dropI_s, dropI_n, e_lrg1, e_lrg2, e_trg1, e_trg2, onK_some, onK1_some, getS, startW, wipeW, Mth.T, Mth.sem, augI, if_true, if_false, Bool.false_eq_true, true_and, and_true, Bool.not_true, Bool.not_false, List.map, List.length, List.replicate, List.cons_append, List.nil_append, List.set_cons_zero, List.set_cons_succ, Nat.reduceAdd, Nat.reduceSub, Int.reduceAdd, Int.reduceSub, Int.reduceNeg, Int.reduceMul, Nat.zero_add]
      simp only [Nat.zero_add] at *
      refine ⟨f, _, l, rfl, hQ, F3, by omega, fun bad O5 hbad hbl F4 S4 => ?_⟩
      have hlF : Fin 2 90000 (qD l) := Fin.ints (fun i hi => (hQ.hs i hi).small) (by have := hQ.l40; omega)
      have hbF : Fin 4 6000000 (.lst bad) := Fin.lst (fun w hw => (hbad w hw).2) (by omega)
      have hF : Fin 5 16000000 (.lst [qD l, .lst bad]) := Fin.lst (d := 4) (c := 6000000) (fun w hw => by
        simp only [List.mem_cons, List.not_mem_nil, or_false] at hw
        rcases hw with rfl | rfl
        · exact hlF.mono (by omega) (by omega)
        · exact hbF) (by simp)
      try simp only [sb_none_bool, sb_none_int, sb_none_str, sb_none_tuple, sb_none_list, sb_none_dict, sb_bool_bool, sb_bool_int, sb_bool_str, sb_bool_tuple, sb_bool_list, sb_bool_dict, sb_int_bool, sb_int_int, sb_int_str, sb_int_tuple, sb_int_list, sb_int_dict, sb_str_bool, sb_str_int, sb_str_str, sb_str_tuple, sb_str_list, sb_str_dict, sb_tuple_bool, sb_tuple_int, sb_tuple_str, sb_tuple_tuple, sb_tuple_list, sb_tuple_dict, sb_list_bool, sb_list_int, sb_list_str, sb_list_tuple, sb_list_list, sb_list_dict, sb_dict_bool, sb_dict_int, sb_dict_str, sb_dict_tuple, sb_dict_list, sb_dict_dict, decide_true, decide_false, Bool.or_false, Bool.false_or, Bool.or_true, Bool.true_or, Bool.and_true, Bool.true_and, Bool.and_false, Bool.false_and, onBl_bl, onS_some, e_seq, e_asg, e_par, e_two, e_expr, e_retN, e_if, e_tst, e_brk, e_cnt, e_next, e_sub, e_ag, e_raise, e_for, e_var, e_cst, e_op, e_chn, asI_int, e_neg, e_not, e_and, e_or, e_ife, onB_some, e_isN, isN_non, isN_int, isN_bl, isN_str, isN_tup, isN_lst, isN_ref, e_sl, e_none, e_some, e_nil, e_cons, e_tup, e_lst, e_call, e_blt, onT_some, e_isi, e_isii, tn_non, tn_bl, tn_int, tn_str, tn_tup, tn_lst, e_mt, ty_str, ty_tup, ty_lst, e_comp, e_seqI, seqX_str, seqX_tup, seqX_lst, e_one1, e_enum, walk_tup, walk_lst, e_zip, zip_tup, zip_lst, e_rng1, e_rng2, e_yes, onL1_some, e_rev, newL_t, newL_f, asQ_lst, asQ_tup, tgt_one, tgt_pack, tgt_tup, b_add, add_int, add_str, add_tup, add_lst, b_sub, b_mul, mul_int, b_mod, b_fdiv, b_pow, c_eq, c_ne, c_lt, c_le, c_gt, c_ge, c_in, c_nin, eq_int, eq_str, eq_bl, eq_non, in_chr, idx_str, idx_tup, idx_lst, idx_scr, slc_str, slc_tup, slc_lst, slc_scr, f_len, len_str, len_tup, len_lst, len_scr, f_max2, f_min2, f_abs, f_stri, f_strs, f_ints, f_all, f_sum, f_max1, f_min1, f_list, f_tuple, f_sorted, f_sortT, f_dictP, e_listG, e_seqG, e_nilG, e_plainG, e_forG, e_yieldG, m_join, m_split, m_strip, m_index, e_ret, asL_lst, e_lset, e_sortR, e_dg, e_dsub, e_dnew, e_dcomp, e_back, e_fld, e_sfld, e_meth, e_make, key_int, key_str, asK_dct, newD_t, newD_f, cutB_t, cutB_f, f_divmod, f_repr, e_isx, e_try, e_seqL, setI_s, setI_n, dropI_s, dropI_n, e_lrg1, e_lrg2, e_trg1, e_trg2, onK_some, onK1_some, getS, startW, wipeW, Mth.T, Mth.sem, augI, if_true, if_false, Bool.false_eq_true, true_and, and_true, Bool.not_true, Bool.not_false, List.map, List.length, List.replicate, List.cons_append, List.nil_append, List.set_cons_zero, List.set_cons_succ, Nat.reduceAdd, Nat.reduceSub, Int.reduceAdd, Int.reduceSub, Int.reduceNeg, Int.reduceMul, Nat.zero_add]
      refine ⟨by decide, repr_fin hF (by omega) (by omega) ?_⟩
      try simp only [sb_none_bool, sb_none_int, sb_none_str, sb_none_tuple, sb_none_list, sb_none_dict, sb_bool_bool, sb_bool_int, sb_bool_str, sb_bool_tuple, sb_bool_list, sb_bool_dict, sb_int_bool, sb_int_int, sb_int_str, sb_int_tuple, sb_int_list, sb_int_dict, sb_str_bool, sb_str_int, sb_str_str, sb_str_tuple, sb_str_list, sb_str_dict, sb_tuple_bool, sb_tuple_int, sb_tuple_str, sb_tuple_tuple, sb_tuple_list, sb_tuple_dict, sb_list_bool, sb_list_int, sb_list_str, sb_list_tuple, sb_list_list, sb_list_dict, sb_dict_bool, sb_dict_int, sb_dict_str, sb_dict_tuple, sb_dict_list, sb_dict_dict, decide_true, decide_false, Bool.or_false, Bool.false_or, Bool.or_true, Bool.true_or, Bool.and_true, Bool.true_and, Bool.and_false, Bool.false_and, onBl_bl, onS_some, e_seq, e_asg, e_par, e_two, e_expr, e_retN, e_if, e_tst, e_brk, e_cnt, e_next, e_sub, e_ag, e_raise, e_for, e_var, e_cst, e_op, e_chn, asI_int, e_neg, e_not, e_and, e_or, e_ife, onB_some, e_isN, isN_non, isN_int, isN_bl, isN_str, isN_tup, isN_lst, isN_ref, e_sl, e_none, e_some, e_nil, e_cons, e_tup, e_lst, e_call, e_blt, onT_some, e_isi, e_isii, tn_non, tn_bl, tn_int, tn_str, tn_tup, tn_lst, e_mt, ty_str, ty_tup, ty_lst, e_comp, e_seqI, seqX_str, seqX_tup, seqX_lst, e_one1, e_enum, walk_tup, walk_lst, e_zip, zip_tup, zip_lst, e_rng1, e_rng2, e_yes, onL1_some, e_rev, newL_t, newL_f, asQ_lst, asQ_tup, tgt_one, tgt_pack, tgt_tup, b_add, add_int, add_str, add_tup, add_lst, b_sub, b_mul, mul_int, b_mod, b_fdiv, b_pow, c_eq, c_ne, c_lt, c_le, c_gt, c_ge, c_in, c_nin, eq_int, eq_str, eq_bl, eq_non, in_chr, idx_str, idx_tup, idx_lst, idx_scr, slc_str, slc_tup, slc_lst, slc_scr, f_len, len_str, len_tup, len_lst, len_scr, f_max2, f_min2, f_abs, f_stri, f_strs, f_ints, f_all, f_sum, f_max1, f_min1, f_list, f_tuple, f_sorted, f_sortT, f_dictP, e_listG, e_seqG, e_nilG, e_plainG, e_forG, e_yieldG, m_join, m_split, m_strip, m_index, e_ret, asL_lst, e_lset, e_sortR, e_dg, e_dsub, e_dnew, e_dcomp, e_back, e_fld, e_sfld, e_meth, e_make, key_int, key_str, asK_dct, newD_t, newD_f, cutB_t, cutB_f, f_divmod, f_repr, e_isx, e_try, e_seqL, setI_s, setI_n, dropI_s, dropI_n, e_lrg1, e_lrg2, e_trg1, e_trg2, onK_some, onK1_some, getS, startW, wipeW, Mth.T, Mth.sem, augI, if_true, if_false, Bool.false_eq_true, true_and, and_true, Bool.not_true, Bool.not_false, List.map, List.length, List.replicate, List.cons_append, List.nil_append, List.set_cons_zero, List.set_cons_succ, Nat.reduceAdd, Nat.reduceSub, Int.reduceAdd, Int.reduceSub, Int.reduceNeg, Int.reduceMul, Nat.zero_add]
      refine comp_filter (fun _ => false) datOf trivial _ _ (by rw [ones_len]; show 0 + bad.length ≤ 16777216; omega) (fun y hy K R hK hR => ?_) ?_
      · obtain ⟨w, hw, rfl⟩ := ones_mem hy
        try simp only [sb_none_bool, sb_none_int, sb_none_str, sb_none_tuple, sb_none_list, sb_none_dict, sb_bool_bool, sb_bool_int, sb_bool_str, sb_bool_tuple, sb_bool_list, sb_bool_dict, sb_int_bool, sb_int_int, sb_int_str, sb_int_tuple, sb_int_list, sb_int_dict, sb_str_bool, sb_str_int, sb_str_str, sb_str_tuple, sb_str_list, sb_str_dict, sb_tuple_bool, sb_tuple_int, sb_tuple_str, sb_tuple_tuple, sb_tuple_list, sb_tuple_dict, sb_list_bool, sb_list_int, sb_list_str, sb_list_tuple, sb_list_list, sb_list_dict, sb_dict_bool, sb_dict_int, sb_dict_str, sb_dict_tuple, sb_dict_list, sb_dict_dict, decide_true, decide_false, Bool.or_false, Bool.false_or, Bool.or_true, Bool.true_or, Bool.and_true, Bool.true_and, Bool.and_false, Bool.false_and, onBl_bl, onS_some, e_seq, e_asg, e_par, e_two, e_expr, e_retN, e_if, e_tst, e_brk, e_cnt, e_next, e_sub, e_ag, e_raise, e_for, e_var, e_cst, e_op, e_chn, asI_int, e_neg, e_not, e_and, e_or, e_ife, onB_some, e_isN, isN_non, isN_int, isN_bl, isN_str, isN_tup, isN_lst, isN_ref, e_sl, e_none, e_some, e_nil, e_cons, e_tup, e_lst, e_call, e_blt, onT_some, e_isi, e_isii, tn_non, tn_bl, tn_int, tn_str, tn_tup, tn_lst, e_mt, ty_str, ty_tup, ty_lst, e_comp, e_seqI, seqX_str, seqX_tup, seqX_lst, e_one1, e_enum, walk_tup, walk_lst, e_zip, zip_tup, zip_lst, e_rng1, e_rng2, e_yes, onL1_some, e_rev, newL_t, newL_f, asQ_lst, asQ_tup, tgt_one, tgt_pack, tgt_tup, b_add, add_int, add_str, add_tup, add_lst, b_sub, b_mul, mul_int, b_mod, b_fdiv, b_pow, c_eq, c_ne, c_lt, c_le, c_gt, c_ge, c_in, c_nin, eq_int, eq_str, eq_bl, eq_non, in_chr, idx_str, idx_tup, idx_lst, idx_scr, slc_str, slc_tup, slc_lst, slc_scr, f_len, len_str, len_tup, len_lst, len_scr, f_max2, f_min2, f_abs, f_stri, f_strs, f_ints, f_all, f_sum, f_max1, f_min1, f_list, f_tuple, f_sorted, f_sortT, f_dictP, e_listG, e_seqG, e_nilG, e_plainG, e_forG, e_yieldG, m_join, m_split, m_strip, m_index, e_ret, asL_lst, e_lset, e_sortR, e_dg, e_dsub, e_dnew, e_dcomp, e_back, e_fld, e_sfld, e_meth, e_make, key_int, key_str, asK_dct, newD_t, newD_f, cutB_t, cutB_f, f_divmod, f_repr, e_isx, e_try, e_seqL, setI_s, setI_n, dropI_s, dropI_n, e_lrg1, e_lrg2, e_trg1, e_trg2, onK_some, onK1_some, getS, startW, wipeW, Mth.T, Mth.sem, augI, if_true, if_false, Bool.false_eq_true, true_and, and_true, Bool.not_true, Bool.not_false, List.map, List.length, List.replicate, List.cons_append, List.nil_append, List.set_cons_zero, List.set_cons_succ, Nat.reduceAdd, Nat.reduceSub, Int.reduceAdd, Int.reduceSub, Int.reduceNeg, Int.reduceMul, Nat.zero_add]
        refine tried_bad (hbad w hw) ?_
        try simp only [sb_none_bool, sb_none_int, sb_none_str, sb_none_tuple, sb_none_list, sb_none_dict, sb_bool_bool, sb_bool_int, sb_bool_str, sb_bool_tuple, sb_bool_list, sb_bool_dict, sb_int_bool, sb_int_int, sb_int_str, sb_int_tuple, sb_int_list, sb_int_dict, sb_str_bool, sb_str_int, sb_str_str, sb_str_tuple, sb_str_list, sb_str_dict, sb_tuple_bool, sb_tuple_int, sb_tuple_str, sb_tuple_tuple, sb_tuple_list, sb_tuple_dict, sb_list_bool, sb_list_int, sb_list_str, sb_list_tuple, sb_list_list, sb_list_dict, sb_dict_bool, sb_dict_int, sb_dict_str, sb_dict_tuple, sb_dict_list, sb_dict_dict, decide_true, decide_false, Bool.or_false, Bool.false_or, Bool.or_true, Bool.true_or, Bool.and_true, Bool.true_and, Bool.and_false, Bool.false_and, onBl_bl, onS_some, e_seq, e_asg, e_par, e_two, e_expr, e_retN, e_if, e_tst, e_brk, e_cnt, e_next, e_sub, e_ag, e_raise, e_for, e_var, e_cst, e_op, e_chn, asI_int, e_neg, e_not, e_and, e_or, e_ife, onB_some, e_isN, isN_non, isN_int, isN_bl, isN_str, isN_tup, isN_lst, isN_ref, e_sl, e_none, e_some, e_nil, e_cons, e_tup, e_lst, e_call, e_blt, onT_some, e_isi, e_isii, tn_non, tn_bl, tn_int, tn_str, tn_tup, tn_lst, e_mt, ty_str, ty_tup, ty_lst, e_comp, e_seqI, seqX_str, seqX_tup, seqX_lst, e_one1, e_enum, walk_tup, walk_lst, e_zip, zip_tup, zip_lst, e_rng1, e_rng2, e_yes, onL1_some, e_rev, newL_t, newL_f, asQ_lst, asQ_tup, tgt_one, tgt_pack, tgt_tup, b_add, add_int, add_str, add_tup, add_lst, b_sub, b_mul, mul_int, b_mod, b_fdiv, b_pow, c_eq, c_ne, c_lt, c_le, c_gt, c_ge, c_in, c_nin, eq_int, eq_str, eq_bl, eq_non, in_chr, idx_str, idx_tup, idx_lst, idx_scr, slc_str, slc_tup, slc_lst, slc_scr, f_len, len_str, len_tup, len_lst, len_scr, f_max2, f_min2, f_abs, f_stri, f_strs, f_ints, f_all, f_sum, f_max1, f_min1, f_list, f_tuple, f_sorted, f_sortT, f_dictP, e_listG, e_seqG, e_nilG, e_plainG, e_forG, e_yieldG, m_join, m_split, m_strip, m_index, e_ret, asL_lst, e_lset, e_sortR, e_dg, e_dsub, e_dnew, e_dcomp, e_back, e_fld, e_sfld, e_meth, e_make, key_int, key_str, asK_dct, newD_t, newD_f, cutB_t, cutB_f, f_divmod, f_repr, e_isx, e_try, e_seqL, setI_s, setI_n, dropI_s, dropI_n, e_lrg1, e_lrg2, e_trg1, e_trg2, onK_some, onK1_some, getS, startW, wipeW, Mth.T, Mth.sem, augI, if_true, if_false, Bool.false_eq_true, true_and, and_true, Bool.not_true, Bool.not_false, List.map, List.length, List.replicate, List.cons_append, List.nil_append, List.set_cons_zero, List.set_cons_succ, Nat.reduceAdd, Nat.reduceSub, Int.reduceAdd, Int.reduceSub, Int.reduceNeg, Int.reduceMul, Nat.zero_add]
        exact hR rfl
      rw [List.filter_eq_nil_iff.mpr (fun _ _ h => by cases h)]
      try simp only [sb_none_bool, sb_none_int, sb_none_str, sb_none_tuple, sb_none_list, sb_none_dict, sb_bool_bool, sb_bool_int, sb_bool_str, sb_bool_tuple, sb_bool_list, sb_bool_dict, sb_int_bool, sb_int_int, sb_int_str, sb_int_tuple, sb_int_list, sb_int_dict, sb_str_bool, sb_str_int, sb_str_str, sb_str_tuple, sb_str_list, sb_str_dict, sb_tuple_bool, sb_tuple_int, sb_tuple_str, sb_tuple_tuple, sb_tuple_list, sb_tuple_dict, sb_list_bool, sb_list_int, sb_list_str, sb_list_tuple, sb_list_list, sb_list_dict, sb_dict_bool, sb_dict_int, sb_dict_str, sb_dict_tuple, sb_dict_list, sb_dict_dict, decide_true, decide_false, Bool.or_false, Bool.false_or, Bool.or_true, Bool.true_or, Bool.and_true, Bool.true_and, Bool.and_false, Bool.false_and, onBl_bl, onS_some, e_seq, e_asg, e_par, e_two, e_expr, e_retN, e_if, e_tst, e_brk, e_cnt, e_next, e_sub, e_ag, e_raise, e_for, e_var, e_cst, e_op, e_chn, asI_int, e_neg, e_not, e_and, e_or, e_ife, onB_some, e_isN, isN_non, isN_int, isN_bl, isN_str, isN_tup, isN_lst, isN_ref, e_sl, e_none, e_some, e_nil, e_cons, e_tup, e_lst, e_call, e_blt, onT_some, e_isi, e_isii, tn_non, tn_bl, tn_int, tn_str, tn_tup, tn_lst, e_mt, ty_str, ty_tup, ty_lst, e_comp, e_seqI, seqX_str, seqX_tup, seqX_lst, e_one1, e_enum, walk_tup, walk_lst, e_zip, zip_tup, zip_lst, e_rng1, e_rng2, e_yes, onL1_some, e_rev, newL_t, newL_f, asQ_lst, asQ_tup, tgt_one, tgt_pack, tgt_tup, b_add, add_int, add_str, add_tup, add_lst, b_sub, b_mul, mul_int, b_mod, b_fdiv, b_pow, c_eq, c_ne, c_lt, c_le, c_gt, c_ge, c_in, c_nin, eq_int, eq_str, eq_bl, eq_non, in_chr, idx_str, idx_tup, idx_lst, idx_scr, slc_str, slc_tup, slc_lst, slc_scr, f_len, len_str, len_tup, len_lst, len_scr, f_max2, f_min2, f_abs, f_stri, f_strs, f_ints, f_all, f_sum, f_max1, f_min1, f_list, f_tuple, f_sorted, f_sortT, f_dictP, e_listG, e_seqG, e_nilG, e_plainG, e_forG, e_yieldG, m_join, m_split, m_strip, m_index, e_ret, asL_lst, e_lset, e_sortR, e_dg, e_dsub, e_dnew, e_dcomp, e_back, e_fld, e_sfld, e_meth, e_make, key_int, key_str, asK_dct, newD_t, newD_f, cutB_t, cutB_f, f_divmod, f_repr, e_isx, e_try, e_seqL, setI_s, setI_n, dropI_s, dropI_n, e_lrg1, e_lrg2, e_trg1, e_trg2, onK_some, onK1_some, getS, startW, wipeW, Mth.T, Mth.sem, augI, if_true, if_false, Bool.false_eq_true, true_and, and_true, Bool.not_true, Bool.not_false, List.map, List.length, List.replicate, List.cons_append, List.nil_append, List.set_cons_zero, List.set_cons_succ, Nat.reduceAdd, Nat.reduceSub, Int.reduceAdd, Int.reduceSub, Int.reduceNeg, Int.reduceMul, Nat.zero_add]
      refine ⟨by decide, ?_⟩
      refine eq_lints (ns := []) (ms := []) ?_
      rw [decide_eq_true rfl]
      refine if_f ?_
      try simp only [sb_none_bool, sb_none_int, sb_none_str, sb_none_tuple, sb_none_list, sb_none_dict, sb_bool_bool, sb_bool_int, sb_bool_str, sb_bool_tuple, sb_bool_list, sb_bool_dict, sb_int_bool, sb_int_int, sb_int_str, sb_int_tuple, sb_int_list, sb_int_dict, sb_str_bool, sb_str_int, sb_str_str, sb_str_tuple, sb_str_list, sb_str_dict, sb_tuple_bool, sb_tuple_int, sb_tuple_str, sb_tuple_tuple, sb_tuple_list, sb_tuple_dict, sb_list_bool, sb_list_int, sb_list_str, sb_list_tuple, sb_list_list, sb_list_dict, sb_dict_bool, sb_dict_int, sb_dict_str, sb_dict_tuple, sb_dict_list, sb_dict_dict, decide_true, decide_false, Bool.or_false, Bool.false_or, Bool.or_true, Bool.true_or, Bool.and_true, Bool.true_and, Bool.and_false, Bool.false_and, onBl_bl, onS_some, e_seq, e_asg, e_par, e_two, e_expr, e_retN, e_if, e_tst, e_brk, e_cnt, e_next, e_sub, e_ag, e_raise, e_for, e_var, e_cst, e_op, e_chn, asI_int, e_neg, e_not, e_and, e_or, e_ife, onB_some, e_isN, isN_non, isN_int, isN_bl, isN_str, isN_tup, isN_lst, isN_ref, e_sl, e_none, e_some, e_nil, e_cons, e_tup, e_lst, e_call, e_blt, onT_some, e_isi, e_isii, tn_non, tn_bl, tn_int, tn_str, tn_tup, tn_lst, e_mt, ty_str, ty_tup, ty_lst, e_comp, e_seqI, seqX_str, seqX_tup, seqX_lst, e_one1, e_enum, walk_tup, walk_lst, e_zip, zip_tup, zip_lst, e_rng1, e_rng2, e_yes, onL1_some, e_rev, newL_t, newL_f, asQ_lst, asQ_tup, tgt_one, tgt_pack, tgt_tup, b_add, add_int, add_str, add_tup, add_lst, b_sub, b_mul, mul_int, b_mod, b_fdiv, b_pow, c_eq, c_ne, c_lt, c_le, c_gt, c_ge, c_in, c_nin, eq_int, eq_str, eq_bl, eq_non, in_chr, idx_str, idx_tup, idx_lst, idx_scr, slc_str, slc_tup, slc_lst, slc_scr, f_len, len_str, len_tup, len_lst, len_scr, f_max2, f_min2, f_abs, f_stri, f_strs, f_ints, f_all, f_sum, f_max1, f_min1, f_list, f_tuple, f_sorted, f_sortT, f_dictP, e_listG, e_seqG, e_nilG, e_plainG, e_forG, e_yieldG, m_join, m_split, m_strip, m_index, e_ret, asL_lst, e_lset, e_sortR, e_dg, e_dsub, e_dnew, e_dcomp, e_back, e_fld, e_sfld, e_meth, e_make, key_int, key_str, asK_dct, newD_t, newD_f, cutB_t, cutB_f, f_divmod, f_repr, e_isx, e_try, e_seqL, setI_s, setI_n, dropI_s, dropI_n, e_lrg1, e_lrg2, e_trg1, e_trg2, onK_some, onK1_some, getS, startW, wipeW, Mth.T, Mth.sem, augI, if_true, if_false, Bool.false_eq_true, true_and, and_true, Bool.not_true, Bool.not_false, List.map, List.length, List.replicate, List.cons_append, List.nil_append, List.set_cons_zero, List.set_cons_succ, Nat.reduceAdd, Nat.reduceSub, Int.reduceAdd, Int.reduceSub, Int.reduceNeg, Int.reduceMul, Nat.zero_add]
      refine tried_good hQ ?_
      try simp only [sb_none_bool, sb_none_int, sb_none_str, sb_none_tuple, sb_none_list, sb_none_dict, sb_bool_bool, sb_bool_int, sb_bool_str, sb_bool_tuple, sb_bool_list, sb_bool_dict, sb_int_bool, sb_int_int, sb_int_str, sb_int_tuple, sb_int_list, sb_int_dict, sb_str_bool, sb_str_int, sb_str_str, sb_str_tuple, sb_str_list, sb_str_dict, sb_tuple_bool, sb_tuple_int, sb_tuple_str, sb_tuple_tuple, sb_tuple_list, sb_tuple_dict, sb_list_bool, sb_list_int, sb_list_str, sb_list_tuple, sb_list_list, sb_list_dict, sb_dict_bool, sb_dict_int, sb_dict_str, sb_dict_tuple, sb_dict_list, sb_dict_dict, decide_true, decide_false, Bool.or_false, Bool.false_or, Bool.or_true, Bool.true_or, Bool.and_true, Bool.true_and, Bool.and_false, Bool.false_and, onBl_bl, onS_some, e_seq, e_asg, e_par, e_two, e_expr, e_retN, e_if, e_tst, e_brk, e_cnt, e_next, e_sub, e_ag, e_raise, e_for, e_var, e_cst, e_op, e_chn, asI_int, e_neg, e_not, e_and, e_or, e_ife, onB_some, e_isN, isN_non, isN_int, isN_bl, isN_str, isN_tup, isN_lst, isN_ref, e_sl, e_none, e_some, e_nil, e_cons, e_tup, e_lst, e_call, e_blt, onT_some, e_isi, e_isii, tn_non, tn_bl, tn_int, tn_str, tn_tup, tn_lst, e_mt, ty_str, ty_tup, ty_lst, e_comp, e_seqI, seqX_str, seqX_tup, seqX_lst, e_one1, e_enum, walk_tup, walk_lst, e_zip, zip_tup, zip_lst, e_rng1, e_rng2, e_yes, onL1_some, e_rev, newL_t, newL_f, asQ_lst, asQ_tup, tgt_one, tgt_pack, tgt_tup, b_add, add_int, add_str, add_tup, add_lst, b_sub, b_mul, mul_int, b_mod, b_fdiv, b_pow, c_eq, c_ne, c_lt, c_le, c_gt, c_ge, c_in, c_nin, eq_int, eq_str, eq_bl, eq_non, in_chr, idx_str, idx_tup, idx_lst, idx_scr, slc_str, slc_tup, slc_lst, slc_scr, f_len, len_str, len_tup, len_lst, len_scr, f_max2, f_min2, f_abs, f_stri, f_strs, f_ints, f_all, f_sum, f_max1, f_min1, f_list, f_tuple, f_sorted, f_sortT, f_dictP, e_listG, e_seqG, e_nilG, e_plainG, e_forG, e_yieldG, m_join, m_split, m_strip, m_index, e_ret, asL_lst, e_lset, e_sortR, e_dg, e_dsub, e_dnew, e_dcomp, e_back, e_fld, e_sfld, e_meth, e_make, key_int, key_str, asK_dct, newD_t, newD_f, cutB_t, cutB_f, f_divmod, f_repr, e_isx, e_try, e_seqL, setI_s, setI_n, dropI_s, dropI_n, e_lrg1, e_lrg2, e_trg1, e_trg2, onK_some, onK1_some, getS, startW, wipeW, Mth.T, Mth.sem, augI, if_true, if_false, Bool.false_eq_true, true_and, and_true, Bool.not_true, Bool.not_false, List.map, List.length, List.replicate, List.cons_append, List.nil_append, List.set_cons_zero, List.set_cons_succ, Nat.reduceAdd, Nat.reduceSub, Int.reduceAdd, Int.reduceSub, Int.reduceNeg, Int.reduceMul, Nat.zero_add]
      refine ⟨by decide, repr_fin hF (by omega) (by omega) ?_⟩
      try simp only [sb_none_bool, sb_none_int, sb_none_str, sb_none_tuple, sb_none_list, sb_none_dict, sb_bool_bool, sb_bool_int, sb_bool_str, sb_bool_tuple, sb_bool_list, sb_bool_dict, sb_int_bool, sb_int_int, sb_int_str, sb_int_tuple, sb_int_list, sb_int_dict, sb_str_bool, sb_str_int, sb_str_str, sb_str_tuple, sb_str_list, sb_str_dict, sb_tuple_bool, sb_tuple_int, sb_tuple_str, sb_tuple_tuple, sb_tuple_list, sb_tuple_dict, sb_list_bool, sb_list_int, sb_list_str, sb_list_tuple, sb_list_list, sb_list_dict, sb_dict_bool, sb_dict_int, sb_dict_str, sb_dict_tuple, sb_dict_list, sb_dict_dict, decide_true, decide_false, Bool.or_false, Bool.false_or, Bool.or_true, Bool.true_or, Bool.and_true, Bool.true_and, Bool.and_false, Bool.false_and, onBl_bl, onS_some, e_seq, e_asg, e_par, e_two, e_expr, e_retN, e_if, e_tst, e_brk, e_cnt, e_next, e_sub, e_ag, e_raise, e_for, e_var, e_cst, e_op, e_chn, asI_int, e_neg, e_not, e_and, e_or, e_ife, onB_some, e_isN, isN_non, isN_int, isN_bl, isN_str, isN_tup, isN_lst, isN_ref, e_sl, e_none, e_some, e_nil, e_cons, e_tup, e_lst, e_call, e_blt, onT_some, e_isi, e_isii, tn_non, tn_bl, tn_int, tn_str, tn_tup, tn_lst, e_mt, ty_str, ty_tup, ty_lst, e_comp, e_seqI, seqX_str, seqX_tup, seqX_lst, e_one1, e_enum, walk_tup, walk_lst, e_zip, zip_tup, zip_lst, e_rng1, e_rng2, e_yes, onL1_some, e_rev, newL_t, newL_f, asQ_lst, asQ_tup, tgt_one, tgt_pack, tgt_tup, b_add, add_int, add_str, add_tup, add_lst, b_sub, b_mul, mul_int, b_mod, b_fdiv, b_pow, c_eq, c_ne, c_lt, c_le, c_gt, c_ge, c_in, c_nin, eq_int, eq_str, eq_bl, eq_non, in_chr, idx_str, idx_tup, idx_lst, idx_scr, slc_str, slc_tup, slc_lst, slc_scr, f_len, len_str, len_tup, len_lst, len_scr, f_max2, f_min2, f_abs, f_stri, f_strs, f_ints, f_all, f_sum, f_max1, f_min1, f_list, f_tuple, f_sorted, f_sortT, f_dictP, e_listG, e_seqG, e_nilG, e_plainG, e_forG, e_yieldG, m_join, m_split, m_strip, m_index, e_ret, asL_lst, e_lset, e_sortR, e_dg, e_dsub, e_dnew, e_dcomp, e_back, e_fld, e_sfld, e_meth, e_make, key_int, key_str, asK_dct, newD_t, newD_f, cutB_t, cutB_f, f_divmod, f_repr, e_isx, e_try, e_seqL, setI_s, setI_n, dropI_s, dropI_n, e_lrg1, e_lrg2, e_trg1, e_trg2, onK_some, onK1_some, getS, startW, wipeW, Mth.T, Mth.sem, augI, if_true, if_false, Bool.false_eq_true, true_and, and_true, Bool.not_true, Bool.not_false, List.map, List.length, List.replicate, List.cons_append, List.nil_append, List.set_cons_zero, List.set_cons_succ, Nat.reduceAdd, Nat.reduceSub, Int.reduceAdd, Int.reduceSub, Int.reduceNeg, Int.reduceMul, Nat.zero_add]
      exact hN2 _ _ ⟨F4.mono (by omega), _, _, _, _, rfl⟩
    · rintro τ O4 ⟨F3, v4, v5, v6, v7, rfl⟩
      try simp only [sb_none_bool, sb_none_int, sb_none_str, sb_none_tuple, sb_none_list, sb_none_dict, sb_bool_bool, sb_bool_int, sb_bool_str, sb_bool_tuple, sb_bool_list, sb_bool_dict, sb_int_bool, sb_int_int, sb_int_str, sb_int_tuple, sb_int_list, sb_int_dict, sb_str_bool, sb_str_int, sb_str_str, sb_str_tuple, sb_str_list, sb_str_dict, sb_tuple_bool, sb_tuple_int, sb_tuple_str, sb_tuple_tuple, sb_tuple_list, sb_tuple_dict, sb_list_bool, sb_list_int, sb_list_str, sb_list_tuple, sb_list_list, sb_list_dict, sb_dict_bool, sb_dict_int, sb_dict_str, sb_dict_tuple, sb_dict_list, sb_dict_dict, decide_true, decide_false, Bool.or_false, Bool.false_or, Bool.or_true, Bool.true_or, Bool.and_true, Bool.true_and, Bool.and_false, Bool.false_and, onBl_bl, onS_some, e_seq, e_asg, e_par, e_two, e_expr, e_retN, e_if, e_tst, e_brk, e_cnt, e_next, e_sub, e_ag, e_raise, e_for, e_var, e_cst, e_op, e_chn, asI_int, e_neg, e_not, e_and, e_or, e_ife, onB_some, e_isN, isN_non, isN_int, isN_bl, isN_str, isN_tup, isN_lst, isN_ref, e_sl, e_none, e_some, e_nil, e_cons, e_tup, e_lst, e_call, e_blt, onT_some, e_isi, e_isii, tn_non, tn_bl, tn_int, tn_str, tn_tup, tn_lst, e_mt, ty_str, ty_tup, ty_lst, e_comp, e_seqI, seqX_str, seqX_tup, seqX_lst, e_one1, e_enum, walk_tup, walk_lst, e_zip, zip_tup, zip_lst, e_rng1, e_rng2, e_yes, onL1_some, e_rev, newL_t, newL_f, asQ_lst, asQ_tup, tgt_one, tgt_pack, tgt_tup, b_add, add_int, add_str, add_tup, add_lst, b_sub, b_mul, mul_int, b_mod, b_fdiv, b_pow, c_eq, c_ne, c_lt, c_le, c_gt, c_ge, c_in, c_nin, eq_int, eq_str, eq_bl, eq_non, in_chr, idx_str, idx_tup, idx_lst, idx_scr, slc_str, slc_tup, slc_lst, slc_scr, f_len, len_str, len_tup, len_lst, len_scr, f_max2, f_min2, f_abs, f_stri, f_strs, f_ints, f_all, f_sum, f_max1, f_min1, f_list, f_tuple, f_sorted, f_sortT, f_dictP, e_listG, e_seqG, e_nilG, e_plainG, e_forG, e_yieldG, m_join, m_split, m_strip, m_index, e_ret, asL_lst, e_lset, e_sortR, e_dg, e_dsub, e_dnew, e_dcomp, e_back, e_fld, e_sfld, e_meth, e_make, key_int, key_str, asK_dct, newD_t, newD_f, cutB_t, cutB_f, f_divmod, f_repr, e_isx, e_try, e_seqL, setI_s, setI_n, dropI_s, dropI_n, e_lrg1, e_lrg2, e_trg1, e_trg2, onK_some, onK1_some, getS, startW, wipeW, Mth.T, Mth.sem, augI, if_true, if_false, Bool.false_eq_true, true_and, and_true, Bool.not_true, Bool.not_false, List.map, List.length, List.replicate, List.cons_append, List.nil_append, List.set_cons_zero, List.set_cons_succ, Nat.reduceAdd, Nat.reduceSub, Int.reduceAdd, Int.reduceSub, Int.reduceNeg, Int.reduceMul, Nat.zero_add]
      exact hN _ _ ⟨_, _, _, _, _, _, _, rfl⟩
  · rintro τ O1 ⟨v1, v2, v3, v4, v5, v6, v7, rfl⟩
    try simp only [sb_none_bool, sb_none_int, sb_none_str, sb_none_tuple, sb_none_list, sb_none_dict, sb_bool_bool, sb_bool_int, sb_bool_str, sb_bool_tuple, sb_bool_list, sb_bool_dict, sb_int_bool, sb_int_int, sb_int_str, sb_int_tuple, sb_int_list, sb_int_dict, sb_str_bool, sb_str_int, sb_str_str, sb_str_tuple, sb_str_list, sb_str_dict, sb_tuple_bool, sb_tuple_int, sb_tuple_str, sb_tuple_tuple, sb_tuple_list, sb_tuple_dict, sb_list_bool, sb_list_int, sb_list_str, sb_list_tuple, sb_list_list, sb_list_dict, sb_dict_bool, sb_dict_int, sb_dict_str, sb_dict_tuple, sb_dict_list, sb_dict_dict, decide_true, decide_false, Bool.or_false, Bool.false_or, Bool.or_true, Bool.true_or, Bool.and_true, Bool.true_and, Bool.and_false, Bool.false_and, onBl_bl, onS_some, e_seq, e_asg, e_par, e_two, e_expr, e_retN, e_if, e_tst, e_brk, e_cnt, e_next, e_sub, e_ag, e_raise, e_for, e_var, e_cst, e_op, e_chn, asI_int, e_neg, e_not, e_and, e_or, e_ife, onB_some, e_isN, isN_non, isN_int, isN_bl, isN_str, isN_tup, isN_lst, isN_ref, e_sl, e_none, e_some, e_nil, e_cons, e_tup, e_lst, e_call, e_blt, onT_some, e_isi, e_isii, tn_non, tn_bl, tn_int, tn_str, tn_tup, tn_lst, e_mt, ty_str, ty_tup, ty_lst, e_comp, e_seqI, seqX_str, seqX_tup, seqX_lst, e_one1, e_enum, walk_tup, walk_lst, e_zip, zip_tup, zip_lst, e_rng1, e_rng2, e_yes, onL1_some, e_rev, newL_t, newL_f, asQ_lst, asQ_tup, tgt_one, tgt_pack, tgt_tup, b_add, add_int, add_str, add_tup, add_lst, b_sub, b_mul, mul_int, b_mod, b_fdiv, b_pow, c_eq, c_ne, c_lt, c_le, c_gt, c_ge, c_in, c_nin, eq_int, eq_str, eq_bl, eq_non, in_chr, idx_str, idx_tup, idx_lst, idx_scr, slc_str, slc_tup, slc_lst, slc_scr, f_len, len_str, len_tup, len_lst, len_scr, f_max2, f_min2, f_abs, f_stri, f_strs, f_ints, f_all, f_sum, f_max1, f_min1, f_list, f_tuple, f_sorted, f_sortT, f_dictP, e_listG, e_seqG, e_nilG, e_plainG, e_forG, e_yieldG, m_join, m_split, m_strip, m_index, e_ret, asL_lst, e_lset, e_sortR, e_dg, e_dsub, e_dnew, e_dcomp, e_back, e_fld, e_sfld, e_meth, e_make, key_int, key_str, asK_dct, newD_t, newD_f, cutB_t, cutB_f, f_divmod, f_repr, e_isx, e_try, e_seqL, setI_s, setI_n, dropI_s, dropI_n, e_lrg1, e_lrg2, e_trg1, e_trg2, onK_some, onK1_some, getS, startW, wipeW, Mth.T, Mth.sem, augI, if_true, if_false, Bool.false_eq_true, true_and, and_true, Bool.not_true, Bool.not_false, List.map, List.length, List.replicate, List.cons_append, List.nil_append, List.set_cons_zero, List.set_cons_succ, Nat.reduceAdd, Nat.reduceSub, Int.reduceAdd, Int.reduceSub, Int.reduceNeg, Int.reduceMul, Nat.zero_add]
    refine ⟨⟨by omega, by omega, by omega, by omega, by decide⟩, ?_⟩
    have hQ : Que (rgI 0 40) := que_of_isQ (by decide +kernel)
    refine tried_good hQ ?_
    try simp only [sb_none_bool, sb_none_int, sb_none_str, sb_none_tuple, sb_none_list, sb_none_dict, sb_bool_bool, sb_bool_int, sb_bool_str, sb_bool_tuple, sb_bool_list, sb_bool_dict, sb_int_bool, sb_int_int, sb_int_str, sb_int_tuple, sb_int_list, sb_int_dict, sb_str_bool, sb_str_int, sb_str_str, sb_str_tuple, sb_str_list, sb_str_dict, sb_tuple_bool, sb_tuple_int, sb_tuple_str, sb_tuple_tuple, sb_tuple_list, sb_tuple_dict, sb_list_bool, sb_list_int, sb_list_str, sb_list_tuple, sb_list_list, sb_list_dict, sb_dict_bool, sb_dict_int, sb_dict_str, sb_dict_tuple, sb_dict_list, sb_dict_dict, decide_true, decide_false, Bool.or_false, Bool.false_or, Bool.or_true, Bool.true_or, Bool.and_true, Bool.true_and, Bool.and_false, Bool.false_and, onBl_bl, onS_some, e_seq, e_asg, e_par, e_two, e_expr, e_retN, e_if, e_tst, e_brk, e_cnt, e_next, e_sub, e_ag, e_raise, e_for, e_var, e_cst, e_op, e_chn, asI_int, e_neg, e_not, e_and, e_or, e_ife, onB_some, e_isN, isN_non, isN_int, isN_bl, isN_str, isN_tup, isN_lst, isN_ref, e_sl, e_none, e_some, e_nil, e_cons, e_tup, e_lst, e_call, e_blt, onT_some, e_isi, e_isii, tn_non, tn_bl, tn_int, tn_str, tn_tup, tn_lst, e_mt, ty_str, ty_tup, ty_lst, e_comp, e_seqI, seqX_str, seqX_tup, seqX_lst, e_one1, e_enum, walk_tup, walk_lst, e_zip, zip_tup, zip_lst, e_rng1, e_rng2, e_yes, onL1_some, e_rev, newL_t, newL_f, asQ_lst, asQ_tup, tgt_one, tgt_pack, tgt_tup, b_add, add_int, add_str, add_tup, add_lst, b_sub, b_mul, mul_int, b_mod, b_fdiv, b_pow, c_eq, c_ne, c_lt, c_le, c_gt, c_ge, c_in, c_nin, eq_int, eq_str, eq_bl, eq_non, in_chr, idx_str, idx_tup, idx_lst, idx_scr, slc_str, slc_tup, slc_lst, slc_scr, f_len, len_str, len_tup, len_lst, len_scr, f_max2, f_min2, f_abs, f_stri, f_strs, f_ints, f_all, f_sum, f_max1, f_min1, f_list, f_tuple, f_sorted, f_sortT, f_dictP, e_listG, e_seqG, e_nilG, e_plainG, e_forG, e_yieldG, m_join, m_split, m_strip, m_index, e_ret, asL_lst, e_lset, e_sortR, e_dg, e_dsub, e_dnew, e_dcomp, e_back, e_fld, e_sfld, e_meth, e_make, key_int, key_str, asK_dct, newD_t, newD_f, cutB_t, cutB_f, f_divmod, f_repr, e_isx, e_try, e_seqL, setI_s, setI_n, dropI_s, dropI_n, e_lrg1, e_lrg2, e_trg1, e_trg2, onK_some, onK1_some, getS, startW, wipeW, Mth.T, Mth.sem, augI, if_true, if_false, Bool.false_eq_true, true_and, and_true, Bool.not_true, Bool.not_false, List.map, List.length, List.replicate, List.cons_append, List.nil_append, List.set_cons_zero, List.set_cons_succ, Nat.reduceAdd, Nat.reduceSub, Int.reduceAdd, Int.reduceSub, Int.reduceNeg, Int.reduceMul, Nat.zero_add]
    exact Ang.keep (q _)
end TF

namespace TF
open PySem PySem.Spec L2 RZ PyProof.Rows
set_option maxHeartbeats 0
def top (i : Nat) : Stmt := PySem.Challenge.pw_tallerfirst_k53_queues_not_shown.main.body.getD i (.Pass ⟨0, 0, 0, 0⟩)
structure Txt (K : PySem.W.Frag) (mg : Str → Option Value) (base : Heap) : Prop where
  m1 : M1 base
  f_is_int : FnAt K mg "is_int" (top 20)
  f_in_range : FnAt K mg "in_range" (top 21)
  f_is_height : FnAt K mg "is_height" (top 22)
  f_is_queue : FnAt K mg "is_queue" (top 23)
  f_require_queue : FnAt K mg "require_queue" (top 24)
  f_show_queue : FnAt K mg "show_queue" (top 26)
  f_law_fount : FnAt K mg "_law_fount" (top 28)
  f_law_sip : FnAt K mg "_law_sip" (top 29)
  f_law_mixed : FnAt K mg "_law_mixed" (top 30)
  f_law_people : FnAt K mg "_law_people" (top 31)
  f_law_line : FnAt K mg "_law_line" (top 32)
  f_law_kind : FnAt K mg "_law_kind" (top 33)
  f_law_no_queues : FnAt K mg "_law_no_queues" (top 34)
  f_law_tried : FnAt K mg "_law_tried" (top 35)
  b_ValueError : mg "ValueError" = none
  b_all : mg "all" = none
  b_bool : mg "bool" = none
  b_int : mg "int" = none
  b_isinstance : mg "isinstance" = none
  b_len : mg "len" = none
  b_list : mg "list" = none
  b_max : mg "max" = none
  b_min : mg "min" = none
  b_range : mg "range" = none
  b_repr : mg "repr" = none
  b_set : mg "set" = none
  b_str : mg "str" = none
  b_tuple : mg "tuple" = none
  g_GREATEST : ∃ t, mg "GREATEST" = some (.int 1000000000000000000000000000000 t)
  g_MOST_PERSONS : ∃ t, mg "MOST_PERSONS" = some (.int 40 t)
  e_NoQueue : ExC K mg "NoQueue"
  x_QueueError : ∃ D : Addr, mg "QueueError" = some (.ref D)
  m_QueueError : ∀ m ∈ rxL, ExmK K mg m "QueueError" (subc m "QueueError")
  k_Full : ∀ n ∈ rxL, KitK K mg n "Full" (subc n "Full")
  k_NoGap : ∀ n ∈ rxL, KitK K mg n "NoGap" (subc n "NoGap")
  k_NoLine : ∀ n ∈ rxL, KitK K mg n "NoLine" (subc n "NoLine")
  k_NoNumber : ∀ n ∈ rxL, KitK K mg n "NoNumber" (subc n "NoNumber")
  k_NoOperation : ∀ n ∈ rxL, KitK K mg n "NoOperation" (subc n "NoOperation")
  k_NoPerson : ∀ n ∈ rxL, KitK K mg n "NoPerson" (subc n "NoPerson")
  k_NoQueue : ∀ n ∈ rxL, KitK K mg n "NoQueue" (subc n "NoQueue")
  k_NoRow : ∀ n ∈ rxL, KitK K mg n "NoRow" (subc n "NoRow")
  k_NoSteps : ∀ n ∈ rxL, KitK K mg n "NoSteps" (subc n "NoSteps")
  k_NoText : ∀ n ∈ rxL, KitK K mg n "NoText" (subc n "NoText")
  k_NotAlike : ∀ n ∈ rxL, KitK K mg n "NotAlike" (subc n "NotAlike")
  k_NotFitting : ∀ n ∈ rxL, KitK K mg n "NotFitting" (subc n "NotFitting")
  k_NotSettled : ∀ n ∈ rxL, KitK K mg n "NotSettled" (subc n "NotSettled")
  k_Nothing : ∀ n ∈ rxL, KitK K mg n "Nothing" (subc n "Nothing")
  k_TooMany : ∀ n ∈ rxL, KitK K mg n "TooMany" (subc n "TooMany")
  t_ValueError : ∀ m ∈ rxL, KitT K mg m "ValueError" (subc m "ValueError")
  excK : ∀ n ∈ rxL, ExcK K mg n
section
variable {P : Program} {w : World} {K : PySem.W.Frag} {mg : Str → Option Value} {base : Heap}
theorem sc_is_int : FnScope ["value"] ["value"] (defScope (top 20)) := ⟨rfl, rfl, rfl, by decide +kernel, rfl, by decide +kernel, by decide +kernel⟩
theorem D_is_int (T : Txt K mg base) : Callee P w K mg base 1 "is_int" sp_is_int :=
  (callee_of (k := 0) T.f_is_int sc_is_int (fun _ _ _ _ _ _ us hl => match us, hl with | [_], _ => rfl) fun f cdv A outer s H E C hp => (s1 (sret (xand (xisi C .int (xv 0) T.b_isinstance T.b_int) (xone (xnot (xisi C .bool (xv 0) T.b_isinstance T.b_bool))))))).imp is_int_ok
theorem sc_in_range : FnScope ["value", "low", "high"] ["value", "low", "high"] (defScope (top 21)) := ⟨rfl, rfl, rfl, by decide +kernel, rfl, by decide +kernel, by decide +kernel⟩
theorem D_in_range (T : Txt K mg base) : Callee P w K mg base 2 "in_range" sp_in_range :=
  (callee_of (k := 1) T.f_in_range sc_in_range (fun _ _ _ _ _ _ us hl => match us, hl with | [_, _, _], _ => rfl) fun f cdv A outer s H E C hp => (s1 (sret (xand (xcall C (D_is_int T) (a1 (xv 0) a0)) (xone (xchn C .le .le (xv 1) (xv 0) (xv 2))))))).imp in_range_ok
theorem sc_is_height : FnScope ["value"] ["value"] (defScope (top 22)) := ⟨rfl, rfl, rfl, by decide +kernel, rfl, by decide +kernel, by decide +kernel⟩
theorem D_is_height (T : Txt K mg base) : Callee P w K mg base 3 "is_height" sp_is_height :=
  (callee_of (k := 2) T.f_is_height sc_is_height (fun _ _ _ _ _ _ us hl => match us, hl with | [_], _ => rfl) fun f cdv A outer s H E C hp => (s1 (sret (xcall C (D_in_range T) (a1 (xv 0) (a1 (xneg (xgi T.g_GREATEST)) (a1 (xgi T.g_GREATEST) a0))))))).imp is_height_ok
theorem sc_is_queue : FnScope ["value", "person"] ["value"] (defScope (top 23)) := ⟨rfl, rfl, rfl, by decide +kernel, rfl, by decide +kernel, by decide +kernel⟩
theorem D_is_queue (T : Txt K mg base) : Callee P w K mg base 4 "is_queue" sp_is_queue :=
  (callee_of (k := 3) T.f_is_queue sc_is_queue (fun _ _ _ _ _ _ us hl => match us, hl with | [_], _ => rfl) fun f cdv A outer s H E C hp => (sc (sif (xtp (xpor (xtnot (xtst (xisi C .tuple (xv 0) T.b_isinstance T.b_tuple))) (xpone (xtnot (xtchn C .le .le xi (xblt C .len (a1 (xv 0) a0) T.b_len) (xgi T.g_MOST_PERSONS))))))
  (s1 (sret xb))
  s0)
  (s1 (sret (xand (xblt C .all (a1 (xlc C true [("person", 1)] (iseq (xv 0)) (fun _ _ _ _ _ => (gn C.blk 1)) (fun _ _ _ _ _ => c0) (fun _ _ _ _ _ => (xcall C.blk (D_is_height T) (a1 (xv 1) a0)))) a0) T.b_all) (xone (xcmp C .eq (xlset C (xv 0) T.b_len T.b_set) (xblt C .len (a1 (xv 0) a0) T.b_len)))))))).imp is_queue_ok
theorem sc_require_queue : FnScope ["value"] ["value"] (defScope (top 24)) := ⟨rfl, rfl, rfl, by decide +kernel, rfl, by decide +kernel, by decide +kernel⟩
theorem D_require_queue (T : Txt K mg base) : Callee P w K mg base 5 "require_queue" sp_require_queue :=
  (callee_of (k := 4) T.f_require_queue sc_require_queue (fun _ _ _ _ _ _ us hl => match us, hl with | [_], _ => rfl) fun f cdv A outer s H E C hp => (s1 (sif (xtnot (xtst (xcall C (D_is_queue T) (a1 (xv 0) a0))))
  (s1 (sraise C T.e_NoQueue))
  s0))).imp require_queue_ok
theorem sc_show_queue : FnScope ["queue", "person"] ["queue"] (defScope (top 26)) := ⟨rfl, rfl, rfl, by decide +kernel, rfl, by decide +kernel, by decide +kernel⟩
theorem D_show_queue (T : Txt K mg base) : Callee P w K mg base 6 "show_queue" sp_show_queue :=
  (callee_of (k := 5) T.f_show_queue sc_show_queue (fun _ _ _ _ _ _ us hl => match us, hl with | [_], _ => rfl) fun f cdv A outer s H E C hp => (sc (sexpr (xcall C (D_require_queue T) (a1 (xv 0) a0)))
  (s1 (sret (xmt .join xs (a1 (xlc C true [("person", 1)] (iseq (xv 0)) (fun _ _ _ _ _ => (gn C.blk 1)) (fun _ _ _ _ _ => c0) (fun _ _ _ _ _ => (xblt C.blk .str (a1 (xv 1) a0) T.b_str))) a0)))))).imp show_queue_ok
theorem sc_law_fount : FnScope ["script", "k", "cell"] ["script", "k"] (defScope (top 28)) := ⟨rfl, rfl, rfl, by decide +kernel, rfl, by decide +kernel, by decide +kernel⟩
theorem D_law_fount (T : Txt K mg base) : Callee P w K mg base 1 "_law_fount" sp_law_fount :=
  (callee_of (k := 0) T.f_law_fount sc_law_fount (fun _ _ _ _ _ _ us hl => match us, hl with | [_, _], _ => rfl) fun f cdv A outer s H E C hp => (sc (sset C 2 xi)
  (sc (sif (xtcmp C .lt (xv 1) (xblt C .len (a1 (xv 0) a0) T.b_len))
  (s1 (sset C 2 (xidx (xv 0) (xv 1))))
  s0)
  (s1 (sret (xlst false (a1 (xblt C .max2 (a1 xi (a1 (xbin .sub true (xv 2) (xbin .pow true xi xi)) a0)) T.b_max) (a1 (xbin .add true (xbin .mul true (xbin .mod true (xv 2) (xbin .add true (xbin .pow true xi xi) xi)) xi) (xv 1)) (a1 xi a0))))))))).imp law_fount_ok
theorem sc_law_sip : FnScope ["fount", "many", "found", "mixed"] ["fount", "many"] (defScope (top 29)) := ⟨rfl, rfl, rfl, by decide +kernel, rfl, by decide +kernel, by decide +kernel⟩
theorem D_law_sip (T : Txt K mg base) : Callee P w K mg base 1 "_law_sip" sp_law_sip :=
  (callee_of (k := 0) T.f_law_sip sc_law_sip (fun _ _ _ _ _ _ us hl => match us, hl with | [_, _], _ => rfl) fun f cdv A outer s H E C hp => (sc (sif (xtcmp C .gt (xidx (xv 0) xi) xi)
  (sc (sset C 2 (xbin .mod true (xidx (xv 0) xi) (xv 1)))
  (sc (ssub (xbin .fdiv true (xidx (xv 0) xi) (xv 1)) (xv 0) xi)
  (s1 (sret (xv 2)))))
  s0)
  (sc (ssub (xbin .add true (xidx (xv 0) xi) xi) (xv 0) xi)
  (sc (sset C 3 (xbin .mod true (xbin .pow true (xbin .add true (xidx (xv 0) xi) (xbin .mul true xi (xidx (xv 0) xi))) xi) (xbin .add true (xbin .pow true xi xi) xi)))
  (sc (sset C 3 (xbin .mod true (xbin .pow true (xbin .add true (xv 3) (xbin .mul true xi (xidx (xv 0) xi))) xi) (xbin .add true (xbin .pow true xi xi) xi)))
  (s1 (sret (xbin .mod true (xbin .fdiv true (xv 3) xi) (xv 1))))))))).imp law_sip_ok
theorem sc_law_mixed : FnScope ["fount", "items", "left", "turn"] ["fount", "items"] (defScope (top 30)) := ⟨rfl, rfl, rfl, by decide +kernel, rfl, by decide +kernel, by decide +kernel⟩
theorem D_law_mixed (T : Txt K mg base) : Callee P w K mg base 2 "_law_mixed" sp_law_mixed :=
  (callee_of (k := 1) T.f_law_mixed sc_law_mixed (fun _ _ _ _ _ _ us hl => match us, hl with | [_, _], _ => rfl) fun f cdv A outer s H E C hp => (sc (sset C 2 (xblt C (.list false) (a1 (xv 1) a0) T.b_list))
  (s1 (sret (xlc C true [("turn", 3)] (irng1 (a1 (xblt C .len (a1 (xv 2) a0) T.b_len) a0) T.b_range) (fun _ _ _ _ _ => (gn C.blk 3)) (fun _ _ _ _ _ => c0) (fun _ _ _ _ _ => (xmt .pop (xv 2) (a1 (xcall C.blk (D_law_sip T) (a1 (xv 0) (a1 (xblt C.blk .len (a1 (xv 2) a0) T.b_len) a0))) a0)))))))).imp law_mixed_ok
theorem sc_law_people : FnScope ["fount", "most", "count", "style", "found", "last", "at", "wide"] ["fount", "most"] (defScope (top 31)) := ⟨rfl, rfl, rfl, by decide +kernel, rfl, by decide +kernel, by decide +kernel⟩
theorem D_law_people (T : Txt K mg base) : Callee P w K mg base 2 "_law_people" sp_law_people :=
  (callee_of (k := 1) T.f_law_people sc_law_people (fun _ _ _ _ _ _ us hl => match us, hl with | [_, _], _ => rfl) fun f cdv A outer s H E C hp => (sc (sset C 2 (xidx (xlst true (a1 (xbin .add true xi (xcall C (D_law_sip T) (a1 (xv 0) (a1 (xv 1) a0)))) (a1 (xv 1) (a1 (xbin .add true xi (xcall C (D_law_sip T) (a1 (xv 0) (a1 (xblt C .min2 (a1 (xv 1) (a1 xi a0)) T.b_min) a0)))) a0)))) (xcall C (D_law_sip T) (a1 (xv 0) (a1 xi a0)))))
  (sc (spar C 3 4 (a1 (xcall C (D_law_sip T) (a1 (xv 0) (a1 xi a0))) (a1 (xlst false a0) a0)))
  (sc (sset C 5 (xidx (xlst true (a1 xi (a1 (xbin .sub true (xcall C (D_law_sip T) (a1 (xv 0) (a1 xi a0))) xi) (a1 (xbin .sub true (xbin .sub true xi (xbin .pow true xi xi)) xi) (a1 (xbin .sub true (xbin .pow true xi xi) xi) (a1 (xbin .sub true xi (xcall C (D_law_sip T) (a1 (xv 0) (a1 (xbin .pow true xi xi) a0)))) a0)))))) (xv 3)))
  (sc (sfor C hp (irng1 (a1 (xv 2) a0) T.b_range) (gn C 6)
  (sc (sset C 7 (xidx (xlst true (a1 (xbin .pow true xi xi) (a1 (xbin .pow true xi xi) (a1 (xbin .pow true xi xi) (a1 (xbin .pow true xi xi) (a1 (xbin .pow true xi xi) a0)))))) (xcall C (D_law_sip T) (a1 (xv 0) (a1 xi a0)))))
  (sc (sset C 5 (xbin .add true (xbin .add true (xv 5) xi) (xcall C (D_law_sip T) (a1 (xv 0) (a1 (xidx (xlst true (a1 xi (a1 xi (a1 (xbin .mul true xi (xbin .pow true xi xi)) (a1 xi (a1 (xv 7) a0)))))) (xv 3)) a0)))))
  (s1 (sexpr (xmt .append (xv 4) (a1 (xv 5) a0))))))
  s0)
  (s1 (sret (xv 4)))))))).imp law_people_ok
theorem sc_law_line : FnScope ["fount", "most", "found", "lines"] ["fount", "most"] (defScope (top 32)) := ⟨rfl, rfl, rfl, by decide +kernel, rfl, by decide +kernel, by decide +kernel⟩
theorem D_law_line (T : Txt K mg base) : Callee P w K mg base 3 "_law_line" sp_law_line :=
  (callee_of (k := 2) T.f_law_line sc_law_line (fun _ _ _ _ _ _ us hl => match us, hl with | [_, _], _ => rfl) fun f cdv A outer s H E C hp => (sc (sset C 2 (xcall C (D_law_people T) (a1 (xv 0) (a1 (xv 1) a0))))
  (sc (sset C 3 (xlst true (a1 (xv 2) (a1 (xrev true (xv 2)) (a1 (xcall C (D_law_mixed T) (a1 (xv 0) (a1 (xv 2) a0))) (a1 (xcall C (D_law_mixed T) (a1 (xv 0) (a1 (xv 2) a0))) (a1 (xbin .add true (xslc true (xv 2) (xo1 xi) xo0) (xslc true (xv 2) xo0 (xo1 xi))) a0)))))))
  (s1 (sret (xblt C .tuple (a1 (xidx (xv 3) (xcall C (D_law_sip T) (a1 (xv 0) (a1 xi a0)))) a0) T.b_tuple)))))).imp law_line_ok
theorem sc_law_kind : FnScope ["caught", "some", "found", "name", "so"] ["caught"] (defScope (top 33)) := ⟨rfl, rfl, rfl, by decide +kernel, rfl, by decide +kernel, by decide +kernel⟩
theorem D_law_kind (T : Txt K mg base) : CalleeH P w K mg base 1 "_law_kind" sp_law_kind :=
  (calleeH_of (k := 0) T.f_law_kind sc_law_kind (fun _ _ _ _ _ _ us hl => match us, hl with | [_], _ => rfl) fun f cdv A outer s H E a oe y C => (sc (ssetH C 1 (xlst false (a1 (xtup (a1 xs (a1 (xisx C rxL (xv 0) T.b_isinstance T.excK T.k_NoQueue) a0))) (a1 (xtup (a1 xs (a1 (xisx C rxL (xv 0) T.b_isinstance T.excK T.k_NoPerson) a0))) a0))))
  (sc (ssetH C 1 (xbin .add false (xv 1) (xlst true (a1 (xtup (a1 xs (a1 (xisx C rxL (xv 0) T.b_isinstance T.excK T.k_NoGap) a0))) (a1 (xtup (a1 xs (a1 (xisx C rxL (xv 0) T.b_isinstance T.excK T.k_NoSteps) a0))) a0)))))
  (sc (ssetH C 1 (xbin .add false (xv 1) (xlst true (a1 (xtup (a1 xs (a1 (xisx C rxL (xv 0) T.b_isinstance T.excK T.k_NoNumber) a0))) (a1 (xtup (a1 xs (a1 (xisx C rxL (xv 0) T.b_isinstance T.excK T.k_NotSettled) a0))) a0)))))
  (sc (ssetH C 1 (xbin .add false (xv 1) (xlst true (a1 (xtup (a1 xs (a1 (xisx C rxL (xv 0) T.b_isinstance T.excK T.k_NotAlike) a0))) (a1 (xtup (a1 xs (a1 (xisx C rxL (xv 0) T.b_isinstance T.excK T.k_NoRow) a0))) a0)))))
  (sc (ssetH C 1 (xbin .add false (xv 1) (xlst true (a1 (xtup (a1 xs (a1 (xisx C rxL (xv 0) T.b_isinstance T.excK T.k_NotFitting) a0))) (a1 (xtup (a1 xs (a1 (xisx C rxL (xv 0) T.b_isinstance T.excK T.k_TooMany) a0))) a0)))))
  (sc (ssetH C 1 (xbin .add false (xv 1) (xlst true (a1 (xtup (a1 xs (a1 (xisx C rxL (xv 0) T.b_isinstance T.excK T.k_NoOperation) a0))) (a1 (xtup (a1 xs (a1 (xisx C rxL (xv 0) T.b_isinstance T.excK T.k_Full) a0))) a0)))))
  (sc (ssetH C 1 (xbin .add false (xv 1) (xlst true (a1 (xtup (a1 xs (a1 (xisx C rxL (xv 0) T.b_isinstance T.excK T.k_Nothing) a0))) (a1 (xtup (a1 xs (a1 (xisx C rxL (xv 0) T.b_isinstance T.excK T.k_NoText) a0))) a0)))))
  (sc (sexpr (xmt .append (xv 1) (a1 (xtup (a1 xs (a1 (xisx C rxL (xv 0) T.b_isinstance T.excK T.k_NoLine) a0))) a0)))
  (sc (slcH C 2 true [("name", 3), ("so", 4)] (iseqH (xv 1)) (fun _ _ _ _ _ _ h => (gtH h (gs1 (gnH C.bN 3) (gs1 (gnH C.bN 4) gs0)))) (fun _ _ _ _ _ => (c1 (xtst (xv 4)))) (fun _ _ _ _ _ => (xv 3)))
  (s1 (sret (xife (xtp (xpand (xtcmpH C .eq (xlenH C (xv 2) T.b_len) xi) (xpone (xtst (xisxT C rxL "ValueError" (xv 0) T.b_isinstance T.b_ValueError T.excK T.t_ValueError))))) (xidx (xv 2) xi) xs))))))))))))).imp law_kind_ok
theorem sc_law_no_queues : FnScope ["fount", "line", "at", "odd", "found", "one", "other"] ["fount", "line"] (defScope (top 34)) := ⟨rfl, rfl, rfl, by decide +kernel, rfl, by decide +kernel, by decide +kernel⟩
theorem D_law_no_queues (T : Txt K mg base) : Callee P w K mg base 2 "_law_no_queues" sp_law_no_queues :=
  (callee_of (k := 1) T.f_law_no_queues sc_law_no_queues (fun _ _ _ _ _ _ us hl => match us, hl with | [_, _], _ => rfl) fun f cdv A outer s H E C hp => (sc (sset C 2 (xcall C (D_law_sip T) (a1 (xv 0) (a1 (xblt C .len (a1 (xv 1) a0) T.b_len) a0))))
  (sc (sset C 3 (xlst true (a1 xn (a1 xb (a1 xs (a1 (xtup (a1 xi a0)) (a1 (xlst true (a1 xi a0)) (a1 (xdnew true) (a1 (xbin .add true (xbin .pow true xi xi) xi) (a1 (xbin .sub true (xbin .sub true xi (xbin .pow true xi xi)) xi) a0))))))))))
  (sc (sset C 4 (xbin .add false (xlc C true [("one", 5)] (iseq (xv 3)) (fun _ _ _ _ _ => (gn C.blk 5)) (fun _ _ _ _ _ => c0) (fun _ _ _ _ _ => (xbin .add true (xbin .add true (xslc true (xv 1) xo0 (xo1 (xv 2))) (xtup (a1 (xv 5) a0))) (xslc true (xv 1) (xo1 (xbin .add true (xv 2) xi)) xo0)))) (xlst true (a1 (xblt C (.list true) (a1 (xv 1) a0) T.b_list) (a1 (xbin .add true (xv 1) (xslc true (xv 1) xo0 (xo1 xi))) (a1 (xtup (a1 (xv 1) a0)) a0))))))
  (sc (sif (xtcmp C .gt (xblt C .len (a1 (xv 1) a0) T.b_len) xi)
  (sc (sset C 6 (xbin .mod true (xbin .add true (xbin .add true (xv 2) xi) (xcall C (D_law_sip T) (a1 (xv 0) (a1 (xbin .sub true (xblt C .len (a1 (xv 1) a0) T.b_len) xi) a0)))) (xblt C .len (a1 (xv 1) a0) T.b_len)))
  (s1 (sexpr (xmt .append (xv 4) (a1 (xbin .add true (xbin .add true (xslc true (xv 1) xo0 (xo1 (xv 2))) (xtup (a1 (xidx (xv 1) (xv 6)) a0))) (xslc true (xv 1) (xo1 (xbin .add true (xv 2) xi)) xo0)) a0)))))
  s0)
  (sc (sset C 4 (xbin .add false (xv 4) (xlst true (a1 (xblt C .tuple (a1 (xlrg1 C true xi T.b_list T.b_range) a0) T.b_tuple) (a1 (xtup (a1 xi (a1 xi (a1 xi (a1 xi a0))))) (a1 (xtup (a1 xi (a1 xi (a1 xi (a1 xi (a1 xi a0)))))) a0))))))
  (s1 (sret (xbin .add true (xv 4) (xlst true (a1 xn (a1 xi (a1 xb (a1 xs (a1 xs (a1 (xlst true a0) (a1 (xlst true (a1 xi a0)) (a1 (xdnew true) (a1 (xtup a0) (a1 (xtup (a1 xn a0)) (a1 (xtup (a1 xb a0)) (a1 (xtup (a1 xs a0)) (a1 (xtup (a1 xi (a1 xi a0))) (a1 (xtup (a1 (xtup (a1 xi a0)) a0)) (a1 (xtup (a1 (xlst true a0) a0)) (a1 (xtup (a1 (xdnew true) a0)) a0)))))))))))))))))))))))))).imp law_no_queues_ok
theorem sc_law_tried : FnScope ["value", "e"] ["value"] (defScope (top 35)) := ⟨rfl, rfl, rfl, by decide +kernel, rfl, by decide +kernel, by decide +kernel⟩
theorem D_law_tried (T : Txt K mg base) : Callee P w K mg base 7 "_law_tried" sp_law_tried :=
  (callee_of (k := 6) T.f_law_tried sc_law_tried (fun _ _ _ _ _ _ us hl => match us, hl with | [_], _ => rfl) fun f cdv A outer s H E C hp => (sc (stry C 1 rxL T.x_QueueError T.m_QueueError (fun pn xe hp => (s1 (sexpr (xcall C.tr (D_show_queue T) (a1 (xv 0) a0)))))
  (fun a oe y pn C => (s1 (sret (xcallH C (D_law_kind T) (a1 (xv 1) a0))))))
  (s1 (sret xs)))).imp law_tried_ok
theorem sc_law : FnScope ["script", "k", "fount", "line", "turn", "bad", "kept", "value"] ["script"] (defScope (top 36)) := ⟨rfl, rfl, rfl, by decide +kernel, rfl, by decide +kernel, by decide +kernel⟩
theorem D_law (T : Txt K mg base) {f : Addr} {fd : FuncData} (F : Fun K "law" "law" (top 36) f fd) : FnG P w K mg base 21 f fd ["script"] sp_LAW :=
  (fnG_of (k := 20) F sc_law fun f cdv A outer s H E C hp => (sc (sfor C hp (irng1 (a1 (xblt C .max2 (a1 xi (a1 (xblt C .min2 (a1 xi (a1 (xblt C .len (a1 (xv 0) a0) T.b_len) a0)) T.b_min) a0)) T.b_max) a0) T.b_range) (gn C 1)
  (sc (sset C 2 (xcall C (D_law_fount T) (a1 (xv 0) (a1 (xv 1) a0))))
  (sc (sset C 3 (xcall C (D_law_line T) (a1 (xv 2) (a1 xi a0))))
  (s1 (sfor C hp (irng1 (a1 xi a0) T.b_range) (gn C 4)
  (sc (sset C 5 (xcall C (D_law_no_queues T) (a1 (xv 2) (a1 (xv 3) a0))))
  (sc (sset C 6 (xreprX C T.m1 (by decide) (xlst true (a1 (xv 3) (a1 (xv 5) a0))) T.b_repr))
  (sc (sif (xtcmp C .ne (xlc C true [("value", 7)] (iseq (xv 5)) (fun _ _ _ _ _ => (gn C.blk 7)) (fun _ _ _ _ _ => (c1 (xtcmp C.blk .ne (xcall C.blk (D_law_tried T) (a1 (xv 7) a0)) xs))) (fun _ _ _ _ _ => (xv 7))) (xlst true a0))
  (s1 (sret xb))
  s0)
  (s1 (sif (xtp (xpor (xtcmp C .ne (xcall C (D_law_tried T) (a1 (xv 3) a0)) xs) (xpone (xtcmp C .ne (xreprX C T.m1 (by decide) (xlst true (a1 (xv 3) (a1 (xv 5) a0))) T.b_repr) (xv 6)))))
  (s1 (sret xb))
  s0)))))
  s0))))
  s0)
  (s1 (sret (xcmp C .eq (xcall C (D_law_tried T) (a1 (xblt C .tuple (a1 (xlrg1 C true xi T.b_list T.b_range) a0) T.b_tuple) a0)) xs))))).imp law53_ok
end
theorem all_mk {l : PySem.W.OpenLaw} {w : World} {K : PySem.W.Frag} {h : Heap} {mg : Str → Option Value} {fa : Addr} (X : K.In h) (G : h.Ns mainGlobals mg) (hfa : mg "law" = some (.ref fa)) {f0 f1 f2 f3 f4 f5 f6 f7 f8 f9 f10 f11 f12 f13 f14 : Addr} {od0 an0 od1 an1 od2 an2 od3 an3 od4 an4 od5 an5 od6 an6 od7 an7 od8 an8 od9 an9 od10 an10 od11 an11 od12 an12 od13 an13 od14 an14 : Option Addr} {sl0 sl1 sl2 sl3 sl4 sl5 sl6 sl7 sl8 sl9 sl10 sl11 sl12 sl13 sl14 : Array (Option Value)} {oc0 kV0 dc0 pm0 cd0 ct0 oc1 kV1 dc1 pm1 cd1 ct1 oc2 kV2 dc2 pm2 cd2 ct2 oc3 kV3 dc3 pm3 cd3 ct3 oc4 kV4 dc4 pm4 cd4 ct4 oc5 kV5 dc5 pm5 cd5 ct5 oc6 kV6 dc6 pm6 cd6 ct6 oc7 kV7 dc7 pm7 cd7 ct7 oc8 kV8 dc8 pm8 cd8 ct8 oc9 kV9 dc9 pm9 cd9 ct9 oc10 kV10 dc10 pm10 cd10 ct10 oc11 kV11 dc11 pm11 cd11 ct11 oc12 kV12 dc12 pm12 cd12 ct12 oc13 kV13 dc13 pm13 cd13 ct13 oc14 kV14 dc14 pm14 cd14 ct14 : Value} {t0 t1 : Tok} {C0 C1 C2 C3 C4 C5 C6 C7 C8 C9 C10 C11 C12 C13 C14 C15 : Addr}
    (a0 : PySem.W.nsIn K mainGlobals "is_int" = some (some (.ref f0))) (l0 : K.lookup f0 = some ⟨oc0, od0, .func (PySem.W.fnOf "is_int" "is_int" (defArgs (top 20)) (defBody (top 20)) (defScope (top 20)) .none kV0 dc0 pm0 an0 cd0 ct0), sl0⟩) (c0 : PySem.W.codeIn K cd0 "is_int" = true) (k0 : PySem.W.keepIn K (.ref f0) = true)
    (a1 : PySem.W.nsIn K mainGlobals "in_range" = some (some (.ref f1))) (l1 : K.lookup f1 = some ⟨oc1, od1, .func (PySem.W.fnOf "in_range" "in_range" (defArgs (top 21)) (defBody (top 21)) (defScope (top 21)) .none kV1 dc1 pm1 an1 cd1 ct1), sl1⟩) (c1 : PySem.W.codeIn K cd1 "in_range" = true) (k1 : PySem.W.keepIn K (.ref f1) = true)
    (a2 : PySem.W.nsIn K mainGlobals "is_height" = some (some (.ref f2))) (l2 : K.lookup f2 = some ⟨oc2, od2, .func (PySem.W.fnOf "is_height" "is_height" (defArgs (top 22)) (defBody (top 22)) (defScope (top 22)) .none kV2 dc2 pm2 an2 cd2 ct2), sl2⟩) (c2 : PySem.W.codeIn K cd2 "is_height" = true) (k2 : PySem.W.keepIn K (.ref f2) = true)
    (a3 : PySem.W.nsIn K mainGlobals "is_queue" = some (some (.ref f3))) (l3 : K.lookup f3 = some ⟨oc3, od3, .func (PySem.W.fnOf "is_queue" "is_queue" (defArgs (top 23)) (defBody (top 23)) (defScope (top 23)) .none kV3 dc3 pm3 an3 cd3 ct3), sl3⟩) (c3 : PySem.W.codeIn K cd3 "is_queue" = true) (k3 : PySem.W.keepIn K (.ref f3) = true)
    (a4 : PySem.W.nsIn K mainGlobals "require_queue" = some (some (.ref f4))) (l4 : K.lookup f4 = some ⟨oc4, od4, .func (PySem.W.fnOf "require_queue" "require_queue" (defArgs (top 24)) (defBody (top 24)) (defScope (top 24)) .none kV4 dc4 pm4 an4 cd4 ct4), sl4⟩) (c4 : PySem.W.codeIn K cd4 "require_queue" = true) (k4 : PySem.W.keepIn K (.ref f4) = true)
    (a5 : PySem.W.nsIn K mainGlobals "show_queue" = some (some (.ref f5))) (l5 : K.lookup f5 = some ⟨oc5, od5, .func (PySem.W.fnOf "show_queue" "show_queue" (defArgs (top 26)) (defBody (top 26)) (defScope (top 26)) .none kV5 dc5 pm5 an5 cd5 ct5), sl5⟩) (c5 : PySem.W.codeIn K cd5 "show_queue" = true) (k5 : PySem.W.keepIn K (.ref f5) = true)
    (a6 : PySem.W.nsIn K mainGlobals "_law_fount" = some (some (.ref f6))) (l6 : K.lookup f6 = some ⟨oc6, od6, .func (PySem.W.fnOf "_law_fount" "_law_fount" (defArgs (top 28)) (defBody (top 28)) (defScope (top 28)) .none kV6 dc6 pm6 an6 cd6 ct6), sl6⟩) (c6 : PySem.W.codeIn K cd6 "_law_fount" = true) (k6 : PySem.W.keepIn K (.ref f6) = true)
    (a7 : PySem.W.nsIn K mainGlobals "_law_sip" = some (some (.ref f7))) (l7 : K.lookup f7 = some ⟨oc7, od7, .func (PySem.W.fnOf "_law_sip" "_law_sip" (defArgs (top 29)) (defBody (top 29)) (defScope (top 29)) .none kV7 dc7 pm7 an7 cd7 ct7), sl7⟩) (c7 : PySem.W.codeIn K cd7 "_law_sip" = true) (k7 : PySem.W.keepIn K (.ref f7) = true)
    (a8 : PySem.W.nsIn K mainGlobals "_law_mixed" = some (some (.ref f8))) (l8 : K.lookup f8 = some ⟨oc8, od8, .func (PySem.W.fnOf "_law_mixed" "_law_mixed" (defArgs (top 30)) (defBody (top 30)) (defScope (top 30)) .none kV8 dc8 pm8 an8 cd8 ct8), sl8⟩) (c8 : PySem.W.codeIn K cd8 "_law_mixed" = true) (k8 : PySem.W.keepIn K (.ref f8) = true)
    (a9 : PySem.W.nsIn K mainGlobals "_law_people" = some (some (.ref f9))) (l9 : K.lookup f9 = some ⟨oc9, od9, .func (PySem.W.fnOf "_law_people" "_law_people" (defArgs (top 31)) (defBody (top 31)) (defScope (top 31)) .none kV9 dc9 pm9 an9 cd9 ct9), sl9⟩) (c9 : PySem.W.codeIn K cd9 "_law_people" = true) (k9 : PySem.W.keepIn K (.ref f9) = true)
    (a10 : PySem.W.nsIn K mainGlobals "_law_line" = some (some (.ref f10))) (l10 : K.lookup f10 = some ⟨oc10, od10, .func (PySem.W.fnOf "_law_line" "_law_line" (defArgs (top 32)) (defBody (top 32)) (defScope (top 32)) .none kV10 dc10 pm10 an10 cd10 ct10), sl10⟩) (c10 : PySem.W.codeIn K cd10 "_law_line" = true) (k10 : PySem.W.keepIn K (.ref f10) = true)
    (a11 : PySem.W.nsIn K mainGlobals "_law_kind" = some (some (.ref f11))) (l11 : K.lookup f11 = some ⟨oc11, od11, .func (PySem.W.fnOf "_law_kind" "_law_kind" (defArgs (top 33)) (defBody (top 33)) (defScope (top 33)) .none kV11 dc11 pm11 an11 cd11 ct11), sl11⟩) (c11 : PySem.W.codeIn K cd11 "_law_kind" = true) (k11 : PySem.W.keepIn K (.ref f11) = true)
    (a12 : PySem.W.nsIn K mainGlobals "_law_no_queues" = some (some (.ref f12))) (l12 : K.lookup f12 = some ⟨oc12, od12, .func (PySem.W.fnOf "_law_no_queues" "_law_no_queues" (defArgs (top 34)) (defBody (top 34)) (defScope (top 34)) .none kV12 dc12 pm12 an12 cd12 ct12), sl12⟩) (c12 : PySem.W.codeIn K cd12 "_law_no_queues" = true) (k12 : PySem.W.keepIn K (.ref f12) = true)
    (a13 : PySem.W.nsIn K mainGlobals "_law_tried" = some (some (.ref f13))) (l13 : K.lookup f13 = some ⟨oc13, od13, .func (PySem.W.fnOf "_law_tried" "_law_tried" (defArgs (top 35)) (defBody (top 35)) (defScope (top 35)) .none kV13 dc13 pm13 an13 cd13 ct13), sl13⟩) (c13 : PySem.W.codeIn K cd13 "_law_tried" = true) (k13 : PySem.W.keepIn K (.ref f13) = true)
    (a14 : PySem.W.nsIn K mainGlobals "law" = some (some (.ref f14))) (l14 : K.lookup f14 = some ⟨oc14, od14, .func (PySem.W.fnOf "law" "law" (defArgs (top 36)) (defBody (top 36)) (defScope (top 36)) .none kV14 dc14 pm14 an14 cd14 ct14), sl14⟩) (c14 : PySem.W.codeIn K cd14 "law" = true) (k14 : PySem.W.keepIn K (.ref f14) = true)
    (b0 : PySem.W.nsIn K mainGlobals "ValueError" = some none)
    (b1 : PySem.W.nsIn K mainGlobals "all" = some none)
    (b2 : PySem.W.nsIn K mainGlobals "bool" = some none)
    (b3 : PySem.W.nsIn K mainGlobals "int" = some none)
    (b4 : PySem.W.nsIn K mainGlobals "isinstance" = some none)
    (b5 : PySem.W.nsIn K mainGlobals "len" = some none)
    (b6 : PySem.W.nsIn K mainGlobals "list" = some none)
    (b7 : PySem.W.nsIn K mainGlobals "max" = some none)
    (b8 : PySem.W.nsIn K mainGlobals "min" = some none)
    (b9 : PySem.W.nsIn K mainGlobals "range" = some none)
    (b10 : PySem.W.nsIn K mainGlobals "repr" = some none)
    (b11 : PySem.W.nsIn K mainGlobals "set" = some none)
    (b12 : PySem.W.nsIn K mainGlobals "str" = some none)
    (b13 : PySem.W.nsIn K mainGlobals "tuple" = some none)
    (g0 : PySem.W.nsIn K mainGlobals "GREATEST" = some (some (.int 1000000000000000000000000000000 t0)))
    (g1 : PySem.W.nsIn K mainGlobals "MOST_PERSONS" = some (some (.int 40 t1)))
    (e0 : PySem.W.nsIn K mainGlobals "NoQueue" = some (some (.ref C0))) (x0 : PySem.W.excIn K C0 [.type "ValueError", .type "Exception", .type "BaseException", .type "object"] "ValueError.__new__" = true) (y0 : PySem.W.keepIn K (.ref C0) = true) (z0 : PySem.W.subIn K (.ref C0) (.type "BaseException") = some true) (w0 : PySem.W.typeIn K (.ref C0) = some (.type "type"))
    (e1 : PySem.W.nsIn K mainGlobals "QueueError" = some (some (.ref C1)))
    (e2 : PySem.W.nsIn K mainGlobals "Full" = some (some (.ref C2)))
    (e3 : PySem.W.nsIn K mainGlobals "NoGap" = some (some (.ref C3)))
    (e4 : PySem.W.nsIn K mainGlobals "NoLine" = some (some (.ref C4)))
    (e5 : PySem.W.nsIn K mainGlobals "NoNumber" = some (some (.ref C5)))
    (e6 : PySem.W.nsIn K mainGlobals "NoOperation" = some (some (.ref C6)))
    (e7 : PySem.W.nsIn K mainGlobals "NoPerson" = some (some (.ref C7)))
    (e8 : PySem.W.nsIn K mainGlobals "NoRow" = some (some (.ref C8)))
    (e9 : PySem.W.nsIn K mainGlobals "NoSteps" = some (some (.ref C9)))
    (e10 : PySem.W.nsIn K mainGlobals "NoText" = some (some (.ref C10)))
    (e11 : PySem.W.nsIn K mainGlobals "NotAlike" = some (some (.ref C11)))
    (e12 : PySem.W.nsIn K mainGlobals "NotFitting" = some (some (.ref C12)))
    (e13 : PySem.W.nsIn K mainGlobals "NotSettled" = some (some (.ref C13)))
    (e14 : PySem.W.nsIn K mainGlobals "Nothing" = some (some (.ref C14)))
    (e15 : PySem.W.nsIn K mainGlobals "TooMany" = some (some (.ref C15)))
    (em0_1 : PySem.W.exmOne K (.ref C0) (.ref C1) = some true)
    (ki0_2 : PySem.W.kitOne K (.ref C0) (.ref C2) = some false)
    (ki0_3 : PySem.W.kitOne K (.ref C0) (.ref C3) = some false)
    (ki0_4 : PySem.W.kitOne K (.ref C0) (.ref C4) = some false)
    (ki0_5 : PySem.W.kitOne K (.ref C0) (.ref C5) = some false)
    (ki0_6 : PySem.W.kitOne K (.ref C0) (.ref C6) = some false)
    (ki0_7 : PySem.W.kitOne K (.ref C0) (.ref C7) = some false)
    (ki0_0 : PySem.W.kitOne K (.ref C0) (.ref C0) = some true)
    (ki0_8 : PySem.W.kitOne K (.ref C0) (.ref C8) = some false)
    (ki0_9 : PySem.W.kitOne K (.ref C0) (.ref C9) = some false)
    (ki0_10 : PySem.W.kitOne K (.ref C0) (.ref C10) = some false)
    (ki0_11 : PySem.W.kitOne K (.ref C0) (.ref C11) = some false)
    (ki0_12 : PySem.W.kitOne K (.ref C0) (.ref C12) = some false)
    (ki0_13 : PySem.W.kitOne K (.ref C0) (.ref C13) = some false)
    (ki0_14 : PySem.W.kitOne K (.ref C0) (.ref C14) = some false)
    (ki0_15 : PySem.W.kitOne K (.ref C0) (.ref C15) = some false)
    (kt0 : PySem.W.kitOne K (.ref C0) (.type "ValueError") = some true)
    (xh0 : PySem.W.specialIn K (.builtin "object.__class__") "__get__" = some (some (.builtin "getset_descriptor.__get__"))) (xh1 : PySem.W.takesIn K (.builtin "object.__class__") = some true)
    (xa0 : PySem.W.findIn K (.ref C0) "__getattribute__" = some (some (.builtin "BaseException.__getattribute__"))) (xb0 : PySem.W.findIn K (.ref C0) "__getattr__" = some none) (xs0 : PySem.W.subIn K (.ref C0) (.type "BaseException") = some true) (xd0 : PySem.W.hasDictIn K C0 = true) (xe0 : PySem.W.findIn K (.ref C0) "__class__" = some (some (.builtin "object.__class__"))) (xm0 : PySem.W.mroIn K C0 (.type "object") = some true)
    : ∃ fd : FuncData, (∀ (s : Shared) (u : Value), BindsTo s fd ⟨[u], []⟩ [("script", u)]) ∧ ∀ base : Heap, K.In base → base.Ns mainGlobals mg → M1 base → FnG l.prog w K mg base 21 fa fd ["script"] sp_LAW := by
  have e := hfa.symm.trans (PySem.W.mg_of X G a14)
  cases e
  have T : ∀ base : Heap, M1 base → Txt K mg base := fun base hB => { m1 := hB, f_is_int := ⟨f0, _, fun_mk (st := top 20) l0 c0 k0, PySem.W.mg_of X G a0⟩, f_in_range := ⟨f1, _, fun_mk (st := top 21) l1 c1 k1, PySem.W.mg_of X G a1⟩, f_is_height := ⟨f2, _, fun_mk (st := top 22) l2 c2 k2, PySem.W.mg_of X G a2⟩, f_is_queue := ⟨f3, _, fun_mk (st := top 23) l3 c3 k3, PySem.W.mg_of X G a3⟩, f_require_queue := ⟨f4, _, fun_mk (st := top 24) l4 c4 k4, PySem.W.mg_of X G a4⟩, f_show_queue := ⟨f5, _, fun_mk (st := top 26) l5 c5 k5, PySem.W.mg_of X G a5⟩, f_law_fount := ⟨f6, _, fun_mk (st := top 28) l6 c6 k6, PySem.W.mg_of X G a6⟩, f_law_sip := ⟨f7, _, fun_mk (st := top 29) l7 c7 k7, PySem.W.mg_of X G a7⟩, f_law_mixed := ⟨f8, _, fun_mk (st := top 30) l8 c8 k8, PySem.W.mg_of X G a8⟩, f_law_people := ⟨f9, _, fun_mk (st := top 31) l9 c9 k9, PySem.W.mg_of X G a9⟩, f_law_line := ⟨f10, _, fun_mk (st := top 32) l10 c10 k10, PySem.W.mg_of X G a10⟩, f_law_kind := ⟨f11, _, fun_mk (st := top 33) l11 c11 k11, PySem.W.mg_of X G a11⟩, f_law_no_queues := ⟨f12, _, fun_mk (st := top 34) l12 c12 k12, PySem.W.mg_of X G a12⟩, f_law_tried := ⟨f13, _, fun_mk (st := top 35) l13 c13 k13, PySem.W.mg_of X G a13⟩, b_ValueError := PySem.W.mg_none_of X G b0, b_all := PySem.W.mg_none_of X G b1, b_bool := PySem.W.mg_none_of X G b2, b_int := PySem.W.mg_none_of X G b3, b_isinstance := PySem.W.mg_none_of X G b4, b_len := PySem.W.mg_none_of X G b5, b_list := PySem.W.mg_none_of X G b6, b_max := PySem.W.mg_none_of X G b7, b_min := PySem.W.mg_none_of X G b8, b_range := PySem.W.mg_none_of X G b9, b_repr := PySem.W.mg_none_of X G b10, b_set := PySem.W.mg_none_of X G b11, b_str := PySem.W.mg_none_of X G b12, b_tuple := PySem.W.mg_none_of X G b13, g_GREATEST := ⟨t0, PySem.W.mg_of X G g0⟩, g_MOST_PERSONS := ⟨t1, PySem.W.mg_of X G g1⟩, e_NoQueue := ⟨C0, PySem.W.mg_of X G e0, x0, y0, z0, w0⟩, x_QueueError := ⟨C1, (PySem.W.mg_of X G e1)⟩, m_QueueError := (allc (exm_mk (by decide) (PySem.W.mg_of X G e0) (PySem.W.mg_of X G e1) em0_1) alln), k_Full := (allc (kit_mk (by decide) (PySem.W.mg_of X G e0) (PySem.W.mg_of X G e2) ki0_2) alln), k_NoGap := (allc (kit_mk (by decide) (PySem.W.mg_of X G e0) (PySem.W.mg_of X G e3) ki0_3) alln), k_NoLine := (allc (kit_mk (by decide) (PySem.W.mg_of X G e0) (PySem.W.mg_of X G e4) ki0_4) alln), k_NoNumber := (allc (kit_mk (by decide) (PySem.W.mg_of X G e0) (PySem.W.mg_of X G e5) ki0_5) alln), k_NoOperation := (allc (kit_mk (by decide) (PySem.W.mg_of X G e0) (PySem.W.mg_of X G e6) ki0_6) alln), k_NoPerson := (allc (kit_mk (by decide) (PySem.W.mg_of X G e0) (PySem.W.mg_of X G e7) ki0_7) alln), k_NoQueue := (allc (kit_mk (by decide) (PySem.W.mg_of X G e0) (PySem.W.mg_of X G e0) ki0_0) alln), k_NoRow := (allc (kit_mk (by decide) (PySem.W.mg_of X G e0) (PySem.W.mg_of X G e8) ki0_8) alln), k_NoSteps := (allc (kit_mk (by decide) (PySem.W.mg_of X G e0) (PySem.W.mg_of X G e9) ki0_9) alln), k_NoText := (allc (kit_mk (by decide) (PySem.W.mg_of X G e0) (PySem.W.mg_of X G e10) ki0_10) alln), k_NotAlike := (allc (kit_mk (by decide) (PySem.W.mg_of X G e0) (PySem.W.mg_of X G e11) ki0_11) alln), k_NotFitting := (allc (kit_mk (by decide) (PySem.W.mg_of X G e0) (PySem.W.mg_of X G e12) ki0_12) alln), k_NotSettled := (allc (kit_mk (by decide) (PySem.W.mg_of X G e0) (PySem.W.mg_of X G e13) ki0_13) alln), k_Nothing := (allc (kit_mk (by decide) (PySem.W.mg_of X G e0) (PySem.W.mg_of X G e14) ki0_14) alln), k_TooMany := (allc (kit_mk (by decide) (PySem.W.mg_of X G e0) (PySem.W.mg_of X G e15) ki0_15) alln), t_ValueError := (allc (kit_mkT (by decide) (PySem.W.mg_of X G e0) kt0) alln), excK := (allc ⟨C0, (PySem.W.mg_of X G e0), ⟨xa0, xb0, xs0, xd0, xe0, xh0, xh1, xm0⟩⟩ alln) }
  exact ⟨_, fun s v => .of_eq rfl, fun base _ _ hB => D_law (T base hB) (fun_mk (st := top 36) l14 c14 k14)⟩
end TF
open PySem PySem.W PyProof.Rows
set_option maxRecDepth 100000 in
set_option maxHeartbeats 0 in
theorem PySem.Challenge.cw_tallerfirst_k53_queues_not_shown_holds : PySem.Challenge.rw_tallerfirst_k53_queues_not_shown.Holds := by
  w_on; o_law; k_head; (case hw => w_witness2)
  k_fill
  refine TF.walkG (l := PySem.Challenge.rw_tallerfirst_k53_queues_not_shown) (k := 21) (x := "script") rfl (by decide +kernel) rfl ⟨rfl, by decide, by decide⟩ (fun w h Y => PySem.W.kIn_of Y) ?F
  case F =>
    intro w mg fa h KX G hmg
    refine' TF.all_mk KX G hmg ?zqa0 ?zql0 ?zqc0 ?zqk0 ?zqa1 ?zql1 ?zqc1 ?zqk1 ?zqa2 ?zql2 ?zqc2 ?zqk2 ?zqa3 ?zql3 ?zqc3 ?zqk3 ?zqa4 ?zql4 ?zqc4 ?zqk4 ?zqa5 ?zql5 ?zqc5 ?zqk5 ?zqa6 ?zql6 ?zqc6 ?zqk6 ?zqa7 ?zql7 ?zqc7 ?zqk7 ?zqa8 ?zql8 ?zqc8 ?zqk8 ?zqa9 ?zql9 ?zqc9 ?zqk9 ?zqa10 ?zql10 ?zqc10 ?zqk10 ?zqa11 ?zql11 ?zqc11 ?zqk11 ?zqa12 ?zql12 ?zqc12 ?zqk12 ?zqa13 ?zql13 ?zqc13 ?zqk13 ?zqa14 ?zql14 ?zqc14 ?zqk14 ?zqb0 ?zqb1 ?zqb2 ?zqb3 ?zqb4 ?zqb5 ?zqb6 ?zqb7 ?zqb8 ?zqb9 ?zqb10 ?zqb11 ?zqb12 ?zqb13 ?zqg0 ?zqg1 ?zqe0 ?zqx0 ?zqy0 ?zqz0 ?zqw0 ?zqe1 ?zqe2 ?zqe3 ?zqe4 ?zqe5 ?zqe6 ?zqe7 ?zqe8 ?zqe9 ?zqe10 ?zqe11 ?zqe12 ?zqe13 ?zqe14 ?zqe15 ?zqem0_1 ?zqki0_2 ?zqki0_3 ?zqki0_4 ?zqki0_5 ?zqki0_6 ?zqki0_7 ?zqki0_0 ?zqki0_8 ?zqki0_9 ?zqki0_10 ?zqki0_11 ?zqki0_12 ?zqki0_13 ?zqki0_14 ?zqki0_15 ?zqkt0 ?zqxh0 ?zqxh1 ?zqxa0 ?zqxb0 ?zqxs0 ?zqxd0 ?zqxe0 ?zqxm0
    (case zqa0 => k_is)
    (case zql0 => k_is)
    (case zqc0 => k_is)
    (case zqk0 => k_is)
    (case zqa1 => k_is)
    (case zql1 => k_is)
    (case zqc1 => k_is)
    (case zqk1 => k_is)
    (case zqa2 => k_is)
    (case zql2 => k_is)
    (case zqc2 => k_is)
    (case zqk2 => k_is)
    (case zqa3 => k_is)
    (case zql3 => k_is)
    (case zqc3 => k_is)
    (case zqk3 => k_is)
    (case zqa4 => k_is)
    (case zql4 => k_is)
    (case zqc4 => k_is)
    (case zqk4 => k_is)
    (case zqa5 => k_is)
    (case zql5 => k_is)
    (case zqc5 => k_is)
    (case zqk5 => k_is)
    (case zqa6 => k_is)
    (case zql6 => k_is)
    (case zqc6 => k_is)
    (case zqk6 => k_is)
    (case zqa7 => k_is)
    (case zql7 => k_is)
    (case zqc7 => k_is)
    (case zqk7 => k_is)
    (case zqa8 => k_is)
    (case zql8 => k_is)
    (case zqc8 => k_is)
    (case zqk8 => k_is)
    (case zqa9 => k_is)
    (case zql9 => k_is)
    (case zqc9 => k_is)
    (case zqk9 => k_is)
    (case zqa10 => k_is)
    (case zql10 => k_is)
    (case zqc10 => k_is)
    (case zqk10 => k_is)
    (case zqa11 => k_is)
    (case zql11 => k_is)
    (case zqc11 => k_is)
    (case zqk11 => k_is)
    (case zqa12 => k_is)
    (case zql12 => k_is)
    (case zqc12 => k_is)
    (case zqk12 => k_is)
    (case zqa13 => k_is)
    (case zql13 => k_is)
    (case zqc13 => k_is)
    (case zqk13 => k_is)
    (case zqa14 => k_is)
    (case zql14 => k_is)
    (case zqc14 => k_is)
    (case zqk14 => k_is)
    (case zqb0 => k_is)
    (case zqb1 => k_is)
    (case zqb2 => k_is)
    (case zqb3 => k_is)
    (case zqb4 => k_is)
    (case zqb5 => k_is)
    (case zqb6 => k_is)
    (case zqb7 => k_is)
    (case zqb8 => k_is)
    (case zqb9 => k_is)
    (case zqb10 => k_is)
    (case zqb11 => k_is)
    (case zqb12 => k_is)
    (case zqb13 => k_is)
    (case zqg0 => k_is)
    (case zqg1 => k_is)
    (case zqe0 => k_is)
    (case zqx0 => k_exc)
    (case zqy0 => k_is)
    (case zqz0 => k_is)
    (case zqw0 => k_is)
    (case zqe1 => k_is)
    (case zqe2 => k_is)
    (case zqe3 => k_is)
    (case zqe4 => k_is)
    (case zqe5 => k_is)
    (case zqe6 => k_is)
    (case zqe7 => k_is)
    (case zqe8 => k_is)
    (case zqe9 => k_is)
    (case zqe10 => k_is)
    (case zqe11 => k_is)
    (case zqe12 => k_is)
    (case zqe13 => k_is)
    (case zqe14 => k_is)
    (case zqe15 => k_is)
    (case zqem0_1 => first | k_is | kit_is | rfl)
    (case zqki0_2 => first | k_is | kit_is | rfl)
    (case zqki0_3 => first | k_is | kit_is | rfl)
    (case zqki0_4 => first | k_is | kit_is | rfl)
    (case zqki0_5 => first | k_is | kit_is | rfl)
    (case zqki0_6 => first | k_is | kit_is | rfl)
    (case zqki0_7 => first | k_is | kit_is | rfl)
    (case zqki0_0 => first | k_is | kit_is | rfl)
    (case zqki0_8 => first | k_is | kit_is | rfl)
    (case zqki0_9 => first | k_is | kit_is | rfl)
    (case zqki0_10 => first | k_is | kit_is | rfl)
    (case zqki0_11 => first | k_is | kit_is | rfl)
    (case zqki0_12 => first | k_is | kit_is | rfl)
    (case zqki0_13 => first | k_is | kit_is | rfl)
    (case zqki0_14 => first | k_is | kit_is | rfl)
    (case zqki0_15 => first | k_is | kit_is | rfl)
    (case zqkt0 => first | k_is | kit_is | rfl)
    (case zqxh0 => k_is)
    (case zqxh1 => k_is)
    (case zqxa0 => k_is)
    (case zqxb0 => k_is)
    (case zqxs0 => k_is)
    (case zqxd0 => k_is)
    (case zqxe0 => k_is)
    (case zqxm0 => k_is)

