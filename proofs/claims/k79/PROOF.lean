import PyProof.Rows.All
import Wide.All
import OpenK.AllK
import Wide.FinOn
import HandS.ForMost
import HandS.ForExc
import HandS.Walk
import HandS.Deep
import HandS.TupAny
import HandS.Style
import HandS.IsInst
import HandS.SortInts
import HandS.SetFor
import HandS.Zip
import HandS.Conv
import HandS.TupLen
import HandS.CallSlots
import HandS.ExcInit
import HandS.ExcField
import HandS.Set
import HandS.Strs
import KE.KDictDisplayH
import KE.DataFind
import HandS.TupSets
import KE.KDictKeyed
import HandS.Flow
import HandS.SetKeys
import PySem.Challenge.RW_treework_k79_pruefer_words
set_option Elab.async false
set_option linter.all false
set_option maxRecDepth 100000
set_option maxHeartbeats 4000000
set_option pp.maxSteps 300
set_option pp.deepTerms false
/-! V1: plain data D, how a value stands for it in the heap, and the state of a frame -/
namespace VL
open PySem PySem.Spec PyProof.Rows L2

inductive D where
  | non
  | bl (b : Bool)
  | int (i : Int)
  | str (s : Str)
  | tup (xs : List D)
  | lst (xs : List D)
  /-- a list that is only read (the script), a tuple of the module's own -/
  | rol (xs : List D)
  | rot (xs : List D)
  /-- a built-in type -/
  | ty (n : String)
  | dic (ks : List (Key × D))
  | dit (ks : List (List Key × D))
  | obj (c : Str) (fs : List (Str × D))

/-! ### a value stands for a datum -/
mutual
inductive Rep (K : PySem.W.Frag) (mg : Str → Option Value) (F : Hp) : V → D → Prop
  | non : Rep K mg F .non .non
  | bl (b : Bool) : Rep K mg F (.bl b) (.bl b)
  | int (i : Int) : Rep K mg F (.int i) (.int i)
  | str (s : Str) : Rep K mg F (.str s) (.str s)
  | tup {a : Addr} {xs : List V} {ds : List D} : F a = some (.tup xs) → Reps K mg F xs ds → Rep K mg F (.ref a) (.tup ds)
  | rot {a : Addr} {xs : List V} {ds : List D} : SqT K F a xs → Reps K mg F xs ds → Rep K mg F (.ref a) (.rot ds)
  | lst {a : Addr} {xs : List V} {ds : List D} : F a = some (.lst xs) → Reps K mg F xs ds → Rep K mg F (.ref a) (.lst ds)
  | rol {a : Addr} {xs : List V} {ds : List D} : SqL K F a xs → Reps K mg F xs ds → Rep K mg F (.ref a) (.rol ds)
  | ty (n : String) : Rep K mg F (.ty n) (.ty n)
  | dic {a : Addr} {kvs : List (Key × V)} {ds : List (Key × D)} : F a = some (.dK kvs) → RepK K mg F kvs ds → Rep K mg F (.ref a) (.dic ds)
  | dit {a : Addr} {kvs : List (List Key × V)} {ds : List (List Key × D)} : F a = some (.dT kvs) → RepT K mg F kvs ds → Rep K mg F (.ref a) (.dit ds)
  | obj {a C dx : Addr} {fs : List (Str × V)} {c : Str} {ds : List (Str × D)} : F a = some (.ins C dx fs) → mg c = some (.ref C) → RepF K mg F fs ds → Rep K mg F (.ref a) (.obj c ds)
inductive Reps (K : PySem.W.Frag) (mg : Str → Option Value) (F : Hp) : List V → List D → Prop
  | nil : Reps K mg F [] []
  | cons {x : V} {d : D} {xs : List V} {ds : List D} : Rep K mg F x d → Reps K mg F xs ds → Reps K mg F (x :: xs) (d :: ds)
inductive RepK (K : PySem.W.Frag) (mg : Str → Option Value) (F : Hp) : List (Key × V) → List (Key × D) → Prop
  | nil : RepK K mg F [] []
  | cons {k : Key} {x : V} {d : D} {xs : List (Key × V)} {ds : List (Key × D)} : Rep K mg F x d → RepK K mg F xs ds → RepK K mg F ((k, x) :: xs) ((k, d) :: ds)
inductive RepT (K : PySem.W.Frag) (mg : Str → Option Value) (F : Hp) : List (List Key × V) → List (List Key × D) → Prop
  | nil : RepT K mg F [] []
  | cons {k : List Key} {x : V} {d : D} {xs : List (List Key × V)} {ds : List (List Key × D)} : Rep K mg F x d → RepT K mg F xs ds → RepT K mg F ((k, x) :: xs) ((k, d) :: ds)
inductive RepF (K : PySem.W.Frag) (mg : Str → Option Value) (F : Hp) : List (Str × V) → List (Str × D) → Prop
  | nil : RepF K mg F [] []
  | cons {k : Str} {x : V} {d : D} {xs : List (Str × V)} {ds : List (Str × D)} : Rep K mg F x d → RepF K mg F xs ds → RepF K mg F ((k, x) :: xs) ((k, d) :: ds)
end

theorem sqT_mono {K : PySem.W.Frag} {F G : Hp} {a : Addr} {xs : List V} (e : Same F G) (h : SqT K F a xs) : SqT K G a xs := by
  rcases h with (h | ⟨o, h⟩) | h
  · exact Or.inl (Or.inl (e _ _ h))
  · exact Or.inl (Or.inr ⟨o, e _ _ h⟩)
  · exact Or.inr h

section
variable {K : PySem.W.Frag} {mg : Str → Option Value} {F G : Hp}
mutual
theorem Rep.mono (e : Same F G) : ∀ {v : V} {d : D}, Rep K mg F v d → Rep K mg G v d
  | _, _, .non => .non
  | _, _, .bl b => .bl b
  | _, _, .int i => .int i
  | _, _, .str s => .str s
  | _, _, .tup h r => .tup (e _ _ h) (Reps.mono e r)
  | _, _, .rot h r => .rot (sqT_mono e h) (Reps.mono e r)
  | _, _, .lst h r => .lst (e _ _ h) (Reps.mono e r)
  | _, _, .rol h r => .rol (e.seq h) (Reps.mono e r)
  | _, _, .ty n => .ty n
  | _, _, .dic h r => .dic (e _ _ h) (RepK.mono e r)
  | _, _, .dit h r => .dit (e _ _ h) (RepT.mono e r)
  | _, _, .obj h m r => .obj (e _ _ h) m (RepF.mono e r)
theorem Reps.mono (e : Same F G) : ∀ {v : List V} {d : List D}, Reps K mg F v d → Reps K mg G v d
  | _, _, .nil => .nil
  | _, _, .cons h r => .cons (Rep.mono e h) (Reps.mono e r)
theorem RepK.mono (e : Same F G) : ∀ {v : List (Key × V)} {d : List (Key × D)}, RepK K mg F v d → RepK K mg G v d
  | _, _, .nil => .nil
  | _, _, .cons h r => .cons (Rep.mono e h) (RepK.mono e r)
theorem RepT.mono (e : Same F G) : ∀ {v : List (List Key × V)} {d : List (List Key × D)}, RepT K mg F v d → RepT K mg G v d
  | _, _, .nil => .nil
  | _, _, .cons h r => .cons (Rep.mono e h) (RepT.mono e r)
theorem RepF.mono (e : Same F G) : ∀ {v : List (Str × V)} {d : List (Str × D)}, RepF K mg F v d → RepF K mg G v d
  | _, _, .nil => .nil
  | _, _, .cons h r => .cons (Rep.mono e h) (RepF.mono e r)
end

theorem Reps.len : ∀ {xs : List V} {ds : List D}, Reps K mg F xs ds → xs.length = ds.length
  | _, _, .nil => rfl
  | _, _, .cons _ r => congrArg Nat.succ r.len
theorem Reps.get : ∀ {xs : List V} {ds : List D} {i : Nat} {d : D}, Reps K mg F xs ds → ds[i]? = some d → ∃ x, xs[i]? = some x ∧ Rep K mg F x d
  | _, _, _, _, .nil, h => by simp at h
  | _, _, 0, d, .cons h r, q => by
    simp at q; subst q
    exact ⟨_, rfl, h⟩
  | _, _, i + 1, d, .cons h r, q => by
    simp at q
    obtain ⟨x, h1, h2⟩ := r.get q
    exact ⟨x, by simpa using h1, h2⟩
theorem Reps.getV : ∀ {xs : List V} {ds : List D} {i : Nat} {x : V}, Reps K mg F xs ds → xs[i]? = some x → ∃ d, ds[i]? = some d ∧ Rep K mg F x d
  | _, _, _, _, .nil, h => by simp at h
  | _, _, 0, d, .cons h r, q => by
    simp at q; subst q
    exact ⟨_, rfl, h⟩
  | _, _, i + 1, d, .cons h r, q => by
    simp at q
    obtain ⟨x, h1, h2⟩ := r.getV q
    exact ⟨x, by simpa using h1, h2⟩
theorem Reps.app : ∀ {xs ys : List V} {ds es : List D}, Reps K mg F xs ds → Reps K mg F ys es → Reps K mg F (xs ++ ys) (ds ++ es)
  | _, _, _, _, .nil, s => s
  | _, _, _, _, .cons h r, s => .cons h (Reps.app r s)
theorem Reps.take : ∀ {xs : List V} {ds : List D} (n : Nat), Reps K mg F xs ds → Reps K mg F (xs.take n) (ds.take n)
  | _, _, 0, _ => by simpa using Reps.nil
  | _, _, n + 1, .nil => .nil
  | _, _, n + 1, .cons h r => .cons h (r.take n)
theorem Reps.drop : ∀ {xs : List V} {ds : List D} (n : Nat), Reps K mg F xs ds → Reps K mg F (xs.drop n) (ds.drop n)
  | _, _, 0, r => r
  | _, _, n + 1, .nil => .nil
  | _, _, n + 1, .cons _ r => r.drop n
theorem Reps.set {x : V} {d : D} (h : Rep K mg F x d) : ∀ {xs : List V} {ds : List D} (n : Nat), Reps K mg F xs ds → Reps K mg F (xs.set n x) (ds.set n d)
  | _, _, _, .nil => .nil
  | _, _, 0, .cons _ r => .cons h r
  | _, _, n + 1, .cons h' r => .cons h' (Reps.set h n r)
theorem Reps.eraseIdx : ∀ {xs : List V} {ds : List D} (n : Nat), Reps K mg F xs ds → Reps K mg F (xs.eraseIdx n) (ds.eraseIdx n)
  | _, _, _, .nil => .nil
  | _, _, 0, .cons _ r => r
  | _, _, n + 1, .cons h r => .cons h (r.eraseIdx n)
theorem Reps.reverse {xs : List V} {ds : List D} (r : Reps K mg F xs ds) : Reps K mg F xs.reverse ds.reverse := by
  induction xs generalizing ds with
  | nil => cases r; exact .nil
  | cons x xs ih =>
    cases r with
    | cons h r =>
      rw [List.reverse_cons, List.reverse_cons]
      exact (ih r).app (.cons h .nil)
theorem Reps.dropLast {xs : List V} {ds : List D} (r : Reps K mg F xs ds) : Reps K mg F xs.dropLast ds.dropLast := by
  rw [List.dropLast_eq_take, List.dropLast_eq_take, r.len]
  exact r.take _
theorem Reps.rep {xs : List V} {ds : List D} (r : Reps K mg F xs ds) : ∀ n : Nat, Reps K mg F (List.replicate n xs).flatten (List.replicate n ds).flatten
  | 0 => .nil
  | n + 1 => by
    rw [List.replicate_succ, List.replicate_succ, List.flatten_cons, List.flatten_cons]
    exact r.app (r.rep n)
theorem Reps.ints : ∀ {xs : List V} {ns : List Int}, Reps K mg F xs (ns.map D.int) → xs = ns.map V.int
  | _, [], h => by cases h; rfl
  | _, n :: ns, h => by
    cases h with
    | cons h r =>
      cases h
      rw [Reps.ints r]
      rfl
theorem RepF.look {f : Str} : ∀ {xs : List (Str × V)} {ds : List (Str × D)} {d : D}, RepF K mg F xs ds → ds.lookup f = some d → ∃ x, xs.lookup f = some x ∧ Rep K mg F x d
  | _, _, _, .nil, h => by simp at h
  | _, _, d, .cons (k := k) h r, q => by
    simp only [List.lookup_cons] at q ⊢
    cases e : f == k with
    | true =>
      simp [e] at q
      subst q
      exact ⟨_, rfl, h⟩
    | false =>
      simp [e] at q
      exact r.look q
theorem RepF.lookN {f : Str} : ∀ {xs : List (Str × V)} {ds : List (Str × D)}, RepF K mg F xs ds → ds.lookup f = none → xs.lookup f = none
  | _, _, .nil, h => rfl
  | _, _, .cons (k := k) h r, q => by
    simp only [List.lookup_cons] at q ⊢
    cases e : f == k with
    | true => rw [e] at q; cases q
    | false =>
      rw [e] at q
      exact r.lookN q
theorem RepF.len : ∀ {xs : List (Str × V)} {ds : List (Str × D)}, RepF K mg F xs ds → xs.length = ds.length
  | _, _, .nil => rfl
  | _, _, .cons _ r => congrArg Nat.succ r.len
theorem RepK.len : ∀ {xs : List (Key × V)} {ds : List (Key × D)}, RepK K mg F xs ds → xs.length = ds.length
  | _, _, .nil => rfl
  | _, _, .cons _ r => congrArg Nat.succ r.len
theorem RepT.len : ∀ {xs : List (List Key × V)} {ds : List (List Key × D)}, RepT K mg F xs ds → xs.length = ds.length
  | _, _, .nil => rfl
  | _, _, .cons _ r => congrArg Nat.succ r.len
end

/-! ### the heap grows -/
/-- from the frozen part F of H to the frozen part G of L; the object at a may have changed -/
structure Ext (a : Option Addr) (F H G L : Hp) : Prop where
  ff : Same F G
  fh : Same G L
  old : ∀ b o, some b ≠ a → H b = some o → L b = some o
  dom : ∀ b, L b = none → H b = none
  new : ∀ b, H b ≠ none → F b = none → G b = none ∨ ∃ xs, G b = some (.tup xs)
theorem Ext.refl {a : Option Addr} {F H : Hp} (h : Same F H) : Ext a F H F H := ⟨Same.refl F, h, fun _ _ _ q => q, fun _ q => q, fun _ _ q => .inl q⟩
theorem Ext.trans {a : Option Addr} {F H G L G2 L2 : Hp} (x : Ext a F H G L) (y : Ext none G L G2 L2) : Ext a F H G2 L2 :=
  ⟨x.ff.trans y.ff, y.fh, fun b o n q => y.old b o (fun z => nomatch z) (x.old b o n q), fun b q => x.dom b (y.dom b q), fun b h q => match x.new b h q with
    | .inl e => y.new b (fun z => h (x.dom b z)) e
    | .inr ⟨xs, e⟩ => .inr ⟨xs, y.ff _ _ e⟩⟩
theorem Ext.weak {a : Option Addr} {F H G L : Hp} (x : Ext none F H G L) : Ext a F H G L := ⟨x.ff, x.fh, fun b o _ q => x.old b o (fun z => nomatch z) q, x.dom, x.new⟩

/-! ### slots, values, states -/
inductive Slot where
  | no
  /-- a value that no one changes any more -/
  | sh (d : D)
  /-- an object of this frame's own -/
  | own (d : D)
  /-- the first parameter's object, lent by the caller -/
  | par (d : D)
abbrev Env := List Slot
inductive Vl where
  | sh (d : D)
  /-- new, held by no name -/
  | fr (d : D)
  /-- what stands in a slot -/
  | al (i : Nat)
/-- what an operation gives -/
inductive Pv where
  | sh (d : D)
  | fr (d : D)
abbrev Pv.vl : Pv → Vl
  | .sh d => .sh d
  | .fr d => .fr d
inductive OutG (α : Type) where
  | ok (v : α) (ρ : Env)
  /-- an error of the class named c, with its field -/
  | exn (c : Str) (w : D) (ρ : Env)
  | bad
abbrev Out := OutG Vl
abbrev SE := Env → Out
/-- the entry of a frame; P: objects that are kept aside -/
structure Ent where
  F0 : Hp
  H0 : Hp
  A : Option Addr
  P : Hp

section
variable (K : PySem.W.Frag) (mg : Str → Option Value)
def Own (F H : Hp) (p : Addr) : D → Prop
  | .lst ds => ∃ xs, H p = some (.lst xs) ∧ Reps K mg F xs ds
  | .dic ds => ∃ kvs, H p = some (.dK kvs) ∧ RepK K mg F kvs ds
  | .dit ds => ∃ kvs, H p = some (.dT kvs) ∧ RepT K mg F kvs ds
  | .obj c ds => ∃ C dx fs, H p = some (.ins C dx fs) ∧ mg c = some (.ref C) ∧ RepF K mg F fs ds
  | _ => False
def SlotOk (Y : Ent) (F H : Hp) (x : Option (Option V)) : Slot → Prop
  | .no => True
  | .sh d => ∃ v, x = some (some v) ∧ Rep K mg F v d
  | .own d => ∃ p, x = some (some (.ref p)) ∧ F p = none ∧ Y.H0 p = none ∧ Y.P p = none ∧ Own K mg F H p d
  | .par d => ∃ p, x = some (some (.ref p)) ∧ F p = none ∧ Y.A = some p ∧ Y.P p = none ∧ Own K mg F H p d
structure Rel (Y : Ent) (F : Hp) (ρ : Env) (σ : L2.St) (H : Hp) : Prop where
  ext : Ext Y.A Y.F0 Y.H0 F H
  a0 : ∀ p, Y.A = some p → Y.H0 p ≠ none
  slot : ∀ (i : Nat) s, ρ[i]? = some s → SlotOk K mg Y F H σ[i]? s
  sep : ∀ (i j : Nat) p d e, ρ[i]? = some (.own d) → ρ[j]? = some (.own e) → σ[i]? = some (some (.ref p)) → σ[j]? = some (some (.ref p)) → i = j
  par : ∀ (i : Nat) d, ρ[i]? = some (.par d) → i = 0
  pin : ∀ b o, Y.P b = some o → H b = some o ∧ (F b = none ∨ ∃ xs, F b = some (.tup xs)) ∧ Y.H0 b = none
  len : ρ.length = σ.length
def VOk (Y : Ent) (F : Hp) (ρ : Env) (σ : L2.St) (H : Hp) (v : V) : Vl → Prop
  | .sh d => Rep K mg F v d
  | .fr d => ∃ p, v = .ref p ∧ F p = none ∧ Y.H0 p = none ∧ Y.P p = none ∧ (∀ (j : Nat) d, ρ[j]? = some (.own d) → σ[j]? ≠ some (some (.ref p))) ∧ Own K mg F H p d
  | .al i => σ[i]? = some (some v)
/-- to be read: frozen, or of this frame's own with frozen parts -/
inductive RT (F H : Hp) : V → D → Prop
  | fz {v : V} {d : D} : Rep K mg F v d → RT F H v d
  | mu {p : Addr} {d : D} : Own K mg F H p d → RT F H (.ref p) d
end

/-- what stands in a slot -/
def Slot.d? : Slot → Option D
  | .no => none
  | .sh d => some d
  | .own d => some d
  | .par d => some d
/-- read -/
def look (ρ : Env) : Vl → Option D
  | .sh d => some d
  | .fr d => some d
  | .al i => (ρ[i]?).bind Slot.d?
/-- let go: what it holds is changed no more -/
def esc (ρ : Env) : Vl → Option (D × Env)
  | .sh d => some (d, ρ)
  | .fr d => some (d, ρ)
  | .al i => match ρ[i]? with
    | some (.sh d) => some (d, ρ)
    | some (.own d) => some (d, ρ.set i (.sh d))
    | _ => none
/-- a new object that is kept for a while -/
def frz : Vl → Vl
  | .fr d => .sh d
  | v => v

section
variable {K : PySem.W.Frag} {mg : Str → Option Value} {Y : Ent} {F G H L : Hp} {ρ : Env} {σ : L2.St} {v : V} {vl : Vl} {d : D} {p : Addr}
theorem Own.there (h : Own K mg F H p d) : H p ≠ none := by
  cases d with
  | lst ds => obtain ⟨xs, e, _⟩ := h; rw [e]; exact fun z => nomatch z
  | dic ds => obtain ⟨xs, e, _⟩ := h; rw [e]; exact fun z => nomatch z
  | dit ds => obtain ⟨xs, e, _⟩ := h; rw [e]; exact fun z => nomatch z
  | obj c ds => obtain ⟨_, _, _, e, _⟩ := h; rw [e]; exact fun z => nomatch z
  | _ => exact h.elim
theorem Own.moves (h : Own K mg F H p d) (e : Same F G) (k : ∀ o, H p = some o → L p = some o) : Own K mg G L p d := by
  cases d with
  | lst ds => obtain ⟨xs, q, r⟩ := h; exact ⟨xs, k _ q, r.mono e⟩
  | dic ds => obtain ⟨xs, q, r⟩ := h; exact ⟨xs, k _ q, r.mono e⟩
  | dit ds => obtain ⟨xs, q, r⟩ := h; exact ⟨xs, k _ q, r.mono e⟩
  | obj c ds => obtain ⟨C, dx, fs, q, m, r⟩ := h; exact ⟨C, dx, fs, k _ q, m, r.mono e⟩
  | _ => exact h.elim
/-- an own object is not frozen by what others do -/
theorem Own.fresh {a : Option Addr} (o : Own K mg F H p d) (x : Ext a F H G L) (ne : some p ≠ a) (n : F p = none) : G p = none := by
  rcases x.new p o.there n with e | ⟨xs, e⟩
  · exact e
  · have e2 := x.fh _ _ e
    cases d with
    | lst ds => obtain ⟨_, q, _⟩ := o; rw [x.old _ _ ne q] at e2; cases e2
    | dic ds => obtain ⟨_, q, _⟩ := o; rw [x.old _ _ ne q] at e2; cases e2
    | dit ds => obtain ⟨_, q, _⟩ := o; rw [x.old _ _ ne q] at e2; cases e2
    | obj c ds => obtain ⟨_, _, _, q, _⟩ := o; rw [x.old _ _ ne q] at e2; cases e2
    | _ => exact o.elim
theorem Ext.pinned {a : Option Addr} {b : Addr} (x : Ext a F H G L) (h : H b ≠ none) (q : F b = none ∨ ∃ xs, F b = some (.tup xs)) : G b = none ∨ ∃ xs, G b = some (.tup xs) :=
  match q with
  | .inl e => x.new b h e
  | .inr ⟨xs, e⟩ => .inr ⟨xs, x.ff _ _ e⟩
/-- an own object is frozen -/
theorem Own.froze (h : Own K mg F H p d) (n : F p = none) : ∃ o, H p = some o ∧ Rep K mg (upd F p o) (.ref p) d := by
  have s : ∀ o, Same F (upd F p o) := fun o b u q => by rw [upd_ne (ne_of_none q n)]; exact q
  cases d with
  | lst ds => obtain ⟨xs, q, r⟩ := h; exact ⟨_, q, .lst upd_same (r.mono (s _))⟩
  | dic ds => obtain ⟨xs, q, r⟩ := h; exact ⟨_, q, .dic upd_same (r.mono (s _))⟩
  | dit ds => obtain ⟨xs, q, r⟩ := h; exact ⟨_, q, .dit upd_same (r.mono (s _))⟩
  | obj c ds => obtain ⟨C, dx, fs, q, m, r⟩ := h; exact ⟨_, q, .obj upd_same m (r.mono (s _))⟩
  | _ => exact h.elim
theorem same_put {o : HO} (n : F p = none) : Same F (upd F p o) := fun b u q => by rw [upd_ne (ne_of_none q n)]; exact q
theorem same_put_in {o : HO} (e : Same F H) (q : H p = some o) : Same (upd F p o) H := fun b u z => by
  by_cases hb : b = p
  · subst hb; rw [upd_same] at z; cases z; exact q
  · rw [upd_ne hb] at z; exact e _ _ z

theorem Rel.fh (R : Rel K mg Y F ρ σ H) : Same F H := R.ext.fh
theorem Rel.pinN (R : Rel K mg Y F ρ σ H) {b : Addr} {o : HO} (h : Y.P b = some o) (nt : ∀ xs, o ≠ HO.tup xs) : H b = some o ∧ F b = none ∧ Y.H0 b = none := by
  obtain ⟨h1, h2, h3⟩ := R.pin b o h
  refine ⟨h1, ?_, h3⟩
  rcases h2 with e | ⟨xs, e⟩
  · exact e
  · rw [R.fh _ _ e] at h1
    exact absurd (Option.some.inj h1).symm (nt xs)
/-- the heap grows, no object of ours is changed -/
theorem Rel.grow (R : Rel K mg Y F ρ σ H) (x : Ext none F H G L) : Rel K mg Y G ρ σ L where
  ext := R.ext.trans x
  a0 := R.a0
  slot := fun i s hs => by
    have q := R.slot i s hs
    cases s with
    | no => trivial
    | sh d => obtain ⟨v, e, r⟩ := q; exact ⟨v, e, r.mono x.ff⟩
    | own d =>
      obtain ⟨p, e, n, n0, np, o⟩ := q
      exact ⟨p, e, o.fresh x (fun z => nomatch z) n, n0, np, o.moves x.ff fun u z => x.old p u (fun z => nomatch z) z⟩
    | par d =>
      obtain ⟨p, e, n, n0, np, o⟩ := q
      exact ⟨p, e, o.fresh x (fun z => nomatch z) n, n0, np, o.moves x.ff fun u z => x.old p u (fun z => nomatch z) z⟩
  sep := R.sep
  par := R.par
  pin := fun b o hb => let ⟨h1, h2, h3⟩ := R.pin b o hb; ⟨x.old b o (fun z => nomatch z) h1, x.pinned (by rw [h1]; exact fun z => nomatch z) h2, h3⟩
  len := R.len
/-- to be read -/
theorem Rel.reads (R : Rel K mg Y F ρ σ H) (h : VOk K mg Y F ρ σ H v vl) (e : look ρ vl = some d) : RT K mg F H v d := by
  cases vl with
  | sh d' => simp [look] at e; subst e; exact .fz h
  | fr d' =>
    simp [look] at e; subst e
    obtain ⟨p, rfl, _, _, _, _, o⟩ := h
    exact .mu o
  | al i =>
    simp only [look, Option.bind_eq_some_iff] at e
    obtain ⟨s, hs, e⟩ := e
    have q := R.slot i s hs
    have hv : σ[i]? = some (some v) := h
    cases s with
    | no => simp [Slot.d?] at e
    | sh d' =>
      simp [Slot.d?] at e; subst e
      obtain ⟨v', e', r⟩ := q
      rw [hv] at e'; cases e'
      exact .fz r
    | own d' =>
      simp [Slot.d?] at e; subst e
      obtain ⟨p, e', _, _, _, o⟩ := q
      rw [hv] at e'; cases e'
      exact .mu o
    | par d' =>
      simp [Slot.d?] at e; subst e
      obtain ⟨p, e', _, _, _, o⟩ := q
      rw [hv] at e'; cases e'
      exact .mu o
theorem RT.rep (r : RT K mg F H v d) (s : Same F H) : Rep K mg H v d := by
  cases r with
  | fz r => exact r.mono s
  | mu o =>
    cases d with
    | lst ds => obtain ⟨xs, q, r⟩ := o; exact .lst q (r.mono s)
    | dic ds => obtain ⟨xs, q, r⟩ := o; exact .dic q (r.mono s)
    | dit ds => obtain ⟨xs, q, r⟩ := o; exact .dit q (r.mono s)
    | obj c ds => obtain ⟨C, dx, fs, q, m, r⟩ := o; exact .obj q m (r.mono s)
    | _ => exact o.elim
theorem RT.lst {ds : List D} (r : RT K mg F H v (.lst ds)) (s : Same F H) : ∃ a xs, v = .ref a ∧ H a = some (.lst xs) ∧ Reps K mg F xs ds := by
  cases r with
  | fz r =>
    cases r with
    | lst h q => exact ⟨_, _, rfl, s _ _ h, q⟩
  | mu o => obtain ⟨xs, q, r⟩ := o; exact ⟨_, xs, rfl, q, r⟩
theorem RT.rol {ds : List D} (r : RT K mg F H v (.rol ds)) (s : Same F H) : ∃ a xs, v = .ref a ∧ SqL K H a xs ∧ Reps K mg F xs ds := by
  cases r with
  | fz r =>
    cases r with
    | rol h q => exact ⟨_, _, rfl, s.seq h, q⟩
  | mu o => exact o.elim
theorem RT.ty {n : String} (r : RT K mg F H v (.ty n)) : v = .ty n := by
  cases r with
  | fz r => cases r; rfl
  | mu o => exact o.elim
theorem RT.lstM {ds : List D} (r : Own K mg F H p (.lst ds)) : ∃ xs, H p = some (.lst xs) ∧ Reps K mg F xs ds := r
theorem RT.tup {ds : List D} (r : RT K mg F H v (.tup ds)) (s : Same F H) : ∃ a xs, v = .ref a ∧ H a = some (.tup xs) ∧ Reps K mg F xs ds := by
  cases r with
  | fz r =>
    cases r with
    | tup h q => exact ⟨_, _, rfl, s _ _ h, q⟩
  | mu o => exact o.elim
theorem RT.rot {ds : List D} (r : RT K mg F H v (.rot ds)) (s : Same F H) : ∃ a xs, v = .ref a ∧ SqT K H a xs ∧ Reps K mg F xs ds := by
  cases r with
  | fz r =>
    cases r with
    | rot h q => exact ⟨_, _, rfl, sqT_mono s h, q⟩
  | mu o => exact o.elim
theorem RT.int {i : Int} (r : RT K mg F H v (.int i)) : v = .int i := by
  cases r with
  | fz r => cases r; rfl
  | mu o => exact o.elim
theorem RT.bl {b : Bool} (r : RT K mg F H v (.bl b)) : v = .bl b := by
  cases r with
  | fz r => cases r; rfl
  | mu o => exact o.elim
theorem RT.str {b : Str} (r : RT K mg F H v (.str b)) : v = .str b := by
  cases r with
  | fz r => cases r; rfl
  | mu o => exact o.elim
theorem RT.non (r : RT K mg F H v .non) : v = .non := by
  cases r with
  | fz r => cases r; rfl
  | mu o => exact o.elim
theorem RT.dic {ds : List (Key × D)} (r : RT K mg F H v (.dic ds)) (s : Same F H) : ∃ a kvs, v = .ref a ∧ H a = some (.dK kvs) ∧ RepK K mg F kvs ds := by
  cases r with
  | fz r =>
    cases r with
    | dic h q => exact ⟨_, _, rfl, s _ _ h, q⟩
  | mu o => obtain ⟨xs, q, r⟩ := o; exact ⟨_, xs, rfl, q, r⟩
theorem RT.dit {ds : List (List Key × D)} (r : RT K mg F H v (.dit ds)) (s : Same F H) : ∃ a kvs, v = .ref a ∧ H a = some (.dT kvs) ∧ RepT K mg F kvs ds := by
  cases r with
  | fz r =>
    cases r with
    | dit h q => exact ⟨_, _, rfl, s _ _ h, q⟩
  | mu o => obtain ⟨xs, q, r⟩ := o; exact ⟨_, xs, rfl, q, r⟩
theorem RT.obj {c : Str} {ds : List (Str × D)} (r : RT K mg F H v (.obj c ds)) (s : Same F H) : ∃ a C dx fs, v = .ref a ∧ H a = some (.ins C dx fs) ∧ mg c = some (.ref C) ∧ RepF K mg F fs ds := by
  cases r with
  | fz r =>
    cases r with
    | obj h m q => exact ⟨_, _, _, _, rfl, s _ _ h, m, q⟩
  | mu o => obtain ⟨C, dx, fs, q, m, r⟩ := o; exact ⟨_, C, dx, fs, rfl, q, m, r⟩

/-- a new object is frozen -/
theorem Rel.froze (R : Rel K mg Y F ρ σ H) (h : VOk K mg Y F ρ σ H v (.fr d)) : ∃ G, Same F G ∧ Rel K mg Y G ρ σ H ∧ Rep K mg G v d := by
  obtain ⟨p, rfl, n, n0, np, ns, o⟩ := h
  obtain ⟨ob, e, r⟩ := o.froze n
  have s := same_put (o := ob) n
  refine ⟨upd F p ob, s, ⟨⟨R.ext.ff.trans s, same_put_in R.fh e, R.ext.old, R.ext.dom, fun b hb q => ?_⟩, R.a0, fun i sl hs => ?_, R.sep, R.par, fun b o hb => ?_, R.len⟩, r⟩
  · have hp : b ≠ p := fun z => hb (by rw [z]; exact n0)
    rw [upd_ne hp]
    exact R.ext.new b hb q
  · have q := R.slot i sl hs
    cases sl with
    | no => trivial
    | sh d => obtain ⟨v, e, r⟩ := q; exact ⟨v, e, r.mono s⟩
    | own d' =>
      obtain ⟨p', e', n', n0', np', o'⟩ := q
      have hp : p' ≠ p := fun z => ns i d' hs (by rw [e', z])
      exact ⟨p', e', by rw [upd_ne hp]; exact n', n0', np', o'.moves s fun _ z => z⟩
    | par d' =>
      obtain ⟨p', e', n', n0', np', o'⟩ := q
      have hp : p' ≠ p := fun z => R.a0 p' n0' (by rw [z]; exact n0)
      exact ⟨p', e', by rw [upd_ne hp]; exact n', n0', np', o'.moves s fun _ z => z⟩
  · obtain ⟨h1, h2, h3⟩ := R.pin b o hb
    exact ⟨h1, by rw [upd_ne (fun z => by rw [z, np] at hb; cases hb)]; exact h2, h3⟩
theorem get_set {α : Type} {l : List α} {i j : Nat} {x y : α} (h : (l.set i x)[j]? = some y) : (j = i ∧ y = x) ∨ (j ≠ i ∧ l[j]? = some y) := by
  by_cases e : j = i
  · subst e
    by_cases hl : j < l.length
    · rw [List.getElem?_set_self hl] at h
      exact .inl ⟨rfl, (Option.some.inj h).symm⟩
    · rw [List.getElem?_eq_none (by simpa using hl)] at h
      cases h
  · rw [List.getElem?_set_ne (Ne.symm e)] at h
    exact .inr ⟨e, h⟩
/-- a slot is told anew -/
theorem Rel.retell (R : Rel K mg Y F ρ σ H) {i : Nat} {s : Slot} (h : SlotOk K mg Y F H σ[i]? s) (ho : ∀ d, s = .own d → ∃ e, ρ[i]? = some (.own e)) (hp : ∀ d, s = .par d → i = 0) : Rel K mg Y F (ρ.set i s) σ H where
  ext := R.ext
  a0 := R.a0
  slot := fun j t ht => by
    rcases get_set ht with ⟨rfl, rfl⟩ | ⟨_, q⟩
    · exact h
    · exact R.slot j t q
  sep := fun a b q d e h1 h2 h3 h4 => by
    have f : ∀ (a : Nat) d, (ρ.set i s)[a]? = some (.own d) → ∃ e, ρ[a]? = some (.own e) := fun a d z => by
      rcases get_set z with ⟨rfl, q⟩ | ⟨_, q⟩
      · exact ho d q.symm
      · exact ⟨d, q⟩
    obtain ⟨d', q1⟩ := f a d h1
    obtain ⟨e', q2⟩ := f b e h2
    exact R.sep a b q d' e' q1 q2 h3 h4
  par := fun j d z => by
    rcases get_set z with ⟨rfl, q⟩ | ⟨_, q⟩
    · exact hp d q.symm
    · exact R.par j d q
  pin := R.pin
  len := by rw [List.length_set]; exact R.len
/-- let go -/
theorem Rel.esc {ρ' : Env} (R : Rel K mg Y F ρ σ H) (h : VOk K mg Y F ρ σ H v vl) (e : esc ρ vl = some (d, ρ')) : ∃ G, Same F G ∧ Rel K mg Y G ρ' σ H ∧ Rep K mg G v d := by
  cases vl with
  | sh d' =>
    simp [VL.esc] at e
    obtain ⟨rfl, rfl⟩ := e
    exact ⟨F, Same.refl F, R, h⟩
  | fr d' =>
    simp [VL.esc] at e
    obtain ⟨rfl, rfl⟩ := e
    exact R.froze h
  | al i =>
    have hv : σ[i]? = some (some v) := h
    unfold VL.esc at e
    simp only at e
    split at e
    · rename_i d' hs
      cases e
      obtain ⟨v', e', r⟩ := R.slot i _ hs
      rw [hv] at e'; cases e'
      exact ⟨F, Same.refl F, R, r⟩
    · rename_i d' hs
      cases e
      obtain ⟨p, e', n, n0, np, o⟩ := R.slot i _ hs
      rw [hv] at e'; cases e'
      have R2 : Rel K mg Y F (ρ.set i .no) σ H := R.retell (s := .no) trivial (fun _ z => nomatch z) fun _ z => nomatch z
      obtain ⟨G, s, R3, r⟩ := R2.froze (v := .ref p) (d := d) ⟨p, rfl, n, n0, np, fun j d' q z => by
        rcases get_set q with ⟨_, q⟩ | ⟨hj, q⟩
        · cases q
        · exact hj (R.sep j i p d' d q hs z hv), o⟩
      refine ⟨G, s, ?_, r⟩
      have R4 := R3.retell (i := i) (s := .sh d) ⟨_, hv, r⟩ (fun _ z => nomatch z) fun _ z => nomatch z
      rwa [List.set_set] at R4
    · cases e

/-! ### what an operation gives -/
def PureQ (K : PySem.W.Frag) (mg : Str → Option Value) (F H : Hp) (Q : VK) : Pv → Prop
  | .sh d => ∀ G L v, Ext none F H G L → Rep K mg G v d → Q v L
  | .fr d => ∀ L p, Ext none F H F L → H p = none → Own K mg F L p d → Q (.ref p) L
/-- what is wanted of a value and the state behind it -/
def OkQ (K : PySem.W.Frag) (mg : Str → Option Value) (Y : Ent) (F : Hp) (σ : L2.St) (Q : VK) (vl : Vl) (ρ : Env) : Prop :=
  ∀ G L v, Same F G → Rel K mg Y G ρ σ L → VOk K mg Y G ρ σ L v vl → Q v L
theorem OkQ.mono {Q : VK} (h : OkQ K mg Y F σ Q vl ρ) (s : Same F G) : OkQ K mg Y G σ Q vl ρ := fun G2 L v s2 R q => h G2 L v (s.trans s2) R q
theorem OkQ.pure {Q : VK} {pv : Pv} (h : OkQ K mg Y F σ Q pv.vl ρ) (R : Rel K mg Y F ρ σ H) : PureQ K mg F H Q pv := by
  cases pv with
  | sh d => exact fun G L v x r => h G L v x.ff (R.grow x) r
  | fr d =>
    intro L p x n o
    refine h F L (.ref p) (Same.refl F) (R.grow x) ⟨p, rfl, ?_, R.ext.dom p n, ?_, fun j d' q z => ?_, o⟩
    · cases e : F p with
      | none => rfl
      | some u => rw [R.fh p u e] at n; cases n
    · cases e : Y.P p with
      | none => rfl
      | some u => rw [(R.pin p u e).1] at n; cases n
    · obtain ⟨p', e', _, _, _, o'⟩ := R.slot j _ q
      rw [z] at e'; cases e'
      exact o'.there n
theorem PureQ.atom {Q : VK} (h : PureQ K mg F H Q (.sh d)) (s : Same F H) (r : Rep K mg F v d) : Q v H := h F H v (Ext.refl s) r
theorem same_upd {o : HO} (n : H p = none) : Same H (upd H p o) := fun b u q => by
  have hb : b ≠ p := ne_of_none q n
  exact (upd_ne hb).trans q
/-- a new list, tuple .. -/
theorem Ext.lay {o : HO} (s : Same F H) (n : H p = none) : Ext none F H F (upd H p o) :=
  ⟨Same.refl F, fun b u q => same_upd n b u (s b u q), fun b u _ q => same_upd n b u q, fun b q => by
    by_cases hb : b = p
    · subst hb; rw [upd_same] at q; cases q
    · rwa [upd_ne hb] at q, fun _ _ q => .inl q⟩
theorem Ext.layF {o : HO} (s : Same F H) (n : H p = none) : Ext none F H (upd F p o) (upd H p o) := by
  have nF : F p = none := s.free n
  refine ⟨same_put nF, fun b u q => ?_, (Ext.lay s n).old, (Ext.lay s n).dom, fun b hb q => ?_⟩
  · by_cases hb : b = p
    · subst hb; rw [upd_same] at q ⊢; exact q
    · rw [upd_ne hb] at q ⊢; exact s _ _ q
  · rw [upd_ne (fun z => hb (by rw [z]; exact n))]; exact .inl q
theorem PureQ.newL {Q : VK} {xs : List V} {ds : List D} (h : PureQ K mg F H Q (.fr (.lst ds))) (s : Same F H) (n : H p = none) (r : Reps K mg F xs ds) : Q (.ref p) (upd H p (.lst xs)) :=
  h _ p (Ext.lay s n) n ⟨xs, upd_same, r⟩
theorem PureQ.newT {Q : VK} {xs : List V} {ds : List D} (h : PureQ K mg F H Q (.sh (.tup ds))) (s : Same F H) (n : H p = none) (r : Reps K mg F xs ds) : Q (.ref p) (upd H p (.tup xs)) :=
  h _ _ (.ref p) (Ext.layF s n) (.tup upd_same (r.mono (same_put (s.free n))))
end
end VL
/-! V2: operations on data, each tied to the layer's rule -/
namespace VL
open PySem PySem.Spec PyProof.Rows L2

/-! ### flat data; data as the library's equality sees it -/
def flatD : D → Bool
  | .non => true
  | .bl _ => true
  | .int _ => true
  | .str _ => true
  | _ => false
def eqD : D → D → Bool
  | .non, .non => true
  | .bl a, .bl b => a == b
  | .bl a, .int b => (if a then 1 else 0) == b
  | .int a, .bl b => a == (if b then 1 else 0)
  | .int a, .int b => a == b
  | .str a, .str b => a == b
  | _, _ => false
mutual
def D.toP : D → Option PyData
  | .non => some .none
  | .bl b => some (.bool b)
  | .int i => some (.int i)
  | .str s => some (.str s)
  | .tup ds => (toPs ds).map .tuple
  | .lst ds => (toPs ds).map .list
  | .rol _ => none
  | .rot _ => none
  | .ty _ => none
  | .dic _ => none
  | .dit _ => none
  | .obj _ _ => none
def toPs : List D → Option (List PyData)
  | [] => some []
  | d :: ds => match d.toP, toPs ds with
    | some p, some ps => some (p :: ps)
    | _, _ => none
end
def inD (x : D) (ds : List D) : Bool := ds.any fun y => eqD y x
def keyOf : D → Option Key
  | .int i => some (.inl i)
  | .str s => some (.inr s)
  | _ => none
def getK {α : Type} (kvs : List (Key × α)) (k : Key) : Option α := (kvs.find? fun kv => decide (kv.1 = k)).map (·.2)
def getT {α : Type} (kvs : List (List Key × α)) (k : List Key) : Option α := (kvs.find? fun kv => decide (kv.1 = k)).map (·.2)
/-- a tuple of ints and texts, to be a key -/
def keysOf : List D → Option (List Key)
  | [] => some []
  | d :: r => match keyOf d, keysOf r with
    | some k, some ks => some (k :: ks)
    | _, _ => none
def keyTOf : D → Option (List Key)
  | .tup ds => keysOf ds
  | _ => none

section
variable {K : PySem.W.Frag} {mg : Str → Option Value} {F G H L : Hp} {v w : V} {d e : D}
theorem flat_val (r : Rep K mg F v d) (h : flatD d = true) : flatV v = true := by cases r <;> first | rfl | cases h
theorem flat_eq (r : Rep K mg F v d) (q : Rep K mg G w e) (h : flatD d = true) (h2 : flatD e = true) : eqV v w = eqD d e := by
  cases r <;> first | (cases h; done) | skip
  all_goals (cases q <;> first | (cases h2; done) | rfl)
theorem flat_all : ∀ {xs : List V} {ds : List D}, Reps K mg F xs ds → ds.all flatD = true → xs.all flatV = true
  | _, _, .nil, _ => rfl
  | _, _, .cons h r, q => by
    rw [List.all_cons, Bool.and_eq_true] at q ⊢
    exact ⟨flat_val h q.1, flat_all r q.2⟩
theorem flat_in (q : Rep K mg G w e) (h2 : flatD e = true) : ∀ {xs : List V} {ds : List D}, Reps K mg F xs ds → ds.all flatD = true → inV w xs = inD e ds
  | _, _, .nil, _ => rfl
  | _, _, .cons h r, z => by
    rw [List.all_cons, Bool.and_eq_true] at z
    have ih := flat_in q h2 r z.2
    unfold inV inD at ih ⊢
    rw [List.any_cons, List.any_cons, flat_eq h q z.1 h2, ih]
theorem RT.flat (r : RT K mg F H v d) (h : flatD d = true) : Rep K mg F v d := by
  cases r with
  | fz r => exact r
  | mu o => cases d <;> first | exact False.elim o | cases h
theorem RT.tupF {ds : List D} (r : RT K mg F H v (.tup ds)) : Rep K mg F v (.tup ds) := by
  cases r with
  | fz r => exact r
  | mu o => exact False.elim o
mutual
theorem Rep.dp : ∀ {v : V} {d : D} {p : PyData}, Rep K mg F v d → d.toP = some p → Dp K F v p
  | _, _, _, .non, h => by simp [D.toP] at h; subst h; exact .non
  | _, _, _, .bl b, h => by simp [D.toP] at h; subst h; exact .bl b
  | _, _, _, .int b, h => by simp [D.toP] at h; subst h; exact .int b
  | _, _, _, .str b, h => by simp [D.toP] at h; subst h; exact .str b
  | _, _, _, .tup q r, h => by
    simp [D.toP] at h
    obtain ⟨ps, h1, rfl⟩ := h
    exact .tup (SqT.of q) (Reps.dps r h1)
  | _, _, _, .lst q r, h => by
    simp [D.toP] at h
    obtain ⟨ps, h1, rfl⟩ := h
    exact .lst (SqL.of q) (Reps.dps r h1)
  | _, _, _, .rol q r, h => by simp [D.toP] at h
  | _, _, _, .rot q r, h => by simp [D.toP] at h
  | _, _, _, .ty _, h => by simp [D.toP] at h
  | _, _, _, .dic _ _, h => by simp [D.toP] at h
  | _, _, _, .dit _ _, h => by simp [D.toP] at h
  | _, _, _, .obj _ _ _, h => by simp [D.toP] at h
theorem Reps.dps : ∀ {v : List V} {d : List D} {p : List PyData}, Reps K mg F v d → toPs d = some p → DpAll K F v p
  | _, _, _, .nil, h => by simp [toPs] at h; subst h; exact .nil
  | _, d :: ds, p, .cons h r, q => by
    unfold toPs at q
    cases e1 : d.toP with
    | none => simp [e1] at q
    | some p1 =>
      cases e2 : toPs ds with
      | none => simp [e1, e2] at q
      | some ps =>
        simp [e1, e2] at q
        subst q
        exact .cons (Rep.dp h e1) (Reps.dps r e2)
end
theorem RepK.keys : ∀ {xs : List (Key × V)} {ds : List (Key × D)}, RepK K mg F xs ds → xs.map (·.1) = ds.map (·.1)
  | _, _, .nil => rfl
  | _, _, .cons _ r => by rw [List.map_cons, List.map_cons, r.keys]
theorem RepK.get {k : Key} : ∀ {xs : List (Key × V)} {ds : List (Key × D)} {d : D}, RepK K mg F xs ds → getK ds k = some d → ∃ x, valV xs k = some x ∧ Rep K mg F x d
  | _, _, _, .nil, h => by simp [getK] at h
  | _, _, d, .cons (k := k') (x := x) (d := d') (xs := xs) (ds := ds) h r, q => by
    unfold getK at q
    rw [List.find?_cons] at q
    by_cases e : k' = k
    · subst e
      simp at q
      subst q
      refine ⟨x, ?_, h⟩
      unfold valV
      simp
    · have e' : decide (k' = k) = false := decide_eq_false e
      simp only [e'] at q
      obtain ⟨y, h1, h2⟩ := r.get (k := k) (d := d) q
      refine ⟨y, ?_, h2⟩
      unfold valV at h1 ⊢
      simp only [List.find?_cons, e'] at h1 ⊢
      exact h1
theorem RepK.getN {k : Key} : ∀ {xs : List (Key × V)} {ds : List (Key × D)}, RepK K mg F xs ds → (valV xs k).isSome = (getK ds k).isSome
  | _, _, .nil => rfl
  | _, _, .cons (k := k') (x := x) (d := d') (xs := xs) (ds := ds) h r => by
    have ih := r.getN (k := k)
    unfold getK valV at ih ⊢
    simp only [List.find?_cons]
    by_cases e : k' = k
    · simp [e]
    · simp only [decide_eq_false e]
      exact ih
theorem RepT.keys : ∀ {xs : List (List Key × V)} {ds : List (List Key × D)}, RepT K mg F xs ds → xs.map (·.1) = ds.map (·.1)
  | _, _, .nil => rfl
  | _, _, .cons _ r => by rw [List.map_cons, List.map_cons, r.keys]
theorem RepT.get {k : List Key} : ∀ {xs : List (List Key × V)} {ds : List (List Key × D)} {d : D}, RepT K mg F xs ds → getT ds k = some d → ∃ x, valV xs k = some x ∧ Rep K mg F x d
  | _, _, _, .nil, h => by simp [getT] at h
  | _, _, d, .cons (k := k') (x := x) (d := d') (xs := xs) (ds := ds) h r, q => by
    unfold getT at q
    rw [List.find?_cons] at q
    by_cases e : k' = k
    · subst e
      simp at q
      subst q
      refine ⟨x, ?_, h⟩
      unfold valV
      simp
    · have e' : decide (k' = k) = false := decide_eq_false e
      simp only [e'] at q
      obtain ⟨y, h1, h2⟩ := r.get (k := k) (d := d) q
      refine ⟨y, ?_, h2⟩
      unfold valV at h1 ⊢
      simp only [List.find?_cons, e'] at h1 ⊢
      exact h1
theorem RepT.getN {k : List Key} : ∀ {xs : List (List Key × V)} {ds : List (List Key × D)}, RepT K mg F xs ds → (valV xs k).isSome = (getT ds k).isSome
  | _, _, .nil => rfl
  | _, _, .cons (k := k') (x := x) (d := d') (xs := xs) (ds := ds) h r => by
    have ih := r.getN (k := k)
    unfold getT valV at ih ⊢
    simp only [List.find?_cons]
    by_cases e : k' = k
    · simp [e]
    · simp only [decide_eq_false e]
      exact ih
end

/-! ### operations of two places -/
def opAdd : D → D → Option Pv
  | .int i, .int j => some (.sh (.int (i + j)))
  | .str a, .str b => if a.length + b.length ≤ sizeLine then some (.sh (.str (a ++ b))) else none
  | .tup a, .tup b => if a.length + b.length ≤ sizeLine then some (.sh (.tup (a ++ b))) else none
  | .lst a, .lst b => if a.length + b.length ≤ sizeLine then some (.fr (.lst (a ++ b))) else none
  | _, _ => none
def opSub : D → D → Option Pv
  | .int i, .int j => some (.sh (.int (i - j)))
  | _, _ => none
def mulOk (i j : Int) : Bool := decide (i.natAbs < 2 ^ 64 ∨ j.natAbs < 2 ^ 64)
def opMul : D → D → Option Pv
  | .int i, .int j => if mulOk i j then some (.sh (.int (i * j))) else none
  | .lst a, .int k => if k.natAbs < 2 ^ 63 ∧ a.length * k.toNat ≤ sizeLine then some (.fr (.lst (List.replicate k.toNat a).flatten)) else none
  | _, _ => none
def opFdiv : D → D → Option Pv
  | .int i, .int j => if 0 < j ∧ j < 1073741824 then some (.sh (.int (i / j))) else none
  | _, _ => none
def opMod : D → D → Option Pv
  | .int i, .int j => if 0 < j then some (.sh (.int (i % j))) else none
  | _, _ => none
def opPow : D → D → Option Pv
  | .int i, .int j => if 0 ≤ j ∧ j ≤ 1000000 ∧ i.natAbs < 2 ^ 64 then some (.sh (.int (i ^ j.toNat))) else none
  | _, _ => none
def opLt : D → D → Option Pv
  | .int i, .int j => some (.sh (.bl (decide (i < j))))
  | _, _ => none
def opLe : D → D → Option Pv
  | .int i, .int j => some (.sh (.bl (decide (i ≤ j))))
  | _, _ => none
def opGt : D → D → Option Pv
  | .int i, .int j => some (.sh (.bl (decide (j < i))))
  | _, _ => none
def opGe : D → D → Option Pv
  | .int i, .int j => some (.sh (.bl (decide (j ≤ i))))
  | _, _ => none
/-- == at any depth -/
def eqP (x y : D) : Option Bool := match x.toP, y.toP with
  | some p, some q => if SeqAt.shaped p && SeqAt.shaped q then some (PyData.eqv p q) else none
  | _, _ => none
def opEq (x y : D) : Option Pv := (eqP x y).map fun b => .sh (.bl b)
def opNe (x y : D) : Option Pv := (eqP x y).map fun b => .sh (.bl (!b))
def inP (x : D) : D → Option Bool
  | .lst ds => if flatD x && ds.all flatD then some (inD x ds) else
    match x.toP, toPs ds with
    | some p, some qs => if SeqAt.shaped p && SeqAt.shaped (.list qs) then some (qs.any fun z => PyData.eqv z p) else none
    | _, _ => none
  | .tup ds => if flatD x && ds.all flatD then some (inD x ds) else none
  | .rot ds => if flatD x && ds.all flatD then some (inD x ds) else none
  | .dic ks => (keyOf x).map fun k => (getK ks k).isSome
  | .dit ks => (keyTOf x).map fun k => (getT ks k).isSome
  | _ => none
def opIn (x y : D) : Option Pv := (inP x y).map fun b => .sh (.bl b)
def opNotIn (x y : D) : Option Pv := (inP x y).map fun b => .sh (.bl (!b))
def isNon : D → Bool
  | .non => true
  | _ => false
def isP : D → D → Option Bool
  | x, .non => some (isNon x)
  | .bl a, .bl b => some (decide (a = b))
  | _, _ => none
def opIs (x y : D) : Option Pv := (isP x y).map fun b => .sh (.bl b)
def opIsNot (x y : D) : Option Pv := (isP x y).map fun b => .sh (.bl (!b))
def opNeg : D → Option Pv
  | .int i => some (.sh (.int (-i)))
  | _ => none
def opIx : D → D → Option Pv
  | .lst ds, .int i => (atI ds i).map .sh
  | .tup ds, .int i => (atI ds i).map .sh
  | .rol ds, .int i => (atI ds i).map .sh
  | .rot ds, .int i => (atI ds i).map .sh
  | .dic ks, x => (keyOf x).bind fun k => (getK ks k).map .sh
  | .dit ks, x => (keyTOf x).bind fun k => (getT ks k).map .sh
  | _, _ => none

section
variable (K : PySem.W.Frag) (mg : Str → Option Value)
def Op2 (r : R2) (f : D → D → Option Pv) : Prop := ∀ (F H : Hp) (x y : V) (a b : D) (pv : Pv) (Q : VK), Same F H → RT K mg F H x a → RT K mg F H y b → f a b = some pv → PureQ K mg F H Q pv → r x y H Q
def Op1 (r : V → Hp → VK → Prop) (f : D → Option Pv) : Prop := ∀ (F H : Hp) (x : V) (a : D) (pv : Pv) (Q : VK), Same F H → RT K mg F H x a → f a = some pv → PureQ K mg F H Q pv → r x H Q
end
section
variable {K : PySem.W.Frag} {mg : Str → Option Value} {X : Cx}
abbrev rAddV (K : PySem.W.Frag) : R2 := fun x y H Q => rI0 (fun i j => .int (i + j)) x y H Q ∨ ((fun x y H Q => ∃ i j, x = .str i ∧ y = .str j ∧ i.length + j.length ≤ sizeLine ∧ Q (.str (i ++ j)) H : R2) x y H Q ∨ (rCatA K x y H Q ∨ rCat x y H Q))
theorem or_add : OpR X (binaryOp .Add) (rAddV X.K) := op_add.or (op_add_str.or (op_catA.or op_cat))
theorem add_add : Op2 K mg (rAddV K) opAdd := by
  intro F H x y a b pv Q s ra rb e q
  unfold opAdd at e
  split at e
  · cases e
    exact .inl ⟨_, _, ra.int, rb.int, q.atom s (.int _)⟩
  · split at e
    · rename_i hl
      cases e
      exact .inr (.inl ⟨_, _, ra.str, rb.str, hl, q.atom s (.str _)⟩)
    · cases e
  · split at e
    · rename_i hl
      cases e
      obtain ⟨p, xs, rfl, h1, r1⟩ := ra.tup s
      obtain ⟨p2, ys, rfl, h2, r2⟩ := rb.tup s
      refine .inr (.inr (.inl ⟨p, p2, xs, ys, rfl, rfl, SqT.of h1, SqT.of h2, by rw [r1.len, r2.len]; exact hl, fun z => ?_, fun _ z => ?_, fun _ _ t nt => q.newT s nt (r1.app r2)⟩))
      · subst z
        cases r1
        exact q.atom s rb.tupF
      · subst z
        cases r2
        rw [List.append_nil] at q
        exact q.atom s ra.tupF
    · cases e
  · split at e
    · rename_i hl
      cases e
      obtain ⟨p, xs, rfl, h1, r1⟩ := ra.lst s
      obtain ⟨p2, ys, rfl, h2, r2⟩ := rb.lst s
      exact .inr (.inr (.inr ⟨p, p2, xs, ys, rfl, rfl, h1, h2, by rw [r1.len, r2.len]; exact hl, fun t nt => q.newL s nt (r1.app r2)⟩))
    · cases e
  · cases e
theorem sub_sub : Op2 K mg (rI0 fun i j => .int (i - j)) opSub := by
  intro F H x y a b pv Q s ra rb e q
  unfold opSub at e
  split at e
  · cases e
    exact ⟨_, _, ra.int, rb.int, q.atom s (.int _)⟩
  · cases e
theorem mulOk_c {i j : Int} (h : mulOk i j = true) : CMul i j := by
  unfold mulOk at h
  unfold CMul
  have := of_decide_eq_true h
  omega
abbrev rMulV : R2 := fun x y H Q => rI CMul (fun i j => .int (i * j)) x y H Q ∨ rRep x y H Q
theorem or_mul : OpR X (binaryOp .Mult) rMulV := op_mul.or op_rep
theorem mul_mul : Op2 K mg rMulV opMul := by
  intro F H x y a b pv Q s ra rb e q
  unfold opMul at e
  split at e
  · split at e
    · rename_i hm
      cases e
      exact .inl ⟨_, _, ra.int, rb.int, mulOk_c hm, q.atom s (.int _)⟩
    · cases e
  · split at e
    · rename_i hm
      cases e
      obtain ⟨p, xs, rfl, h1, r1⟩ := ra.lst s
      have e2 := rb.int
      subst e2
      exact .inr ⟨p, _, xs, rfl, rfl, h1, by omega, by omega, by rw [r1.len]; exact hm.2, fun t nt => q.newL s nt (r1.rep _)⟩
    · cases e
  · cases e
theorem fdiv_fdiv : Op2 K mg (rI CDiv fun i j => .int (i / j)) opFdiv := by
  intro F H x y a b pv Q s ra rb e q
  unfold opFdiv at e
  split at e
  · split at e
    · rename_i hm
      cases e
      exact ⟨_, _, ra.int, rb.int, hm, q.atom s (.int _)⟩
    · cases e
  · cases e
theorem mod_mod : Op2 K mg (rI (fun _ j => 0 < j) fun i j => .int (i % j)) opMod := by
  intro F H x y a b pv Q s ra rb e q
  unfold opMod at e
  split at e
  · split at e
    · rename_i hm
      cases e
      exact ⟨_, _, ra.int, rb.int, hm, q.atom s (.int _)⟩
    · cases e
  · cases e
theorem pow_pow : Op2 K mg (rI CPow fun i j => .int (i ^ j.toNat)) opPow := by
  intro F H x y a b pv Q s ra rb e q
  unfold opPow at e
  split at e
  · split at e
    · rename_i hm
      cases e
      exact ⟨_, _, ra.int, rb.int, hm, q.atom s (.int _)⟩
    · cases e
  · cases e
theorem lt_lt : Op2 K mg (rI0 fun i j => .bl (decide (i < j))) opLt := by
  intro F H x y a b pv Q s ra rb e q
  unfold opLt at e
  split at e
  · cases e
    exact ⟨_, _, ra.int, rb.int, q.atom s (.bl _)⟩
  · cases e
theorem le_le : Op2 K mg (rI0 fun i j => .bl (decide (i ≤ j))) opLe := by
  intro F H x y a b pv Q s ra rb e q
  unfold opLe at e
  split at e
  · cases e
    exact ⟨_, _, ra.int, rb.int, q.atom s (.bl _)⟩
  · cases e
theorem gt_gt : Op2 K mg (rI0 fun i j => .bl (decide (j < i))) opGt := by
  intro F H x y a b pv Q s ra rb e q
  unfold opGt at e
  split at e
  · cases e
    exact ⟨_, _, ra.int, rb.int, q.atom s (.bl _)⟩
  · cases e
theorem ge_ge : Op2 K mg (rI0 fun i j => .bl (decide (j ≤ i))) opGe := by
  intro F H x y a b pv Q s ra rb e q
  unfold opGe at e
  split at e
  · cases e
    exact ⟨_, _, ra.int, rb.int, q.atom s (.bl _)⟩
  · cases e
theorem eqP_dp {F H : Hp} {x y : V} {a b : D} {k : Bool} (s : Same F H) (ra : RT K mg F H x a) (rb : RT K mg F H y b) (e : eqP a b = some k) :
    ∃ p q, Dp K H x p ∧ Dp K H y q ∧ SeqAt.shaped p = true ∧ SeqAt.shaped q = true ∧ PyData.eqv p q = k := by
  unfold eqP at e
  split at e
  · rename_i p q h1 h2
    split at e
    · rename_i hs
      cases e
      rw [Bool.and_eq_true] at hs
      exact ⟨p, q, (ra.rep s).dp h1, (rb.rep s).dp h2, hs.1, hs.2, rfl⟩
    · cases e
  · cases e
theorem eq_eq : Op2 K mg (rEqD K) opEq := by
  intro F H x y a b pv Q s ra rb e q
  unfold opEq at e
  obtain ⟨k, h, e⟩ := Option.map_eq_some_iff.mp e
  subst e
  obtain ⟨p, z, h1, h2, h3, h4, rfl⟩ := eqP_dp s ra rb h
  exact ⟨p, z, h1, h2, h3, h4, q.atom s (.bl _)⟩
theorem ne_ne : Op2 K mg (rNeD K) opNe := by
  intro F H x y a b pv Q s ra rb e q
  unfold opNe at e
  obtain ⟨k, h, e⟩ := Option.map_eq_some_iff.mp e
  subst e
  obtain ⟨p, z, h1, h2, h3, h4, rfl⟩ := eqP_dp s ra rb h
  exact ⟨p, z, h1, h2, h3, h4, q.atom s (.bl _)⟩
/-- in, by its answer -/
def rInA (K : PySem.W.Frag) (n : Bool) : V → V → Hp → Bool → Prop := fun x y H k =>
  (∃ p xs, y = .ref p ∧ (SqL K H p xs ∨ SqT K H p xs) ∧ flatV x = true ∧ xs.all flatV = true ∧ inV x xs = k) ∨
  (∃ d ds, Dp K H x d ∧ Dp K H y (.list ds) ∧ SeqAt.shaped d = true ∧ SeqAt.shaped (.list ds) = true ∧ (ds.any fun z => PyData.eqv z d) = k) ∨
  ∃ a o, y = .ref a ∧ DGet H a x o ∧ o.isSome = k
theorem or_in (hu : X.A.units + 65 < cLine) : OpR X (compareOp .In) (fun x y H Q => ∃ k, rInA X.K false x y H k ∧ Q (.bl k) H) := by
  intro pins s σ H x y v u Q I rx ry h
  obtain ⟨k, h | h | h, q⟩ := h
  · obtain ⟨p, xs, e, h1, h2, h3, rfl⟩ := h
    exact op_in_seq pins s σ H x y v u Q I rx ry ⟨p, xs, e, h1, h2, h3, q⟩
  · obtain ⟨d, ds, h1, h2, h3, h4, rfl⟩ := h
    exact op_inD hu pins s σ H x y v u Q I rx ry ⟨d, ds, h1, h2, h3, h4, q⟩
  · obtain ⟨a, o, rfl, g, rfl⟩ := h
    obtain rfl : u = Value.ref a := ry
    exact d_in (by omega) I g rx fun s3 J => ⟨.bl o.isSome, H, J, rfl, q⟩
theorem or_notin (hu : X.A.units + 65 < cLine) : OpR X (compareOp .NotIn) (fun x y H Q => ∃ k, rInA X.K false x y H k ∧ Q (.bl (!k)) H) := by
  intro pins s σ H x y v u Q I rx ry h
  obtain ⟨k, h | h | h, q⟩ := h
  · obtain ⟨p, xs, e, h1, h2, h3, rfl⟩ := h
    exact op_notIn_seq pins s σ H x y v u Q I rx ry ⟨p, xs, e, h1, h2, h3, q⟩
  · obtain ⟨d, ds, h1, h2, h3, h4, rfl⟩ := h
    exact op_notInD hu pins s σ H x y v u Q I rx ry ⟨d, ds, h1, h2, h3, h4, q⟩
  · obtain ⟨a, o, rfl, g, rfl⟩ := h
    obtain rfl : u = Value.ref a := ry
    exact d_notIn (by omega) I g rx fun s3 J => ⟨.bl (!o.isSome), H, J, rfl, q⟩
theorem keyOf_rep {F H : Hp} {x : V} {d : D} {k : Key} (r : RT K mg F H x d) (e : keyOf d = some k) : x = kV k := by
  unfold keyOf at e
  split at e
  · cases e; exact r.int
  · cases e; exact r.str
  · cases e
theorem keysOf_rep {F : Hp} : ∀ {xs : List V} {ds : List D} {ks : List Key}, Reps K mg F xs ds → keysOf ds = some ks → xs = ks.map kV
  | _, _, ks, .nil, e => by cases e; rfl
  | _, _, ks, .cons h r, e => by
    unfold keysOf at e
    split at e
    · rename_i k ks' h1 h2
      cases e
      rw [List.map_cons, ← keysOf_rep r h2, keyOf_rep (H := F) (.fz h) h1]
    · cases e
theorem keyTOf_rep {F H : Hp} {x : V} {d : D} {ks : List Key} (s : Same F H) (r : RT K mg F H x d) (e : keyTOf d = some ks) : ∃ b, x = .ref b ∧ H b = some (.tup (ks.map kV)) := by
  unfold keyTOf at e
  split at e
  · obtain ⟨b, xs, rfl, h, z⟩ := r.tup s
    rw [keysOf_rep z e] at h
    exact ⟨b, rfl, h⟩
  · cases e
theorem inP_in {F H : Hp} {x y : V} {a b : D} {k : Bool} (s : Same F H) (ra : RT K mg F H x a) (rb : RT K mg F H y b) (e : inP a b = some k) : rInA K false x y H k := by
  unfold inP at e
  split at e
  · obtain ⟨p, xs, rfl, h1, r1⟩ := rb.lst s
    split at e
    · rename_i hf
      cases e
      rw [Bool.and_eq_true] at hf
      exact .inl ⟨p, xs, rfl, .inl (SqL.of h1), flat_val (ra.flat hf.1) hf.1, flat_all r1 hf.2, flat_in (ra.flat hf.1) hf.1 r1 hf.2⟩
    · split at e
      · rename_i p1 qs h3 h4
        split at e
        · rename_i hs
          cases e
          rw [Bool.and_eq_true] at hs
          refine .inr (.inl ⟨p1, qs, (ra.rep s).dp h3, ?_, hs.1, hs.2, rfl⟩)
          exact (Rep.lst h1 (r1.mono s)).dp (by simp [D.toP, h4])
        · cases e
      · cases e
  · obtain ⟨p, xs, rfl, h1, r1⟩ := rb.tup s
    split at e
    · rename_i hf
      cases e
      rw [Bool.and_eq_true] at hf
      exact .inl ⟨p, xs, rfl, .inr (SqT.of h1), flat_val (ra.flat hf.1) hf.1, flat_all r1 hf.2, flat_in (ra.flat hf.1) hf.1 r1 hf.2⟩
    · cases e
  · obtain ⟨p, xs, rfl, h1, r1⟩ := rb.rot s
    split at e
    · rename_i hf
      cases e
      rw [Bool.and_eq_true] at hf
      exact .inl ⟨p, xs, rfl, .inr h1, flat_val (ra.flat hf.1) hf.1, flat_all r1 hf.2, flat_in (ra.flat hf.1) hf.1 r1 hf.2⟩
    · cases e
  · obtain ⟨kk, h, e⟩ := Option.map_eq_some_iff.mp e
    subst e
    obtain ⟨p, kvs, rfl, h1, r1⟩ := rb.dic s
    rw [keyOf_rep ra h]
    exact .inr (.inr ⟨p, _, rfl, DGet.k h1, r1.getN⟩)
  · obtain ⟨kk, h, e⟩ := Option.map_eq_some_iff.mp e
    subst e
    obtain ⟨p, kvs, rfl, h1, r1⟩ := rb.dit s
    obtain ⟨b, rfl, hb⟩ := keyTOf_rep s ra h
    exact .inr (.inr ⟨p, _, rfl, DGet.t h1 hb, r1.getN⟩)
  · cases e
theorem in_in : Op2 K mg (fun x y H Q => ∃ k, rInA K false x y H k ∧ Q (.bl k) H) opIn := by
  intro F H x y a b pv Q s ra rb e q
  obtain ⟨k, h, e⟩ := Option.map_eq_some_iff.mp e
  subst e
  exact ⟨k, inP_in s ra rb h, q.atom s (.bl _)⟩
theorem notin_notin : Op2 K mg (fun x y H Q => ∃ k, rInA K false x y H k ∧ Q (.bl (!k)) H) opNotIn := by
  intro F H x y a b pv Q s ra rb e q
  obtain ⟨k, h, e⟩ := Option.map_eq_some_iff.mp e
  subst e
  exact ⟨k, inP_in s ra rb h, q.atom s (.bl _)⟩
def rIsA : V → V → Bool → Prop := fun x y k => (y = .non ∧ decide (x = .non) = k) ∨ ∃ a b : Bool, x = .bl a ∧ y = .bl b ∧ decide (a = b) = k
theorem or_is : OpR X (compareOp .Is) (fun x y H Q => ∃ k, rIsA x y k ∧ Q (.bl k) H) := by
  intro pins s σ H x y v u Q I rx ry h
  obtain ⟨k, h | h, q⟩ := h
  · obtain ⟨h1, rfl⟩ := h
    exact op_isN pins s σ H x y v u Q I rx ry ⟨h1, q⟩
  · obtain ⟨a, b, h1, h2, rfl⟩ := h
    exact op_isBl pins s σ H x y v u Q I rx ry ⟨a, b, h1, h2, q⟩
theorem or_isnot : OpR X (compareOp .IsNot) (fun x y H Q => ∃ k, rIsA x y k ∧ Q (.bl (!k)) H) := by
  intro pins s σ H x y v u Q I rx ry h
  obtain ⟨k, h | h, q⟩ := h
  · obtain ⟨h1, rfl⟩ := h
    exact op_notN pins s σ H x y v u Q I rx ry ⟨h1, q⟩
  · obtain ⟨a, b, h1, h2, rfl⟩ := h
    exact op_notBl pins s σ H x y v u Q I rx ry ⟨a, b, h1, h2, q⟩
theorem isNon_rep {F H : Hp} {x : V} {d : D} (r : RT K mg F H x d) : decide (x = .non) = isNon d := by
  cases r with
  | fz r => cases r <;> rfl
  | mu o => cases d <;> first | rfl | exact False.elim o
theorem isP_is {F H : Hp} {x y : V} {a b : D} {k : Bool} (ra : RT K mg F H x a) (rb : RT K mg F H y b) (e : isP a b = some k) : rIsA x y k := by
  unfold isP at e
  split at e
  · cases e
    exact .inl ⟨rb.non, isNon_rep ra⟩
  · cases e
    exact .inr ⟨_, _, ra.bl, rb.bl, rfl⟩
  · cases e
theorem is_is : Op2 K mg (fun x y H Q => ∃ k, rIsA x y k ∧ Q (.bl k) H) opIs := by
  intro F H x y a b pv Q s ra rb e q
  obtain ⟨k, h, e⟩ := Option.map_eq_some_iff.mp e
  subst e
  exact ⟨k, isP_is ra rb h, q.atom s (.bl _)⟩
theorem isnot_isnot : Op2 K mg (fun x y H Q => ∃ k, rIsA x y k ∧ Q (.bl (!k)) H) opIsNot := by
  intro F H x y a b pv Q s ra rb e q
  obtain ⟨k, h, e⟩ := Option.map_eq_some_iff.mp e
  subst e
  exact ⟨k, isP_is ra rb h, q.atom s (.bl _)⟩
theorem neg_neg' : Op1 K mg (rU fun i => .int (-i)) opNeg := by
  intro F H x a pv Q s ra e q
  unfold opNeg at e
  split at e
  · cases e
    exact ⟨_, ra.int, q.atom s (.int _)⟩
  · cases e
/-- x[i] -/
abbrev rIxD : R2 := fun x y H Q => ∃ a v, x = .ref a ∧ DGet H a y (some v) ∧ Q v H
theorem ix_dic (hu : X.A.units + 1 < cLine) : IxR X rIxD := by
  intro value slice pins s σ H x y v u Q I rx ry h hs
  obtain ⟨a, z, rfl, g, q⟩ := h
  obtain rfl : v = Value.ref a := rx
  exact tail_any (dict_typeIs I g) PySem.F.slot_dict_getitem.lookup (d_getItem hu I g ry fun w' s3 J rw' => ⟨z, H, J, rw', q⟩) hs
abbrev rIxV (K : PySem.W.Frag) : R2 := fun x y H Q => rIxL K x y H Q ∨ (rIxT K x y H Q ∨ rIxD x y H Q)
theorem or_ix (hu : X.A.units + 1 < cLine) : IxR X (rIxV X.K) := ix_list.or (ix_tup.or (ix_dic hu))
theorem Reps.atI {F : Hp} {xs : List V} {ds : List D} {i : Int} {d : D} (r : Reps K mg F xs ds) (e : atI ds i = some d) : ∃ x, L2.atI xs i = some x ∧ Rep K mg F x d := by
  unfold L2.atI at e ⊢
  rw [r.len]
  obtain ⟨j, h1, h2⟩ := Option.bind_eq_some_iff.mp e
  rw [h1]
  exact r.get h2
theorem ix_ix : Op2 K mg (rIxV K) opIx := by
  intro F H x y a b pv Q s ra rb e q
  unfold opIx at e
  split at e
  · obtain ⟨d, h, e⟩ := Option.map_eq_some_iff.mp e
    subst e
    obtain ⟨p, xs, rfl, h1, r1⟩ := ra.lst s
    obtain ⟨z, h2, h3⟩ := r1.atI h
    exact .inl ⟨p, xs, _, z, rfl, rb.int, SqL.of h1, h2, q.atom s h3⟩
  · obtain ⟨d, h, e⟩ := Option.map_eq_some_iff.mp e
    subst e
    obtain ⟨p, xs, rfl, h1, r1⟩ := ra.tup s
    obtain ⟨z, h2, h3⟩ := r1.atI h
    exact .inr (.inl ⟨p, xs, _, z, rfl, rb.int, SqT.of h1, h2, q.atom s h3⟩)
  · obtain ⟨d, h, e⟩ := Option.map_eq_some_iff.mp e
    subst e
    obtain ⟨p, xs, rfl, h1, r1⟩ := ra.rol s
    obtain ⟨z, h2, h3⟩ := r1.atI h
    exact .inl ⟨p, xs, _, z, rfl, rb.int, h1, h2, q.atom s h3⟩
  · obtain ⟨d, h, e⟩ := Option.map_eq_some_iff.mp e
    subst e
    obtain ⟨p, xs, rfl, h1, r1⟩ := ra.rot s
    obtain ⟨z, h2, h3⟩ := r1.atI h
    exact .inr (.inl ⟨p, xs, _, z, rfl, rb.int, h1, h2, q.atom s h3⟩)
  · obtain ⟨k, h0, h⟩ := Option.bind_eq_some_iff.mp e
    obtain ⟨d, h7, h8⟩ := Option.map_eq_some_iff.mp h
    subst h8
    obtain ⟨p, kvs, rfl, h1, r1⟩ := ra.dic s
    obtain ⟨z, h2, h3⟩ := r1.get h7
    refine .inr (.inr ⟨p, z, rfl, ?_, q.atom s h3⟩)
    rw [keyOf_rep rb h0, ← h2]
    exact DGet.k h1
  · obtain ⟨k, h0, h⟩ := Option.bind_eq_some_iff.mp e
    obtain ⟨d, h7, h8⟩ := Option.map_eq_some_iff.mp h
    subst h8
    obtain ⟨p, kvs, rfl, h1, r1⟩ := ra.dit s
    obtain ⟨z, h2, h3⟩ := r1.get h7
    obtain ⟨b, rfl, hb⟩ := keyTOf_rep s rb h0
    refine .inr (.inr ⟨p, z, rfl, ?_, q.atom s h3⟩)
    rw [← h2]
    exact DGet.t h1 hb
  · cases e
end
end VL
/-! V3: expressions as functions of the frame's slots -/
namespace VL
open PySem PySem.Spec PyProof.Rows L2

/-- where code runs: the layer's context, and what is wished of an error that leaves it -/
structure Ctx where
  X : Cx
  W : WX
structure Ctx.Ok (Z : Ctx) (k : Nat) : Prop where
  room : Room k Z.X.A
  calm : Z.X.calm = true
  tk : Takes Z.X Z.W
  nd : Z.X.N.Nodup
theorem Ctx.Ok.u65 {Z : Ctx} {k : Nat} (z : Z.Ok k) : Z.X.A.units + 65 < cLine := by have := z.room.un; omega
theorem Ctx.Ok.u1 {Z : Ctx} {k : Nat} (z : Z.Ok k) : Z.X.A.units + 1 < cLine := by have := z.room.un; omega
theorem Ctx.Ok.u64 {Z : Ctx} {k : Nat} (z : Z.Ok k) : Z.X.A.units + 64 < cLine := by have := z.room.un; omega

abbrev Ctx.R (Z : Ctx) (Y : Ent) (F : Hp) (ρ : Env) (σ : L2.St) (H : Hp) : Prop := Rel Z.X.K Z.X.mg Y F ρ σ H
/-- what an error of the class named c with the field w must meet -/
def ExnQ (Z : Ctx) (Y : Ent) (σ : L2.St) (F : Hp) (c : Str) (w : D) (ρ : Env) : Prop :=
  ∀ G L C dd fs x, Same F G → Z.R Y G ρ σ L → Z.X.mg c = some (.ref C) → L dd = some (.xd fs) → fs.lookup ("what" : Str) = some x → Rep Z.X.K Z.X.mg G x w → Z.W (.ref C) (some dd) σ L
/-- what is wanted behind code that gives an outcome -/
def Post {α : Type} (B : Hp → α → Env → Prop) (Z : Ctx) (Y : Ent) (σ : L2.St) (F : Hp) : OutG α → Prop
  | .ok v ρ => B F v ρ
  | .exn c w ρ => ExnQ Z Y σ F c w ρ
  | .bad => False
abbrev BV (Z : Ctx) (Y : Ent) (σ : L2.St) (Q : VK) : Hp → Vl → Env → Prop := fun F vl ρ => OkQ Z.X.K Z.X.mg Y F σ Q vl ρ
abbrev BT (Z : Ctx) (Y : Ent) (σ : L2.St) (Q : Bool → Hp → Prop) : Hp → Bool → Env → Prop := fun F b ρ => ∀ G L, Same F G → Z.R Y G ρ σ L → Q b L
/-- values that are kept: frozen ones, and what stands in slots -/
def AOk (Z : Ctx) (F : Hp) (σ : L2.St) (v : V) : Vl → Prop
  | .sh d => Rep Z.X.K Z.X.mg F v d
  | .fr _ => False
  | .al i => σ[i]? = some (some v)
inductive AOks (Z : Ctx) (F : Hp) (σ : L2.St) : List V → List Vl → Prop
  | nil : AOks Z F σ [] []
  | cons {v : V} {vl : Vl} {vs : List V} {vls : List Vl} : AOk Z F σ v vl → AOks Z F σ vs vls → AOks Z F σ (v :: vs) (vl :: vls)
abbrev BA (Z : Ctx) (Y : Ent) (σ : L2.St) (Q : List V → Hp → Prop) : Hp → List Vl → Env → Prop := fun F vls ρ => ∀ G L vs, Same F G → Z.R Y G ρ σ L → AOks Z G σ vs vls → Q vs L

def obind {α β : Type} (o : OutG α) (k : α → Env → OutG β) : OutG β := match o with
  | .ok v ρ => k v ρ
  | .exn c w ρ => .exn c w ρ
  | .bad => .bad
@[simp] theorem obind_ok {α β : Type} (v : α) (ρ : Env) (k : α → Env → OutG β) : obind (.ok v ρ) k = k v ρ := rfl
@[simp] theorem obind_exn {α β : Type} (c : Str) (w : D) (ρ : Env) (k : α → Env → OutG β) : obind (.exn c w ρ : OutG α) k = .exn c w ρ := rfl
@[simp] theorem obind_bad {α β : Type} (k : α → Env → OutG β) : obind (.bad : OutG α) k = .bad := rfl
theorem ExnQ.mono {Z : Ctx} {Y : Ent} {σ : L2.St} {F G : Hp} {c : Str} {w : D} {ρ : Env} (h : ExnQ Z Y σ F c w ρ) (s : Same F G) : ExnQ Z Y σ G c w ρ :=
  fun G2 L C dd fs x s2 => h G2 L C dd fs x (s.trans s2)
theorem Post.mono {α : Type} {B : Hp → α → Env → Prop} {Z : Ctx} {Y : Ent} {σ : L2.St} {F G : Hp} {o : OutG α} (h : Post B Z Y σ F o) (s : Same F G) (hB : ∀ v ρ, B F v ρ → B G v ρ) : Post B Z Y σ G o := by
  cases o with
  | ok v ρ => exact hB v ρ h
  | exn c w ρ => exact ExnQ.mono h s
  | bad => exact h
theorem post_bind {α β : Type} {A : Hp → α → Env → Prop} {B : Hp → β → Env → Prop} {Z : Ctx} {Y : Ent} {σ : L2.St} {F : Hp} {o : OutG α} {k : α → Env → OutG β} (P : Post B Z Y σ F (obind o k))
    (h : ∀ v ρ, o = .ok v ρ → Post B Z Y σ F (k v ρ) → A F v ρ) : Post A Z Y σ F o := by
  cases o with
  | ok v ρ => exact h v ρ rfl P
  | exn c w ρ => exact P
  | bad => exact P
theorem bv_mono {Z : Ctx} {Y : Ent} {σ : L2.St} {Q : VK} {F G : Hp} (s : Same F G) (v : Vl) (ρ : Env) (h : BV Z Y σ Q F v ρ) : BV Z Y σ Q G v ρ := OkQ.mono h s
theorem bt_mono {Z : Ctx} {Y : Ent} {σ : L2.St} {Q : Bool → Hp → Prop} {F G : Hp} (s : Same F G) (v : Bool) (ρ : Env) (h : BT Z Y σ Q F v ρ) : BT Z Y σ Q G v ρ := fun G2 L s2 => h G2 L (s.trans s2)
theorem ba_mono {Z : Ctx} {Y : Ent} {σ : L2.St} {Q : List V → Hp → Prop} {F G : Hp} (s : Same F G) (v : List Vl) (ρ : Env) (h : BA Z Y σ Q F v ρ) : BA Z Y σ Q G v ρ := fun G2 L vs s2 => h G2 L vs (s.trans s2)

def retP (o : Option Pv) (ρ : Env) : Out := match o with
  | some p => .ok p.vl ρ
  | none => .bad
@[simp] theorem retP_some (p : Pv) (ρ : Env) : retP (some p) ρ = .ok p.vl ρ := rfl
@[simp] theorem retP_none (ρ : Env) : retP none ρ = .bad := rfl

/-! ### judgements -/
def RE (Z : Ctx) (t : TE) (f : SE) : Prop := ∀ Y F ρ σ H Q, Z.R Y F ρ σ H → Post (BV Z Y σ Q) Z Y σ F (f ρ) → t σ H Q
abbrev STst := Env → OutG Bool
abbrev SA := Env → OutG (List Vl)
def RT' (Z : Ctx) (t : TT) (g : STst) : Prop := ∀ Y F ρ σ H Q, Z.R Y F ρ σ H → Post (BT Z Y σ Q) Z Y σ F (g ρ) → t σ H Q
def RA (Z : Ctx) (t : TA) (g : SA) : Prop := ∀ Y F ρ σ H Q, Z.R Y F ρ σ H → Post (BA Z Y σ Q) Z Y σ F (g ρ) → t σ H Q
/-- the expression e gives what f says -/
def VE (Z : Ctx) (e : Expr) (f : SE) : Prop := ∃ t, PE Z.X e t ∧ RE Z t f
def VT (Z : Ctx) (e : Expr) (g : STst) : Prop := ∃ t, PT Z.X e t ∧ RT' Z t g
def VW (Z : Ctx) (e : Expr) (g : STst) : Prop := ∃ t, PW Z.X e t ∧ RT' Z t g
/-- a comparison: as a value and as a test -/
def VC (Z : Ctx) (e : Expr) (f : SE) : Prop := ∃ t, PE Z.X e t ∧ PT Z.X e (tTest t) ∧ RE Z t f
def VA (Z : Ctx) (es : List Expr) (g : SA) : Prop := ∃ t, PA Z.X es t ∧ RA Z t g
theorem VC.ve {Z : Ctx} {e : Expr} {f : SE} (h : VC Z e f) : VE Z e f := let ⟨t, h1, _, h2⟩ := h; ⟨t, h1, h2⟩

section
variable {Z : Ctx} {Y : Ent} {F G H L : Hp} {ρ ρ' : Env} {σ : L2.St} {v : V} {vl : Vl} {d : D}
/-- a kept value -/
theorem keeps (R : Z.R Y F ρ σ H) (h : VOk Z.X.K Z.X.mg Y F ρ σ H v vl) : ∃ G, Same F G ∧ Z.R Y G ρ σ H ∧ AOk Z G σ v (frz vl) := by
  cases vl with
  | sh d => exact ⟨F, Same.refl F, R, h⟩
  | al i => exact ⟨F, Same.refl F, R, h⟩
  | fr d => obtain ⟨G, s, R2, r⟩ := R.froze h; exact ⟨G, s, R2, r⟩
theorem AOk.mono (h : AOk Z F σ v vl) (s : Same F G) : AOk Z G σ v vl := by
  cases vl with
  | sh d => exact Rep.mono s h
  | al i => exact h
  | fr d => exact h.elim
theorem AOk.vok (h : AOk Z F σ v vl) : VOk Z.X.K Z.X.mg Y F ρ σ H v vl := by
  cases vl with
  | sh d => exact h
  | al i => exact h
  | fr d => exact h.elim
theorem AOks.mono {vs : List V} {vls : List Vl} (h : AOks Z F σ vs vls) (s : Same F G) : AOks Z G σ vs vls := by
  induction h with
  | nil => exact .nil
  | cons a _ ih => exact .cons (a.mono s) ih

/-! ### names and constants -/
def vName (i : Nat) : SE := fun ρ => match ρ[i]? with
  | some (.sh d) => .ok (.sh d) ρ
  | some (.own _) => .ok (.al i) ρ
  | some (.par _) => .ok (.al i) ρ
  | _ => .bad
def vC (d : D) : SE := fun ρ => .ok (.sh d) ρ
theorem re_name (i : Nat) : RE Z (tVar i) (vName i) := by
  intro Y F ρ σ H Q R P
  unfold vName at P
  split at P
  · rename_i d hs
    obtain ⟨v, e, r⟩ := R.slot i _ hs
    exact ⟨v, e, P F H v (Same.refl F) R r⟩
  · rename_i d hs
    obtain ⟨p, e, r⟩ := R.slot i _ hs
    exact ⟨.ref p, e, P F H _ (Same.refl F) R e⟩
  · rename_i d hs
    obtain ⟨p, e, r⟩ := R.slot i _ hs
    exact ⟨.ref p, e, P F H _ (Same.refl F) R e⟩
  · exact P.elim
theorem re_const {v : V} (h : ∀ F, Rep Z.X.K Z.X.mg F v d) : RE Z (tC v) (vC d) := fun Y F ρ σ H Q R P => P F H v (Same.refl F) R (h F)

/-! ### two places -/
def vOp2 (f : D → D → Option Pv) (fa fb : SE) : SE := fun ρ => obind (fa ρ) fun va ρ1 => obind (fb ρ1) fun vb ρ2 => retP ((look ρ2 (frz va)).bind fun x => (look ρ2 vb).bind fun y => f x y) ρ2
theorem re_op2 {r : R2} {f : D → D → Option Pv} {ta tb : TE} {fa fb : SE} (op : Op2 Z.X.K Z.X.mg r f) (ha : RE Z ta fa) (hb : RE Z tb fb) : RE Z (tOp r ta tb) (vOp2 f fa fb) := by
  intro Y F ρ σ H Q R P
  refine ha Y F ρ σ H _ R (post_bind P fun va ρ1 _ P1 => ?_)
  intro F1 H1 x s1 R1 k1
  obtain ⟨F2, s2, R2, k2⟩ := keeps R1 k1
  refine hb Y F2 ρ1 σ H1 _ R2 (post_bind (P1.mono (s1.trans s2) fun v ρ h => bv_mono (s1.trans s2) v ρ h) fun vb ρ2 _ P2 => ?_)
  intro F3 H2 y s3 R3 k3
  cases e1 : look ρ2 (frz va) with
  | none => rw [e1] at P2; exact P2.elim
  | some dx =>
    cases e2 : look ρ2 vb with
    | none => rw [e1, e2] at P2; exact P2.elim
    | some dy =>
      rw [e1, e2] at P2
      cases e3 : f dx dy with
      | none => simp only [Option.bind_some, e3] at P2; exact P2.elim
      | some pv =>
        simp only [Option.bind_some, e3] at P2
        exact op F3 H2 x y dx dy pv Q R3.fh (R3.reads ((k2.mono s3).vok) e1) (R3.reads k3 e2) e3 ((OkQ.mono P2 s3).pure R3)
def vOp1 (f : D → Option Pv) (fa : SE) : SE := fun ρ => obind (fa ρ) fun va ρ1 => retP ((look ρ1 va).bind f) ρ1
theorem re_op1 {r : V → Hp → VK → Prop} {f : D → Option Pv} {ta : TE} {fa : SE} (op : Op1 Z.X.K Z.X.mg r f) (ha : RE Z ta fa) : RE Z (tUn r ta) (vOp1 f fa) := by
  intro Y F ρ σ H Q R P
  refine ha Y F ρ σ H _ R (post_bind P fun va ρ1 _ P1 => ?_)
  intro F1 H1 x s1 R1 k1
  cases e1 : look ρ1 va with
  | none => rw [e1] at P1; exact P1.elim
  | some dx =>
    rw [e1] at P1
    cases e3 : f dx with
    | none => simp only [Option.bind_some, e3] at P1; exact P1.elim
    | some pv =>
      simp only [Option.bind_some, e3] at P1
      exact op F1 H1 x dx pv Q R1.fh (R1.reads k1 e1) e3 ((OkQ.mono P1 s1).pure R1)

/-! ### tests -/
def vTst (f : SE) : STst := fun ρ => obind (f ρ) fun va ρ1 => match look ρ1 va with
  | some (.bl b) => .ok b ρ1
  | _ => .bad
theorem rt_tst {t : TE} {f : SE} (h : RE Z t f) : RT' Z (tTest t) (vTst f) := by
  intro Y F ρ σ H Q R P
  refine h Y F ρ σ H _ R (post_bind P fun va ρ1 _ P1 => ?_)
  intro F1 H1 x s1 R1 k1
  split at P1
  · rename_i b e
    exact ⟨b, (R1.reads k1 e).bl, P1 F1 H1 s1 R1⟩
  · exact P1.elim
theorem VC.vt {e : Expr} {f : SE} (h : VC Z e f) : VT Z e (vTst f) := let ⟨t, _, h1, h2⟩ := h; ⟨_, h1, rt_tst h2⟩
/-- truth -/
def truD : D → Option Bool
  | .non => some false
  | .bl b => some b
  | .int i => some (i != 0)
  | .str y => if y.length ≤ sizeLine then some ((y.length : Int) != 0) else none
  | .lst ds => some (!ds.isEmpty)
  | .tup ds => some (!ds.isEmpty)
  | .dic ks => some (!ks.isEmpty)
  | _ => none
theorem empty_len {α β : Type} {xs : List α} {ys : List β} (h : xs.length = ys.length) : xs.isEmpty = ys.isEmpty := by
  cases xs <;> cases ys <;> first | rfl | (simp at h)
theorem truD_tru {K : PySem.W.Frag} {mg : Str → Option Value} {F H : Hp} {v : V} {d : D} {k : Bool} (s : Same F H) (r : RT K mg F H v d) (e : truD d = some k) : TruV K v H k := by
  unfold truD at e
  split at e
  · cases e; rw [r.non]; exact rfl
  · cases e; rw [r.bl]; exact rfl
  · cases e; rw [r.int]; exact rfl
  · split at e
    · rename_i hl
      cases e; rw [r.str]; exact ⟨hl, rfl⟩
    · cases e
  · cases e
    obtain ⟨a, xs, rfl, h, q⟩ := r.lst s
    exact .inl ⟨xs, SqL.of h, by rw [empty_len q.len]⟩
  · cases e
    obtain ⟨a, xs, rfl, h, q⟩ := r.tup s
    exact .inr (.inl ⟨xs, SqT.of h, by rw [empty_len q.len]⟩)
  · cases e
    obtain ⟨a, xs, rfl, h, q⟩ := r.dic s
    exact .inr (.inr ⟨xs, h, by rw [empty_len q.len]⟩)
  · cases e
def vTru (f : SE) : STst := fun ρ => obind (f ρ) fun va ρ1 => match (look ρ1 va).bind truD with
  | some b => .ok b ρ1
  | _ => .bad
theorem rt_tru {t : TE} {f : SE} (h : RE Z t f) : RT' Z (fun σ H Q => t σ H fun x H' => ∃ k, TruV Z.X.K x H' k ∧ Q k H') (vTru f) := by
  intro Y F ρ σ H Q R P
  refine h Y F ρ σ H _ R (post_bind P fun va ρ1 _ P1 => ?_)
  intro F1 H1 x s1 R1 k1
  split at P1
  · rename_i b e
    obtain ⟨d, e1, e2⟩ := Option.bind_eq_some_iff.mp e
    exact ⟨b, truD_tru R1.fh (R1.reads k1 e1) e2, P1 F1 H1 s1 R1⟩
  · exact P1.elim
def vNot (g : STst) : STst := fun ρ => obind (g ρ) fun b ρ1 => .ok (!b) ρ1
def vAnd (g h : STst) : STst := fun ρ => obind (g ρ) fun b ρ1 => if b = true then h ρ1 else .ok false ρ1
def vOr (g h : STst) : STst := fun ρ => obind (g ρ) fun b ρ1 => if b = true then .ok true ρ1 else h ρ1
theorem rt_not {t : TT} {g : STst} (h : RT' Z t g) : RT' Z (tNot t) (vNot g) := fun Y F ρ σ H Q R P =>
  h Y F ρ σ H _ R (post_bind P fun b ρ1 _ P1 => fun G L s R1 => P1 G L s R1)
theorem rt_and {t u : TT} {g g' : STst} (h : RT' Z t g) (h' : RT' Z u g') : RT' Z (tAnd t u) (vAnd g g') := by
  intro Y F ρ σ H Q R P
  refine h Y F ρ σ H _ R (post_bind P fun b ρ1 _ P1 => fun G L s R1 => ?_)
  cases b with
  | true => exact h' Y G ρ1 σ L Q R1 (Post.mono P1 s fun v ρ q => bt_mono s v ρ q)
  | false => exact P1 G L s R1
theorem rt_or {t u : TT} {g g' : STst} (h : RT' Z t g) (h' : RT' Z u g') : RT' Z (tOr t u) (vOr g g') := by
  intro Y F ρ σ H Q R P
  refine h Y F ρ σ H _ R (post_bind P fun b ρ1 _ P1 => fun G L s R1 => ?_)
  cases b with
  | true => exact P1 G L s R1
  | false => exact h' Y G ρ1 σ L Q R1 (Post.mono P1 s fun v ρ q => bt_mono s v ρ q)
/-- a if t else b -/
def vIfE (g : STst) (fa fb : SE) : SE := fun ρ => obind (g ρ) fun b ρ1 => if b = true then fa ρ1 else fb ρ1
theorem re_if {t : TT} {ta tb : TE} {g : STst} {fa fb : SE} (h : RT' Z t g) (ha : RE Z ta fa) (hb : RE Z tb fb) : RE Z (tIf t ta tb) (vIfE g fa fb) := by
  intro Y F ρ σ H Q R P
  refine h Y F ρ σ H _ R (post_bind P fun b ρ1 _ P1 => fun G L s R1 => ?_)
  cases b with
  | true => exact ha Y G ρ1 σ L Q R1 (Post.mono P1 s fun v ρ q => bv_mono s v ρ q)
  | false => exact hb Y G ρ1 σ L Q R1 (Post.mono P1 s fun v ρ q => bv_mono s v ρ q)
/-- a and b, a or b as values, the first ones True or False -/
def vAndV (fa fb : SE) : SE := fun ρ => obind (fa ρ) fun va ρ1 => match look ρ1 va with
  | some (.bl true) => fb ρ1
  | some (.bl false) => .ok (.sh (.bl false)) ρ1
  | _ => .bad
def vOrV (fa fb : SE) : SE := fun ρ => obind (fa ρ) fun va ρ1 => match look ρ1 va with
  | some (.bl true) => .ok (.sh (.bl true)) ρ1
  | some (.bl false) => fb ρ1
  | _ => .bad
def vNotV (fa : SE) : SE := fun ρ => obind (fa ρ) fun va ρ1 => match look ρ1 va with
  | some (.bl b) => .ok (.sh (.bl (!b))) ρ1
  | _ => .bad
theorem re_andV {ta tb : TE} {fa fb : SE} (ha : RE Z ta fa) (hb : RE Z tb fb) : RE Z (tAndV ta tb) (vAndV fa fb) := by
  intro Y F ρ σ H Q R P
  refine ha Y F ρ σ H _ R (post_bind P fun va ρ1 _ P1 => ?_)
  intro F1 H1 x s1 R1 k1
  split at P1
  · rename_i e
    exact ⟨true, (R1.reads k1 e).bl, hb Y F1 ρ1 σ H1 Q R1 (Post.mono P1 s1 fun v ρ q => bv_mono s1 v ρ q)⟩
  · rename_i e
    exact ⟨false, (R1.reads k1 e).bl, P1 F1 H1 _ s1 R1 (.bl false)⟩
  · exact P1.elim
theorem re_orV {ta tb : TE} {fa fb : SE} (ha : RE Z ta fa) (hb : RE Z tb fb) : RE Z (tOrV ta tb) (vOrV fa fb) := by
  intro Y F ρ σ H Q R P
  refine ha Y F ρ σ H _ R (post_bind P fun va ρ1 _ P1 => ?_)
  intro F1 H1 x s1 R1 k1
  split at P1
  · rename_i e
    exact ⟨true, (R1.reads k1 e).bl, P1 F1 H1 _ s1 R1 (.bl true)⟩
  · rename_i e
    exact ⟨false, (R1.reads k1 e).bl, hb Y F1 ρ1 σ H1 Q R1 (Post.mono P1 s1 fun v ρ q => bv_mono s1 v ρ q)⟩
  · exact P1.elim
theorem re_notV {ta : TE} {fa : SE} (ha : RE Z ta fa) : RE Z (tNotV ta) (vNotV fa) := by
  intro Y F ρ σ H Q R P
  refine ha Y F ρ σ H _ R (post_bind P fun va ρ1 _ P1 => ?_)
  intro F1 H1 x s1 R1 k1
  split at P1
  · rename_i b e
    exact ⟨b, (R1.reads k1 e).bl, P1 F1 H1 _ s1 R1 (.bl _)⟩
  · exact P1.elim
/-- a op b op' c -/
def vChain (f f' : D → D → Option Pv) (fa fb fc : SE) : SE := fun ρ => obind (fa ρ) fun va ρ1 => obind (fb ρ1) fun vb ρ2 => match (look ρ2 (frz va)).bind fun x => (look ρ2 (frz vb)).bind fun y => f x y with
  | some (.sh (.bl true)) => obind (fc ρ2) fun vc ρ3 => retP ((look ρ3 (frz vb)).bind fun y => (look ρ3 vc).bind fun z => f' y z) ρ3
  | some (.sh (.bl false)) => .ok (.sh (.bl false)) ρ2
  | _ => .bad
theorem re_chain {r r' : R2} {f f' : D → D → Option Pv} {ta tb tc : TE} {fa fb fc : SE} (op : Op2 Z.X.K Z.X.mg r f) (op' : Op2 Z.X.K Z.X.mg r' f') (ha : RE Z ta fa) (hb : RE Z tb fb) (hc : RE Z tc fc) :
    RE Z (tChain r r' ta tb tc) (vChain f f' fa fb fc) := by
  intro Y F ρ σ H Q R P
  refine ha Y F ρ σ H _ R (post_bind P fun va ρ1 _ P1 => ?_)
  intro F1 H1 x s1 R1 k1
  obtain ⟨F2, s2, R2, k2⟩ := keeps R1 k1
  refine hb Y F2 ρ1 σ H1 _ R2 (post_bind (P1.mono (s1.trans s2) fun v ρ h => bv_mono (s1.trans s2) v ρ h) fun vb ρ2 _ P2 => ?_)
  intro F3' H2 y s3' R3' k3'
  obtain ⟨F3, s34, R3, k3⟩ := keeps R3' k3'
  have s3 := s3'.trans s34
  have go : ∀ b, ((look ρ2 (frz va)).bind fun x => (look ρ2 (frz vb)).bind fun y => f x y) = some (.sh (.bl b)) → (∀ G L, Same F3 G → Z.R Y G ρ2 σ L → ∃ k, V.bl b = .bl k ∧ if k = true then tc σ L fun w H4 => r' y w H4 Q else Q (.bl false) L) →
      r x y H2 fun z H3 => ∃ k, z = .bl k ∧ if k = true then tc σ H3 fun w H4 => r' y w H4 Q else Q (.bl false) H3 := by
    intro b e q
    obtain ⟨dx, e1, e⟩ := Option.bind_eq_some_iff.mp e
    obtain ⟨dy, e2, e⟩ := Option.bind_eq_some_iff.mp e
    refine op F3 H2 x y dx dy _ _ R3.fh (R3.reads ((k2.mono s3).vok) e1) (R3.reads k3.vok e2) e fun G L v g rv => ?_
    cases rv
    exact q G L g.ff (R3.grow g)
  split at P2
  · rename_i e
    refine go true e fun G L s4 R4 => ⟨true, rfl, ?_⟩
    rw [if_pos rfl]
    refine hc Y G ρ2 σ L _ R4 (post_bind (P2.mono (s3.trans s4) fun v ρ h => bv_mono (s3.trans s4) v ρ h) fun vc ρ3 _ P3 => ?_)
    intro F5 H5 w s5 R5 k5
    cases e1 : look ρ3 (frz vb) with
    | none => rw [e1] at P3; exact P3.elim
    | some dx =>
      cases e2 : look ρ3 vc with
      | none => rw [e1, e2] at P3; exact P3.elim
      | some dy =>
        rw [e1, e2] at P3
        cases e3 : f' dx dy with
        | none => simp only [Option.bind_some, e3] at P3; exact P3.elim
        | some pv =>
          simp only [Option.bind_some, e3] at P3
          exact op' F5 H5 y w dx dy pv Q R5.fh (R5.reads ((k3.mono (s4.trans s5)).vok) e1) (R5.reads k5 e2) e3 ((OkQ.mono P3 s5).pure R5)
  · rename_i e
    refine go false e fun G L s4 R4 => ⟨false, rfl, ?_⟩
    rw [if_neg Bool.false_ne_true]
    exact P2 G L _ (s3.trans s4) R4 (.bl false)
  · exact P2.elim

/-! ### argument lists -/
def vArgs : List SE → SA
  | [] => fun ρ => .ok [] ρ
  | f :: fs => fun ρ => obind (f ρ) fun v ρ1 => obind (vArgs fs ρ1) fun vs ρ2 => .ok (frz v :: vs) ρ2
theorem ra_nil : RA Z tNil (vArgs []) := fun Y F ρ σ H Q R P => P F H [] (Same.refl F) R .nil
theorem ra_cons {te : TE} {t : TA} {f : SE} {fs : List SE} (h : RE Z te f) (hs : RA Z t (vArgs fs)) : RA Z (tCons te t) (vArgs (f :: fs)) := by
  intro Y F ρ σ H Q R P
  refine h Y F ρ σ H _ R (post_bind P fun va ρ1 _ P1 => ?_)
  intro F1 H1 x s1 R1 k1
  obtain ⟨F2, s2, R2, k2⟩ := keeps R1 k1
  have s12 := s1.trans s2
  refine hs Y F2 ρ1 σ H1 _ R2 (post_bind (P1.mono s12 fun v ρ h => ba_mono s12 v ρ h) fun vb ρ2 _ P2 => ?_)
  intro F3 H2 vs s3 R3 k3
  exact P2 F3 H2 (x :: vs) s3 R3 (.cons (k2.mono s3) k3)
def looks (ρ : Env) : List Vl → Option (List D)
  | [] => some []
  | v :: vs => match look ρ v, looks ρ vs with
    | some d, some ds => some (d :: ds)
    | _, _ => none
def escs (ρ : Env) : List Vl → Option (List D × Env)
  | [] => some ([], ρ)
  | v :: vs => match esc ρ v with
    | some (d, ρ1) => match escs ρ1 vs with
      | some (ds, ρ2) => some (d :: ds, ρ2)
      | none => none
    | none => none
inductive RTs (K : PySem.W.Frag) (mg : Str → Option Value) (F H : Hp) : List V → List D → Prop
  | nil : RTs K mg F H [] []
  | cons {v : V} {d : D} {vs : List V} {ds : List D} : RT K mg F H v d → RTs K mg F H vs ds → RTs K mg F H (v :: vs) (d :: ds)
theorem reads_all (R : Z.R Y F ρ σ H) {vs : List V} {vls : List Vl} (h : AOks Z F σ vs vls) : ∀ {ds : List D}, looks ρ vls = some ds → RTs Z.X.K Z.X.mg F H vs ds := by
  induction h with
  | nil => intro ds e; simp [looks] at e; subst e; exact .nil
  | @cons v vl vs vls a b ih =>
    intro ds e
    unfold looks at e
    split at e
    · rename_i d ds' e1 e2
      cases e
      exact .cons (R.reads a.vok e1) (ih e2)
    · cases e
theorem escs_all {vs : List V} {vls : List Vl} (h : AOks Z F σ vs vls) : ∀ {F' : Hp} {ρ ρ' : Env} {ds : List D}, Same F F' → Z.R Y F' ρ σ H → escs ρ vls = some (ds, ρ') → ∃ G, Same F' G ∧ Z.R Y G ρ' σ H ∧ Reps Z.X.K Z.X.mg G vs ds := by
  induction h with
  | nil => intro F' ρ ρ' ds s R e; simp [escs] at e; obtain ⟨rfl, rfl⟩ := e; exact ⟨F', Same.refl F', R, .nil⟩
  | @cons v vl vs vls a b ih =>
    intro F' ρ ρ' ds s R e
    unfold escs at e
    split at e
    · rename_i d ρ1 e1
      split at e
      · rename_i ds' ρ2 e2
        cases e
        obtain ⟨G, s1, R1, r1⟩ := R.esc ((a.mono s).vok) e1
        obtain ⟨G2, s2, R2, r2⟩ := ih (s.trans s1) R1 e2
        exact ⟨G2, s1.trans s2, R2, .cons (r1.mono s2) r2⟩
      · cases e
    · cases e
def vTup (fs : List SE) : SE := fun ρ => obind (vArgs fs ρ) fun vs ρ1 => match escs ρ1 vs with
  | some (ds, ρ2) => if ds.length ≤ sizeLine then .ok (.sh (.tup ds)) ρ2 else .bad
  | none => .bad
def vLst (fs : List SE) : SE := fun ρ => obind (vArgs fs ρ) fun vs ρ1 => match escs ρ1 vs with
  | some (ds, ρ2) => if ds.length ≤ sizeLine then .ok (.fr (.lst ds)) ρ2 else .bad
  | none => .bad
theorem re_tup {t : TA} {fs : List SE} (h : RA Z t (vArgs fs)) : RE Z (tTup t) (vTup fs) := by
  intro Y F ρ σ H Q R P
  refine h Y F ρ σ H _ R (post_bind P fun vls ρ1 _ P1 => ?_)
  intro F1 H1 vs s1 R1 k1
  split at P1
  · rename_i ds ρ2 e
    split at P1
    · rename_i hl
      obtain ⟨G, s2, R2, r⟩ := escs_all k1 (Same.refl F1) R1 e
      refine ⟨by rw [r.len]; exact hl, fun p np => ?_⟩
      exact PureQ.newT (mg := Z.X.mg) ((OkQ.mono P1 (s1.trans s2)).pure (pv := .sh (.tup ds)) R2) R2.fh np r
    · exact P1.elim
  · exact P1.elim
theorem re_lst {t : TA} {fs : List SE} (h : RA Z t (vArgs fs)) : RE Z (tLst t) (vLst fs) := by
  intro Y F ρ σ H Q R P
  refine h Y F ρ σ H _ R (post_bind P fun vls ρ1 _ P1 => ?_)
  intro F1 H1 vs s1 R1 k1
  split at P1
  · rename_i ds ρ2 e
    split at P1
    · rename_i hl
      obtain ⟨G, s2, R2, r⟩ := escs_all k1 (Same.refl F1) R1 e
      refine ⟨by rw [r.len]; exact hl, fun p np => ?_⟩
      exact PureQ.newL (mg := Z.X.mg) ((OkQ.mono P1 (s1.trans s2)).pure (pv := .fr (.lst ds)) R2) R2.fh np r
    · exact P1.elim
  · exact P1.elim
/-- a built-in that only reads -/
def OpN (K : PySem.W.Frag) (mg : Str → Option Value) (r : List V → Hp → VK → Prop) (f : List D → Option Pv) : Prop :=
  ∀ (F H : Hp) (xs : List V) (ds : List D) (pv : Pv) (Q : VK), Same F H → RTs K mg F H xs ds → f ds = some pv → PureQ K mg F H Q pv → r xs H Q
def vB (f : List D → Option Pv) (fs : List SE) : SE := fun ρ => obind (vArgs fs ρ) fun vs ρ1 => retP ((looks ρ1 vs).bind f) ρ1
theorem re_B {r : List V → Hp → VK → Prop} {f : List D → Option Pv} {t : TA} {fs : List SE} (op : OpN Z.X.K Z.X.mg r f) (h : RA Z t (vArgs fs)) : RE Z (tCB r t) (vB f fs) := by
  intro Y F ρ σ H Q R P
  refine h Y F ρ σ H _ R (post_bind P fun vls ρ1 _ P1 => ?_)
  intro F1 H1 vs s1 R1 k1
  cases e1 : looks ρ1 vls with
  | none => rw [e1] at P1; exact P1.elim
  | some ds =>
    rw [e1] at P1
    cases e2 : f ds with
    | none => simp only [Option.bind_some, e2] at P1; exact P1.elim
    | some pv =>
      simp only [Option.bind_some, e2] at P1
      exact op F1 H1 vs ds pv Q R1.fh (reads_all R1 k1 e1) e2 ((OkQ.mono P1 s1).pure R1)
end
end VL
/-! V4: built-ins, methods of built-in types, fields -/
namespace VL
open PySem PySem.Spec PyProof.Rows L2

/-! ### built-ins that only read -/
def asInts : List D → Option (List Int)
  | [] => some []
  | .int i :: r => (asInts r).map (i :: ·)
  | _ => none
def asBls : List D → Option (List Bool)
  | [] => some []
  | .bl i :: r => (asBls r).map (i :: ·)
  | _ => none
theorem asInts_eq : ∀ {ds : List D} {ns : List Int}, asInts ds = some ns → ds = ns.map D.int
  | [], ns, h => by simp [asInts] at h; subst h; rfl
  | .int i :: r, ns, h => by
    simp only [asInts, Option.map_eq_some_iff] at h
    obtain ⟨ms, h1, rfl⟩ := h
    rw [asInts_eq h1]
    rfl
@[simp] theorem asInts_map : ∀ ns : List Int, asInts (ns.map D.int) = some ns
  | [] => rfl
  | n :: ns => by
    show (asInts (ns.map D.int)).map (n :: ·) = _
    rw [asInts_map ns]
    rfl
theorem asBls_eq : ∀ {ds : List D} {ns : List Bool}, asBls ds = some ns → ds = ns.map D.bl
  | [], ns, h => by simp [asBls] at h; subst h; rfl
  | .bl i :: r, ns, h => by
    simp only [asBls, Option.map_eq_some_iff] at h
    obtain ⟨ms, h1, rfl⟩ := h
    rw [asBls_eq h1]
    rfl
@[simp] theorem asBls_map : ∀ ns : List Bool, asBls (ns.map D.bl) = some ns
  | [] => rfl
  | n :: ns => by
    show (asBls (ns.map D.bl)).map (n :: ·) = _
    rw [asBls_map ns]
    rfl
def minI : Int → List Int → Int
  | x, [] => x
  | x, y :: r => minI (if y < x then y else x) r
def maxI : Int → List Int → Int
  | x, [] => x
  | x, y :: r => maxI (if x < y then y else x) r
theorem minI_le : ∀ (x : Int) (r : List Int), minI x r ≤ x
  | x, [] => Int.le_refl x
  | x, y :: r => by
    have h := minI_le (if y < x then y else x) r
    unfold minI
    split at h <;> rename_i q
    · rw [if_pos q]; omega
    · rw [if_neg q]; exact h
theorem minI_all : ∀ (x : Int) (r : List Int) (z : Int), z ∈ x :: r → minI x r ≤ z
  | x, [], z, h => by
    have e : z = x := by simpa using h
    rw [e]; exact Int.le_refl x
  | x, y :: r, z, h => by
    unfold minI
    have key := minI_all (if y < x then y else x) r
    have k0 := minI_le (if y < x then y else x) r
    rcases List.mem_cons.mp h with rfl | h
    · refine Int.le_trans k0 ?_
      split <;> omega
    · rcases List.mem_cons.mp h with rfl | h
      · refine Int.le_trans k0 ?_
        split <;> omega
      · exact key z (List.mem_cons_of_mem _ h)
theorem minI_mem : ∀ (x : Int) (r : List Int), minI x r ∈ x :: r
  | x, [] => by simp [minI]
  | x, y :: r => by
    unfold minI
    have h := minI_mem (if y < x then y else x) r
    rcases List.mem_cons.mp h with h | h
    · rw [h]
      split <;> simp
    · exact List.mem_cons_of_mem _ (List.mem_cons_of_mem _ h)
theorem maxI_le : ∀ (x : Int) (r : List Int), x ≤ maxI x r
  | x, [] => Int.le_refl x
  | x, y :: r => by
    have h := maxI_le (if x < y then y else x) r
    unfold maxI
    split at h <;> rename_i q
    · rw [if_pos q]; omega
    · rw [if_neg q]; exact h
theorem maxI_all : ∀ (x : Int) (r : List Int) (z : Int), z ∈ x :: r → z ≤ maxI x r
  | x, [], z, h => by
    have e : z = x := by simpa using h
    rw [e]; exact Int.le_refl x
  | x, y :: r, z, h => by
    unfold maxI
    have key := maxI_all (if x < y then y else x) r
    have k0 := maxI_le (if x < y then y else x) r
    rcases List.mem_cons.mp h with rfl | h
    · refine Int.le_trans ?_ k0
      split <;> omega
    · rcases List.mem_cons.mp h with rfl | h
      · refine Int.le_trans ?_ k0
        split <;> omega
      · exact key z (List.mem_cons_of_mem _ h)
theorem maxI_mem : ∀ (x : Int) (r : List Int), maxI x r ∈ x :: r
  | x, [] => by simp [maxI]
  | x, y :: r => by
    unfold maxI
    have h := maxI_mem (if x < y then y else x) r
    rcases List.mem_cons.mp h with h | h
    · rw [h]
      split <;> simp
    · exact List.mem_cons_of_mem _ (List.mem_cons_of_mem _ h)
def sortI (ns : List Int) : List Int := ns.mergeSort fun a b => decide (a ≤ b)
theorem sortI_perm (ns : List Int) : (sortI ns).Perm ns := List.mergeSort_perm _ _
theorem sortI_sorted (ns : List Int) : (sortI ns).Pairwise (· ≤ ·) := by
  have h := List.pairwise_mergeSort (le := fun a b : Int => decide (a ≤ b)) (fun a b c h1 h2 => by
    have := of_decide_eq_true h1
    have := of_decide_eq_true h2
    exact decide_eq_true (by omega)) (fun a b => by
    by_cases h : a ≤ b
    · simp [h]
    · have : b ≤ a := by omega
      simp [this]) ns
  exact h.imp fun q => of_decide_eq_true q
theorem sort_one {a b : List Int} (hp : a.Perm b) (ha : a.Pairwise (· ≤ ·)) (hb : b.Pairwise (· ≤ ·)) : a = b :=
  List.Perm.eq_of_pairwise (fun x y _ _ h1 h2 => Int.le_antisymm h1 h2) ha hb hp

def opLen : List D → Option Pv
  | [.lst ds] => some (.sh (.int ds.length))
  | [.tup ds] => some (.sh (.int ds.length))
  | [.rol ds] => some (.sh (.int ds.length))
  | [.rot ds] => some (.sh (.int ds.length))
  | [.str x] => if x.length ≤ sizeLine then some (.sh (.int x.length)) else none
  | [.dic ks] => some (.sh (.int ks.length))
  | [.dit ks] => some (.sh (.int ks.length))
  | _ => none
def opAbs : List D → Option Pv
  | [.int i] => some (.sh (.int (if i < 0 then -i else i)))
  | _ => none
def opMin : List D → Option Pv
  | [.int i, .int j] => some (.sh (.int (if j < i then j else i)))
  | [.lst ds] => match asInts ds with
    | some (x :: r) => some (.sh (.int (minI x r)))
    | _ => none
  | _ => none
def opMax : List D → Option Pv
  | [.int i, .int j] => some (.sh (.int (if j > i then j else i)))
  | [.lst ds] => match asInts ds with
    | some (x :: r) => some (.sh (.int (maxI x r)))
    | _ => none
  | _ => none
def opSum : List D → Option Pv
  | [.lst ds] => (asInts ds).map fun ns => .sh (.int ns.sum)
  | _ => none
def opAll : List D → Option Pv
  | [.lst ds] => (asBls ds).map fun ns => .sh (.bl (ns.all id))
  | _ => none
def opAny : List D → Option Pv
  | [.lst ds] => (asBls ds).map fun ns => .sh (.bl (ns.any id))
  | _ => none
def opSorted : List D → Option Pv
  | [.lst ds] => (asInts ds).map fun ns => .fr (.lst ((sortI ns).map .int))
  | _ => none
def opInt : List D → Option Pv
  | [.int i] => some (.sh (.int i))
  | [.bl b] => some (.sh (.int (if b then 1 else 0)))
  | _ => none
def opList : List D → Option Pv
  | [.lst ds] => some (.fr (.lst ds))
  | [.tup ds] => some (.fr (.lst ds))
  | _ => none
def opTuple : List D → Option Pv
  | [.lst ds] => some (.sh (.tup ds))
  | [.tup ds] => some (.sh (.tup ds))
  | _ => none
def tyN : D → Option String
  | .non => some "NoneType"
  | .bl _ => some "bool"
  | .int _ => some "int"
  | .str _ => some "str"
  | .lst _ => some "list"
  | .tup _ => some "tuple"
  | .dic _ => some "dict"
  | _ => none
def isTab (t c : String) : Option Bool :=
  if t ∈ ["NoneType", "bool", "int", "str", "list", "tuple", "dict"] ∧ c ∈ ["bool", "int", "str", "list", "tuple", "dict"] then some (decide (t = c) || (decide (t = "bool") && decide (c = "int"))) else none
def isTabs (t : String) : List String → Option Bool
  | [] => some false
  | c :: r => match isTab t c with
    | some true => some true
    | some false => isTabs t r
    | none => none
def asTys : List D → Option (List String)
  | [] => some []
  | .ty i :: r => (asTys r).map (i :: ·)
  | _ => none
theorem asTys_eq : ∀ {ds : List D} {ns : List String}, asTys ds = some ns → ds = ns.map D.ty
  | [], ns, h => by simp [asTys] at h; subst h; rfl
  | .ty i :: r, ns, h => by
    simp only [asTys, Option.map_eq_some_iff] at h
    obtain ⟨ms, h1, rfl⟩ := h
    rw [asTys_eq h1]
    rfl
def opIsi : List D → Option Pv
  | [x, .ty c] => (tyN x).bind fun t => (isTab t c).map fun b => .sh (.bl b)
  | [x, .tup cs] => (tyN x).bind fun t => (asTys cs).bind fun ts => (isTabs t ts).map fun b => .sh (.bl b)
  | _ => none
theorem isTab_kit : ∀ t ∈ ["NoneType", "bool", "int", "str", "list", "tuple", "dict"], ∀ c ∈ ["bool", "int", "str", "list", "tuple", "dict"], kitB t c = some (decide (t = c) || (decide (t = "bool") && decide (c = "int"))) := by decide +kernel
theorem isTab_ok {t c : String} {b : Bool} (h : isTab t c = some b) : kitB t c = some b := by
  unfold isTab at h
  split at h
  · rename_i q
    cases h
    exact isTab_kit t q.1 c q.2
  · cases h

section
variable {K : PySem.W.Frag} {mg : Str → Option Value} {X : Cx} {F H : Hp}
theorem RTs.one {xs : List V} {d : D} (h : RTs K mg F H xs [d]) : ∃ x, xs = [x] ∧ RT K mg F H x d := by
  cases h with
  | cons a r => cases r; exact ⟨_, rfl, a⟩
theorem RTs.two {xs : List V} {d e : D} (h : RTs K mg F H xs [d, e]) : ∃ x y, xs = [x, y] ∧ RT K mg F H x d ∧ RT K mg F H y e := by
  cases h with
  | cons a r =>
    cases r with
    | cons b r => cases r; exact ⟨_, _, rfl, a, b⟩
theorem call_len_dic : CallR X (.builtin "len") (fun xs H Q => ∃ a kvs, xs = [.ref a] ∧ H a = some (.dK kvs) ∧ Q (.int kvs.length) H) := by
  intro pins s σ H xs us Q I r h
  obtain ⟨a, kvs, rfl, e, q⟩ := h
  rw [Vals.ref1 r]
  exact d_len I (.inl e) fun t s' J => ⟨.int kvs.length, H, J, ⟨_, rfl⟩, q⟩
abbrev rLenV (K : PySem.W.Frag) : List V → Hp → VK → Prop := fun xs H Q => (∃ x n, xs = [x] ∧ LenV K x H n ∧ Q (.int n) H) ∨ ((∃ a kvs, xs = [.ref a] ∧ H a = some (.dK kvs) ∧ Q (.int kvs.length) H) ∨ rLenT xs H Q)
theorem cr_len : CallR X (.builtin "len") (rLenV X.K) := call_len.or (call_len_dic.or call_len_dT)
theorem len_len : OpN K mg (rLenV K) opLen := by
  intro F H xs ds pv Q s rs e q
  unfold opLen at e
  split at e
  · cases e
    obtain ⟨x, rfl, r⟩ := rs.one
    obtain ⟨a, ys, rfl, h, z⟩ := r.lst s
    exact .inl ⟨_, _, rfl, .inl ⟨ys, SqL.of h, z.len.symm⟩, q.atom s (.int _)⟩
  · cases e
    obtain ⟨x, rfl, r⟩ := rs.one
    obtain ⟨a, ys, rfl, h, z⟩ := r.tup s
    exact .inl ⟨_, _, rfl, .inr ⟨ys, SqT.of h, z.len.symm⟩, q.atom s (.int _)⟩
  · cases e
    obtain ⟨x, rfl, r⟩ := rs.one
    obtain ⟨a, ys, rfl, h, z⟩ := r.rol s
    exact .inl ⟨_, _, rfl, .inl ⟨ys, h, z.len.symm⟩, q.atom s (.int _)⟩
  · cases e
    obtain ⟨x, rfl, r⟩ := rs.one
    obtain ⟨a, ys, rfl, h, z⟩ := r.rot s
    exact .inl ⟨_, _, rfl, .inr ⟨ys, h, z.len.symm⟩, q.atom s (.int _)⟩
  · split at e
    · rename_i hl
      cases e
      obtain ⟨x, rfl, r⟩ := rs.one
      exact .inl ⟨_, _, rfl, by rw [r.str]; exact ⟨hl, rfl⟩, q.atom s (.int _)⟩
    · cases e
  · cases e
    obtain ⟨x, rfl, r⟩ := rs.one
    obtain ⟨a, ys, rfl, h, z⟩ := r.dic s
    refine .inr (.inl ⟨a, ys, rfl, h, ?_⟩)
    rw [z.len]
    exact q.atom s (.int _)
  · cases e
    obtain ⟨x, rfl, r⟩ := rs.one
    obtain ⟨a, ys, rfl, h, z⟩ := r.dit s
    refine .inr (.inr ⟨a, ys, rfl, h, ?_⟩)
    rw [z.len]
    exact q.atom s (.int _)
  · cases e
theorem abs_abs : OpN K mg (fun xs H Q => ∃ i, xs = [.int i] ∧ Q (.int (if i < 0 then -i else i)) H) opAbs := by
  intro F H xs ds pv Q s rs e q
  unfold opAbs at e
  split at e
  · cases e
    obtain ⟨x, rfl, r⟩ := rs.one
    exact ⟨_, by rw [r.int], q.atom s (.int _)⟩
  · cases e
theorem ints_at {v : V} {ds : List D} {ns : List Int} (s : Same F H) (r : RT K mg F H v (.lst ds)) (e : asInts ds = some ns) : ∃ a, v = .ref a ∧ H a = some (.lst (ns.map V.int)) := by
  obtain ⟨a, ys, rfl, h, z⟩ := r.lst s
  rw [asInts_eq e] at z
  rw [z.ints] at h
  exact ⟨a, rfl, h⟩
theorem bls_of : ∀ {xs : List V} {ns : List Bool}, Reps K mg F xs (ns.map D.bl) → xs = ns.map V.bl
  | _, [], h => by cases h; rfl
  | _, n :: ns, h => by
    cases h with
    | cons h r =>
      cases h
      rw [bls_of r]
      rfl
theorem bls_at {v : V} {ds : List D} {ns : List Bool} (s : Same F H) (r : RT K mg F H v (.lst ds)) (e : asBls ds = some ns) : ∃ a, v = .ref a ∧ H a = some (.lst (ns.map V.bl)) := by
  obtain ⟨a, ys, rfl, h, z⟩ := r.lst s
  rw [asBls_eq e] at z
  rw [bls_of z] at h
  exact ⟨a, rfl, h⟩
abbrev rMinV (K : PySem.W.Frag) : List V → Hp → VK → Prop := fun xs H Q => (∃ i j, xs = [.int i, .int j] ∧ Q (.int (if j < i then j else i)) H) ∨ rMin K xs H Q
abbrev rMaxV (K : PySem.W.Frag) : List V → Hp → VK → Prop := fun xs H Q => (∃ i j, xs = [.int i, .int j] ∧ Q (.int (if j > i then j else i)) H) ∨ rMax K xs H Q
theorem cr_minV (hc : X.calm = true) : CallR X (.builtin "min") (rMinV X.K) := (call_min2 hc).or (cr_min hc)
theorem cr_maxV (hc : X.calm = true) : CallR X (.builtin "max") (rMaxV X.K) := (call_max2 hc).or (cr_max hc)
theorem min_min : OpN K mg (rMinV K) opMin := by
  intro F H xs ds pv Q s rs e q
  unfold opMin at e
  split at e
  · cases e
    obtain ⟨x, y, rfl, r1, r2⟩ := rs.two
    exact .inl ⟨_, _, by rw [r1.int, r2.int], q.atom s (.int _)⟩
  · split at e
    · rename_i z r' hz
      cases e
      obtain ⟨x, rfl, r⟩ := rs.one
      obtain ⟨a, rfl, h⟩ := ints_at s r hz
      refine .inr ⟨a, _, rfl, SqL.of h, by simp, fun m hm hall => ?_⟩
      have e1 : m = minI z r' := Int.le_antisymm (hall _ (minI_mem z r')) (minI_all z r' m hm)
      rw [e1]
      exact q.atom s (.int _)
    · cases e
  · cases e
theorem max_max : OpN K mg (rMaxV K) opMax := by
  intro F H xs ds pv Q s rs e q
  unfold opMax at e
  split at e
  · cases e
    obtain ⟨x, y, rfl, r1, r2⟩ := rs.two
    exact .inl ⟨_, _, by rw [r1.int, r2.int], q.atom s (.int _)⟩
  · split at e
    · rename_i z r' hz
      cases e
      obtain ⟨x, rfl, r⟩ := rs.one
      obtain ⟨a, rfl, h⟩ := ints_at s r hz
      refine .inr ⟨a, _, rfl, SqL.of h, by simp, fun m hm hall => ?_⟩
      have e1 : m = maxI z r' := Int.le_antisymm (maxI_all z r' m hm) (hall _ (maxI_mem z r'))
      rw [e1]
      exact q.atom s (.int _)
    · cases e
  · cases e
theorem sum_sum : OpN K mg (rSum K) opSum := by
  intro F H xs ds pv Q s rs e q
  unfold opSum at e
  split at e
  · obtain ⟨ns, h, e⟩ := Option.map_eq_some_iff.mp e
    subst e
    obtain ⟨x, rfl, r⟩ := rs.one
    obtain ⟨a, rfl, h⟩ := ints_at s r h
    exact ⟨a, ns, rfl, SqL.of h, q.atom s (.int _)⟩
  · cases e
theorem all_all : OpN K mg (rAll K) opAll := by
  intro F H xs ds pv Q s rs e q
  unfold opAll at e
  split at e
  · obtain ⟨ns, h, e⟩ := Option.map_eq_some_iff.mp e
    subst e
    obtain ⟨x, rfl, r⟩ := rs.one
    obtain ⟨a, rfl, h⟩ := bls_at s r h
    exact ⟨a, ns, rfl, SqL.of h, q.atom s (.bl _)⟩
  · cases e
theorem any_any : OpN K mg (rAny K) opAny := by
  intro F H xs ds pv Q s rs e q
  unfold opAny at e
  split at e
  · obtain ⟨ns, h, e⟩ := Option.map_eq_some_iff.mp e
    subst e
    obtain ⟨x, rfl, r⟩ := rs.one
    obtain ⟨a, rfl, h⟩ := bls_at s r h
    exact ⟨a, ns, rfl, SqL.of h, q.atom s (.bl _)⟩
  · cases e
theorem reps_ints : ∀ ns : List Int, Reps K mg F (ns.map V.int) (ns.map D.int)
  | [] => .nil
  | n :: ns => .cons (.int n) (reps_ints ns)
theorem sorted_sorted : OpN K mg (rSortedI K) opSorted := by
  intro F H xs ds pv Q s rs e q
  unfold opSorted at e
  split at e
  · obtain ⟨ns, h, e⟩ := Option.map_eq_some_iff.mp e
    subst e
    obtain ⟨x, rfl, r⟩ := rs.one
    obtain ⟨a, rfl, h⟩ := ints_at s r h
    refine ⟨a, ns, rfl, SqL.of h, fun ms p hp hs np => ?_⟩
    rw [sort_one (hp.trans (sortI_perm ns).symm) hs (sortI_sorted ns)]
    exact q.newL s np (reps_ints _)
  · cases e
theorem int_int : OpN K mg (fun xs H Q => (∃ i, xs = [.int i] ∧ Q (.int i) H) ∨ ∃ k, xs = [.bl k] ∧ Q (.int (if k then 1 else 0)) H) opInt := by
  intro F H xs ds pv Q s rs e q
  unfold opInt at e
  split at e
  · cases e
    obtain ⟨x, rfl, r⟩ := rs.one
    exact .inl ⟨_, by rw [r.int], q.atom s (.int _)⟩
  · cases e
    obtain ⟨x, rfl, r⟩ := rs.one
    exact .inr ⟨_, by rw [r.bl], q.atom s (.int _)⟩
  · cases e
theorem list_list : OpN K mg (fun xs H Q => ∃ p ys, xs = [.ref p] ∧ (SqL K H p ys ∨ SqT K H p ys) ∧ ∀ l, H l = none → Q (.ref l) (upd H l (.lst ys))) opList := by
  intro F H xs ds pv Q s rs e q
  unfold opList at e
  split at e
  · cases e
    obtain ⟨x, rfl, r⟩ := rs.one
    obtain ⟨a, ys, rfl, h, z⟩ := r.lst s
    exact ⟨a, ys, rfl, .inl (SqL.of h), fun l nl => q.newL s nl z⟩
  · cases e
    obtain ⟨x, rfl, r⟩ := rs.one
    obtain ⟨a, ys, rfl, h, z⟩ := r.tup s
    exact ⟨a, ys, rfl, .inr (SqT.of h), fun l nl => q.newL s nl z⟩
  · cases e
theorem tuple_tuple : OpN K mg (fun xs H Q => ∃ p ys, xs = [.ref p] ∧ ((SqL K H p ys ∧ ∀ l, H l = none → Q (.ref l) (upd H l (.tup ys))) ∨ (SqT K H p ys ∧ Q (.ref p) H))) opTuple := by
  intro F H xs ds pv Q s rs e q
  unfold opTuple at e
  split at e
  · cases e
    obtain ⟨x, rfl, r⟩ := rs.one
    obtain ⟨a, ys, rfl, h, z⟩ := r.lst s
    exact ⟨a, ys, rfl, .inl ⟨SqL.of h, fun l nl => q.newT s nl z⟩⟩
  · cases e
    obtain ⟨x, rfl, r⟩ := rs.one
    have rf := r.tupF
    obtain ⟨a, ys, rfl, h, z⟩ := r.tup s
    exact ⟨a, ys, rfl, .inr ⟨SqT.of h, q.atom s rf⟩⟩
  · cases e
theorem tyN_ty {v : V} {d : D} {t : String} (s : Same F H) (r : RT K mg F H v d) (e : tyN d = some t) : TyX K H v (.type t) := by
  unfold tyN at e
  split at e
  · cases e; rw [r.non]; exact .base .non
  · cases e; rw [r.bl]; exact .base (.bl _)
  · cases e; rw [r.int]; exact .base (.int _)
  · cases e; rw [r.str]; exact .base (.str _)
  · cases e; obtain ⟨a, ys, rfl, h, z⟩ := r.lst s; exact .base (.lst h)
  · cases e; obtain ⟨a, ys, rfl, h, z⟩ := r.tup s; exact .base (.tup h)
  · cases e; obtain ⟨a, ys, rfl, h, z⟩ := r.dic s; exact .base (.dK h)
  · cases e
abbrev rIsiV (K : PySem.W.Frag) : List V → Hp → VK → Prop := fun xs H Q => rIsi K xs H Q ∨ rIsiT K xs H Q
theorem cr_isi : CallR X (.builtin "isinstance") (rIsiV X.K) := call_isi.or call_isiT
theorem tys_of : ∀ {xs : List V} {ns : List String}, Reps K mg F xs (ns.map D.ty) → xs = ns.map V.ty
  | _, [], h => by cases h; rfl
  | _, n :: ns, h => by
    cases h with
    | cons h r =>
      cases h
      rw [tys_of r]
      rfl
theorem tys_cls : ∀ ns : List String, Paired ClsV (ns.map V.ty) (ns.map Value.type)
  | [] => .nil
  | n :: ns => .cons (.ty n) (tys_cls ns)
theorem tabs_kit {t : String} : ∀ {ns : List String} {b : Bool}, isTabs t ns = some b → PySem.W.kitAny K (.type t) (ns.map Value.type) = some b
  | [], b, h => by cases h; exact kitAny_nil
  | n :: ns, b, h => by
    unfold isTabs at h
    split at h
    · rename_i e
      cases h
      exact kitAny_cons (kit_ty (isTab_ok e)) (fun z => nomatch z) fun _ => rfl
    · rename_i e
      exact kitAny_cons (kit_ty (isTab_ok e)) (fun _ => tabs_kit h) fun z => nomatch z
    · cases h
theorem isi_isi : OpN K mg (rIsiV K) opIsi := by
  intro F H xs ds pv Q s rs e q
  unfold opIsi at e
  split at e
  · rename_i x c
    obtain ⟨t, h1, e⟩ := Option.bind_eq_some_iff.mp e
    obtain ⟨b, h2, e⟩ := Option.map_eq_some_iff.mp e
    subst e
    obtain ⟨v, w, rfl, r1, r2⟩ := rs.two
    have ew := r2.ty
    subst ew
    exact .inl ⟨v, _, _, _, b, rfl, .ty c, tyN_ty s r1 h1, kit_ty (isTab_ok h2), q.atom s (.bl _)⟩
  · rename_i x cs
    obtain ⟨t, h1, e⟩ := Option.bind_eq_some_iff.mp e
    obtain ⟨ts, h3, e⟩ := Option.bind_eq_some_iff.mp e
    obtain ⟨b, h2, e⟩ := Option.map_eq_some_iff.mp e
    subst e
    obtain ⟨v, w, rfl, r1, r2⟩ := rs.two
    obtain ⟨a, ys, rfl, h, z⟩ := r2.tup s
    rw [asTys_eq h3] at z
    rw [tys_of z] at h
    exact .inr ⟨v, a, _, _, _, b, rfl, h, tys_cls ts, tyN_ty s r1 h1, tabs_kit h2, q.atom s (.bl _)⟩
  · cases e
end
end VL
/-! V5: slices, methods, fields, calls -/
namespace VL
open PySem PySem.Spec PyProof.Rows L2

/-! ### slices -/
abbrev SO := Env → OutG (Option Int)
abbrev BO (Z : Ctx) (Y : Ent) (σ : L2.St) (Q : Option Int → Hp → Prop) : Hp → Option Int → Env → Prop := fun F b ρ => ∀ G L, Same F G → Z.R Y G ρ σ L → Q b L
def RO (Z : Ctx) (t : TO) (g : SO) : Prop := ∀ Y F ρ σ H Q, Z.R Y F ρ σ H → Post (BO Z Y σ Q) Z Y σ F (g ρ) → t σ H Q
def VO (Z : Ctx) (e : Option Expr) (g : SO) : Prop := ∃ t, PO Z.X e t ∧ RO Z t g
def vNoPart : SO := fun ρ => .ok none ρ
def vPart (f : SE) : SO := fun ρ => obind (f ρ) fun v ρ1 => match look ρ1 v with
  | some (.int i) => .ok (some i) ρ1
  | _ => .bad
def cutD {α : Type} (ds : List α) (lo hi : Option Int) : List α := (ds.drop (HT.sIx ds.length 0 lo)).take (HT.sIx ds.length ds.length hi - HT.sIx ds.length 0 lo)
def opSl : D → Option Int → Option Int → Option Pv
  | .lst ds, lo, hi => some (.fr (.lst (cutD ds lo hi)))
  | .tup ds, lo, hi => some (.sh (.tup (cutD ds lo hi)))
  | _, _, _ => none
def vSl (fa : SE) (lo hi : SO) : SE := fun ρ => obind (fa ρ) fun va ρ1 => obind (lo ρ1) fun l ρ2 => obind (hi ρ2) fun u ρ3 => retP ((look ρ3 (frz va)).bind fun x => opSl x l u) ρ3
section
variable {Z : Ctx} {Y : Ent} {F G H L : Hp} {ρ ρ' : Env} {σ : L2.St} {v : V} {vl : Vl} {d : D}
theorem ro_no : RO Z tNoPart vNoPart := fun Y F ρ σ H Q R P => P F H (Same.refl F) R
theorem ro_part {t : TE} {f : SE} (h : RE Z t f) : RO Z (tPart t) (vPart f) := by
  intro Y F ρ σ H Q R P
  refine h Y F ρ σ H _ R (post_bind P fun va ρ1 _ P1 => ?_)
  intro F1 H1 x s1 R1 k1
  split at P1
  · rename_i i e
    exact ⟨i, (R1.reads k1 e).int, P1 F1 H1 s1 R1⟩
  · exact P1.elim
theorem Reps.cut {K : PySem.W.Frag} {mg : Str → Option Value} {xs : List V} {ds : List D} (r : Reps K mg F xs ds) (lo hi : Option Int) : Reps K mg F (cutV xs lo hi) (cutD ds lo hi) := by
  unfold cutV cutD
  rw [r.len]
  exact (r.drop _).take _
abbrev rSlV (K : PySem.W.Frag) : V → Option Int → Option Int → Hp → VK → Prop := fun x lo hi H Q => rSlL K x lo hi H Q ∨ rSlA K x lo hi H Q
theorem sl_V {X : Cx} : SlR X (rSlV X.K) := sl_list.or sl_tupA
theorem sl_sl {K : PySem.W.Frag} {mg : Str → Option Value} {F H : Hp} {x : V} {a : D} {lo hi : Option Int} {pv : Pv} {Q : VK} (s : Same F H) (r : RT K mg F H x a) (e : opSl a lo hi = some pv) (q : PureQ K mg F H Q pv) : rSlV K x lo hi H Q := by
  unfold opSl at e
  split at e
  · cases e
    obtain ⟨p, xs, rfl, h, z⟩ := r.lst s
    exact .inl ⟨p, xs, rfl, SqL.of h, fun t nt => q.newL s nt (z.cut lo hi)⟩
  · cases e
    have rf := r.tupF
    obtain ⟨p, xs, rfl, h, z⟩ := r.tup s
    refine .inr ⟨p, xs, rfl, SqT.of h, fun hw => ?_, fun _ t nt => q.newT s nt (z.cut lo hi)⟩
    rw [z.len] at hw
    rename_i ds
    have e2 : cutD ds lo hi = ds := by
      unfold cutD
      rw [hw.1, hw.2]
      simp
    rw [e2] at q
    exact q.atom s rf
  · cases e
theorem re_sl {ta : TE} {tl th : TO} {fa : SE} {lo hi : SO} (ha : RE Z ta fa) (hl : RO Z tl lo) (hh : RO Z th hi) : RE Z (tSl (rSlV Z.X.K) ta tl th) (vSl fa lo hi) := by
  intro Y F ρ σ H Q R P
  refine ha Y F ρ σ H _ R (post_bind P fun va ρ1 _ P1 => ?_)
  intro F1 H1 x s1 R1 k1
  obtain ⟨F2, s2, R2, k2⟩ := keeps R1 k1
  have s12 := s1.trans s2
  refine hl Y F2 ρ1 σ H1 _ R2 (post_bind (P1.mono s12 fun v ρ h => bv_mono s12 v ρ h) fun l ρ2 _ P2 => ?_)
  intro F3 H3 s3 R3
  refine hh Y F3 ρ2 σ H3 _ R3 (post_bind (P2.mono s3 fun v ρ h => bv_mono s3 v ρ h) fun u ρ3 _ P3 => ?_)
  intro F4 H4 s4 R4
  cases e1 : look ρ3 (frz va) with
  | none => rw [e1] at P3; exact P3.elim
  | some dx =>
    rw [e1] at P3
    cases e3 : opSl dx l u with
    | none => simp only [Option.bind_some, e3] at P3; exact P3.elim
    | some pv =>
      simp only [Option.bind_some, e3] at P3
      exact sl_sl R4.fh (R4.reads ((k2.mono (s3.trans s4)).vok) e1) e3 ((OkQ.mono P3 s4).pure R4)

/-! ### list(range(..)) -/
def rgD (a b : Int) : List D := (List.range (b - a).toNat).map fun i => .int (a + (i : Nat))
def rgOk (a b : Int) : Bool := decide (a.natAbs < 2 ^ 62 ∧ b.natAbs < 2 ^ 62 ∧ (b - a).toNat ≤ 2 ^ 24)
end

/-! ### an own object is changed -/
def Slot.mu? : Slot → Option D
  | .own d => some d
  | .par d => some d
  | _ => none
def Slot.put : Slot → D → Slot
  | .own _, c => .own c
  | .par _, c => .par c
  | s, _ => s
section
variable {K : PySem.W.Frag} {mg : Str → Option Value} {Y : Ent} {F G H L : Hp} {ρ : Env} {σ : L2.St} {p : Addr}
theorem Rel.mu_at (R : Rel K mg Y F ρ σ H) {i : Nat} {s : Slot} {c : D} (hs : ρ[i]? = some s) (hm : s.mu? = some c) : ∃ p, σ[i]? = some (some (.ref p)) ∧ F p = none ∧ Own K mg F H p c := by
  have q := R.slot i s hs
  cases s with
  | own d => cases hm; obtain ⟨p, e, n, _, _, o⟩ := q; exact ⟨p, e, n, o⟩
  | par d => cases hm; obtain ⟨p, e, n, _, _, o⟩ := q; exact ⟨p, e, n, o⟩
  | _ => cases hm
/-- the object in slot i was changed (by a method, by a call) -/
theorem Rel.move (R : Rel K mg Y F ρ σ H) {i : Nat} {s0 s : Slot} {c0 : D} (hs : ρ[i]? = some s0) (hm : s0.mu? = some c0) (hv : σ[i]? = some (some (.ref p))) (x : Ext (some p) F H G L)
    (hn : s = .no ∨ ∃ c, s = s0.put c ∧ G p = none ∧ Own K mg G L p c) : Rel K mg Y G (ρ.set i s) σ L := by
  have q := R.slot i s0 hs
  have hp : (Y.H0 p = none ∨ Y.A = some p) ∧ F p = none ∧ Y.P p = none ∧ H p ≠ none := by
    cases s0 with
    | own d => obtain ⟨p', e, n, n0, np, o⟩ := q; rw [hv] at e; cases e; exact ⟨.inl n0, n, np, o.there⟩
    | par d => obtain ⟨p', e, n, n0, np, o⟩ := q; rw [hv] at e; cases e; exact ⟨.inr n0, n, np, o.there⟩
    | _ => cases hm
  obtain ⟨hp, nF, nP, hH⟩ := hp
  refine ⟨⟨R.ext.ff.trans x.ff, x.fh, fun b o hb e => ?_, fun b e => R.ext.dom b (x.dom b e), fun b hb e => x.pinned (fun z => hb (R.ext.dom b z)) (R.ext.new b hb e)⟩, R.a0, fun j t ht => ?_, fun a b q d e h1 h2 h3 h4 => ?_, fun j d z => ?_, fun b o hb => ?_, by rw [List.length_set]; exact R.len⟩
  · refine x.old b o (fun z => ?_) (R.ext.old b o hb e)
    cases z
    rcases hp with h | h
    · rw [h] at e; cases e
    · exact hb h.symm
  · rcases get_set ht with ⟨rfl, rfl⟩ | ⟨hj, ht⟩
    · rcases hn with rfl | ⟨c, rfl, nG, o⟩
      · trivial
      · cases s0 with
        | own d =>
          obtain ⟨p', e, n, n0, np, _⟩ := q
          rw [hv] at e; cases e
          exact ⟨p, hv, nG, n0, np, o⟩
        | par d =>
          obtain ⟨p', e, n, n0, np, _⟩ := q
          rw [hv] at e; cases e
          exact ⟨p, hv, nG, n0, np, o⟩
        | _ => cases hm
    · have qj := R.slot j t ht
      cases t with
      | no => trivial
      | sh d => obtain ⟨v, e, r⟩ := qj; exact ⟨v, e, r.mono x.ff⟩
      | own d =>
        obtain ⟨p', e, n, n0, np, o⟩ := qj
        have ne : p' ≠ p := fun z => by
          subst z
          cases s0 with
          | own d0 => exact hj (R.sep j i p' d d0 ht hs e hv)
          | par d0 =>
            obtain ⟨p2, e2, _, a2, _⟩ := q
            rw [hv] at e2; cases e2
            exact R.a0 _ a2 n0
          | _ => cases hm
        exact ⟨p', e, o.fresh x (fun w => ne (Option.some.inj w)) n, n0, np, o.moves x.ff fun u z => x.old p' u (fun w => ne (Option.some.inj w)) z⟩
      | par d =>
        obtain ⟨p', e, n, n0, np, o⟩ := qj
        have ne : p' ≠ p := fun z => by
          subst z
          cases s0 with
          | own d0 =>
            obtain ⟨p2, e2, _, a2, _⟩ := q
            rw [hv] at e2; cases e2
            exact R.a0 _ n0 a2
          | par d0 => exact hj ((R.par j d ht).trans (R.par i d0 hs).symm)
          | _ => cases hm
        exact ⟨p', e, o.fresh x (fun w => ne (Option.some.inj w)) n, n0, np, o.moves x.ff fun u z => x.old p' u (fun w => ne (Option.some.inj w)) z⟩
  · have f : ∀ (a : Nat) d, (ρ.set i s)[a]? = some (.own d) → ∃ e, ρ[a]? = some (.own e) := fun a d z => by
      rcases get_set z with ⟨rfl, q⟩ | ⟨_, q⟩
      · rcases hn with rfl | ⟨c, rfl, _, _⟩
        · cases q
        · cases s0 with
          | own d0 => exact ⟨d0, hs⟩
          | par d0 => cases q
          | _ => cases hm
      · exact ⟨d, q⟩
    obtain ⟨d', q1⟩ := f a d h1
    obtain ⟨e', q2⟩ := f b e h2
    exact R.sep a b q d' e' q1 q2 h3 h4
  · rcases get_set z with ⟨rfl, q⟩ | ⟨_, q⟩
    · rcases hn with rfl | ⟨c, rfl, _, _⟩
      · cases q
      · cases s0 with
        | own d0 => cases q
        | par d0 => exact R.par j d0 hs
        | _ => cases hm
    · exact R.par j d q
  · obtain ⟨h1, h2, h3⟩ := R.pin b o hb
    have ne : b ≠ p := fun z => by rw [z, nP] at hb; cases hb
    exact ⟨x.old b o (fun w => ne (Option.some.inj w)) h1, x.pinned (by rw [h1]; exact fun z => nomatch z) h2, h3⟩
theorem Ext.upd {o : HO} (s : Same F H) (n : F p = none) (h : H p ≠ none) : Ext (some p) F H F (upd H p o) :=
  ⟨Same.refl F, fun b u q => by rw [upd_ne (ne_of_none q n)]; exact s _ _ q, fun b u hb q => by rw [upd_ne (fun z => hb (by rw [z]))]; exact q, fun b q => by
    by_cases hb : b = p
    · subst hb; rw [upd_same] at q; cases q
    · rwa [upd_ne hb] at q, fun _ _ q => .inl q⟩
end

/-! ### methods that change their object -/
def tyD : String → D → Bool
  | "list", .lst _ => true
  | "dict", .dic _ => true
  | _, _ => false
section
variable {Z : Ctx} {Y : Ent} {F G H L : Hp} {ρ ρ' : Env} {σ : L2.St} {v : V} {vl : Vl} {d : D}
theorem tyD_tyV {K : PySem.W.Frag} {mg : Str → Option Value} {T : String} {c : D} (s : Same F H) (r : RT K mg F H v c) (h : tyD T c = true) : tyV K T v H := by
  unfold tyD at h
  split at h
  · obtain ⟨a, xs, rfl, q, _⟩ := r.lst s
    exact .inl ⟨rfl, xs, SqL.of q⟩
  · obtain ⟨a, xs, rfl, q, _⟩ := r.dic s
    exact .inr (.inr (.inl ⟨rfl, .inl ⟨xs, q⟩⟩))
  · cases h
def OpMut (K : PySem.W.Frag) (mg : Str → Option Value) (r : V → List V → Hp → VK → Prop) (f : D → List D → Option (D × D)) : Prop :=
  ∀ (F H : Hp) (p : Addr) (c : D) (xs : List V) (ds : List D) (d c' : D) (Q : VK), Same F H → F p = none → Own K mg F H p c → Reps K mg F xs ds → f c ds = some (d, c') →
    (∀ o v, Own K mg F (upd H p o) p c' → Rep K mg F v d → Q v (upd H p o)) → r (.ref p) xs H Q
def vMut (T : String) (f : D → List D → Option (D × D)) (i : Nat) (fs : List SE) : SE := fun ρ => match (ρ[i]?).bind Slot.mu? with
  | none => .bad
  | some c0 => if tyD T c0 = true then obind (vArgs fs ρ) fun vs ρ1 => match escs ρ1 vs with
      | none => .bad
      | some (ds, ρ2) => match ρ2[i]? with
        | none => .bad
        | some s => match s.mu? with
          | none => .bad
          | some c => match f c ds with
            | some (d, c') => .ok (.sh d) (ρ2.set i (s.put c'))
            | none => .bad
    else .bad
theorem mut_end {K : PySem.W.Frag} {mg : Str → Option Value} {r : V → List V → Hp → VK → Prop} {f : D → List D → Option (D × D)} (op : OpMut K mg r f) {Q : VK} {i : Nat} {s : Slot} {c c' : D} {ds : List D} {xs : List V} (R : Rel K mg Y F ρ σ H) (hs : ρ[i]? = some s) (hm : s.mu? = some c)
    (hx : Reps K mg F xs ds) (hv : σ[i]? = some (some v)) (e : f c ds = some (d, c')) (P : OkQ K mg Y F σ Q (.sh d) (ρ.set i (s.put c'))) : r v xs H Q := by
  obtain ⟨p, e1, n, o⟩ := R.mu_at hs hm
  rw [hv] at e1; cases e1
  refine op F H p c xs ds d c' Q R.fh n o hx e fun ob w o' rw' => ?_
  exact P F _ w (Same.refl F) (R.move hs hm hv (Ext.upd R.fh n o.there) (.inr ⟨c', rfl, n, o'⟩)) rw'
theorem re_mut {T : String} {r : V → List V → Hp → VK → Prop} {f : D → List D → Option (D × D)} {t : TA} {i : Nat} {fs : List SE} (op : OpMut Z.X.K Z.X.mg r f) (h : RA Z t (vArgs fs)) : RE Z (tBM Z.X.K T r (tVar i) t) (vMut T f i fs) := by
  intro Y F ρ σ H Q R P
  unfold vMut at P
  split at P
  · exact P.elim
  · rename_i c0 e0
    obtain ⟨s0, hs0, hm0⟩ := Option.bind_eq_some_iff.mp e0
    obtain ⟨p, e1, n, o⟩ := R.mu_at hs0 hm0
    split at P
    · rename_i hT
      refine ⟨.ref p, e1, tyD_tyV R.fh (.mu o) hT, ?_⟩
      refine h Y F ρ σ H _ R (post_bind P fun vls ρ1 _ P1 => ?_)
      intro F1 H1 vs s1 R1 k1
      split at P1
      · exact P1.elim
      · rename_i ds ρ2 e2
        obtain ⟨G, s2, R2, r2⟩ := escs_all k1 (Same.refl F1) R1 e2
        split at P1
        · exact P1.elim
        · rename_i s hs
          split at P1
          · exact P1.elim
          · rename_i c hm
            split at P1
            · rename_i d c' e3
              exact mut_end op R2 hs hm r2 e1 e3 (OkQ.mono P1 (s1.trans s2))
            · exact P1.elim
    · exact P.elim
theorem re_mut0 {T : String} {r : V → List V → Hp → VK → Prop} {f : D → List D → Option (D × D)} {i : Nat} (op : OpMut Z.X.K Z.X.mg r f) : RE Z (tBM0 Z.X.K T r (tVar i)) (vMut T f i []) := by
  intro Y F ρ σ H Q R P
  unfold vMut at P
  split at P
  · exact P.elim
  · rename_i c0 e0
    obtain ⟨s0, hs0, hm0⟩ := Option.bind_eq_some_iff.mp e0
    obtain ⟨p, e1, n, o⟩ := R.mu_at hs0 hm0
    split at P
    · rename_i hT
      refine ⟨.ref p, e1, tyD_tyV R.fh (.mu o) hT, ?_⟩
      simp only [vArgs, obind_ok, escs, hs0, hm0] at P
      split at P
      · rename_i d c' e3
        exact mut_end op R hs0 hm0 .nil e1 e3 P
      · exact P.elim
    · exact P.elim
/-! methods that only read -/
def OpM (K : PySem.W.Frag) (mg : Str → Option Value) (r : V → List V → Hp → VK → Prop) (f : D → List D → Option Pv) : Prop :=
  ∀ (F H : Hp) (x : V) (c : D) (xs : List V) (ds : List D) (pv : Pv) (Q : VK), Same F H → RT K mg F H x c → RTs K mg F H xs ds → f c ds = some pv → PureQ K mg F H Q pv → r x xs H Q
def vM (T : String) (f : D → List D → Option Pv) (fa : SE) (fs : List SE) : SE := fun ρ => obind (fa ρ) fun va ρ1 => match look ρ1 va with
  | none => .bad
  | some c0 => if tyD T c0 = true then obind (vArgs fs ρ1) fun vs ρ2 => retP ((look ρ2 (frz va)).bind fun c => (looks ρ2 vs).bind fun ds => f c ds) ρ2 else .bad
theorem re_M {T : String} {r : V → List V → Hp → VK → Prop} {f : D → List D → Option Pv} {ta : TE} {t : TA} {fa : SE} {fs : List SE} (op : OpM Z.X.K Z.X.mg r f) (ha : RE Z ta fa) (h : RA Z t (vArgs fs)) : RE Z (tBM Z.X.K T r ta t) (vM T f fa fs) := by
  intro Y F ρ σ H Q R P
  refine ha Y F ρ σ H _ R (post_bind P fun va ρ1 _ P1 => ?_)
  intro F1 H1 x s1 R1 k1
  split at P1
  · exact P1.elim
  · rename_i c0 e0
    split at P1
    · rename_i hT
      refine ⟨tyD_tyV R1.fh (R1.reads k1 e0) hT, ?_⟩
      obtain ⟨F2, s2, R2, k2⟩ := keeps R1 k1
      have s12 := s1.trans s2
      refine h Y F2 ρ1 σ H1 _ R2 (post_bind (P1.mono s12 fun v ρ h => bv_mono s12 v ρ h) fun vls ρ2 _ P2 => ?_)
      intro F3 H3 vs s3 R3 k3
      cases e1 : look ρ2 (frz va) with
      | none => rw [e1] at P2; exact P2.elim
      | some c =>
        cases e2 : looks ρ2 vls with
        | none => rw [e1, e2] at P2; exact P2.elim
        | some ds =>
          rw [e1, e2] at P2
          cases e3 : f c ds with
          | none => simp only [Option.bind_some, e3] at P2; exact P2.elim
          | some pv =>
            simp only [Option.bind_some, e3] at P2
            exact op F3 H3 x c vs ds pv Q R3.fh (R3.reads ((k2.mono s3).vok) e1) (reads_all R3 k3 e2) e3 ((OkQ.mono P2 s3).pure R3)
    · exact P1.elim
end

/-! the methods -/
def mAppend : D → List D → Option (D × D)
  | .lst ds, [d] => if ds.length < sizeLine then some (.non, .lst (ds ++ [d])) else none
  | _, _ => none
def mPop : D → List D → Option (D × D)
  | .lst ds, [] => (ds[ds.length - 1]?).map fun d => (d, .lst ds.dropLast)
  | _, _ => none
def mPopAt : D → List D → Option (D × D)
  | .lst ds, [.int i] => if i.natAbs < 2 ^ 63 then (ixN ds.length i).bind fun k => (ds[k]?).map fun d => (d, .lst (ds.eraseIdx k)) else none
  | _, _ => none
def mReverse : D → List D → Option (D × D)
  | .lst ds, [] => some (.non, .lst ds.reverse)
  | _, _ => none
/-- the first place of an int -/
def findI (ns : List Int) (k : Int) : Option Nat := ns.findIdx? (· == k)
def mRemove : D → List D → Option (D × D)
  | .lst ds, [.int i] => (asInts ds).bind fun ns => (findI ns i).map fun j => (.non, .lst ((ns.eraseIdx j).map .int))
  | _, _ => none
def mCount : D → List D → Option Pv
  | .lst ds, [.int i] => (asInts ds).map fun ns => .sh (.int (ns.count i : Nat))
  | _, _ => none
def mIndex : D → List D → Option Pv
  | .lst ds, [.int i] => (asInts ds).bind fun ns => (findI ns i).map fun j => .sh (.int (j : Nat))
  | _, _ => none
section
variable {K : PySem.W.Frag} {mg : Str → Option Value} {X : Cx}
theorem append_append : OpMut K mg rAppend mAppend := by
  intro F H p c xs ds d c' Q s n o r e q
  unfold mAppend at e
  split at e
  · split at e
    · rename_i hl
      cases e
      obtain ⟨ys, h, z⟩ := o
      cases r with
      | cons r0 rr =>
        cases rr
        exact ⟨p, ys, _, rfl, rfl, h, by rw [z.len]; exact hl, q _ _ ⟨_, upd_same, z.app (.cons r0 .nil)⟩ .non⟩
    · cases e
  · cases e
theorem pop_pop : OpMut K mg rPop mPop := by
  intro F H p c xs ds d c' Q s n o r e q
  unfold mPop at e
  split at e
  · obtain ⟨w, h1, e⟩ := Option.map_eq_some_iff.mp e
    cases e
    obtain ⟨ys, h, z⟩ := o
    cases r
    rw [← z.len] at h1
    obtain ⟨y, h2, h3⟩ := z.get h1
    exact ⟨p, ys, y, rfl, rfl, h, h2, q _ _ ⟨_, upd_same, z.dropLast⟩ h3⟩
  · cases e
theorem popAt_popAt : OpMut K mg rPopAt mPopAt := by
  intro F H p c xs ds d c' Q s n o r e q
  unfold mPopAt at e
  split at e
  · split at e
    · rename_i hb
      obtain ⟨k, h1, e⟩ := Option.bind_eq_some_iff.mp e
      obtain ⟨w, h2, e⟩ := Option.map_eq_some_iff.mp e
      cases e
      obtain ⟨ys, h, z⟩ := o
      cases r with
      | cons r0 rr =>
        cases rr
        cases r0
        rw [← z.len] at h1
        obtain ⟨y, h3, h4⟩ := z.get h2
        exact ⟨p, ys, _, k, y, rfl, rfl, h, by omega, by omega, (ixN_seq h1).1, h3, q _ _ ⟨_, upd_same, z.eraseIdx k⟩ h4⟩
    · cases e
  · cases e
theorem reverse_reverse : OpMut K mg rReverse mReverse := by
  intro F H p c xs ds d c' Q s n o r e q
  unfold mReverse at e
  split at e
  · cases e
    obtain ⟨ys, h, z⟩ := o
    cases r
    exact ⟨p, ys, rfl, rfl, h, q _ _ ⟨_, upd_same, z.reverse⟩ .non⟩
  · cases e
theorem findI_some {ns : List Int} {k : Int} {j : Nat} (h : findI ns k = some j) : ns[j]? = some k ∧ ∀ m, m < j → ns[m]? ≠ some k := by
  unfold findI at h
  rw [List.findIdx?_eq_some_iff_getElem] at h
  obtain ⟨hj, h1, h2⟩ := h
  refine ⟨by rw [List.getElem?_eq_getElem hj]; simpa using h1, fun m hm z => ?_⟩
  have q := h2 m hm
  rw [List.getElem?_eq_getElem (Nat.lt_trans hm hj)] at z
  have z' := Option.some.inj z
  simp [z'] at q
theorem remove_remove : OpMut K mg rRemI mRemove := by
  intro F H p c xs ds d c' Q s n o r e q
  unfold mRemove at e
  split at e
  · obtain ⟨ns, h1, e⟩ := Option.bind_eq_some_iff.mp e
    obtain ⟨j, h2, e⟩ := Option.map_eq_some_iff.mp e
    cases e
    obtain ⟨ys, h, z⟩ := o
    cases r with
    | cons r0 rr =>
      cases rr
      cases r0
      rw [asInts_eq h1] at z
      rw [z.ints] at h
      obtain ⟨f1, f2⟩ := findI_some h2
      exact ⟨p, ns, _, j, rfl, rfl, h, f1, f2, q _ _ ⟨_, upd_same, reps_ints _⟩ .non⟩
  · cases e
theorem count_count : OpM K mg (rCntI K) mCount := by
  intro F H x c xs ds pv Q s r rs e q
  unfold mCount at e
  split at e
  · obtain ⟨ns, h1, e⟩ := Option.map_eq_some_iff.mp e
    subst e
    obtain ⟨y, rfl, ry⟩ := rs.one
    obtain ⟨a, rfl, h⟩ := ints_at s r h1
    have ey := ry.int
    subst ey
    exact ⟨a, ns, _, rfl, rfl, SqL.of h, q.atom s (.int _)⟩
  · cases e
theorem flat_ints : ∀ ns : List Int, (ns.map V.int).all flatV = true
  | [] => rfl
  | n :: ns => by simpa [flatV] using flat_ints ns
theorem index_index : OpM K mg (rIndex K) mIndex := by
  intro F H x c xs ds pv Q s r rs e q
  unfold mIndex at e
  split at e
  · obtain ⟨ns, h1, e⟩ := Option.bind_eq_some_iff.mp e
    obtain ⟨j, h2, e⟩ := Option.map_eq_some_iff.mp e
    subst e
    obtain ⟨y, rfl, ry⟩ := rs.one
    obtain ⟨a, rfl, h⟩ := ints_at s r h1
    have ey := ry.int
    subst ey
    obtain ⟨f1, f2⟩ := findI_some h2
    refine ⟨a, ns.map V.int, _, j, V.int _, rfl, rfl, SqL.of h, rfl, flat_ints ns, by rw [List.getElem?_map, f1]; rfl, by simp [eqV], fun m z' hm hz => ?_, q.atom s (.int _)⟩
    rw [List.getElem?_map] at hz
    obtain ⟨w, h3, h4⟩ := Option.map_eq_some_iff.mp hz
    subst h4
    have ne : w ≠ _ := fun z => f2 m hm (by rw [h3, z])
    simp [eqV, ne]
  · cases e
end
end VL
/-! V6: fields, calls of defs -/
namespace VL
open PySem PySem.Spec PyProof.Rows L2

/-! ### fields -/
def opFld (okC : Str → Bool) (f : Str) : D → Option Pv
  | .obj c fs => if okC c = true then (fs.lookup f).map .sh else none
  | _ => none
abbrev rFld (K : PySem.W.Frag) (f : Str) : V → Hp → VK → Prop := fun x H1 Q => ∃ a C dx fs v, x = .ref a ∧ H1 a = some (.ins C dx fs) ∧ Cls K C ∧ NoAttr K C f ∧ fs.lookup f = some v ∧ Q v H1
/-- what is known of the classes whose field f is read or stored -/
def FldOk (K : PySem.W.Frag) (mg : Str → Option Value) (okC : Str → Bool) (f : Str) : Prop := ∀ c C, okC c = true → mg c = some (.ref C) → Cls K C ∧ NoAttr K C f
section
variable {K : PySem.W.Frag} {mg : Str → Option Value} {X : Cx}
theorem fld_fld {okC : Str → Bool} {f : Str} (ok : FldOk K mg okC f) : Op1 K mg (rFld K f) (opFld okC f) := by
  intro F H x a pv Q s r e q
  unfold opFld at e
  split at e
  · split at e
    · rename_i hc
      obtain ⟨d, h, e⟩ := Option.map_eq_some_iff.mp e
      subst e
      obtain ⟨p, C, dx, fs, rfl, h1, hm, z⟩ := r.obj s
      obtain ⟨k1, k2⟩ := ok _ C hc hm
      obtain ⟨y, h2, h3⟩ := z.look h
      exact ⟨p, C, dx, fs, y, rfl, h1, k1, k2, h2, q.atom s h3⟩
    · cases e
  · cases e
end

/-! ### what a def gives -/
inductive FR where
  /-- the value, and what stands in the first argument's object behind the call -/
  | ret (p : Pv) (c : D)
  | exn (c : Str) (w : D)
  | bad
structure FSpec where
  own0 : Bool
  run : List D → FR
section
variable (K : PySem.W.Frag) (mg : Str → Option Value)
/-- what comes back -/
def RetOk (H G L : Hp) (v : V) : Pv → Prop
  | .sh d => Rep K mg G v d
  | .fr d => ∃ q, v = .ref q ∧ H q = none ∧ G q = none ∧ Own K mg G L q d
def spB (H : Hp) (Q : VK) (E : XK) (F : Hp) (a : Option Addr) : FR → Prop
  | .ret p c => ∀ G L v, Ext a F H G L → (∀ x, a = some x → G x = none ∧ Own K mg G L x c) → RetOk K mg H G L v p → Q v L
  | .exn c w => ∀ G L C dd fs x, Ext a F H G L → mg c = some (.ref C) → L dd = some (.xd fs) → fs.lookup ("what" : Str) = some x → Rep K mg G x w → E (.ref C) (some dd) L
  | .bad => False
/-- the promise -/
def FSpec.sp (S : FSpec) : Sp := fun vs H Q E => if S.own0 = true then
    ∃ F a d0 vs' ds, vs = .ref a :: vs' ∧ Same F H ∧ F a = none ∧ Own K mg F H a d0 ∧ Reps K mg F vs' ds ∧ spB K mg H Q E F (some a) (S.run (d0 :: ds))
  else ∃ F ds, Same F H ∧ Reps K mg F vs ds ∧ spB K mg H Q E F none (S.run ds)
end
section
variable {K : PySem.W.Frag} {mg : Str → Option Value}
theorem FSpec.sp_t {S : FSpec} (hb : S.own0 = true) (vs : List V) (H : Hp) (Q : VK) (E : XK) : S.sp K mg vs H Q E =
    ∃ F a d0 vs' ds, vs = .ref a :: vs' ∧ Same F H ∧ F a = none ∧ Own K mg F H a d0 ∧ Reps K mg F vs' ds ∧ spB K mg H Q E F (some a) (S.run (d0 :: ds)) := if_pos hb
theorem FSpec.sp_f {S : FSpec} (hb : S.own0 = false) (vs : List V) (H : Hp) (Q : VK) (E : XK) : S.sp K mg vs H Q E =
    ∃ F ds, Same F H ∧ Reps K mg F vs ds ∧ spB K mg H Q E F none (S.run ds) := if_neg (by rw [hb]; exact Bool.false_ne_true)
theorem FSpec.sp_weak {S T : FSpec} (h0 : S.own0 = T.own0) (h : ∀ ds, S.run ds ≠ .bad → T.run ds = S.run ds) : ∀ vs H Q E, S.sp K mg vs H Q E → T.sp K mg vs H Q E := by
  intro vs H Q E q
  cases hb : T.own0 with
  | true =>
    rw [FSpec.sp_t (h0.trans hb)] at q
    rw [FSpec.sp_t hb]
    obtain ⟨F, a, d0, vs', ds, e, s, n, o, r, b⟩ := q
    refine ⟨F, a, d0, vs', ds, e, s, n, o, r, ?_⟩
    rw [h _ (fun z => by rw [z] at b; exact b)]
    exact b
  | false =>
    rw [FSpec.sp_f (h0.trans hb)] at q
    rw [FSpec.sp_f hb]
    obtain ⟨F, ds, s, r, b⟩ := q
    refine ⟨F, ds, s, r, ?_⟩
    rw [h _ (fun z => by rw [z] at b; exact b)]
    exact b
end

/-! ### calls -/
def vCallR (S : FSpec) (i : Option Nat) (ρ : Env) (r : FR) : Out := match r with
  | .ret p c => .ok p.vl (match i with | none => ρ | some i => match ρ[i]? with | some s => ρ.set i (s.put c) | none => ρ)
  | .exn c w => .exn c w (match i with | none => ρ | some i => ρ.set i .no)
  | .bad => .bad
/-- data without anything that could be changed -/
def pureD : Nat → D → Bool
  | 0, _ => false
  | _ + 1, .non => true
  | _ + 1, .bl _ => true
  | _ + 1, .int _ => true
  | _ + 1, .str _ => true
  | n + 1, .tup ds => ds.all (pureD n)
  | _ + 1, _ => false
def purePv : Pv → Bool
  | .sh d => pureD 4 d
  | .fr (.lst ds) => ds.all (pureD 4)
  | .fr (.dic ks) => ks.all fun kv => pureD 4 kv.2
  | _ => false
def pureFR : FR → Bool
  | .ret p _ => purePv p
  | .exn _ w => pureD 4 w
  | .bad => false
def vCallV (S : FSpec) (vs : List Vl) (ρ : Env) : Out :=
  if S.own0 = true then match vs with
    | .al i :: vs' => match escs ρ vs' with
      | none => .bad
      | some (ds, ρ2) => match (ρ2[i]?).bind Slot.mu? with
        | none => .bad
        | some c0 => vCallR S (some i) ρ2 (S.run (c0 :: ds))
    | _ => .bad
  else match looks ρ vs with
    | none => .bad
    | some ds => if pureFR (S.run ds) = true then vCallR S none ρ (S.run ds) else match escs ρ vs with
      | none => .bad
      | some (ds, ρ2) => vCallR S none ρ2 (S.run ds)
def vCall (S : FSpec) (fs : List SE) : SE := fun ρ => obind (vArgs fs ρ) fun vs ρ1 => vCallV S vs ρ1
/-- a new instance -/
def vMake (c : Str) (S : FSpec) (fs : List SE) : SE := fun ρ => obind (vArgs fs ρ) fun vs ρ1 => match escs ρ1 vs with
  | none => .bad
  | some (ds, ρ2) => match S.run (.obj c [] :: ds) with
    | .ret (.sh .non) c' => .ok (.fr c') ρ2
    | _ => .bad
/-- a method of an own class, nothing raised -/
def vMeth (c : Str) (m : Str) (S : FSpec) (fa : SE) (fs : List SE) : SE := fun ρ => obind (fa ρ) fun va ρ1 => match look ρ1 va with
  | some (.obj c' fl) => if c' = c ∧ fl.lookup m = none then obind (vArgs fs ρ1) fun vs ρ2 => match escs ρ2 (frz va :: vs) with
      | none => .bad
      | some (ds, ρ3) => match S.run ds with
        | .ret p _ => .ok p.vl ρ3
        | _ => .bad
    else .bad
  | _ => .bad

section
variable {Z : Ctx} {Y : Ent} {F G H L : Hp} {ρ ρ' : Env} {σ : L2.St} {v : V} {vl : Vl} {d : D}
theorem no_pin (R : Z.R Y F ρ σ H) {q : Addr} (n : H q = none) : Y.P q = none := by
  cases e : Y.P q with
  | none => rfl
  | some u => rw [(R.pin q u e).1] at n; cases n
theorem ret_vok (R : Z.R Y F ρ σ H) {p : Pv} (r : RetOk Z.X.K Z.X.mg H G L v p) (ns : ∀ q, H q = none → ∀ (j : Nat) d, ρ'[j]? = some (.own d) → σ[j]? ≠ some (some (.ref q))) : VOk Z.X.K Z.X.mg Y G ρ' σ L v p.vl := by
  cases p with
  | sh d => exact r
  | fr d =>
    obtain ⟨q, e, n, nG, o⟩ := r
    exact ⟨q, e, nG, R.ext.dom q n, no_pin R n, ns q n, o⟩
theorem no_slot (R : Z.R Y F ρ σ H) : ∀ q, H q = none → ∀ (j : Nat) d, ρ[j]? = some (.own d) → σ[j]? ≠ some (some (.ref q)) := by
  intro q n j d hs z
  obtain ⟨p', e', _, _, _, o'⟩ := R.slot j _ hs
  rw [z] at e'; cases e'
  exact o'.there n
theorem no_slot_set (R : Z.R Y F ρ σ H) {i : Nat} {s : Slot} {c : D} (hs0 : ρ[i]? = some s) : ∀ q, H q = none → ∀ (j : Nat) d, (ρ.set i (s.put c))[j]? = some (.own d) → σ[j]? ≠ some (some (.ref q)) := by
  intro q n j d hs
  rcases get_set hs with ⟨rfl, e⟩ | ⟨_, e⟩
  · cases s with
    | own d0 => exact no_slot R q n j d0 hs0
    | _ => cases e
  · exact no_slot R q n j d e
/-! ### lent objects -/
def mutO : Option HO → Bool
  | some (.lst _) => true
  | some (.dK _) => true
  | some (.dT _) => true
  | some (.ins _ _ _) => true
  | _ => false
/-- what stands still, and all that could be changed, for the time of a call -/
def lentF (F H : Hp) : Hp := fun b => if F b = none ∧ mutO (H b) = true then H b else F b
/-- and behind the call: the new things of the call, of the old ones those that stood still -/
def backF (F H G : Hp) : Hp := fun b => if lentF F H b = none then G b else F b
theorem lent_ff (s : Same F H) : Same F (lentF F H) := fun b u e => by
  unfold lentF
  rw [if_neg (fun z => by rw [z.1] at e; cases e)]
  exact e
theorem lent_fh (s : Same F H) : Same (lentF F H) H := fun b u e => by
  unfold lentF at e
  split at e
  · exact e
  · exact s b u e
theorem lent_ext (s : Same F H) (x : Ext none (lentF F H) H G L) : Ext none F H (backF F H G) L where
  ff := fun b u e => by
    unfold backF
    rw [if_neg (by rw [lent_ff s b u e]; exact fun z => nomatch z)]
    exact e
  fh := fun b u e => by
    unfold backF at e
    split at e
    · exact x.fh b u e
    · exact x.fh b u (x.ff b u (lent_ff s b u e))
  old := x.old
  dom := x.dom
  new := fun b h e => by
    unfold backF
    split
    · rename_i h2
      exact x.new b h h2
    · exact .inl e
theorem back_tup {a : Addr} {xs : List V} (s : Same F H) (x : Ext none (lentF F H) H G L) (h : G a = some (.tup xs)) : backF F H G a = some (.tup xs) := by
  unfold backF
  split
  · exact h
  · rename_i hn
    cases e : lentF F H a with
    | none => exact absurd e hn
    | some u =>
      have e2 := x.ff a u e
      rw [h] at e2; cases e2
      unfold lentF at e
      split at e
      · rename_i hm
        rw [e] at hm
        exact absurd hm.2 (by simp [mutO])
      · exact e
theorem back_repsF {K : PySem.W.Frag} {mg : Str → Option Value} {G G' : Hp} {f : D → Bool} (h1 : ∀ v d, f d = true → Rep K mg G v d → Rep K mg G' v d) : ∀ {ds : List D} {vs : List V}, ds.all f = true → Reps K mg G vs ds → Reps K mg G' vs ds
  | [], _, _, r => by cases r; exact .nil
  | d :: ds, _, h, r => by
    rw [List.all_cons, Bool.and_eq_true] at h
    cases r with
    | cons r rs => exact .cons (h1 _ _ h.1 r) (back_repsF h1 h.2 rs)
theorem back_rep {K : PySem.W.Frag} {mg : Str → Option Value} (s : Same F H) (x : Ext none (lentF F H) H G L) : ∀ (n : Nat) (v : V) (d : D), pureD n d = true → Rep K mg G v d → Rep K mg (backF F H G) v d
  | 0, _, _, h, _ => by cases h
  | n + 1, v, d, h, r => by
    cases d with
    | non => cases r; exact .non
    | bl b => cases r; exact .bl b
    | int b => cases r; exact .int b
    | str b => cases r; exact .str b
    | tup ds =>
      cases r with
      | tup e r => exact .tup (back_tup s x e) (back_repsF (back_rep s x n) h r)
    | _ => cases h
theorem back_reps {K : PySem.W.Frag} {mg : Str → Option Value} (s : Same F H) (x : Ext none (lentF F H) H G L) {n : Nat} {vs : List V} {ds : List D} (h : ds.all (pureD n) = true) (r : Reps K mg G vs ds) : Reps K mg (backF F H G) vs ds := back_repsF (back_rep s x n) h r
theorem back_repK {K : PySem.W.Frag} {mg : Str → Option Value} (s : Same F H) (x : Ext none (lentF F H) H G L) : ∀ {n : Nat} {vs : List (Key × V)} {ds : List (Key × D)}, (ds.all fun kv => pureD n kv.2) = true → RepK K mg G vs ds → RepK K mg (backF F H G) vs ds
  | _, _, _, _, .nil => .nil
  | n, _, _, h, .cons r rs => by
    rw [List.all_cons, Bool.and_eq_true] at h
    exact .cons (back_rep s x _ _ _ h.1 r) (back_repK s x h.2 rs)
theorem back_ret {K : PySem.W.Frag} {mg : Str → Option Value} {p : Pv} (s : Same F H) (x : Ext none (lentF F H) H G L) (h : purePv p = true) (r : RetOk K mg H G L v p) : RetOk K mg H (backF F H G) L v p := by
  cases p with
  | sh d => exact back_rep s x _ _ _ h r
  | fr d =>
    obtain ⟨q, e, n, nG, o⟩ := r
    have nl : lentF F H q = none := (lent_fh s).free n
    refine ⟨q, e, n, by unfold backF; rw [if_pos nl]; exact nG, ?_⟩
    cases d with
    | lst ds => obtain ⟨xs, e2, r2⟩ := o; exact ⟨xs, e2, back_reps s x h r2⟩
    | dic ds => obtain ⟨xs, e2, r2⟩ := o; exact ⟨xs, e2, back_repK s x h r2⟩
    | _ => cases h
theorem lent_rt {K : PySem.W.Frag} {mg : Str → Option Value} (s : Same F H) (r : RT K mg F H v d) : Rep K mg (lentF F H) v d := by
  cases r with
  | fz r => exact r.mono (lent_ff s)
  | mu o =>
    have key : ∀ {p : Addr} {u : HO}, H p = some u → mutO (some u) = true → lentF F H p = some u := fun {p u} e hm => by
      unfold lentF
      split
      · exact e
      · rename_i hn
        cases e2 : F p with
        | none => exact absurd ⟨e2, by rw [e]; exact hm⟩ hn
        | some w => have := s p w e2; rw [e] at this; exact this.symm
    cases d with
    | lst ds => obtain ⟨xs, q, r⟩ := o; exact .lst (key q rfl) (r.mono (lent_ff s))
    | dic ds => obtain ⟨xs, q, r⟩ := o; exact .dic (key q rfl) (r.mono (lent_ff s))
    | dit ds => obtain ⟨xs, q, r⟩ := o; exact .dit (key q rfl) (r.mono (lent_ff s))
    | obj c ds => obtain ⟨C, dx, fs, q, m, r⟩ := o; exact .obj (key q rfl) m (r.mono (lent_ff s))
    | _ => exact o.elim
theorem lent_rts {K : PySem.W.Frag} {mg : Str → Option Value} {vs : List V} {ds : List D} (s : Same F H) (r : RTs K mg F H vs ds) : Reps K mg (lentF F H) vs ds := by
  induction r with
  | nil => exact .nil
  | cons a _ ih => exact .cons (lent_rt s a) ih
theorem re_callV {S : FSpec} {Q : VK} {vs : List V} {vls : List Vl} (R : Z.R Y F ρ σ H) (k : AOks Z F σ vs vls) (P : Post (BV Z Y σ Q) Z Y σ F (vCallV S vls ρ)) : S.sp Z.X.K Z.X.mg vs H Q (fun cls d L => Z.W cls d σ L) := by
  unfold vCallV at P
  unfold FSpec.sp
  split at P
  · rename_i hb
    rw [if_pos hb]
    split at P
    · rename_i i vls'
      cases k with
      | @cons v _ vs' _ k0 kr =>
        split at P
        · exact P.elim
        · rename_i ds ρ2 e2
          obtain ⟨G, s2, R2, r2⟩ := escs_all kr (Same.refl F) R e2
          split at P
          · exact P.elim
          · rename_i c0 e0
            obtain ⟨sl, hs, hm⟩ := Option.bind_eq_some_iff.mp e0
            obtain ⟨p, e1, n, o⟩ := R2.mu_at hs hm
            have k0' : σ[i]? = some (some v) := k0
            rw [k0'] at e1; cases e1
            refine ⟨G, p, c0, vs', ds, rfl, R2.fh, n, o, r2, ?_⟩
            cases e : S.run (c0 :: ds) with
            | bad => rw [e] at P; exact P.elim
            | ret pv c =>
              rw [e] at P
              intro G2 L w x own r
              obtain ⟨n2, o2⟩ := own p rfl
              simp only [vCallR, hs] at P
              have R3 := R2.move hs hm k0' x (.inr ⟨c, rfl, n2, o2⟩)
              exact P G2 L w (s2.trans x.ff) R3 (ret_vok R2 r (no_slot_set R2 hs))
            | exn cn w =>
              rw [e] at P
              intro G2 L C dd fs y x hmg hdd hfs hr
              exact P G2 L C dd fs y (s2.trans x.ff) (R2.move hs hm k0' x (.inl rfl)) hmg hdd hfs hr
    · exact P.elim
  · rename_i hb
    rw [if_neg hb]
    split at P
    · exact P.elim
    · rename_i ds0 e0
      split at P
      · rename_i hp
        refine ⟨lentF F H, ds0, lent_fh R.fh, lent_rts R.fh (reads_all R k e0), ?_⟩
        cases e : S.run ds0 with
        | bad => rw [e] at P; exact P.elim
        | ret pv c =>
          rw [e] at P hp
          intro G2 L w x own r
          have x2 := lent_ext R.fh x
          exact P _ L w x2.ff (R.grow x2) (ret_vok R (back_ret R.fh x hp r) (no_slot R))
        | exn cn w =>
          rw [e] at P hp
          intro G2 L C dd fs y x hmg hdd hfs hr
          have x2 := lent_ext R.fh x
          exact P _ L C dd fs y x2.ff (R.grow x2) hmg hdd hfs (back_rep R.fh x _ _ _ hp hr)
      · split at P
        · exact P.elim
        · rename_i ds ρ2 e2
          obtain ⟨G, s2, R2, r2⟩ := escs_all k (Same.refl F) R e2
          refine ⟨G, ds, R2.fh, r2, ?_⟩
          cases e : S.run ds with
          | bad => rw [e] at P; exact P.elim
          | ret pv c =>
            rw [e] at P
            intro G2 L w x own r
            exact P G2 L w (s2.trans x.ff) (R2.grow x) (ret_vok R2 r (no_slot R2))
          | exn cn w =>
            rw [e] at P
            intro G2 L C dd fs y x hmg hdd hfs hr
            exact P G2 L C dd fs y (s2.trans x.ff) (R2.grow x) hmg hdd hfs hr
theorem re_call {S : FSpec} {t : TA} {fs : List SE} (h : RA Z t (vArgs fs)) : RE Z (tCallS (S.sp Z.X.K Z.X.mg) (fun σ cls d H => Z.W cls d σ H) t) (vCall S fs) := by
  intro Y F ρ σ H Q R P
  refine h Y F ρ σ H _ R (post_bind P fun vls ρ1 _ P1 => ?_)
  intro F1 H1 vs s1 R1 k1
  exact re_callV R1 k1 (Post.mono P1 s1 fun v ρ q => bv_mono s1 v ρ q)
theorem re_make {c : Str} {C : Addr} {S : FSpec} {E : XK} {t : TA} {fs : List SE} (hb : S.own0 = true) (hC : Z.X.mg c = some (.ref C)) (h : RA Z t (vArgs fs)) : RE Z (tMake C (S.sp Z.X.K Z.X.mg) [] E t) (vMake c S fs) := by
  intro Y F ρ σ H Q R P
  refine h Y F ρ σ H _ R (post_bind P fun vls ρ1 _ P1 => ?_)
  intro F1 H1 vs s1 R1 k1 x dx nx ndx ne
  split at P1
  · exact P1.elim
  · rename_i ds ρ2 e2
    obtain ⟨G, s2, R2, r2⟩ := escs_all k1 (Same.refl F1) R1 e2
    unfold FSpec.sp
    rw [if_pos hb]
    have x1 := Ext.lay (o := HO.own x) R2.fh ndx
    have nx1 : upd H1 dx (.own x) x = none := by rw [upd_ne (Ne.symm ne)]; exact nx
    have x2 := Ext.lay (o := HO.ins C dx []) x1.fh nx1
    have x3 := x1.trans x2
    have nG : G x = none := R2.fh.free nx
    refine ⟨G, x, .obj c [], vs ++ [], ds, rfl, x3.fh, nG, ⟨C, dx, [], upd_same, hC, .nil⟩, by rw [List.append_nil]; exact r2, ?_⟩
    split at P1
    · rename_i c' e3
      rw [e3]
      intro G2 L w y own r
      obtain ⟨n2, o2⟩ := own x rfl
      refine ⟨by cases r; rfl, ?_⟩
      have x4 : Ext none G H1 G2 L := ⟨y.ff, y.fh, fun b o _ q => y.old b o (fun z => by cases z; rw [nx] at q; cases q) (x3.old b o (fun z => nomatch z) q), fun b q => x3.dom b (y.dom b q), fun b hb q => y.new b (fun z => hb (x3.dom b z)) q⟩
      exact P1 G2 L (.ref x) ((s1.trans s2).trans y.ff) (R2.grow x4) ⟨x, rfl, n2, R2.ext.dom x nx, no_pin R2 nx, no_slot R2 x nx, o2⟩
    · exact P1.elim
theorem re_meth {c m : Str} {C : Addr} {S : FSpec} {E : XK} {ta : TE} {t : TA} {fa : SE} {fs : List SE} (hb : S.own0 = false) (hC : Z.X.mg c = some (.ref C)) (ha : RE Z ta fa) (h : RA Z t (vArgs fs)) :
    RE Z (tMeth C m (S.sp Z.X.K Z.X.mg) [] E ta t) (vMeth c m S fa fs) := by
  intro Y F ρ σ H Q R P
  refine ha Y F ρ σ H _ R (post_bind P fun va ρ1 _ P1 => ?_)
  intro F1 H1 x s1 R1 k1
  split at P1
  · rename_i c' fl e1
    split at P1
    · rename_i hc
      obtain ⟨rfl, hl⟩ := hc
      obtain ⟨a, C', dx, fs', rfl, h1, hm, z⟩ := (R1.reads k1 e1).obj R1.fh
      rw [hC] at hm; cases hm
      refine ⟨a, dx, fs', rfl, h1, z.lookN hl, ?_⟩
      obtain ⟨F2, s2, R2, k2⟩ := keeps R1 k1
      have s12 := s1.trans s2
      refine h Y F2 ρ1 σ H1 _ R2 (post_bind (P1.mono s12 fun v ρ h => bv_mono s12 v ρ h) fun vls ρ2 _ P2 => ?_)
      intro F3 H3 vs s3 R3 k3
      split at P2
      · exact P2.elim
      · rename_i ds ρ3 e2
        obtain ⟨G, s4, R4, r4⟩ := escs_all (.cons (k2.mono s3) k3) (Same.refl F3) R3 e2
        unfold FSpec.sp
        rw [if_neg (by rw [hb]; exact Bool.false_ne_true)]
        refine ⟨G, ds, R4.fh, by rw [List.append_nil]; exact r4, ?_⟩
        split at P2
        · rename_i pv c2 e3
          rw [e3]
          intro G2 L w y own r
          exact P2 G2 L w ((s3.trans s4).trans y.ff) (R4.grow y) (ret_vok R4 r (no_slot R4))
        · exact P2.elim
    · exact P1.elim
  · exact P1.elim
end
end VL
/-! V7: statements, loops, comprehensions -/
namespace VL
open PySem PySem.Spec PyProof.Rows L2

inductive Fl where
  | nx (ρ : Env)
  | ret (v : Vl) (ρ : Env)
  | bk (ρ : Env)
  | ct (ρ : Env)
  | exn (c : Str) (w : D) (ρ : Env)
  | bad
abbrev SS := Env → Fl
def SPost (Z : Ctx) (Y : Ent) (D : Ends) (F : Hp) : Fl → Prop
  | .nx ρ => ∀ G σ L, Same F G → Z.R Y G ρ σ L → D.nx σ L
  | .ret vl ρ => ∀ G σ L v, Same F G → Z.R Y G ρ σ L → VOk Z.X.K Z.X.mg Y G ρ σ L v vl → D.rt v L
  | .bk ρ => ∀ G σ L, Same F G → Z.R Y G ρ σ L → D.bk σ L
  | .ct ρ => ∀ G σ L, Same F G → Z.R Y G ρ σ L → D.ct σ L
  | .exn c w ρ => ∀ σ, ExnQ Z Y σ F c w ρ
  | .bad => False
theorem SPost.mono {Z : Ctx} {Y : Ent} {D : Ends} {F G : Hp} {o : Fl} (h : SPost Z Y D F o) (s : Same F G) : SPost Z Y D G o := by
  cases o with
  | nx ρ => exact fun G2 σ L s2 => h G2 σ L (s.trans s2)
  | ret v ρ => exact fun G2 σ L v s2 => h G2 σ L v (s.trans s2)
  | bk ρ => exact fun G2 σ L s2 => h G2 σ L (s.trans s2)
  | ct ρ => exact fun G2 σ L s2 => h G2 σ L (s.trans s2)
  | exn c w ρ => exact fun σ => (h σ).mono s
  | bad => exact h
def sBind {α : Type} (o : OutG α) (k : α → Env → Fl) : Fl := match o with
  | .ok v ρ => k v ρ
  | .exn c w ρ => .exn c w ρ
  | .bad => .bad
@[simp] theorem sBind_ok {α : Type} (v : α) (ρ : Env) (k : α → Env → Fl) : sBind (.ok v ρ) k = k v ρ := rfl
@[simp] theorem sBind_exn {α : Type} (c : Str) (w : D) (ρ : Env) (k : α → Env → Fl) : sBind (.exn c w ρ : OutG α) k = .exn c w ρ := rfl
@[simp] theorem sBind_bad {α : Type} (k : α → Env → Fl) : sBind (.bad : OutG α) k = .bad := rfl
theorem spost_bind {α : Type} {A : Hp → α → Env → Prop} {Z : Ctx} {Y : Ent} {σ : L2.St} {F : Hp} {D : Ends} {o : OutG α} {k : α → Env → Fl} (P : SPost Z Y D F (sBind o k))
    (h : ∀ v ρ, o = .ok v ρ → SPost Z Y D F (k v ρ) → A F v ρ) : Post A Z Y σ F o := by
  cases o with
  | ok v ρ => exact h v ρ rfl P
  | exn c w ρ => exact P σ
  | bad => exact P
def RS (Z : Ctx) (t : TS) (f : SS) : Prop := ∀ Y F ρ σ H D, Z.R Y F ρ σ H → SPost Z Y D F (f ρ) → t D σ H
def VS (Z : Ctx) (st : Stmt) (f : SS) : Prop := ∃ t, PS Z.X st t ∧ RS Z t f
def VSs (Z : Ctx) (sts : List Stmt) (f : SS) : Prop := ∃ t, PSs Z.X sts t ∧ RS Z t f

section
variable {Z : Ctx} {Y : Ent} {F G H L : Hp} {ρ ρ' : Env} {σ : L2.St} {v : V} {vl : Vl} {d : D}
/-! ### blocks -/
def sNext : SS := fun ρ => .nx ρ
def sSeq (f g : SS) : SS := fun ρ => match f ρ with
  | .nx ρ1 => g ρ1
  | r => r
theorem rs_next : RS Z tNext sNext := fun Y F ρ σ H D R P => P F σ H (Same.refl F) R
theorem rs_seq {t u : TS} {f g : SS} (h1 : RS Z t f) (h2 : RS Z u g) : RS Z (tSeq t u) (sSeq f g) := by
  intro Y F ρ σ H D R P
  refine h1 Y F ρ σ H _ R ?_
  unfold sSeq at P
  cases e : f ρ with
  | nx ρ1 =>
    rw [e] at P
    exact fun G σ' L s R1 => h2 Y G ρ1 σ' L D R1 (P.mono s)
  | ret v ρ1 => rw [e] at P; exact P
  | bk ρ1 => rw [e] at P; exact P
  | ct ρ1 => rw [e] at P; exact P
  | exn c w ρ1 => rw [e] at P; exact P
  | bad => rw [e] at P; exact P
def sBreak : SS := fun ρ => .bk ρ
def sCont : SS := fun ρ => .ct ρ
theorem rs_break : RS Z tBreak sBreak := fun Y F ρ σ H D R P => P F σ H (Same.refl F) R
theorem rs_cont : RS Z tCont sCont := fun Y F ρ σ H D R P => P F σ H (Same.refl F) R
def sExpr (f : SE) : SS := fun ρ => sBind (f ρ) fun _ ρ1 => .nx ρ1
theorem rs_expr {t : TE} {f : SE} (h : RE Z t f) : RS Z (tDrop t) (sExpr f) := fun Y F ρ σ H D R P =>
  h Y F ρ σ H _ R (spost_bind P fun v ρ1 _ P1 => fun G L w s R1 _ => P1 G σ L s R1)
def sRet (f : SE) : SS := fun ρ => sBind (f ρ) fun v ρ1 => .ret v ρ1
def sRetN : SS := fun ρ => .ret (.sh .non) ρ
theorem rs_ret {t : TE} {f : SE} (h : RE Z t f) : RS Z (tRet t) (sRet f) := fun Y F ρ σ H D R P =>
  h Y F ρ σ H _ R (spost_bind P fun v ρ1 _ P1 => fun G L w s R1 k => P1 G σ L w s R1 k)
theorem rs_retN : RS Z tRetN sRetN := fun Y F ρ σ H D R P => P F σ H .non (Same.refl F) R .non
def sIf (g : STst) (f f' : SS) : SS := fun ρ => sBind (g ρ) fun b ρ1 => if b = true then f ρ1 else f' ρ1
theorem rs_if {c : TT} {t u : TS} {g : STst} {f f' : SS} (hc : RT' Z c g) (h1 : RS Z t f) (h2 : RS Z u f') : RS Z (tIfS c t u) (sIf g f f') := by
  intro Y F ρ σ H D R P
  refine hc Y F ρ σ H _ R (spost_bind P fun b ρ1 _ P1 => fun G L s R1 => ?_)
  cases b with
  | true => exact h1 Y G ρ1 σ L D R1 (P1.mono s)
  | false => exact h2 Y G ρ1 σ L D R1 (P1.mono s)

/-! ### stores -/
theorem wipe_eq (σ : L2.St) : ∀ (vs : List Nat) (i : Nat), (wipe σ vs)[i]? = if i ∈ vs ∧ i < σ.length then some none else σ[i]?
  | [], i => by simp [wipe]
  | v :: vs, i => by
    have ih := wipe_eq σ vs i
    unfold wipe
    by_cases h : v = i
    · subst h
      by_cases hl : v < σ.length
      · rw [List.getElem?_set_self (by rw [wipe_length]; exact hl), if_pos ⟨List.mem_cons_self, hl⟩]
      · rw [if_neg (fun z => hl z.2), List.getElem?_eq_none (by rw [List.length_set, wipe_length]; omega), List.getElem?_eq_none (by omega)]
    · rw [List.getElem?_set_ne h, ih]
      by_cases q : i ∈ vs ∧ i < σ.length
      · rw [if_pos q, if_pos ⟨List.mem_cons_of_mem _ q.1, q.2⟩]
      · rw [if_neg q, if_neg (fun z => q ⟨(List.mem_cons.mp z.1).resolve_left (fun y => h y.symm), z.2⟩)]
theorem wipe_set {i : Nat} {x : Option V} {vs : List Nat} (h : i ∈ vs) : wipe (σ.set i x) vs = wipe σ vs := by
  refine List.ext_getElem? fun j => ?_
  rw [wipe_eq, wipe_eq, List.length_set]
  by_cases hj : j = i
  · subst hj
    by_cases hl : j < σ.length
    · rw [if_pos ⟨h, hl⟩, if_pos ⟨h, hl⟩]
    · rw [if_neg (fun z => hl z.2), if_neg (fun z => hl z.2), List.getElem?_eq_none (by rw [List.length_set]; omega), List.getElem?_eq_none (by omega)]
  · rw [List.getElem?_set_ne (Ne.symm hj)]
theorem Rel.put {K : PySem.W.Frag} {mg : Str → Option Value} (R : Rel K mg Y F ρ σ H) {i : Nat} {s : Slot} (h : SlotOk K mg Y F H (some (some v)) s) (sep : ∀ d, s = .own d → ∀ (j : Nat) e q, v = .ref q → ρ[j]? = some (.own e) → σ[j]? ≠ some (some (.ref q))) (np : ∀ d, s ≠ .par d) :
    Rel K mg Y F (ρ.set i s) (σ.set i (some v)) H where
  ext := R.ext
  a0 := R.a0
  slot := fun j t ht => by
    by_cases hj : j = i
    · subst hj
      have hl : j < ρ.length := by
        have := (List.getElem?_eq_some_iff.mp ht).1
        rwa [List.length_set] at this
      rw [List.getElem?_set_self hl] at ht
      cases ht
      rw [List.getElem?_set_self (by rw [← R.len]; exact hl)]
      exact h
    · rw [List.getElem?_set_ne (Ne.symm hj)] at ht ⊢
      exact R.slot j t ht
  sep := fun a b q d e h1 h2 h3 h4 => by
    rcases get_set h1 with ⟨ha, z1⟩ | ⟨ha, z1⟩ <;> rcases get_set h2 with ⟨hb, z2⟩ | ⟨hb, z2⟩
    · omega
    · subst ha
      rw [List.getElem?_set_ne (Ne.symm hb)] at h4
      have hl : a < σ.length := by
        have := (List.getElem?_eq_some_iff.mp h3).1
        rwa [List.length_set] at this
      rw [List.getElem?_set_self hl] at h3
      cases h3
      exact absurd h4 (sep d z1.symm b e q rfl z2)
    · subst hb
      rw [List.getElem?_set_ne (Ne.symm ha)] at h3
      have hl : b < σ.length := by
        have := (List.getElem?_eq_some_iff.mp h4).1
        rwa [List.length_set] at this
      rw [List.getElem?_set_self hl] at h4
      cases h4
      exact absurd h3 (sep e z2.symm a d q rfl z1)
    · rw [List.getElem?_set_ne (Ne.symm ha)] at h3
      rw [List.getElem?_set_ne (Ne.symm hb)] at h4
      exact R.sep a b q d e z1 z2 h3 h4
  par := fun j d z => by
    rcases get_set z with ⟨_, q⟩ | ⟨_, q⟩
    · exact absurd q.symm (np d)
    · exact R.par j d q
  pin := R.pin
  len := by rw [List.length_set, List.length_set]; exact R.len
/-- a value goes into slot i -/
def stor (i : Nat) (v : Vl) (ρ : Env) : Option Env := match v with
  | .sh d => some (ρ.set i (.sh d))
  | .fr d => some (ρ.set i (.own d))
  | .al j => match esc ρ (.al j) with
    | some (d, ρ1) => some (ρ1.set i (.sh d))
    | none => none
theorem Rel.stor (R : Z.R Y F ρ σ H) {i : Nat} (k : VOk Z.X.K Z.X.mg Y F ρ σ H v vl) (e : stor i vl ρ = some ρ') : ∃ G, Same F G ∧ Z.R Y G ρ' (σ.set i (some v)) H := by
  cases vl with
  | sh d =>
    cases e
    exact ⟨F, Same.refl F, R.put ⟨v, rfl, k⟩ (fun _ z => nomatch z) fun _ z => nomatch z⟩
  | fr d =>
    cases e
    obtain ⟨p, rfl, n, n0, np, ns, o⟩ := k
    exact ⟨F, Same.refl F, R.put ⟨p, rfl, n, n0, np, o⟩ (fun d' z j e' q hq hj => by cases hq; exact ns j e' hj) fun _ z => nomatch z⟩
  | al j =>
    unfold VL.stor at e
    simp only at e
    split at e
    · rename_i d ρ1 e1
      cases e
      obtain ⟨G, s, R1, r⟩ := R.esc k e1
      exact ⟨G, s, R1.put ⟨v, rfl, r⟩ (fun _ z => nomatch z) fun _ z => nomatch z⟩
    · cases e
def sSet (i : Nat) (f : SE) : SS := fun ρ => sBind (f ρ) fun v ρ1 => match stor i v ρ1 with
  | some ρ2 => .nx ρ2
  | none => .bad
theorem rs_set {t : TE} {f : SE} {i : Nat} (h : RE Z t f) : RS Z (tAsg t (gName i)) (sSet i f) := by
  intro Y F ρ σ H D R P
  refine h Y F ρ σ H _ R (spost_bind P fun vl ρ1 _ P1 => fun G L w s R1 k => ?_)
  split at P1
  · rename_i ρ2 e
    obtain ⟨G2, s2, R2⟩ := Rel.stor (Z := Z) R1 k e
    exact P1 G2 _ L (s.trans s2) R2
  · exact P1.elim

/-! ### targets that take frozen data -/
def RG (Z : Ctx) (gs : List Nat) (g : TG) (h : D → Env → Option Env) : Prop := ∀ Y F ρ σ H v d Q ρ', Z.R Y F ρ σ H → Rep Z.X.K Z.X.mg F v d → h d ρ = some ρ' →
  (∀ σ', Z.R Y F ρ' σ' H → (∀ vs : List Nat, (∀ i ∈ gs, i ∈ vs) → wipe σ' vs = wipe σ vs) → Q σ' H) → g v σ H Q
def RGs (Z : Ctx) (gs : List Nat) (g : TGs) (h : List D → Env → Option Env) : Prop := ∀ Y F ρ σ H vs ds Q ρ', Z.R Y F ρ σ H → Reps Z.X.K Z.X.mg F vs ds → h ds ρ = some ρ' →
  (∀ σ', Z.R Y F ρ' σ' H → (∀ vs : List Nat, (∀ i ∈ gs, i ∈ vs) → wipe σ' vs = wipe σ vs) → Q σ' H) → g vs σ H Q
def VG (Z : Ctx) (gs : List Nat) (e : Expr) (h : D → Env → Option Env) : Prop := ∃ g, PG Z.X e g ∧ RG Z gs g h
def VGs (Z : Ctx) (gs : List Nat) (es : List Expr) (h : List D → Env → Option Env) : Prop := ∃ g, PGs Z.X es g ∧ RGs Z gs g h
def hName (i : Nat) : D → Env → Option Env := fun d ρ => some (ρ.set i (.sh d))
def hNil : List D → Env → Option Env := fun ds ρ => match ds with
  | [] => some ρ
  | _ => none
def hCons (h : D → Env → Option Env) (hs : List D → Env → Option Env) : List D → Env → Option Env := fun ds ρ => match ds with
  | [] => none
  | d :: r => match h d ρ with
    | none => none
    | some ρ1 => hs r ρ1
def hTup (n : Nat) (hs : List D → Env → Option Env) : D → Env → Option Env := fun d ρ => match d with
  | .tup ds => if ds.length = n then hs ds ρ else none
  | _ => none
theorem rg_name (i : Nat) : RG Z [i] (gName i) (hName i) := by
  intro Y F ρ σ H v d Q ρ' R r e q
  cases e
  exact q _ (R.put ⟨v, rfl, r⟩ (fun _ z => nomatch z) fun _ z => nomatch z) fun vs hv => wipe_set (hv i List.mem_cons_self)
theorem rgs_nil : RGs Z [] gNil hNil := by
  intro Y F ρ σ H vs ds Q ρ' R r e q
  cases r with
  | nil =>
    cases e
    exact ⟨rfl, q σ R fun _ _ => rfl⟩
  | cons _ _ => cases e
theorem rgs_cons {gs gs' : List Nat} {g : TG} {g' : TGs} {h : D → Env → Option Env} {h' : List D → Env → Option Env} (h1 : RG Z gs g h) (h2 : RGs Z gs' g' h') : RGs Z (gs ++ gs') (gCons g g') (hCons h h') := by
  intro Y F ρ σ H vs ds Q ρ' R r e q
  cases r with
  | nil => cases e
  | @cons v d vs ds r0 rr =>
    simp only [hCons] at e
    split at e
    · cases e
    · rename_i ρ1 e1
      refine ⟨v, vs, rfl, h1 Y F ρ σ H v d _ ρ1 R r0 e1 fun σ1 R1 w1 => ?_⟩
      exact h2 Y F ρ1 σ1 H vs ds Q ρ' R1 rr e fun σ2 R2 w2 => q σ2 R2 fun xs hx => (w2 xs fun i hi => hx i (List.mem_append_right _ hi)).trans (w1 xs fun i hi => hx i (List.mem_append_left _ hi))
theorem rg_tup {gs : List Nat} {n : Nat} {g : TGs} {h : List D → Env → Option Env} (h1 : RGs Z gs g h) : RG Z gs (gTup Z.X.K n g) (hTup n h) := by
  intro Y F ρ σ H v d Q ρ' R r e q
  unfold hTup at e
  split at e
  · rename_i ds
    split at e
    · rename_i hn
      cases r with
      | tup h r =>
        rename_i a xs
        exact ⟨a, xs, rfl, SqT.of (R.fh _ _ h), by rw [r.len]; exact hn, h1 Y F ρ σ H xs ds Q ρ' R r e q⟩
    · cases e
  · cases e
/-- a, b = e -/
def sUnp (h : D → Env → Option Env) (f : SE) : SS := fun ρ => sBind (f ρ) fun v ρ1 => match esc ρ1 v with
  | none => .bad
  | some (d, ρ2) => match h d ρ2 with
    | some ρ3 => .nx ρ3
    | none => .bad
theorem rs_unp {gs : List Nat} {t : TE} {f : SE} {g : TG} {h : D → Env → Option Env} (he : RE Z t f) (hg : RG Z gs g h) : RS Z (tAsg t g) (sUnp h f) := by
  intro Y F ρ σ H D R P
  refine he Y F ρ σ H _ R (spost_bind P fun vl ρ1 _ P1 => fun G L w s R1 k => ?_)
  split at P1
  · exact P1.elim
  · rename_i d ρ2 e
    obtain ⟨G2, s2, R2, r⟩ := R1.esc k e
    split at P1
    · rename_i ρ3 e3
      exact hg Y G2 ρ2 σ L w d _ ρ3 R2 r e3 fun σ' R3 _ => P1 G2 σ' L (s.trans s2) R3
    · exact P1.elim

/-! ### name op= e -/
def sAug (i : Nat) (op : D → D → Option Pv) (f : SE) : SS := fun ρ => match ρ[i]? with
  | some (.sh x) => sBind (f ρ) fun v ρ1 => match (look ρ1 v).bind fun y => op x y with
    | some (.sh z) => .nx (ρ1.set i (.sh z))
    | _ => .bad
  | _ => .bad
/-- op on values that leaves the heap as it is, for in-place operators -/
def OpI (K : PySem.W.Frag) (mg : Str → Option Value) (r : TIp) (f : D → D → Option Pv) : Prop := ∀ (F H : Hp) (x y : V) (a b : D) (z : D) (Q : VK), Same F H → Rep K mg F x a → RT K mg F H y b → f a b = some (.sh z) →
  (∀ w, Rep K mg F w z → Q w H) → r x y H Q
theorem rs_aug {i : Nat} {t : TE} {f : SE} {r : TIp} {op : D → D → Option Pv} (o : OpI Z.X.K Z.X.mg r op) (h : RE Z t f) : RS Z (tAug i t r) (sAug i op f) := by
  intro Y F ρ σ H D R P
  unfold sAug at P
  split at P
  · rename_i x hs
    obtain ⟨v, e, rv⟩ := R.slot i _ hs
    refine ⟨v, e, h Y F ρ σ H _ R (spost_bind P fun vl ρ1 _ P1 => fun G L w s R1 k => ?_)⟩
    split at P1
    · rename_i z e2
      obtain ⟨y, e3, e4⟩ := Option.bind_eq_some_iff.mp e2
      refine o G L v w x y z _ R1.fh (rv.mono s) (R1.reads k e3) e4 fun u ru => ?_
      exact P1 G _ L s (R1.put ⟨u, rfl, ru⟩ (fun _ z => nomatch z) fun _ z => nomatch z)
    · exact P1.elim
  · exact P.elim
def iAdd : D → D → Option Pv
  | .int i, .int j => some (.sh (.int (i + j)))
  | _, _ => none
def iSub : D → D → Option Pv
  | .int i, .int j => some (.sh (.int (i - j)))
  | _, _ => none
theorem ipI_add {K : PySem.W.Frag} {mg : Str → Option Value} : OpI K mg (ipI fun i j => i + j) iAdd := by
  intro F H x y a b z Q s ra rb e q
  unfold iAdd at e
  split at e
  · cases e
    cases ra
    exact ⟨_, _, rfl, rb.int, q _ (.int _)⟩
  · cases e
theorem ipI_sub {K : PySem.W.Frag} {mg : Str → Option Value} : OpI K mg (ipI fun i j => i - j) iSub := by
  intro F H x y a b z Q s ra rb e q
  unfold iSub at e
  split at e
  · cases e
    cases ra
    exact ⟨_, _, rfl, rb.int, q _ (.int _)⟩
  · cases e

/-! ### o[i] = e, o[i] op= e -/
def putD (kvs : List (Key × D)) (k : Key) (v : D) : List (Key × D) :=
  if (kvs.any fun kv => decide (kv.1 = k)) = true then kvs.map (fun kv => if kv.1 = k then (kv.1, v) else kv) else kvs ++ [(k, v)]
def putDT (kvs : List (List Key × D)) (k : List Key) (v : D) : List (List Key × D) :=
  if (kvs.any fun kv => decide (kv.1 = k)) = true then kvs.map (fun kv => if kv.1 = k then (kv.1, v) else kv) else kvs ++ [(k, v)]
def opPut : D → D → D → Option D
  | .lst ds, .int i, d => (ixN ds.length i).map fun j => .lst (ds.set j d)
  | .dic ks, x, d => if ks.length < sizeLine then (keyOf x).map fun k => .dic (putD ks k d) else none
  | .dit ks, x, d => if ks.length < sizeLine then (keyTOf x).map fun k => .dit (putDT ks k d) else none
  | _, _, _ => none
def OpPut (K : PySem.W.Frag) (mg : Str → Option Value) (r : TSet) (f : D → D → D → Option D) : Prop := ∀ (F H : Hp) (p : Addr) (i v : V) (c x d c' : D) (Q : Hp → Prop), Same F H → F p = none → Own K mg F H p c → RT K mg F H i x → Rep K mg F v d → f c x d = some c' →
  (∀ o, Own K mg F (upd H p o) p c' → Q (upd H p o)) → r (.ref p) i v H Q
abbrev rPutV : TSet := fun o i v H Q => rSetL o i v H Q ∨ ∃ a L, o = .ref a ∧ DPut H a i v L ∧ Q L
theorem set_V {X : Cx} (hu : X.A.units + 1 < cLine) : PSet X rPutV := by
  intro pins s σ H o i v ov iv u Q I ro ri rv h
  rcases h with h | ⟨a, L, rfl, g, q⟩
  · exact set_list pins s σ H o i v ov iv u Q I ro ri rv h
  · obtain rfl : ov = Value.ref a := ro
    exact d_setItem hu I g ri rv fun s' J => ⟨L, J, q⟩
theorem RepK.any {K : PySem.W.Frag} {mg : Str → Option Value} {k : Key} {xs : List (Key × V)} {ds : List (Key × D)} (r : RepK K mg F xs ds) : (xs.any fun kv => decide (kv.1 = k)) = ds.any fun kv => decide (kv.1 = k) := by
  have e := r.keys
  have h1 : (xs.any fun kv => decide (kv.1 = k)) = (xs.map (·.1)).any fun y => decide (y = k) := by rw [List.any_map]; rfl
  have h2 : (ds.any fun kv => decide (kv.1 = k)) = (ds.map (·.1)).any fun y => decide (y = k) := by rw [List.any_map]; rfl
  rw [h1, h2, e]
theorem RepK.app {K : PySem.W.Frag} {mg : Str → Option Value} : ∀ {xs ys : List (Key × V)} {ds es : List (Key × D)}, RepK K mg F xs ds → RepK K mg F ys es → RepK K mg F (xs ++ ys) (ds ++ es)
  | _, _, _, _, .nil, s => s
  | _, _, _, _, .cons h r, s => .cons h (RepK.app r s)
theorem RepK.map {K : PySem.W.Frag} {mg : Str → Option Value} {k : Key} {x : V} {d : D} (h : Rep K mg F x d) : ∀ {xs : List (Key × V)} {ds : List (Key × D)}, RepK K mg F xs ds →
    RepK K mg F (xs.map fun kv => if kv.1 = k then (kv.1, x) else kv) (ds.map fun kv => if kv.1 = k then (kv.1, d) else kv)
  | _, _, .nil => .nil
  | _, _, .cons (k := k') h' r => by
    rw [List.map_cons, List.map_cons]
    by_cases e : k' = k
    · simp only [if_pos e]
      exact .cons h (RepK.map h r)
    · simp only [if_neg e]
      exact .cons h' (RepK.map h r)
theorem RepK.put {K : PySem.W.Frag} {mg : Str → Option Value} {k : Key} {x : V} {d : D} {xs : List (Key × V)} {ds : List (Key × D)} (r : RepK K mg F xs ds) (h : Rep K mg F x d) : RepK K mg F (putK xs k x) (putD ds k d) := by
  unfold putK putD
  rw [r.any]
  split
  · exact r.map h
  · exact r.app (.cons h .nil)
theorem RepT.any {K : PySem.W.Frag} {mg : Str → Option Value} {k : List Key} {xs : List (List Key × V)} {ds : List (List Key × D)} (r : RepT K mg F xs ds) : (xs.any fun kv => decide (kv.1 = k)) = ds.any fun kv => decide (kv.1 = k) := by
  have e := r.keys
  have h1 : (xs.any fun kv => decide (kv.1 = k)) = (xs.map (·.1)).any fun y => decide (y = k) := by rw [List.any_map]; rfl
  have h2 : (ds.any fun kv => decide (kv.1 = k)) = (ds.map (·.1)).any fun y => decide (y = k) := by rw [List.any_map]; rfl
  rw [h1, h2, e]
theorem RepT.app {K : PySem.W.Frag} {mg : Str → Option Value} : ∀ {xs ys : List (List Key × V)} {ds es : List (List Key × D)}, RepT K mg F xs ds → RepT K mg F ys es → RepT K mg F (xs ++ ys) (ds ++ es)
  | _, _, _, _, .nil, s => s
  | _, _, _, _, .cons h r, s => .cons h (RepT.app r s)
theorem RepT.map {K : PySem.W.Frag} {mg : Str → Option Value} {k : List Key} {x : V} {d : D} (h : Rep K mg F x d) : ∀ {xs : List (List Key × V)} {ds : List (List Key × D)}, RepT K mg F xs ds →
    RepT K mg F (xs.map fun kv => if kv.1 = k then (kv.1, x) else kv) (ds.map fun kv => if kv.1 = k then (kv.1, d) else kv)
  | _, _, .nil => .nil
  | _, _, .cons (k := k') h' r => by
    rw [List.map_cons, List.map_cons]
    by_cases e : k' = k
    · simp only [if_pos e]
      exact .cons h (RepT.map h r)
    · simp only [if_neg e]
      exact .cons h' (RepT.map h r)
theorem RepT.put {K : PySem.W.Frag} {mg : Str → Option Value} {k : List Key} {x : V} {d : D} {xs : List (List Key × V)} {ds : List (List Key × D)} (r : RepT K mg F xs ds) (h : Rep K mg F x d) : RepT K mg F (putK xs k x) (putDT ds k d) := by
  unfold putK putDT
  rw [r.any]
  split
  · exact r.map h
  · exact r.app (.cons h .nil)
theorem put_put {K : PySem.W.Frag} {mg : Str → Option Value} : OpPut K mg rPutV opPut := by
  intro F H p i v c x d c' Q s n o ri rv e q
  unfold opPut at e
  split at e
  · obtain ⟨j, h1, e⟩ := Option.map_eq_some_iff.mp e
    subst e
    obtain ⟨xs, h, z⟩ := o
    rw [← z.len] at h1
    exact .inl ⟨p, xs, _, j, rfl, ri.int, h, h1, q _ ⟨_, upd_same, z.set rv j⟩⟩
  · split at e
    · rename_i hl
      obtain ⟨k, h1, e⟩ := Option.map_eq_some_iff.mp e
      subst e
      obtain ⟨kvs, h, z⟩ := o
      rw [keyOf_rep ri h1]
      exact .inr ⟨p, _, rfl, DPut.k h (by rw [z.len]; exact hl), q _ ⟨_, upd_same, z.put rv⟩⟩
    · cases e
  · split at e
    · rename_i hl
      obtain ⟨k, h1, e⟩ := Option.map_eq_some_iff.mp e
      subst e
      obtain ⟨kvs, h, z⟩ := o
      obtain ⟨b, rfl, hb⟩ := keyTOf_rep s ri h1
      exact .inr ⟨p, _, rfl, DPut.t h hb (by rw [z.len]; exact hl), q _ ⟨_, upd_same, z.put rv⟩⟩
    · cases e
  · cases e
/-- the name in slot i, item fi, becomes fe -/
def sPut (i : Nat) (fi fe : SE) : SS := fun ρ => sBind (fe ρ) fun v ρ1 => match (ρ1[i]?).bind Slot.mu? with
  | none => .bad
  | some _ => sBind (fi ρ1) fun x ρ2 => match esc ρ2 (frz v) with
    | none => .bad
    | some (d, ρ3) => match ρ3[i]? with
      | none => .bad
      | some s => match s.mu?, look ρ3 (frz x) with
        | some c, some xi => match opPut c xi d with
          | some c' => .nx (ρ3.set i (s.put c'))
          | none => .bad
        | _, _ => .bad
theorem put_end {E : Ends} {i : Nat} {s : Slot} {c c' x : D} {iv : V} {d : D} (R : Z.R Y F ρ σ H) (hs : ρ[i]? = some s) (hm : s.mu? = some c) {ov : V} (hv : σ[i]? = some (some ov)) (ri : RT Z.X.K Z.X.mg F H iv x) (rv : Rep Z.X.K Z.X.mg F v d) (e : opPut c x d = some c')
    (P : SPost Z Y E F (.nx (ρ.set i (s.put c')))) : rPutV ov iv v H fun L => E.nx σ L := by
  obtain ⟨p, e1, n, o⟩ := R.mu_at hs hm
  rw [hv] at e1; cases e1
  exact put_put F H p iv v c x d c' _ R.fh n o ri rv e fun ob o' => P F σ _ (Same.refl F) (R.move hs hm hv (Ext.upd R.fh n o.there) (.inr ⟨c', rfl, n, o'⟩))
theorem rs_put {i : Nat} {ti te : TE} {fi fe : SE} (hi : RE Z ti fi) (he : RE Z te fe) : RS Z (tAsg te (gSub (tVar i) ti rPutV)) (sPut i fi fe) := by
  intro Y F ρ σ H D R P
  refine he Y F ρ σ H _ R (spost_bind P fun vl ρ1 _ P1 => fun G L w s R1 k => ?_)
  split at P1
  · exact P1.elim
  · rename_i c0 e0
    obtain ⟨s0, hs0, hm0⟩ := Option.bind_eq_some_iff.mp e0
    obtain ⟨p, e1, n, o⟩ := R1.mu_at hs0 hm0
    refine ⟨.ref p, e1, ?_⟩
    obtain ⟨F2, s2, R2, k2⟩ := keeps R1 k
    refine hi Y F2 ρ1 σ L _ R2 (spost_bind (P1.mono (s.trans s2)) fun xl ρ2 _ P2 => fun F3 H3 iv s3 R3 k3 => ?_)
    obtain ⟨F4, s4, R4, k4⟩ := keeps R3 k3
    split at P2
    · exact P2.elim
    · rename_i d ρ3 e3
      obtain ⟨F5, s5, R5, r5⟩ := R4.esc ((k2.mono (s3.trans s4)).vok) e3
      split at P2
      · exact P2.elim
      · rename_i sl hs
        split at P2
        · rename_i c xi hm hx
          split at P2
          · rename_i c' e6
            exact put_end R5 hs hm e1 (R5.reads ((k4.mono s5).vok) hx) r5 e6 (P2.mono (s3.trans (s4.trans s5)))
          · exact P2.elim
        · exact P2.elim
/-- the name in slot i, item fi, op= fe -/
def sPutA (i : Nat) (op : D → D → Option Pv) (fi fe : SE) : SS := fun ρ => match (ρ[i]?).bind Slot.mu? with
  | none => .bad
  | some _ => sBind (fi ρ) fun x ρ1 => match (ρ1[i]?).bind Slot.mu?, look ρ1 (frz x) with
    | some c, some xi => match opIx c xi with
      | some (.sh old) => sBind (fe ρ1) fun v ρ2 => match look ρ2 v with
        | none => .bad
        | some y => match op old y with
          | some (.sh z) => match ρ2[i]? with
            | none => .bad
            | some s => match s.mu?, look ρ2 (frz x) with
              | some c2, some xi2 => match opPut c2 xi2 z with
                | some c' => .nx (ρ2.set i (s.put c'))
                | none => .bad
              | _, _ => .bad
          | _ => .bad
      | _ => .bad
    | _, _ => .bad
abbrev rGetV (K : PySem.W.Frag) : V → V → Hp → VK → Prop := fun x y H Q => rIxL K x y H Q ∨ rIxD x y H Q
theorem get_V {X : Cx} (hu : X.A.units + 1 < cLine) : PGet X (rGetV X.K) := by
  intro pins s σ H o i ov iv Q I ro ri h
  rcases h with h | ⟨a, z, rfl, g, q⟩
  · obtain ⟨p, xs, k, z, rfl, rfl, hq, he, q⟩ := h
    cases ro
    obtain ⟨t, rfl⟩ := ri
    obtain ⟨its, r, pl, hz⟩ := I.list hq
    obtain ⟨j, h1, h2, h3, h4, h5⟩ := atI_get he
    obtain ⟨w, ew, rw'⟩ := r.get h2
    have hl := r.length
    have hn := line63
    have fin : EP X pins σ Q w s := ⟨z, H, I, rw', q⟩
    by_cases h0 : 0 ≤ k
    · have hj : k.toNat = j := by
        rw [seqIndex_of h0 h5] at h1
        exact Option.some.inj h1
      exact wpAny_getItem_list pl.isList h0 (by omega) (by rw [hj]; simpa using ew) fin
    · have hj : (k + (its.toArray.size : Int)).toNat = j := by
        rw [seqIndex_neg (by omega) h4] at h1
        rw [List.size_toArray, ← hl]
        exact Option.some.inj h1
      exact wpAny_getItem_list_neg pl.isList (by omega) (by rw [List.size_toArray] <;> omega) (by omega) (by rw [hj]; simpa using ew) fin
  · obtain rfl : ov = Value.ref a := ro
    exact d_getItem hu I g ri fun w' s3 J rw' => ⟨z, H, J, rw', q⟩
theorem get_get {K : PySem.W.Frag} {mg : Str → Option Value} {F H : Hp} {p : Addr} {y : V} {c b : D} {d : D} {Q : VK} (s : Same F H) (o : Own K mg F H p c) (rb : RT K mg F H y b) (e : opIx c b = some (.sh d)) (q : ∀ w, Rep K mg F w d → Q w H) : rGetV K (.ref p) y H Q := by
  unfold opIx at e
  split at e
  · obtain ⟨d', h, e⟩ := Option.map_eq_some_iff.mp e
    cases e
    obtain ⟨xs, h1, r1⟩ := o
    obtain ⟨z, h2, h3⟩ := r1.atI h
    exact .inl ⟨p, xs, _, z, rfl, rb.int, SqL.of h1, h2, q z h3⟩
  · exact False.elim o
  · exact False.elim o
  · exact False.elim o
  · obtain ⟨k, h0, h⟩ := Option.bind_eq_some_iff.mp e
    obtain ⟨d', h7, h8⟩ := Option.map_eq_some_iff.mp h
    cases h8
    obtain ⟨kvs, h1, r1⟩ := o
    obtain ⟨z, h2, h3⟩ := r1.get h7
    refine .inr ⟨p, z, rfl, ?_, q z h3⟩
    rw [keyOf_rep rb h0, ← h2]
    exact DGet.k h1
  · obtain ⟨k, h0, h⟩ := Option.bind_eq_some_iff.mp e
    obtain ⟨d', h7, h8⟩ := Option.map_eq_some_iff.mp h
    cases h8
    obtain ⟨kvs, h1, r1⟩ := o
    obtain ⟨z, h2, h3⟩ := r1.get h7
    obtain ⟨b, rfl, hb⟩ := keyTOf_rep s rb h0
    refine .inr ⟨p, z, rfl, ?_, q z h3⟩
    rw [← h2]
    exact DGet.t h1 hb
  · cases e
theorem rs_putA {i : Nat} {ti te : TE} {fi fe : SE} {r : TIp} {op : D → D → Option Pv} (ob : OpI Z.X.K Z.X.mg r op) (hi : RE Z ti fi) (he : RE Z te fe) : RS Z (tAugS (tVar i) ti te (rGetV Z.X.K) r rPutV) (sPutA i op fi fe) := by
  intro Y F ρ σ H E R P
  unfold sPutA at P
  split at P
  · exact P.elim
  · rename_i c0 e0
    obtain ⟨s0, hs0, hm0⟩ := Option.bind_eq_some_iff.mp e0
    obtain ⟨p, e1, n, o⟩ := R.mu_at hs0 hm0
    refine ⟨.ref p, e1, ?_⟩
    refine hi Y F ρ σ H _ R (spost_bind P fun xl ρ1 _ P1 => fun F1 H1 iv s1 R1 k1 => ?_)
    obtain ⟨F2, s2, R2, k2⟩ := keeps R1 k1
    split at P1
    · rename_i c xi hc hx
      split at P1
      · rename_i old e3
        obtain ⟨sl, hsl, hd⟩ := Option.bind_eq_some_iff.mp hc
        obtain ⟨p', e1', _, o2⟩ := R2.mu_at hsl hd
        rw [e1] at e1'; cases e1'
        have rx := R2.reads k2.vok hx
        have go : ∀ w, Rep Z.X.K Z.X.mg F2 w old → te σ H1 fun y H4 => r w y H4 fun z H5 => rPutV (.ref p) iv z H5 fun H6 => E.nx σ H6 := by
          intro w rw'
          refine he Y F2 ρ1 σ H1 _ R2 (spost_bind (P1.mono (s1.trans s2)) fun vl ρ2 _ P2 => fun F3 H3 y s3 R3 k3 => ?_)
          split at P2
          · exact P2.elim
          · rename_i yd hy
            split at P2
            · rename_i z hz
              refine ob F3 H3 w y old yd z _ R3.fh (rw'.mono s3) (R3.reads k3 hy) hz fun u ru => ?_
              split at P2
              · exact P2.elim
              · rename_i s hs
                split at P2
                · rename_i c2 xi2 hm hx2
                  split at P2
                  · rename_i c' e6
                    exact put_end R3 hs hm e1 (R3.reads ((k2.mono s3).vok) hx2) ru e6 (P2.mono s3)
                  · exact P2.elim
                · exact P2.elim
            · exact P2.elim
        exact get_get R2.fh o2 rx e3 go
      · exact P1.elim
    · exact P1.elim
end
end VL
/-! V8: loops, comprehensions, fields stored -/
namespace VL
open PySem PySem.Spec PyProof.Rows L2

/-! ### what is walked -/
/-- the iterator gives the data ds, while the frozen part G stands -/
structure IterOk (K : PySem.W.Frag) (mg : Str → Option Value) (J : It) (ds : List D) (G : Hp) : Prop where
  goes : ∀ i F L, Same G F → Same F L → i < ds.length → J.go i L
  stops : ∀ F L, Same G F → Same F L → J.stop ds.length L
  yields : ∀ i F L x L' d, Same G F → Same F L → ds[i]? = some d → J.yld i L x L' → ∃ F2, Ext none F L F2 L' ∧ Rep K mg F2 x d
theorem IterOk.mono {K : PySem.W.Frag} {mg : Str → Option Value} {J : It} {ds : List D} {G G' : Hp} (h : IterOk K mg J ds G) (s : Same G G') : IterOk K mg J ds G' :=
  ⟨fun i F L a => h.goes i F L (s.trans a), fun F L a => h.stops F L (s.trans a), fun i F L x L' d a => h.yields i F L x L' d (s.trans a)⟩
abbrev SI := Env → OutG (List D)
abbrev BI (Z : Ctx) (Y : Ent) (σ : L2.St) (Rr : It → Hp → Prop) : Hp → List D → Env → Prop := fun F ds ρ => ∀ G L J, Same F G → Z.R Y G ρ σ L → IterOk Z.X.K Z.X.mg J ds G → Rr J L
def RI (Z : Ctx) (wi : TI) (f : SI) : Prop := ∀ Y F ρ σ H Rr, Z.R Y F ρ σ H → Post (BI Z Y σ Rr) Z Y σ F (f ρ) → wi σ H Rr
def VI (Z : Ctx) (tg e : Expr) (f : SI) : Prop := ∃ wi, PI Z.X tg e wi ∧ RI Z wi f

section
variable {K : PySem.W.Frag} {mg : Str → Option Value} {a b : Addr} {xs ys : List V} {ds es : List D} {G : Hp}
theorem iter_list (h : G a = some (.lst xs)) (r : Reps K mg G xs ds) : IterOk K mg (Itl K a) ds G where
  goes := fun i F L s1 s2 hi => ⟨xs, xs[i]'(by rw [r.len]; exact hi), SqL.of (s2 _ _ (s1 _ _ h)), by simp [r.len, hi]⟩
  stops := fun F L s1 s2 => ⟨xs, SqL.of (s2 _ _ (s1 _ _ h)), by rw [r.len]; exact Nat.le_refl _⟩
  yields := fun i F L x L' d s1 s2 hd y => by
    obtain ⟨e, y⟩ := y
    subst e
    obtain ⟨x', h1, h2⟩ := r.get hd
    have e2 := y xs (SqL.of (s2 _ _ (s1 _ _ h)))
    rw [h1] at e2; cases e2
    exact ⟨F, Ext.refl s2, h2.mono s1⟩
theorem iter_tup (h : G a = some (.tup xs)) (r : Reps K mg G xs ds) : IterOk K mg (Itt K a) ds G where
  goes := fun i F L s1 s2 hi => ⟨xs, xs[i]'(by rw [r.len]; exact hi), SqT.of (s2 _ _ (s1 _ _ h)), by simp [r.len, hi]⟩
  stops := fun F L s1 s2 => ⟨xs, SqT.of (s2 _ _ (s1 _ _ h)), by rw [r.len]; exact Nat.le_refl _⟩
  yields := fun i F L x L' d s1 s2 hd y => by
    obtain ⟨e, y⟩ := y
    subst e
    obtain ⟨x', h1, h2⟩ := r.get hd
    have e2 := y xs (SqT.of (s2 _ _ (s1 _ _ h)))
    rw [h1] at e2; cases e2
    exact ⟨F, Ext.refl s2, h2.mono s1⟩
def rangeD (lo : Int) (n : Nat) : List D := (List.range n).map fun i => D.int (lo + (i : Nat))
theorem iter_range {lo : Int} {n : Nat} : IterOk K mg (Itr lo n) (rangeD lo n) G where
  goes := fun i F L s1 s2 hi => by
    unfold rangeD at hi
    rw [List.length_map, List.length_range] at hi
    exact hi
  stops := fun F L s1 s2 => by show n ≤ (rangeD lo n).length; unfold rangeD; simp
  yields := fun i F L x L' d s1 s2 hd y => by
    obtain ⟨e, y⟩ := y
    subst e y
    unfold rangeD at hd
    rw [List.getElem?_map] at hd
    obtain ⟨j, h1, h2⟩ := Option.map_eq_some_iff.mp hd
    have : j = i := by
      have := List.getElem?_eq_some_iff.mp h1
      obtain ⟨h3, h4⟩ := this
      simpa using h4.symm
    subst this
    subst h2
    exact ⟨F, Ext.refl s2, .int _⟩
end

section
variable {Z : Ctx} {Y : Ent} {F G H L : Hp} {ρ ρ' : Env} {σ : L2.St} {v : V} {vl : Vl} {d : D}
/-- a list of any kind -/
def vItL (f : SE) : SI := fun ρ => obind (f ρ) fun v ρ1 => match esc ρ1 v with
  | some (.lst ds, ρ2) => .ok ds ρ2
  | _ => .bad
def vItT (f : SE) : SI := fun ρ => obind (f ρ) fun v ρ1 => match esc ρ1 v with
  | some (.tup ds, ρ2) => .ok ds ρ2
  | _ => .bad
def vItA (f : SE) : SI := fun ρ => obind (f ρ) fun v ρ1 => match esc ρ1 v with
  | some (.lst ds, ρ2) => .ok ds ρ2
  | some (.tup ds, ρ2) => .ok ds ρ2
  | _ => .bad
def iAny (K : PySem.W.Frag) (tl : TE) : TI := fun σ H R => tl σ H fun x H1 => ∃ a, x = .ref a ∧ (((∃ xs, SqL K H1 a xs) ∧ R (Itl K a) H1) ∨ ((∃ xs, SqT K H1 a xs) ∧ R (Itt K a) H1))
/-- what is walked is a list or a tuple -/
theorem pi_any {X : Cx} {tg l : Expr} {tl : TE} (hl : PE X l tl) : PI X tg l (iAny X.K tl) := by
  refine ⟨fun pins s σ H R I h => ?_⟩
  refine thn (hl.run pins s σ H _ I h) fun v s1 ⟨x, H1, I1, r1, a, ex, q⟩ => ?_
  subst ex
  cases r1
  rcases q with ⟨hx, q⟩ | ⟨hx, q⟩
  · obtain ⟨xs, hq⟩ := hx
    obtain ⟨its, rv, p, hz⟩ := I1.list hq
    refine wpAny_pyIter_list p.isList ?_
    refine ⟨s1.heap.objs.size, [s1.heap.objs.size], _, _, H1, rfl, I1.kept (t' := s1.toks) fun b o e => Heap.get?_push_of_some _ e, turn_list a _, ⟨_, Heap.get?_push_size _ rfl, rfl, rfl⟩, fun b hb => ?_, q⟩
    have e : b = s1.heap.objs.size := by simpa using hb
    rw [e]
    exact I1.fpOk (Nat.le_refl _) (I1.hok.fresh (Nat.le_refl _))
  · obtain ⟨xs, hq⟩ := hx
    obtain ⟨its, rv, p, hz⟩ := I1.tuple hq
    refine wpAny_pyIter_tuple (show s1.heap.IsTuple a its.toArray from p) ?_
    refine ⟨s1.heap.objs.size, [s1.heap.objs.size], _, _, H1, rfl, I1.kept (t' := s1.toks) fun b o e => Heap.get?_push_of_some _ e, turn_tuple a _, ⟨_, Heap.get?_push_size _ rfl, rfl, rfl⟩, fun b hb => ?_, q⟩
    have e : b = s1.heap.objs.size := by simpa using hb
    rw [e]
    exact I1.fpOk (Nat.le_refl _) (I1.hok.fresh (Nat.le_refl _))
theorem ri_any {t : TE} {f : SE} (h : RE Z t f) : RI Z (iAny Z.X.K t) (vItA f) := by
  intro Y F ρ σ H Rr R P
  refine h Y F ρ σ H _ R (post_bind P fun vl ρ1 _ P1 => fun G L x s R1 k => ?_)
  split at P1
  · rename_i ds ρ2 e
    obtain ⟨G2, s2, R2, r⟩ := R1.esc k e
    cases r with
    | lst h1 r1 => exact ⟨_, rfl, .inl ⟨⟨_, SqL.of (R2.fh _ _ h1)⟩, P1 G2 L _ (s.trans s2) R2 (iter_list h1 r1)⟩⟩
  · rename_i ds ρ2 e
    obtain ⟨G2, s2, R2, r⟩ := R1.esc k e
    cases r with
    | tup h1 r1 => exact ⟨_, rfl, .inr ⟨⟨_, SqT.of (R2.fh _ _ h1)⟩, P1 G2 L _ (s.trans s2) R2 (iter_tup h1 r1)⟩⟩
  · exact P1.elim
def vItR1 (fs : List SE) : SI := fun ρ => obind (vArgs fs ρ) fun vs ρ1 => match looks ρ1 vs with
  | some [.int j] => if j.natAbs < 2 ^ 62 then .ok (rangeD 0 j.toNat) ρ1 else .bad
  | _ => .bad
def vItR2 (fs : List SE) : SI := fun ρ => obind (vArgs fs ρ) fun vs ρ1 => match looks ρ1 vs with
  | some [.int i, .int j] => if i.natAbs < 2 ^ 62 ∧ j.natAbs < 2 ^ 62 then .ok (rangeD i (j - i).toNat) ρ1 else .bad
  | _ => .bad
theorem ri_r1 {t : TA} {fs : List SE} (h : RA Z t (vArgs fs)) : RI Z (iRng1 t) (vItR1 fs) := by
  intro Y F ρ σ H Rr R P
  refine h Y F ρ σ H _ R (post_bind P fun vls ρ1 _ P1 => fun G L vs s R1 k => ?_)
  split at P1
  · rename_i j e
    split at P1
    · rename_i hb
      obtain ⟨x, rfl, r⟩ := (reads_all R1 k e).one
      exact ⟨j, by rw [r.int], by omega, by omega, P1 G L _ s R1 iter_range⟩
    · exact P1.elim
  · exact P1.elim
theorem ri_r2 {t : TA} {fs : List SE} (h : RA Z t (vArgs fs)) : RI Z (iRng2 t) (vItR2 fs) := by
  intro Y F ρ σ H Rr R P
  refine h Y F ρ σ H _ R (post_bind P fun vls ρ1 _ P1 => fun G L vs s R1 k => ?_)
  split at P1
  · rename_i i j e
    split at P1
    · rename_i hb
      obtain ⟨x, y, rfl, r1, r2⟩ := (reads_all R1 k e).two
      exact ⟨i, j, by rw [r1.int, r2.int], ⟨by omega, by omega, by omega, by omega⟩, P1 G L _ s R1 iter_range⟩
    · exact P1.elim
  · exact P1.elim

/-! ### for -/
def loopF (h : D → Env → Option Env) (body : SS) : List D → SS
  | [], ρ => .nx ρ
  | d :: ds, ρ => match h d ρ with
    | none => .bad
    | some ρ1 => match body ρ1 with
      | .nx ρ2 => loopF h body ds ρ2
      | .ct ρ2 => loopF h body ds ρ2
      | .bk ρ2 => .nx ρ2
      | r => r
def sFor (src : SI) (h : D → Env → Option Env) (body : SS) : SS := fun ρ => sBind (src ρ) fun ds ρ1 => loopF h body ds ρ1
theorem rs_for {gs : List Nat} {wi : TI} {src : SI} {g : TG} {h : D → Env → Option Env} {tb : TS} {body : SS} (hi : RI Z wi src) (hg : RG Z gs g h) (hb : RS Z tb body) : RS Z (tFor wi g tb) (sFor src h body) := by
  intro Y F ρ σ H E R P
  refine hi Y F ρ σ H _ R (spost_bind P fun ds ρ1 _ P1 => fun G0 L0 J s0 R0 it => ?_)
  refine ⟨fun i m σ H => m = ds.length - i ∧ i ≤ ds.length ∧ ∃ F ρ, Same G0 F ∧ Z.R Y F ρ σ H ∧ SPost Z Y E F (loopF h body (ds.drop i) ρ), ⟨ds.length, by simp, Nat.zero_le _, G0, ρ1, Same.refl G0, R0, P1.mono s0⟩, ?_⟩
  rintro i m σ H ⟨rfl, hi, F1, ρ2, s1, R1, P2⟩
  by_cases hlt : i < ds.length
  · rw [List.drop_eq_getElem_cons hlt] at P2
    unfold loopF at P2
    split at P2
    · exact P2.elim
    · rename_i ρ3 e3
      refine .inr ⟨it.goes i F1 H s1 R1.fh hlt, fun σ' H' => i + 1 ≤ ds.length ∧ ∃ F ρ, Same G0 F ∧ Z.R Y F ρ σ' H' ∧ SPost Z Y E F (loopF h body (ds.drop (i + 1)) ρ), fun σ' H' n => ⟨ds.length - (i + 1), by omega, rfl, n.1, n.2⟩, fun x H' y => ?_⟩
      obtain ⟨F2, x2, rx⟩ := it.yields i F1 H x H' _ s1 R1.fh (List.getElem?_eq_getElem hlt) y
      refine hg Y F2 ρ2 σ H' x _ _ ρ3 (R1.grow x2) rx e3 fun σ2 R2 _ => ?_
      refine hb Y F2 ρ3 σ2 H' _ R2 ?_
      have s12 := s1.trans x2.ff
      cases e : body ρ3 with
      | nx ρ4 =>
        rw [e] at P2
        exact fun G σ4 L s4 R4 => ⟨hlt, G, ρ4, s12.trans s4, R4, P2.mono (x2.ff.trans s4)⟩
      | ct ρ4 =>
        rw [e] at P2
        exact fun G σ4 L s4 R4 => ⟨hlt, G, ρ4, s12.trans s4, R4, P2.mono (x2.ff.trans s4)⟩
      | bk ρ4 =>
        rw [e] at P2
        exact fun G σ4 L s4 R4 => P2 G σ4 L (x2.ff.trans s4) R4
      | ret w ρ4 =>
        rw [e] at P2
        exact fun G σ4 L u s4 R4 => P2 G σ4 L u (x2.ff.trans s4) R4
      | exn c w ρ4 =>
        rw [e] at P2
        exact fun σ4 => (P2 σ4).mono x2.ff
      | bad => rw [e] at P2; exact P2.elim
  · have e : i = ds.length := by omega
    subst e
    rw [List.drop_length] at P2
    exact .inl ⟨it.stops F1 H s1 R1.fh, P2 F1 σ H (Same.refl F1) R1⟩

/-! ### while -/
def whileF (g : STst) (body : SS) : Nat → SS
  | 0, _ => .bad
  | n + 1, ρ => sBind (g ρ) fun b ρ1 => if b = true then (match body ρ1 with
      | .nx ρ2 => whileF g body n ρ2
      | .ct ρ2 => whileF g body n ρ2
      | .bk ρ2 => .nx ρ2
      | r => r) else .nx ρ1
def sWhile (n : Nat) (g : STst) (body : SS) : SS := whileF g body n
theorem rs_while {n : Nat} {c : TT} {g : STst} {tb : TS} {body : SS} (hc : RT' Z c g) (hb : RS Z tb body) : RS Z (tWhile c tb) (sWhile n g body) := by
  intro Y F ρ σ H E R P
  refine ⟨fun m σ H => ∃ F ρ, Z.R Y F ρ σ H ∧ SPost Z Y E F (whileF g body m ρ), ⟨n, F, ρ, R, P⟩, ?_⟩
  rintro m σ H ⟨F1, ρ1, R1, P1⟩
  cases m with
  | zero => exact P1.elim
  | succ m =>
    refine hc Y F1 ρ1 σ H _ R1 (spost_bind P1 fun b ρ2 _ P2 => fun G L s R2 => ?_)
    cases b with
    | false => exact P2 G σ L s R2
    | true =>
      rw [if_pos rfl]
      rw [if_pos rfl] at P2
      refine ⟨fun σ' H' => ∃ F ρ, Z.R Y F ρ σ' H' ∧ SPost Z Y E F (whileF g body m ρ), fun σ' H' w => ⟨m, Nat.lt_succ_self m, w⟩, ?_⟩
      refine hb Y G ρ2 σ L _ R2 ?_
      cases e : body ρ2 with
      | nx ρ4 =>
        rw [e] at P2
        exact fun G4 σ4 L4 s4 R4 => ⟨G4, ρ4, R4, P2.mono (s.trans s4)⟩
      | ct ρ4 =>
        rw [e] at P2
        exact fun G4 σ4 L4 s4 R4 => ⟨G4, ρ4, R4, P2.mono (s.trans s4)⟩
      | bk ρ4 =>
        rw [e] at P2
        exact fun G4 σ4 L4 s4 R4 => P2 G4 σ4 L4 (s.trans s4) R4
      | ret w ρ4 =>
        rw [e] at P2
        exact fun G4 σ4 L4 u s4 R4 => P2 G4 σ4 L4 u (s.trans s4) R4
      | exn c w ρ4 =>
        rw [e] at P2
        exact fun σ4 => (P2 σ4).mono s
      | bad => rw [e] at P2; exact P2.elim

/-! ### comprehensions -/
def wipeE (ρ : Env) : List Nat → Env
  | [] => ρ
  | v :: vs => (wipeE ρ vs).set v .no
theorem wipeE_length (ρ : Env) : ∀ vs, (wipeE ρ vs).length = ρ.length
  | [] => rfl
  | v :: vs => by unfold wipeE; rw [List.length_set, wipeE_length ρ vs]
theorem wipeE_eq (ρ : Env) : ∀ (vs : List Nat) (i : Nat), (wipeE ρ vs)[i]? = if i ∈ vs ∧ i < ρ.length then some .no else ρ[i]?
  | [], i => by simp [wipeE]
  | v :: vs, i => by
    have ih := wipeE_eq ρ vs i
    unfold wipeE
    by_cases h : v = i
    · subst h
      by_cases hl : v < ρ.length
      · rw [List.getElem?_set_self (by rw [wipeE_length]; exact hl), if_pos ⟨List.mem_cons_self, hl⟩]
      · rw [if_neg (fun z => hl z.2), List.getElem?_eq_none (by rw [List.length_set, wipeE_length]; omega), List.getElem?_eq_none (by omega)]
    · rw [List.getElem?_set_ne h, ih]
      by_cases q : i ∈ vs ∧ i < ρ.length
      · rw [if_pos q, if_pos ⟨List.mem_cons_of_mem _ q.1, q.2⟩]
      · rw [if_neg q, if_neg (fun z => q ⟨(List.mem_cons.mp z.1).resolve_left (fun y => h y.symm), z.2⟩)]
theorem wipeE_some {vs : List Nat} {i : Nat} {s : Slot} (h : (wipeE ρ vs)[i]? = some s) : s = .no ∨ (i ∉ vs ∧ ρ[i]? = some s) := by
  rw [wipeE_eq] at h
  split at h
  · cases h; exact .inl rfl
  · rename_i hn
    have hl := (List.getElem?_eq_some_iff.mp h).1
    exact .inr ⟨fun z => hn ⟨z, hl⟩, h⟩
theorem wipe_out {vs : List Nat} {i : Nat} (h : i ∉ vs) : (wipe σ vs)[i]? = σ[i]? := by rw [wipe_eq, if_neg (fun z => h z.1)]
/-- the block's own slots forgotten -/
theorem Rel.wipe {K : PySem.W.Frag} {mg : Str → Option Value} (R : Rel K mg Y F ρ σ H) (vs : List Nat) : Rel K mg Y F (wipeE ρ vs) (L2.wipe σ vs) H where
  ext := R.ext
  a0 := R.a0
  slot := fun i s hs => by
    rcases wipeE_some hs with rfl | ⟨hi, hs⟩
    · trivial
    · rw [wipe_out hi]; exact R.slot i s hs
  sep := fun i j p d e h1 h2 h3 h4 => by
    rcases wipeE_some h1 with z | ⟨hi, h1⟩
    · cases z
    · rcases wipeE_some h2 with z | ⟨hj, h2⟩
      · cases z
      · rw [wipe_out hi] at h3
        rw [wipe_out hj] at h4
        exact R.sep i j p d e h1 h2 h3 h4
  par := fun i d h => by
    rcases wipeE_some h with z | ⟨_, h⟩
    · cases z
    · exact R.par i d h
  pin := R.pin
  len := by rw [wipeE_length, wipe_length]; exact R.len
/-- behind the block: what the block did to the other slots, the block's own ones as ahead of it -/
def restE (vs : List Nat) (ρ0 ρ : Env) : Env := (List.range ρ0.length).map fun i => if i ∈ vs then (match ρ0[i]? with | some (.sh d) => .sh d | _ => .no) else (match ρ[i]? with | some s => s | none => .no)
theorem restE_some {vs : List Nat} {ρ0 : Env} {i : Nat} {s : Slot} (h : (restE vs ρ0 ρ)[i]? = some s) : s = .no ∨ (i ∈ vs ∧ ρ0[i]? = some s ∧ ∃ d, s = .sh d) ∨ (i ∉ vs ∧ ρ[i]? = some s) := by
  unfold restE at h
  rw [List.getElem?_map] at h
  obtain ⟨j, h1, h2⟩ := Option.map_eq_some_iff.mp h
  have : j = i := by
    obtain ⟨h3, h4⟩ := List.getElem?_eq_some_iff.mp h1
    simpa using h4.symm
  subst this
  split at h2
  · rename_i hv
    split at h2
    · rename_i d e
      exact .inr (.inl ⟨hv, by rw [← h2]; exact e, d, h2.symm⟩)
    · exact .inl h2.symm
  · rename_i hv
    split at h2
    · rename_i s' e
      exact .inr (.inr ⟨hv, by rw [← h2]; exact e⟩)
    · exact .inl h2.symm
theorem Rel.rest {K : PySem.W.Frag} {mg : Str → Option Value} {F0 H0 : Hp} {ρ0 : Env} {vs : List Nat} (R0 : Rel K mg Y F0 ρ0 σ H0) (s : Same F0 F) (R : Rel K mg Y F ρ (L2.wipe σ vs) H) : Rel K mg Y F (restE vs ρ0 ρ) σ H where
  ext := R.ext
  a0 := R.a0
  slot := fun i sl hs => by
    rcases restE_some hs with rfl | ⟨hi, hs, d, rfl⟩ | ⟨hi, hs⟩
    · trivial
    · obtain ⟨v, e, r⟩ := R0.slot i _ hs
      exact ⟨v, e, r.mono s⟩
    · have q := R.slot i sl hs
      rwa [wipe_out hi] at q
  sep := fun i j p d e h1 h2 h3 h4 => by
    rcases restE_some h1 with z | ⟨_, _, _, z⟩ | ⟨hi, h1⟩
    · cases z
    · cases z
    · rcases restE_some h2 with z | ⟨_, _, _, z⟩ | ⟨hj, h2⟩
      · cases z
      · cases z
      · rw [← wipe_out (σ := σ) hi] at h3
        rw [← wipe_out (σ := σ) hj] at h4
        exact R.sep i j p d e h1 h2 h3 h4
  par := fun i d h => by
    rcases restE_some h with z | ⟨_, _, _, z⟩ | ⟨_, h⟩
    · cases z
    · cases z
    · exact R.par i d h
  pin := R.pin
  len := by
    unfold restE
    rw [List.length_map, List.length_range, R0.len]

/-- an object is put aside -/
def Ent.aside (Y : Ent) (b : Addr) (o : HO) : Ent := { Y with P := upd Y.P b o }
theorem Rel.aside {K : PySem.W.Frag} {mg : Str → Option Value} {b : Addr} {o : HO} (R : Rel K mg Y F ρ σ H) (n : H b = none) : Rel K mg (Y.aside b o) F ρ σ (upd H b o) := by
  have R1 := R.grow (Ext.lay (o := o) R.fh n)
  have hb : ∀ {p d}, Own K mg F H p d → p ≠ b := fun {p d} q z => q.there (by rw [z]; exact n)
  refine ⟨R1.ext, R1.a0, fun i s hs => ?_, R.sep, R.par, fun c u e => ?_, R.len⟩
  · have q := R.slot i s hs
    have q1 := R1.slot i s hs
    cases s with
    | no => trivial
    | sh d => exact q1
    | own d =>
      obtain ⟨p, e, a1, a2, a3, a4⟩ := q
      obtain ⟨p', e', b1, b2, b3, b4⟩ := q1
      rw [e] at e'; cases e'
      exact ⟨p, e, b1, b2, by show upd Y.P b o p = none; rw [upd_ne (hb a4)]; exact b3, b4⟩
    | par d =>
      obtain ⟨p, e, a1, a2, a3, a4⟩ := q
      obtain ⟨p', e', b1, b2, b3, b4⟩ := q1
      rw [e] at e'; cases e'
      exact ⟨p, e, b1, b2, by show upd Y.P b o p = none; rw [upd_ne (hb a4)]; exact b3, b4⟩
  · have e' : upd Y.P b o c = some u := e
    by_cases hc : c = b
    · subst hc
      rw [upd_same] at e'; cases e'
      refine ⟨upd_same, .inl (R.fh.free n), R.ext.dom c n⟩
    · rw [upd_ne hc] at e'
      exact R1.pin c u e'
/-- what is aside is changed -/
theorem Rel.asideUpd {K : PySem.W.Frag} {mg : Str → Option Value} {b : Addr} {o o' : HO} (nt : ∀ xs, o ≠ HO.tup xs) (R : Rel K mg (Y.aside b o) F ρ σ H) : Rel K mg (Y.aside b o') F ρ σ (upd H b o') := by
  obtain ⟨h1, h2, h3⟩ := R.pinN (b := b) upd_same nt
  have pb : ∀ {p}, upd Y.P b o p = none → p ≠ b := fun {p} q z => by rw [z, upd_same] at q; cases q
  have pn : ∀ {p}, upd Y.P b o p = none → upd Y.P b o' p = none := fun {p} q => by
    have ne := pb q
    rw [upd_ne ne] at q
    rw [upd_ne ne]
    exact q
  have h3' : Y.H0 b = none := h3
  refine ⟨⟨R.ext.ff, fun c u q => ?_, fun c u hc q => ?_, fun c q => ?_, R.ext.new⟩, R.a0, fun i s hs => ?_, R.sep, R.par, fun c u e => ?_, R.len⟩
  · rw [upd_ne (fun z => by rw [z, h2] at q; cases q)]; exact R.fh _ _ q
  · have q' : Y.H0 c = some u := q
    rw [upd_ne (fun z => by rw [z, h3'] at q'; cases q')]; exact R.ext.old c u hc q
  · by_cases hc : c = b
    · subst hc; rw [upd_same] at q; cases q
    · rw [upd_ne hc] at q; exact R.ext.dom c q
  · have q := R.slot i s hs
    cases s with
    | no => trivial
    | sh d => exact q
    | own d =>
      obtain ⟨p, e, a1, a2, a3, a4⟩ := q
      exact ⟨p, e, a1, a2, pn a3, a4.moves (Same.refl F) fun u z => by rw [upd_ne (pb a3)]; exact z⟩
    | par d =>
      obtain ⟨p, e, a1, a2, a3, a4⟩ := q
      exact ⟨p, e, a1, a2, pn a3, a4.moves (Same.refl F) fun u z => by rw [upd_ne (pb a3)]; exact z⟩
  · have e' : upd Y.P b o' c = some u := e
    by_cases hc : c = b
    · subst hc
      rw [upd_same] at e'; cases e'
      exact ⟨upd_same, .inl h2, h3⟩
    · rw [upd_ne hc] at e'
      obtain ⟨k1, k2, k3⟩ := R.pin c u (show upd Y.P b o c = some u by rw [upd_ne hc]; exact e')
      exact ⟨by rw [upd_ne hc]; exact k1, k2, k3⟩
/-- back again -/
theorem Rel.unaside {K : PySem.W.Frag} {mg : Str → Option Value} {b : Addr} {o : HO} (nP : Y.P b = none) (R : Rel K mg (Y.aside b o) F ρ σ H) : Rel K mg Y F ρ σ H := by
  have pn : ∀ {p}, upd Y.P b o p = none → Y.P p = none := fun {p} q => by
    by_cases hp : p = b
    · rw [hp]; exact nP
    · rw [upd_ne hp] at q; exact q
  refine ⟨R.ext, R.a0, fun i s hs => ?_, R.sep, R.par, fun c u e => ?_, R.len⟩
  · have q := R.slot i s hs
    cases s with
    | no => trivial
    | sh d => exact q
    | own d =>
      obtain ⟨p, e, a1, a2, a3, a4⟩ := q
      exact ⟨p, e, a1, a2, pn a3, a4⟩
    | par d =>
      obtain ⟨p, e, a1, a2, a3, a4⟩ := q
      exact ⟨p, e, a1, a2, pn a3, a4⟩
  · exact R.pin c u (show upd Y.P b o c = some u by rw [upd_ne (fun z => by rw [z, nP] at e; cases e)]; exact e)

def noexn {α : Type} : OutG α → OutG α
  | .exn _ _ _ => .bad
  | o => o
def compF (h : D → Env → Option Env) (g : STst) (f : SE) (vs : List Nat) : List D → Env → List D → OutG (List D)
  | [], ρ, acc => .ok acc ρ
  | d :: ds, ρ, acc => match h d ρ with
    | none => .bad
    | some ρ1 => obind (noexn (g ρ1)) fun b ρ2 => if b = true then obind (noexn (f ρ2)) fun v ρ3 => match esc ρ3 v with
          | none => .bad
          | some (y, ρ4) => if acc.length < sizeLine then compF h g f vs ds (wipeE ρ4 vs) (acc ++ [y]) else .bad
        else compF h g f vs ds (wipeE ρ2 vs) acc
def vYes : STst := fun ρ => .ok true ρ
theorem rt_yes : RT' Z tYes vYes := fun Y F ρ σ H Q R P => P F H (Same.refl F) R
def vComp (src : SI) (h : D → Env → Option Env) (g : STst) (f : SE) (vs : List Nat) : SE := fun ρ => obind (src ρ) fun ds ρ1 => obind (compF h g f vs ds (wipeE ρ1 vs) []) fun out ρ2 => .ok (.fr (.lst out)) (restE vs ρ1 ρ2)
/-- the contexts of a comprehension's block -/
def InBlk (Z : Ctx) (scope : Scope) (p : Ctx → Prop) : Prop := ∀ (s : Shared) (H : Hp) (C : Addr) (cl : List (Str × Addr)) (fp : List Addr), p ⟨Z.X.blk s H scope (compEnvC scope cl C Z.X.env) fp, fun _ _ _ _ => False⟩
theorem re_comp {gs vs : List Nat} {wi : TI} {src : SI} {g : TG} {h : D → Env → Option Env} {tt : TT} {gt : STst} {te : TE} {f : SE} (Zb : Ctx) (hK : Zb.X.K = Z.X.K) (hmg : Zb.X.mg = Z.X.mg) (hW : Zb.W = fun _ _ _ _ => False) (hsub : ∀ i ∈ gs, i ∈ vs) (hi : RI Z wi src) (hg : RG Zb gs g h) (ht : RT' Zb tt gt) (he : RE Zb te f) :
    RE Z (tLc wi g tt te vs) (vComp src h gt f vs) := by
  have eR : ∀ Y F ρ σ H, Zb.R Y F ρ σ H = Z.R Y F ρ σ H := fun Y F ρ σ H => by unfold Ctx.R; rw [hK, hmg]
  intro Y F ρ σ H Q R P
  refine hi Y F ρ σ H _ R (post_bind P fun ds ρ1 _ P1 => fun G0 L0 J s0 R0 it => ?_)
  intro Dd nD
  have nP : Y.P Dd = none := by
    cases e : Y.P Dd with
    | none => rfl
    | some u => rw [(R0.pin Dd u e).1] at nD; cases nD
  refine ⟨fun i m H => m = ds.length - i ∧ i ≤ ds.length ∧ ∃ F ρ as ws, Same G0 F ∧ Z.R (Y.aside Dd (.lst ws)) F ρ (wipe σ vs) H ∧ Reps Z.X.K Z.X.mg F ws as ∧
    Post (BV Z Y σ Q) Z Y σ F (obind (compF h gt f vs (ds.drop i) ρ as) fun out ρ2 => .ok (.fr (.lst out)) (restE vs ρ1 ρ2)),
    ⟨ds.length, by simp, Nat.zero_le _, G0, wipeE ρ1 vs, [], [], Same.refl G0, (R0.wipe vs).aside nD, .nil, P1.mono s0 fun v ρ q => bv_mono s0 v ρ q⟩, ?_⟩
  rintro i m H ⟨rfl, hil, F1, ρ2, as, ws, s1, R1, ra, P2⟩
  by_cases hlt : i < ds.length
  · rw [List.drop_eq_getElem_cons hlt] at P2
    unfold compF at P2
    split at P2
    · exact P2.elim
    · rename_i ρ3 e3
      refine .inr ⟨it.goes i F1 H s1 R1.fh hlt, fun H' => i + 1 ≤ ds.length ∧ ∃ F ρ as ws, Same G0 F ∧ Z.R (Y.aside Dd (.lst ws)) F ρ (wipe σ vs) H' ∧ Reps Z.X.K Z.X.mg F ws as ∧
        Post (BV Z Y σ Q) Z Y σ F (obind (compF h gt f vs (ds.drop (i + 1)) ρ as) fun out ρ2 => .ok (.fr (.lst out)) (restE vs ρ1 ρ2)), fun H' n => ⟨ds.length - (i + 1), by omega, rfl, n.1, n.2⟩, fun x H' y => ?_⟩
      obtain ⟨F2, x2, rx⟩ := it.yields i F1 H x H' _ s1 R1.fh (List.getElem?_eq_getElem hlt) y
      have s12 := s1.trans x2.ff
      refine hg (Y.aside Dd (.lst ws)) F2 ρ2 (wipe σ vs) H' x _ _ ρ3 (by rw [eR]; exact R1.grow x2) (by rw [hK, hmg]; exact rx) e3 fun σ2 R2 w2 => ?_
      have w3 : wipe σ2 vs = wipe σ vs := by
        rw [w2 vs hsub]
        refine List.ext_getElem? fun j => ?_
        rw [wipe_eq, wipe_eq, wipe_length]
        split <;> rfl
      refine ⟨w3, ?_⟩
      rw [eR] at R2
      refine ht (Y.aside Dd (.lst ws)) F2 ρ3 σ2 H' _ (by rw [eR]; exact R2) ?_
      cases eg : gt ρ3 with
      | bad => rw [eg] at P2; exact P2
      | exn c w ρ4 => rw [eg] at P2; exact P2.elim
      | ok b ρ4 =>
        rw [eg] at P2
        simp only [noexn, obind_ok] at P2
        intro F4 H4 s4 R4
        rw [eR] at R4
        have s14 := s12.trans s4
        cases b with
        | false =>
          refine ⟨hlt, F4, wipeE ρ4 vs, as, ws, s14, ?_, ra.mono (x2.ff.trans s4), P2.mono (x2.ff.trans s4) fun v ρ q => bv_mono (x2.ff.trans s4) v ρ q⟩
          have R5 := R4.wipe vs
          rwa [w3] at R5
        | true =>
          rw [if_pos rfl]
          simp only [if_true] at P2
          refine he (Y.aside Dd (.lst ws)) F4 ρ4 σ2 H4 _ (by rw [eR]; exact R4) ?_
          cases ef : f ρ4 with
          | bad => rw [ef] at P2; exact P2
          | exn c w ρ5 => rw [ef] at P2; exact P2.elim
          | ok v ρ5 =>
            rw [ef] at P2
            simp only [noexn, obind_ok] at P2
            intro F5 H5 u s5 R5 k5
            rw [hK, hmg] at R5
            rw [hK, hmg] at k5
            split at P2
            · exact P2.elim
            · rename_i yd ρ6 e6
              obtain ⟨F6, s6, R6, r6⟩ := R5.esc k5 e6
              split at P2
              · rename_i hl
                obtain ⟨hD, _, _⟩ := R6.pin Dd _ upd_same
                have s26 := x2.ff.trans (s4.trans (s5.trans s6))
                refine ⟨ws, hD, by rw [ra.len]; exact hl, hlt, F6, wipeE ρ6 vs, as ++ [yd], ws ++ [u], s14.trans (s5.trans s6), ?_, (ra.mono s26).app (.cons r6 .nil), P2.mono s26 fun v ρ q => bv_mono s26 v ρ q⟩
                have R7 := Rel.asideUpd (o := .lst ws) (o' := .lst (ws ++ [u])) (fun _ z => nomatch z) (R6.wipe vs)
                rwa [w3] at R7
              · exact P2.elim
  · have e : i = ds.length := by omega
    subst e
    rw [List.drop_length] at P2
    refine .inl ⟨it.stops F1 H s1 R1.fh, ?_⟩
    obtain ⟨hD, nF, nH⟩ := R1.pinN (b := Dd) upd_same (fun _ z => nomatch z)
    have R2 := (R1.unaside nP)
    have R3 := R0.rest s1 R2
    refine P2 F1 H (.ref Dd) (Same.refl F1) R3 ⟨Dd, rfl, nF, nH, nP, fun j d' q z => ?_, ws, hD, ra⟩
    obtain ⟨p', e', _, _, _, o'⟩ := R3.slot j _ q
    rw [z] at e'; cases e'
    rcases restE_some q with y | ⟨_, _, _, y⟩ | ⟨hj, q⟩
    · cases y
    · cases y
    · obtain ⟨p2, e2, _, _, np2, _⟩ := R1.slot j _ q
      rw [wipe_out hj, z] at e2; cases e2
      have np3 : upd Y.P Dd (.lst ws) Dd = none := np2
      rw [upd_same] at np3; cases np3
end
end VL
/-! V9: errors raised and caught, defs from their bodies -/
namespace VL
open PySem PySem.Spec PyProof.Rows L2

/-! ### try with several clauses that name their error -/
def wMas (K : PySem.W.Frag) (Wout : WX) (D : Ends) : List (Value × Nat × (Addr → Value → Option Addr → TS)) → WX
  | [] => Wout
  | (c, i, ts) :: r => fun cls d σ H => ∃ b, PySem.W.exmOne K cls c = some b ∧ (b = true → ∀ a, H a = none → ts a cls d { nx := fun σ' H' => D.nx (σ'.set i none) H', rt := D.rt, bk := fun σ' H' => D.bk (σ'.set i none) H', ct := fun σ' H' => D.ct (σ'.set i none) H' } (σ.set i (some (.ref a))) H) ∧
    (b = false → wMas K Wout D r cls d σ H)
inductive MasOk (X : Cx) : List ExceptHandler → List (Value × Nat × (Addr → Value → Option Addr → TS)) → Prop
  | nil : MasOk X [] []
  | cons {x n : Str} {c : Value} {i : Nat} {ts : Addr → Value → Option Addr → TS} {b0 : Stmt} {suite : List Stmt} {np pos' : Pos} {hds : List ExceptHandler} {l : List (Value × Nat × (Addr → Value → Option Addr → TS))} (hc : Names X x c)
      (hi : X.N[i]? = some n) (hln : X.env.kindOf n = some .local)
      (hsu : ∀ (a : Addr) (oe : Obj) (cls : Value) (d : Option Addr) (pn : List (Addr × Obj)), Zc cls d oe → (∃ vs, oe.data = .fields vs) → PSs (X.suite a ((a, oe) :: pn)) (b0 :: suite) (ts a cls d)) (r : MasOk X hds l) :
      MasOk X (.ExceptHandler (some (.Name x np)) (some n) (b0 :: suite) pos' :: hds) ((c, i, ts) :: l)
section
variable {X : Cx} {body : List Stmt} {h0 : ExceptHandler} {hds : List ExceptHandler} {l : List (Value × Nat × (Addr → Value → Option Addr → TS))} {pos : Pos} {tb : WX → TS} {Wout : WX}
theorem ps_try_mas (hs : X.stack = X.env :: X.outer) (hf : X.env.frame = some X.env.locals) (hN : X.N.Nodup) (tk : Takes X Wout)
    (hb : ∀ (W : WX) (pn : List (Addr × Obj)) (xe : Value → Shared → Prop), Takes (X.tr pn xe) W → PassesOwn (model X.prog X.w) X.A X.env xe → PSs (X.tr pn xe) body (tb W))
    (hh : MasOk X (h0 :: hds) l) : PS X (.Try body (h0 :: hds) [] [] pos) (fun D σ H => tb (wMas X.K Wout D l) D σ H) := by
  constructor
  intro pins s σ H D I h
  have ok := I.ok
  have hfr : X.A.frames = some (X.env :: X.outer) := by rw [ok.frames, hs]
  refine wpAny_Try_except (wpAny_mono ((hb (wMas X.K Wout D l) (X.pn ++ pins) (fun e s₁ => wpAny (model X.prog X.w) X.A (noteFrame e X.env) (fun _ s₂ => wpAny (model X.prog X.w) X.A (setFlight e none) (fun _ s₃ =>
    wpAny (model X.prog X.w) X.A (handleBy e X.env (h0 :: hds)) (SP X pins D) X.xe s₃) X.xe s₂) X.xe s₁) (fun u s' xx => ?_) PassesOwn.looking).run [] s σ H D (I.toTry _) h) (fun f s1 hsp => ?_) (fun e s1 he => he))
  · obtain ⟨a, B, sI, pins', σ', H', cls, d, rfl, J', nb, up, sky, na, os, ag, w⟩ := xx
    have J : Inv X pins σ' H' sI := J'.ofTry ok
    have sky2 : Sky B (X.env :: X.outer) a (Zc cls d) X.env.locals s'.heap := hs ▸ sky
    refine Sky.land (s := s') Zc.steady hfr hf sky2 fun h3 fl3 up3 => ?_
    have J3 : Inv X pins σ' H' { s' with heap := h3 } := J.landed nb fl3.1 (up.trans up3) os ag
    obtain ⟨oe3, vs3, he3, hz3, hd3⟩ := fl3.there
    have nfr : a ∉ frs (X.env :: X.outer) := fun hm => by
      obtain ⟨_, o', e', hnf⟩ := fl3.2.2.1.mem hm
      rw [he3] at e'; cases e'
      exact hnf _ hd3
    have nL : a ≠ X.env.locals := fun z => nfr (List.mem_filterMap.mpr ⟨X.env, List.mem_cons_self, by rw [hf, z]⟩)
    have nF : a ∉ X.fs := fun hm => by
      obtain ⟨e, he, q⟩ := List.mem_filterMap.mp hm
      exact nfr (List.mem_filterMap.mpr ⟨e, List.mem_cons_of_mem _ he, q⟩)
    have S3 := J3.suite he3 hd3 na nL nF
    have go : ∀ {hs2 : List ExceptHandler} {l2 : List (Value × Nat × (Addr → Value → Option Addr → TS))}, MasOk X hs2 l2 → wMas X.K Wout D l2 cls d σ' H' →
        wpAny (model X.prog X.w) X.A (handleBy (.ref a) X.env hs2) (SP X pins D) X.xe { s' with heap := h3 } := by
      intro hs2 l2 hk
      induction hk with
      | nil =>
        intro w
        refine wpAny_handleBy_nil ?_
        obtain ⟨k1, k2, k3, oe, vs, T, oT, ts', he, hz, hd, h1, hr⟩ := id fl3
        unfold PySem.passOn
        refine wpAny_bind (wpAny_field he hd h1 ?_)
        rw [if_neg (show ¬ ((Value.ref T == Value.none) = true) from by simp)]
        have fin : wpAny (model X.prog X.w) X.A (setFlight (.ref a) X.env.frame) (fun _ s4 => wpAny (model X.prog X.w) X.A (throw (.ref a) : Sem Flow) (SP X pins D) X.xe s4) X.xe { s' with heap := h3 } := by
          rw [hf]
          refine HandSPX.setFlight_upZ fl3 fun h4 hh4 up4 => wpAny_throw (tk _ _ ?_)
          exact ⟨a, B, sI, pins, σ', H', cls, d, rfl, J, nb, (up.trans up3).trans up4, .inr (.inr (by rw [hs]; exact hh4)), na, os, ag, w⟩
        first
          | exact wpAny_bind (wpAny_pure (wpAny_bind fin))
          | exact wpAny_bind fin
      | @cons x n c i ts b0 suite np pos' hds2 l2 hc hi hln hsu r ih =>
        intro w
        obtain ⟨b, hb1, hyes, hno⟩ := w
        refine wpAny_handleBy_cons (codeAny_handlers_test ?_) (by intro q; cases q)
        have LT : PySem.W.Looks (model X.prog X.w) h3 (typeOf (.ref a)) cls := fun A Q E s k q => wpAny_typeOf_ref (k _ _ he3) (by rw [hz3.1]; exact q)
        have LM := PySem.W.exm_one (M := model X.prog X.w) (J3.kIn) LT hb1
        have tst : ∀ {Q : Value → Shared → Prop} {E : Value → Shared → Prop}, Q c { s' with heap := h3 } → wpAny (model X.prog X.w) (X.A.mark (some (.ref a))) (eval (.Name x np) X.env) Q E { s' with heap := h3 } := fun {Q E} q => by
          obtain ⟨hg, hdbg, hm | ⟨hm, hv, hnn⟩⟩ := hc
          · exact ld_glob (X := X.suite a ((a, oe3) :: (X.pn ++ pins))) S3 hg hm q hdbg
          · exact ld_blt (X := X.suite a ((a, oe3) :: (X.pn ++ pins))) S3 hg hm hv q hnn hdbg
        refine tst (LM.here ?_)
        cases b with
        | false => exact ih (hno rfl)
        | true =>
          refine codeAny_handlers_suite_as (HandSPX.lands_againZ fl3 fun h4 fl4 up4 => ?_)
          have J4 : Inv X pins σ' H' { s' with heap := h4 } := J.landed nb fl4.1 ((up.trans up3).trans up4) os ag
          obtain ⟨oe4, vs4, he4, hz4, hd4⟩ := fl4.there
          have S4 := J4.suite he4 hd4 na nL nF
          refine store_ok (X := X.suite a ((a, oe4) :: (X.pn ++ pins))) (v := .ref a) S4 hN hi (.inl hln) rfl (fun s5 S5 => ?_) (.inr hln)
          refine wpAny_mono ((hsu a oe4 cls d (X.pn ++ pins) hz4 ⟨_, hd4⟩).run [] s5 _ H' _ S5 (hyes rfl a na)) (fun f s6 hsp => ?_) (fun _ _ z => False.elim z)
          have done : ∀ {σ6 : L2.St} {H6 : Hp} {Q : Shared → Prop}, Inv (X.suite a ((a, oe4) :: (X.pn ++ pins))) [] σ6 H6 s6 → (∀ s7, Inv X pins (σ6.set i none) H6 s7 → Q s7) →
              wpAny (model X.prog X.w) X.A (do bindName X.env n .none; unbindBehindTheSuite X.env n pos') (fun _ s7 => Q s7) X.xe s6 := fun {σ6 H6 Q} S6 hq => gone_ok (S6.unsuite ok) hN hi hln hq
          cases f with
          | ret u =>
            obtain ⟨v6, σ6, H6, S6, r6, q6⟩ := hsp
            exact done S6 fun s7 J7 => ⟨_, _, _, J7, r6, q6⟩
          | next =>
            obtain ⟨σ6, H6, S6, q6⟩ := hsp
            exact done S6 fun s7 J7 => ⟨_, _, J7, q6⟩
          | brk =>
            obtain ⟨σ6, H6, S6, q6⟩ := hsp
            exact done S6 fun s7 J7 => ⟨_, _, J7, q6⟩
          | cont =>
            obtain ⟨σ6, H6, S6, q6⟩ := hsp
            exact done S6 fun s7 J7 => ⟨_, _, J7, q6⟩
    exact go hh w
  · cases f with
    | ret u =>
      obtain ⟨v, σ', H', J', r, q⟩ := hsp
      exact ⟨v, σ', H', J'.ofTry ok, r, q⟩
    | next =>
      obtain ⟨σ', H', J', q⟩ := hsp
      exact wpAny_execs_nil ⟨σ', H', J'.ofTry ok, q⟩
    | brk =>
      obtain ⟨σ', H', J', q⟩ := hsp
      exact ⟨σ', H', J'.ofTry ok, q⟩
    | cont =>
      obtain ⟨σ', H', J', q⟩ := hsp
      exact ⟨σ', H', J'.ofTry ok, q⟩
end

/-! ### the reading that a function on slots gives -/
def canS (Z : Ctx) (f : SS) : TS := fun E σ H => ∃ Y F ρ, Z.R Y F ρ σ H ∧ SPost Z Y E F (f ρ)
theorem VSs.can {Z : Ctx} {sts : List Stmt} {f : SS} (h : VSs Z sts f) : PSs Z.X sts (canS Z f) := by
  obtain ⟨t, h1, h2⟩ := h
  exact ⟨fun pins s σ H E I ⟨Y, F, ρ, R, P⟩ => h1.run pins s σ H E I (h2 Y F ρ σ H E R P)⟩

/-! ### raise -/
def errOk (y : Str) : Bool := decide (y.length ≤ 1000)
def sRaise (c : Str) (f : SE) : SS := fun ρ => sBind (f ρ) fun v ρ1 => match look ρ1 v with
  | some (.str y) => if errOk y = true then .exn c (.str y) ρ1 else .bad
  | _ => .bad
/-- the promise of an error's __init__ -/
def spX (K : PySem.W.Frag) (C : Addr) : Sp := fun vs H Q E => ∃ (a : Addr) (y : Str), vs = [.ref a, .str y] ∧ y.length ≤ 1000 ∧ H a = some (exo a C none) ∧
  ∀ dx, H dx = none → dx ≠ a → Q .non (upd (upd H dx (exd dx [(("what" : Str), .str y)])) a (exo a C (some dx)))
section
variable {Z : Ctx} {Y : Ent} {F G H L : Hp} {ρ ρ' : Env} {σ : L2.St} {v : V} {vl : Vl} {d : D}
theorem rs_raise {c : Str} {C : Addr} {t : TE} {f : SE} (hC : Z.X.mg c = some (.ref C)) (h : RE Z t f) :
    RS Z (fun _ σ H => tMkO C (spX Z.X.K C) [] (tCons t tNil) σ H fun cls d H' => Z.W cls d σ H') (sRaise c f) := by
  intro Y F ρ σ H E R P
  show t σ H fun x H1 => ([x] : List V).length ≤ 1000 ∧ ∀ a, H1 a = none → spX Z.X.K C (.ref a :: ([x] ++ [])) (upd H1 a (exo a C none)) _ _
  refine h Y F ρ σ H _ R (spost_bind P fun vl ρ1 _ P1 => fun G L x s R1 k => ?_)
  refine ⟨by show 1 ≤ 1000; decide, fun a na => ?_⟩
  split at P1
  · rename_i y e
    split at P1
    · rename_i hl
      have ex := (R1.reads k e).str
      subst ex
      refine ⟨a, y, rfl, of_decide_eq_true hl, upd_same, fun dx ndx hne => ⟨rfl, dx, [(("what" : Str), .str y)], upd_same, ?_, ?_, ?_⟩⟩
      · rw [upd_ne hne, upd_same]
      · rwa [upd_ne hne] at ndx
      · have ndx' : L dx = none := by rwa [upd_ne hne] at ndx
        have eq : upd (del (upd (upd (upd L a (exo a C none)) dx (exd dx [(("what" : Str), .str y)])) a (exo a C (some dx))) a) dx (.xd [(("what" : Str), .str y)]) = upd L dx (.xd [(("what" : Str), .str y)]) := by
          funext b
          by_cases hb : b = dx
          · rw [hb, upd_same, upd_same]
          · rw [upd_ne hb, upd_ne hb]
            by_cases hba : b = a
            · rw [hba, del_same, na]
            · rw [del_ne hba, upd_ne hba, upd_ne hb, upd_ne hba]
        rw [eq]
        have x1 := Ext.lay (o := HO.xd [(("what" : Str), .str y)]) R1.fh ndx'
        exact P1 σ G _ C dx [(("what" : Str), .str y)] (.str y) s (R1.grow x1) hC upd_same (by simp [List.lookup]) (.str y)
    · exact P1.elim
  · exact P1.elim

/-! ### try -/
/-- what the clauses' suites give -/
def sTry (excs : List Str) (body : SS) (hs : List (Str × Nat × (D → D))) : SS := fun ρ => match body ρ with
  | .exn c w ρ1 => if c ∈ excs ∧ (∀ h ∈ hs, h.1 ∈ excs) then (match hs.lookup c with
      | some (i, g) => if i < ρ1.length then .ret (.sh (g w)) ρ1 else .bad
      | none => .exn c w ρ1) else .bad
  | r => r
/-- the clauses, by the classes they name and what they give -/
def ExcTab (K : PySem.W.Frag) (mg : Str → Option Value) (excs : List Str) : Prop := ∀ c ∈ excs, ∀ c' ∈ excs, ∀ C C', mg c = some (.ref C) → mg c' = some (.ref C') → PySem.W.exmOne K (.ref C) (.ref C') = some (decide (c = c'))
/-- a suite gives g of the error's field -/
def SuiteOk (Z : Ctx) (C : Addr) (i : Nat) (g : D → D) (ts : Addr → Value → Option Addr → TS) : Prop := ∀ Y F ρ σ H E a dd fs x w, Z.R Y F ρ σ H → H dd = some (.xd fs) → fs.lookup ("what" : Str) = some x → Rep Z.X.K Z.X.mg F x w → i < σ.length →
  (∀ G L v, Same F G → Z.R Y G ρ σ L → Rep Z.X.K Z.X.mg G v (g w) → E.rt v L) → ts a (.ref C) (some dd) E (σ.set i (some (.ref a))) H
inductive HsOk (Z : Ctx) : List (Value × Nat × (Addr → Value → Option Addr → TS)) → List (Str × Nat × (D → D)) → Prop
  | nil : HsOk Z [] []
  | cons {c : Str} {C : Addr} {i : Nat} {ts : Addr → Value → Option Addr → TS} {g : D → D} {l : List (Value × Nat × (Addr → Value → Option Addr → TS))} {hs : List (Str × Nat × (D → D))} (hC : Z.X.mg c = some (.ref C)) (h : SuiteOk Z C i g ts) (r : HsOk Z l hs) : HsOk Z ((.ref C, i, ts) :: l) ((c, i, g) :: hs)
theorem wmas_of {excs : List Str} (T : ExcTab Z.X.K Z.X.mg excs) {E : Ends} {l : List (Value × Nat × (Addr → Value → Option Addr → TS))} {hs : List (Str × Nat × (D → D))} (ok : HsOk Z l hs) (hin : ∀ h ∈ hs, h.1 ∈ excs) {c : Str} {C dd : Addr} {fs : List (Str × V)} {x : V} {w : D}
    (hc : c ∈ excs) (hC : Z.X.mg c = some (.ref C)) (R : Z.R Y F ρ σ H) (e1 : H dd = some (.xd fs)) (e2 : fs.lookup ("what" : Str) = some x) (r : Rep Z.X.K Z.X.mg F x w)
    (P : SPost Z Y E F (match hs.lookup c with | some (i, g) => if i < ρ.length then .ret (.sh (g w)) ρ else .bad | none => .exn c w ρ)) : wMas Z.X.K Z.W E l (.ref C) (some dd) σ H := by
  induction ok with
  | nil => exact P σ F H C dd fs x (Same.refl F) R hC e1 e2 r
  | @cons c' C' i ts g l hs hC' hsu rr ih =>
    have hc' : c' ∈ excs := hin (c', i, g) List.mem_cons_self
    refine ⟨decide (c = c'), T c hc c' hc' C C' hC hC', fun hb a na => ?_, fun hb => ?_⟩
    · have ec := of_decide_eq_true hb
      subst ec
      rw [hC] at hC'; cases hC'
      simp only [List.lookup_cons, beq_self_eq_true] at P
      split at P
      · rename_i hlt
        exact hsu Y F ρ σ H _ a dd fs x w R e1 e2 r (by rw [← R.len]; exact hlt) fun G L v s R1 r1 => P G σ L v s R1 r1
      · exact P.elim
    · have ne : c ≠ c' := of_decide_eq_false hb
      have e : (c == c') = false := by simpa using ne
      simp only [List.lookup_cons, e] at P
      exact ih (fun h hh => hin h (List.mem_cons_of_mem _ hh)) P
theorem rs_try {excs : List Str} (T : ExcTab Z.X.K Z.X.mg excs) {body : SS} {l : List (Value × Nat × (Addr → Value → Option Addr → TS))} {hs : List (Str × Nat × (D → D))} (ok : HsOk Z l hs) :
    RS Z (fun E σ H => canS ⟨Z.X, wMas Z.X.K Z.W E l⟩ body E σ H) (sTry excs body hs) := by
  intro Y F ρ σ H E R P
  refine ⟨Y, F, ρ, R, ?_⟩
  unfold sTry at P
  cases e : body ρ with
  | nx ρ1 => rw [e] at P; exact P
  | bk ρ1 => rw [e] at P; exact P
  | ct ρ1 => rw [e] at P; exact P
  | ret v ρ1 => rw [e] at P; exact P
  | bad => rw [e] at P; exact P
  | exn c w ρ1 =>
    rw [e] at P
    simp only at P
    split at P
    · rename_i hc
      intro σ1 G L C dd fs x s R1 hC e1 e2 r
      exact wmas_of T ok hc.2 hc.1 hC R1 e1 e2 r (P.mono s)
    · exact P.elim
end
end VL
/-! V10: a def from its body; an error's __init__; fields stored -/
namespace VL
open PySem PySem.Spec PyProof.Rows L2

/-! ### fields stored -/
def putFD (f : Str) (v : D) : List (Str × D) → List (Str × D)
  | [] => [(f, v)]
  | (g, x) :: r => if g = f then (g, v) :: r else (g, x) :: putFD f v r
theorem RepF.put {K : PySem.W.Frag} {mg : Str → Option Value} {F : Hp} {f : Str} {x : V} {d : D} (h : Rep K mg F x d) : ∀ {xs : List (Str × V)} {ds : List (Str × D)}, RepF K mg F xs ds → RepF K mg F (putF f x xs) (putFD f d ds)
  | _, _, .nil => .cons h .nil
  | _, _, .cons (k := k) h' r => by
    unfold putF putFD
    split
    · exact .cons h r
    · exact .cons h' (RepF.put h r)
/-- the name in slot i, field f, becomes fe -/
def sFldP (okC : Str → Bool) (f : Str) (i : Nat) (fe : SE) : SS := fun ρ => sBind (fe ρ) fun v ρ1 => match esc ρ1 v with
  | none => .bad
  | some (d, ρ2) => match ρ2[i]? with
    | none => .bad
    | some s => match s.mu? with
      | some (.obj c fs) => if okC c = true ∧ fs.length < 1000 then .nx (ρ2.set i (s.put (.obj c (putFD f d fs)))) else .bad
      | _ => .bad
section
variable {Z : Ctx} {Y : Ent} {F G H L : Hp} {ρ ρ' : Env} {σ : L2.St} {v : V} {vl : Vl} {d : D}
theorem rs_fld {okC : Str → Bool} {f : Str} {i : Nat} {te : TE} {fe : SE} (ok : FldOk Z.X.K Z.X.mg okC f) (h : RE Z te fe) : RS Z (sFld Z.X.K (tVar i) te f) (sFldP okC f i fe) := by
  intro Y F ρ σ H E R P
  refine h Y F ρ σ H _ R (spost_bind P fun vl ρ1 _ P1 => fun G L x s R1 k => ?_)
  split at P1
  · exact P1.elim
  · rename_i d ρ2 e
    obtain ⟨G2, s2, R2, r2⟩ := R1.esc k e
    split at P1
    · exact P1.elim
    · rename_i sl hs
      split at P1
      · rename_i c fs hm
        split at P1
        · rename_i hc
          obtain ⟨p, e1, n, o⟩ := R2.mu_at hs hm
          have o' := o
          obtain ⟨C, dx, fv, h1, hmg, rf⟩ := o
          obtain ⟨k1, k2⟩ := ok c C hc.1 hmg
          refine ⟨.ref p, e1, p, C, dx, fv, rfl, h1, k1, k2, by rw [rf.len]; exact hc.2, ?_⟩
          exact P1 G2 σ _ (s.trans s2) (R2.move hs hm e1 (Ext.upd R2.fh n (by rw [h1]; exact fun z => nomatch z)) (.inr ⟨_, rfl, n, C, dx, putF f x fv, upd_same, hmg, rf.put r2⟩))
        · exact P1.elim
      · exact P1.elim
end

/-! ### a def -/
def initE (n : Nat) (own0 : Bool) (ds : List D) : Env := (match own0, ds with
  | true, d :: r => .par d :: r.map .sh
  | _, ds => ds.map .sh) ++ List.replicate (n - ds.length) .no
def parD (own0 : Bool) (ρ : Env) : Option D := if own0 = true then (match (ρ[0]? : Option Slot) with
    | some (.par c) => some c
    | _ => none)
  else some .non
def retV (ρ : Env) : Vl → Option Pv
  | .sh d => some (.sh d)
  | .fr d => some (.fr d)
  | .al i => match ρ[i]? with
    | some (.own d) => some (.fr d)
    | some (.sh d) => some (.sh d)
    | _ => none
def finR (own0 : Bool) : Fl → FR
  | .nx ρ => match parD own0 ρ with
    | some c => .ret (.sh .non) c
    | none => .bad
  | .ret vl ρ => match parD own0 ρ, retV ρ vl with
    | some c, some p => .ret p c
    | _, _ => .bad
  | .exn c w _ => .exn c w
  | _ => .bad
def runDef (n np : Nat) (own0 : Bool) (body : SS) (ds : List D) : FR := if ds.length = np then finR own0 (body (initE n own0 ds)) else .bad
section
variable {K : PySem.W.Frag} {mg : Str → Option Value} {F G H L : Hp}
theorem start_get {N : List Str} {vs : List V} {i : Nat} (h : i < vs.length) : (L2.start N vs)[i]? = some (vs[i]?) := by
  unfold L2.start
  rw [List.getElem?_append_left (by simpa using h), List.getElem?_map, List.getElem?_eq_getElem h]
  rfl
theorem rep_no {n i : Nat} {s : Slot} {l : List Slot} (h : (l ++ List.replicate n .no)[i]? = some s) : l[i]? = some s ∨ s = .no := by
  by_cases hl : i < l.length
  · rw [List.getElem?_append_left hl] at h
    exact .inl h
  · rw [List.getElem?_append_right (by omega), List.getElem?_replicate] at h
    split at h
    · cases h; exact .inr rfl
    · cases h
theorem rel_start_f {N : List Str} {vs : List V} {ds : List D} (s : Same F H) (r : Reps K mg F vs ds) (hl : ds.length ≤ N.length) : Rel K mg ⟨F, H, none, fun _ => none⟩ F (initE N.length false ds) (L2.start N vs) H where
  ext := Ext.refl s
  a0 := fun _ z => nomatch z
  slot := fun i sl h => by
    rcases rep_no h with h | rfl
    · have h' : (ds.map Slot.sh)[i]? = some sl := by cases ds <;> exact h
      rw [List.getElem?_map] at h'
      obtain ⟨d, h1, h2⟩ := Option.map_eq_some_iff.mp h'
      subst h2
      obtain ⟨x, h3, h4⟩ := r.get h1
      exact ⟨x, by rw [start_get (List.getElem?_eq_some_iff.mp h3).1, h3], h4⟩
    · trivial
  sep := fun i j p d e h1 => by
    rcases rep_no h1 with h | z
    · have h' : (ds.map Slot.sh)[i]? = some (.own d) := by cases ds <;> exact h
      rw [List.getElem?_map] at h'
      obtain ⟨_, _, z⟩ := Option.map_eq_some_iff.mp h'
      cases z
    · cases z
  par := fun i d h1 => by
    rcases rep_no h1 with h | z
    · have h' : (ds.map Slot.sh)[i]? = some (.par d) := by cases ds <;> exact h
      rw [List.getElem?_map] at h'
      obtain ⟨_, _, z⟩ := Option.map_eq_some_iff.mp h'
      cases z
    · cases z
  pin := fun _ _ z => nomatch z
  len := by
    have e := r.len
    unfold L2.start
    have h1 : (initE N.length false ds).length = ds.length + (N.length - ds.length) := by
      unfold initE
      cases ds <;> simp <;> omega
    rw [h1, List.length_append, List.length_map, List.length_replicate, e]
theorem rel_start_t {N : List Str} {a : Addr} {vs : List V} {d0 : D} {ds : List D} (s : Same F H) (n : F a = none) (o : Own K mg F H a d0) (r : Reps K mg F vs ds) (hl : ds.length + 1 ≤ N.length) :
    Rel K mg ⟨F, H, some a, fun _ => none⟩ F (initE N.length true (d0 :: ds)) (L2.start N (.ref a :: vs)) H where
  ext := Ext.refl s
  a0 := fun p z => by cases z; exact o.there
  slot := fun i sl h => by
    rcases rep_no h with h | rfl
    · cases i with
      | zero =>
        cases h
        exact ⟨a, rfl, n, rfl, rfl, o⟩
      | succ i =>
        have h' : (ds.map Slot.sh)[i]? = some sl := h
        rw [List.getElem?_map] at h'
        obtain ⟨d, h1, h2⟩ := Option.map_eq_some_iff.mp h'
        subst h2
        obtain ⟨x, h3, h4⟩ := r.get h1
        refine ⟨x, ?_, h4⟩
        rw [start_get (by rw [List.length_cons]; have := (List.getElem?_eq_some_iff.mp h3).1; omega)]
        show some vs[i]? = _
        rw [h3]
    · trivial
  sep := fun i j p d e h1 => by
    rcases rep_no h1 with h | z
    · cases i with
      | zero => cases h
      | succ i =>
        have h' : (ds.map Slot.sh)[i]? = some (.own d) := h
        rw [List.getElem?_map] at h'
        obtain ⟨_, _, z⟩ := Option.map_eq_some_iff.mp h'
        cases z
    · cases z
  par := fun i d h1 => by
    rcases rep_no h1 with h | z
    · cases i with
      | zero => rfl
      | succ i =>
        have h' : (ds.map Slot.sh)[i]? = some (.par d) := h
        rw [List.getElem?_map] at h'
        obtain ⟨_, _, z⟩ := Option.map_eq_some_iff.mp h'
        cases z
    · cases z
  pin := fun _ _ z => nomatch z
  len := by
    have e := r.len
    unfold L2.start initE
    simp [e]
/-- what the body gives is what the promise asks -/
theorem fin_post {Z : Ctx} {Y : Ent} {own0 : Bool} {fl : Fl} {Q : VK} {E : XK} (hP : ∀ b, Y.P b = none) (hA : ∀ x, Y.A = some x → own0 = true) (hW : Z.W = fun cls d _ L => E cls d L) (q : spB Z.X.K Z.X.mg Y.H0 Q E Y.F0 Y.A (finR own0 fl)) :
    SPost Z Y { nx := fun _ H' => Q .non H', rt := Q } Y.F0 fl := by
  have par : ∀ {G σ L ρ c}, Z.R Y G ρ σ L → parD own0 ρ = some c → ∀ x, Y.A = some x → G x = none ∧ Own Z.X.K Z.X.mg G L x c := by
    intro G σ L ρ c R e x hx
    unfold parD at e
    rw [if_pos (hA x hx)] at e
    split at e
    · rename_i c' hs
      cases e
      obtain ⟨p, h1, h2, h3, _, h4⟩ := R.slot 0 _ hs
      rw [hx] at h3; cases h3
      exact ⟨h2, h4⟩
    · cases e
  cases fl with
  | bad => exact q.elim
  | bk ρ => exact q.elim
  | ct ρ => exact q.elim
  | exn c w ρ =>
    intro σ G L C dd fs x s R h1 h2 h3 h4
    rw [hW]
    exact q G L C dd fs x R.ext h1 h2 h3 h4
  | nx ρ =>
    intro G σ L s R
    unfold finR at q
    simp only at q
    split at q
    · rename_i c e
      exact q G L .non R.ext (par R e) .non
    · exact q.elim
  | ret vl ρ =>
    intro G σ L v s R k
    unfold finR at q
    simp only at q
    split at q
    · rename_i c p e1 e2
      refine q G L v R.ext (par R e1) ?_
      cases vl with
      | sh d => cases e2; exact k
      | fr d =>
        cases e2
        obtain ⟨p, rfl, n, n0, np, ns, o⟩ := k
        exact ⟨p, rfl, n0, n, o⟩
      | al i =>
        unfold retV at e2
        simp only at e2
        split at e2
        · rename_i d hs
          cases e2
          obtain ⟨p, h1, h2, h3, _, h4⟩ := R.slot i _ hs
          have k' : σ[i]? = some (some v) := k
          rw [k'] at h1; cases h1
          exact ⟨p, rfl, h3, h2, h4⟩
        · rename_i d hs
          cases e2
          obtain ⟨u, h1, h2⟩ := R.slot i _ hs
          have k' : σ[i]? = some (some v) := k
          rw [k'] at h1; cases h1
          exact h2
        · cases e2
    · exact q.elim
end

/-- the context of a def's body -/
def DefCtx (P : Program) (w : World) (K : PySem.W.Frag) (mg : Str → Option Value) (base : Heap) (N : List Str) (qual : Str) (sc : Scope) (k : Nat) (Z : Ctx) : Prop :=
  ∃ f cdv A outer s H E, Z = ⟨cxOf (L2.CX P w) P w K mg base N qual sc f cdv A outer s H E, fun cls d _ L => E cls d L⟩ ∧ Room k (A.deeper (envOfC qual sc s.heap.objs.size f cdv))
theorem FSpec.sp_len {K : PySem.W.Frag} {mg : Str → Option Value} {n np : Nat} {own0 : Bool} {body : SS} {vs : List V} {H : Hp} {Q : VK} {E : XK} (h : (⟨own0, runDef n np own0 body⟩ : FSpec).sp K mg vs H Q E) : vs.length = np := by
  cases own0 with
  | true =>
    rw [FSpec.sp_t rfl] at h
    obtain ⟨F, a, d0, vs', ds, rfl, s, nn, o, r, b⟩ := h
    by_cases hl : (d0 :: ds).length = np
    · rw [List.length_cons, r.len]; exact hl
    · have e : runDef n np true body (d0 :: ds) = .bad := if_neg hl
      dsimp only at b
      unfold runDef at b
      rw [if_neg hl] at b
      exact b.elim
  | false =>
    rw [FSpec.sp_f rfl] at h
    obtain ⟨F, ds, s, r, b⟩ := h
    by_cases hl : ds.length = np
    · rw [r.len]; exact hl
    · dsimp only at b
      unfold runDef at b
      rw [if_neg hl] at b
      exact b.elim
theorem fn_V {P : Program} {w : World} {K : PySem.W.Frag} {mg : Str → Option Value} {base : Heap} {x qual : Str} {st : Stmt} {f : Addr} {fd : FuncData} {N ps : List Str} {k : Nat} {own0 : Bool} {body : SS} (Fn : Fun K x qual st f fd) (Sc : FnScope N ps (defScope st)) (hN : ps.length ≤ N.length)
    (hb : ∀ Z, DefCtx P w K mg base N qual (defScope st) k Z → VSs Z (defBody st) body) : FnOk P w K mg base (L2.CX P w) (k + 1) f fd ps ((⟨own0, runDef N.length ps.length own0 body⟩ : FSpec).sp K mg) := by
  refine Fn.okX Sc (fun vs H Q E h => FSpec.sp_len h) fun cdv A outer s H vs Q E hr h => ?_
  obtain ⟨t, h1, h2⟩ := hb _ ⟨f, cdv, A, outer, s, H, E, rfl, hr⟩
  refine ⟨t, h1, ?_⟩
  have hl := FSpec.sp_len h
  cases own0 with
  | true =>
    rw [FSpec.sp_t rfl] at h
    obtain ⟨F, a, d0, vs', ds, rfl, s', n, o, r, b⟩ := h
    have hl' : (d0 :: ds).length = ps.length := by rw [List.length_cons, ← r.len]; exact hl
    dsimp only at b
    unfold runDef at b
    rw [if_pos hl'] at b
    refine h2 ⟨F, H, some a, fun _ => none⟩ F _ _ H _ (rel_start_t s' n o r (by rw [List.length_cons] at hl'; omega)) ?_
    exact fin_post (own0 := true) (E := E) (fun _ => rfl) (fun _ _ => rfl) rfl b
  | false =>
    rw [FSpec.sp_f rfl] at h
    obtain ⟨F, ds, s', r, b⟩ := h
    have hl' : ds.length = ps.length := by rw [← r.len]; exact hl
    dsimp only at b
    unfold runDef at b
    rw [if_pos hl'] at b
    refine h2 ⟨F, H, none, fun _ => none⟩ F _ _ H _ (rel_start_f s' r (by omega)) ?_
    exact fin_post (own0 := false) (E := E) (fun _ => rfl) (fun _ z => nomatch z) rfl b
theorem DefCtx.ok {P : Program} {w : World} {K : PySem.W.Frag} {mg : Str → Option Value} {base : Heap} {N : List Str} {qual : Str} {sc : Scope} {k : Nat} {Z : Ctx} (h : DefCtx P w K mg base N qual sc k Z) (nd : N.Nodup) : Z.Ok k ∧ PassesOwn (model Z.X.prog Z.X.w) Z.X.A Z.X.env Z.X.xe := by
  obtain ⟨f, cdv, A, outer, s, H, E, rfl, hr⟩ := h
  exact ⟨⟨hr, rfl, takes_of rfl rfl rfl rfl, nd⟩, passes_of rfl⟩

/-! ### the text's own forms, for any parts -/
def starred : Expr → Bool
  | .Starred _ _ => true
  | _ => false
theorem starEach_cons {e : Expr} {es : List Expr} {env : PySem.Env} (h : starred e = false) : starEach (e :: es) env = (false, eval e env) :: starEach es env := by
  cases e <;> first | rfl | cases h
theorem no_stars {env : PySem.Env} {pos : Pos} : ∀ {es : List Expr}, es.all (fun e => !starred e) = true → (backTo pos (starEach es env)).any (·.1) = false
  | [], _ => rfl
  | e :: es, h => by
    rw [List.all_cons, Bool.and_eq_true] at h
    rw [starEach_cons (by simpa using h.1)]
    show (false || (backTo pos (starEach es env)).any (·.1)) = false
    rw [no_stars h.2]
    rfl
theorem all_plain {env : PySem.Env} {pos : Pos} : ∀ {es : List Expr}, es.all (fun e => !starred e) = true → (backTo pos (starEach es env)).all (fun x => !x.1) = true
  | [], _ => rfl
  | e :: es, h => by
    rw [List.all_cons, Bool.and_eq_true] at h
    rw [starEach_cons (by simpa using h.1)]
    show (true && (backTo pos (starEach es env)).all (fun x => !x.1)) = true
    rw [all_plain h.2]
    rfl
def superish : Expr → Bool
  | .Call (.Name _ _) [] [] _ => true
  | _ => false
theorem attr_base {o : Expr} {m : Str} {env : PySem.Env} {w : Sem Value} (h : superish o = false) : attributeBase o m env w = w := by
  unfold attributeBase
  split
  · cases h
  · rfl
theorem meth_eq {o : Expr} {m : Str} {apos pos : Pos} {es : List Expr} {env : PySem.Env} (hb : superish o = false) (hl : (apos.endLine == pos.line) = true) (hs : es.all (fun e => !starred e) = true) (hn : es.length < 30) :
    eval (.Call (.Attribute o m apos) es [] pos) env = (do
      let ov ← eval o env
      standAt apos.atName
      let (f, first) ← holding [ov] (getMethod ov m (do return (← importBound o env).getD true))
      callWith pos f first (backTo pos (starEach es env)) (backToKw pos (keywordEach [] env))) := by
  have hf : methodCallForm (es.length + ([] : List Keyword).length) (backTo pos (starEach es env)) (backToKw pos (keywordEach [] env)) = true := by
    unfold methodCallForm
    rw [all_plain hs]
    show (true && true && decide (es.length + 0 + 0 < 30)) = true
    simpa using hn
  show (do
    let ov ← attributeBase o m env (eval o env)
    standAt apos.atName
    methodCall o m apos pos env ov (es.length + ([] : List Keyword).length) (backTo pos (starEach es env)) (backToKw pos (keywordEach [] env))) = _
  rw [attr_base hb]
  unfold methodCall calleeOf methodCallPos
  simp only [hf, hl, Bool.not_true, Bool.false_or, if_true]
  rfl

/-! ### an error's __init__ -/
/-- what is known of the base class of the errors -/
structure TreeT (K : PySem.W.Frag) (mg : Str → Option Value) (CT : Addr) : Prop where
  g : mg "TreeError" = some (.ref CT)
  sp : PySem.W.specialIn K (.ref CT) "__getattribute__" = some (some (.builtin "type.__getattribute__"))
  rd : PySem.W.readsIn K CT (.type "type") = true
  fc : PySem.W.findCls K (.ref CT) (.type "type") "__init__" = some (.val (.builtin "ValueError.__init__"))
section
variable {X : Cx} {e : Expr} {es : List Expr} {ta : TA} {p1 p2 pos : Pos}
theorem pe_treeinit {pl : Sem Bool} {CT : Addr} (T : TreeT X.K X.mg CT) (hg : Gl X "TreeError") (ha : PA X (e :: es) ta)
    (hc : eval (.Call (.Attribute (.Name "TreeError" p1) "__init__" p2) (e :: es) [] pos) X.env = (do
      let ov ← eval (.Name "TreeError" p1) X.env
      standAt p2.atName
      let (f, first) ← holding [ov] (getMethod ov "__init__" pl)
      callWith pos f first (backTo pos (starEach (e :: es) X.env)) (backToKw pos (keywordEach [] X.env))) := by rfl)
    (he : starEach (e :: es) X.env = (false, eval e X.env) :: starEach es X.env := by rfl) (hpl : (backTo pos (starEach es X.env)).any (·.1) = false := by rfl) :
    PE X (.Call (.Attribute (.Name "TreeError" p1) "__init__" p2) (e :: es) [] pos) (tVeI X.K ta) := by
  constructor
  intro pins s σ H Q I h
  refine PySem.W.methodCall_KW (ld_glob I hg T.g ?_) hc
  refine PySem.W.method_cls I.kIn T.sp (PySem.W.cls_value I.kIn T.rd T.fc (by decide +kernel) ?_)
  show wpAny _ _ (callWith pos (Value.builtin "ValueError.__init__") [] (backTo pos (starEach (e :: es) X.env)) []) _ _ _
  refine PyProof.Rows.callWith_method1 (thn (ha.run pos pins _ σ H _ (I.tok _) h) fun us s1 ⟨vs, H1, I1, r1, a, C, ws, ev, hl, T', ea, q⟩ => ?_) he hpl
  subst ev
  cases r1 with
  | @cons _ u0 _ ur ra rw' =>
    obtain rfl : u0 = Value.ref a := ra
    exact oinit_ok T' I1 ea (by rw [← Paired.length rw', sizeLine_eq]; omega) fun s' J => ⟨.non, H1, J, rfl, q⟩
end
/-- the __init__ of an error class over TreeError -/
theorem ok_exinit {P : Program} {w : World} {K : PySem.W.Frag} {mg : Str → Option Value} {base : Heap} {x qual : Str} {st : Stmt} {f C CT : Addr} {fd : FuncData} {k j j2 : Nat} {msg : Str} {a1 a2 a3 a4 a5 a6 a7 a8 a9 b1 b2 b3 b4 : Pos}
    (Fn : Fun K x qual st f fd) (Sc : FnScope ["self", "what"] ["self", "what"] (defScope st)) (hg : (defScope st).names.lookup ("TreeError" : Str) = some .globalImplicit) (h0 : (defScope st).names.lookup ("self" : Str) = some .local) (h1 : (defScope st).names.lookup ("what" : Str) = some .local)
    (hb : defBody st = [.Expr (.Call (.Attribute (.Name "TreeError" a1) "__init__" a2) [.Name "self" a3, .BinOp (.Constant (.str msg) j a4) .Add (.Name "what" a5) a6] [] a7) a8, .Assign [.Attribute (.Name "self" b1) "what" b2] (.Name "what" b3) b4])
    (hline : (a2.endLine == a7.line) = true) (hm : msg.length ≤ 1000) (T : TreeT K mg CT) (O : OexC K C) (hno : PySem.W.findIn K (.ref C) "what" = some none) : FnOk P w K mg base (L2.CX P w) (k + 1) f fd ["self", "what"] (spX K C) := by
  refine Fn.okX Sc (fun vs H Q E h => ?_) fun cdv A outer s H vs Q E hr h => ?_
  · obtain ⟨a, y, rfl, _⟩ := h
    rfl
  · obtain ⟨a, y, rfl, hy, ea, q⟩ := h
    rw [hb]
    refine ⟨_, pss_cons (ps_expr (pe_treeinit (T := T) (X := cxOf (L2.CX P w) P w K mg base ["self", "what"] qual (defScope st) f cdv A outer s H E) hg
        (pa_cons (pe_var (i := 0) rfl (.inl h0)) (pa_cons (pe_op op_add_str pe_str (pe_var (i := 1) rfl (.inl h1))) pa_nil)) (hc := meth_eq rfl hline rfl (Nat.lt_of_sub_pos (by exact Nat.succ_pos _)))))
      (pss_one (ps_ost (pe_var (i := 0) rfl (.inl h0)) (pe_var (i := 1) rfl (.inl h1)))), ?_⟩
    refine ⟨.ref a, rfl, .str y, rfl, msg, y, rfl, rfl, by rw [sizeLine_eq]; omega, a, C, [.str (msg ++ y)], rfl, by simp, O, ea, ?_⟩
    exact ⟨.str y, rfl, .ref a, rfl, a, C, rfl, O, hno, .inl ⟨ea, fun dx ndx hne => q dx ndx hne⟩⟩
end VL
/-! V11: further forms: not by truth, dict displays, list(range(..)) -/
namespace VL
open PySem PySem.Spec PyProof.Rows L2
def vNotT (fa : SE) : SE := fun ρ => obind (fa ρ) fun va ρ1 => match (look ρ1 va).bind truD with
  | some b => .ok (.sh (.bl (!b))) ρ1
  | _ => .bad
def vDic0 : SE := fun ρ => .ok (.fr (.dic [])) ρ
def vDic1 (fk fv : SE) : SE := fun ρ => obind (fk ρ) fun k ρ1 => obind (fv ρ1) fun v ρ2 => match (look ρ2 (frz k)).bind keyOf, esc ρ2 v with
  | some k, some (d, ρ3) => .ok (.fr (.dic [(k, d)])) ρ3
  | _, _ => .bad
def vRgL1 (f : SE) : SE := fun ρ => obind (f ρ) fun v ρ1 => match look ρ1 v with
  | some (.int j) => if rgOk 0 j = true then .ok (.fr (.lst (rangeD 0 (j - 0).toNat))) ρ1 else .bad
  | _ => .bad
def vRgL2 (f g : SE) : SE := fun ρ => obind (f ρ) fun v ρ1 => obind (g ρ1) fun w ρ2 => match look ρ2 (frz v), look ρ2 w with
  | some (.int i), some (.int j) => if rgOk i j = true then .ok (.fr (.lst (rangeD i (j - i).toNat))) ρ2 else .bad
  | _, _ => .bad
def vRgT1 (f : SE) : SE := fun ρ => obind (f ρ) fun v ρ1 => match look ρ1 v with
  | some (.int j) => if rgOk 0 j = true then .ok (.sh (.tup (rangeD 0 (j - 0).toNat))) ρ1 else .bad
  | _ => .bad
section
variable {Z : Ctx} {Y : Ent} {F G H L : Hp} {ρ ρ' : Env} {σ : L2.St} {v : V} {vl : Vl} {d : D}
theorem re_notT {ta : TE} {fa : SE} (ha : RE Z ta fa) : RE Z (fun σ H Q => ta σ H fun x H1 => ∃ k, TruV Z.X.K x H1 k ∧ Q (.bl (!k)) H1) (vNotT fa) := by
  intro Y F ρ σ H Q R P
  refine ha Y F ρ σ H _ R (post_bind P fun va ρ1 _ P1 => ?_)
  intro F1 H1 x s1 R1 k1
  split at P1
  · rename_i b e
    obtain ⟨d, e1, e2⟩ := Option.bind_eq_some_iff.mp e
    exact ⟨b, truD_tru R1.fh (R1.reads k1 e1) e2, P1 F1 H1 _ s1 R1 (.bl _)⟩
  · exact P1.elim
theorem re_dic0 : RE Z tDNewK vDic0 := by
  intro Y F ρ σ H Q R P p np
  exact (OkQ.pure (pv := .fr (.dic [])) P R) _ p (Ext.lay R.fh np) np ⟨[], upd_same, .nil⟩
theorem putK_one (k : Key) (x : V) : mergeK [] [(k, x)] = [(k, x)] := rfl
theorem re_dic1 {tk tv : TE} {fk fv : SE} (hk : RE Z tk fk) (hv : RE Z tv fv) : RE Z (tDisp [(tk, tv)]) (vDic1 fk fv) := by
  intro Y F ρ σ H Q R P p np
  have nP : Y.P p = none := no_pin R np
  show tk σ (upd H p (.dK [])) fun x H1 => tv σ H1 fun y H2 => _
  have R0 := R.aside (o := .dK []) np
  refine hk (Y.aside p (.dK [])) F ρ σ _ _ R0 ?_
  unfold vDic1 at P
  cases e1 : fk ρ with
  | bad => rw [e1] at P; exact P
  | exn c w ρ1 =>
    rw [e1] at P
    exact fun G L C dd fs x s R1 => P G L C dd fs x s (R1.unaside nP)
  | ok kl ρ1 =>
    rw [e1] at P
    intro F1 H1 x s1 R1 k1
    obtain ⟨F2, s2, R2, k2⟩ := keeps R1 k1
    refine hv (Y.aside p (.dK [])) F2 ρ1 σ H1 _ R2 ?_
    simp only [obind_ok] at P
    cases e2 : fv ρ1 with
    | bad => rw [e2] at P; exact P
    | exn c w ρ2 =>
      rw [e2] at P
      exact fun G L C dd fs x s R1 => P G L C dd fs x (s1.trans (s2.trans s)) (R1.unaside nP)
    | ok vl ρ2 =>
      rw [e2] at P
      intro F3 H3 y s3 R3 k3
      simp only [obind_ok] at P
      split at P
      · rename_i k d ρ3 ek ev
        obtain ⟨kd, e4, e5⟩ := Option.bind_eq_some_iff.mp ek
        have rk := R3.reads ((k2.mono s3).vok) e4
        have ekx := keyOf_rep rk e5
        obtain ⟨F4, s4, R4, r4⟩ := R3.esc k3 ev
        obtain ⟨hp, nF, nH⟩ := R4.pinN (b := p) upd_same (fun _ z => nomatch z)
        refine ⟨hp, [(k, y)], by rw [ekx]; rfl, by show 1 ≤ 15; decide, ?_⟩
        rw [putK_one]
        have R5 := Rel.asideUpd (o := .dK []) (o' := .dK [(k, y)]) (fun _ z => nomatch z) R4
        have R6 := R5.unaside nP
        refine P F4 _ (.ref p) (s1.trans (s2.trans (s3.trans s4))) R6 ⟨p, rfl, nF, nH, nP, fun j d' q z => ?_, [(k, y)], upd_same, .cons r4 .nil⟩
        obtain ⟨p2, e2, _, _, np2, _⟩ := R5.slot j _ q
        rw [z] at e2; cases e2
        have np3 : upd Y.P p (.dK [(k, y)]) p = none := np2
        rw [upd_same] at np3; cases np3
      · exact P.elim
theorem rgOk_ok {a b : Int} (h : rgOk a b = true) : RgOk a b := by
  unfold rgOk at h
  have h2 : a.natAbs < 2 ^ 62 ∧ b.natAbs < 2 ^ 62 ∧ (b - a).toNat ≤ 2 ^ 24 := of_decide_eq_true h
  exact ⟨by omega, by omega, by omega, by omega, h2.2.2⟩
theorem rgV_reps {K : PySem.W.Frag} {mg : Str → Option Value} (a b : Int) : Reps K mg F (rgV a b) (rangeD a (b - a).toNat) := by
  unfold rangeD
  have e : rgV a b = (List.range (b - a).toNat).map fun i => V.int (a + (i : Nat)) := rfl
  rw [e]
  generalize List.range (b - a).toNat = l
  induction l with
  | nil => exact .nil
  | cons x l ih => exact .cons (.int _) ih
theorem re_rgL1 {t : TE} {f : SE} (h : RE Z t f) : RE Z (tLstRg (tRg1 t)) (vRgL1 f) := by
  intro Y F ρ σ H Q R P
  refine h Y F ρ σ H _ R (post_bind P fun va ρ1 _ P1 => ?_)
  intro F1 H1 x s1 R1 k1
  split at P1
  · rename_i j e
    split at P1
    · rename_i hr
      refine ⟨j, (R1.reads k1 e).int, rgOk_ok hr, fun q nq => ?_⟩
      exact PureQ.newL (mg := Z.X.mg) ((OkQ.mono P1 s1).pure (pv := .fr (.lst _)) R1) R1.fh nq (rgV_reps 0 j)
    · exact P1.elim
  · exact P1.elim
theorem re_rgT1 {t : TE} {f : SE} (h : RE Z t f) : RE Z (tTupRg (tRg1 t)) (vRgT1 f) := by
  intro Y F ρ σ H Q R P
  refine h Y F ρ σ H _ R (post_bind P fun va ρ1 _ P1 => ?_)
  intro F1 H1 x s1 R1 k1
  split at P1
  · rename_i j e
    split at P1
    · rename_i hr
      refine ⟨j, (R1.reads k1 e).int, rgOk_ok hr, fun q nq => ?_⟩
      exact PureQ.newT (mg := Z.X.mg) ((OkQ.mono P1 s1).pure (pv := .sh (.tup _)) R1) R1.fh nq (rgV_reps 0 j)
    · exact P1.elim
  · exact P1.elim
theorem re_rgL2 {t u : TE} {f g : SE} (h : RE Z t f) (h' : RE Z u g) : RE Z (tLstRg (tRg2 t u)) (vRgL2 f g) := by
  intro Y F ρ σ H Q R P
  refine h Y F ρ σ H _ R (post_bind P fun va ρ1 _ P1 => ?_)
  intro F1 H1 x s1 R1 k1
  obtain ⟨F2, s2, R2, k2⟩ := keeps R1 k1
  have s12 := s1.trans s2
  refine h' Y F2 ρ1 σ H1 _ R2 (post_bind (P1.mono s12 fun v ρ h => bv_mono s12 v ρ h) fun vb ρ2 _ P2 => ?_)
  intro F3 H3 y s3 R3 k3
  split at P2
  · rename_i i j e1 e2
    split at P2
    · rename_i hr
      refine ⟨i, j, (R3.reads ((k2.mono s3).vok) e1).int, (R3.reads k3 e2).int, rgOk_ok hr, fun q nq => ?_⟩
      exact PureQ.newL (mg := Z.X.mg) ((OkQ.mono P2 s3).pure (pv := .fr (.lst _)) R3) R3.fh nq (rgV_reps i j)
    · exact P2.elim
  · exact P2.elim
end
end VL
/-! VZ1: zip of two sequences, each a list or a tuple -/
namespace VL
open PySem PySem.Spec PyProof.Rows L2
/-- the kind of a source -/
inductive SK where
  | l
  | t
def SK.It : SK → Heap → Addr → Addr → Nat → Prop
  | .l, h, i, a, k => h.IsListIter i a k
  | .t, h, i, a, k => h.IsTupleIter i a k
def SK.Sq : SK → Heap → Addr → Array Value → Prop
  | .l, h, a, xs => h.IsList a xs
  | .t, h, a, xs => h.IsTuple a xs
section
variable {κ s1 s2 : SK} {h h' : Heap} {a b l i1 i2 z TI TO l1 l2 : Addr} {i : Nat} {items : Array Value}
theorem SK.It.extBut (x : κ.It h a l i) (hs : Heap.ExtBut b h h') (hab : a ≠ b) : κ.It h' a l i := by
  cases κ
  · exact Heap.IsListIter.extBut x hs hab
  · exact Heap.IsTupleIter.extBut x hs hab
theorem SK.It.at (x : κ.It h a l i) (e : ∀ o, h.get? a = some o → h'.get? a = some o) : κ.It h' a l i := by
  cases κ
  · exact Heap.IsListIter.at x e
  · exact Heap.IsTupleIter.at x e
theorem SK.Sq.extBut (x : κ.Sq h a items) (hs : Heap.ExtBut b h h') (hab : a ≠ b) : κ.Sq h' a items := by
  cases κ
  · exact Heap.IsList.extBut x hs hab
  · exact Heap.IsTuple.extBut x hs hab
theorem SK.lt (x : κ.It h a l i) : a < h.objs.size := by
  cases κ
  · obtain ⟨_, e, _⟩ := x; exact Heap.lt_size e
  · obtain ⟨_, e, _⟩ := x; exact Heap.lt_size e
end
section
variable {prog : Program} {w : World} {A : Around} {E : Value → Shared → Prop} {s : Shared} {κ s1 s2 : SK}
theorem SK.next_item {it l : Addr} {i : Nat} {items : Array Value} {x : Value} {Q : Value → Shared → Prop} (hit : κ.It s.heap it l i) (hl : κ.Sq s.heap l items) (hx : items[i]? = some x)
    (hQ : ∀ h', κ.It h' it l (i + 1) → Heap.SameBut it s.heap h' → Q x { s with heap := h' }) : wpAny (model prog w) A (Builtin.SmallTypes.nextOf (.ref it)) Q E s := by
  cases κ
  · exact wpAny_nextOf_list_item hit hl hx hQ
  · exact RZ.nextOf_tuple_item hit hl hx hQ
theorem SK.next_end {it l : Addr} {i : Nat} {items : Array Value} {Q : Value → Shared → Prop} (hh : A.handled = none) (hit : κ.It s.heap it l i) (hl : κ.Sq s.heap l items) (hx : items[i]? = none)
    (hE : ∀ h' e, Heap.ExtBut it s.heap h' → (∃ o, h'.get? e = some o ∧ o.cls = .type "StopIteration") → E (.ref e) { s with heap := h' }) : wpAny (model prog w) A (Builtin.SmallTypes.nextOf (.ref it)) Q E s := by
  cases κ
  · exact wpAny_nextOf_list_end hh hit hl hx hE
  · exact RZ.nextOf_tuple_end hh hit hl hx hE
theorem zipK_next_item {z TI TO i1 i2 l1 l2 : Addr} {k1 k2 : Nat} {xs ys : Array Value} {x y a b : Value} {Q : Value → Shared → Prop} (D : ZipApart z TI TO i1 i2 l1 l2)
    (hz : IsZip s.heap z TI TO .none) (hTI : IsPair s.heap TI (.ref i1) (.ref i2)) (hTO : IsPair s.heap TO a b)
    (h1 : s1.It s.heap i1 l1 k1) (h2 : s2.It s.heap i2 l2 k2) (hl1 : s1.Sq s.heap l1 xs) (hl2 : s2.Sq s.heap l2 ys) (hx : xs[k1]? = some x) (hy : ys[k2]? = some y)
    (hQ : ∀ h', IsZip h' z TI TO (rawInt s.heap.objs.size) → IsPair h' TO x y → s1.It h' i1 l1 (k1 + 1) → s2.It h' i2 l2 (k2 + 1) → IsPair h' s.heap.objs.size x y → h'.objs.size = s.heap.objs.size + 1 →
      (∀ c o, c ≠ z → c ≠ TO → c ≠ i1 → c ≠ i2 → s.heap.get? c = some o → h'.get? c = some o) → Q (.ref s.heap.objs.size) { s with heap := h' }) :
    wpAny (model prog w) A (Builtin.«zip.__next__» ⟨[.ref z], []⟩) (fun fin s' => ∃ v, fin = .done (.ret v) ∧ Q v s') E s := by
  show wpAny _ _ (field (.ref z) 2 >>= _) _ _ _
  refine wpAny_bind (wpAny_field hz rfl (x := .bool false) rfl ?_)
  show wpAny _ _ (field (.ref z) 3 >>= _) _ _ _
  refine wpAny_bind (wpAny_field hz rfl (x := .ref TI) rfl ?_)
  refine wpAny_bind (wpAny_seqItems hTI rfl ?_)
  show wpAny _ _ (Builtin.SmallTypes.ownedTupleIsFree (.ref z) >>= _) _ _ _
  refine wpAny_bind ?_
  unfold Builtin.SmallTypes.ownedTupleIsFree
  refine wpAny_bind (wpAny_field hz rfl (x := .none) rfl (wpAny_pure ?_))
  simp only [if_true]
  refine wpAny_bind (wpAny_rule ?_)
  refine wpAny_bind (wpAny_field hz rfl (x := .ref TO) rfl ?_)
  refine wpAny_bind (wpAny_setField_rec hz (by simp) fun h₁ hz₁ hs₁ => ?_)
  replace hz₁ : IsZip h₁ z TI TO .ellipsis := hz₁
  refine wpAny_bind ?_
  simp only [List.zipIdx_cons, List.zipIdx_nil, List.forIn_cons, List.forIn_nil]

  refine wpAny_bind (wpAny_bind (wpAny_onRaise ?_))
  show wpAny _ _ (Builtin.SmallTypes.nextOf (.ref i1) >>= _) _ _ _
  refine wpAny_bind (SK.next_item (h1.extBut hs₁.extBut D.i1z) (hl1.extBut hs₁.extBut D.l1z) hx fun h₂ h1₂ hs₂ => wpAny_pure ?_)
  have hTO₂ : IsPair h₂ TO a b := hs₂.extBut _ _ D.TOi1 (hs₁.extBut _ _ D.TOz hTO)
  refine wpAny_bind (wpAny_seqItems hTO₂ rfl ?_)
  refine wpAny_bind (wpAny_updateSeq_pair hTO₂ fun h₃ hTO₃ hs₃ => ?_)
  replace hTO₃ : IsPair h₃ TO x b := hTO₃
  refine wpAny_bind (wpAny_letGo (wpAny_pure ?_))

  refine wpAny_bind (wpAny_bind (wpAny_onRaise ?_))
  show wpAny _ _ (Builtin.SmallTypes.nextOf (.ref i2) >>= _) _ _ _
  refine wpAny_bind (SK.next_item (((h2.extBut hs₁.extBut D.i2z).extBut hs₂.extBut D.i12.symm).extBut hs₃.extBut D.TOi2.symm)
    (((hl2.extBut hs₁.extBut D.l2z).extBut hs₂.extBut D.l2i1).extBut hs₃.extBut D.l2TO) hy fun h₄ h2₄ hs₄ => wpAny_pure ?_)
  have hTO₄ : IsPair h₄ TO x b := hs₄.extBut _ _ D.TOi2 hTO₃
  refine wpAny_bind (wpAny_seqItems hTO₄ rfl ?_)
  refine wpAny_bind (wpAny_updateSeq_pair hTO₄ fun h₅ hTO₅ hs₅ => ?_)
  replace hTO₅ : IsPair h₅ TO x y := hTO₅
  refine wpAny_bind (wpAny_letGo (wpAny_pure (wpAny_pure ?_)))

  refine wpAny_bind (wpAny_seqItems hTO₅ rfl ?_)
  refine wpAny_bind (wpAny_newTuple ?_)
  have hsz : h₅.objs.size = s.heap.objs.size := by rw [hs₅.1, hs₄.1, hs₃.1, hs₂.1, hs₁.1]
  have hz₅ : IsZip h₅ z TI TO .ellipsis := hs₅.extBut _ _ D.TOz.symm (hs₄.extBut _ _ D.i2z.symm (hs₃.extBut _ _ D.TOz.symm (hs₂.extBut _ _ D.i1z.symm hz₁)))
  have hk₅ : ∀ c o, c ≠ z → c ≠ TO → c ≠ i1 → c ≠ i2 → s.heap.get? c = some o → h₅.get? c = some o := fun c o c1 c2 c3 c4 e =>
    hs₅.extBut _ _ c2 (hs₄.extBut _ _ c4 (hs₃.extBut _ _ c2 (hs₂.extBut _ _ c3 (hs₁.extBut _ _ c1 e))))
  have h1₅ : s1.It h₅ i1 l1 (k1 + 1) := ((h1₂.extBut hs₃.extBut D.TOi1.symm).extBut hs₄.extBut D.i12).extBut hs₅.extBut D.TOi1.symm
  have h2₅ : s2.It h₅ i2 l2 (k2 + 1) := h2₄.extBut hs₅.extBut D.TOi2.symm
  have hzlt : z < h₅.objs.size := Heap.lt_size hz₅
  have hTOlt : TO < h₅.objs.size := Heap.lt_size hTO₅
  have hi1lt : i1 < h₅.objs.size := by exact SK.lt h1₅
  have hi2lt : i2 < h₅.objs.size := by exact SK.lt h2₅
  show wpAny _ _ (Builtin.SmallTypes.ownedTupleHandOut (.ref z) (.ref h₅.objs.size) >>= _) _ _ _
  refine wpAny_bind ?_
  unfold Builtin.SmallTypes.ownedTupleHandOut
  have hz₆ : IsZip (h₅.push { cls := .type "tuple", data := .seq #[x, y] }) z TI TO .ellipsis := Heap.get?_push_of_some _ hz₅
  refine wpAny_bind (wpAny_setField_rec hz₆ (by simp) fun h₇ hz₇ hs₇ => ?_)
  replace hz₇ : IsZip h₇ z TI TO (rawInt h₅.objs.size) := hz₇
  refine wpAny_setField_rec hz₇ (by simp) fun h₈ hz₈ hs₈ => ?_
  replace hz₈ : IsZip h₈ z TI TO (rawInt h₅.objs.size) := hz₈
  have up : ∀ c o, c ≠ z → h₅.get? c = some o → h₈.get? c = some o := fun c o c1 e => hs₈.extBut _ _ c1 (hs₇.extBut _ _ c1 (Heap.get?_push_of_some _ e))
  have hT₈ : IsPair h₈ h₅.objs.size x y := hs₈.extBut _ _ (Nat.ne_of_gt hzlt) (hs₇.extBut _ _ (Nat.ne_of_gt hzlt) (Heap.get?_push_size _ rfl))
  have hz8 : h₈.objs.size = h₅.objs.size + 1 := by rw [hs₈.1, hs₇.1, Heap.size_push]
  rw [hsz] at hz₈ hT₈ hz8
  refine wpAny_pure ⟨_, rfl, ?_⟩
  show Q (.ref h₅.objs.size) _
  rw [hsz]
  exact hQ h₈ hz₈ (up _ _ D.TOz hTO₅) (h1₅.at fun o e => up _ o D.i1z e) (h2₅.at fun o e => up _ o D.i2z e) hT₈ hz8 fun c o c1 c2 c3 c4 e => up c o c1 (hk₅ c o c1 c2 c3 c4 e)

theorem zipK_next_end {z TI TO i1 i2 l1 l2 : Addr} {k1 k2 : Nat} {xs ys : Array Value} {a b : Value} {Q : Fin → Shared → Prop} (hh : A.handled = none) (D : ZipApart z TI TO i1 i2 l1 l2)
    (hz : IsZip s.heap z TI TO .none) (hTI : IsPair s.heap TI (.ref i1) (.ref i2)) (hTO : IsPair s.heap TO a b)
    (h1 : s1.It s.heap i1 l1 k1) (h2 : s2.It s.heap i2 l2 k2) (hl1 : s1.Sq s.heap l1 xs) (hl2 : s2.Sq s.heap l2 ys) (hend : xs[k1]? = none ∨ ys[k2]? = none)
    (hE : ∀ h' e, (∀ c o, c ≠ z → c ≠ TO → c ≠ i1 → c ≠ i2 → s.heap.get? c = some o → h'.get? c = some o) → (∃ o, h'.get? e = some o ∧ o.cls = .type "StopIteration") → E (.ref e) { s with heap := h' }) :
    wpAny (model prog w) A (Builtin.«zip.__next__» ⟨[.ref z], []⟩) Q E s := by
  show wpAny _ _ (field (.ref z) 2 >>= _) _ _ _
  refine wpAny_bind (wpAny_field hz rfl (x := .bool false) rfl ?_)
  show wpAny _ _ (field (.ref z) 3 >>= _) _ _ _
  refine wpAny_bind (wpAny_field hz rfl (x := .ref TI) rfl ?_)
  refine wpAny_bind (wpAny_seqItems hTI rfl ?_)
  show wpAny _ _ (Builtin.SmallTypes.ownedTupleIsFree (.ref z) >>= _) _ _ _
  refine wpAny_bind ?_
  unfold Builtin.SmallTypes.ownedTupleIsFree
  refine wpAny_bind (wpAny_field hz rfl (x := .none) rfl (wpAny_pure ?_))
  simp only [if_true]
  refine wpAny_bind (wpAny_rule ?_)
  refine wpAny_bind (wpAny_field hz rfl (x := .ref TO) rfl ?_)
  refine wpAny_bind (wpAny_setField_rec hz (by simp) fun h₁ hz₁ hs₁ => ?_)
  replace hz₁ : IsZip h₁ z TI TO .ellipsis := hz₁
  refine wpAny_bind ?_
  simp only [List.zipIdx_cons, List.zipIdx_nil, List.forIn_cons, List.forIn_nil]
  refine wpAny_bind (wpAny_bind (wpAny_onRaise ?_))
  show wpAny _ _ (Builtin.SmallTypes.nextOf (.ref i1) >>= _) _ _ _
  cases hx : xs[k1]? with
  | none =>
    refine wpAny_bind (SK.next_end hh (h1.extBut hs₁.extBut D.i1z) (hl1.extBut hs₁.extBut D.l1z) hx fun h₂ e hs₂ he => ?_)
    obtain ⟨oe, hoe, hce⟩ := he
    have hz₂ : IsZip h₂ z TI TO .ellipsis := hs₂ _ _ D.i1z.symm hz₁
    have hez : e ≠ z := fun x => by subst x; rw [hz₂] at hoe; cases hoe; simp at hce
    refine wpAny_setField_rec hz₂ (by simp) fun h₃ _ hs₃ => hE h₃ e (fun c o c1 _ c3 _ x => hs₃.extBut _ _ c1 (hs₂ _ _ c3 (hs₁.extBut _ _ c1 x))) ⟨oe, hs₃.extBut _ _ hez hoe, hce⟩
  | some x =>
    have hy : ys[k2]? = none := by rcases hend with h | h; rw [hx] at h; cases h; exact h
    refine wpAny_bind (SK.next_item (h1.extBut hs₁.extBut D.i1z) (hl1.extBut hs₁.extBut D.l1z) hx fun h₂ h1₂ hs₂ => wpAny_pure ?_)
    have hTO₂ : IsPair h₂ TO a b := hs₂.extBut _ _ D.TOi1 (hs₁.extBut _ _ D.TOz hTO)
    refine wpAny_bind (wpAny_seqItems hTO₂ rfl ?_)
    refine wpAny_bind (wpAny_updateSeq_pair hTO₂ fun h₃ hTO₃ hs₃ => ?_)
    refine wpAny_bind (wpAny_letGo (wpAny_pure ?_))
    refine wpAny_bind (wpAny_bind (wpAny_onRaise ?_))
    show wpAny _ _ (Builtin.SmallTypes.nextOf (.ref i2) >>= _) _ _ _
    refine wpAny_bind (SK.next_end hh (((h2.extBut hs₁.extBut D.i2z).extBut hs₂.extBut D.i12.symm).extBut hs₃.extBut D.TOi2.symm)
      (((hl2.extBut hs₁.extBut D.l2z).extBut hs₂.extBut D.l2i1).extBut hs₃.extBut D.l2TO) hy fun h₄ e hs₄ he => ?_)
    obtain ⟨oe, hoe, hce⟩ := he
    have hz₄ : IsZip h₄ z TI TO .ellipsis := hs₄ _ _ D.i2z.symm (hs₃.extBut _ _ D.TOz.symm (hs₂.extBut _ _ D.i1z.symm hz₁))
    have hez : e ≠ z := fun x => by subst x; rw [hz₄] at hoe; cases hoe; simp at hce
    refine wpAny_setField_rec hz₄ (by simp) fun h₅ _ hs₅ => hE h₅ e (fun c o c1 c2 c3 c4 x => hs₅.extBut _ _ c1 (hs₄ _ _ c4 (hs₃.extBut _ _ c2 (hs₂.extBut _ _ c3 (hs₁.extBut _ _ c1 x))))) ⟨oe, hs₅.extBut _ _ hez hoe, hce⟩

theorem pyNext_zipK_item {z TI TO i1 i2 l1 l2 : Addr} {k1 k2 : Nat} {xs ys : Array Value} {x y a b : Value} {Q : Option Value → Shared → Prop} (D : ZipApart z TI TO i1 i2 l1 l2)
    (hz : IsZip s.heap z TI TO .none) (hTI : IsPair s.heap TI (.ref i1) (.ref i2)) (hTO : IsPair s.heap TO a b)
    (h1 : s1.It s.heap i1 l1 k1) (h2 : s2.It s.heap i2 l2 k2) (hl1 : s1.Sq s.heap l1 xs) (hl2 : s2.Sq s.heap l2 ys) (hx : xs[k1]? = some x) (hy : ys[k2]? = some y)
    (hQ : ∀ h', IsZip h' z TI TO (rawInt s.heap.objs.size) → IsPair h' TO x y → s1.It h' i1 l1 (k1 + 1) → s2.It h' i2 l2 (k2 + 1) → IsPair h' s.heap.objs.size x y → h'.objs.size = s.heap.objs.size + 1 →
      (∀ c o, c ≠ z → c ≠ TO → c ≠ i1 → c ≠ i2 → s.heap.get? c = some o → h'.get? c = some o) → Q (some (.ref s.heap.objs.size)) { s with heap := h' }) :
    wpAny (model prog w) A (pyNext (.ref z)) Q E s := by
  have hT : s.TypeIs (.ref z) "zip" := ⟨_, hz, rfl⟩
  unfold pyNext
  exact wpAny_bind (wpAny_attempt (wpAny_callSpecial?_slot (name := Str.ofString "__next__") hT F.slot_zip_next
    (wpAny_call_entry F.slot_zip_next hT F.entry_zip_next
      (zipK_next_item D hz hTI hTO h1 h2 hl1 hl2 hx hy fun h' a1 a2 a3 a4 a5 a6 a7 => wpAny_pure (hQ h' a1 a2 a3 a4 a5 a6 a7)) (F.args_zip_next_1 _))))

theorem pyNext_zipK_end {z TI TO i1 i2 l1 l2 : Addr} {k1 k2 : Nat} {xs ys : Array Value} {a b : Value} {Q : Option Value → Shared → Prop} (hh : A.handled = none) (D : ZipApart z TI TO i1 i2 l1 l2)
    (hz : IsZip s.heap z TI TO .none) (hTI : IsPair s.heap TI (.ref i1) (.ref i2)) (hTO : IsPair s.heap TO a b)
    (h1 : s1.It s.heap i1 l1 k1) (h2 : s2.It s.heap i2 l2 k2) (hl1 : s1.Sq s.heap l1 xs) (hl2 : s2.Sq s.heap l2 ys) (hend : xs[k1]? = none ∨ ys[k2]? = none)
    (hQ : ∀ h', (∀ c o, c ≠ z → c ≠ TO → c ≠ i1 → c ≠ i2 → s.heap.get? c = some o → h'.get? c = some o) → Q none { s with heap := h' }) : wpAny (model prog w) A (pyNext (.ref z)) Q E s := by
  have hT : s.TypeIs (.ref z) "zip" := ⟨_, hz, rfl⟩
  unfold pyNext
  refine wpAny_bind (wpAny_attempt (wpAny_callSpecial?_slot (name := Str.ofString "__next__") hT F.slot_zip_next
    (wpAny_call_entry F.slot_zip_next hT F.entry_zip_next (zipK_next_end hh D hz hTI hTO h1 h2 hl1 hl2 hend fun h' e hk he => ?_) (F.args_zip_next_1 _))))
  obtain ⟨o, ho, hc⟩ := he
  refine wpAny_bind (wpAny_isInstance (T := "StopIteration") (b := true) ⟨o, ho, hc⟩ isSubtype_stop ?_)
  exact wpAny_pure (hQ _ hk)
end
def SK.nm : SK → String
  | .l => "list_iterator"
  | .t => "tuple_iterator"
def zkH1 (s1 : SK) (h : Heap) (a : Addr) : Heap := h.push { cls := .type s1.nm, data := .fields #[.ref a, .int 0 0] }
def zkH2 (s1 s2 : SK) (h : Heap) (a b : Addr) : Heap := (zkH1 s1 h a).push { cls := .type s2.nm, data := .fields #[.ref b, .int 0 0] }
def zkH3 (s1 s2 : SK) (h : Heap) (a b : Addr) : Heap := (zkH2 s1 s2 h a b).push { cls := .type "tuple", data := .seq #[.ref h.objs.size, .ref (zkH1 s1 h a).objs.size] }
def zkH4 (s1 s2 : SK) (h : Heap) (a b : Addr) : Heap := (zkH3 s1 s2 h a b).push { cls := .type "tuple", data := .seq #[.none, .none] }
def zkH5 (s1 s2 : SK) (h : Heap) (a b : Addr) : Heap := (zkH4 s1 s2 h a b).push { cls := .type "zip", data := .fields #[.none, .bool false, .bool false, .ref (zkH2 s1 s2 h a b).objs.size, .ref (zkH3 s1 s2 h a b).objs.size] }
theorem zk_tl (a b : Addr) (xs ys : Array Value) :
    Meets (Builtin.«zip.__new__» ⟨[.type "zip", .ref a, .ref b], []⟩) (fun _ R s => s.heap.IsTuple a xs ∧ s.heap.IsList b ys ∧ R (.ok (.ret (.ref (zkH4 .t .l s.heap a b).objs.size))) { s with heap := zkH5 .t .l s.heap a b }) :=
  .of_wp fun prog w A R s h => by
    obtain ⟨hp, g, d, tk, os⟩ := s
    obtain ⟨hl1, hl2, h⟩ := h
    have hsub := sub_zip
    have hL1 : Heap.IsTuple (Shared.heap ⟨hp, g, d, tk, os⟩) a xs := hl1
    have hL2 : Heap.IsList (Shared.heap ⟨hp.push { cls := .type "tuple_iterator", data := .fields #[.ref a, .int 0 0] }, g, d, tk, os⟩) b ys := Heap.IsList.push hl2 _
    wp_walk using wpAny_pyIter_tuple hL1, wpAny_pyIter_list hL2
    exact ⟨_, rfl, h⟩
theorem zk_lt (a b : Addr) (xs ys : Array Value) :
    Meets (Builtin.«zip.__new__» ⟨[.type "zip", .ref a, .ref b], []⟩) (fun _ R s => s.heap.IsList a xs ∧ s.heap.IsTuple b ys ∧ R (.ok (.ret (.ref (zkH4 .l .t s.heap a b).objs.size))) { s with heap := zkH5 .l .t s.heap a b }) :=
  .of_wp fun prog w A R s h => by
    obtain ⟨hp, g, d, tk, os⟩ := s
    obtain ⟨hl1, hl2, h⟩ := h
    have hsub := sub_zip
    have hL1 : Heap.IsList (Shared.heap ⟨hp, g, d, tk, os⟩) a xs := hl1
    have hL2 : Heap.IsTuple (Shared.heap ⟨hp.push { cls := .type "list_iterator", data := .fields #[.ref a, .int 0 0] }, g, d, tk, os⟩) b ys := Heap.IsTuple.push hl2 _
    wp_walk using wpAny_pyIter_list hL1, wpAny_pyIter_tuple hL2
    exact ⟨_, rfl, h⟩
theorem zk_new (s1 s2 : SK) (a b : Addr) (xs ys : Array Value) :
    Meets (Builtin.«zip.__new__» ⟨[.type "zip", .ref a, .ref b], []⟩) (fun _ R s => s1.Sq s.heap a xs ∧ s2.Sq s.heap b ys ∧ R (.ok (.ret (.ref (zkH4 s1 s2 s.heap a b).objs.size))) { s with heap := zkH5 s1 s2 s.heap a b }) := by
  cases s1 <;> cases s2
  · exact meets_zip_new a b xs ys
  · exact zk_lt a b xs ys
  · exact zk_tl a b xs ys
  · exact RZ.meets_zipT_new a b xs ys
section
variable {prog : Program} {w : World} {A : Around} {E : Value → Shared → Prop} {s : Shared} {s1 s2 : SK}
theorem call_zipK {l1 l2 : Addr} {xs ys : Array Value} {Q : Value → Shared → Prop} (hl1 : s1.Sq s.heap l1 xs) (hl2 : s2.Sq s.heap l2 ys)
    (h : ∀ h', IsZip h' (s.heap.objs.size + 4) (s.heap.objs.size + 2) (s.heap.objs.size + 3) .none → IsPair h' (s.heap.objs.size + 2) (.ref s.heap.objs.size) (.ref (s.heap.objs.size + 1)) →
      IsPair h' (s.heap.objs.size + 3) .none .none → s1.It h' s.heap.objs.size l1 0 → s2.It h' (s.heap.objs.size + 1) l2 0 → (∀ c o, s.heap.get? c = some o → h'.get? c = some o) → Q (.ref (s.heap.objs.size + 4)) { s with heap := h' }) :
    wpAny (model prog w) A (call (.type "zip") [.ref l1, .ref l2]) Q E s := by
  refine callType_new F.called_zip (by decide) (F.typeCall_zip_2 _ _) (F.newCall_zip_2 _ _) (fun obj => F.args_object_init_3 obj _ _) F.entry_zip_new (zk_new s1 s2 l1 l2 xs ys) ⟨hl1, hl2, ?_⟩
  have z1 : (zkH1 s1 s.heap l1).objs.size = s.heap.objs.size + 1 := Heap.size_push ..
  have z2 : (zkH2 s1 s2 s.heap l1 l2).objs.size = s.heap.objs.size + 2 := (Heap.size_push ..).trans (by rw [z1])
  have z3 : (zkH3 s1 s2 s.heap l1 l2).objs.size = s.heap.objs.size + 3 := (Heap.size_push ..).trans (by rw [z2])
  have z4 : (zkH4 s1 s2 s.heap l1 l2).objs.size = s.heap.objs.size + 4 := (Heap.size_push ..).trans (by rw [z3])
  have k1 : ∀ c o, s.heap.get? c = some o → (zkH1 s1 s.heap l1).get? c = some o := fun c o e => Heap.get?_push_of_some _ e
  have k2 : ∀ c o, (zkH1 s1 s.heap l1).get? c = some o → (zkH2 s1 s2 s.heap l1 l2).get? c = some o := fun c o e => Heap.get?_push_of_some _ e
  have k3 : ∀ c o, (zkH2 s1 s2 s.heap l1 l2).get? c = some o → (zkH3 s1 s2 s.heap l1 l2).get? c = some o := fun c o e => Heap.get?_push_of_some _ e
  have k4 : ∀ c o, (zkH3 s1 s2 s.heap l1 l2).get? c = some o → (zkH4 s1 s2 s.heap l1 l2).get? c = some o := fun c o e => Heap.get?_push_of_some _ e
  have k5 : ∀ c o, (zkH4 s1 s2 s.heap l1 l2).get? c = some o → (zkH5 s1 s2 s.heap l1 l2).get? c = some o := fun c o e => Heap.get?_push_of_some _ e
  have g5 : (zkH5 s1 s2 s.heap l1 l2).get? (zkH4 s1 s2 s.heap l1 l2).objs.size = some _ := Heap.get?_push_size _ rfl
  have g4 : (zkH4 s1 s2 s.heap l1 l2).get? (zkH3 s1 s2 s.heap l1 l2).objs.size = some _ := Heap.get?_push_size _ rfl
  have g3 : (zkH3 s1 s2 s.heap l1 l2).get? (zkH2 s1 s2 s.heap l1 l2).objs.size = some _ := Heap.get?_push_size _ rfl
  have g2 : (zkH2 s1 s2 s.heap l1 l2).get? (zkH1 s1 s.heap l1).objs.size = some _ := Heap.get?_push_size _ rfl
  have g1 : (zkH1 s1 s.heap l1).get? s.heap.objs.size = some _ := Heap.get?_push_size _ rfl
  have it : ∀ (κ : SK) (h : Heap) (c a : Addr), h.get? c = some { cls := .type κ.nm, data := .fields #[.ref a, .int 0 0] } → κ.It h c a 0 := fun κ h c a e => by
    cases κ <;> exact ⟨_, e, rfl, rfl⟩
  show _ ∧ _
  rw [z2, z3, z4] at g5
  rw [z1, z2] at g3
  rw [z3] at g4
  rw [z1] at g2
  rw [z4]
  exact ⟨⟨_, g5, rfl⟩, h _ g5 (k5 _ _ (k4 _ _ g3)) (k5 _ _ g4) (it _ _ _ _ (k5 _ _ (k4 _ _ (k3 _ _ (k2 _ _ g1))))) (it _ _ _ _ (k5 _ _ (k4 _ _ (k3 _ _ g2)))) fun c o x => k5 _ _ (k4 _ _ (k3 _ _ (k2 _ _ (k1 _ _ x))))⟩
end

/-! ### the rule -/
def SqK (κ : SK) (K : PySem.W.Frag) (H : Hp) (a : Addr) (xs : List V) : Prop := match κ with
  | .l => SqL K H a xs
  | .t => SqT K H a xs
/-- two sequences, their items in new pairs -/
def ItzK (s1 s2 : SK) (K : PySem.W.Frag) (a b : Addr) : It :=
  ⟨fun i H => ∃ (xs ys : List V) (x y : V), SqK s1 K H a xs ∧ SqK s2 K H b ys ∧ xs[i]? = some x ∧ ys[i]? = some y,
    fun i H v H' => ∃ T x y, v = .ref T ∧ H T = none ∧ H' = upd H T (.tup [x, y]) ∧ (∀ xs, SqK s1 K H a xs → xs[i]? = some x) ∧ ∀ ys, SqK s2 K H b ys → ys[i]? = some y,
    fun i H => ∃ xs ys : List V, SqK s1 K H a xs ∧ SqK s2 K H b ys ∧ (xs.length ≤ i ∨ ys.length ≤ i)⟩
section
variable {X : Cx} {pins : List (Addr × Obj)} {σ : L2.St} {H : Hp} {s : Shared} {κ : SK} {a : Addr} {xs ys : List V}
theorem sqk_at (I : Inv X pins σ H s) (h : SqK κ X.K H a xs) : ∃ its : List Value, Vals xs its ∧ κ.Sq s.heap a its.toArray ∧ a < s.heap.objs.size := by
  cases κ
  · obtain ⟨its, rv, p, _⟩ := I.list h
    exact ⟨its, rv, p.isList, p.lt⟩
  · obtain ⟨its, rv, p, _⟩ := I.tuple h
    obtain ⟨o, ho, _⟩ := id p
    exact ⟨its, rv, p, Heap.lt_size ho⟩
theorem sqk_inj (I : Inv X pins σ H s) (h1 : SqK κ X.K H a xs) (h2 : SqK κ X.K H a ys) : xs = ys := by
  cases κ
  · exact I.list_inj h1 h2
  · exact I.tuple_inj h1 h2
end
theorem turn_zipK {P : Program} {w : World} {K : PySem.W.Frag} {elts : List Expr} {kk : Nat} {tpos : Pos} {s1 s2 : SK} {a b z TI TO i1 i2 : Addr} (D : ZipApart z TI TO i1 i2 a b) :
    Turn P w K (.Tuple elts kk tpos) (ItzK s1 s2 K a b) [z, TI, TO, i1, i2] z (fun i h => IsZip h z TI TO .none ∧ IsPair h TI (.ref i1) (.ref i2) ∧ (∃ x y, IsPair h TO x y) ∧ s1.It h i1 a i ∧ s2.It h i2 b i) where
  mem := by simp
  obj := fun i h st c hc => by
    obtain ⟨hz, hTI, ⟨x, y, hTO⟩, h1, h2⟩ := st
    have it : ∀ {κ : SK} {c l : Addr}, κ.It h c l i → ∃ o, h.get? c = some o ∧ ∀ v, o.data ≠ .cell v := fun {κ c l} q => by
      cases κ <;> (obtain ⟨o, e, _, d⟩ := q; exact ⟨o, e, fun v z => by rw [d] at z; cases z⟩)
    have e' : c = z ∨ c = TI ∨ c = TO ∨ c = i1 ∨ c = i2 := by simpa using hc
    rcases e' with rfl | rfl | rfl | rfl | rfl
    · exact ⟨_, hz, fun v q => nomatch q⟩
    · exact ⟨_, hTI, fun v q => nomatch q⟩
    · exact ⟨_, hTO, fun v q => nomatch q⟩
    · exact it h1
    · exact it h2
  keep := fun i h h' st k => by
    obtain ⟨hz, hTI, ⟨x, y, hTO⟩, h1, h2⟩ := st
    exact ⟨k z (by simp) _ hz, k TI (by simp) _ hTI, ⟨x, y, k TO (by simp) _ hTO⟩, h1.at fun o q => k i1 (by simp) o q, h2.at fun o q => k i2 (by simp) o q⟩
  item := by
    intro X hP hw hK hc i pins s σ H E I hf st hg
    subst hP hw hK
    obtain ⟨hz, hTI, ⟨x0, y0, hTO⟩, h1, h2⟩ := st
    obtain ⟨xs, ys, x, y, hqx, hqy, hx, hy⟩ := hg
    obtain ⟨its, rv, p, _⟩ := sqk_at I hqx
    obtain ⟨its2, rv2, p2, _⟩ := sqk_at I hqy
    obtain ⟨u, hu, ru⟩ := rv.get hx
    obtain ⟨u2, hu2, ru2⟩ := rv2.get hy
    have hzl : z < s.heap.objs.size := Heap.lt_size hz
    refine pyNext_zipK_item D hz hTI hTO h1 h2 p p2 (x := u) (y := u2) (by simpa using hu) (by simpa using hu2) fun h' z' TO' h1' h2' hT hsz hk => ?_
    refine ⟨_, rfl, wpAny_letOwnedTupleGo_zip (s := { s with heap := h' }) z' fun h'' z'' sb => ?_⟩
    have hT2 : h''.get? s.heap.objs.size = some { cls := .type "tuple", data := .seq #[u, u2] } := (sb.2 _ (Nat.ne_of_gt hzl)).trans hT
    have new : ObjOk X.prog X.w (upd H s.heap.objs.size (.tup [x, y])) h'' s.heap.objs.size (.tup [x, y]) := ⟨by show 2 ≤ sizeLine; decide, [u, u2], .cons ru (.cons ru2 .nil), ⟨_, hT2, rfl, _, rfl⟩⟩
    have ap : ∀ c, c ∉ [z, TI, TO, i1, i2] → c ≠ z ∧ c ≠ TO ∧ c ≠ i1 ∧ c ≠ i2 := fun c hb => ⟨fun q => hb (by simp [q]), fun q => hb (by simp [q]), fun q => hb (by simp [q]), fun q => hb (by simp [q])⟩
    have I1 : Inv X pins σ (upd H s.heap.objs.size (.tup [x, y])) { s with heap := h'' } :=
      I.turnedNew (t' := s.toks) (ch := [z, TI, TO, i1, i2]) (fun c o hb q => (sb.2 c (ap c hb).1).trans (hk c o (ap c hb).1 (ap c hb).2.1 (ap c hb).2.2.1 (ap c hb).2.2.2 q)) hf (Nat.le_refl _) new
    refine ⟨.ref s.heap.objs.size, _, I1, rfl, ⟨_, x, y, rfl, I.hok.fresh (Nat.le_refl _), rfl, fun l hl => by rw [sqk_inj I hl hqx]; exact hx, fun l hl => by rw [sqk_inj I hl hqy]; exact hy⟩, ⟨z'', ?_, ⟨u, u2, ?_⟩, ?_, ?_⟩, fun c hcm => ?_⟩
    · exact (sb.2 _ D.TIz).trans (hk _ _ D.TIz D.TITO D.TIi1 D.TIi2 hTI)
    · exact (sb.2 _ D.TOz).trans TO'
    · exact h1'.at fun o q => (sb.2 _ D.i1z).trans q
    · exact h2'.at fun o q => (sb.2 _ D.i2z).trans q
    · have hlt : c < s.heap.objs.size := by
        have e' : c = z ∨ c = TI ∨ c = TO ∨ c = i1 ∨ c = i2 := by simpa using hcm
        rcases e' with rfl | rfl | rfl | rfl | rfl
        · exact hzl
        · exact Heap.lt_size hTI
        · exact Heap.lt_size hTO
        · exact SK.lt h1
        · exact SK.lt h2
      rw [upd_ne (Nat.ne_of_lt hlt)]
      exact (hf c hcm).1
  done := by
    intro X hP hw hK hc i pins s σ H E I hf st hg
    subst hP hw hK
    obtain ⟨hz, hTI, ⟨x0, y0, hTO⟩, h1, h2⟩ := st
    obtain ⟨xs, ys, hqx, hqy, hend⟩ := hg
    obtain ⟨its, rv, p, _⟩ := sqk_at I hqx
    obtain ⟨its2, rv2, p2, _⟩ := sqk_at I hqy
    have l1 := rv.length
    have l2 := rv2.length
    have he : its.toArray[i]? = none ∨ its2.toArray[i]? = none := by
      rcases hend with q | q
      · exact .inl (by simp; omega)
      · exact .inr (by simp; omega)
    exact pyNext_zipK_end (I.ok.hd hc) D hz hTI hTO h1 h2 p p2 he fun h' hk => ⟨rfl, I.turnedL (t' := s.toks) (ch := [z, TI, TO, i1, i2]) (fun c o hb q =>
      hk c o (fun z => hb (by simp [z])) (fun z => hb (by simp [z])) (fun z => hb (by simp [z])) (fun z => hb (by simp [z])) q) hf⟩
  self := fun A i s Q E st h => wpAny_pyIter_zip st.1 h
def iZipK (K : PySem.W.Frag) (ta : TA) : TI := fun σ H R => ta σ H fun vs H1 => ∃ s1 s2 a b xs ys, vs = [.ref a, .ref b] ∧ SqK s1 K H1 a xs ∧ SqK s2 K H1 b ys ∧ R (ItzK s1 s2 K a b) H1
theorem pi_zipK {X : Cx} {e e2 : Expr} {ta : TA} {p pos tpos : Pos} {elts : List Expr} {kk : Nat} (hg : Gl X "zip") (hm : X.mg "zip" = none) (ha : PA X [e, e2] ta)
    (hs : starEach [e, e2] X.env = (false, eval e X.env) :: starEach [e2] X.env) (hpl : (backTo pos (starEach [e2] X.env)).any (·.1) = false) : PI X (.Tuple elts kk tpos) (.Call (.Name "zip" p) [e, e2] [] pos) (iZipK X.K ta) := by
  refine ⟨fun pins s σ H R I h => ?_⟩
  refine Call_ (ld_blt I hg hm PyProof.Rows.boot_zip (PyProof.Rows.callWith_type1 (thn (ha.run pos pins s σ H _ I h) fun us s1 ⟨vs, H1, I1, r1, k1, k2, a, b, xs, ys, ex, hqx, hqy, q⟩ => ?_) hs hpl))
  subst ex
  obtain ⟨u1, u2, rfl, e1, e2⟩ := vals2 r1
  obtain rfl : u1 = Value.ref a := e1
  obtain rfl : u2 = Value.ref b := e2
  obtain ⟨its, rv, p1, la⟩ := sqk_at I1 hqx
  obtain ⟨its2, rv2, p2, lb⟩ := sqk_at I1 hqy
  refine call_zipK p1 p2 fun h' hz hTI hTO h1 h2 hk => wpAny_pyIter_zip hz ?_
  have I2 : Inv X pins σ H1 { s1 with heap := h' } := I1.kept (t' := s1.toks) hk
  refine ⟨s1.heap.objs.size + 4, [s1.heap.objs.size + 4, s1.heap.objs.size + 2, s1.heap.objs.size + 3, s1.heap.objs.size, s1.heap.objs.size + 1], _, _, H1, rfl, I2, turn_zipK (PySem.W.ktu_apart s1.heap.objs.size a b la lb), ⟨hz, hTI, ⟨_, _, hTO⟩, h1, h2⟩, fun c hcm => ?_, q⟩
  have hle : s1.heap.objs.size ≤ c := by
    have e' : c = s1.heap.objs.size + 4 ∨ c = s1.heap.objs.size + 2 ∨ c = s1.heap.objs.size + 3 ∨ c = s1.heap.objs.size ∨ c = s1.heap.objs.size + 1 := by simpa using hcm
    rcases e' with z | z | z | z | z <;> (rw [z]; first | exact Nat.le_refl _ | exact Nat.le_add_right _ _)
  exact I1.fpOk hle (I1.hok.fresh hle)

/-! ### as data -/
def seqD : D → Option (List D)
  | .lst ds => some ds
  | .tup ds => some ds
  | _ => none
def zipD (xs ys : List D) : List D := List.zipWith (fun x y => .tup [x, y]) xs ys
def vItZ (fs : List SE) : SI := fun ρ => obind (vArgs fs ρ) fun vs ρ1 => match escs ρ1 vs with
  | some ([d1, d2], ρ2) => match seqD d1, seqD d2 with
    | some xs, some ys => .ok (zipD xs ys) ρ2
    | _, _ => .bad
  | _ => .bad
def AtK (κ : SK) (G : Hp) (a : Addr) (xs : List V) : Prop := match κ with
  | .l => G a = some (.lst xs)
  | .t => G a = some (.tup xs)
section
variable {K : PySem.W.Frag} {mg : Str → Option Value} {F G L : Hp} {a b : Addr} {xs ys : List V} {ds es : List D} {κ s1 s2 : SK}
theorem AtK.sq (h : AtK κ G a xs) (s : Same G L) : SqK κ K L a xs := by
  cases κ
  · exact SqL.of (s _ _ h)
  · exact SqT.of (s _ _ h)
theorem seq_at {x : V} {d : D} (r : Rep K mg G x d) (e : seqD d = some ds) : ∃ κ a xs, x = .ref a ∧ AtK κ G a xs ∧ Reps K mg G xs ds := by
  unfold seqD at e
  split at e
  · cases e
    cases r with
    | lst h r => exact ⟨.l, _, _, rfl, h, r⟩
  · cases e
    cases r with
    | tup h r => exact ⟨.t, _, _, rfl, h, r⟩
  · cases e
theorem iter_zip (h1 : AtK s1 G a xs) (h2 : AtK s2 G b ys) (r1 : Reps K mg G xs ds) (r2 : Reps K mg G ys es) : IterOk K mg (ItzK s1 s2 K a b) (zipD ds es) G where
  goes := fun i F L q1 q2 hi => by
    unfold zipD at hi
    rw [List.length_zipWith] at hi
    have i1 : i < xs.length := by rw [r1.len]; omega
    have i2 : i < ys.length := by rw [r2.len]; omega
    exact ⟨xs, ys, xs[i], ys[i], h1.sq (q1.trans q2), h2.sq (q1.trans q2), by simp [i1], by simp [i2]⟩
  stops := fun F L q1 q2 => by
    refine ⟨xs, ys, h1.sq (q1.trans q2), h2.sq (q1.trans q2), ?_⟩
    unfold zipD
    rw [List.length_zipWith, r1.len, r2.len]
    omega
  yields := fun i F L x L' d q1 q2 hd y => by
    obtain ⟨T, x1, y1, rfl, nT, rfl, f1, f2⟩ := y
    have g1 := f1 xs (h1.sq (q1.trans q2))
    have g2 := f2 ys (h2.sq (q1.trans q2))
    unfold zipD at hd
    rw [List.getElem?_zipWith] at hd
    cases e1 : ds[i]? with
    | none => rw [e1] at hd; cases hd
    | some d1 =>
      cases e2 : es[i]? with
      | none => rw [e1, e2] at hd; cases hd
      | some d2 =>
        rw [e1, e2] at hd
        cases hd
        obtain ⟨x', k1, k2⟩ := r1.get e1
        obtain ⟨y', k3, k4⟩ := r2.get e2
        rw [g1] at k1; cases k1
        rw [g2] at k3; cases k3
        have nF : F T = none := q2.free nT
        exact ⟨_, Ext.layF q2 nT, .tup upd_same (.cons ((k2.mono q1).mono (same_put nF)) (.cons ((k4.mono q1).mono (same_put nF)) .nil))⟩
end
section
variable {Z : Ctx}
theorem ri_zip {t : TA} {fs : List SE} (h : RA Z t (vArgs fs)) : RI Z (iZipK Z.X.K t) (vItZ fs) := by
  intro Y F ρ σ H Rr R P
  refine h Y F ρ σ H _ R (post_bind P fun vls ρ1 _ P1 => fun G L vs s R1 k => ?_)
  split at P1
  · rename_i d1 d2 ρ2 e
    split at P1
    · rename_i xs ys e1 e2
      obtain ⟨G2, s2, R2, r⟩ := escs_all k (Same.refl G) R1 e
      cases r with
      | cons ra rr =>
        cases rr with
        | cons rb rr =>
          cases rr
          obtain ⟨κ1, a, us, rfl, h1, q1⟩ := seq_at ra e1
          obtain ⟨κ2, b, ws, rfl, h2, q2⟩ := seq_at rb e2
          exact ⟨κ1, κ2, a, b, us, ws, rfl, h1.sq R2.fh, h2.sq R2.fh, P1 G2 L _ (s.trans s2) R2 (iter_zip h1 h2 q1 q2)⟩
    · exact P1.elim
  · exact P1.elim
end
end VL
/-! VZ2: sorted(set(tuple of ints)), sorted(dict with int keys) -/
namespace VL
open PySem PySem.Spec PyProof.Rows L2
/-- the members once, ascending -/
def dedupI : List Int → List Int
  | [] => []
  | x :: r => let q := dedupI r; if x ∈ q then q else x :: q
theorem dedupI_mem {x : Int} : ∀ {l : List Int}, x ∈ dedupI l ↔ x ∈ l
  | [] => Iff.rfl
  | y :: r => by
    have ih := dedupI_mem (x := x) (l := r)
    have iy := dedupI_mem (x := y) (l := r)
    unfold dedupI
    dsimp only
    split
    · rename_i h
      rw [ih, List.mem_cons]
      constructor
      · exact .inr
      · rintro (rfl | h2)
        · exact iy.mp h
        · exact h2
    · rw [List.mem_cons, List.mem_cons, ih]
theorem dedupI_nodup : ∀ l : List Int, (dedupI l).Nodup
  | [] => List.nodup_nil
  | y :: r => by
    unfold dedupI
    dsimp only
    split
    · exact dedupI_nodup r
    · rename_i h
      exact List.nodup_cons.mpr ⟨h, dedupI_nodup r⟩
def setI (l : List Int) : List Int := sortI (dedupI l)
theorem setI_mem {x : Int} {l : List Int} : x ∈ setI l ↔ x ∈ l := by
  unfold setI
  rw [(sortI_perm _).mem_iff, dedupI_mem]
theorem lt_pair : ∀ {l : List Int}, l.Pairwise (· ≤ ·) → l.Nodup → l.Pairwise (· < ·)
  | [], _, _ => List.Pairwise.nil
  | x :: l, h, d => by
    obtain ⟨h1, h2⟩ := List.pairwise_cons.mp h
    obtain ⟨d1, d2⟩ := List.nodup_cons.mp d
    refine List.pairwise_cons.mpr ⟨fun y hy => ?_, lt_pair h2 d2⟩
    have a := h1 y hy
    have b : x ≠ y := fun z => d1 (z ▸ hy)
    omega
theorem setI_lt (l : List Int) : (setI l).Pairwise (· < ·) := lt_pair (sortI_sorted _) (((sortI_perm _).nodup_iff).mpr (dedupI_nodup l))
theorem lt_one {a b : List Int} (ha : a.Pairwise (· < ·)) (hb : b.Pairwise (· < ·)) (h : ∀ x, x ∈ a ↔ x ∈ b) : a = b := by
  have na : a.Nodup := ha.imp fun h => by omega
  have nb : b.Nodup := hb.imp fun h => by omega
  have hp : a.Perm b := (List.perm_ext_iff_of_nodup na nb).mpr h
  exact sort_one hp (ha.imp fun h => by omega) (hb.imp fun h => by omega)

theorem sorted_setV {X : Cx} {pins : List (Addr × Obj)} {s : Shared} {σ : L2.St} {H : Hp} {a : Addr} {S : Int → Bool} {n : Nat} {Q : VK} (hc : X.calm = true) (I : Inv X pins σ H s) (R : SetR X.w s.heap a S n) (h64 : n < 64)
    (q : ∀ (ns : List Int) (p : Addr), ns.Pairwise (· < ·) → (∀ k : Int, k ∈ ns ↔ S k = true) → H p = none → Q (.ref p) (upd H p (.lst (ns.map V.int)))) :
    wpAny (model X.prog X.w) X.A (call (.builtin "sorted") [.ref a]) (EP X pins σ Q) X.xe s := by
  refine sorted_set R (I.ok.hd hc) h64 fun s' p out c ns k g o hp hg hi hs hm hl => ?_
  have hn : H p = none := I.hok.fresh hp
  have J : Inv X pins σ (upd H p (.lst (ns.map V.int))) { s with heap := s'.heap, gens := s'.gens, drawn := s'.drawn, toks := s'.toks } :=
    I.call (ch := []) (Un.laid k hp hn) (I.hok.laid k hp ⟨by rw [List.length_map, hl, sizeLine_eq]; omega, out.toList, c, vals_of_ints hi, hg⟩) (by rw [g]; exact I.bare) (fun _ z => nomatch z)
  have e : s' = { s with heap := s'.heap, gens := s'.gens, drawn := s'.drawn, toks := s'.toks } := by
    cases s'
    cases s
    cases o
    rfl
  rw [e]
  exact ⟨.ref p, _, J, rfl, q ns p hs hm hn⟩
def tSortSet (K : PySem.W.Frag) (ta : TE) : TE := fun σ H Q => ta σ H fun x H1 => ∃ (l : Addr) (ns : List Int), x = .ref l ∧ SqT K H1 l (ns.map V.int) ∧ ns.length < 64 ∧ ∀ (ms : List Int) (p : Addr), ms.Pairwise (· < ·) → (∀ k, k ∈ ms ↔ k ∈ ns) → H1 p = none → Q (.ref p) (upd H1 p (.lst (ms.map V.int)))
theorem pe_sortSet {X : Cx} {a : Expr} {ta : TE} {p p2 q pos : Pos} (hg : Gl X "sorted") (hm : X.mg "sorted" = none) (hg2 : Gl X "set") (hm2 : X.mg "set" = none) (ha : PE X a ta) (hc : X.calm = true)
    (na : starEach [a] X.env = (false, eval a X.env) :: starEach [] X.env) : PE X (.Call (.Name "sorted" p) [.Call (.Name "set" p2) [a] [] q] [] pos) (tSortSet X.K ta) := by
  refine ⟨fun pins s σ H Q I h => ?_⟩
  refine Call_ (ld_blt I hg hm boot_sorted ?_)
  refine PyProof.Rows.callWith_builtin1 (PyProof.Rows.args_cons ?_ rfl) rfl rfl
  refine Call_ (ld_blt I hg2 hm2 boot_set ?_)
  refine PyProof.Rows.callWith_type1 (PyProof.Rows.args_cons (thn (ha.run pins s σ H _ I h) fun v s1 ⟨x, H1, I1, r1, q1⟩ => PyProof.Rows.args_nil ?_) na) na rfl
  obtain ⟨l, ns, rfl, hq, hl, q1⟩ := q1
  cases r1
  obtain ⟨its, r, pl, hz⟩ := I1.tuple hq
  refine call_set_tupI ns (I1.ok.hd hc) (show s1.heap.IsTuple l its.toArray from pl) (by simpa using RZ.intsAre_vals r) (by unfold scanBound; omega) fun h' tk c R hcn hk => ?_
  refine PyProof.Rows.args_nil ?_
  have I2 : Inv X pins σ H1 { s1 with heap := h', toks := tk } := I1.kept hk
  exact sorted_setV hc I2 R (by omega) fun ms p hs hm hn => q1 ms p hs (fun k => by rw [hm k, decide_eq_true_iff]) hn
/-- the ints of a tuple, sorted, each once -/
def vSortSet (f : SE) : SE := fun ρ => obind (f ρ) fun v ρ1 => match look ρ1 v with
  | some (.tup ds) => match asInts ds with
    | some ns => if ns.length < 64 then .ok (.fr (.lst ((setI ns).map .int))) ρ1 else .bad
    | none => .bad
  | _ => .bad
section
variable {K : PySem.W.Frag} {mg : Str → Option Value} {F H : Hp}
theorem tupInts_at {v : V} {ds : List D} {ns : List Int} (s : Same F H) (r : RT K mg F H v (.tup ds)) (e : asInts ds = some ns) : ∃ a, v = .ref a ∧ H a = some (.tup (ns.map V.int)) := by
  obtain ⟨a, ys, rfl, h, z⟩ := r.tup s
  rw [asInts_eq e] at z
  rw [z.ints] at h
  exact ⟨a, rfl, h⟩
/-- the keys of a dict, if all are ints -/
def intKeys : List (Key × D) → Option (List Int)
  | [] => some []
  | (.inl i, _) :: r => (intKeys r).map (i :: ·)
  | _ :: _ => none
theorem intKeys_rep : ∀ {ds : List (Key × D)} {kvs : List (Key × V)} {ns : List Int}, RepK K mg F kvs ds → intKeys ds = some ns → kvs.map (·.1) = ns.map Sum.inl
  | [], _, ns, r, e => by
    cases r
    cases e
    rfl
  | (.inl i, d) :: ds, _, ns, r, e => by
    cases r with
    | cons h r =>
      obtain ⟨ms, e1, rfl⟩ := Option.map_eq_some_iff.mp (show (intKeys ds).map (i :: ·) = some ns from e)
      rw [List.map_cons, List.map_cons, intKeys_rep r e1]
  | (.inr i, d) :: ds, _, ns, r, e => by cases e
def opSortedA : List D → Option Pv
  | [.lst ds] => opSorted [.lst ds]
  | [.dic ks] => match intKeys ks with
    | some ns => if ns.length < 64 then some (.fr (.lst ((sortI ns).map .int))) else none
    | none => none
  | _ => none
abbrev rSortedDI : List V → Hp → VK → Prop := fun xs H Q => ∃ (a : Addr) (kvs : List (Key × V)) (ks : List Int), xs = [.ref a] ∧ Rd H a (.dK kvs) ∧ kvs.map (·.1) = ks.map Sum.inl ∧ ks.length < 64 ∧
    ∀ (ys : List Int) (p : Addr), ys.Perm ks → ys.Pairwise (· ≤ ·) → H p = none → Q (.ref p) (upd H p (.lst (ys.map V.int)))
theorem cr_sortedA {X : Cx} (hc : X.calm = true) : CallR X (.builtin "sorted") (fun xs H Q => rSortedI X.K xs H Q ∨ rSortedDI xs H Q) := cr_sortedI.or (call_sortedDI hc)
theorem sorted_sortedA : OpN K mg (fun xs H Q => rSortedI K xs H Q ∨ rSortedDI xs H Q) opSortedA := by
  intro F H xs ds pv Q s rs e q
  unfold opSortedA at e
  split at e
  · exact .inl (sorted_sorted F H xs _ pv Q s rs e q)
  · split at e
    · rename_i ks ns e1
      split at e
      · rename_i hl
        cases e
        obtain ⟨x, rfl, r⟩ := rs.one
        obtain ⟨a, kvs, rfl, h, z⟩ := r.dic s
        refine .inr ⟨a, kvs, ns, rfl, .inl h, intKeys_rep z e1, hl, fun ms p hp hs np => ?_⟩
        rw [sort_one (hp.trans (sortI_perm ns).symm) hs (sortI_sorted ns)]
        exact q.newL s np (reps_ints _)
      · cases e
    · cases e
  · cases e
end
section
variable {Z : Ctx}
theorem re_sortSet {t : TE} {f : SE} (h : RE Z t f) : RE Z (tSortSet Z.X.K t) (vSortSet f) := by
  intro Y F ρ σ H Q R P
  refine h Y F ρ σ H _ R (post_bind P fun vl ρ1 _ P1 => fun G L x s R1 k => ?_)
  split at P1
  · rename_i ds e
    split at P1
    · rename_i ns e2
      split at P1
      · rename_i hl
        have r := R1.reads k e
        obtain ⟨a, rfl, h1⟩ := tupInts_at R1.fh r e2
        refine ⟨a, ns, rfl, SqT.of h1, hl, fun ms p hs hm np => ?_⟩
        rw [lt_one hs (setI_lt ns) fun x => by rw [hm x, setI_mem]]
        exact PureQ.newL (mg := Z.X.mg) ((OkQ.mono P1 s).pure (pv := .fr (.lst _)) R1) R1.fh np (reps_ints _)
      · exact P1.elim
    · exact P1.elim
  · exact P1.elim
end
end VL
/-! VS1: tuples of ints in order; sorted of what is collected -/
namespace VL
open PySem PySem.Spec PyProof.Rows L2
def lexL : List Int → List Int → Bool
  | [], [] => false
  | [], _ :: _ => true
  | _ :: _, [] => false
  | x :: xs, y :: ys => if x = y then lexL xs ys else decide (x < y)
theorem lexL_irr : ∀ x, lexL x x = false
  | [] => rfl
  | x :: xs => by
    unfold lexL
    rw [if_pos rfl]
    exact lexL_irr xs
theorem lexL_asym : ∀ x y, lexL x y = true → lexL y x = false
  | [], [], h => by cases h
  | [], _ :: _, _ => rfl
  | _ :: _, [], h => by cases h
  | x :: xs, y :: ys, h => by
    unfold lexL at h ⊢
    by_cases e : x = y
    · rw [if_pos e] at h
      rw [if_pos e.symm]
      exact lexL_asym xs ys h
    · rw [if_neg e] at h
      rw [if_neg (fun z => e z.symm)]
      have := of_decide_eq_true h
      exact decide_eq_false (by omega)
theorem lexL_tr : ∀ x y z, lexL y x = false → lexL z y = false → lexL z x = false
  | [], [], z, _, h => h
  | [], _ :: _, [], _, h2 => by cases h2
  | [], _ :: _, _ :: _, _, _ => rfl
  | _ :: _, [], _, h, _ => by cases h
  | _ :: _, _ :: _, [], _, h => by cases h
  | x :: xs, y :: ys, z :: zs, h1, h2 => by
    unfold lexL at h1 h2 ⊢
    by_cases e1 : y = x
    · rw [if_pos e1] at h1
      by_cases e2 : z = y
      · rw [if_pos e2] at h2
        rw [if_pos (e2.trans e1)]
        exact lexL_tr xs ys zs h1 h2
      · rw [if_neg e2] at h2
        have := of_decide_eq_false h2
        rw [if_neg (fun q => e2 (q.trans e1.symm))]
        exact decide_eq_false (by omega)
    · rw [if_neg e1] at h1
      have a1 := of_decide_eq_false h1
      by_cases e2 : z = y
      · rw [if_neg (fun q => e1 (e2.symm.trans q))]
        exact decide_eq_false (by omega)
      · rw [if_neg e2] at h2
        have a2 := of_decide_eq_false h2
        rw [if_neg (by omega)]
        exact decide_eq_false (by omega)
theorem lexL_tri : ∀ x y, lexL x y = false → lexL y x = false → x = y
  | [], [], _, _ => rfl
  | [], _ :: _, h, _ => by cases h
  | _ :: _, [], _, h => by cases h
  | x :: xs, y :: ys, h1, h2 => by
    unfold lexL at h1 h2
    by_cases e : x = y
    · rw [if_pos e] at h1
      rw [if_pos e.symm] at h2
      rw [e, lexL_tri xs ys h1 h2]
    · rw [if_neg e] at h1
      rw [if_neg (fun z => e z.symm)] at h2
      have a1 := of_decide_eq_false h1
      have a2 := of_decide_eq_false h2
      omega
theorem lexL_swo {α : Type} (k : α → List Int) : SrtO.Swo fun v u => lexL (k v) (k u) := ⟨fun x y => lexL_asym _ _, fun x y z => lexL_tr _ _ _⟩

/-! ### at the library's level -/
def lexF (fin : Bool) : List Int → List Int → Bool
  | x :: xs, y :: ys => if x = y then lexF fin xs ys else decide (x < y)
  | _, _ => fin
theorem lexF_L : ∀ xs ys, lexF (decide (xs.length < ys.length)) xs ys = lexL xs ys
  | [], [] => rfl
  | [], y :: ys => by simp [lexF, lexL]
  | _ :: _, [] => by simp [lexF, lexL]
  | x :: xs, y :: ys => by
    have ih := lexF_L xs ys
    have e : decide ((x :: xs).length < (y :: ys).length) = decide (xs.length < ys.length) := by simp
    rw [e]
    unfold lexF lexL
    rw [ih]
section
variable {prog : Program} {w : World} {A : Around} {E : Value → Shared → Prop} {s : Shared}
theorem kat_ints {b fin : Bool} {Q : Bool → Shared → Prop} : ∀ {us vs : List Value} {ns ms : List Int} (i : Nat), IntsAre us ns → IntsAre vs ms → Q (lexF fin ns ms) s → PySem.W.KatLex prog w A b fin Q (us.zip vs) i s
  | _, _, _, _, _, .nil, _, h => by
    rw [List.zip_nil_left]
    exact PySem.W.kat_nil h
  | _, _, _, _, _, .cons n t r, .nil, h => by
    rw [List.zip_nil_right]
    exact PySem.W.kat_nil h
  | _, _, _, _, i, .cons n t r, .cons m u q, h => by
    rw [List.zip_cons_cons]
    unfold lexF at h
    refine PySem.W.kat_cons (SeqAt.EqAt.int_int n t m u prog w _ _ ?_)
    refine PySem.W.kat_go (fun e1 => ?_) (fun e1 => ?_)
    · have ex : n = m := by simpa using e1
      rw [if_pos ex] at h
      exact PySem.W.kat_yes (kat_ints (i + 1) r q h)
    · have ex : ¬ n = m := by simpa using e1
      rw [if_neg ex] at h
      exact PySem.W.kat_no (TS.oneLt_ints _ h)
def IsIT (h : Heap) (v : Value) (ns : List Int) : Prop := ∃ a o xs n, v = .ref a ∧ h.get? a = some o ∧ o.cls = .type "tuple" ∧ o.data = .seq xs n ∧ IntsAre xs.toList ns
theorem IsIT.keeps {h h' : Heap} {v : Value} {ns : List Int} (p : IsIT h v ns) (k : ∀ b o, h.get? b = some o → o.cls = .type "tuple" → h'.get? b = some o) : IsIT h' v ns := by
  obtain ⟨a, o, xs, n, e, ho, hc, r⟩ := p
  exact ⟨a, o, xs, n, e, k _ _ ho hc, hc, r⟩
theorem intsAre_len : ∀ {us : List Value} {ns : List Int}, IntsAre us ns → us.length = ns.length
  | _, _, .nil => rfl
  | _, _, .cons _ _ r => congrArg Nat.succ (intsAre_len r)
theorem tups_cmp {vs : List Value} {k : Value → List Int} (hp : ∀ v ∈ vs, IsIT s.heap v (k v)) : SrtO.Cmp prog w A s (tuples' true) (fun p => p.1 ∈ vs) (SrtO.lt2 fun v u => lexL (k v) (k u)) := by
  intro p q hm hm'
  obtain ⟨a, o, xs, n, e, ho, hc, hd, hi⟩ := hp _ hm
  obtain ⟨a', o', xs', n', e', ho', hc', hd', hi'⟩ := hp _ hm'
  show wpAny (model prog w) A (keyLt' (tuples' true) p.1 q.1) (fun r s' => s' = s ∧ r = lexL (k p.1) (k q.1)) (fun _ _ => False) s
  rw [← lexF_L]
  generalize k p.1 = ns at hi ⊢
  generalize k q.1 = ms at hi' ⊢
  rw [e, e']
  refine PySem.W.kat_lt ho hd ho' hd' ?_
  have l1 : xs.size = ns.length := by rw [← intsAre_len hi, Array.length_toList]
  have l2 : xs'.size = ms.length := by rw [← intsAre_len hi', Array.length_toList]
  rw [l1, l2]
  exact kat_ints 0 hi hi' ⟨rfl, rfl⟩
theorem firstsT {h : Heap} {k : Value → List Int} : ∀ {vs : List Value}, (∀ v ∈ vs, IsIT h v (k v) ∧ k v ≠ []) → ∃ fs : List Value, PySem.W.KatTups h vs fs ∧ fs.length = vs.length ∧ ∀ f ∈ fs, ∃ x t, f = Value.int x t
  | [], _ => ⟨[], PySem.W.KatTups.nil, rfl, fun _ hm => by simp at hm⟩
  | v :: vs, hp => by
    obtain ⟨fs, h1, h2, h3⟩ := firstsT (vs := vs) fun v' hm => hp v' (List.mem_cons_of_mem _ hm)
    obtain ⟨⟨a, o, xs, n, e, ho, hc, hd, hi⟩, hne⟩ := hp v (List.mem_cons_self ..)
    generalize k v = ns at hi hne
    generalize hq : xs.toList = us at hi
    cases hi with
    | nil => exact absurd rfl hne
    | cons x t r =>
      subst e
      refine ⟨.int x t :: fs, PySem.W.KatTups.cons ho hc hd (by rw [← Array.getElem?_toList, hq]; rfl) h1, by rw [List.length_cons, List.length_cons, h2], fun f hm => ?_⟩
      rcases List.mem_cons.mp hm with rfl | hm
      · exact ⟨x, t, rfl⟩
      · exact h3 f hm
theorem tups_sortable {a : Addr} {vs : List Value} {k : Value → List Int} (h0 : 0 < vs.length) (hp : ∀ v ∈ vs, IsIT s.heap v (k v) ∧ k v ≠ []) (ha : ∀ o, s.heap.get? a = some o → o.cls ≠ .type "tuple") : SrtO.SortableO prog w A s a vs fun v u => lexL (k v) (k u) := by
  intro h' keep
  have hp' : ∀ v ∈ vs, IsIT h' v (k v) ∧ k v ≠ [] := fun v hm => ⟨(hp v hm).1.keeps fun b o e c => keep b o (fun z => by subst z; exact ha o e c) e, (hp v hm).2⟩
  obtain ⟨fs, h1, h2, h3⟩ := firstsT hp'
  refine ⟨tuples' true, fun Q E hq => ?_, tups_cmp fun v hm => (hp' v hm).1⟩
  refine PySem.W.kat_kind (T := .type "int") h1 (by omega) (fun f hm => ?_) (by rfl) ?_
  · obtain ⟨x, t, rfl⟩ := h3 f hm
    exact PySem.W.Looks.now
  · have e : (Value.type "int" != Value.type "tuple") = true := by first | decide +kernel | rfl | decide
    rw [e]
    exact hq
/-- sorted(u), by what is collected of u -/
theorem sorted_gen {u : Value} {vs : List Value} {ltv : Value → Value → Bool} {Q : Value → Shared → Prop} (O : SrtO.Swo ltv)
    (hcol : ∀ R : List Value → Shared → Prop, (∀ h' tk, (∀ b o, s.heap.get? b = some o → h'.get? b = some o) → R vs { s with heap := h', toks := tk }) → wpAny (model prog w) A.in1 (collect u) R (fun _ _ => False) s)
    (hz : vs.length ≤ sizeLine)
    (hS : 2 ≤ vs.length → ∀ (h₁ : Heap) (tk : Nat) (a : Addr), h₁.get? a = some (seqObj "list" vs.toArray 0) → (∀ b o, s.heap.get? b = some o → b ≠ a ∧ h₁.get? b = some o) → SrtO.SortableO prog w A.in1.in1 { s with heap := h₁, toks := tk } a vs ltv)
    (h : ∀ (h1 h2 : Heap) (tk : Nat) (out : List Value), SrtO.Srtd ltv out → SrtO.Stb ltv out vs → (∀ b o, s.heap.get? b = some o → h1.get? b = some o) → (∀ b o, h1.get? b = some o → h2.get? b = some o) → (∃ n, h2.get? h1.objs.size = some (seqObj "list" out.toArray n)) → Q (.ref h1.objs.size) { s with heap := h2, toks := tk }) :
    wpAny (model prog w) A (call (.builtin "sorted") [u]) Q E s := by
  refine Calls.call_function_entry PyProof.Rows.kind_sorted PyProof.Rows.plain_sorted PyProof.Rows.entry_sorted (PyProof.Rows.args_sorted1 _) ?_
  unfold Builtin.«sorted»
  refine wpAny_bind (m := checkCount "sorted" 1 1 _) (wpAny_pure ?_)
  refine wpAny_bind (wpAny_mono (hcol (fun xs s' => xs = vs ∧ ∃ h' tk, (∀ b o, s.heap.get? b = some o → h'.get? b = some o) ∧ s' = { s with heap := h', toks := tk }) fun h' tk kp => ⟨rfl, h', tk, kp, rfl⟩) ?_ fun _ _ z => z.elim)
  rintro xs s' ⟨rfl, h', tk, kp, rfl⟩
  refine wpAny_bind (wpAny_newList ?_ hz)
  have hoL : (h'.push (seqObj "list" xs.toArray 0)).get? h'.objs.size = some (seqObj "list" xs.toArray 0) := Heap.get?_push_size _ rfl
  have keep : ∀ b o, s.heap.get? b = some o → b ≠ h'.objs.size ∧ (h'.push (seqObj "list" xs.toArray 0)).get? b = some o := fun b o q =>
    ⟨Nat.ne_of_lt (Heap.lt_size (kp b o q)), Heap.get?_push_of_some _ (kp b o q)⟩
  show wpAny _ _ _ _ _ { s with heap := h'.push (seqObj "list" xs.toArray 0), toks := tk }
  refine wpAny_bind (wpAny_holding (wpAny_call_entry PyProof.Rows.slot_list_sort ⟨_, hoL, rfl⟩ PyProof.Rows.entry_list_sort
    (SrtO.list_sort_ord (s := { s with heap := h'.push (seqObj "list" xs.toArray 0), toks := tk }) O hoL hz (fun h2 => hS h2 _ tk _ hoL keep) fun out hs hb => ⟨_, rfl, ?_⟩) (PyProof.Rows.args_list_sort _)))
  obtain ⟨e', he'⟩ := PyProof.Rows.sortedHeap_at (vs := xs) (out := out.toArray) hoL
  refine wpAny_pure ⟨_, rfl, h h' _ tk out hs hb kp (fun b o q => ?_) ⟨e', he'⟩⟩
  have hb : b < h'.objs.size := Heap.lt_size q
  rw [PyProof.Rows.sortedHeap_old (Nat.ne_of_lt hb) (by rw [size_push']; exact Nat.lt_succ_of_lt hb)]
  exact Heap.get?_push_of_some _ q
end
end VL
/-! VS2: sorted of lists of tuples of ints, of tuples of ints, of dicts with tuples as keys -/
namespace VL
open PySem PySem.Spec PyProof.Rows L2
def vI : V → Int
  | .int i => i
  | _ => 0
/-- the ints of a tuple that stands in the heap -/
def kOf (H : Hp) : V → List Int
  | .ref t => match H t with
    | some (.tup xs) => xs.map vI
    | _ => []
  | _ => []
theorem vI_ints : ∀ ns : List Int, (ns.map V.int).map vI = ns
  | [] => rfl
  | n :: ns => congrArg (n :: ·) (vI_ints ns)
theorem kOf_eq {H : Hp} {t : Addr} {ns : List Int} (h : H t = some (.tup (ns.map V.int))) : kOf H (.ref t) = ns := by
  show (match H t with | some (.tup xs) => xs.map vI | _ => []) = ns
  rw [h]
  exact vI_ints ns
/-- x stands for a tuple of ints -/
def TupAt (H : Hp) (x : V) : Prop := ∃ t, x = .ref t ∧ H t = some (.tup ((kOf H x).map V.int))
theorem TupAt.of {H : Hp} {t : Addr} {ns : List Int} (h : H t = some (.tup (ns.map V.int))) : TupAt H (.ref t) := ⟨t, rfl, by rw [kOf_eq h]; exact h⟩
abbrev ltK (H : Hp) (x y : V) : Bool := lexL (kOf H x) (kOf H y)
def rSortedT (K : PySem.W.Frag) : List V → Hp → VK → Prop := fun vs H Q => ∃ (a : Addr) (xs : List V), vs = [V.ref a] ∧ SqL K H a xs ∧ (∀ x ∈ xs, TupAt H x ∧ (kOf H x ≠ [] ∨ xs.length < 2)) ∧
  ∀ ys p, SrtO.Srtd (ltK H) ys → ys.Perm xs → H p = none → Q (.ref p) (upd H p (.lst ys))
def rSortedTI (K : PySem.W.Frag) : List V → Hp → VK → Prop := fun vs H Q => ∃ (a : Addr) (ns : List Int), vs = [V.ref a] ∧ SqT K H a (ns.map V.int) ∧
  ∀ (ns' : List Int) (p : Addr), ns'.Perm ns → ns'.Pairwise (· ≤ ·) → H p = none → Q (.ref p) (upd H p (.lst (ns'.map V.int)))
def rSortedDT : List V → Hp → VK → Prop := fun vs H Q => ∃ (a : Addr) (kvs : List (List Key × V)) (L : List (List Int)), vs = [V.ref a] ∧ Rd H a (.dT kvs) ∧ kvs.map (·.1) = L.map (·.map Sum.inl) ∧ (∀ l ∈ L, l ≠ [] ∨ L.length < 2) ∧
  ∀ ys p, SrtO.Srtd (ltK H) ys → (∀ y ∈ ys, TupAt H y) → (ys.map (kOf H)).Perm L → H p = none → Q (.ref p) (upd H p (.lst ys))
section
variable {X : Cx}
theorem isIT_at {pins : List (Addr × Obj)} {σ : L2.St} {H : Hp} {s : Shared} (I : Inv X pins σ H s) {t : Addr} {ns : List Int} (h : H t = some (.tup (ns.map V.int))) : IsIT s.heap (.ref t) ns := by
  obtain ⟨_, its, r, o, ho, hc, n, hd⟩ := (show ObjOk X.prog X.w H s.heap t (.tup (ns.map V.int)) from I.hok t _ h)
  exact ⟨t, o, its.toArray, n, rfl, ho, hc, hd, by simpa using r.ints⟩
theorem list_not_tup {h : Heap} {a : Addr} {vs : List Value} (ha : h.get? a = some (seqObj "list" vs.toArray 0)) : ∀ o, h.get? a = some o → o.cls ≠ .type "tuple" := fun o e => by
  have e' : some o = some (seqObj "list" vs.toArray 0) := e.symm.trans ha
  cases e'
  intro c
  exact absurd (Value.type.inj c) (by decide)
theorem cr_sortedT : CallR X (.builtin "sorted") (rSortedT X.K) := by
  intro pins s σ H vs us Q I r h
  obtain ⟨a, xs, rfl, hs, hx, q⟩ := h
  obtain ⟨its, rv, hl, hz⟩ := I.list hs
  obtain ⟨u, rfl, ru⟩ := vals1 r
  obtain rfl : u = Value.ref a := ru
  obtain ⟨e1, e2⟩ := refs_back rv fun x m => by
    obtain ⟨⟨t, e, _⟩, _⟩ := hx x m
    exact ⟨t, e⟩
  obtain ⟨o, ho, hc, n, hd⟩ := hl.isList
  have hp : ∀ v ∈ its, IsIT s.heap v (kOf H (backV v)) ∧ (kOf H (backV v) ≠ [] ∨ its.length < 2) := fun v hv => by
    obtain ⟨t, rfl⟩ := e2 v hv
    have hm : V.ref t ∈ xs := by rw [e1]; exact List.mem_map.mpr ⟨_, hv, rfl⟩
    obtain ⟨⟨t', e, ht⟩, hne⟩ := hx _ hm
    cases e
    rw [rv.length] at hne
    exact ⟨isIT_at I ht, hne⟩
  refine sorted_gen (vs := its) (ltv := fun v u => lexL (kOf H (backV v)) (kOf H (backV u))) (lexL_swo fun v => kOf H (backV v)) (fun R hR => ?_) (by rw [← rv.length]; exact hz) (fun h2 h₁ tk a' ha kk => ?_) fun h1 h2 tk out g1 g2 k1 k2 hn => ?_
  · refine wpAny_collect_seq a (.inl rfl) ho hc hd (fun h' kp => ?_) (by rw [List.size_toArray, ← rv.length]; exact hz)
    have := hR h' s.toks kp
    simpa using this
  · refine tups_sortable (s := { s with heap := h₁, toks := tk }) (by omega) (fun v hm => ⟨(hp v hm).1.keeps fun b o e _ => (kk b o e).2, ?_⟩) (list_not_tup ha)
    rcases (hp v hm).2 with z | z
    · exact z
    · omega
  · have h3 : ∀ u ∈ out, ∃ a, u = Value.ref a := fun u hu => e2 u (g2.perm.mem_iff.mp hu)
    obtain ⟨n', hn'⟩ := hn
    have I1 : Inv X pins σ H { s with heap := h1, toks := tk } := I.kept k1
    refine ⟨.ref h1.objs.size, upd H h1.objs.size (.lst (out.map backV)), I1.laid (t' := tk) k2 (Nat.le_refl _) ⟨?_, out, n', vals_back h3, hn'⟩, rfl, q _ _ (SrtO.srtd_map g1) ?_ (I1.hok.fresh (Nat.le_refl _))⟩
    · rw [List.length_map, g2.len, ← rv.length]
      exact hz
    · rw [e1]
      exact g2.perm.map backV
theorem cr_sortedTI : CallR X (.builtin "sorted") (rSortedTI X.K) := by
  intro pins s σ H vs us Q I r h
  obtain ⟨a, ns, rfl, hs, q⟩ := h
  obtain ⟨its, rv, hl, hz⟩ := I.tuple hs
  obtain ⟨u, rfl, ru⟩ := vals1 r
  obtain rfl : u = Value.ref a := ru
  have hi := rv.ints
  obtain ⟨o, ho, hc, n, hd⟩ := hl
  refine sorted_gen (vs := its) SrtO.swo_int (fun R hR => ?_) (by rw [← rv.length]; exact hz) (fun h2 h₁ tk a' ha kk => SrtO.ints_sortable hi h2) fun h1 h2 tk out g1 g2 k1 k2 hn => ?_
  · refine wpAny_collect_seq a (.inr rfl) ho hc hd (fun h' kp => ?_) (by rw [List.size_toArray, ← rv.length]; exact hz)
    have := hR h' s.toks kp
    simpa using this
  · obtain ⟨n', hn'⟩ := hn
    obtain ⟨j1, j2, j3⟩ := SrtO.ints_out hi g1 g2
    have I1 : Inv X pins σ H { s with heap := h1, toks := tk } := I.kept k1
    have hlen : ((out.map SrtO.iv).map V.int).length ≤ sizeLine := by
      rw [List.length_map, j2.length_eq]
      rw [List.length_map] at hz
      exact hz
    exact ⟨.ref h1.objs.size, upd H h1.objs.size (.lst ((out.map SrtO.iv).map V.int)), I1.laid (t' := tk) k2 (Nat.le_refl _) ⟨hlen, out, n', vals_of_ints j1, hn'⟩, rfl, q _ _ j2 j3 (I1.hok.fresh (Nat.le_refl _))⟩
theorem kV_ints : ∀ ns : List Int, (ns.map Sum.inl : List Key).map kV = ns.map V.int
  | [] => rfl
  | n :: ns => congrArg (V.int n :: ·) (kV_ints ns)
theorem keys_tup {H : Hp} : ∀ {kvs : List (List Key × V)} {bs : List Addr} {L : List (List Int)}, IsKeys H kvs bs → kvs.map (·.1) = L.map (·.map Sum.inl) → (∀ b ∈ bs, TupAt H (.ref b)) ∧ (bs.map fun b => kOf H (.ref b)) = L
  | _, _, [], .nil, _ => ⟨fun b hb => (by cases hb), rfl⟩
  | _, _, _ :: _, .nil, h => by cases h
  | _, _, [], .cons _ _, h => by cases h
  | _, _, l :: L, .cons h r, e => by
    rw [List.map_cons, List.map_cons] at e
    injection e with e1 e2
    obtain ⟨a1, a2⟩ := keys_tup r e2
    rw [e1, kV_ints] at h
    refine ⟨fun b hb => ?_, ?_⟩
    · rcases List.mem_cons.mp hb with rfl | hb
      · exact TupAt.of h
      · exact a1 b hb
    · rw [List.map_cons, kOf_eq h, a2]
theorem cr_sortedDT (hcalm : X.calm = true) : CallR X (.builtin "sorted") rSortedDT := by
  intro pins s σ H vs us Q I r h
  obtain ⟨a, kvs, L, rfl, hd, hL, hne, q⟩ := h
  obtain ⟨u, rfl, ru⟩ := vals1 r
  obtain rfl : u = Value.ref a := ru
  obtain ⟨z, hs, ks, pr, o, es, ep, ho, hx, hdt, he, hn⟩ := (show ObjOk X.prog X.w H s.heap a (.dT kvs) from hd.ok I.hok)
  have l1 : es.size = ks.length := size_of_entries he
  have l2 : kvs.length = ks.length := Paired.length pr
  obtain ⟨tk1, tk2⟩ := keys_tup (isKeys_of pr) hL
  have l3 : L.length = ks.length := by rw [← tk2, List.length_map, List.length_map]
  have hp : ∀ v ∈ (ks.map fun x => Value.ref x.2.1), IsIT s.heap v (kOf H (backV v)) ∧ (kOf H (backV v) ≠ [] ∨ L.length < 2) := fun v hv => by
    obtain ⟨x, hx1, rfl⟩ := List.mem_map.mp hv
    have hb : x.2.1 ∈ ks.map fun x => x.2.1 := List.mem_map.mpr ⟨x, hx1, rfl⟩
    obtain ⟨t, e, ht⟩ := tk1 _ hb
    cases e
    refine ⟨isIT_at I ht, hne _ ?_⟩
    rw [← tk2]
    exact List.mem_map.mpr ⟨_, hb, rfl⟩
  refine sorted_gen (vs := ks.map fun x => Value.ref x.2.1) (ltv := fun v u => lexL (kOf H (backV v)) (kOf H (backV u))) (lexL_swo fun v => kOf H (backV v)) (fun R hR => ?_) (by rw [List.length_map]; omega) (fun h2 h₁ tk a' ha kk => ?_) fun h1 h2 tk out g1 g2 k1 k2 hn' => ?_
  · refine PySem.W.kdu_collect (A := X.A.in1) (kdl_raw hs hx hdt) (I.ok.hd hcalm) ho (by omega) fun h' tk acc' kp it => ?_
    have ea : acc'.toList = ks.map fun x => Value.ref x.2.1 := by
      have hl : acc'.toList.length = ks.length := by rw [Array.length_toList, it.1]; exact l1
      apply List.ext_getElem?
      intro j
      rw [List.getElem?_map]
      cases hj : acc'.toList[j]? with
      | none =>
        have h1 := List.getElem?_eq_none_iff.mp hj
        rw [List.getElem?_eq_none (by omega)]
        all_goals rfl
      | some v =>
        obtain ⟨en, hen, hv⟩ := it.2 j v (by rw [← Array.getElem?_toList]; exact hj)
        have qe := entry_at he j
        rw [hen] at qe
        cases hb : ks[j]? with
        | none =>
          rw [hb] at qe
          exact nomatch (show some en = none from qe)
        | some b =>
          rw [hb] at qe
          have e2 : en = entryOfKey (tupleKind (mixKind X.prog X.w)) b := Option.some.inj qe
          rw [hv, e2]
          all_goals rfl
    rw [ea]
    exact hR h' tk kp
  · rw [List.length_map] at h2
    refine tups_sortable (s := { s with heap := h₁, toks := tk }) (by rw [List.length_map]; omega) (fun v hm => ⟨(hp v hm).1.keeps fun b o e _ => (kk b o e).2, ?_⟩) (list_not_tup ha)
    rcases (hp v hm).2 with z | z
    · exact z
    · omega
  · have h3 : ∀ u ∈ out, ∃ b, u = Value.ref b ∧ b ∈ ks.map fun x => x.2.1 := fun u hu => by
      obtain ⟨x, hx1, rfl⟩ := List.mem_map.mp (g2.perm.mem_iff.mp hu)
      exact ⟨_, rfl, List.mem_map.mpr ⟨x, hx1, rfl⟩⟩
    obtain ⟨n', hn'⟩ := hn'
    have I1 : Inv X pins σ H { s with heap := h1, toks := tk } := I.kept k1
    refine ⟨.ref h1.objs.size, upd H h1.objs.size (.lst (out.map backV)), I1.laid (t' := tk) k2 (Nat.le_refl _) ⟨?_, out, n', vals_back fun u hu => let ⟨b, e, _⟩ := h3 u hu; ⟨b, e⟩, hn'⟩, rfl, q _ _ (SrtO.srtd_map g1) (fun y hy => ?_) ?_ (I1.hok.fresh (Nat.le_refl _))⟩
    · rw [List.length_map, g2.len, List.length_map]
      omega
    · obtain ⟨u, hu, rfl⟩ := List.mem_map.mp hy
      obtain ⟨b, rfl, hb⟩ := h3 u hu
      exact tk1 b hb
    · have hpm := (g2.perm.map backV).map (kOf H)
      have e : ((ks.map fun x => Value.ref x.2.1).map backV).map (kOf H) = L := by
        rw [← tk2, List.map_map, List.map_map, List.map_map]
        rfl
      rw [e] at hpm
      exact hpm
end
/-! ### on data -/
def tupI : D → Option (List Int)
  | .tup ds => asInts ds
  | _ => none
def tupsI : List D → Option (List (List Int))
  | [] => some []
  | d :: r => match tupI d, tupsI r with
    | some l, some L => some (l :: L)
    | _, _ => none
def tupK : List Key → Option (List Int)
  | [] => some []
  | .inl i :: r => (tupK r).map (i :: ·)
  | .inr _ :: _ => none
def tupsK : List (List Key × D) → Option (List (List Int))
  | [] => some []
  | (k, _) :: r => match tupK k, tupsK r with
    | some l, some L => some (l :: L)
    | _, _ => none
def sortT (L : List (List Int)) : List (List Int) := L.mergeSort fun a b => !lexL b a
theorem sortT_perm (L : List (List Int)) : (sortT L).Perm L := List.mergeSort_perm _ _
theorem sortT_sorted (L : List (List Int)) : (sortT L).Pairwise fun a b => lexL b a = false := by
  have h := List.pairwise_mergeSort (le := fun a b : List Int => !lexL b a) (fun a b c h1 h2 => by
    simp only [Bool.not_eq_true'] at h1 h2 ⊢
    exact lexL_tr a b c h1 h2) (fun a b => by
    cases h : lexL b a with
    | false => rfl
    | true => rw [lexL_asym b a h]; rfl) L
  exact h.imp fun q => by simpa using q
theorem sortT_one {a b : List (List Int)} (hp : a.Perm b) (ha : a.Pairwise fun a b => lexL b a = false) (hb : b.Pairwise fun a b => lexL b a = false) : a = b :=
  List.Perm.eq_of_pairwise (fun x y _ _ h1 h2 => lexL_tri x y h2 h1) ha hb hp
def okSort (L : List (List Int)) : Bool := L.all (fun l => !l.isEmpty) || decide (L.length < 2)
theorem okSort_all {L : List (List Int)} (h : okSort L = true) : ∀ l ∈ L, l ≠ [] ∨ L.length < 2 := fun l hl => by
  unfold okSort at h
  rw [Bool.or_eq_true] at h
  rcases h with h | h
  · refine .inl fun z => ?_
    have := List.all_eq_true.mp h l hl
    rw [z] at this
    cases this
  · exact .inr (of_decide_eq_true h)
abbrev tD' (l : List Int) : D := .tup (l.map D.int)
def opSortedB : List D → Option Pv
  | [.lst ds] => match asInts ds with
    | some ns => some (.fr (.lst ((sortI ns).map .int)))
    | none => match tupsI ds with
      | some L => if okSort L = true then some (.fr (.lst ((sortT L).map tD'))) else none
      | none => none
  | [.tup ds] => (asInts ds).map fun ns => .fr (.lst ((sortI ns).map .int))
  | [.dic ks] => opSortedA [.dic ks]
  | [.dit ks] => match tupsK ks with
    | some L => if okSort L = true then some (.sh (.lst ((sortT L).map tD'))) else none
    | none => none
  | _ => none
theorem tupI_eq {d : D} {l : List Int} (h : tupI d = some l) : d = tD' l := by
  unfold tupI at h
  split at h
  · rw [asInts_eq h]
  · cases h
theorem tupsI_eq : ∀ {ds : List D} {L : List (List Int)}, tupsI ds = some L → ds = L.map tD'
  | [], L, h => by cases h; rfl
  | d :: r, L, h => by
    unfold tupsI at h
    split at h
    · rename_i l L' h1 h2
      cases h
      rw [List.map_cons, ← tupsI_eq h2, tupI_eq h1]
    · cases h
theorem tupK_eq : ∀ {ks : List Key} {l : List Int}, tupK ks = some l → ks = l.map Sum.inl
  | [], l, h => by cases h; rfl
  | .inl i :: r, l, h => by
    obtain ⟨l', h1, rfl⟩ := Option.map_eq_some_iff.mp (show (tupK r).map (i :: ·) = some l from h)
    rw [List.map_cons, ← tupK_eq h1]
  | .inr _ :: _, l, h => by cases h
theorem tupsK_eq : ∀ {ks : List (List Key × D)} {L : List (List Int)}, tupsK ks = some L → ks.map (·.1) = L.map (·.map Sum.inl)
  | [], L, h => by cases h; rfl
  | (k, d) :: r, L, h => by
    unfold tupsK at h
    split at h
    · rename_i l L' h1 h2
      cases h
      rw [List.map_cons, List.map_cons, ← tupsK_eq h2, tupK_eq h1]
    · cases h
section
variable {K : PySem.W.Frag} {mg : Str → Option Value} {F H : Hp}
theorem reps_tups (s : Same F H) : ∀ {xs : List V} {L : List (List Int)}, Reps K mg F xs (L.map tD') → (∀ x ∈ xs, TupAt H x) ∧ xs.map (kOf H) = L
  | _, [], .nil => ⟨fun x hx => (by cases hx), rfl⟩
  | _, l :: L, .cons h r => by
    obtain ⟨a1, a2⟩ := reps_tups s r
    cases h with
    | tup h q =>
      have e := s _ _ h
      rw [q.ints] at e
      refine ⟨fun x hx => ?_, ?_⟩
      · rcases List.mem_cons.mp hx with rfl | hx
        · exact TupAt.of e
        · exact a1 x hx
      · rw [List.map_cons, kOf_eq e, a2]
theorem reps_sorted (s : Same F H) {xs ys : List V} {L : List (List Int)} (r : Reps K mg F xs (L.map tD')) (hp : ys.Perm xs) (hs : SrtO.Srtd (ltK H) ys) : Reps K mg F ys ((sortT L).map tD') := by
  obtain ⟨a1, a2⟩ := reps_tups s r
  have e : ys.map (kOf H) = sortT L := by
    refine sortT_one ?_ (List.pairwise_map.mpr hs) (sortT_sorted L)
    rw [← a2] 
    exact (hp.map _).trans (sortT_perm _).symm
  rw [← e]
  have all : ∀ x ∈ xs, Rep K mg F x (tD' (kOf H x)) := fun x hx => by
    obtain ⟨i, hi⟩ := List.mem_iff_getElem?.mp hx
    obtain ⟨d, hd, rd⟩ := r.getV hi
    rw [← a2, List.map_map, List.getElem?_map, hi] at hd
    cases hd
    exact rd
  have key : ∀ zs : List V, (∀ x ∈ zs, Rep K mg F x (tD' (kOf H x))) → Reps K mg F zs ((zs.map (kOf H)).map tD') := fun zs => by
    induction zs with
    | nil => exact fun _ => .nil
    | cons z zs ih => exact fun h => .cons (h z List.mem_cons_self) (ih fun y hy => h y (List.mem_cons_of_mem _ hy))
  exact key ys fun y hy => all y (hp.mem_iff.mp hy)
abbrev rSortedB (K : PySem.W.Frag) : List V → Hp → VK → Prop := fun xs H Q => rSortedI K xs H Q ∨ (rSortedT K xs H Q ∨ (rSortedTI K xs H Q ∨ (rSortedDI xs H Q ∨ rSortedDT xs H Q)))
theorem cr_sortedB {X : Cx} (hc : X.calm = true) : CallR X (.builtin "sorted") (rSortedB X.K) := cr_sortedI.or (cr_sortedT.or (cr_sortedTI.or ((call_sortedDI hc).or (cr_sortedDT hc))))
open Classical in
/-- tuples that stand in the heap are frozen late -/
noncomputable def frzT (F H : Hp) (ys : List V) : Hp := fun b => if (F b).isSome then F b else if (∃ xs, H b = some (.tup xs)) ∧ V.ref b ∈ ys then H b else none
theorem frzT_old {ys : List V} {b : Addr} {o : HO} (h : F b = some o) : frzT F H ys b = some o := by
  unfold frzT
  rw [if_pos (by rw [h]; rfl), h]
theorem frzT_new (s : Same F H) {ys : List V} {b : Addr} {xs : List V} (h : H b = some (.tup xs)) (hm : V.ref b ∈ ys) : frzT F H ys b = some (.tup xs) := by
  cases e : F b with
  | some o =>
    rw [frzT_old e]
    have := s _ _ e
    rw [h] at this
    exact this.symm
  | none =>
    unfold frzT
    rw [if_neg (by rw [e]; exact Bool.false_ne_true), if_pos ⟨⟨xs, h⟩, hm⟩, h]
theorem frzT_in (s : Same F H) {ys : List V} : Same (frzT F H ys) H := fun b o e => by
  unfold frzT at e
  split at e
  · exact s _ _ e
  · split at e
    · exact e
    · cases e
theorem frzT_non {ys : List V} {b : Addr} (h : F b = none) : frzT F H ys b = none ∨ ∃ xs, frzT F H ys b = some (.tup xs) := by
  unfold frzT
  rw [if_neg (by rw [h]; exact Bool.false_ne_true)]
  split
  · rename_i q
    obtain ⟨⟨xs, e⟩, _⟩ := q
    exact .inr ⟨xs, e⟩
  · exact .inl rfl
theorem sorted_sortedB : OpN K mg (rSortedB K) opSortedB := by
  intro F H xs ds pv Q s rs e q
  unfold opSortedB at e
  split at e
  · obtain ⟨x, rfl, r⟩ := rs.one
    split at e
    · rename_i ns e1
      cases e
      obtain ⟨a, rfl, h⟩ := ints_at s r e1
      refine .inl ⟨a, ns, rfl, SqL.of h, fun ms p hp hs np => ?_⟩
      rw [sort_one (hp.trans (sortI_perm ns).symm) hs (sortI_sorted ns)]
      exact q.newL s np (reps_ints _)
    · split at e
      · rename_i L e1
        split at e
        · rename_i hok
          cases e
          rw [tupsI_eq e1] at r
          obtain ⟨a, ys, rfl, h, z⟩ := r.lst s
          obtain ⟨a1, a2⟩ := reps_tups s z
          have hl : ys.length = L.length := by rw [z.len, List.length_map]
          refine .inr (.inl ⟨a, ys, rfl, SqL.of h, fun x hx => ⟨a1 x hx, ?_⟩, fun zs p hs hp np => ?_⟩)
          · rw [hl]
            exact okSort_all hok _ (by rw [← a2]; exact List.mem_map.mpr ⟨x, hx, rfl⟩)
          · exact q.newL s np (reps_sorted s z hp hs)
        · cases e
      · cases e
  · obtain ⟨x, rfl, r⟩ := rs.one
    obtain ⟨ns, e1, rfl⟩ := Option.map_eq_some_iff.mp e
    obtain ⟨a, rfl, h⟩ := tupInts_at s r e1
    refine .inr (.inr (.inl ⟨a, ns, rfl, SqT.of h, fun ms p hp hs np => ?_⟩))
    rw [sort_one (hp.trans (sortI_perm ns).symm) hs (sortI_sorted ns)]
    exact q.newL s np (reps_ints _)
  · rcases sorted_sortedA F H xs _ pv Q s rs e q with h | h
    · exact .inl h
    · exact .inr (.inr (.inr (.inl h)))
  · obtain ⟨x, rfl, r⟩ := rs.one
    split at e
    · rename_i L e1
      split at e
      · rename_i hok
        cases e
        obtain ⟨a, kvs, rfl, h, z⟩ := r.dit s
        refine .inr (.inr (.inr (.inr ⟨a, kvs, L, rfl, .inl h, by rw [z.keys]; exact tupsK_eq e1, okSort_all hok, fun ys p hs hy hp np => ?_⟩)))
        have eL : ys.map (kOf H) = sortT L := sortT_one (hp.trans (sortT_perm _).symm) (List.pairwise_map.mpr hs) (sortT_sorted L)
        have s1 : Same F (frzT F H ys) := fun b o e => frzT_old e
        have s2 := frzT_in (ys := ys) s
        have nG : frzT F H ys p = none := s2.free np
        have x1 : Ext none F H (frzT F H ys) H := ⟨s1, s2, fun _ _ _ e => e, fun _ e => e, fun b _ e => frzT_non e⟩
        have x2 := Ext.layF (o := HO.lst ys) s2 np
        refine q _ _ (.ref p) (x1.trans x2) (.lst upd_same ?_)
        have key : ∀ zs : List V, (∀ y ∈ zs, y ∈ ys) → Reps K mg (frzT F H ys) zs ((zs.map (kOf H)).map tD') := fun zs => by
          induction zs with
          | nil => exact fun _ => .nil
          | cons y zs ih =>
            intro hz
            obtain ⟨t, rfl, ht⟩ := hy y (hz y List.mem_cons_self)
            refine .cons (.tup (frzT_new s ht (hz _ List.mem_cons_self)) (reps_ints _)) (ih fun y hy => hz y (List.mem_cons_of_mem _ hy))
        rw [← eL]
        exact (key ys fun _ h => h).mono (same_put nG)
      · cases e
    · cases e
  · cases e
end
end VL
/-! VS3: {t: v} with a tuple as key, d.get(k), len(set(xs)) -/
namespace VL
open PySem PySem.Spec PyProof.Rows L2
/-! ### {t: v} -/
def tDispT (tk tv : TE) : TE := fun σ H Q => ∀ p, H p = none → tk σ (upd H p (.dT [])) fun x H1 => tv σ H1 fun y H2 => H2 p = some (.dT []) ∧ ∃ (k : List Key) (b : Addr), x = .ref b ∧ H2 b = some (.tup (k.map kV)) ∧ Q (.ref p) (upd H2 p (.dT [(k, y)]))
theorem pe_dispT {X : Cx} {pos : Pos} {a b : Expr} {tk tv : TE} (hu : X.A.units + 1 < cLine) (hk : PE X a tk) (hv : PE X b tv) : PE X (.Dict [some a] [b] pos) (tDispT tk tv) := by
  refine ⟨fun pins s σ H Q I q => ?_⟩
  have hn := I.hok.fresh (Nat.le_refl s.heap.objs.size)
  have I1 := I.laid (a := s.heap.objs.size) (o := .dT []) (h' := s.heap.push { cls := .type "dict", data := .dict #[] }) (t' := s.toks) (fun _ _ q => Heap.get?_push_of_some _ q) (Nat.le_refl _) (dt_empty s.heap I.big)
  refine wpAny_Dict_any rfl rfl (fun z => by cases z) (by show 1 ≤ 15; decide) (pairTrees_cons_walk (thn (hk.run pins _ σ _ _ I1 (q _ hn)) fun u s2 ⟨x, H2, I2, rx, q2⟩ => thn (hv.run pins s2 σ H2 _ I2 q2) fun w s3 ⟨y, H3, I3, ry, e, k, c, ex, ec, q3⟩ => pairTrees_nil_walk ?_))
  subst ex
  obtain rfl : u = Value.ref c := rx
  obtain ⟨z, hd, xs, rel, dd⟩ := dt_of I3.hok e
  cases rel
  unfold storeAll
  rw [List.forIn_cons]
  refine wpAny_bind (wpAny_bind (wpAny_dictSet_heap (hsz := by simp) (show X.A.units < cLine from by omega) (key_of I3.hok ec) dd fun h' dd' hs => wpAny_pure ?_))
  dsimp only
  rw [List.forIn_nil]
  refine wpAny_pure ⟨.ref s.heap.objs.size, _, ?_, rfl, q3⟩
  have e1 : storedH ([] : List (List Key × Addr × Value)) k c w = [(k, c, w)] := rfl
  rw [e1] at dd'
  obtain ⟨o, es, ep, ho, h2, h3, h4, _, h5⟩ := dd'
  refine d_write I3 (by rw [e]; exact True.intro) hs ⟨o, ho⟩ ⟨by show 1 ≤ sizeLine; rw [sizeLine_eq]; omega, hd, [(k, c, w)], .cons ⟨rfl, ?_, ry⟩ .nil, o, es, ep, ho, h2, h3, h4, h5⟩
  show upd H3 s.heap.objs.size _ c = _
  rw [upd_ne (ne_of ec e (fun z => nomatch z))]
  exact ec
def vDicT (fk fv : SE) : SE := fun ρ => obind (fk ρ) fun k ρ1 => obind (fv ρ1) fun v ρ2 => match (look ρ2 (frz k)).bind keyTOf, esc ρ2 v with
  | some k, some (d, ρ3) => .ok (.fr (.dit [(k, d)])) ρ3
  | _, _ => .bad
/-- {k: v} -/
def vDic1B (fk fv : SE) : SE := fun ρ => match vDic1 fk fv ρ with
  | .bad => vDicT fk fv ρ
  | r => r
section
variable {Z : Ctx} {Y : Ent} {F G H L : Hp} {ρ ρ' : Env} {σ : L2.St} {v : V} {vl : Vl} {d : D}
theorem re_dicT {tk tv : TE} {fk fv : SE} (hk : RE Z tk fk) (hv : RE Z tv fv) : RE Z (tDispT tk tv) (vDicT fk fv) := by
  intro Y F ρ σ H Q R P p np
  have nP : Y.P p = none := no_pin R np
  have R0 := R.aside (o := .dT []) np
  refine hk (Y.aside p (.dT [])) F ρ σ _ _ R0 ?_
  unfold vDicT at P
  cases e1 : fk ρ with
  | bad => rw [e1] at P; exact P
  | exn c w ρ1 =>
    rw [e1] at P
    exact fun G L C dd fs x s R1 => P G L C dd fs x s (R1.unaside nP)
  | ok kl ρ1 =>
    rw [e1] at P
    intro F1 H1 x s1 R1 k1
    obtain ⟨F2, s2, R2, k2⟩ := keeps R1 k1
    refine hv (Y.aside p (.dT [])) F2 ρ1 σ H1 _ R2 ?_
    simp only [obind_ok] at P
    cases e2 : fv ρ1 with
    | bad => rw [e2] at P; exact P
    | exn c w ρ2 =>
      rw [e2] at P
      exact fun G L C dd fs x s R1 => P G L C dd fs x (s1.trans (s2.trans s)) (R1.unaside nP)
    | ok vl ρ2 =>
      rw [e2] at P
      intro F3 H3 y s3 R3 k3
      simp only [obind_ok] at P
      split at P
      · rename_i k d ρ3 ek ev
        obtain ⟨kd, e4, e5⟩ := Option.bind_eq_some_iff.mp ek
        have rk := R3.reads ((k2.mono s3).vok) e4
        obtain ⟨b, ekx, hb⟩ := keyTOf_rep R3.fh rk e5
        obtain ⟨F4, s4, R4, r4⟩ := R3.esc k3 ev
        obtain ⟨hp, nF, nH⟩ := R4.pinN (b := p) (o := .dT []) upd_same (fun _ z => nomatch z)
        refine ⟨hp, k, b, ekx, hb, ?_⟩
        have R5 := Rel.asideUpd (o := .dT []) (o' := .dT [(k, y)]) (fun _ z => nomatch z) R4
        have R6 := R5.unaside nP
        refine P F4 _ (.ref p) (s1.trans (s2.trans (s3.trans s4))) R6 ⟨p, rfl, nF, nH, nP, fun j d' q z => ?_, [(k, y)], upd_same, .cons r4 .nil⟩
        obtain ⟨p2, e2, _, _, np2, _⟩ := R5.slot j _ q
        rw [z] at e2; cases e2
        have np3 : upd Y.P p (.dT [(k, y)]) p = none := np2
        rw [upd_same] at np3; cases np3
      · exact P.elim
theorem re_dic1B {tk tv : TE} {fk fv : SE} (hk : RE Z tk fk) (hv : RE Z tv fv) : RE Z (fun σ H Q => tDisp [(tk, tv)] σ H Q ∨ tDispT tk tv σ H Q) (vDic1B fk fv) := by
  intro Y F ρ σ H Q R P
  unfold vDic1B at P
  cases e : vDic1 fk fv ρ with
  | bad =>
    rw [e] at P
    exact .inr (re_dicT hk hv Y F ρ σ H Q R P)
  | ok v ρ1 =>
    rw [e] at P
    exact .inl (re_dic1 hk hv Y F ρ σ H Q R (by rw [e]; exact P))
  | exn c w ρ1 =>
    rw [e] at P
    exact .inl (re_dic1 hk hv Y F ρ σ H Q R (by rw [e]; exact P))
theorem pe_alt {X : Cx} {e : Expr} {t1 t2 : TE} (h1 : PE X e t1) (h2 : PE X e t2) : PE X e (fun σ H Q => t1 σ H Q ∨ t2 σ H Q) :=
  ⟨fun pins s σ H Q I h => h.elim (h1.run pins s σ H Q I) (h2.run pins s σ H Q I)⟩
/-! ### d.get(k) -/
def opGet : D → D → Option Pv
  | .dic ks, x => (keyOf x).map fun k => .sh ((getK ks k).getD .non)
  | .dit ks, x => (keyTOf x).map fun k => .sh ((getT ks k).getD .non)
  | _, _ => none
def isDic : D → Bool
  | .dic _ => true
  | .dit _ => true
  | _ => false
def vGet (fa fb : SE) : SE := fun ρ => obind (fa ρ) fun va ρ1 => match look ρ1 va with
  | some c => if isDic c = true then obind (fb ρ1) fun vb ρ2 => retP ((look ρ2 (frz va)).bind fun x => (look ρ2 vb).bind fun y => opGet x y) ρ2 else .bad
  | none => .bad
theorem get_get1 {K : PySem.W.Frag} {mg : Str → Option Value} {F H : Hp} {x y : V} {a b : D} {pv : Pv} {Q : VK} {c : Addr} (s : Same F H) (ra : RT K mg F H x a) (rb : RT K mg F H y b) (hx : x = .ref c) (e : opGet a b = some pv) (q : PureQ K mg F H Q pv) : ∃ o, DGet H c y o ∧ Q (o.getD .non) H := by
  unfold opGet at e
  split at e
  · obtain ⟨k, h0, rfl⟩ := Option.map_eq_some_iff.mp e
    obtain ⟨p, kvs, e1, h1, r1⟩ := ra.dic s
    rw [hx] at e1; cases e1
    rw [keyOf_rep rb h0]
    refine ⟨_, DGet.k h1, ?_⟩
    cases h2 : getK _ k with
    | none =>
      have := r1.getN (k := k)
      rw [h2] at this
      have e3 : valV kvs k = none := by simpa using this
      rw [e3]
      rw [h2] at q
      exact q.atom s .non
    | some d =>
      obtain ⟨z, h3, h4⟩ := r1.get h2
      rw [h3]
      rw [h2] at q
      exact q.atom s h4
  · obtain ⟨k, h0, rfl⟩ := Option.map_eq_some_iff.mp e
    obtain ⟨p, kvs, e1, h1, r1⟩ := ra.dit s
    rw [hx] at e1; cases e1
    obtain ⟨b', rfl, hb⟩ := keyTOf_rep s rb h0
    refine ⟨_, DGet.t h1 hb, ?_⟩
    cases h2 : getT _ k with
    | none =>
      have := r1.getN (k := k)
      rw [h2] at this
      have e3 : valV kvs k = none := by simpa using this
      rw [e3]
      rw [h2] at q
      exact q.atom s .non
    | some d =>
      obtain ⟨z, h3, h4⟩ := r1.get h2
      rw [h3]
      rw [h2] at q
      exact q.atom s h4
  · cases e
theorem re_get {ta tb : TE} {fa fb : SE} (ha : RE Z ta fa) (hb : RE Z tb fb) : RE Z (tDGet1 ta tb) (vGet fa fb) := by
  intro Y F ρ σ H Q R P
  refine ha Y F ρ σ H _ R (post_bind P fun va ρ1 _ P1 => ?_)
  intro F1 H1 x s1 R1 k1
  split at P1
  · rename_i c e0
    split at P1
    · rename_i hc
      have r0 := R1.reads k1 e0
      obtain ⟨a, ex, dd⟩ : ∃ a, x = .ref a ∧ IsD H1 a := by
        cases c with
        | dic ks => obtain ⟨p, kvs, rfl, h1, _⟩ := r0.dic R1.fh; exact ⟨p, rfl, .inl ⟨kvs, .inl h1⟩⟩
        | dit ks => obtain ⟨p, kvs, rfl, h1, _⟩ := r0.dit R1.fh; exact ⟨p, rfl, .inr ⟨kvs, .inl h1⟩⟩
        | _ => cases hc
      refine ⟨a, ex, dd, ?_⟩
      obtain ⟨F2, s2, R2, k2⟩ := keeps R1 k1
      refine hb Y F2 ρ1 σ H1 _ R2 (post_bind (P1.mono (s1.trans s2) fun v ρ h => bv_mono (s1.trans s2) v ρ h) fun vb ρ2 _ P2 => ?_)
      intro F3 H2 y s3 R3 k3
      cases e1 : look ρ2 (frz va) with
      | none => rw [e1] at P2; exact P2.elim
      | some dx =>
        cases e2 : look ρ2 vb with
        | none => rw [e1, e2] at P2; exact P2.elim
        | some dy =>
          rw [e1, e2] at P2
          cases e3 : opGet dx dy with
          | none => simp only [Option.bind_some, e3] at P2; exact P2.elim
          | some pv =>
            simp only [Option.bind_some, e3] at P2
            exact get_get1 R3.fh (R3.reads ((k2.mono s3).vok) e1) (R3.reads k3 e2) ex e3 ((OkQ.mono P2 s3).pure R3)
    · exact P1.elim
  · exact P1.elim
/-! ### len(set(xs)) -/
theorem first_ok (ns : List Int) : ∀ i, i ≤ ns.length → (PyProof.Rows.firstMet (fun i => ns.getD i 0) i).Nodup ∧ ∀ x, x ∈ PyProof.Rows.firstMet (fun i => ns.getD i 0) i ↔ x ∈ ns.take i
  | 0, _ => ⟨List.nodup_nil, fun x => by simp [PyProof.Rows.firstMet]⟩
  | i + 1, h => by
    obtain ⟨h1, h2⟩ := first_ok ns i (by omega)
    have e : ns.take (i + 1) = ns.take i ++ [ns.getD i 0] := by
      rw [List.take_add_one, List.getD_eq_getElem?_getD, List.getElem?_eq_getElem (show i < ns.length by omega)]
      rfl
    rw [PyProof.Rows.firstMet_succ, e]
    generalize PyProof.Rows.firstMet (fun i => ns.getD i 0) i = m at h1 h2
    show (if m.any (· == ns.getD i 0) then m else m ++ [ns.getD i 0]).Nodup ∧ ∀ x, x ∈ (if m.any (· == ns.getD i 0) then m else m ++ [ns.getD i 0]) ↔ _
    by_cases hm : ns.getD i 0 ∈ m
    · have e1 : m.any (· == ns.getD i 0) = true := List.any_eq_true.mpr ⟨_, hm, by simp⟩
      rw [if_pos e1]
      refine ⟨h1, fun x => ?_⟩
      rw [h2 x, List.mem_append]
      constructor
      · exact .inl
      · rintro (q | q)
        · exact q
        · rw [List.mem_singleton.mp q]
          exact (h2 _).mp hm
    · have e1 : ¬ m.any (· == ns.getD i 0) = true := fun z => by
        obtain ⟨y, hy, e2⟩ := List.any_eq_true.mp z
        have : y = ns.getD i 0 := by simpa using e2
        exact hm (this ▸ hy)
      rw [if_neg e1]
      refine ⟨?_, fun x => ?_⟩
      · rw [List.nodup_append]
        exact ⟨h1, by simp, fun a ha b hb z => hm (by rw [← List.mem_singleton.mp hb, ← z]; exact ha)⟩
      · rw [List.mem_append, List.mem_append, h2 x]
theorem dedup_len {ns m : List Int} (h1 : m.Nodup) (h2 : ∀ x, x ∈ m ↔ x ∈ ns) : m.length = (dedupI ns).length :=
  ((List.perm_ext_iff_of_nodup h1 (dedupI_nodup ns)).mpr fun x => by rw [h2 x, dedupI_mem]).length_eq
def tLenSetB (K : PySem.W.Frag) (ta : TE) : TE := fun σ H Q => ta σ H fun x H1 => ∃ (l : Addr) (ns : List Int), x = .ref l ∧ (SqL K H1 l (ns.map V.int) ∨ SqT K H1 l (ns.map V.int)) ∧ ns.length ≤ 4000 ∧ Q (.int ((dedupI ns).length : Nat)) H1
theorem pe_lenSetB {X : Cx} {a : Expr} {ta : TE} {p p2 q pos : Pos} (hg : Gl X "len") (hm : X.mg "len" = none) (hg2 : Gl X "set") (hm2 : X.mg "set" = none) (ha : PE X a ta) (hc : X.calm = true)
    (na : starEach [a] X.env = (false, eval a X.env) :: starEach [] X.env) : PE X (.Call (.Name "len" p) [.Call (.Name "set" p2) [a] [] q] [] pos) (tLenSetB X.K ta) := by
  refine ⟨fun pins s σ H Q I h => ?_⟩
  refine Call_ (ld_blt I hg hm boot_len ?_)
  refine PyProof.Rows.callWith_builtin1 (PyProof.Rows.args_cons ?_ rfl) rfl rfl
  refine Call_ (ld_blt I hg2 hm2 boot_set ?_)
  refine PyProof.Rows.callWith_type1 (PyProof.Rows.args_cons (thn (ha.run pins s σ H _ I h) fun v s1 ⟨x, H1, I1, r1, q1⟩ => PyProof.Rows.args_nil ?_) na) na rfl
  obtain ⟨l, ns, rfl, hq, hl, q1⟩ := q1
  cases r1
  rcases hq with hq | hq
  · obtain ⟨its, r, pl, hz⟩ := I1.list hq
    have hlen : its.toArray.size = ns.length := by rw [List.size_toArray, ← r.length, List.length_map]
    refine call_set_list (I1.ok.hd hc) pl.isList (by simpa using RZ.intsAre_vals r) (by rw [hlen]; unfold scanBound; omega) fun h' tk hS hk => ?_
    refine PyProof.Rows.args_nil ?_
    rw [hlen] at hS
    obtain ⟨f1, f2⟩ := first_ok ns ns.length (Nat.le_refl _)
    rw [List.take_length] at f2
    have en := dedup_len f1 f2
    obtain ⟨o, es, ep, t, ho, hex, hd, _, _, _, hf, hn⟩ := hS
    have I2 : Inv X pins σ H1 { s1 with heap := h', toks := tk } := I1.kept fun b o e => hk b o (Heap.lt_size e) e
    have hle := PyProof.Rows.firstMet_length_le (fun i => ns.getD i 0) ns.length
    exact call_len_set ho hex hd hf (by rw [hn] <;> omega) ⟨.int (dedupI ns).length, H1, I2.tok _, ⟨_, by rw [hn, en]⟩, q1⟩
  · obtain ⟨its, r, pl, hz⟩ := I1.tuple hq
    refine call_set_tupI ns (I1.ok.hd hc) (show s1.heap.IsTuple l its.toArray from pl) (by simpa using RZ.intsAre_vals r) (by unfold scanBound; omega) fun h' tk c R hcn hk => ?_
    refine PyProof.Rows.args_nil ?_
    have I2 : Inv X pins σ H1 { s1 with heap := h', toks := tk } := I1.kept hk
    obtain ⟨o, es, ep, t, ho, hex, hd, _, hnd, hS, hlt, hf, hn, _, _⟩ := R
    have en := dedup_len hnd (ns := ns) fun x => by rw [← hS x, decide_eq_true_iff]
    rw [List.length_map, Array.length_toList] at en
    exact call_len_set ho hex hd hf (by omega) ⟨.int (dedupI ns).length, H1, I2.tok _, ⟨_, by rw [en]⟩, q1⟩
def setL : D → Option (List Int)
  | .lst ds => asInts ds
  | .tup ds => asInts ds
  | _ => none
def vLenSetI (f : SE) : SE := fun ρ => obind (f ρ) fun v ρ1 => match (look ρ1 v).bind setL with
  | some ns => if ns.length ≤ 4000 then .ok (.sh (.int ((dedupI ns).length : Nat))) ρ1 else .bad
  | none => .bad
theorem re_lenSet {t : TE} {f : SE} (h : RE Z t f) : RE Z (tLenSetB Z.X.K t) (vLenSetI f) := by
  intro Y F ρ σ H Q R P
  refine h Y F ρ σ H _ R (post_bind P fun vl ρ1 _ P1 => fun G L x s R1 k => ?_)
  split at P1
  · rename_i ns e
    split at P1
    · rename_i hl
      obtain ⟨d, e1, e2⟩ := Option.bind_eq_some_iff.mp e
      have r := R1.reads k e1
      have q := PureQ.atom ((OkQ.mono P1 s).pure (pv := .sh (.int _)) R1) R1.fh (.int _)
      unfold setL at e2
      split at e2
      · obtain ⟨a, rfl, h1⟩ := ints_at R1.fh r e2
        exact ⟨a, ns, rfl, .inl (SqL.of h1), hl, q⟩
      · obtain ⟨a, rfl, h1⟩ := tupInts_at R1.fh r e2
        exact ⟨a, ns, rfl, .inr (SqT.of h1), hl, q⟩
      · cases e2
    · exact P1.elim
  · exact P1.elim
end
end VL
/-! VC: comprehensions over a list of the frame's own that stays its own -/
namespace VL
open PySem PySem.Spec PyProof.Rows L2
/-- the iterator gives the data ds, while what is put aside stands -/
structure IterR (Z : Ctx) (Y : Ent) (J : It) (ds : List D) (G : Hp) : Prop where
  goes : ∀ i Y' F ρ σ L, (∀ b o, Y.P b = some o → Y'.P b = some o) → Z.R Y' F ρ σ L → Same G F → i < ds.length → J.go i L
  stops : ∀ Y' F ρ σ L, (∀ b o, Y.P b = some o → Y'.P b = some o) → Z.R Y' F ρ σ L → Same G F → J.stop ds.length L
  yields : ∀ i Y' F ρ σ L x L' d, (∀ b o, Y.P b = some o → Y'.P b = some o) → Z.R Y' F ρ σ L → Same G F → ds[i]? = some d → J.yld i L x L' → ∃ F2, Ext none F L F2 L' ∧ Rep Z.X.K Z.X.mg F2 x d
section
variable {Z : Ctx} {Y : Ent} {F G H L : Hp} {ρ ρ' : Env} {σ : L2.St} {v : V} {vl : Vl} {d : D}
theorem comp_core {gs vs : List Nat} {g : TG} {h : D → Env → Option Env} {tt : TT} {gt : STst} {te : TE} {f : SE} (Zb : Ctx) (hK : Zb.X.K = Z.X.K) (hmg : Zb.X.mg = Z.X.mg) (hW : Zb.W = fun _ _ _ _ => False) (hsub : ∀ i ∈ gs, i ∈ vs) (hg : RG Zb gs g h) (ht : RT' Zb tt gt) (he : RE Zb te f)
    {J : It} {ds : List D} {G0 L0 : Hp} {ρ1 : Env} {Q : VK} (R0 : Z.R Y G0 ρ1 σ L0) (it : IterR Z Y J ds G0)
    (P1 : Post (BV Z Y σ Q) Z Y σ G0 (obind (compF h gt f vs ds (wipeE ρ1 vs) []) fun out ρ2 => .ok (.fr (.lst out)) (restE vs ρ1 ρ2))) :
    ∀ D, L0 D = none → ∃ W : Nat → Nat → Hp → Prop, (∃ m, W 0 m (upd L0 D (.lst []))) ∧ ∀ i m H, W i m H →
      (J.stop i H ∧ Q (.ref D) H) ∨ (J.go i H ∧ ∃ Nx : Hp → Prop, (∀ H', Nx H' → ∃ m', m' < m ∧ W (i + 1) m' H') ∧ ∀ x H', J.yld i H x H' → g x (wipe σ vs) H' fun σ2 H2 => wipe σ2 vs = wipe σ vs ∧ tt σ2 H2 fun b H3 =>
        if b = true then te σ2 H3 fun y H4 => ∃ acc, H4 D = some (.lst acc) ∧ acc.length < sizeLine ∧ Nx (upd H4 D (.lst (acc ++ [y]))) else Nx H3) := by
  have eR : ∀ Y F ρ σ H, Zb.R Y F ρ σ H = Z.R Y F ρ σ H := fun Y F ρ σ H => by unfold Ctx.R; rw [hK, hmg]
  intro Dd nD
  have nP : Y.P Dd = none := by
    cases e : Y.P Dd with
    | none => rfl
    | some u => rw [(R0.pin Dd u e).1] at nD; cases nD
  have psub : ∀ (ws : List V) b o, Y.P b = some o → (Y.aside Dd (.lst ws)).P b = some o := fun ws b o e => by
    show upd Y.P Dd _ b = _
    rw [upd_ne (fun z => by rw [z, nP] at e; cases e)]
    exact e
  refine ⟨fun i m H => m = ds.length - i ∧ i ≤ ds.length ∧ ∃ F ρ as ws, Same G0 F ∧ Z.R (Y.aside Dd (.lst ws)) F ρ (wipe σ vs) H ∧ Reps Z.X.K Z.X.mg F ws as ∧
    Post (BV Z Y σ Q) Z Y σ F (obind (compF h gt f vs (ds.drop i) ρ as) fun out ρ2 => .ok (.fr (.lst out)) (restE vs ρ1 ρ2)),
    ⟨ds.length, by simp, Nat.zero_le _, G0, wipeE ρ1 vs, [], [], Same.refl G0, (R0.wipe vs).aside nD, .nil, P1⟩, ?_⟩
  rintro i m H ⟨rfl, hil, F1, ρ2, as, ws, s1, R1, ra, P2⟩
  by_cases hlt : i < ds.length
  · rw [List.drop_eq_getElem_cons hlt] at P2
    unfold compF at P2
    split at P2
    · exact P2.elim
    · rename_i ρ3 e3
      refine .inr ⟨it.goes i _ F1 ρ2 _ H (psub ws) R1 s1 hlt, fun H' => i + 1 ≤ ds.length ∧ ∃ F ρ as ws, Same G0 F ∧ Z.R (Y.aside Dd (.lst ws)) F ρ (wipe σ vs) H' ∧ Reps Z.X.K Z.X.mg F ws as ∧
        Post (BV Z Y σ Q) Z Y σ F (obind (compF h gt f vs (ds.drop (i + 1)) ρ as) fun out ρ2 => .ok (.fr (.lst out)) (restE vs ρ1 ρ2)), fun H' n => ⟨ds.length - (i + 1), by omega, rfl, n.1, n.2⟩, fun x H' y => ?_⟩
      obtain ⟨F2, x2, rx⟩ := it.yields i _ F1 ρ2 _ H x H' _ (psub ws) R1 s1 (List.getElem?_eq_getElem hlt) y
      have s12 := s1.trans x2.ff
      refine hg (Y.aside Dd (.lst ws)) F2 ρ2 (wipe σ vs) H' x _ _ ρ3 (by rw [eR]; exact R1.grow x2) (by rw [hK, hmg]; exact rx) e3 fun σ2 R2 w2 => ?_
      have w3 : wipe σ2 vs = wipe σ vs := by
        rw [w2 vs hsub]
        refine List.ext_getElem? fun j => ?_
        rw [wipe_eq, wipe_eq, wipe_length]
        split <;> rfl
      refine ⟨w3, ?_⟩
      rw [eR] at R2
      refine ht (Y.aside Dd (.lst ws)) F2 ρ3 σ2 H' _ (by rw [eR]; exact R2) ?_
      cases eg : gt ρ3 with
      | bad => rw [eg] at P2; exact P2
      | exn c w ρ4 => rw [eg] at P2; exact P2.elim
      | ok b ρ4 =>
        rw [eg] at P2
        simp only [noexn, obind_ok] at P2
        intro F4 H4 s4 R4
        rw [eR] at R4
        have s14 := s12.trans s4
        cases b with
        | false =>
          refine ⟨hlt, F4, wipeE ρ4 vs, as, ws, s14, ?_, ra.mono (x2.ff.trans s4), P2.mono (x2.ff.trans s4) fun v ρ q => bv_mono (x2.ff.trans s4) v ρ q⟩
          have R5 := R4.wipe vs
          rwa [w3] at R5
        | true =>
          rw [if_pos rfl]
          simp only [if_true] at P2
          refine he (Y.aside Dd (.lst ws)) F4 ρ4 σ2 H4 _ (by rw [eR]; exact R4) ?_
          cases ef : f ρ4 with
          | bad => rw [ef] at P2; exact P2
          | exn c w ρ5 => rw [ef] at P2; exact P2.elim
          | ok v ρ5 =>
            rw [ef] at P2
            simp only [noexn, obind_ok] at P2
            intro F5 H5 u s5 R5 k5
            rw [hK, hmg] at R5
            rw [hK, hmg] at k5
            split at P2
            · exact P2.elim
            · rename_i yd ρ6 e6
              obtain ⟨F6, s6, R6, r6⟩ := R5.esc k5 e6
              split at P2
              · rename_i hl
                obtain ⟨hD, _, _⟩ := R6.pin Dd _ upd_same
                have s26 := x2.ff.trans (s4.trans (s5.trans s6))
                refine ⟨ws, hD, by rw [ra.len]; exact hl, hlt, F6, wipeE ρ6 vs, as ++ [yd], ws ++ [u], s14.trans (s5.trans s6), ?_, (ra.mono s26).app (.cons r6 .nil), P2.mono s26 fun v ρ q => bv_mono s26 v ρ q⟩
                have R7 := Rel.asideUpd (o := .lst ws) (o' := .lst (ws ++ [u])) (fun _ z => nomatch z) (R6.wipe vs)
                rwa [w3] at R7
              · exact P2.elim
  · have e : i = ds.length := by omega
    subst e
    rw [List.drop_length] at P2
    refine .inl ⟨it.stops _ F1 ρ2 _ H (psub ws) R1 s1, ?_⟩
    obtain ⟨hD, nF, nH⟩ := R1.pinN (b := Dd) upd_same (fun _ z => nomatch z)
    have R2 := (R1.unaside nP)
    have R3 := R0.rest s1 R2
    refine P2 F1 H (.ref Dd) (Same.refl F1) R3 ⟨Dd, rfl, nF, nH, nP, fun j d' q z => ?_, ws, hD, ra⟩
    obtain ⟨p', e', _, _, _, o'⟩ := R3.slot j _ q
    rw [z] at e'; cases e'
    rcases restE_some q with y | ⟨_, _, _, y⟩ | ⟨hj, q⟩
    · cases y
    · cases y
    · obtain ⟨p2, e2, _, _, np2, _⟩ := R1.slot j _ q
      rw [wipe_out hj, z] at e2; cases e2
      have np3 : upd Y.P Dd (.lst ws) Dd = none := np2
      rw [upd_same] at np3; cases np3

theorem compF_noexn {h : D → Env → Option Env} {g : STst} {f : SE} {vs : List Nat} : ∀ (ds : List D) (ρ : Env) (acc : List D) (c : Str) (w : D) (ρ' : Env), compF h g f vs ds ρ acc ≠ .exn c w ρ'
  | [], ρ, acc, c, w, ρ', e => by unfold compF at e; cases e
  | d :: ds, ρ, acc, c, w, ρ', e => by
    unfold compF at e
    split at e
    · cases e
    · rename_i ρ1 _
      cases eg : g ρ1 with
      | bad => rw [eg] at e; cases e
      | exn _ _ _ => rw [eg] at e; cases e
      | ok b ρ2 =>
        rw [eg] at e
        simp only [noexn, obind_ok] at e
        split at e
        · cases ef : f ρ2 with
          | bad => rw [ef] at e; cases e
          | exn _ _ _ => rw [ef] at e; cases e
          | ok v ρ3 =>
            rw [ef] at e
            simp only [noexn, obind_ok] at e
            split at e
            · cases e
            · split at e
              · exact compF_noexn ds _ _ c w ρ' e
              · cases e
        · exact compF_noexn ds _ _ c w ρ' e
/-- a list in a slot is put aside -/
theorem Rel.pinS {K : PySem.W.Frag} {mg : Str → Option Value} {i : Nat} {p : Addr} {o : HO} {d : D} (R : Rel K mg Y F ρ σ H) (hi : ρ[i]? = some (.own d)) (hv : σ[i]? = some (some (.ref p))) (ho : H p = some o) (nF : F p = none) (nH : Y.H0 p = none) (nP : Y.P p = none) : Rel K mg (Y.aside p o) F (ρ.set i .no) σ H := by
  refine ⟨R.ext, R.a0, fun j s hs => ?_, fun a b q d e h1 h2 h3 h4 => ?_, fun j d z => ?_, fun b u e => ?_, by rw [List.length_set]; exact R.len⟩
  · rcases get_set hs with ⟨rfl, rfl⟩ | ⟨hj, hs⟩
    · trivial
    · have q := R.slot j s hs
      cases s with
      | no => trivial
      | sh d => exact q
      | own d' =>
        obtain ⟨p', e, a1, a2, a3, a4⟩ := q
        have ne : p' ≠ p := fun z => by
          subst z
          exact hj (R.sep j i p' d' d hs hi e hv)
        exact ⟨p', e, a1, a2, by show upd Y.P p o p' = none; rw [upd_ne ne]; exact a3, a4⟩
      | par d' =>
        obtain ⟨p', e, a1, a2, a3, a4⟩ := q
        have ne : p' ≠ p := fun z => by
          subst z
          exact R.a0 _ a2 nH
        exact ⟨p', e, a1, a2, by show upd Y.P p o p' = none; rw [upd_ne ne]; exact a3, a4⟩
  · rcases get_set h1 with ⟨_, z⟩ | ⟨_, h1⟩
    · cases z
    · rcases get_set h2 with ⟨_, z⟩ | ⟨_, h2⟩
      · cases z
      · exact R.sep a b q d e h1 h2 h3 h4
  · rcases get_set z with ⟨_, z⟩ | ⟨_, z⟩
    · cases z
    · exact R.par j d z
  · have e' : upd Y.P p o b = some u := e
    by_cases hb : b = p
    · subst hb
      rw [upd_same] at e'; cases e'
      exact ⟨ho, .inl nF, nH⟩
    · rw [upd_ne hb] at e'
      exact R.pin b u e'
theorem Rel.unpinS {K : PySem.W.Frag} {mg : Str → Option Value} {i : Nat} {p : Addr} {o : HO} {d : D} (R : Rel K mg (Y.aside p o) F ρ σ H) (nt : ∀ xs, o ≠ HO.tup xs) (hv : σ[i]? = some (some (.ref p))) (nP : Y.P p = none) (od : Own K mg F H p d) : Rel K mg Y F (ρ.set i (.own d)) σ H := by
  obtain ⟨ho, nF, nH⟩ := R.pinN (b := p) (o := o) upd_same nt
  have pn : ∀ {q}, upd Y.P p o q = none → Y.P q = none ∧ q ≠ p := fun {q} e => by
    have ne : q ≠ p := fun z => by rw [z, upd_same] at e; cases e
    rw [upd_ne ne] at e
    exact ⟨e, ne⟩
  refine ⟨R.ext, R.a0, fun j s hs => ?_, fun a b q d1 e1 h1 h2 h3 h4 => ?_, fun j d z => ?_, fun b u e => ?_, by rw [List.length_set]; exact R.len⟩
  · rcases get_set hs with ⟨rfl, rfl⟩ | ⟨hj, hs⟩
    · exact ⟨p, hv, nF, nH, nP, od⟩
    · have q := R.slot j s hs
      cases s with
      | no => trivial
      | sh d => exact q
      | own d' =>
        obtain ⟨p', e, a1, a2, a3, a4⟩ := q
        exact ⟨p', e, a1, a2, (pn a3).1, a4⟩
      | par d' =>
        obtain ⟨p', e, a1, a2, a3, a4⟩ := q
        exact ⟨p', e, a1, a2, (pn a3).1, a4⟩
  · have other : ∀ (j : Nat) d', ρ[j]? = some (.own d') → σ[j]? = some (some (.ref p)) → False := fun j d' hj hj2 => by
      obtain ⟨p', e, _, _, a3, _⟩ := R.slot j _ hj
      rw [hj2] at e; cases e
      exact (pn a3).2 rfl
    rcases get_set h1 with ⟨e5, z1⟩ | ⟨_, k1⟩
    · rcases get_set h2 with ⟨e6, _⟩ | ⟨_, k2⟩
      · rw [e5, e6]
      · rw [e5, hv] at h3; cases h3
        exact (other _ _ k2 h4).elim
    · rcases get_set h2 with ⟨e6, _⟩ | ⟨_, k2⟩
      · rw [e6, hv] at h4; cases h4
        exact (other _ _ k1 h3).elim
      · exact R.sep a b q d1 e1 k1 k2 h3 h4
  · rcases get_set z with ⟨_, z⟩ | ⟨_, z⟩
    · cases z
    · exact R.par j d z
  · exact R.pin b u (show upd Y.P p o b = some u by rw [upd_ne (fun z => by rw [z, nP] at e; cases e)]; exact e)
/-- a comprehension over the name in slot i -/
def vCompO (i : Nat) (h : D → Env → Option Env) (g : STst) (f : SE) (vs : List Nat) : SE := fun ρ => match ρ[i]? with
  | some (.own (.lst ds)) => if i ∈ vs then vComp (vItA (vName i)) h g f vs ρ else obind (compF h g f vs ds (wipeE (ρ.set i .no) vs) []) fun out ρ2 => .ok (.fr (.lst out)) ((restE vs ρ ρ2).set i (.own (.lst ds)))
  | _ => vComp (vItA (vName i)) h g f vs ρ
theorem rest_set {vs : List Nat} {i : Nat} {s s' : Slot} (hi : i ∉ vs) (ρ ρ2 : Env) : (restE vs ρ ρ2).set i s = (restE vs (ρ.set i s') ρ2).set i s := by
  refine List.ext_getElem? fun j => ?_
  rw [List.getElem?_set, List.getElem?_set]
  have el : (restE vs ρ ρ2).length = (restE vs (ρ.set i s') ρ2).length := by
    unfold restE
    rw [List.length_map, List.length_map, List.length_range, List.length_range, List.length_set]
  rw [el]
  by_cases hj : i = j
  · rw [if_pos hj, if_pos hj]
  · rw [if_neg hj, if_neg hj]
    unfold restE
    rw [List.length_set, List.getElem?_map, List.getElem?_map]
    cases hq : (List.range ρ.length)[j]? with
    | none => rfl
    | some k =>
      have ek : k = j := by
        obtain ⟨_, h4⟩ := List.getElem?_eq_some_iff.mp hq
        simpa using h4.symm
      subst ek
      rw [Option.map_some, Option.map_some, List.getElem?_set_ne hj]
theorem re_compO {gs vs : List Nat} {i : Nat} {g : TG} {h : D → Env → Option Env} {tt : TT} {gt : STst} {te : TE} {f : SE} (Zb : Ctx) (hK : Zb.X.K = Z.X.K) (hmg : Zb.X.mg = Z.X.mg) (hW : Zb.W = fun _ _ _ _ => False) (hsub : ∀ i ∈ gs, i ∈ vs) (hg : RG Zb gs g h) (ht : RT' Zb tt gt) (he : RE Zb te f) :
    RE Z (tLc (iAny Z.X.K (tVar i)) g tt te vs) (vCompO i h gt f vs) := by
  have old := re_comp (wi := iAny Z.X.K (tVar i)) (src := vItA (vName i)) (Z := Z) Zb hK hmg hW hsub (ri_any (re_name i)) hg ht he
  intro Y F ρ σ H Q R P
  unfold vCompO at P
  split at P
  · rename_i ds hi
    split at P
    · exact old Y F ρ σ H Q R P
    · rename_i hiv
      obtain ⟨p, e1, nF, nH, nP, xs, hp, rxs⟩ := R.slot i _ hi
      have Rp := R.pinS hi e1 hp nF nH nP
      have it : IterR Z (Y.aside p (.lst xs)) (Itl Z.X.K p) ds F := by
        have at_ : ∀ {Y' : Ent} {F' : Hp} {ρ' : Env} {σ' : L2.St} {L' : Hp}, (∀ b o, (Y.aside p (.lst xs)).P b = some o → Y'.P b = some o) → Z.R Y' F' ρ' σ' L' → L' p = some (.lst xs) := fun hs R' => (R'.pin p _ (hs p _ upd_same)).1
        refine ⟨fun j Y' F' ρ' σ' L' hs R' s hj => ⟨xs, xs[j]'(by rw [rxs.len]; exact hj), SqL.of (at_ hs R'), by simp [rxs.len, hj]⟩, fun Y' F' ρ' σ' L' hs R' s => ⟨xs, SqL.of (at_ hs R'), by rw [rxs.len]; exact Nat.le_refl _⟩, fun j Y' F' ρ' σ' L' x L2 d hs R' s hd y => ?_⟩
        obtain ⟨e, y⟩ := y
        subst e
        obtain ⟨x', h1, h2⟩ := rxs.get hd
        have e2 := y xs (SqL.of (at_ hs R'))
        rw [h1] at e2; cases e2
        exact ⟨F', Ext.refl R'.fh, h2.mono s⟩
      refine ⟨.ref p, e1, p, rfl, .inl ⟨⟨xs, SqL.of hp⟩, comp_core (Z := Z) Zb hK hmg hW hsub hg ht he Rp it ?_⟩⟩
      cases ec : compF h gt f vs ds (wipeE (ρ.set i .no) vs) [] with
      | bad => rw [ec] at P; exact P
      | exn c w ρ2 => exact absurd ec (compF_noexn ds _ _ c w ρ2)
      | ok out ρ2 =>
        rw [ec] at P
        simp only [obind_ok] at P ⊢
        intro G L v s RG k
        obtain ⟨q, rfl, q1, q2, q3, q4, q5⟩ := k
        obtain ⟨hL, _, _⟩ := RG.pinN (b := p) (o := .lst xs) upd_same (fun _ z => nomatch z)
        have R2 := RG.unpinS (i := i) (d := .lst ds) (fun _ z => nomatch z) e1 nP ⟨xs, hL, rxs.mono s⟩
        have q3' : upd Y.P p (.lst xs) q = none := q3
        have qp : q ≠ p := fun z => by rw [z, upd_same] at q3'; cases q3'
        rw [upd_ne qp] at q3'
        rw [rest_set hiv ρ ρ2 (s' := .no)] at P
        refine P G L (.ref q) s R2 ⟨q, rfl, q1, q2, q3', fun j d' hj => ?_, q5⟩
        rcases get_set hj with ⟨rfl, _⟩ | ⟨_, hj⟩
        · rw [e1]
          intro z
          cases z
          exact qp rfl
        · exact q4 j d' hj
  · exact old Y F ρ σ H Q R P
end
end VL
/-! VRM: list.remove of tuples and the like -/
namespace VL
open PySem PySem.Spec PyProof.Rows L2
def rRemD (K : PySem.W.Frag) : V → List V → Hp → VK → Prop := fun x xs H Q => ∃ (l : Addr) (ys : List V) (y : V) (d : PyData) (ds : List PyData) (j : Nat), x = .ref l ∧ xs = [y] ∧ H l = some (.lst ys) ∧ Dp K H (.ref l) (.list ds) ∧ Dp K H y d ∧
  SeqAt.shaped (.list ds) = true ∧ SeqAt.shaped d = true ∧ SeqAt.dataPlace ds d = some j ∧ Q .non (upd H l (.lst (ys.eraseIdx j)))
theorem mt_removeD {X : Cx} (hu : X.A.units + 65 < cLine) : MtR X "list.remove" (rRemD X.K) := by
  intro pins s σ H x xs v us Q I rx rxs h
  obtain ⟨l, ys, y, d, ds, j, rfl, rfl, hH, hl, hy, sl, sd, hj, q⟩ := h
  cases rx
  obtain ⟨u, rfl, ru⟩ := rxs.one
  obtain ⟨bs, r1⟩ := Dp.reads I d y u hy ru
  obtain ⟨zz, its, n, r, hlen, e⟩ := I.lstM hH
  have hroom : X.A.units + 1 + min (PyData.depthAll ds) d.depth < cLine := room_in_shaped sd hu
  cases hl with
  | lst hs ha =>
    have hs2 : H l = some (.lst ys) := hH
    obtain ⟨its2, rv, hpl, hz2⟩ := I.list hs
    obtain ⟨⟨cls, dd, data, sls⟩, n2, ho, hc, hdn, hdt⟩ := hpl
    have eo : its = its2 := by
      have e3 := e.symm.trans ho
      have e4 := congrArg Obj.data (Option.some.inj e3)
      simp only at hdt
      rw [hdt] at e4
      injection e4 with e5 _
      simpa using e5
    subst eo
    obtain ⟨as, h4⟩ := Dp.readsAll I ds _ its ha rv
    refine SeqAt.remove_list_data (vs := its.toArray) (xs := ds) (d := d) (j := j) ⟨_, e, rfl, n, rfl⟩ (by simpa using h4) r1 (PyData.plainAll_of_canLay0 ds (SeqAt.canLay_of_shaped sl)) (PyData.plain_of_canLay0 d (SeqAt.canLay_of_shaped sd)) hroom hj (by rw [List.size_toArray]; omega) ?_
    have z2 : (ys.eraseIdx j).length ≤ ys.length := List.length_eraseIdx_le ys j
    refine ⟨.non, _, I.lset (its' := its.eraseIdx j) (t' := s.toks) hH e ?_ (r.eraseIdx j) (by omega), rfl, q⟩
    show its.toArray.eraseIdxIfInBounds j = (its.eraseIdx j).toArray
    rw [List.eraseIdxIfInBounds_toArray]
theorem MtR.or2 {X : Cx} {id : String} {r r' : V → List V → Hp → VK → Prop} (h : MtR X id r) (h' : MtR X id r') : MtR X id (fun x xs H Q => r x xs H Q ∨ r' x xs H Q) :=
  fun pins s σ H x xs v us Q I rx rxs z => z.elim (h pins s σ H x xs v us Q I rx rxs) (h' pins s σ H x xs v us Q I rx rxs)
def mRemoveB : D → List D → Option (D × D)
  | .lst ds, [x] => match mRemove (.lst ds) [x] with
    | some r => some r
    | none => match toPs ds, x.toP with
      | some ps, some p => if SeqAt.shaped (.list ps) && SeqAt.shaped p then (SeqAt.dataPlace ps p).map fun j => (.non, .lst (ds.eraseIdx j)) else none
      | _, _ => none
  | _, _ => none
section
variable {K : PySem.W.Frag} {mg : Str → Option Value}
theorem remove_removeB : OpMut K mg (fun x xs H Q => rRemI x xs H Q ∨ rRemD K x xs H Q) mRemoveB := by
  intro F H p c xs ds d c' Q s n o r e q
  unfold mRemoveB at e
  split at e
  · rename_i ds' x
    split at e
    · rename_i rr hr
      cases e
      exact .inl (remove_remove F H p _ xs _ d c' Q s n o r hr q)
    · split at e
      · rename_i ps pp h1 h2
        split at e
        · rename_i hs
          obtain ⟨j, hj, e2⟩ := Option.map_eq_some_iff.mp e
          cases e2
          rw [Bool.and_eq_true] at hs
          have oo := o
          obtain ⟨ys, h, z⟩ := o
          cases r with
          | cons r0 rr =>
            cases rr
            have dl : Dp K H (.ref p) (.list ps) := ((RT.mu oo).rep s).dp (by simp only [D.toP, h1, Option.map_some])
            exact .inr ⟨p, ys, _, pp, ps, j, rfl, rfl, h, dl, (r0.mono s).dp h2, hs.1, hs.2, hj, q _ _ ⟨_, upd_same, z.eraseIdx j⟩ .non⟩
        · cases e
      · cases e
  · cases e
end
end VL
/-! VNS1: sets of nested tuples of ints: small questions, the search -/
namespace VL.NS
open PySem PySem.Spec PyProof.Rows L2
mutual
def nums : NestedKey → Bool
  | .num _ => true
  | .tup ks => numsAll ks
  | .none => false
  | .text _ => false
def numsAll : List NestedKey → Bool
  | [] => true
  | k :: ks => nums k && numsAll ks
end
/-- the key k stands at a -/
structure At (h : Heap) (k : NestedKey) (a : Addr) : Prop where
  is : NestedIs h k (.ref a)
  deep : k.depth ≤ 8
  num : nums k = true
section
variable {P : Program} {w : World} {A : Around} {E : Value → Shared → Prop} {s : Shared}
theorem At.kd {h : Heap} {k : NestedKey} {a : Addr} (x : At h k a) : (nestedKind P w).is h k a := ⟨x.is, x.deep⟩
theorem At.move {h h' : Heap} {k : NestedKey} {a : Addr} (x : At h k a) (f : ∀ b o vs n, h.get? b = some o → o.data = .seq vs n → h'.get? b = some o) : At h' k a := ⟨NestedIs.at f _ _ x.is, x.deep, x.num⟩
theorem At.keep {h h' : Heap} {k : NestedKey} {a : Addr} (x : At h k a) (f : ∀ b o, h.get? b = some o → h'.get? b = some o) : At h' k a := x.move fun b o _ _ e _ => f b o e
/-- a question over all items of a tuple, answered without a change -/
theorem each_item {β : Type} {items : Array Value} {body : Value → Option β × PUnit → Sem (ForInStep (Option β × PUnit))} {Q : Option β × PUnit → Shared → Prop} (hb : ∀ v ∈ items.toList, ∀ r : PUnit, ∀ R : ForInStep (Option β × PUnit) → Shared → Prop, R (.yield (none, r)) s → wpAny (model P w) A (body v (none, r)) R E s)
    (h : ∀ r, Q (none, r) s) : ∀ r, wpAny (model P w) A (forIn items (none, r) body) Q E s := by
  intro r
  rw [← Array.forIn_toList]
  refine wpAny_forIn_list _ (fun rest z u => z.1 = none ∧ u = s ∧ ∀ v ∈ rest, v ∈ items.toList) _ (fun v rest z u q => ?_) (fun z u q => ?_) _ _ ⟨rfl, rfl, fun v hv => hv⟩
  · obtain ⟨z1, z2⟩ := z
    obtain ⟨q1, rfl, q3⟩ := q
    cases q1
    exact hb v (q3 v List.mem_cons_self) z2 _ ⟨rfl, rfl, fun x hx => q3 x (List.mem_cons_of_mem _ hx)⟩
  · obtain ⟨z1, z2⟩ := z
    obtain ⟨q1, rfl, _⟩ := q
    cases q1
    exact h z2
mutual
theorem no_class : ∀ (k : NestedKey) (v : Value) (n : Nat) (s : Shared), NestedIs s.heap k v → k.depth ≤ n → ∀ (A : Around) (E : Value → Shared → Prop) (Q : Bool → Shared → Prop), Q false s → wpAny (model P w) A (ofAClassStatement n v) Q E s
  | .none, _, n, s, x, _, A, E, Q, q => by cases x; cases n <;> exact wpAny_pure q
  | .num i, _, n, s, x, _, A, E, Q, q => by cases x <;> cases n <;> exact wpAny_pure q
  | .text y, _, n, s, x, _, A, E, Q, q => by cases x; cases n <;> exact wpAny_pure q
  | .tup ks, _, n, s, x, hn, A, E, Q, q => by
    cases x with
    | tup hg hc hd hk =>
      simp only [NestedKey.depth] at hn
      cases n with
      | zero => omega
      | succ n =>
        have sub := no_classes ks _ n s hk (by omega)
        unfold ofAClassStatement
        refine wpAny_bind (wpAny_typeOf (T := "tuple") ⟨_, hg, hc⟩ ?_)
        dsimp only
        rw [if_pos (show (("tuple" : String) == "tuple") = true by decide)]
        refine wpAny_bind (wpAny_pure ?_)
        rw [if_neg (by simp)]
        refine wpAny_bind (wpAny_seqItems hg hd ?_)
        dsimp only
        refine wpAny_bind (each_item (β := Bool) (fun v hv r R hR => ?_) (fun r => ?_) _)
        · refine wpAny_bind (sub v hv _ _ _ ?_)
          rw [if_neg Bool.false_ne_true]
          exact wpAny_pure hR
        · exact wpAny_pure q
theorem no_classes : ∀ (ks : List NestedKey) (vs : List Value) (n : Nat) (s : Shared), NestedAll s.heap ks vs → NestedKey.depthAll ks ≤ n → ∀ v ∈ vs, ∀ (A : Around) (E : Value → Shared → Prop) (Q : Bool → Shared → Prop), Q false s → wpAny (model P w) A (ofAClassStatement n v) Q E s
  | [], _, n, s, x, _ => by cases x; intro v hv; cases hv
  | k :: ks, _, n, s, x, hn => by
    cases x with
    | cons x1 x2 =>
      simp only [NestedKey.depthAll] at hn
      intro v hv
      rcases List.mem_cons.mp hv with rfl | hv
      · exact no_class k _ n s x1 (by omega)
      · exact no_classes ks _ n s x2 (by omega) v hv
end
mutual
theorem by_value : ∀ (k : NestedKey) (v : Value) (n : Nat) (s : Shared), NestedIs s.heap k v → nums k = true → k.depth ≤ n → ∀ (A : Around) (E : Value → Shared → Prop) (Q : Bool → Shared → Prop), Q true s → wpAny (model P w) A (hashByValue n v) Q E s
  | .none, _, n, s, x, hm, _, A, E, Q, q => by cases hm
  | .num i, _, n, s, x, _, _, A, E, Q, q => by cases x <;> cases n <;> exact wpAny_pure q
  | .text y, _, n, s, x, hm, _, A, E, Q, q => by cases hm
  | .tup ks, _, n, s, x, hm, hn, A, E, Q, q => by
    cases x with
    | tup hg hc hd hk =>
      simp only [NestedKey.depth] at hn
      cases n with
      | zero => omega
      | succ n =>
        have sub := by_values ks _ n s hk hm (by omega)
        unfold hashByValue
        refine wpAny_bind (wpAny_specialOf (T := "tuple") ⟨_, hg, hc⟩ F.slot_tuple_hash.lookup ?_)
        dsimp only
        show wpAny _ _ (seqItems? _ >>= _) _ _ s
        refine wpAny_bind (wpAny_seqItems hg hd ?_)
        refine wpAny_bind (each_item (β := Bool) (fun v hv r R hR => ?_) (fun r => ?_) _)
        · refine wpAny_bind (sub v hv _ _ _ ?_)
          rw [if_neg (by simp)]
          exact wpAny_pure hR
        · exact wpAny_pure q
theorem by_values : ∀ (ks : List NestedKey) (vs : List Value) (n : Nat) (s : Shared), NestedAll s.heap ks vs → numsAll ks = true → NestedKey.depthAll ks ≤ n → ∀ v ∈ vs, ∀ (A : Around) (E : Value → Shared → Prop) (Q : Bool → Shared → Prop), Q true s → wpAny (model P w) A (hashByValue n v) Q E s
  | [], _, n, s, x, _, _ => by cases x; intro v hv; cases hv
  | k :: ks, _, n, s, x, hm, hn => by
    cases x with
    | cons x1 x2 =>
      simp only [NestedKey.depthAll] at hn
      obtain ⟨m1, m2⟩ := Bool.and_eq_true_iff.mp (show (nums k && numsAll ks) = true from hm)
      intro v hv
      rcases List.mem_cons.mp hv with rfl | hv
      · exact by_value k _ n s x1 m1 (by omega)
      · exact by_values ks _ n s x2 m2 (by omega) v hv
end
/-- asking over stored keys tells nothing -/
theorem unseen {k : NestedKey} {b : Addr} (x : At s.heap k b) {ys : List Value} (hy : ∀ y ∈ ys, ∃ k' c, y = Value.ref c ∧ At s.heap k' c) {Q : Bool → Shared → Prop} (q : Q false s) : wpAny (model P w) A (searchCouldBeSeen (.ref b) ys) Q E s := by
  unfold searchCouldBeSeen
  refine wpAny_bind (wpAny_forIn_list _ (fun rest z u => z.1 = none ∧ u = s ∧ ∀ y ∈ rest, y ∈ ys) _ (fun v rest z u qq => ?_) (fun z u qq => ?_) _ _ ⟨rfl, rfl, fun v hv => hv⟩)
  · obtain ⟨z1, z2⟩ := z
    obtain ⟨q1, rfl, q3⟩ := qq
    cases q1
    obtain ⟨k', c, rfl, x'⟩ := hy v (q3 v List.mem_cons_self)
    have on : ∀ y ∈ rest, y ∈ ys := fun y h => q3 y (List.mem_cons_of_mem _ h)
    dsimp only
    by_cases hv : (b == c || (carriedByValue (.ref b) && carriedByValue (.ref c))) = true
    · rw [if_pos hv]
      exact wpAny_pure ⟨rfl, rfl, on⟩
    · rw [if_neg hv]
      refine wpAny_bind (quiet_key _ _ 8 _ x.is x.deep _ _ _ ?_)
      rw [if_neg (by simp)]
      refine wpAny_bind (quiet_key _ _ 8 _ x'.is x'.deep _ _ _ ?_)
      rw [if_neg (by simp)]
      refine wpAny_bind (no_class _ _ 8 _ x.is x.deep _ _ _ ?_)
      rw [if_neg (by simp)]
      refine wpAny_bind (no_class _ _ 8 _ x'.is x'.deep _ _ _ ?_)
      rw [if_neg (by simp)]
      exact wpAny_pure ⟨rfl, rfl, on⟩
  · obtain ⟨z1, z2⟩ := z
    obtain ⟨q1, rfl, _⟩ := qq
    cases q1
    exact wpAny_pure q
end
end VL.NS
/-! VNS2: sets of nested tuples of ints: the search, adding -/
namespace VL.NS
open PySem PySem.Spec PyProof.Rows L2
abbrev Row := Addr × NestedKey
abbrev hk (w : World) (p : Row) : Int := NestedKey.hash w p.2
def ent (w : World) (p : Row) : Int × Value := (hk w p, .ref p.1)
structure SN (w : World) (h : Heap) (a : Addr) (L : List Row) (es : Array (Int × Value)) (ep : Nat) (t : SetTable) : Prop where
  obj : ∃ o, h.get? a = some o ∧ o.ExactSet ∧ o.data = .set es ep t
  ents : es.toList = L.map (ent w)
  tab : TabOk t (L.map (hk w))
  uniq : (L.map (·.2)).Nodup
  keys : ∀ p ∈ L, At h p.2 p.1
  plain : t.plain = true
  led : w.params.followText "set-order" = true ∨ t.led = true
  room : L.length * 5 < t.mask * 3
  few : L.length < 64
theorem len_ents {w : World} {es : Array (Int × Value)} {L : List Row} (h : es.toList = L.map (ent w)) : es.size = L.length := by
  rw [← Array.length_toList, h, List.length_map]
theorem at_ents {w : World} {es : Array (Int × Value)} {L : List Row} (h : es.toList = L.map (ent w)) {i : Nat} {p : Row} (e : L[i]? = some p) : es[i]? = some (hk w p, .ref p.1) := by
  rw [← Array.getElem?_toList, h, List.getElem?_map, e]
  rfl
section
variable {P : Program} {w : World} {A : Around} {E : Value → Shared → Prop} {s : Shared} {a : Addr} {L : List Row} {es : Array (Int × Value)} {ep : Nat} {t : SetTable}
theorem fits_of (h1 : t.place.size = es.size) (h2 : t.dummies = #[]) (h3 : es.size ≤ t.mask) : t.fits es.size = true := by
  simp only [SetTable.fits, SetTable.fill, h2, h1, Bool.and_eq_true, beq_iff_eq, decide_eq_true_eq]
  exact ⟨trivial, by simpa using h3⟩
theorem SN.sz (R : SN w s.heap a L es ep t) : t.place.size = L.length := by
  have := R.tab.sz
  rwa [List.length_map] at this
theorem SN.fits (R : SN w s.heap a L es ep t) : t.fits es.size = true := by
  have h1 := len_ents R.ents
  have h2 := R.room
  exact fits_of (by rw [h1, R.sz]) R.tab.dm (by omega)
/-- the n-th stand of a search -/
abbrev stand (t : SetTable) (h : Int) (n : Nat) : SetTable.Probe := nth t.mask (runAt t.mask (SetTable.bits h % (t.mask + 1)) (SetTable.bits h)) n
theorem dum_nth (m : Nat) : ∀ (n : Nat) (p : SetTable.Probe), p.dummy = none → (nth m p n).dummy = none
  | 0, p, h => h
  | n + 1, p, h => dum_nth m n (adv m p) (by unfold adv; split <;> exact h)
theorem seek (R : SN w s.heap a L es ep t) {x : Addr} {k : NestedKey} (hx : At s.heap k x) (hu : A.units + 8 < cLine) {K : Nat} (big : K < 10 * SetTable.turns t.mask) (free : way t.mask (k.hash w) K ∉ t.place.toList) (full : ∀ c, c < K → way t.mask (k.hash w) c ∈ t.place.toList)
    {Q : SetFound → Shared → Prop} (yes : k ∈ L.map (·.2) → Q (.there none) s) (no : k ∉ L.map (·.2) → Q (.free (way t.mask (k.hash w) K) false) s) :
    ∀ (f c : Nat) (st : Option SetTable.Probe), st.getD (t.probeStart (k.hash w)) = stand t (k.hash w) c → c ≤ K → K - c < f →
      (∀ (i : Nat) p, L[i]? = some p → p.2 = k → ∃ c', c ≤ c' ∧ c' < K ∧ t.place.toList[i]? = some (way t.mask (k.hash w) c')) →
      wpAny (model P w) A (setSearchFrom a (.ref x) (k.hash w) true f st) Q E s := by
  intro f
  induction f with
  | zero => exact fun c st _ _ h => absurd h (Nat.not_lt_zero _)
  | succ f ih =>
    intro c st hst hc hf met
    obtain ⟨o, ho, hex, hd⟩ := R.obj
    have step : ∀ q, nth t.mask (stand t (k.hash w) c) q = stand t (k.hash w) (c + q) := fun q => (nth_add t.mask c _ q).symm
    have wj : ∀ q, (nth t.mask (stand t (k.hash w) c) q).j = way t.mask (k.hash w) (c + q) := fun q => congrArg (·.j) (step q)
    have cK : c + (K - c) = K := Nat.add_sub_cancel' hc
    have sp := go_spec t R.tab.ris R.tab.dm (fun i => (es[i]?.map (·.1)).getD 0) (k.hash w) (10 * SetTable.turns t.mask) (K - c) (stand t (k.hash w) c) (dum_nth _ _ _ rfl) (by omega) (fun q hq => by rw [wj]; exact full _ (by omega)) (by rw [wj, cK]; exact free)
    have hsh : ∀ (i : Nat) p, L[i]? = some p → (es[i]?.map (·.1)).getD 0 = hk w p := fun i p e => by rw [at_ents R.ents e]; rfl
    rw [setSearchFrom_succ]
    refine wpAny_bind (wpAny_setState_of ho hd R.fits ?_)
    dsimp only
    have gw : t.gaveWay = false := by
      have := mask_odd R.tab.mok
      unfold SetTable.gaveWay
      rw [this]
      decide
    rw [gw, if_neg Bool.false_ne_true]
    try refine wpAny_bind (wpAny_pure ?_)
    rcases sp with ⟨q, i, hq, hi, hh, before, pr⟩ | ⟨before, pr⟩
    · have pr2 : t.probe (fun i => (es[i]?.map (·.1)).getD 0) (k.hash w) (st.getD (t.probeStart (k.hash w))) = some (.candidate (way t.mask (k.hash w) (c + q)) i (stand t (k.hash w) (c + (q + 1)))) := by
        rw [hst, ← wj, ← step]
        exact pr
      rw [pr2]
      dsimp only
      rw [wj] at hi
      have hil : i < L.length := by
        have h1 := (List.getElem?_eq_some_iff.mp hi).1
        rw [Array.length_toList, R.sz] at h1
        exact h1
      obtain ⟨p, hp⟩ : ∃ p, L[i]? = some p := ⟨_, List.getElem?_eq_getElem hil⟩
      have hpL := List.mem_of_getElem? hp
      have hpa := R.keys p hpL
      have live := slot_live R.tab.ris hi
      have rest : wpAny (model P w) A (searchRest a (.ref x) (k.hash w) true f es t (way t.mask (k.hash w) (c + q)) i (stand t (k.hash w) (c + (q + 1)))) Q E s := by
        unfold searchRest
        rw [at_ents R.ents hp]
        dsimp only
        refine wpAny_bind (wpAny_holding ((nestedKind P w).eqBool (x := p.2) (y := k) hu hpa.kd hx.kd ?_))
        refine wpAny_bind (wpAny_setState_of ho hd R.fits ?_)
        dsimp only
        by_cases same : p.2 = k
        · rw [if_pos (by simp [same])]
          exact wpAny_pure (yes (List.mem_map.mpr ⟨p, hpL, same⟩))
        · rw [if_neg (by simp [same])]
          try refine wpAny_bind (wpAny_pure ?_)
          rw [sameMem]
          dsimp only
          simp only [if_true, live, at_ents R.ents hp]
          refine wpAny_bind (wpAny_isSame_ref_self (wpAny_bind (wpAny_pure ?_)))
          simp only [if_true]
          rw [if_neg (by simp [same])]
          refine ih (c + (q + 1)) _ rfl (by omega) (by omega) fun i2 p2 e2 k2 => ?_
          obtain ⟨c', g1, g2, g3⟩ := met i2 p2 e2 k2
          refine ⟨c', Classical.byContradiction fun z => ?_, g2, g3⟩
          by_cases lt : c' < c + q
          · exact before (c' - c) i2 (by omega) (by rw [wj, Nat.add_sub_cancel' g1]; exact g3) ((hsh i2 p2 e2).trans (congrArg (NestedKey.hash w) k2))
          · have ec : c' = c + q := by omega
            rw [ec] at g3
            have l2 := (slot_live R.tab.ris g3).symm.trans live
            injection l2 with l2
            rw [l2, hp] at e2
            cases e2
            exact same k2
      by_cases hl : t.led = true
      · rw [if_neg (by simp [hl])]
        try refine wpAny_bind (wpAny_pure ?_)
        exact rest
      · rw [if_pos (by simp [hl])]
        refine wpAny_bind (unseen hx (fun y hy => ?_) ?_)
        · obtain ⟨e, he, rfl⟩ := List.mem_map.mp hy
          have he1 : e ∈ es.toList := by
            have : e ∈ es ∧ e.1 = k.hash w := by simpa using he
            simpa using this.1
          rw [R.ents] at he1
          obtain ⟨p2, hp2, rfl⟩ := List.mem_map.mp he1
          exact ⟨p2.2, p2.1, rfl, R.keys p2 hp2⟩
        · rw [if_neg Bool.false_ne_true]
          try refine wpAny_bind (wpAny_pure ?_)
          exact rest
    · have pr2 : t.probe (fun i => (es[i]?.map (·.1)).getD 0) (k.hash w) (st.getD (t.probeStart (k.hash w))) = some (.empty (way t.mask (k.hash w) K) none) := by
        have := wj (K - c)
        rw [cK] at this
        rw [hst, ← this]
        exact pr
      rw [pr2]
      dsimp only
      refine wpAny_pure (no fun hm => ?_)
      obtain ⟨p, hp, e⟩ := List.mem_map.mp hm
      obtain ⟨i, hi⟩ := List.mem_iff_getElem?.mp hp
      obtain ⟨c', g1, g2, g3⟩ := met i p hi e
      exact before (c' - c) i (by omega) (by rw [wj, Nat.add_sub_cancel' g1]; exact g3) ((hsh i p hi).trans (congrArg (NestedKey.hash w) e))
theorem seek0 (R : SN w s.heap a L es ep t) {x : Addr} {k : NestedKey} (hx : At s.heap k x) (hu : A.units + 8 < cLine) {Q : SetFound → Shared → Prop} (yes : k ∈ L.map (·.2) → Q (.there none) s)
    (no : ∀ K, k ∉ L.map (·.2) → way t.mask (k.hash w) K ∉ t.place.toList → (∀ c, c < K → way t.mask (k.hash w) c ∈ t.place.toList) → Q (.free (way t.mask (k.hash w) K) false) s) : wpAny (model P w) A (setSearch a (.ref x) (k.hash w) true) Q E s := by
  have room := R.room
  obtain ⟨K, b1, b2, b3⟩ := R.tab.first (by rw [List.length_map]; omega) (k.hash w)
  have few : 10 * SetTable.turns t.mask ≤ 1420 := by
    unfold SetTable.turns
    rcases R.tab.mok with e | e | e <;> rw [e] <;> omega
  unfold setSearch
  refine seek R hx hu b1 b2 b3 yes (fun z => no K z b2 b3) 100000 0 none rfl (Nat.zero_le _) (by omega) fun i p hp hkk => ?_
  have hj : i < t.place.toList.length := by
    rw [Array.length_toList, R.sz]
    exact (List.getElem?_eq_some_iff.mp hp).1
  obtain ⟨c, hc, e⟩ := R.tab.before (h := k.hash w) b2 (i := i) (by rw [List.getElem?_map, hp, ← hkk]; rfl) (List.getElem?_eq_getElem hj)
  exact ⟨c, Nat.zero_le _, hc, by rw [List.getElem?_eq_getElem hj, e]⟩
end
end VL.NS
/-! VNS3: sets of nested tuples of ints: adding, the larger table -/
namespace VL.NS
open PySem PySem.Spec PyProof.Rows L2
section
variable {P : Program} {w : World} {A : Around} {E : Value → Shared → Prop} {s : Shared} {a : Addr} {L : List Row} {es : Array (Int × Value)} {ep : Nat} {t : SetTable}
theorem pick_all {α : Type} (L : List α) : ∀ n, n ≤ L.length → (List.range n).filterMap (fun i => L[i]?) = L.take n
  | 0, _ => rfl
  | n + 1, h => by
    rw [List.range_succ, List.filterMap_append, pick_all L n (Nat.le_of_succ_le h), List.take_add_one]
    have e := List.getElem?_eq_getElem (l := L) (i := n) h
    rw [e]
    simp [e]
theorem pick_perm {α : Type} {L : List α} {l : List Nat} (h : l.Perm (List.range L.length)) : (l.filterMap fun i => L[i]?).Perm L := by
  have := h.filterMap fun i => L[i]?
  rw [pick_all L _ (Nat.le_refl _), List.take_length] at this
  exact this
theorem pick_map (he : es.toList = L.map (ent w)) : ∀ l : List Nat, (∀ i ∈ l, i < L.length) → (l.filterMap fun i => es[i]?) = (l.filterMap fun i => L[i]?).map (ent w) ∧ (l.filterMap fun i => L[i]?).map (hk w) = l.map fun i => (es.map (·.1)).getD i 0
  | [], _ => ⟨rfl, rfl⟩
  | i :: l, h => by
    obtain ⟨e1, e2⟩ := pick_map he l fun j hj => h j (List.mem_cons_of_mem _ hj)
    obtain ⟨p, hi⟩ : ∃ p, L[i]? = some p := ⟨_, List.getElem?_eq_getElem (h i List.mem_cons_self)⟩
    have hi2 := at_ents he hi
    have hi3 : (es.map (·.1)).getD i 0 = hk w p := by
      have : (es.map (·.1))[i]? = some (hk w p) := by rw [Array.getElem?_map, hi2]; rfl
      rw [Array.getD_eq_getD_getElem?, this]
      rfl
    constructor
    · rw [List.filterMap_cons_some hi2, List.filterMap_cons_some hi, e1]
      rfl
    · rw [List.filterMap_cons_some hi, List.map_cons, List.map_cons, e2, hi3]
theorem At.other {h h' : Heap} {k : NestedKey} {b : Addr} {o : Obj} (x : At h k b) (ho : h.get? a = some o) (hd : o.data = .set es ep t) (sb : Heap.SameBut a h h') : At h' k b :=
  x.move fun c u vs n e q => by
    refine (sb.2 c fun z => ?_).trans e
    subst z
    rw [ho] at e
    cases e
    rw [hd] at q
    cases q
theorem stored (ho : ∃ o, s.heap.get? a = some o ∧ o.ExactSet ∧ o.data = .set es ep t) (es' : Array (Int × Value)) (t' : SetTable) : ∃ o, (s.heap.update a (Obj.putSet es' t')).get? a = some o ∧ o.ExactSet ∧ o.data = .set es' (ep + 1) t' := by
  obtain ⟨o, h1, h2, h3⟩ := ho
  exact ⟨_, store_at h1 h3, ⟨h2.1, h2.2.1, h2.2.2⟩, rfl⟩
/-- a larger table -/
theorem larger (obj : ∃ o, s.heap.get? a = some o ∧ o.ExactSet ∧ o.data = .set es ep t) (ents : es.toList = L.map (ent w)) (psz : t.place.size = es.size) (dm : t.dummies = #[]) (fl : es.size ≤ t.mask) (uniq : (L.map (·.2)).Nodup) (keys : ∀ p ∈ L, At s.heap p.2 p.1) (pl : t.plain = true)
    (ld : w.params.followText "set-order" = true ∨ t.led = true) (few : L.length < 64) {n M : Nat} (hM : SetTable.sizeAbove n - 1 = M) (ok : MaskOk M) (le : SetTable.sizeAbove n ≤ 128) (room : L.length * 5 < M * 3) {Q : Unit → Shared → Prop}
    (q : ∀ h' L' es' ep' t', Heap.SameBut a s.heap h' → SN w h' a L' es' ep' t' → L'.Perm L → Q () { s with heap := h' }) : wpAny (model P w) A (setRelay a n) Q E s := by
  have hl := len_ents ents
  obtain ⟨t', order, e1, e2, e3, e4, e5, e6, _⟩ := relaid_ok t (hs := es.map (·.1)) (wanted := n) hM ok (by rw [Array.size_map]; omega)
  rw [Array.size_map, hl] at e2
  obtain ⟨m1, m2⟩ := pick_map ents order.toList fun i hi => List.mem_range.mp (e2.mem_iff.mp hi)
  have pm := pick_perm (L := L) e2
  have m3 : (order.filterMap (es[·]?)).toList = (order.toList.filterMap fun i => L[i]?).map (ent w) := by rw [Array.toList_filterMap]; exact m1
  rw [← m2] at e3
  generalize (order.toList.filterMap fun i => L[i]?) = L' at pm m3 e3
  have sz2 : (order.filterMap (es[·]?)).size = es.size := by rw [len_ents m3, pm.length_eq, hl]
  obtain ⟨o, ho, hex, hd⟩ := id obj
  rw [setRelay_eq]
  refine wpAny_bind (wpAny_setState_of ho hd (fits_of psz dm fl) ?_)
  dsimp only
  rw [if_neg (by rw [sizeLine_eq]; omega)]
  try refine wpAny_bind (wpAny_pure ?_)
  rw [e1]
  dsimp only
  refine wpAny_bind ?_
  rw [if_neg (by rw [sz2]; simp)]
  try refine wpAny_bind (wpAny_pure ?_)
  refine wpAny_pure ?_
  dsimp only
  refine wpAny_storeSet_of ho hd ?_ (by rw [sz2, hl, sizeLine_eq]; omega)
  have sb : Heap.SameBut a s.heap (s.heap.update a (Obj.putSet (order.filterMap (es[·]?)) t')) := Heap.SameBut.update ..
  exact q _ L' _ _ t' sb ⟨stored obj _ _, m3, e3, (pm.map (·.2)).nodup_iff.mpr uniq, fun p hp => (keys p (pm.mem_iff.mp hp)).other ho hd sb, by rw [e6]; exact pl, by rw [e5]; exact ld, by rw [pm.length_eq, e4]; exact room, by rw [pm.length_eq]; exact few⟩ pm
/-- adding -/
theorem adding (R : SN w s.heap a L es ep t) {x : Addr} {k : NestedKey} (hx : At s.heap k x) (hu : A.units + 8 < cLine) (few : L.length + 1 < 64) {Q : Bool → Shared → Prop}
    (q : ∀ b h' L' es' ep' t', Heap.SameBut a s.heap h' → SN w h' a L' es' ep' t' → (k ∈ L.map (·.2) → L' = L) → (k ∉ L.map (·.2) → L'.Perm ((x, k) :: L)) → Q b { s with heap := h' }) : wpAny (model P w) A (setAddHashed a (.ref x) (k.hash w)) Q E s := by
  obtain ⟨o, ho, hex, hd⟩ := R.obj
  have hl := len_ents R.ents
  have room := R.room
  unfold setAddHashed
  refine wpAny_holding ?_
  rw [show (100000 : Nat) = 99999 + 1 from rfl, setAddHashedIn_succ]
  refine wpAny_bind (wpAny_setState_of ho hd R.fits ?_)
  dsimp only
  rw [if_neg (by simp [byScan, Value.scannable])]
  try refine wpAny_bind (wpAny_pure ?_)
  refine wpAny_bind (seek0 R hx hu (fun hm => wpAny_pure (q false s.heap L es ep t (Heap.SameBut.refl a s.heap) R (fun _ => rfl) fun z => absurd hm z)) fun K hm free full => ?_)
  dsimp only
  refine wpAny_bind (wpAny_setState_of ho hd R.fits ?_)
  dsimp only
  obtain ⟨p1, p2, p3, p4, p5, p6, _, _, p9⟩ := R.tab.put free full
  have pp := p6.trans R.plain
  rw [List.length_map] at p2 p9
  generalize hpt : t.put (way t.mask (k.hash w) K) = pt at p1 p3 p4 p5 p9 pp ⊢
  obtain ⟨t1, b⟩ := pt
  dsimp only at p1 p3 p4 p5 p9 pp ⊢
  subst p1
  generalize SetTable.below t.place (way t.mask (k.hash w) K) = b at p2 p3 ⊢
  have pm : (L.take b ++ (x, k) :: L.drop b).Perm ((x, k) :: L) := by
    refine List.perm_middle.trans ?_
    rw [List.take_append_drop]
  have ents1 : (SetTable.insertAt es b (k.hash w, Value.ref x)).toList = (L.take b ++ (x, k) :: L.drop b).map (ent w) := by
    rw [SetTable.toList_insertAt, R.ents, List.map_append, List.map_cons, List.map_take, List.map_drop]
    rfl
  have tab1 : TabOk t1 ((L.take b ++ (x, k) :: L.drop b).map (hk w)) := by
    rw [List.map_append, List.map_cons, List.map_take, List.map_drop]
    exact p3
  have hlen := pm.length_eq
  rw [List.length_cons] at hlen
  have sz1 := len_ents ents1
  have uniq1 : ((L.take b ++ (x, k) :: L.drop b).map (·.2)).Nodup := (pm.map (·.2)).nodup_iff.mpr (by rw [List.map_cons]; exact List.nodup_cons.mpr ⟨hm, R.uniq⟩)
  generalize SetTable.insertAt es b (k.hash w, Value.ref x) = es1 at ents1 sz1 ⊢
  generalize L.take b ++ (x, k) :: L.drop b = L1 at pm hlen ents1 tab1 uniq1 sz1
  have byv : ∀ {R : Bool → Shared → Prop}, R true s → wpAny (model P w) A (if t1.plain = true then hashByValue 8 (.ref x) else pure true) R E s := fun h => by
    rw [if_pos pp]
    exact by_value k _ 8 s hx.is hx.num hx.deep _ _ _ h
  first
    | refine wpAny_bind (byv ?_)
    | (rw [if_pos pp]; refine wpAny_bind (by_value k _ 8 s hx.is hx.num hx.deep _ _ _ ?_))
  simp only [if_true]
  have sb : Heap.SameBut a s.heap (s.heap.update a (Obj.putSet es1 t1)) := Heap.SameBut.update ..
  have obj1 := stored R.obj es1 t1
  refine wpAny_bind (wpAny_storeSet_of ho hd ?_ (by rw [sz1, sizeLine_eq]; omega))
  have keys1 : ∀ p ∈ L1, At (s.heap.update a (Obj.putSet es1 t1)) p.2 p.1 := fun p hp => by
    rcases List.mem_cons.mp (pm.mem_iff.mp hp) with rfl | hp
    · exact hx.other ho hd sb
    · exact (R.keys p hp).other ho hd sb
  generalize s.heap.update a (Obj.putSet es1 t1) = h1 at sb obj1 keys1 ⊢
  have led1 : w.params.followText "set-order" = true ∨ t1.led = true := by rw [p5]; exact R.led
  have psz1 : t1.place.size = es1.size := by
    have := tab1.sz
    rw [List.length_map] at this
    rw [this, sz1]
  by_cases full1 : t1.tooFull = true
  · first
      | (refine wpAny_bind ?_; rw [if_pos (by simp [full1])])
      | (rw [if_pos (by simp [full1])]; refine wpAny_bind ?_)
    have big : (L.length + 1) * 5 ≥ t1.mask * 3 := by
      have := full1
      unfold SetTable.tooFull at this
      rw [decide_eq_true_eq, p9] at this
      exact this
    rw [hl]
    have grow : ∀ M, SetTable.sizeAbove (SetTable.grown (L.length + 1)) - 1 = M → MaskOk M → SetTable.sizeAbove (SetTable.grown (L.length + 1)) ≤ 128 → (L.length + 1) * 5 < M * 3 →
        wpAny (model P w) A (setRelay a (SetTable.grown (L.length + 1))) (fun _ s' => wpAny (model P w) A (pure true) Q E s') E { s with heap := h1 } := fun M g1 g2 g3 g4 =>
      larger (s := { s with heap := h1 }) obj1 ents1 psz1 tab1.dm (by rw [sz1, p4]; rcases R.tab.mok with e | e | e <;> rw [e] at room ⊢ <;> omega) uniq1 keys1 pp led1 (by omega) g1 g2 g3 (by rw [hlen]; exact g4) fun h2 L2 es2 ep2 t2 sb2 R2 pm2 =>
        wpAny_pure (q true h2 L2 es2 ep2 t2 (sb.trans sb2) R2 (fun z => absurd z hm) fun _ => pm2.trans pm)
    have two : L.length = 4 ∨ L.length = 18 := by
      rw [p4] at big
      rcases R.tab.mok with e | e | e <;> rw [e] at room big <;> omega
    rcases two with e | e
    · exact grow 31 (by rw [e, size_20]) (.inr (.inl rfl)) (by rw [e, size_20]; decide) (by omega)
    · exact grow 127 (by rw [e, size_76]) (.inr (.inr rfl)) (by rw [e, size_76]; decide) (by omega)
  · first
      | rw [if_neg (by simp [full1])]
      | (refine wpAny_bind ?_; rw [if_neg (by simp [full1])]; refine wpAny_pure ?_)
    refine wpAny_pure (q true h1 L1 es1 (ep + 1) t1 sb ⟨obj1, ents1, tab1, uniq1, keys1, pp, led1, ?_, by omega⟩ (fun z => absurd z hm) fun _ => pm)
    have := full1
    unfold SetTable.tooFull at this
    rw [decide_eq_true_eq, p9] at this
    omega
end
end VL.NS
/-! VNS4: set(xs) of a list of nested tuples of ints -/
namespace VL.NS
open PySem PySem.Spec PyProof.Rows L2
structure Had (ks : List Row) (i : Nat) (L : List Row) : Prop where
  sub : ∀ p ∈ L, p ∈ ks.take i
  all : ∀ p ∈ ks.take i, p.2 ∈ L.map (·.2)
  len : L.length ≤ i
theorem Had.next {ks L L' : List Row} {i : Nat} {x : Row} (g : Had ks i L) (h : ks[i]? = some x) (h1 : x.2 ∈ L.map (·.2) → L' = L) (h2 : x.2 ∉ L.map (·.2) → L'.Perm (x :: L)) : Had ks (i + 1) L' := by
  have e : ks.take (i + 1) = ks.take i ++ [x] := by rw [List.take_add_one, h]; rfl
  by_cases c : x.2 ∈ L.map (·.2)
  · rw [h1 c]
    refine ⟨fun p hp => by rw [e]; exact List.mem_append_left _ (g.sub p hp), fun p hp => ?_, Nat.le_succ_of_le g.len⟩
    rw [e] at hp
    rcases List.mem_append.mp hp with z | z
    · exact g.all p z
    · rw [List.mem_singleton.mp z]; exact c
  · have pm := h2 c
    refine ⟨fun p hp => ?_, fun p hp => ?_, by rw [pm.length_eq]; exact Nat.succ_le_succ g.len⟩
    · rw [e]
      rcases List.mem_cons.mp (pm.mem_iff.mp hp) with rfl | z
      · exact List.mem_append_right _ (List.mem_singleton.mpr rfl)
      · exact List.mem_append_left _ (g.sub p z)
    · rw [(pm.map (·.2)).mem_iff, List.map_cons]
      rw [e] at hp
      rcases List.mem_append.mp hp with z | z
      · exact List.mem_cons_of_mem _ (g.all p z)
      · rw [List.mem_singleton.mp z]; exact List.mem_cons_self
section
variable {P : Program} {w : World} {A : Around} {E : Value → Shared → Prop} {s : Shared}
abbrev set0 (w : World) : Obj := { cls := .type "set", dict := none, data := .set #[] 0 (.fresh 0 0 (!w.params.followText "set-order")) }
theorem SN.keep {h h' : Heap} {a : Addr} {L : List Row} {es : Array (Int × Value)} {ep : Nat} {t : SetTable} (R : SN w h a L es ep t) (k1 : ∀ o, h.get? a = some o → h'.get? a = some o) (k2 : ∀ p ∈ L, At h' p.2 p.1) : SN w h' a L es ep t := by
  obtain ⟨o, e, z⟩ := R.obj
  exact { R with obj := ⟨o, k1 o e, z⟩, keys := k2 }
theorem fresh_set {h : Heap} {a : Addr} (e : h.get? a = some (set0 w)) : SN w h a [] #[] 0 (.fresh 0 0 (!w.params.followText "set-order")) := by
  refine ⟨⟨_, e, ⟨rfl, rfl, rfl⟩, rfl⟩, rfl, ⟨.nil, rfl, rfl, .inl rfl, fun x hx => (by cases hx), fun i h j hi => (by simp at hi)⟩, List.nodup_nil, fun p hp => (by cases hp), rfl, ?_, (by show 0 * 5 < 7 * 3; decide), (by show 0 < 64; decide)⟩
  cases e : w.params.followText "set-order" with
  | true => exact .inl rfl
  | false => exact .inr (by show (!false) = true; rfl)
/-- the items are put in, one by one -/
theorem put_all {I : Addr} {fp wr : List Addr} {G : Array GenState → Array GenState → Prop} {n : Nat} {Pv : Nat → Value → Prop} {St : Nat → Shared → Prop} {R : Result → Shared → Prop} (W : WalksS P w A.in1 I fp wr G n Pv St) (S : Addr) (nf : S ∉ fp) (ks : List Row) (hn : n = ks.length)
    (few : ks.length < 64) (val : ∀ i v, Pv i v → ∃ p, ks[i]? = some p ∧ v = .ref p.1) (h0 : Heap) (kys : ∀ p ∈ ks, At h0 p.2 p.1) (nS : h0.get? S = none) (nw : ∀ b ∈ wr, h0.get? b = none) (hu : A.in1.units + 8 < cLine) :
    ∀ (m i : Nat) (s : Shared), n - i = m → i ≤ n → St i s → (∀ b o, h0.get? b = some o → s.heap.get? b = some o) → (∃ L es ep t, SN w s.heap S L es ep t ∧ Had ks i L) →
      (∀ s' L es ep t, Moved (S :: wr) G s s' → SN w s'.heap S L es ep t → Had ks n L → (∀ b o, h0.get? b = some o → s'.heap.get? b = some o) → R (.ok (.ret .none)) s') → codeAny (model P w) A (.builtin "set.update.loop" ⟨[.ref S, .ref I], []⟩) R s := by
  have nSw : S ∉ wr := fun z => nf (W.sub _ z)
  have up : ∀ b ∈ wr, b ∈ S :: wr := fun b => List.mem_cons_of_mem _
  have on : ∀ {s s' : Shared}, Moved wr G s s' → (∀ b o, h0.get? b = some o → s.heap.get? b = some o) → ∀ b o, h0.get? b = some o → s'.heap.get? b = some o := fun mv k b o e => mv.heap b o (fun z => by rw [nw b z] at e; cases e) (k b o e)
  intro m
  induction m with
  | zero =>
    intro i s hm hi st kp ⟨L, es, ep, t, hS, g⟩ fin
    obtain rfl : i = n := by omega
    refine codeAny_builtin F.entry_set_update_loop ?_
    rw [Around.under_plainId F.plain_set_update_loop _]
    refine wpAny_bind (m := pyNext (.ref I)) (W.done s _ _ st fun s' mv => ?_)
    have kp' := on mv kp
    exact wpAny_pure (fin s' L es ep t (mv.mono up) (hS.keep (fun o e => mv.heap S o nSw e) fun p hp => (kys p (List.mem_of_mem_take (g.sub p hp))).keep kp') g kp')
  | succ m ih =>
    intro i s hm hi st kp ⟨L, es, ep, t, hS, g⟩ fin
    have lt : i < n := by omega
    refine codeAny_builtin F.entry_set_update_loop ?_
    rw [Around.under_plainId F.plain_set_update_loop _]
    refine wpAny_bind (m := pyNext (.ref I)) (W.item i s _ _ lt st fun v s' hv st' mv => ?_)
    obtain ⟨p, hp, rfl⟩ := val i v hv
    have kp' := on mv kp
    have hS' : SN w s'.heap S L es ep t := hS.keep (fun o e => mv.heap S o nSw e) fun q hq => (kys q (List.mem_of_mem_take (g.sub q hq))).keep kp'
    have hx : At s'.heap p.2 p.1 := (kys p (List.mem_of_getElem? hp)).keep kp'
    refine wpAny_bind (m := holding [Value.ref p.1] (setAdd S (.ref p.1))) (wpAny_holding ?_)
    unfold setAdd
    refine wpAny_holding ?_
    refine wpAny_bind ((nestedKind P w).pyHash (k := p.2) hu hx.kd ?_)
    refine adding (s := { s' with toks := s'.toks + p.2.draws }) hS' hx hu (by have := g.len; omega) fun b h' L' es' ep' t' sb hS2 c1 c2 => ?_
    have kp2 : ∀ b o, h0.get? b = some o → h'.get? b = some o := fun b o e => (sb.2 b (fun z => by rw [z, nS] at e; cases e)).trans (kp' b o e)
    refine wpAny_pure ⟨plainId_quiet F.plain_set_update_loop _, ih (i + 1) _ (by omega) lt (W.frame _ s' _ _ st' (Nat.le_add_right _ _) fun b hb o e => ?_) kp2 ⟨L', es', ep', t', hS2, g.next hp c1 c2⟩ fun s'' L2 es2 ep2 t2 mv2 hS3 g2 kp3 => ?_⟩
    · exact (sb.2 b fun z : b = S => nf (by rw [← z]; exact hb)).trans e
    · refine fin s'' L2 es2 ep2 t2 (Moved.trans W.gtrans ((mv.mono up).then_heap (Nat.le_add_right _ _) fun b o hb e => ?_) mv2) hS3 g2 kp3
      exact (sb.2 b fun z : b = S => hb (by rw [z]; exact List.mem_cons_self)).trans e
set_option maxHeartbeats 16000000 in
/-- set(xs) -/
theorem call_set_rows {l : Addr} {items : Array Value} (ks : List Row) {Q : Value → Shared → Prop} (calm : A.handled = none) (hl : s.heap.IsList l items) (hit : items.toList = ks.map fun p => Value.ref p.1) (kys : ∀ p ∈ ks, At s.heap p.2 p.1) (few : ks.length < 64) (hu : A.units + 16 < cLine)
    (q : ∀ (h' : Heap) (tk : Nat) L es ep t, SN w h' s.heap.objs.size L es ep t → Had ks ks.length L → (∀ b o, s.heap.get? b = some o → h'.get? b = some o) → Q (.ref s.heap.objs.size) { s with heap := h', toks := tk }) : wpAny (model P w) A (call (.type "set") [.ref l]) Q E s := by
  have isz : items.size = ks.length := by rw [← Array.length_toList, hit, List.length_map]
  obtain ⟨c, tl, hmro⟩ := F.called_set.mro
  have k1 := F.called_set.made
  have k2 := F.called_set.sub
  have k3 := F.called_set.notType
  have k4 := F.called_set.canCreate
  have k5 := F.typeCall_set_1 (.ref l)
  refine wpAny_call (codeAny_of_tree ?_)
  show wpAny _ _ (callAny (.type "set") _) _ _ _
  refine wpAny_pure ⟨Code.quiet_builtin _ (by decide +kernel), codeAny_builtin F.entry_type_call ?_⟩
  rw [Around.under_plain (weight_type_call_type "set" [.ref l] []) rfl]
  repeat (any_goals (first | assumption | wp_step))
  refine codeAny_mono (code_set_led1 (.ref l) (E := E) (Q₁ := fun z u => z = .ref s.heap.objs.size ∧ u = { s with heap := s.heap.push (set0 w) }) ⟨rfl, rfl⟩) fun r u hr => ?_
  rcases r with e | fl
  · exact hr
  cases fl with
  | ret z =>
    obtain ⟨rfl, rfl⟩ := hr
    have hS : (s.heap.push (set0 w)).get? s.heap.objs.size = some (set0 w) := Heap.get?_push_size _ rfl
    have hT : Shared.TypeIs { s with heap := s.heap.push (set0 w) } (.ref s.heap.objs.size) "set" := ⟨_, hS, rfl⟩
    have b1 := F.called_set.init.lookup
    have b2 := F.called_set.init.bind (.ref s.heap.objs.size)
    repeat (any_goals (first | assumption | wp_step))
    refine codeAny_mono (codeAny_call_builtin (R := wants (fun z u => z = .none ∧ ∃ h' tk L es ep t, u = { s with heap := h', toks := tk } ∧ SN w h' s.heap.objs.size L es ep t ∧ Had ks ks.length L ∧ (∀ b o, s.heap.get? b = some o → h'.get? b = some o)) E) F.called_set.init.plain F.entry_set_init (check_set_init_1 hT ?_)) fun r u hr => ?_
    · obtain ⟨⟨cl, dd, da, sl⟩, e, hc, n, hd⟩ := hl
      simp only at hc hd
      subst hc
      subst hd
      have e' : (s.heap.push (set0 w)).get? l = some { cls := .type "list", dict := dd, data := .seq items n, slots := sl } := Heap.get?_push_of_some _ e
      have il : (s.heap.push (set0 w)).IsList l items := ⟨_, e', rfl, n, rfl⟩
      have lt : l < s.heap.objs.size := Heap.lt_size e
      have s1 := F.sub_list_set
      have s2 := F.sub_list_frozenset
      have s3 : (Value.type "list" == Value.type "dict") = false := by decide
      unfold Builtin.«set.__init__» noKeywords Builtin.Frozenset.updateFrom
      generalize hPI : pyIter = PI
      wp_walk
      subst hPI
      refine wpAny_pyIter_list il ?_
      refine wpAny_bind (wpAny_runValue ?_)
      have size1 : (s.heap.push (set0 w)).objs.size = s.heap.objs.size + 1 := Heap.size_push ..
      have out : ∀ b, s.heap.objs.size ≤ b → s.heap.get? b = none := fun b hb => Heap.get?_none_of_le hb
      have ne1 : l ≠ (s.heap.push (set0 w)).objs.size := by rw [size1]; exact Nat.ne_of_lt (Nat.lt_succ_of_lt lt)
      have val : ∀ (i : Nat) (v : Value), items[i]? = some v → ∃ p, ks[i]? = some p ∧ v = .ref p.1 := fun i v hv => by
        rw [← Array.getElem?_toList, hit, List.getElem?_map] at hv
        obtain ⟨p, hp, e⟩ := Option.map_eq_some_iff.mp hv
        exact ⟨p, hp, e.symm⟩
      have nf : s.heap.objs.size ∉ [(s.heap.push (set0 w)).objs.size, l] := by
        rw [size1]
        simp only [List.mem_cons, List.not_mem_nil, or_false, not_or]
        exact ⟨Nat.ne_of_lt (Nat.lt_succ_self _), Nat.ne_of_gt lt⟩
      refine put_all (Walks.list (by simp [calm]) _ l ne1 items).toS s.heap.objs.size nf ks isz few val s.heap kys (out _ (Nat.le_refl _)) (fun b hb => out b (by rw [List.mem_singleton.mp hb, size1]; exact Nat.le_succ _)) (by simp; omega) (items.size - 0) 0 _ (by omega) (Nat.zero_le _)
        ⟨⟨_, Heap.get?_push_size _ rfl, rfl, rfl⟩, (il.push _)⟩ (fun b o z => Heap.get?_push_of_some _ (Heap.get?_push_of_some _ z)) ⟨[], _, _, _, fresh_set (Heap.get?_push_of_some _ hS), ⟨fun p h => (by cases h), fun p h => (by simp at h), Nat.le_refl _⟩⟩ ?_
      intro s' L es ep t mv hS' g kp
      obtain ⟨h', g2, d2, tk, o2⟩ := s'
      obtain rfl : g2 = s.gens := mv.gens
      obtain rfl : d2 = s.drawn := mv.drawn
      obtain rfl : o2 = s.os := mv.os
      rw [isz] at g
      show wpAny _ _ _ _ _ _
      refine wpAny_pure ?_
      show wpAny _ _ (ret Value.none) _ _ _
      exact wpAny_pure ⟨rfl, h', tk, L, es, ep, t, rfl, hS', g, kp⟩
    · rcases r with e | fl
      · exact hr
      cases fl with
      | ret z =>
        obtain ⟨rfl, h', tk, L, es, ep, t, rfl, g1, g2, g3⟩ := hr
        repeat (any_goals (first | assumption | wp_step))
        exact q _ _ _ _ _ _ g1 g2 g3
      | _ => exact hr.elim
  | _ => exact hr.elim
end
end VL.NS
/-! VNS5: len(set(xs)) of lists of nested tuples of ints -/
namespace VL
open PySem PySem.Spec PyProof.Rows L2
mutual
def nkOf : D → Option NestedKey
  | .int i => some (.num i)
  | .tup ds => (nksOf ds).map .tup
  | _ => none
def nksOf : List D → Option (List NestedKey)
  | [] => some []
  | d :: r => match nkOf d, nksOf r with
    | some k, some ks => some (k :: ks)
    | _, _ => none
end
def isTupD : D → Bool
  | .tup _ => true
  | _ => false
def dedupN : List NestedKey → List NestedKey
  | [] => []
  | k :: r => if k ∈ dedupN r then dedupN r else k :: dedupN r
theorem dedupN_mem {x : NestedKey} : ∀ {l : List NestedKey}, x ∈ dedupN l ↔ x ∈ l
  | [] => Iff.rfl
  | k :: r => by
    have ih := dedupN_mem (x := x) (l := r)
    unfold dedupN
    split
    · rename_i h
      rw [ih, List.mem_cons]
      exact ⟨.inr, fun z => z.elim (fun e => by rw [e]; exact dedupN_mem.mp h) id⟩
    · rw [List.mem_cons, List.mem_cons, ih]
theorem dedupN_nodup : ∀ l : List NestedKey, (dedupN l).Nodup
  | [] => List.nodup_nil
  | k :: r => by
    unfold dedupN
    split
    · exact dedupN_nodup r
    · rename_i h
      exact List.nodup_cons.mpr ⟨h, dedupN_nodup r⟩
theorem dedupN_len {l m : List NestedKey} (h1 : m.Nodup) (h2 : ∀ x, x ∈ m ↔ x ∈ l) : m.length = (dedupN l).length :=
  ((List.perm_ext_iff_of_nodup h1 (dedupN_nodup l)).mpr fun x => by rw [h2 x, dedupN_mem]).length_eq
def setN : D → Option (List NestedKey)
  | .lst ds => if ds.all isTupD then (nksOf ds).bind fun ks => if ks.length < 64 ∧ (ks.all fun k => decide (k.depth ≤ 8)) = true then some ks else none else none
  | _ => none
section
variable {X : Cx} {mg : Str → Option Value} {pins : List (Addr × Obj)} {σ : L2.St} {H : Hp} {s : Shared}
mutual
theorem nk_is (I : Inv X pins σ H s) : ∀ {d : D} {v : V} {k : NestedKey} {u : Value}, Rep X.K mg H v d → nkOf d = some k → RelV v u → NestedIs s.heap k u ∧ NS.nums k = true
  | .int i, v, k, u, r, e, ru => by
    cases r
    cases e
    obtain ⟨t, rfl⟩ := ru
    exact ⟨.int i t, rfl⟩
  | .tup ds, v, k, u, r, e, ru => by
    obtain ⟨ks, e1, rfl⟩ := Option.map_eq_some_iff.mp (show (nksOf ds).map NestedKey.tup = some k from e)
    cases r with
    | tup h rs =>
      obtain rfl : u = Value.ref _ := ru
      obtain ⟨its, rv, pl, hz⟩ := I.tuple (SqT.of h)
      obtain ⟨o, ho, hc, n, hd⟩ := (show s.heap.IsTuple _ its.toArray from pl)
      obtain ⟨a1, a2⟩ := nks_is I rs e1 rv
      exact ⟨.tup ho hc hd (by simpa using a1), a2⟩
  | .non, _, _, _, _, e, _ => by cases e
  | .bl _, _, _, _, _, e, _ => by cases e
  | .str _, _, _, _, _, e, _ => by cases e
  | .lst _, _, _, _, _, e, _ => by cases e
  | .rol _, _, _, _, _, e, _ => by cases e
  | .rot _, _, _, _, _, e, _ => by cases e
  | .ty _, _, _, _, _, e, _ => by cases e
  | .dic _, _, _, _, _, e, _ => by cases e
  | .dit _, _, _, _, _, e, _ => by cases e
  | .obj _ _, _, _, _, _, e, _ => by cases e
theorem nks_is (I : Inv X pins σ H s) : ∀ {ds : List D} {vs : List V} {ks : List NestedKey} {us : List Value}, Reps X.K mg H vs ds → nksOf ds = some ks → Vals vs us → NestedAll s.heap ks us ∧ NS.numsAll ks = true
  | [], vs, ks, us, r, e, ru => by
    cases r
    cases e
    cases ru
    exact ⟨.nil, rfl⟩
  | d :: ds, vs, ks, us, r, e, ru => by
    cases r with
    | cons r1 r2 =>
      cases ru with
      | cons u1 u2 =>
        unfold nksOf at e
        split at e
        · rename_i k ks' e1 e2
          cases e
          obtain ⟨a1, a2⟩ := nk_is I r1 e1 u1
          obtain ⟨b1, b2⟩ := nks_is I r2 e2 u2
          exact ⟨.cons a1 b1, Bool.and_eq_true_iff.mpr ⟨a2, b2⟩⟩
        · cases e
end
/-- the rows of a list of tuples -/
theorem rows_at (I : Inv X pins σ H s) : ∀ {ds : List D} {vs : List V} {ks : List NestedKey} {us : List Value}, Reps X.K mg H vs ds → nksOf ds = some ks → ds.all isTupD = true → Vals vs us → (ks.all fun k => decide (k.depth ≤ 8)) = true →
    ∃ rows : List NS.Row, us = rows.map (fun p => Value.ref p.1) ∧ rows.map (·.2) = ks ∧ ∀ p ∈ rows, NS.At s.heap p.2 p.1
  | [], vs, ks, us, r, e, _, ru, _ => by
    cases r
    cases e
    cases ru
    exact ⟨[], rfl, rfl, fun p h => (by cases h)⟩
  | d :: ds, vs, ks, us, r, e, ht, ru, hd => by
    cases r with
    | cons r1 r2 =>
      cases ru with
      | cons u1 u2 =>
        unfold nksOf at e
        split at e
        · rename_i k ks' e1 e2
          cases e
          rw [List.all_cons, Bool.and_eq_true] at ht hd
          obtain ⟨a1, a2⟩ := nk_is I r1 e1 u1
          obtain ⟨rows, q1, q2, q3⟩ := rows_at I r2 e2 ht.2 u2 hd.2
          cases d with
          | tup xs =>
            cases r1 with
            | @tup a zs _ h rs =>
              cases u1
              exact ⟨(a, k) :: rows, by rw [q1]; rfl, by rw [← q2]; rfl, fun p hp => by
                rcases List.mem_cons.mp hp with rfl | hp
                · exact ⟨a1, of_decide_eq_true hd.1, a2⟩
                · exact q3 p hp⟩
          | _ => cases ht.1
        · cases e
def tLenSetN (K : PySem.W.Frag) (mg : Str → Option Value) (ta : TE) : TE := fun σ H Q => ta σ H fun x H1 => ∃ (l : Addr) (xs : List V) (ds : List D) (ks : List NestedKey), x = .ref l ∧ SqL K H1 l xs ∧ Reps K mg H1 xs ds ∧ ds.all isTupD = true ∧ nksOf ds = some ks ∧ ks.length < 64 ∧ (ks.all fun k => decide (k.depth ≤ 8)) = true ∧
  Q (.int ((dedupN ks).length : Nat)) H1
theorem pe_lenSetN {a : Expr} {ta : TE} {p p2 q pos : Pos} (hg : Gl X "len") (hm : X.mg "len" = none) (hg2 : Gl X "set") (hm2 : X.mg "set" = none) (ha : PE X a ta) (hc : X.calm = true) (hu : X.A.units + 65 < cLine)
    (na : starEach [a] X.env = (false, eval a X.env) :: starEach [] X.env) : PE X (.Call (.Name "len" p) [.Call (.Name "set" p2) [a] [] q] [] pos) (tLenSetN X.K mg ta) := by
  refine ⟨fun pins s σ H Q I h => ?_⟩
  refine Call_ (ld_blt I hg hm boot_len ?_)
  refine PyProof.Rows.callWith_builtin1 (PyProof.Rows.args_cons ?_ rfl) rfl rfl
  refine Call_ (ld_blt I hg2 hm2 boot_set ?_)
  refine PyProof.Rows.callWith_type1 (PyProof.Rows.args_cons (thn (ha.run pins s σ H _ I h) fun v s1 ⟨x, H1, I1, r1, q1⟩ => PyProof.Rows.args_nil ?_) na) na rfl
  obtain ⟨l, xs, ds, ks, rfl, hq, rs, ht, hk, hl, hdp, q1⟩ := q1
  cases r1
  obtain ⟨its, rv, pl, hz⟩ := I1.list hq
  obtain ⟨rows, e1, e2, e3⟩ := rows_at I1 rs hk ht rv hdp
  have hlen : rows.length = ks.length := by rw [← e2, List.length_map]
  refine NS.call_set_rows (items := its.toArray) rows (I1.ok.hd hc) pl.isList (by simpa using e1) e3 (by omega) (by omega) fun h' tk L es ep t R g kp => ?_
  refine PyProof.Rows.args_nil ?_
  have I2 : Inv X pins σ H1 { s1 with heap := h', toks := tk } := I1.kept kp
  obtain ⟨o, ho, hex, hd⟩ := R.obj
  have hes := NS.len_ents R.ents
  have en : L.length = (dedupN ks).length := by
    rw [← List.length_map (f := (·.2)) (as := L)]
    refine dedupN_len R.uniq fun x => ?_
    rw [← e2]
    have all := g.all
    have sub := g.sub
    rw [List.take_length] at all sub
    constructor
    · intro hx
      obtain ⟨p, hp, rfl⟩ := List.mem_map.mp hx
      exact List.mem_map.mpr ⟨p, sub p hp, rfl⟩
    · intro hx
      obtain ⟨p, hp, rfl⟩ := List.mem_map.mp hx
      exact all p hp
  have gl := g.len
  exact call_len_set ho hex hd (NS.SN.fits (s := { s1 with heap := h', toks := tk }) R) (by omega) ⟨.int (dedupN ks).length, H1, I2.tok _, ⟨_, by rw [hes, en]⟩, q1⟩
end
section
variable {Z : Ctx} {Y : Ent} {F G H L : Hp} {ρ ρ' : Env} {σ : L2.St} {v : V} {vl : Vl} {d : D}
def vLenSet (f : SE) : SE := fun ρ => match vLenSetI f ρ with
  | .bad => obind (f ρ) fun v ρ1 => match (look ρ1 v).bind setN with
    | some ks => .ok (.sh (.int ((dedupN ks).length : Nat))) ρ1
    | none => .bad
  | r => r
theorem lenSet_of {f : SE} {ρ ρ1 : Env} {v : Vl} (h : vLenSetI f ρ = .ok v ρ1) : vLenSet f ρ = .ok v ρ1 := by
  unfold vLenSet
  rw [h]
theorem lenSet_rows {f : SE} {ρ ρ1 : Env} {v : Vl} {d : D} {ks : List NestedKey} (h : f ρ = .ok v ρ1) (hl : look ρ1 v = some d) (h0 : setL d = none) (hs : setN d = some ks) : vLenSet f ρ = .ok (.sh (.int ((dedupN ks).length : Nat))) ρ1 := by
  have e : vLenSetI f ρ = .bad := by
    unfold vLenSetI
    rw [h, obind_ok, hl, Option.bind_some, h0]
  unfold vLenSet
  rw [e, h, obind_ok, hl, Option.bind_some, hs]
theorem re_lenSetB {t : TE} {f : SE} (h : RE Z t f) : RE Z (fun σ H Q => tLenSetB Z.X.K t σ H Q ∨ tLenSetN Z.X.K Z.X.mg t σ H Q) (vLenSet f) := by
  intro Y F ρ σ H Q R P
  unfold vLenSet at P
  cases e : vLenSetI f ρ with
  | ok v ρ1 =>
    rw [e] at P
    exact .inl (re_lenSet h Y F ρ σ H Q R (by rw [e]; exact P))
  | exn c w ρ1 =>
    rw [e] at P
    exact .inl (re_lenSet h Y F ρ σ H Q R (by rw [e]; exact P))
  | bad =>
    rw [e] at P
    refine .inr (h Y F ρ σ H _ R (post_bind P fun vl ρ1 _ P1 => fun G L x s R1 k => ?_))
    split at P1
    · rename_i ks e2
      obtain ⟨d, e3, e4⟩ := Option.bind_eq_some_iff.mp e2
      have r := R1.reads k e3
      have q := PureQ.atom ((OkQ.mono P1 s).pure (pv := .sh (.int _)) R1) R1.fh (.int _)
      unfold setN at e4
      split at e4
      · rename_i ds
        split at e4
        · rename_i ht
          obtain ⟨ks', e5, e6⟩ := Option.bind_eq_some_iff.mp e4
          split at e6
          · rename_i hh
            cases e6
            obtain ⟨a, xs, rfl, h1, rs⟩ := r.lst R1.fh
            exact ⟨a, xs, ds, _, rfl, SqL.of h1, rs.mono R1.fh, ht, e5, hh.1, hh.2, q⟩
          · cases e6
        · cases e4
      · cases e4
    · exact P1.elim
end
end VL
/-! V12: from the text to functions on slots, once for all -/
namespace VL
open PySem PySem.Spec PyProof.Rows L2

/-- what is known of a module's names -/
structure Glob where
  N : List Str
  fns : Str → Option FSpec := fun _ => none
  mks : Str → Option FSpec := fun _ => none
  mths : Str → Option (Str × FSpec) := fun _ => none
  okC : Str → Bool := fun _ => false
  flds : List Str := []
  excs : List Str := []
  cons : Str → Option D := fun _ => none
  /-- comprehensions leave a list of the frame's own its own -/
  kp : Bool := false
def vis (sc : Scope) (x : Str) : Bool := match sc.names.lookup x with
  | some .local => true
  | some .cell => true
  | some .free => true
  | _ => false
def loc (sc : Scope) (x : Str) : Bool := match sc.names.lookup x with
  | some .local => true
  | some .cell => true
  | _ => false
def glo (sc : Scope) (x : Str) : Bool := match sc.names.lookup x with
  | some .globalImplicit => true
  | _ => false
def ixOf (N : List Str) (x : Str) : Option Nat := N.findIdx? (fun y => decide (y = x))
def okName (x : Str) : Bool := decide (x ≠ ("__debug__" : Str)) && decide (x ≠ ("__classdict__" : Str)) && decide (x ≠ ("__name__" : Str))
def tyNames : List String := ["int", "str", "list", "tuple", "bool"]
def tyOf (x : Str) : Option String := tyNames.find? fun t => decide ((t : Str) = x)
/-- built-in functions that only read -/
def bltF (x : Str) : Option (List D → Option Pv) :=
  if x = ("len" : Str) then some opLen else if x = ("abs" : Str) then some opAbs else if x = ("min" : Str) then some opMin else if x = ("max" : Str) then some opMax else
  if x = ("sum" : Str) then some opSum else if x = ("all" : Str) then some opAll else if x = ("any" : Str) then some opAny else if x = ("sorted" : Str) then some opSortedB else
  if x = ("isinstance" : Str) then some opIsi else none
/-- built-in classes called -/
def bltT (x : Str) : Option (List D → Option Pv) :=
  if x = ("int" : Str) then some opInt else if x = ("list" : Str) then some opList else if x = ("tuple" : Str) then some opTuple else none
def bltNames : List Str := ["len", "abs", "min", "max", "sum", "all", "any", "sorted", "isinstance", "int", "list", "tuple", "str", "bool", "set", "range", "zip"]
def mutM (m : Str) : Option (D → List D → Option (D × D)) :=
  if m = ("append" : Str) then some mAppend else if m = ("remove" : Str) then some mRemoveB else none
def mutM0 (m : Str) : Option (D → List D → Option (D × D)) :=
  if m = ("pop" : Str) then some mPop else if m = ("reverse" : Str) then some mReverse else none
def readM (m : Str) : Option (D → List D → Option Pv) :=
  if m = ("count" : Str) then some mCount else if m = ("index" : Str) then some mIndex else none
def binOp : Operator → Option (D → D → Option Pv)
  | .Add => some opAdd
  | .Sub => some opSub
  | .Mult => some opMul
  | .FloorDiv => some opFdiv
  | .Mod => some opMod
  | .Pow => some opPow
  | _ => none
def cmpOp : CmpOp → D → D → Option Pv
  | .Eq => opEq
  | .NotEq => opNe
  | .Lt => opLt
  | .LtE => opLe
  | .Gt => opGt
  | .GtE => opGe
  | .In => opIn
  | .NotIn => opNotIn
  | .Is => opIs
  | .IsNot => opIsNot
def isSlice : Expr → Bool
  | .Slice _ _ _ _ => true
  | _ => false
def isSetE : Expr → Bool
  | .Set _ _ _ => true
  | _ => false
def isComp : Expr → Bool
  | .ListComp _ _ _ _ => true
  | .SetComp _ _ _ _ => true
  | .DictComp _ _ _ _ _ => true
  | _ => false
def isTupE : Expr → Bool
  | .Tuple _ _ _ => true
  | .List _ _ => true
  | _ => false
def isTup : Expr → Bool
  | .Tuple _ _ _ => true
  | _ => false
def noneStar (es : List Expr) : Bool := es.all fun e => !starred e
def bE : SE := fun _ => .bad
def bT : STst := fun _ => .bad
def bI : SI := fun _ => .bad
def bS : SS := fun _ => .bad
def bG : D → Env → Option Env := fun _ _ => none
/-- the block's own names, with their places -/
def ownOf (N : List Str) (scope : Scope) : List (Str × Nat) := scope.names.filterMap fun y => match y.2 with
  | .local => (ixOf N y.1).map fun i => (y.1, i)
  | .cell => (ixOf N y.1).map fun i => (y.1, i)
  | _ => none
def foldAnd : List STst → STst
  | [] => bT
  | [g] => g
  | g :: gs => vAnd g (foldAnd gs)
def foldOr : List STst → STst
  | [] => bT
  | [g] => g
  | g :: gs => vOr g (foldOr gs)
def foldAndV : List SE → SE
  | [] => bE
  | [g] => g
  | g :: gs => vAndV g (foldAndV gs)
def foldOrV : List SE → SE
  | [] => bE
  | [g] => g
  | g :: gs => vOrV g (foldOrV gs)
mutual
/-- a target: its slots and what it does -/
def cG (G : Glob) (sc : Scope) : Nat → Expr → List Nat × (D → Env → Option Env)
  | 0, _ => ([], bG)
  | n + 1, e => match e with
    | .Name x _ => match ixOf G.N x with
      | some i => if loc sc x = true then ([i], hName i) else ([], bG)
      | none => ([], bG)
    | .Tuple es _ _ => if noneStar es = true then let r := cGs G sc n es; (r.1, hTup es.length r.2) else ([], bG)
    | _ => ([], bG)
def cGs (G : Glob) (sc : Scope) : Nat → List Expr → List Nat × (List D → Env → Option Env)
  | 0, _ => ([], fun _ _ => none)
  | n + 1, es => match es with
    | [] => ([], hNil)
    | e :: r => let a := cG G sc n e; let b := cGs G sc n r; (a.1 ++ b.1, hCons a.2 b.2)
end
/-- the place of a name -/
def nameOf (N : List Str) (sc : Scope) : Expr → Option Nat
  | .Name x _ => if okName x = true ∧ vis sc x = true then ixOf N x else none
  | _ => none
def vCompB (i : Option Nat) (src : SI) (h : D → Env → Option Env) (g : STst) (f : SE) (vs : List Nat) : SE := match i with
  | some i => vCompO i h g f vs
  | none => vComp src h g f vs
mutual
/-- an expression -/
def cE (G : Glob) : Nat → Scope → Expr → SE
  | 0, _, _ => bE
  | n + 1, sc, e => match e with
    | .Name x _ => if okName x = true then (if vis sc x = true then (match ixOf G.N x with
          | some i => vName i
          | none => bE) else if glo sc x = true then (match G.cons x with
          | some d => vC d
          | none => match tyOf x with
            | some t => vC (.ty t)
            | none => bE) else bE) else bE
    | .Constant (.int i) _ _ => vC (.int i)
    | .Constant (.bool b) _ _ => vC (.bl b)
    | .Constant .none _ _ => vC .non
    | .Constant (.str s) _ _ => vC (.str s)
    | .BinOp a op b _ => match binOp op with
      | some f => vOp2 f (cE G n sc a) (cE G n sc b)
      | none => bE
    | .UnaryOp .USub a _ => vOp1 opNeg (cE G n sc a)
    | .UnaryOp .Not a _ => vNotT (cE G n sc a)
    | .BoolOp .And es _ => foldAndV (es.map (cE G n sc))
    | .BoolOp .Or es _ => foldOrV (es.map (cE G n sc))
    | .Compare a [op] [b] _ => if isSetE b = true then bE else vOp2 (cmpOp op) (cE G n sc a) (cE G n sc b)
    | .Compare a [op, op'] [b, c] _ => if isSetE c = true then bE else vChain (cmpOp op) (cmpOp op') (cE G n sc a) (cE G n sc b) (cE G n sc c)
    | .IfExp t a b _ => vIfE (cT G n sc t) (cE G n sc a) (cE G n sc b)
    | .Subscript a b _ => match b with
      | .Slice lo hi none _ => vSl (cE G n sc a) (match lo with | none => vNoPart | some e => vPart (cE G n sc e)) (match hi with | none => vNoPart | some e => vPart (cE G n sc e))
      | .Slice _ _ (some _) _ => bE
      | b => vOp2 opIx (cE G n sc a) (cE G n sc b)
    | .Attribute o f _ => if superish o = false ∧ f ∈ G.flds then vOp1 (opFld G.okC f) (cE G n sc o) else bE
    | .Tuple es _ _ => if noneStar es = true then vTup (es.map (cE G n sc)) else bE
    | .List es _ => if noneStar es = true then vLst (es.map (cE G n sc)) else bE
    | .Dict [] [] _ => vDic0
    | .Dict [some k] [v] _ => vDic1B (cE G n sc k) (cE G n sc v)
    | .ListComp elt gens scope _ => match gens with
      | [⟨tg, iter, ifs, asy⟩] => if asy = 0 ∧ ifs.length < 2 ∧ isSetE iter = false ∧ blkC G.N sc scope (ownOf G.N scope) = true ∧ (∀ i ∈ (cG G scope n tg).1, i ∈ (ownOf G.N scope).map (·.2)) then
          vCompB (if G.kp = true then nameOf G.N sc iter else none) (cI G n sc (isTup tg) iter) (cG G scope n tg).2 (match ifs with | [] => vYes | [c] => cT G n scope c | _ => bT) (cE G n scope elt) ((ownOf G.N scope).map (·.2)) else bE
      | _ => bE
    | .Call (.Name f _) es [] _ => if okName f = true ∧ glo sc f = true ∧ noneStar es = true ∧ es ≠ [] then cCall G f (es.map (cE G n sc)) (match es with
        | [.Call (.Name g _) [a] [] _] => if g = ("range" : Str) ∧ glo sc g = true ∧ starred a = false then some (0, [cE G n sc a]) else if g = ("set" : Str) ∧ glo sc g = true ∧ starred a = false then some (1, [cE G n sc a]) else none
        | [.Call (.Name g _) [a, b] [] _] => if g = ("range" : Str) ∧ glo sc g = true ∧ starred a = false ∧ starred b = false then some (0, [cE G n sc a, cE G n sc b]) else none
        | _ => none) else bE
    | .Call (.Attribute o m apos) es [] pos => if superish o = false ∧ (apos.endLine == pos.line) = true ∧ noneStar es = true ∧ es.length < 30 then cMeth G m (match o with | .Name x _ => if okName x = true ∧ vis sc x = true then ixOf G.N x else none | _ => none) (cE G n sc o) (es.map (cE G n sc)) else bE
    | _ => bE
/-- a test -/
def cT (G : Glob) : Nat → Scope → Expr → STst
  | 0, _, _ => bT
  | n + 1, sc, e => match e with
    | .UnaryOp .Not a _ => vNot (cT G n sc a)
    | .BoolOp .And es _ => foldAnd (es.map (cT G n sc))
    | .BoolOp .Or es _ => foldOr (es.map (cT G n sc))
    | .Compare a [op] [b] _ => if isSetE b = true then bT else vTst (vOp2 (cmpOp op) (cE G n sc a) (cE G n sc b))
    | .Compare a [op, op'] [b, c] _ => if isSetE c = true then bT else vTst (vChain (cmpOp op) (cmpOp op') (cE G n sc a) (cE G n sc b) (cE G n sc c))
    | .Name x p => vTru (cE G n sc (.Name x p))
    | .Call f es ks p => vTru (cE G n sc (.Call f es ks p))
    | .Attribute o f p => vTru (cE G n sc (.Attribute o f p))
    | .Subscript a b p => vTru (cE G n sc (.Subscript a b p))
    | .ListComp a b c p => vTru (cE G n sc (.ListComp a b c p))
    | _ => bT
/-- what is walked; tup: the target is a tuple -/
def cI (G : Glob) : Nat → Scope → Bool → Expr → SI
  | 0, _, _, _ => bI
  | n + 1, sc, tup, e => match e with
    | .Call (.Name g _) [a] [] _ => if g = ("range" : Str) ∧ glo sc g = true ∧ starred a = false then vItR1 [cE G n sc a] else vItA (cE G n sc e)
    | .Call (.Name g _) [a, b] [] _ => if g = ("range" : Str) ∧ glo sc g = true ∧ starred a = false ∧ starred b = false then vItR2 [cE G n sc a, cE G n sc b] else if tup = true ∧ g = ("zip" : Str) ∧ glo sc g = true ∧ starred a = false ∧ starred b = false then vItZ [cE G n sc a, cE G n sc b] else vItA (cE G n sc e)
    | e => vItA (cE G n sc e)
/-- a call by name -/
def cCall (G : Glob) (f : Str) (fs : List SE) (rg : Option (Nat × List SE)) : SE :=
  match rg with
  | some (0, [a]) => if f = ("list" : Str) then vRgL1 a else if f = ("tuple" : Str) then vRgT1 a else bE
  | some (0, [a, b]) => if f = ("list" : Str) then vRgL2 a b else bE
  | some (1, [a]) => if f = ("sorted" : Str) then vSortSet a else if f = ("len" : Str) then vLenSet a else bE
  | some _ => bE
  | none => match G.fns f with
    | some S => vCall S fs
    | none => match G.mks f with
      | some S => vMake f S fs
      | none => match bltF f with
        | some op => vB op fs
        | none => match bltT f with
          | some op => vB op fs
          | none => bE
/-- a method's call -/
def cMeth (G : Glob) (m : Str) (i : Option Nat) (fo : SE) (fs : List SE) : SE :=
  match G.mths m with
  | some (c, S) => vMeth c m S fo fs
  | none => if m = ("get" : Str) then (match fs with | [f] => vGet fo f | _ => bE) else match i, fs with
    | some i, [] => match mutM0 m with
      | some op => vMut "list" op i []
      | none => bE
    | some i, f :: fs => match mutM m with
      | some op => vMut "list" op i (f :: fs)
      | none => if m = ("pop" : Str) then vMut "list" mPopAt i (f :: fs) else match readM m with
        | some op => vM "list" op fo (f :: fs)
        | none => bE
    | none, [] => bE
    | none, f :: fs => match readM m with
        | some op => vM "list" op fo (f :: fs)
        | none => bE
end
end VL
/-! V13: the compiled text is sound: expressions -/
namespace VL
open PySem PySem.Spec PyProof.Rows L2

structure CtxIn (G : Glob) (sc : Scope) (Z : Ctx) : Prop where
  hN : Z.X.N = G.N
  vis : ∀ x, VL.vis sc x = true → Vis Z.X.env.scope x
  glo : ∀ x, VL.glo sc x = true → Gl Z.X x
  loc : ∀ x, VL.loc sc x = true → Loc Z.X.env.scope x ∧ (Z.X.fn x = true ∨ Z.X.env.scope.names.lookup x = some .local)
  cf : ∀ x, (sc.names.lookup x = some .cell ∨ sc.names.lookup x = some .free) → (Z.X.env.scope.names.lookup x = some .cell ∨ Z.X.env.scope.names.lookup x = some .free)
  fk : Z.X.env.scope.kind = .function
/-- what the module's names are -/
structure GOk (G : Glob) (k : Nat) (P : Program) (w : World) (K : PySem.W.Frag) (mg : Str → Option Value) (base : Heap) : Prop where
  fn : ∀ x S, G.fns x = some S → ∃ f fd ps, mg x = some (.ref f) ∧ PySem.W.keepIn K (.ref f) = true ∧ L2.Binds K fd ps [] ∧ FnOk P w K mg base (L2.CX P w) k f fd ps (S.sp K mg)
  mkc : ∀ x S, G.mks x = some S → S.own0 = true ∧ ∃ C f fd ps, mg x = some (.ref C) ∧ Mk K C f ∧ L2.Binds K fd ps [] ∧ FnOk P w K mg base (L2.CX P w) k f fd ps (S.sp K mg)
  mth : ∀ m c S, G.mths m = some (c, S) → S.own0 = false ∧ ∃ C f fd ps, mg c = some (.ref C) ∧ Cls K C ∧ Meth K C m f ∧ L2.Binds K fd ps [] ∧ FnOk P w K mg base (L2.CX P w) k f fd ps (S.sp K mg)
  fld : ∀ f ∈ G.flds, FldOk K mg G.okC f
  blt : ∀ x ∈ bltNames, mg x = none
  con : ∀ x d, G.cons x = some d → ∃ v u, mg x = some u ∧ RelV v u ∧ ∀ F, Rep K mg F v d
  exc : ExcTab K mg G.excs
  ex : ∀ c ∈ G.excs, ∃ C fI fd, mg c = some (.ref C) ∧ OexC K C ∧ PySem.W.findIn K (.ref C) "__init__" = some (some (.ref fI)) ∧ PySem.W.typeIn K (.ref fI) = some (.type "function") ∧ L2.Binds K fd ["self", "what"] [] ∧
    FnOk P w K mg base (L2.CX P w) k fI fd ["self", "what"] (spX K C) ∧ XfC K C ∧ PySem.W.findIn K (.ref C) "what" = some none
abbrev GOkX (G : Glob) (k : Nat) (Z : Ctx) : Prop := GOk G k Z.X.prog Z.X.w Z.X.K Z.X.mg Z.X.base

section
variable {Z : Ctx} {G : Glob} {sc : Scope} {k : Nat} {e a b c : Expr} {es : List Expr} {pos p : Pos} {f fa fb fc : SE}
theorem ve_bad : VE Z e bE := ⟨fun _ _ _ => False, ⟨fun _ _ _ _ _ _ h => h.elim⟩, fun _ _ _ _ _ _ _ P => P.elim⟩
theorem vt_bad : VT Z e bT := ⟨fun _ _ _ => False, ⟨fun _ _ _ _ _ _ h => h.elim⟩, fun _ _ _ _ _ _ _ P => P.elim⟩
theorem vi_bad {tg : Expr} : VI Z tg e bI := ⟨fun _ _ _ => False, ⟨fun _ _ _ _ _ _ h => h.elim⟩, fun _ _ _ _ _ _ _ P => P.elim⟩
theorem ixOf_get {N : List Str} {x : Str} {i : Nat} (h : ixOf N x = some i) : N[i]? = some x := by
  unfold ixOf at h
  rw [List.findIdx?_eq_some_iff_getElem] at h
  obtain ⟨hi, h1, _⟩ := h
  rw [List.getElem?_eq_getElem hi, of_decide_eq_true h1]
theorem okName_d {x : Str} (h : okName x = true) : (x == ("__debug__" : Str)) = false ∧ (x == ("__classdict__" : Str)) = false ∧ x ≠ ("__name__" : Str) := by
  unfold okName at h
  simp only [Bool.and_eq_true, decide_eq_true_eq] at h
  obtain ⟨⟨h1, h2⟩, h3⟩ := h
  exact ⟨by simpa using h1, by simpa using h2, h3⟩
theorem ve_name {x : Str} {i : Nat} (C : CtxIn G sc Z) (ok : okName x = true) (hv : vis sc x = true) (hi : ixOf G.N x = some i) : VE Z (.Name x pos) (vName i) := by
  obtain ⟨h1, h2, h3⟩ := okName_d ok
  exact ⟨_, pe_var (by rw [C.hN]; exact ixOf_get hi) (C.vis x hv) h1 h2, re_name i⟩
theorem ve_con {x : Str} {d : D} (C : CtxIn G sc Z) (K : GOkX G k Z) (ok : okName x = true) (hv : glo sc x = true) (hd : G.cons x = some d) : VE Z (.Name x pos) (vC d) := by
  obtain ⟨v, u, hm, r, h⟩ := K.con x d hd
  exact ⟨_, pe_glob (C.glo x hv) hm r (okName_d ok).1, re_const h⟩
theorem tyOf_ok {x : Str} {t : String} (h : tyOf x = some t) : (t : Str) = x ∧ t ∈ tyNames := by
  unfold tyOf at h
  have h1 := List.find?_some h
  exact ⟨of_decide_eq_true h1, List.mem_of_find?_eq_some h⟩
theorem ty_boot : ∀ t ∈ tyNames, bootBuiltins (t : Str) = some (.type t) := by decide +kernel
theorem ty_blt : ∀ t ∈ tyNames, (t : Str) ∈ bltNames := by decide +kernel
theorem ve_ty {x : Str} {t : String} (C : CtxIn G sc Z) (K : GOkX G k Z) (ok : okName x = true) (hv : glo sc x = true) (hd : tyOf x = some t) : VE Z (.Name x pos) (vC (.ty t)) := by
  obtain ⟨rfl, ht⟩ := tyOf_ok hd
  obtain ⟨h1, h2, h3⟩ := okName_d ok
  exact ⟨_, pe_bltn (v := .ty t) (C.glo _ hv) (K.blt _ (ty_blt t ht)) (ty_boot t ht) rfl h3 h1, re_const fun F => .ty t⟩
theorem ve_int {i : Int} {j : Nat} : VE Z (.Constant (.int i) j pos) (vC (.int i)) := ⟨_, pe_int, re_const fun _ => .int i⟩
theorem ve_bl {i : Bool} {j : Nat} : VE Z (.Constant (.bool i) j pos) (vC (.bl i)) := ⟨_, pe_bl, re_const fun _ => .bl i⟩
theorem ve_non {j : Nat} : VE Z (.Constant .none j pos) (vC .non) := ⟨_, pe_non, re_const fun _ => .non⟩
theorem ve_str {i : Str} {j : Nat} : VE Z (.Constant (.str i) j pos) (vC (.str i)) := ⟨_, pe_str, re_const fun _ => .str i⟩
theorem ve_bin {op : Operator} {g : D → D → Option Pv} (h : binOp op = some g) (ha : VE Z a fa) (hb : VE Z b fb) : VE Z (.BinOp a op b pos) (vOp2 g fa fb) := by
  obtain ⟨ta, a1, a2⟩ := ha
  obtain ⟨tb, b1, b2⟩ := hb
  cases op <;> first | (cases h; done) | skip
  · cases h; exact ⟨_, pe_op or_add a1 b1, re_op2 add_add a2 b2⟩
  · cases h; exact ⟨_, pe_op op_sub a1 b1, re_op2 sub_sub a2 b2⟩
  · cases h; exact ⟨_, pe_op or_mul a1 b1, re_op2 mul_mul a2 b2⟩
  · cases h; exact ⟨_, pe_op op_mod a1 b1, re_op2 mod_mod a2 b2⟩
  · cases h; exact ⟨_, pe_op op_pow a1 b1, re_op2 pow_pow a2 b2⟩
  · cases h; exact ⟨_, pe_op op_fdiv a1 b1, re_op2 fdiv_fdiv a2 b2⟩
theorem ve_neg (ha : VE Z a fa) : VE Z (.UnaryOp .USub a pos) (vOp1 opNeg fa) := let ⟨_, a1, a2⟩ := ha; ⟨_, pe_un un_neg a1, re_op1 neg_neg' a2⟩
theorem ve_notT (ha : VE Z a fa) : VE Z (.UnaryOp .Not a pos) (vNotT fa) := let ⟨_, a1, a2⟩ := ha; ⟨_, pe_notT a1, re_notT a2⟩
theorem nomarks {op : CmpOp} (h : isSetE b = false) : behindInMarks op b = false := by
  cases b <;> first | rfl | cases h
theorem lastm {op op' : CmpOp} {b c : Expr} (h : isSetE c = false) : lastMarks [op, op'] [b, c] = false := nomarks h
/-- each comparison's rule -/
theorem cmp_rule (z : Z.Ok k) (op : CmpOp) : ∃ r, OpR Z.X (compareOp op) r ∧ Op2 Z.X.K Z.X.mg r (cmpOp op) := by
  cases op
  · exact ⟨_, op_eqD z.u64, eq_eq⟩
  · exact ⟨_, op_neD z.u64, ne_ne⟩
  · exact ⟨_, op_lt, lt_lt⟩
  · exact ⟨_, op_le, le_le⟩
  · exact ⟨_, op_gt, gt_gt⟩
  · exact ⟨_, op_ge, ge_ge⟩
  · exact ⟨_, or_is, is_is⟩
  · exact ⟨_, or_isnot, isnot_isnot⟩
  · exact ⟨_, or_in z.u65, in_in⟩
  · exact ⟨_, or_notin z.u65, notin_notin⟩
theorem vc_cmp (z : Z.Ok k) {op : CmpOp} (h : isSetE b = false) (ha : VE Z a fa) (hb : VE Z b fb) : VC Z (.Compare a [op] [b] pos) (vOp2 (cmpOp op) fa fb) := by
  obtain ⟨ta, a1, a2⟩ := ha
  obtain ⟨tb, b1, b2⟩ := hb
  obtain ⟨r, h1, h2⟩ := cmp_rule z op
  exact ⟨_, pe_cmpR h1 a1 b1 (nomarks h), pt_cmpR h1 a1 b1 (nomarks h), re_op2 h2 a2 b2⟩
theorem vc_chain (z : Z.Ok k) {op op' : CmpOp} (h : isSetE c = false) (ha : VE Z a fa) (hb : VE Z b fb) (hc : VE Z c fc) : VC Z (.Compare a [op, op'] [b, c] pos) (vChain (cmpOp op) (cmpOp op') fa fb fc) := by
  obtain ⟨ta, a1, a2⟩ := ha
  obtain ⟨tb, b1, b2⟩ := hb
  obtain ⟨tc, c1, c2⟩ := hc
  obtain ⟨r, h1, h2⟩ := cmp_rule z op
  obtain ⟨r', h3, h4⟩ := cmp_rule z op'
  exact ⟨_, pe_chain h1 h3 a1 b1 c1 (lastm h), pt_chain h1 h3 a1 b1 c1 (lastm h), re_chain h2 h4 a2 b2 c2⟩
theorem ve_if {t : Expr} {g : STst} (ht : VT Z t g) (ha : VE Z a fa) (hb : VE Z b fb) : VE Z (.IfExp t a b pos) (vIfE g fa fb) := by
  obtain ⟨_, t1, t2⟩ := ht
  obtain ⟨_, a1, a2⟩ := ha
  obtain ⟨_, b1, b2⟩ := hb
  exact ⟨_, pe_ifExp t1 a1 b1, re_if t2 a2 b2⟩
theorem ve_and : ∀ {es : List Expr} {h : Expr → SE}, (∀ e ∈ es, VE Z e (h e)) → VE Z (.BoolOp .And es pos) (foldAndV (es.map h))
  | [], h, _ => ve_bad
  | [e], h, q => let ⟨_, a1, a2⟩ := q e List.mem_cons_self; ⟨_, pe_one a1, a2⟩
  | e :: e2 :: r, h, q => by
    obtain ⟨_, a1, a2⟩ := q e List.mem_cons_self
    obtain ⟨_, b1, b2⟩ := ve_and (es := e2 :: r) (h := h) fun x hx => q x (List.mem_cons_of_mem _ hx)
    exact ⟨_, pe_and a1 b1, re_andV a2 b2⟩
theorem ve_or : ∀ {es : List Expr} {h : Expr → SE}, (∀ e ∈ es, VE Z e (h e)) → VE Z (.BoolOp .Or es pos) (foldOrV (es.map h))
  | [], h, _ => ve_bad
  | [e], h, q => let ⟨_, a1, a2⟩ := q e List.mem_cons_self; ⟨_, pe_one a1, a2⟩
  | e :: e2 :: r, h, q => by
    obtain ⟨_, a1, a2⟩ := q e List.mem_cons_self
    obtain ⟨_, b1, b2⟩ := ve_or (es := e2 :: r) (h := h) fun x hx => q x (List.mem_cons_of_mem _ hx)
    exact ⟨_, pe_or a1 b1, re_orV a2 b2⟩
theorem vw_and : ∀ {es : List Expr} {h : Expr → STst}, (∀ e ∈ es, VT Z e (h e)) → VW Z (.BoolOp .And es pos) (foldAnd (es.map h))
  | [], h, _ => ⟨fun _ _ _ => False, ⟨fun _ _ _ _ _ _ _ h => h.elim⟩, fun _ _ _ _ _ _ _ P => P.elim⟩
  | [e], h, q => let ⟨_, a1, a2⟩ := q e List.mem_cons_self; ⟨_, pw_and1 a1, a2⟩
  | e :: e2 :: r, h, q => by
    obtain ⟨_, a1, a2⟩ := q e List.mem_cons_self
    obtain ⟨_, b1, b2⟩ := vw_and (es := e2 :: r) (h := h) fun x hx => q x (List.mem_cons_of_mem _ hx)
    exact ⟨_, pw_and a1 b1, rt_and a2 b2⟩
theorem vw_or : ∀ {es : List Expr} {h : Expr → STst}, (∀ e ∈ es, VT Z e (h e)) → VW Z (.BoolOp .Or es pos) (foldOr (es.map h))
  | [], h, _ => ⟨fun _ _ _ => False, ⟨fun _ _ _ _ _ _ _ h => h.elim⟩, fun _ _ _ _ _ _ _ P => P.elim⟩
  | [e], h, q => let ⟨_, a1, a2⟩ := q e List.mem_cons_self; ⟨_, pw_or1 a1, a2⟩
  | e :: e2 :: r, h, q => by
    obtain ⟨_, a1, a2⟩ := q e List.mem_cons_self
    obtain ⟨_, b1, b2⟩ := vw_or (es := e2 :: r) (h := h) fun x hx => q x (List.mem_cons_of_mem _ hx)
    exact ⟨_, pw_or a1 b1, rt_or a2 b2⟩
theorem VW.vt {g : STst} (h : VW Z e g) : VT Z e g := let ⟨_, a, b⟩ := h; ⟨_, a.pt, b⟩
theorem va_all : ∀ {es : List Expr} {h : Expr → SE}, noneStar es = true → (∀ e ∈ es, VE Z e (h e)) → VA Z es (vArgs (es.map h))
  | [], h, _, _ => ⟨_, pa_nil, ra_nil⟩
  | e :: r, h, n, q => by
    unfold noneStar at n
    rw [List.all_cons, Bool.and_eq_true] at n
    obtain ⟨_, a1, a2⟩ := q e List.mem_cons_self
    obtain ⟨_, b1, b2⟩ := va_all (es := r) (h := h) n.2 fun x hx => q x (List.mem_cons_of_mem _ hx)
    exact ⟨_, pa_cons a1 b1 (starEach_cons (by simpa using n.1)), ra_cons a2 b2⟩
theorem plain_ix (h : isSlice b = false) : PlainIx b := by
  intro o i
  cases b <;> first | rfl | cases h
theorem ve_ix (z : Z.Ok k) (h : isSlice b = false) (ha : VE Z a fa) (hb : VE Z b fb) : VE Z (.Subscript a b pos) (vOp2 opIx fa fb) := by
  obtain ⟨_, a1, a2⟩ := ha
  obtain ⟨_, b1, b2⟩ := hb
  exact ⟨_, pe_ix (or_ix z.u1) a1 b1 (plain_ix h), re_op2 ix_ix a2 b2⟩
theorem ve_sl {lo hi : Option Expr} {l u : SO} (ha : VE Z a fa) (hl : VO Z lo l) (hu : VO Z hi u) : VE Z (.Subscript a (.Slice lo hi none p) pos) (vSl fa l u) := by
  obtain ⟨_, a1, a2⟩ := ha
  obtain ⟨_, b1, b2⟩ := hl
  obtain ⟨_, c1, c2⟩ := hu
  exact ⟨_, pe_slice sl_V a1 b1 c1, re_sl a2 b2 c2⟩
theorem vo_none : VO Z none vNoPart := ⟨_, po_none, ro_no⟩
theorem vo_some (h : VE Z e f) : VO Z (some e) (vPart f) := let ⟨_, a, b⟩ := h; ⟨_, po_some a, ro_part b⟩
theorem ve_fld {x : Str} (K : GOkX G k Z) (hs : superish a = false) (hf : x ∈ G.flds) (ha : VE Z a fa) : VE Z (.Attribute a x pos) (vOp1 (opFld G.okC x) fa) := by
  obtain ⟨ta, a1, a2⟩ := ha
  exact ⟨_, pe_fld a1 (attr_base hs), re_op1 (ta := ta) (r := rFld Z.X.K x) (fld_fld (K.fld x hf)) a2⟩
theorem ve_tup {fs : List SE} {j : Nat} (h : VA Z es (vArgs fs)) : VE Z (.Tuple es j pos) (vTup fs) := let ⟨_, a, b⟩ := h; ⟨_, pe_tup a, re_tup b⟩
theorem ve_lst {fs : List SE} (h : VA Z es (vArgs fs)) : VE Z (.List es pos) (vLst fs) := let ⟨_, a, b⟩ := h; ⟨_, pe_lst a, re_lst b⟩
theorem ve_dic0 : VE Z (.Dict [] [] pos) vDic0 := ⟨_, pe_dnewK, re_dic0⟩
theorem ve_dic1 {j : Nat} (z : Z.Ok j) (ha : VE Z a fa) (hb : VE Z b fb) : VE Z (.Dict [some a] [b] pos) (vDic1B fa fb) := by
  obtain ⟨_, a1, a2⟩ := ha
  obtain ⟨_, b1, b2⟩ := hb
  exact ⟨_, pe_alt (pe_disp (pps_cons a1 b1 pps_nil) rfl rfl (fun z => by cases z) (by show 1 ≤ 15; decide)) (pe_dispT z.u1 a1 b1), re_dic1B a2 b2⟩
theorem vt_tru (ha : VE Z a fa) (he : ∀ whole, isTrue a Z.X.env whole = (do let v ← whole; standAt a.pos; holding [v] (truthy v))) : VT Z a (vTru fa) := let ⟨_, a1, a2⟩ := ha; ⟨_, pt_truth a1 he, rt_tru a2⟩
theorem vt_not {g : STst} (h : VT Z a g) : VT Z (.UnaryOp .Not a pos) (vNot g) := let ⟨_, a1, a2⟩ := h; ⟨_, pt_not a1, rt_not a2⟩

/-! ### calls -/
/-- the built-in functions' rules -/
theorem blt_rule (z : Z.Ok k) {x : Str} {op : List D → Option Pv} (h : bltF x = some op) : x ∈ bltNames ∧ x ≠ ("__name__" : Str) ∧ ∃ id r, bootBuiltins x = some (.builtin id) ∧ CallR Z.X (.builtin id) r ∧ OpN Z.X.K Z.X.mg r op := by
  unfold bltF at h
  repeat' split at h
  all_goals first | (cases h; done) | skip
  all_goals (rename_i e; subst e; cases h; refine ⟨by decide +kernel, by decide +kernel, ?_⟩)
  · exact ⟨"len", _, by decide +kernel, cr_len, len_len⟩
  · exact ⟨"abs", _, by decide +kernel, call_abs, abs_abs⟩
  · exact ⟨"min", _, by decide +kernel, cr_minV z.calm, min_min⟩
  · exact ⟨"max", _, by decide +kernel, cr_maxV z.calm, max_max⟩
  · exact ⟨"sum", _, by decide +kernel, cr_sum z.calm, sum_sum⟩
  · exact ⟨"all", _, by decide +kernel, cr_all z.calm, all_all⟩
  · exact ⟨"any", _, by decide +kernel, cr_any z.calm, any_any⟩
  · exact ⟨"sorted", _, by decide +kernel, cr_sortedB z.calm, sorted_sortedB⟩
  · exact ⟨"isinstance", _, by decide +kernel, cr_isi, isi_isi⟩
theorem bltT_rule (z : Z.Ok k) {x : Str} {op : List D → Option Pv} (h : bltT x = some op) : x ∈ bltNames ∧ x ≠ ("__name__" : Str) ∧ ∃ id r, bootBuiltins x = some (.type id) ∧ CallR Z.X (.type id) r ∧ OpN Z.X.K Z.X.mg r op := by
  unfold bltT at h
  repeat' split at h
  all_goals first | (cases h; done) | skip
  all_goals (rename_i e; subst e; cases h; refine ⟨by decide +kernel, by decide +kernel, ?_⟩)
  · exact ⟨"int", _, by decide +kernel, call_int1, int_int⟩
  · exact ⟨"list", _, by decide +kernel, call_list_of, list_list⟩
  · exact ⟨"tuple", _, by decide +kernel, call_tuple_of, tuple_tuple⟩
theorem ve_call (C : CtxIn G sc Z) (z : Z.Ok (k + 1)) (K : GOkX G k Z) {x : Str} (ok : okName x = true) (hg : glo sc x = true) {fs : List SE} (n : noneStar es = true) (hne : es ≠ []) (h : VA Z es (vArgs fs)) : VE Z (.Call (.Name x p) es [] pos) (cCall G x fs none) := by
  obtain ⟨e0, es', rfl⟩ : ∃ e0 es', es = e0 :: es' := by
    cases es with
    | nil => exact absurd rfl hne
    | cons e0 es' => exact ⟨e0, es', rfl⟩
  obtain ⟨t, a1, a2⟩ := h
  obtain ⟨d1, d2, d3⟩ := okName_d ok
  unfold noneStar at n
  have n2 := n
  rw [List.all_cons, Bool.and_eq_true] at n2
  have he := starEach_cons (env := Z.X.env) (es := es') (show starred e0 = false by simpa using n2.1)
  have hpl : (backTo pos (starEach es' Z.X.env)).any (·.1) = false := no_stars n2.2
  unfold cCall
  cases h1 : G.fns x with
  | some S =>
    obtain ⟨f, fd, ps, hm, hk, hb, F⟩ := K.fn x S h1
    exact ⟨_, pe_callS F (z.room.mono (Nat.le_succ k)) (C.glo x hg) hm hk hb (fun σ => passAt z.tk σ) a1 d1 he hpl, re_call a2⟩
  | none =>
    cases h2 : G.mks x with
    | some S =>
      obtain ⟨ho, CC, f, fd, ps, hm, M, hb, F⟩ := K.mkc x S h2
      exact ⟨_, pe_make M F z.room (C.glo x hg) hm hb .nil passL a1 d1 he hpl, re_make ho hm a2⟩
    | none =>
      cases h3 : bltF x with
      | some op =>
        obtain ⟨b1, b2, id, r, b3, b4, b5⟩ := blt_rule z h3
        exact ⟨_, pe_callB b4 (C.glo x hg) (K.blt x b1) b3 a1 b2 d1 he hpl, re_B b5 a2⟩
      | none =>
        cases h4 : bltT x with
        | some op =>
          obtain ⟨b1, b2, id, r, b3, b4, b5⟩ := bltT_rule z h4
          exact ⟨_, pe_callTy b4 (C.glo x hg) (K.blt x b1) b3 a1 b2 d1 he hpl, re_B b5 a2⟩
        | none => exact ve_bad
theorem star1 {e : Expr} {env : PySem.Env} (h : starred e = false) : starEach [e] env = [(false, eval e env)] := starEach_cons h
theorem ve_rg1 {j : Nat} (C : CtxIn G sc Z) (z : Z.Ok j) (K : GOkX G k Z) {x : Str} {p2 p3 : Pos} (hg : glo sc x = true) (hg2 : glo sc "range" = true) (hs : starred a = false) (ha : VE Z a fa) :
    VE Z (.Call (.Name x p) [.Call (.Name "range" p2) [a] [] p3] [] pos) (if x = ("list" : Str) then vRgL1 fa else if x = ("tuple" : Str) then vRgT1 fa else bE) := by
  obtain ⟨t, a1, a2⟩ := ha
  have R := prg_1 (pos := p3) (p := p2) (C.glo _ hg2) (K.blt _ (by decide +kernel)) a1 (starEach_cons hs)
  split
  · rename_i e
    subst e
    exact ⟨_, pe_listRg z.calm (C.glo _ hg) (K.blt _ (by decide +kernel)) R (starEach_cons rfl), re_rgL1 a2⟩
  · split
    · rename_i e
      subst e
      exact ⟨_, pe_tupRg z.calm (C.glo _ hg) (K.blt _ (by decide +kernel)) R (starEach_cons rfl), re_rgT1 a2⟩
    · exact ve_bad
theorem ve_rg2 {j : Nat} (C : CtxIn G sc Z) (z : Z.Ok j) (K : GOkX G k Z) {x : Str} {p2 p3 : Pos} (hg : glo sc x = true) (hg2 : glo sc "range" = true) (hs : starred a = false) (hs2 : starred b = false) (ha : VE Z a fa) (hb : VE Z b fb) :
    VE Z (.Call (.Name x p) [.Call (.Name "range" p2) [a, b] [] p3] [] pos) (if x = ("list" : Str) then vRgL2 fa fb else bE) := by
  obtain ⟨t, a1, a2⟩ := ha
  obtain ⟨u, b1, b2⟩ := hb
  have R := prg_2 (pos := p3) (p := p2) (C.glo _ hg2) (K.blt _ (by decide +kernel)) a1 b1 (starEach_cons hs) (starEach_cons hs2) (no_stars (by simp [hs2]))
  split
  · rename_i e
    subst e
    exact ⟨_, pe_listRg z.calm (C.glo _ hg) (K.blt _ (by decide +kernel)) R (starEach_cons rfl), re_rgL2 a2 b2⟩
  · exact ve_bad

theorem ve_set1 {j : Nat} (C : CtxIn G sc Z) (z : Z.Ok j) (K : GOkX G k Z) {x : Str} {p2 p3 : Pos} (hg : glo sc x = true) (hg2 : glo sc "set" = true) (hs : starred a = false) (ha : VE Z a fa) :
    VE Z (.Call (.Name x p) [.Call (.Name "set" p2) [a] [] p3] [] pos) (if x = ("sorted" : Str) then vSortSet fa else if x = ("len" : Str) then vLenSet fa else bE) := by
  obtain ⟨t, a1, a2⟩ := ha
  split
  · rename_i e
    subst e
    exact ⟨_, pe_sortSet (C.glo _ hg) (K.blt _ (by decide +kernel)) (C.glo _ hg2) (K.blt _ (by decide +kernel)) a1 z.calm (starEach_cons hs), re_sortSet a2⟩
  · split
    · rename_i e
      subst e
      exact ⟨_, pe_alt (pe_lenSetB (C.glo _ hg) (K.blt _ (by decide +kernel)) (C.glo _ hg2) (K.blt _ (by decide +kernel)) a1 z.calm (starEach_cons hs)) (pe_lenSetN (C.glo _ hg) (K.blt _ (by decide +kernel)) (C.glo _ hg2) (K.blt _ (by decide +kernel)) a1 z.calm z.u65 (starEach_cons hs)), re_lenSetB a2⟩
    · exact ve_bad

/-! ### methods -/
theorem few_plain {env : PySem.Env} {pos : Pos} (n : es.all (fun e => !starred e) = true) (hl : es.length < 30) : ((backTo pos (starEach es env)).all (fun x => !x.1) && (backToKw pos (keywordEach [] env)).all (fun x => x.1.isSome)
      && decide (es.length + ([] : List Keyword).length + (if ([] : List Keyword).isEmpty then 0 else 1) < 30)) = true := by
  rw [all_plain n]
  show (true && true && decide (es.length + 0 + 0 < 30)) = true
  simpa using hl
theorem mut_rule {m : Str} {op : D → List D → Option (D × D)} (hu : Z.X.A.units + 65 < cLine) (h : mutM m = some op) : ∃ id r, PySem.Slot "list" m id ∧ typeOf (.builtin id) = pure (.type "method_descriptor") ∧ MtR Z.X id r ∧ OpMut Z.X.K Z.X.mg r op := by
  unfold mutM at h
  repeat' split at h
  all_goals first | (cases h; done) | skip
  all_goals (rename_i e; subst e; cases h)
  · exact ⟨_, _, PySem.F.slot_list_append, PySem.F.type_list_append, mt_append, append_append⟩
  · exact ⟨_, _, PySem.F.slot_list_remove, PySem.F.type_list_remove, MtR.or2 mt_remove (mt_removeD hu), remove_removeB⟩
theorem mut0_rule {m : Str} {op : D → List D → Option (D × D)} (h : mutM0 m = some op) : ∃ id r, PySem.Slot "list" m id ∧ typeOf (.builtin id) = pure (.type "method_descriptor") ∧ MtR Z.X id r ∧ OpMut Z.X.K Z.X.mg r op := by
  unfold mutM0 at h
  repeat' split at h
  all_goals first | (cases h; done) | skip
  all_goals (rename_i e; subst e; cases h)
  · exact ⟨_, _, PySem.F.slot_list_pop, PySem.F.type_list_pop, mt_pop, pop_pop⟩
  · exact ⟨_, _, PySem.F.slot_list_reverse, PySem.F.type_list_reverse, mt_reverse, reverse_reverse⟩
theorem read_rule {m : Str} {op : D → List D → Option Pv} (h : readM m = some op) : ∃ id r, PySem.Slot "list" m id ∧ typeOf (.builtin id) = pure (.type "method_descriptor") ∧ MtR Z.X id r ∧ OpM Z.X.K Z.X.mg r op := by
  unfold readM at h
  repeat' split at h
  all_goals first | (cases h; done) | skip
  all_goals (rename_i e; subst e; cases h)
  · exact ⟨_, _, PySem.F.slot_list_count, PySem.F.type_list_count, mt_lcount, count_count⟩
  · exact ⟨_, _, PySem.F.slot_list_index, PySem.F.type_list_index, mt_index, index_index⟩
theorem ve_meth (C : CtxIn G sc Z) (z : Z.Ok (k + 1)) (K : GOkX G k Z) {m : Str} {o : Expr} {apos : Pos} {i : Option Nat} {fo : SE} {fs : List SE} (hs : superish o = false) (hl : (apos.endLine == pos.line) = true) (n : noneStar es = true) (hn : es.length < 30)
    (hi : ∀ j, i = some j → PE Z.X o (tVar j)) (ho : VE Z o fo) (h : VA Z es (vArgs fs)) (hfs : fs.length = es.length) (h1 : ∀ e f, es = [e] → fs = [f] → VE Z e f) : VE Z (.Call (.Attribute o m apos) es [] pos) (cMeth G m i fo fs) := by
  obtain ⟨to, o1, o2⟩ := ho
  obtain ⟨t, a1, a2⟩ := h
  have hbase := attr_base (m := m) (env := Z.X.env) (w := eval o Z.X.env) hs
  unfold noneStar at n
  unfold cMeth
  cases hm : G.mths m with
  | some cS =>
    obtain ⟨c, S⟩ := cS
    obtain ⟨hb0, CC, f, fd, ps, hmg, cl, me, hb, F⟩ := K.mth m c S hm
    have ht := meth_eq (env := Z.X.env) (m := m) hs hl n hn
    cases es with
    | nil =>
      cases fs with
      | cons _ _ => cases hfs
      | nil =>
        refine ⟨_, pe_meth0 o1 cl me F (z.room.mono (Nat.le_succ k)) hb .nil passL ht, ?_⟩
        exact re_meth hb0 hmg o2 ra_nil
    | cons e es' =>
      rw [List.all_cons, Bool.and_eq_true] at n
      exact ⟨_, pe_meth o1 cl me F (z.room.mono (Nat.le_succ k)) hb .nil passL a1 (starEach_cons (by simpa using n.1)) (no_stars n.2) ht, re_meth hb0 hmg o2 a2⟩
  | none =>
    dsimp only
    by_cases hget : m = ("get" : Str)
    · rw [if_pos hget]
      split
      · rename_i f
        match es, hfs with
        | [e], _ =>
          subst hget
          obtain ⟨te, e1, e2⟩ := h1 e f rfl rfl
          rw [List.all_cons, Bool.and_eq_true] at n
          exact ⟨_, pe_dget1 z.u1 o1 e1 ⟨hbase, few_plain (by rw [List.all_cons, n.1]; rfl) (by simp), hl, by rw [star1 (by simpa using n.1)]; rfl⟩, re_get o2 e2⟩
      · exact ve_bad
    rw [if_neg hget]
    cases fs with
    | nil =>
      cases es with
      | cons _ _ => cases hfs
      | nil =>
        cases i with
        | none => exact ve_bad
        | some j =>
          dsimp only
          split
          · rename_i op e
            obtain ⟨id, r, s1, s2, s3, s4⟩ := mut0_rule (Z := Z) e
            exact ⟨_, pe_bm0 PySem.F.plainAttrs_list s1 s2 s3 (hi j rfl) hbase hl, re_mut0 s4⟩
          · exact ve_bad
    | cons f0 fs' =>
      cases es with
      | nil => cases hfs
      | cons e es' =>
        have n2 := n
        rw [List.all_cons, Bool.and_eq_true] at n2
        have he := starEach_cons (env := Z.X.env) (es := es') (show starred e = false by simpa using n2.1)
        have hpl : (backTo pos (starEach es' Z.X.env)).any (·.1) = false := no_stars n2.2
        have few := few_plain (env := Z.X.env) (pos := pos) n hn
        have rd : ∀ {op : D → List D → Option Pv}, readM m = some op → VE Z (.Call (.Attribute o m apos) (e :: es') [] pos) (vM "list" op fo (f0 :: fs')) := fun {op} q => by
          obtain ⟨id, r, s1, s2, s3, s4⟩ := read_rule (Z := Z) q
          exact ⟨_, pe_bm PySem.F.plainAttrs_list s1 s2 s3 o1 a1 hbase few hl he hpl, re_M s4 o2 a2⟩
        cases i with
        | none =>
          dsimp only
          split
          · rename_i op q
            exact rd q
          · exact ve_bad
        | some j =>
          dsimp only
          split
          · rename_i op q
            obtain ⟨id, r, s1, s2, s3, s4⟩ := mut_rule (Z := Z) z.u65 q
            exact ⟨_, pe_bm PySem.F.plainAttrs_list s1 s2 s3 (hi j rfl) a1 hbase few hl he hpl, re_mut s4 a2⟩
          · split
            · rename_i q
              subst q
              exact ⟨_, pe_bm PySem.F.plainAttrs_list PySem.F.slot_list_pop PySem.F.type_list_pop mt_popAt (hi j rfl) a1 hbase few hl he hpl, re_mut popAt_popAt a2⟩
            · split
              · rename_i op q
                exact rd q
              · exact ve_bad
end
end VL
/-! V14: the compiled text is sound: comprehensions, what is walked, the induction -/
namespace VL
open PySem PySem.Spec PyProof.Rows L2

/-! ### readings of their own -/
def canE (Z : Ctx) (f : SE) : TE := fun σ H Q => ∃ Y F ρ, Z.R Y F ρ σ H ∧ Post (BV Z Y σ Q) Z Y σ F (f ρ)
def canT (Z : Ctx) (g : STst) : TT := fun σ H Q => ∃ Y F ρ, Z.R Y F ρ σ H ∧ Post (BT Z Y σ Q) Z Y σ F (g ρ)
def canG (Z : Ctx) (gs : List Nat) (h : D → Env → Option Env) : TG := fun v σ H Q => ∃ Y F ρ d ρ', Z.R Y F ρ σ H ∧ Rep Z.X.K Z.X.mg F v d ∧ h d ρ = some ρ' ∧ (∀ σ', Z.R Y F ρ' σ' H → (∀ vs : List Nat, (∀ i ∈ gs, i ∈ vs) → wipe σ' vs = wipe σ vs) → Q σ' H)
section
variable {Z : Ctx} {G : Glob} {sc scope : Scope} {k : Nat} {e a b c elt tg iter : Expr} {es ifs : List Expr} {pos p : Pos} {f fa fb fc : SE} {g : STst} {gs : List Nat} {h : D → Env → Option Env}
theorem VE.can (q : VE Z e f) : PE Z.X e (canE Z f) := let ⟨_, h1, h2⟩ := q; ⟨fun pins s σ H Q I ⟨Y, F, ρ, R, P⟩ => h1.run pins s σ H Q I (h2 Y F ρ σ H Q R P)⟩
theorem VT.can (q : VT Z e g) : PT Z.X e (canT Z g) := let ⟨_, h1, h2⟩ := q; ⟨fun pins s σ H Q I ⟨Y, F, ρ, R, P⟩ => h1.run pins s σ H Q I (h2 Y F ρ σ H Q R P)⟩
theorem VG.can (q : VG Z gs e h) : PG Z.X e (canG Z gs h) := let ⟨_, h1, h2⟩ := q; ⟨fun pins s σ H v u Q I r ⟨Y, F, ρ, d, ρ', R, rv, eh, hq⟩ => h1.run pins s σ H v u Q I r (h2 Y F ρ σ H v d Q ρ' R rv eh hq)⟩
theorem canE_re : RE Z (canE Z f) f := fun Y F ρ σ H Q R P => ⟨Y, F, ρ, R, P⟩
theorem canT_rt : RT' Z (canT Z g) g := fun Y F ρ σ H Q R P => ⟨Y, F, ρ, R, P⟩
theorem canG_rg : RG Z gs (canG Z gs h) h := fun Y F ρ σ H v d Q ρ' R r e q => ⟨Y, F, ρ, d, ρ', R, r, e, q⟩

/-! ### a comprehension's scope -/
theorem relab {env : PySem.Env} : ∀ {names : List (Str × NameKind)} {x : Str} {k : NameKind}, names.lookup x = some k →
    ∃ k', (names.map fun (n, k) => if (k == NameKind.free && env.scope.kind == .function && env.kindOf n == some .cell) then (n, NameKind.cell) else (n, k)).lookup x = some k' ∧ (k' = k ∨ (k = .free ∧ k' = .cell))
  | [], _, _, h => by cases h
  | (n, k0) :: r, x, k, h => by
    rw [List.map_cons]
    rw [List.lookup_cons] at h
    by_cases hx : (x == n) = true
    · rw [hx] at h
      cases h
      dsimp only
      by_cases hc : (k0 == NameKind.free && env.scope.kind == .function && env.kindOf n == some .cell) = true
      · rw [if_pos hc]
        simp only [Bool.and_eq_true, beq_iff_eq] at hc
        exact ⟨.cell, by rw [List.lookup_cons, hx], .inr ⟨hc.1.1, rfl⟩⟩
      · rw [if_neg hc]
        exact ⟨k0, by rw [List.lookup_cons, hx], .inl rfl⟩
    · have hx' : (x == n) = false := by simpa using hx
      rw [hx'] at h
      obtain ⟨k', h1, h2⟩ := relab (env := env) h
      refine ⟨k', ?_, h2⟩
      dsimp only
      split
      · rw [List.lookup_cons, hx']; exact h1
      · rw [List.lookup_cons, hx']; exact h1
theorem blk_in (C : CtxIn G sc Z) (hk : scope.kind = .function) {s : Shared} {H : Hp} {A : Addr} {cl : List (Str × Addr)} {fp : List Addr} {W : WX} : CtxIn G scope ⟨Z.X.blk s H scope (compEnvC scope cl A Z.X.env) fp, W⟩ where
  hN := C.hN
  vis := fun x hx => by
    unfold VL.vis at hx
    split at hx
    · rename_i e
      obtain ⟨k', h1, rfl | ⟨z, _⟩⟩ := relab (env := Z.X.env) e
      · exact .inl h1
      · cases z
    · rename_i e
      obtain ⟨k', h1, rfl | ⟨z, _⟩⟩ := relab (env := Z.X.env) e
      · exact .inr (.inl h1)
      · cases z
    · rename_i e
      obtain ⟨k', h1, rfl | ⟨_, rfl⟩⟩ := relab (env := Z.X.env) e
      · exact .inr (.inr h1)
      · exact .inr (.inl h1)
    · cases hx
  glo := fun x hx => by
    unfold VL.glo at hx
    split at hx
    · rename_i e
      obtain ⟨k', h1, rfl | ⟨z, _⟩⟩ := relab (env := Z.X.env) e
      · exact h1
      · cases z
    · cases hx
  loc := fun x hx => by
    unfold VL.loc at hx
    split at hx
    · rename_i e
      obtain ⟨k', h1, rfl | ⟨z, _⟩⟩ := relab (env := Z.X.env) e
      · exact ⟨.inl h1, .inr h1⟩
      · cases z
    · rename_i e
      obtain ⟨k', h1, rfl | ⟨z, _⟩⟩ := relab (env := Z.X.env) e
      · exact ⟨.inr h1, .inl (by show (scope.names.lookup x == some .cell) = true; rw [e]; rfl)⟩
      · cases z
    · cases hx
  cf := fun x hx => by
    rcases hx with e | e
    · obtain ⟨k', h1, rfl | ⟨z, _⟩⟩ := relab (env := Z.X.env) e
      · exact .inl h1
      · cases z
    · obtain ⟨k', h1, rfl | ⟨_, rfl⟩⟩ := relab (env := Z.X.env) e
      · exact .inr h1
      · exact .inl h1
  fk := hk
theorem blk_ok (z : Z.Ok k) {s : Shared} {H : Hp} {A : Addr} {cl : List (Str × Addr)} {fp : List Addr} {env : PySem.Env} : Ctx.Ok ⟨Z.X.blk s H scope env fp, fun _ _ _ _ => False⟩ k := ⟨z.room, z.calm, takes0, z.nd⟩
theorem no_set {env : PySem.Env} (h : isSetE iter = false) : ∀ x, foldedSetIterable iter env x = pure x := by
  intro x
  cases iter <;> first | rfl | cases h
theorem blk_of (C : CtxIn G sc Z) (h : blkC G.N sc scope (ownOf G.N scope) = true) : BlkOk Z.X.N Z.X.env.scope scope (ownOf G.N scope) := by
  have q := blkOk_by h
  rw [C.hN]
  exact ⟨q.kind, q.uniq, q.ix, fun y hy e => C.cf y.1 (q.free y hy e), q.own⟩
theorem ve_comp (C : CtxIn G sc Z) (z : Z.Ok k) {src : SI} {o : Option Nat} (hO : ∀ i, o = some i → PE Z.X iter (tVar i)) (hs : isSetE iter = false) (hb : blkC G.N sc scope (ownOf G.N scope) = true) (hsub : ∀ i ∈ gs, i ∈ (ownOf G.N scope).map (·.2)) (hi : VI Z tg iter src)
    (hg : InBlk Z scope fun Zb => VG Zb gs tg h) (ht : (ifs = [] ∧ g = vYes) ∨ ∃ c, ifs = [c] ∧ InBlk Z scope fun Zb => VT Zb c g) (he : InBlk Z scope fun Zb => VE Zb elt f) :
    ∃ t, PI Z.X tg iter t ∧ ∃ gg tt te, (∀ (s : Shared) (H : Hp) (A : Addr) (cl : List (Str × Addr)) (fp : List Addr), PG (Z.X.blk s H scope (compEnvC scope cl A Z.X.env) fp) tg gg) ∧
      (∀ (s : Shared) (H : Hp) (A : Addr) (cl : List (Str × Addr)) (fp : List Addr), PTs (Z.X.blk s H scope (compEnvC scope cl A Z.X.env) fp) ifs tt) ∧
      (∀ (s : Shared) (H : Hp) (A : Addr) (cl : List (Str × Addr)) (fp : List Addr), PE (Z.X.blk s H scope (compEnvC scope cl A Z.X.env) fp) elt te) ∧
      RE Z (tLc t gg tt te ((ownOf G.N scope).map (·.2))) (vCompB o src h g f ((ownOf G.N scope).map (·.2))) := by
  let Z0 : Ctx := ⟨Z.X, fun _ _ _ _ => False⟩
  cases o with
  | some i =>
    refine ⟨_, pi_any (hO i rfl), canG Z0 gs h, (if ifs = [] then tYes else canT Z0 g), canE Z0 f, fun s H A cl fp => (hg s H A cl fp).can, fun s H A cl fp => ?_, fun s H A cl fp => (he s H A cl fp).can, ?_⟩
    · rcases ht with ⟨rfl, rfl⟩ | ⟨c, rfl, ht⟩
      · exact pts_nil
      · exact pts_one (ht s H A cl fp).can
    · refine re_compO Z0 rfl rfl rfl hsub canG_rg ?_ canE_re
      rcases ht with ⟨rfl, rfl⟩ | ⟨c, rfl, ht⟩
      · exact rt_yes
      · exact canT_rt
  | none =>
  obtain ⟨t, i1, i2⟩ := hi
  refine ⟨t, i1, canG Z0 gs h, (if ifs = [] then tYes else canT Z0 g), canE Z0 f, fun s H A cl fp => (hg s H A cl fp).can, fun s H A cl fp => ?_, fun s H A cl fp => (he s H A cl fp).can, ?_⟩
  · rcases ht with ⟨rfl, rfl⟩ | ⟨c, rfl, ht⟩
    · exact pts_nil
    · exact pts_one (ht s H A cl fp).can
  · refine re_comp Z0 rfl rfl rfl hsub i2 canG_rg ?_ canE_re
    rcases ht with ⟨rfl, rfl⟩ | ⟨c, rfl, ht⟩
    · exact rt_yes
    · exact canT_rt
theorem name_of (C : CtxIn G sc Z) {e : Expr} {o : Option Nat} (h : o = if G.kp = true then nameOf G.N sc e else none) : ∀ i, o = some i → PE Z.X e (tVar i) := fun i hi => by
  rw [h] at hi
  split at hi
  · unfold nameOf at hi
    split at hi
    · rename_i x p
      split at hi
      · rename_i hx
        obtain ⟨d1, d2, d3⟩ := okName_d hx.1
        exact pe_var (by rw [C.hN]; exact ixOf_get hi) (C.vis _ hx.2) d1 d2
      · cases hi
    · cases hi
  · cases hi
theorem ve_lc (C : CtxIn G sc Z) (z : Z.Ok k) {src : SI} {o : Option Nat} (hO : ∀ i, o = some i → PE Z.X iter (tVar i)) (hs : isSetE iter = false) (hb : blkC G.N sc scope (ownOf G.N scope) = true) (hsub : ∀ i ∈ gs, i ∈ (ownOf G.N scope).map (·.2)) (hi : VI Z tg iter src)
    (hg : InBlk Z scope fun Zb => VG Zb gs tg h) (ht : (ifs = [] ∧ g = vYes) ∨ ∃ c, ifs = [c] ∧ InBlk Z scope fun Zb => VT Zb c g) (he : InBlk Z scope fun Zb => VE Zb elt f) :
    VE Z (.ListComp elt [⟨tg, iter, ifs, 0⟩] scope pos) (vCompB o src h g f ((ownOf G.N scope).map (·.2))) := by
  obtain ⟨t, i1, gg, tt, te, h1, h2, h3, h4⟩ := ve_comp C z hO hs hb hsub hi hg ht he
  exact ⟨_, pe_lc z.calm z.nd i1 (blk_of C hb) h1 h2 h3 (no_set hs), h4⟩
theorem vi_any {tg : Expr} (ha : VE Z a fa) : VI Z tg a (vItA fa) := let ⟨_, a1, a2⟩ := ha; ⟨_, pi_any a1, ri_any a2⟩
theorem vi_r1 (C : CtxIn G sc Z) (K : GOkX G k Z) {tg : Expr} {p2 p3 : Pos} (hg : glo sc "range" = true) (hs : starred a = false) (ha : VE Z a fa) : VI Z tg (.Call (.Name "range" p2) [a] [] p3) (vItR1 [fa]) := by
  obtain ⟨t, a1, a2⟩ := ha
  exact ⟨_, pi_range1 (C.glo _ hg) (K.blt _ (by decide +kernel)) (pa_cons a1 pa_nil (starEach_cons hs)) (star1 hs), ri_r1 (ra_cons a2 ra_nil)⟩
theorem vi_r2 (C : CtxIn G sc Z) (K : GOkX G k Z) {tg : Expr} {p2 p3 : Pos} (hg : glo sc "range" = true) (hs : starred a = false) (hs2 : starred b = false) (ha : VE Z a fa) (hb : VE Z b fb) : VI Z tg (.Call (.Name "range" p2) [a, b] [] p3) (vItR2 [fa, fb]) := by
  obtain ⟨t, a1, a2⟩ := ha
  obtain ⟨u, b1, b2⟩ := hb
  refine ⟨_, pi_range2 (C.glo _ hg) (K.blt _ (by decide +kernel)) (pa_cons a1 (pa_cons b1 pa_nil (starEach_cons hs2)) (starEach_cons hs)) ?_ (star1 hs2), ri_r2 (ra_cons a2 (ra_cons b2 ra_nil))⟩
  rw [starEach_cons hs, starEach_cons hs2]
  rfl

theorem vi_zip (C : CtxIn G sc Z) (K : GOkX G k Z) {tg : Expr} {p2 p3 : Pos} (ht : isTup tg = true) (hg : glo sc "zip" = true) (hs : starred a = false) (hs2 : starred b = false) (ha : VE Z a fa) (hb : VE Z b fb) : VI Z tg (.Call (.Name "zip" p2) [a, b] [] p3) (vItZ [fa, fb]) := by
  obtain ⟨t, a1, a2⟩ := ha
  obtain ⟨u, b1, b2⟩ := hb
  cases tg with
  | Tuple es j p => exact ⟨_, pi_zipK (C.glo _ hg) (K.blt _ (by decide +kernel)) (pa_cons a1 (pa_cons b1 pa_nil (starEach_cons hs2)) (starEach_cons hs)) (starEach_cons hs) (no_stars (by simp [hs2])), ri_zip (ra_cons a2 (ra_cons b2 ra_nil))⟩
  | _ => cases ht

/-! ### targets -/
theorem vg_bad : VG Z gs e bG := ⟨fun _ _ _ _ => False, ⟨fun _ _ _ _ _ _ _ _ _ h => h.elim⟩, fun _ _ _ _ _ _ _ _ _ _ _ e _ => nomatch e⟩
theorem vgs_bad : VGs Z gs es (fun _ _ => none) := ⟨fun _ _ _ _ => False, ⟨fun _ _ _ _ _ _ _ _ _ h => h.elim⟩, fun _ _ _ _ _ _ _ _ _ _ _ e _ => nomatch e⟩
theorem asg_len {env : PySem.Env} : ∀ {es : List Expr}, (assignEach es env).length = es.length
  | [] => rfl
  | e :: es => by
    have ih := asg_len (env := env) (es := es)
    cases e <;> (show (assignEach es env).length + 1 = _; rw [ih]; rfl)
theorem asg_cons {env : PySem.Env} {e : Expr} {es : List Expr} (h : starred e = false) : assignEach (e :: es) env = (false, assign e env) :: assignEach es env := by
  cases e <;> first | rfl | cases h
theorem asg_plain {env : PySem.Env} : ∀ {es : List Expr}, noneStar es = true → (assignEach es env).findIdx? (·.1) = none
  | [], _ => rfl
  | e :: es, h => by
    unfold noneStar at h
    rw [List.all_cons, Bool.and_eq_true] at h
    rw [asg_cons (by simpa using h.1), List.findIdx?_cons]
    have ih := asg_plain (env := env) (es := es) h.2
    simp [ih]
theorem tg_sound (C : CtxIn G sc Z) (z : Z.Ok k) : ∀ n : Nat, (∀ e, VG Z (cG G sc n e).1 e (cG G sc n e).2) ∧ ∀ es, noneStar es = true → VGs Z (cGs G sc n es).1 es (cGs G sc n es).2
  | 0 => ⟨fun e => vg_bad, fun es _ => vgs_bad⟩
  | n + 1 => by
    obtain ⟨ih1, ih2⟩ := tg_sound C z n
    refine ⟨fun e => ?_, fun es hn => ?_⟩
    · cases e with
      | Name x p =>
        show VG Z (match ixOf G.N x with | some i => if loc sc x = true then ([i], hName i) else ([], bG) | none => ([], bG)).1 _ (match ixOf G.N x with | some i => if loc sc x = true then ([i], hName i) else ([], bG) | none => ([], bG)).2
        cases hi : ixOf G.N x with
        | none => exact vg_bad
        | some i =>
          dsimp only
          by_cases hl : loc sc x = true
          · rw [if_pos hl]
            obtain ⟨l1, l2⟩ := C.loc x hl
            exact ⟨_, pg_name z.nd (by rw [C.hN]; exact ixOf_get hi) l1 l2, rg_name i⟩
          · rw [if_neg hl]; exact vg_bad
      | Tuple es j p =>
        show VG Z (if noneStar es = true then ((cGs G sc n es).1, hTup es.length (cGs G sc n es).2) else ([], bG)).1 _ (if noneStar es = true then ((cGs G sc n es).1, hTup es.length (cGs G sc n es).2) else ([], bG)).2
        by_cases hn : noneStar es = true
        · rw [if_pos hn]
          obtain ⟨t, h1, h2⟩ := ih2 es hn
          exact ⟨_, pg_tup z.calm h1 asg_len (asg_plain hn), rg_tup h2⟩
        · rw [if_neg hn]; exact vg_bad
      | _ => exact vg_bad
    · cases es with
      | nil => exact ⟨_, pgs_nil, rgs_nil⟩
      | cons e r =>
        unfold noneStar at hn
        rw [List.all_cons, Bool.and_eq_true] at hn
        obtain ⟨t, h1, h2⟩ := ih1 e
        obtain ⟨u, h3, h4⟩ := ih2 r hn.2
        refine ⟨_, pgs_cons h1 h3 ?_, rgs_cons h2 h4⟩
        rw [asg_cons (by simpa using hn.1)]
        rfl

/-! ### the induction -/
structure Snd (G : Glob) (k n : Nat) : Prop where
  e : ∀ sc Z ex, CtxIn G sc Z → Z.Ok (k + 1) → GOkX G k Z → VE Z ex (cE G n sc ex)
  t : ∀ sc Z ex, CtxIn G sc Z → Z.Ok (k + 1) → GOkX G k Z → VT Z ex (cT G n sc ex)
  i : ∀ sc Z tg ex, CtxIn G sc Z → Z.Ok (k + 1) → GOkX G k Z → VI Z tg ex (cI G n sc (isTup tg) ex)
theorem snd0 : Snd G k 0 := ⟨fun _ _ _ _ _ _ => ve_bad, fun _ _ _ _ _ _ => vt_bad, fun _ _ _ _ _ _ _ => vi_bad⟩
theorem snd_call {n : Nat} (S : Snd G k n) (C : CtxIn G sc Z) (z : Z.Ok (k + 1)) (K : GOkX G k Z) {fe : Expr} {kws : List Keyword} : VE Z (.Call fe es kws pos) (cE G (n + 1) sc (.Call fe es kws pos)) := by
  have all : ∀ es : List Expr, ∀ e ∈ es, VE Z e (cE G n sc e) := fun _ e _ => S.e sc Z e C z K
  cases kws with
  | cons _ _ => cases fe <;> exact ve_bad
  | nil =>
    cases fe with
    | Name x p =>
      simp only [cE]
      split
      · rename_i hc
        obtain ⟨h1, h2, h3, h4⟩ := hc
        have va := va_all (h := cE G n sc) h3 (all es)
        split
        · split
          · rename_i g _ a _ hg
            obtain ⟨rfl, g1, g2⟩ := hg
            exact ve_rg1 C z K h2 g1 g2 (S.e sc Z _ C z K)
          · split
            · rename_i g _ a _ _ hg
              obtain ⟨rfl, g1, g2⟩ := hg
              exact ve_set1 C z K h2 g1 g2 (S.e sc Z _ C z K)
            · exact ve_call C z K h1 h2 h3 h4 va
        · split
          · rename_i g _ a b _ hg
            obtain ⟨rfl, g1, g2, g3⟩ := hg
            exact ve_rg2 C z K h2 g1 g2 g3 (S.e sc Z _ C z K) (S.e sc Z _ C z K)
          · exact ve_call C z K h1 h2 h3 h4 va
        · exact ve_call C z K h1 h2 h3 h4 va
      · exact ve_bad
    | Attribute o m apos =>
      simp only [cE]
      split
      · rename_i hc
        obtain ⟨h1, h2, h3, h4⟩ := hc
        refine ve_meth C z K h1 h2 h3 h4 (fun j hj => ?_) (S.e sc Z o C z K) (va_all (h := cE G n sc) h3 (all es)) (by rw [List.length_map]) (fun e f he hf => by
          subst he
          rw [List.map_cons] at hf
          injection hf with hf _
          subst hf
          exact S.e sc Z e C z K)
        split at hj
        · rename_i x p
          split at hj
          · rename_i hx
            obtain ⟨d1, d2, d3⟩ := okName_d hx.1
            exact pe_var (by rw [C.hN]; exact ixOf_get hj) (C.vis _ hx.2) d1 d2
          · cases hj
        · cases hj
      · exact ve_bad
    | _ => exact ve_bad
theorem snd_succ {n : Nat} (S : Snd G k n) : Snd G k (n + 1) := by
  have E : ∀ sc Z ex, CtxIn G sc Z → Z.Ok (k + 1) → GOkX G k Z → VE Z ex (cE G (n + 1) sc ex) := by
    intro sc Z ex C z K
    have all : ∀ es : List Expr, ∀ e ∈ es, VE Z e (cE G n sc e) := fun _ e _ => S.e sc Z e C z K
    cases ex with
    | Name x p =>
      simp only [cE]
      split
      · rename_i ok
        split
        · rename_i hv
          split
          · rename_i i hi
            exact ve_name C ok hv hi
          · exact ve_bad
        · split
          · rename_i hg
            split
            · rename_i d hd
              exact ve_con C K ok hg hd
            · split
              · rename_i t ht
                exact ve_ty C K ok hg ht
              · exact ve_bad
          · exact ve_bad
      · exact ve_bad
    | Constant c j p =>
      cases c with
      | int i => exact ve_int
      | bool i => exact ve_bl
      | none => exact ve_non
      | str i => exact ve_str
      | _ => exact ve_bad
    | BinOp a op b p =>
      simp only [cE]
      split
      · rename_i f hf
        exact ve_bin hf (S.e sc Z a C z K) (S.e sc Z b C z K)
      · exact ve_bad
    | UnaryOp op a p =>
      cases op with
      | USub => exact ve_neg (S.e sc Z a C z K)
      | Not => exact ve_notT (S.e sc Z a C z K)
      | _ => exact ve_bad
    | BoolOp op es p =>
      cases op with
      | And => exact ve_and (all es)
      | Or => exact ve_or (all es)
    | Compare a ops bs p =>
      cases ops with
      | nil => cases bs <;> exact ve_bad
      | cons op ops =>
        cases ops with
        | nil =>
          cases bs with
          | nil => exact ve_bad
          | cons b bs =>
            cases bs with
            | nil =>
              simp only [cE]
              split
              · exact ve_bad
              · rename_i hs
                exact (vc_cmp z (by simpa using hs) (S.e sc Z a C z K) (S.e sc Z b C z K)).ve
            | cons _ _ => exact ve_bad
        | cons op' ops =>
          cases ops with
          | cons _ _ => exact ve_bad
          | nil =>
            cases bs with
            | nil => exact ve_bad
            | cons b bs =>
              cases bs with
              | nil => exact ve_bad
              | cons c bs =>
                cases bs with
                | cons _ _ => exact ve_bad
                | nil =>
                  simp only [cE]
                  split
                  · exact ve_bad
                  · rename_i hs
                    exact (vc_chain z (by simpa using hs) (S.e sc Z a C z K) (S.e sc Z b C z K) (S.e sc Z c C z K)).ve
    | IfExp t a b p => exact ve_if (S.t sc Z t C z K) (S.e sc Z a C z K) (S.e sc Z b C z K)
    | Subscript a b p =>
      by_cases hb : isSlice b = true
      · cases b with
        | Slice lo hi st p =>
          cases st with
          | some _ => exact ve_bad
          | none =>
            refine ve_sl (S.e sc Z a C z K) ?_ ?_
            · cases lo with
              | none => exact vo_none
              | some e => exact vo_some (S.e sc Z e C z K)
            · cases hi with
              | none => exact vo_none
              | some e => exact vo_some (S.e sc Z e C z K)
        | _ => cases hb
      · have hb' : isSlice b = false := by simpa using hb
        have q := ve_ix (pos := p) z hb' (S.e sc Z a C z K) (S.e sc Z b C z K)
        cases b <;> first | exact q | cases hb'
    | Attribute o f p =>
      simp only [cE]
      split
      · rename_i hc
        exact ve_fld K hc.1 hc.2 (S.e sc Z o C z K)
      · exact ve_bad
    | Tuple es j p =>
      simp only [cE]
      split
      · rename_i hn
        exact ve_tup (va_all (h := cE G n sc) hn (all es))
      · exact ve_bad
    | List es p =>
      simp only [cE]
      split
      · rename_i hn
        exact ve_lst (va_all (h := cE G n sc) hn (all es))
      · exact ve_bad
    | Dict ks vs p =>
      cases ks with
      | nil =>
        cases vs with
        | nil => exact ve_dic0
        | cons _ _ => exact ve_bad
      | cons k0 ks =>
        cases k0 with
        | none => exact ve_bad
        | some k0 =>
          cases ks with
          | cons _ _ => exact ve_bad
          | nil =>
            cases vs with
            | nil => exact ve_bad
            | cons v vs =>
              cases vs with
              | cons _ _ => exact ve_bad
              | nil => exact ve_dic1 z (S.e sc Z k0 C z K) (S.e sc Z v C z K)
    | ListComp elt gens scope p =>
      simp only [cE]
      split
      · rename_i tg iter ifs asy
        split
        · rename_i hc
          obtain ⟨rfl, hl, h1, h2, h3⟩ := hc
          have hk := (blkOk_by h2).kind
          refine ve_lc C z (name_of C rfl) h1 h2 h3 (S.i sc Z tg iter C z K) (fun s H A cl fp => (tg_sound (blk_in C hk) (blk_ok (scope := scope) (env := compEnvC scope cl A Z.X.env) (A := A) (cl := cl) z) n).1 tg) ?_ (fun s H A cl fp => S.e scope _ elt (blk_in C hk) (blk_ok (A := A) (cl := cl) z) K)
          cases ifs with
          | nil => exact .inl ⟨rfl, rfl⟩
          | cons c ifs =>
            cases ifs with
            | nil => exact .inr ⟨c, rfl, fun s H A cl fp => S.t scope _ c (blk_in C hk) (blk_ok (A := A) (cl := cl) z) K⟩
            | cons c2 ifs => exact absurd hl (by simp)
        · exact ve_bad
      · exact ve_bad
    | Call fe es kws p => exact snd_call S C z K
    | _ => exact ve_bad
  refine ⟨E, fun sc Z ex C z K => ?_, fun sc Z tg ex C z K => ?_⟩
  · have all : ∀ es : List Expr, ∀ e ∈ es, VT Z e (cT G n sc e) := fun _ e _ => S.t sc Z e C z K
    cases ex with
    | UnaryOp op a p =>
      cases op with
      | Not => exact vt_not (S.t sc Z a C z K)
      | _ => exact vt_bad
    | BoolOp op es p =>
      cases op with
      | And => exact (vw_and (all es)).vt
      | Or => exact (vw_or (all es)).vt
    | Compare a ops bs p =>
      cases ops with
      | nil => cases bs <;> exact vt_bad
      | cons op ops =>
        cases ops with
        | nil =>
          cases bs with
          | nil => exact vt_bad
          | cons b bs =>
            cases bs with
            | nil =>
              simp only [cT]
              split
              · exact vt_bad
              · rename_i hs
                exact (vc_cmp z (by simpa using hs) (S.e sc Z a C z K) (S.e sc Z b C z K)).vt
            | cons _ _ => exact vt_bad
        | cons op' ops =>
          cases ops with
          | cons _ _ => exact vt_bad
          | nil =>
            cases bs with
            | nil => exact vt_bad
            | cons b bs =>
              cases bs with
              | nil => exact vt_bad
              | cons c bs =>
                cases bs with
                | cons _ _ => exact vt_bad
                | nil =>
                  simp only [cT]
                  split
                  · exact vt_bad
                  · rename_i hs
                    exact (vc_chain z (by simpa using hs) (S.e sc Z a C z K) (S.e sc Z b C z K) (S.e sc Z c C z K)).vt
    | Name x p => exact vt_tru (S.e sc Z _ C z K) fun _ => rfl
    | Call f es ks p => exact vt_tru (S.e sc Z _ C z K) fun _ => rfl
    | Attribute o f p => exact vt_tru (S.e sc Z _ C z K) fun _ => rfl
    | Subscript a b p => exact vt_tru (S.e sc Z _ C z K) fun _ => rfl
    | ListComp a b c p => exact vt_tru (S.e sc Z _ C z K) fun _ => rfl
    | _ => exact vt_bad
  · have any := vi_any (tg := tg) (S.e sc Z ex C z K)
    unfold cI
    split
    · split
      · rename_i hg
        obtain ⟨rfl, g1, g2⟩ := hg
        exact vi_r1 C K g1 g2 (S.e sc Z _ C z K)
      · exact any
    · split
      · rename_i hg
        obtain ⟨rfl, g1, g2, g3⟩ := hg
        exact vi_r2 C K g1 g2 g3 (S.e sc Z _ C z K) (S.e sc Z _ C z K)
      · split
        · rename_i hg
          obtain ⟨ht, rfl, g1, g2, g3⟩ := hg
          exact vi_zip C K ht g1 g2 g3 (S.e sc Z _ C z K) (S.e sc Z _ C z K)
        · exact any
    · exact any
theorem snd : ∀ n, Snd G k n
  | 0 => snd0
  | n + 1 => snd_succ (snd n)
end
end VL
/-! VG: a loop that sorts the numbers of a range into lists, held by a dict -/
namespace VL
open PySem PySem.Spec PyProof.Rows L2
/-- an object that no slot holds -/
structure Hid (Y : Ent) (F : Hp) (ρ : Env) (σ : L2.St) (q : Addr) : Prop where
  f : F q = none
  h0 : Y.H0 q = none
  p : Y.P q = none
  no : ∀ (j : Nat) d, ρ[j]? = some (.own d) → σ[j]? ≠ some (some (.ref q))
section
variable {K : PySem.W.Frag} {mg : Str → Option Value} {Y : Ent} {F G H L : Hp} {ρ : Env} {σ : L2.St} {q : Addr}
theorem Rel.poke (R : Rel K mg Y F ρ σ H) (h : Hid Y F ρ σ q) (o : HO) : Rel K mg Y F ρ σ (upd H q o) where
  ext := ⟨R.ext.ff, fun b u e => by rw [upd_ne (ne_of_none e h.f)]; exact R.fh b u e, fun b u n e => by rw [upd_ne (ne_of_none e h.h0)]; exact R.ext.old b u n e, fun b e => by
    by_cases hb : b = q
    · rw [hb]; exact h.h0
    · rw [upd_ne hb] at e; exact R.ext.dom b e, R.ext.new⟩
  a0 := R.a0
  slot := fun i s hs => by
    have z := R.slot i s hs
    cases s with
    | no => trivial
    | sh d => exact z
    | own d =>
      obtain ⟨p, e, n, n0, np, w⟩ := z
      have ne : p ≠ q := fun y => h.no i d hs (by rw [e, y])
      exact ⟨p, e, n, n0, np, w.moves (Same.refl F) fun u e => by rw [upd_ne ne]; exact e⟩
    | par d =>
      obtain ⟨p, e, n, n0, np, w⟩ := z
      have ne : p ≠ q := fun y => R.a0 p n0 (by rw [y]; exact h.h0)
      exact ⟨p, e, n, n0, np, w.moves (Same.refl F) fun u e => by rw [upd_ne ne]; exact e⟩
  sep := R.sep
  par := R.par
  pin := fun b u hb => by
    obtain ⟨h1, h2, h3⟩ := R.pin b u hb
    exact ⟨by rw [upd_ne (ne_of_none hb h.p)]; exact h1, h2, h3⟩
  len := R.len
theorem Rel.newHid (R : Rel K mg Y F ρ σ H) (n : H q = none) : Hid Y F ρ σ q := by
  refine ⟨R.fh.free n, R.ext.dom q n, ?_, fun j d e z => ?_⟩
  · cases e : Y.P q with
    | none => rfl
    | some u => rw [(R.pin q u e).1] at n; cases n
  · obtain ⟨p, e2, _, _, _, w⟩ := R.slot j _ e
    rw [z] at e2
    cases e2
    exact w.there n
theorem Hid.grow (h : Hid Y F ρ σ q) {o : HO} (e : H q = some o) (nt : ∀ xs, o ≠ .tup xs) (x : Ext none F H G L) : Hid Y G ρ σ q := by
  refine ⟨?_, h.h0, h.p, h.no⟩
  rcases x.new q (by rw [e]; exact fun z => nomatch z) h.f with z | ⟨xs, z⟩
  · exact z
  · have e2 := x.fh _ _ z
    rw [x.old q o (fun z => nomatch z) e] at e2
    cases e2
    exact absurd rfl (nt xs)
theorem Hid.put (h : Hid Y F ρ σ q) {i : Nat} {v : V} {d : D} : Hid Y F (ρ.set i (.sh d)) (σ.set i (some v)) q := by
  refine ⟨h.f, h.h0, h.p, fun j e z => ?_⟩
  rcases get_set z with ⟨_, z⟩ | ⟨hj, z⟩
  · cases z
  · rw [List.getElem?_set_ne (Ne.symm hj)]
    exact h.no j e z
open Classical in
/-- hidden objects are frozen -/
noncomputable def frzS (F H : Hp) (S : List Addr) : Hp := fun b => if b ∈ S then H b else F b
theorem Rel.frozeS (R : Rel K mg Y F ρ σ H) (S : List Addr) (h : ∀ q ∈ S, Hid Y F ρ σ q) : Same F (frzS F H S) ∧ Rel K mg Y (frzS F H S) ρ σ H := by
  have at_ : ∀ b, b ∉ S → frzS F H S b = F b := fun b hb => by unfold frzS; rw [if_neg hb]
  have s : Same F (frzS F H S) := fun b u e => by rw [at_ b fun z => by rw [(h b z).f] at e; cases e]; exact e
  have s2 : Same (frzS F H S) H := fun b u e => by
    by_cases hb : b ∈ S
    · unfold frzS at e; rw [if_pos hb] at e; exact e
    · rw [at_ b hb] at e; exact R.fh b u e
  refine ⟨s, ⟨R.ext.ff.trans s, s2, R.ext.old, R.ext.dom, fun b hb e => ?_⟩, R.a0, fun i sl hs => ?_, R.sep, R.par, fun b o hb => ?_, R.len⟩
  · rw [at_ b fun z => hb (h b z).h0]
    exact R.ext.new b hb e
  · have z := R.slot i sl hs
    cases sl with
    | no => trivial
    | sh d => obtain ⟨v, e, r⟩ := z; exact ⟨v, e, r.mono s⟩
    | own d =>
      obtain ⟨p, e, n, n0, np, w⟩ := z
      exact ⟨p, e, by rw [at_ p fun y => (h p y).no i d hs e]; exact n, n0, np, w.moves s fun _ z => z⟩
    | par d =>
      obtain ⟨p, e, n, n0, np, w⟩ := z
      exact ⟨p, e, by rw [at_ p fun y => R.a0 p n0 (h p y).h0]; exact n, n0, np, w.moves s fun _ z => z⟩
  · obtain ⟨h1, h2, h3⟩ := R.pin b o hb
    exact ⟨h1, by rw [at_ b fun z => by rw [(h b z).p] at hb; cases hb]; exact h2, h3⟩
end
/-! ### groups -/
abbrev Tr := Int × List Int × Addr
def insG (gs : List (Int × List Int)) (k v : Int) : List (Int × List Int) := if gs.any (fun g => decide (g.1 = k)) = true then gs.map (fun g => if g.1 = k then (g.1, g.2 ++ [v]) else g) else gs ++ [(k, [v])]
def grpG (ns : List Int) : List Int → List (Int × List Int) → Option (List (Int × List Int))
  | [], gs => some gs
  | v :: vs, gs => match opIx (.lst (ns.map D.int)) (.int v) with
    | some (.sh (.int k)) => grpG ns vs (insG gs k v)
    | _ => none
def gsD (gs : List (Int × List Int)) : D := .dic (gs.map fun g => (.inl g.1, .lst (g.2.map D.int)))
abbrev gsT (T : List Tr) : List (Int × List Int) := T.map fun z => (z.1, z.2.1)
abbrev kvT' (T : List Tr) : List (Key × V) := T.map fun z => (Sum.inl z.1, V.ref z.2.2)
structure GT (Y : Ent) (F : Hp) (ρ : Env) (σ : L2.St) (H : Hp) (p : Addr) (T : List Tr) : Prop where
  d : H p = some (.dK (kvT' T))
  l : ∀ z ∈ T, H z.2.2 = some (.lst (z.2.1.map V.int))
  nd : (T.map (·.2.2)).Nodup
  kd : (T.map (·.1)).Nodup
  hp : Hid Y F ρ σ p
  hq : ∀ z ∈ T, Hid Y F ρ σ z.2.2
theorem val_kvT (k : Int) : ∀ T : List Tr, valV (kvT' T) (Sum.inl k) = (T.find? fun z => decide (z.1 = k)).map fun z => V.ref z.2.2
  | [] => rfl
  | z :: T => by
    show valV ((Sum.inl z.1, V.ref z.2.2) :: kvT' T) _ = _
    by_cases e : z.1 = k
    · rw [valV_pos (by rw [e]), List.find?_cons, decide_eq_true e]
      rfl
    · rw [valV_neg (fun y => e (Sum.inl.inj y)), val_kvT k T, List.find?_cons, decide_eq_false e]
theorem any_gs (k : Int) (T : List Tr) : (gsT T).any (fun g => decide (g.1 = k)) = (T.find? fun z => decide (z.1 = k)).isSome := by
  induction T with
  | nil => rfl
  | cons z T ih =>
    show (decide (z.1 = k) || (gsT T).any _) = _
    rw [ih, List.find?_cons]
    by_cases e : z.1 = k
    · rw [decide_eq_true e]; rfl
    · rw [decide_eq_false e]; rfl
section
variable {K : PySem.W.Frag} {mg : Str → Option Value} {Y : Ent} {F G H L : Hp} {ρ : Env} {σ : L2.St} {p : Addr} {T : List Tr}
theorem GT.grow (h : GT Y F ρ σ H p T) (x : Ext none F H G L) : GT Y G ρ σ L p T :=
  ⟨x.old _ _ (fun z => nomatch z) h.d, fun z hz => x.old _ _ (fun z => nomatch z) (h.l z hz), h.nd, h.kd, h.hp.grow h.d (fun _ z => nomatch z) x, fun z hz => (h.hq z hz).grow (h.l z hz) (fun _ z => nomatch z) x⟩
theorem GT.put (h : GT Y F ρ σ H p T) {i : Nat} {v : V} {d : D} : GT Y F (ρ.set i (.sh d)) (σ.set i (some v)) H p T := ⟨h.d, h.l, h.nd, h.kd, h.hp.put, fun z hz => (h.hq z hz).put⟩
theorem GT.ne (h : GT Y F ρ σ H p T) {z : Tr} (hz : z ∈ T) : z.2.2 ≠ p := fun e => by
  have h1 := h.l z hz
  rw [e, h.d] at h1
  cases h1
/-- a new, empty list is put in -/
theorem GT.more (h : GT Y F ρ σ H p T) {k : Int} {a : Addr} (ha : H a = some (.lst [])) (hh : Hid Y F ρ σ a) (hn : a ∉ T.map (·.2.2)) (hk : (T.find? fun z => decide (z.1 = k)) = none) : GT Y F ρ σ (upd H p (.dK (kvT' (T ++ [(k, [], a)])))) p (T ++ [(k, [], a)]) := by
  have nap : a ≠ p := fun e => by rw [e, h.d] at ha; cases ha
  have nk : k ∉ T.map (·.1) := fun e => by
    obtain ⟨z, hz, e⟩ := List.mem_map.mp e
    have := List.find?_eq_none.mp hk z hz
    exact this (decide_eq_true e)
  refine ⟨upd_same, fun z hz => ?_, ?_, ?_, h.hp, fun z hz => ?_⟩
  · rcases List.mem_append.mp hz with hz | hz
    · rw [upd_ne (h.ne hz)]; exact h.l z hz
    · rw [List.mem_singleton.mp hz, upd_ne nap]; exact ha
  · rw [List.map_append, List.nodup_append]
    exact ⟨h.nd, by simp, fun x hx y hy e => hn (by have e1 : y = a := List.mem_singleton.mp hy; rw [← e1, ← e]; exact hx)⟩
  · rw [List.map_append, List.nodup_append]
    exact ⟨h.kd, by simp, fun x hx y hy e => nk (by have e1 : y = k := List.mem_singleton.mp hy; rw [← e1, ← e]; exact hx)⟩
  · rcases List.mem_append.mp hz with hz | hz
    · exact h.hq z hz
    · rw [List.mem_singleton.mp hz]; exact hh
/-- a number goes into its list -/
theorem GT.app (h : GT Y F ρ σ H p T) {k v : Int} {z : Tr} (hz : (T.find? fun z => decide (z.1 = k)) = some z) : z.1 = k ∧ H z.2.2 = some (.lst (z.2.1.map V.int)) ∧ ∃ T', GT Y F ρ σ (upd H z.2.2 (.lst (z.2.1.map V.int ++ [.int v]))) p T' ∧ gsT T' = (gsT T).map (fun g => if g.1 = k then (g.1, g.2 ++ [v]) else g) := by
  have hm := List.mem_of_find?_eq_some hz
  have hk : z.1 = k := of_decide_eq_true (List.find?_some (p := fun z : Tr => decide (z.1 = k)) hz)
  have uniq : ∀ y ∈ T, y.1 = k → y = z := fun y hy e => by
    have key : ∀ {T : List Tr}, (T.map (·.1)).Nodup → ∀ {a b : Tr}, a ∈ T → b ∈ T → a.1 = b.1 → a = b := fun {T} nd => by
      induction T with
      | nil => intro a b ha; cases ha
      | cons c T ih =>
        obtain ⟨n1, n2⟩ := List.nodup_cons.mp nd
        intro a b ha hb e
        rcases List.mem_cons.mp ha with ea | ha1 <;> rcases List.mem_cons.mp hb with eb | hb1
        · rw [ea, eb]
        · rw [ea] at e
          exact (n1 (List.mem_map.mpr ⟨b, hb1, e.symm⟩)).elim
        · rw [eb] at e
          exact (n1 (List.mem_map.mpr ⟨a, ha1, e⟩)).elim
        · exact ih n2 ha1 hb1 e
    exact key h.kd hy hm (e.trans hk.symm)
  have uq : ∀ y ∈ T, y.2.2 = z.2.2 → y = z := fun y hy e => by
    have key : ∀ {T : List Tr}, (T.map (·.2.2)).Nodup → ∀ {a b : Tr}, a ∈ T → b ∈ T → a.2.2 = b.2.2 → a = b := fun {T} nd => by
      induction T with
      | nil => intro a b ha; cases ha
      | cons c T ih =>
        obtain ⟨n1, n2⟩ := List.nodup_cons.mp nd
        intro a b ha hb e
        rcases List.mem_cons.mp ha with ea | ha1 <;> rcases List.mem_cons.mp hb with eb | hb1
        · rw [ea, eb]
        · rw [ea] at e
          exact (n1 (List.mem_map.mpr ⟨b, hb1, e.symm⟩)).elim
        · rw [eb] at e
          exact (n1 (List.mem_map.mpr ⟨a, ha1, e⟩)).elim
        · exact ih n2 ha1 hb1 e
    exact key h.nd hy hm e
  refine ⟨hk, h.l z hm, T.map (fun y => if y.1 = k then (y.1, y.2.1 ++ [v], y.2.2) else y), ⟨?_, fun y hy => ?_, ?_, ?_, h.hp, fun y hy => ?_⟩, ?_⟩
  · have e : kvT' (T.map fun y => if y.1 = k then (y.1, y.2.1 ++ [v], y.2.2) else y) = kvT' T := by
      unfold kvT'
      rw [List.map_map]
      refine List.map_congr_left fun y _ => ?_
      show (Sum.inl (if y.1 = k then (y.1, y.2.1 ++ [v], y.2.2) else y).1, V.ref (if y.1 = k then (y.1, y.2.1 ++ [v], y.2.2) else y).2.2) = _
      split <;> rfl
    rw [e, upd_ne (h.ne hm).symm]
    exact h.d
  · obtain ⟨x, hx, rfl⟩ := List.mem_map.mp hy
    by_cases e : x.1 = k
    · rw [if_pos e]
      rw [uniq x hx e]
      show upd H z.2.2 _ z.2.2 = some (.lst ((z.2.1 ++ [v]).map V.int))
      rw [upd_same, List.map_append]
      rfl
    · rw [if_neg e, upd_ne (fun w => e (by rw [uq x hx w]; exact hk))]
      exact h.l x hx
  · have e : (T.map fun y => if y.1 = k then (y.1, y.2.1 ++ [v], y.2.2) else y).map (·.2.2) = T.map (·.2.2) := by
      rw [List.map_map]
      refine List.map_congr_left fun y _ => ?_
      show (if y.1 = k then (y.1, y.2.1 ++ [v], y.2.2) else y).2.2 = _
      split <;> rfl
    rw [e]; exact h.nd
  · have e : (T.map fun y => if y.1 = k then (y.1, y.2.1 ++ [v], y.2.2) else y).map (·.1) = T.map (·.1) := by
      rw [List.map_map]
      refine List.map_congr_left fun y _ => ?_
      show (if y.1 = k then (y.1, y.2.1 ++ [v], y.2.2) else y).1 = _
      split <;> rfl
    rw [e]; exact h.kd
  · obtain ⟨x, hx, rfl⟩ := List.mem_map.mp hy
    split
    · exact h.hq x hx
    · exact h.hq x hx
  · unfold gsT
    rw [List.map_map, List.map_map]
    refine List.map_congr_left fun y _ => ?_
    show ((if y.1 = k then (y.1, y.2.1 ++ [v], y.2.2) else y).1, (if y.1 = k then (y.1, y.2.1 ++ [v], y.2.2) else y).2.1) = if y.1 = k then (y.1, y.2.1 ++ [v]) else (y.1, y.2.1)
    split <;> rfl
/-- at the end all is frozen but the dict -/
theorem GT.done (h : GT Y F ρ σ H p T) (R : Rel K mg Y F ρ σ H) : ∃ G, Same F G ∧ Rel K mg Y G ρ σ H ∧ G p = none ∧ Own K mg G H p (gsD (gsT T)) := by
  have hS : ∀ q ∈ T.map (·.2.2), Hid Y F ρ σ q := fun q hq => by
    obtain ⟨z, hz, rfl⟩ := List.mem_map.mp hq
    exact h.hq z hz
  obtain ⟨s, R2⟩ := R.frozeS (T.map (·.2.2)) hS
  refine ⟨_, s, R2, ?_, kvT' T, h.d, ?_⟩
  · have : p ∉ T.map (·.2.2) := fun e => by
      obtain ⟨z, hz, e⟩ := List.mem_map.mp e
      exact h.ne hz e
    unfold frzS
    rw [if_neg this]
    exact h.hp.f
  · have key : ∀ U : List Tr, (∀ z ∈ U, z ∈ T) → RepK K mg (frzS F H (T.map (·.2.2))) (kvT' U) ((gsT U).map fun g => (Sum.inl g.1, .lst (g.2.map D.int))) := fun U => by
      induction U with
      | nil => exact fun _ => .nil
      | cons z U ih =>
        intro hU
        have hz := hU z List.mem_cons_self
        refine .cons (.lst (xs := z.2.1.map V.int) ?_ (reps_ints _)) (ih fun y hy => hU y (List.mem_cons_of_mem _ hy))
        unfold frzS
        rw [if_pos (List.mem_map.mpr ⟨z, hz, rfl⟩)]
        exact h.l z hz
    exact key T fun z hz => hz
end
end VL
/-! VG2: the loop as a statement -/
namespace VL
open PySem PySem.Spec PyProof.Rows L2
def sGrp (src : SI) (iN iF iV : Nat) : SS := fun ρ => sBind (src ρ) fun ds ρ1 => match ρ1[iF]?, (ρ1[iN]?).bind Slot.d?, asInts ds with
  | some (.own (.dic [])), some (.lst ns), some vs => match asInts ns with
    | some ms => if iN ≠ iF ∧ iN ≠ iV ∧ iF ≠ iV ∧ iV < ρ1.length ∧ vs.length ≤ 4000 then (match grpG ms vs [] with
      | some gs => .nx ((ρ1.set iV .no).set iF (.own (gsD gs)))
      | none => .bad) else .bad
    | none => .bad
  | _, _, _ => .bad
section
variable {Z : Ctx} {Y : Ent}
abbrev tNm (K : PySem.W.Frag) (iN iV : Nat) : TE := tOp (rIxV K) (tVar iN) (tVar iV)
abbrev tGrp (K : PySem.W.Frag) (iN iF iV : Nat) : TS := tSeq (tDrop (tDSetd (tVar iF) (tNm K iN iV) (tLst tNil))) (tDrop (tBM K "list" rAppend (tOp (rIxV K) (tVar iF) (tNm K iN iV)) (tCons (tVar iV) tNil)))
theorem nm_ev {F H : Hp} {ρ : Env} {σ : L2.St} {iN iV : Nat} {ms : List Int} {k v : Int} (R : Z.R Y F ρ σ H) (hN : (ρ[iN]?).bind Slot.d? = some (.lst (ms.map D.int))) (hV : σ[iV]? = some (some (.int v))) (hk : opIx (.lst (ms.map D.int)) (.int v) = some (.sh (.int k)))
    {Q : VK} (q : ∀ G L, Ext none F H G L → Q (.int k) L) : tNm Z.X.K iN iV σ H Q := by
  obtain ⟨s, hs, hd⟩ := Option.bind_eq_some_iff.mp hN
  have z := R.slot iN s hs
  obtain ⟨vn, e⟩ : ∃ vn, σ[iN]? = some (some vn) := by
    cases s with
    | no => cases hd
    | sh d => obtain ⟨v, e, _⟩ := z; exact ⟨v, e⟩
    | own d => obtain ⟨v, e, _⟩ := z; exact ⟨_, e⟩
    | par d => obtain ⟨v, e, _⟩ := z; exact ⟨_, e⟩
  have rt := R.reads (vl := .al iN) (v := vn) e hN
  exact ⟨vn, e, .int v, hV, ix_ix F H vn (.int v) _ (.int v) _ Q R.fh rt (.fz (.int v)) hk fun G L w x r => by cases r; exact q G L x⟩
/-- one turn -/
theorem grp_turn {F H : Hp} {ρ : Env} {σ : L2.St} {iN iF iV : Nat} {ms : List Int} {k v : Int} {p : Addr} {T : List Tr} {E : Ends} (R : Z.R Y F ρ σ H) (hN : (ρ[iN]?).bind Slot.d? = some (.lst (ms.map D.int))) (hV : σ[iV]? = some (some (.int v))) (hF : σ[iF]? = some (some (.ref p)))
    (hk : opIx (.lst (ms.map D.int)) (.int v) = some (.sh (.int k))) (g : GT Y F ρ σ H p T) (hl : T.length ≤ 4000) (hv : ∀ z ∈ T, z.2.1.length ≤ 4000)
    (q : ∀ G L T', Same F G → Z.R Y G ρ σ L → GT Y G ρ σ L p T' → gsT T' = insG (gsT T) k v → E.nx σ L) : tGrp Z.X.K iN iF iV E σ H := by
  have isd : IsD H p := .inl ⟨_, .inl g.d⟩
  refine ⟨.ref p, hF, p, rfl, isd, nm_ev R hN hV hk fun G L x => ?_⟩
  have R1 := R.grow x
  have g1 := g.grow x
  refine ⟨Nat.zero_le _, fun a na => ?_⟩
  have x2 : Ext none G L G (upd L a (.lst [])) := Ext.lay R1.fh na
  have R2 := R1.grow x2
  have g2 := g1.grow x2
  -- the second statement
  have second : ∀ G L T2 z, Same F G → Z.R Y G ρ σ L → GT Y G ρ σ L p T2 → (T2.find? fun z => decide (z.1 = k)) = some z → (gsT T2).map (fun g => if g.1 = k then (g.1, g.2 ++ [v]) else g) = insG (gsT T) k v → z.2.1.length ≤ 4000 →
      tDrop (tBM Z.X.K "list" rAppend (tOp (rIxV Z.X.K) (tVar iF) (tNm Z.X.K iN iV)) (tCons (tVar iV) tNil)) E σ L := by
    intro G L T2 z s R g hz he hzl
    refine ⟨.ref p, hF, nm_ev R hN hV hk fun G2 L2 x => ?_⟩
    have R := R.grow x
    have g := g.grow x
    obtain ⟨a1, a2, T', a3, a4⟩ := g.app (v := v) hz
    refine .inr (.inr ⟨p, .ref z.2.2, rfl, ?_, ?_⟩)
    · have := DGet.k g.d (k := Sum.inl k)
      rw [val_kvT, hz] at this
      exact this
    · refine ⟨.inl ⟨rfl, _, SqL.of a2⟩, .int v, hV, z.2.2, _, .int v, rfl, rfl, a2, by rw [sizeLine_eq, List.length_map]; omega, ?_⟩
      exact q G2 _ T' (s.trans x.ff) (R.poke (g.hq z (List.mem_of_find?_eq_some hz)) _) a3 (a4.trans he)
  refine ⟨kvT' T, .inl k, g2.d, rfl, by rw [List.length_map, sizeLine_eq]; omega, fun w hw => ?_, fun hw => ?_⟩
  · rw [val_kvT] at hw
    obtain ⟨z, hz, _⟩ := Option.map_eq_some_iff.mp hw
    have ha := any_gs k T
    rw [hz] at ha
    refine second G _ T z x.ff R2 g2 hz ?_ (hv z (List.mem_of_find?_eq_some hz))
    unfold insG
    rw [if_pos (by rw [ha]; rfl)]
  · rw [val_kvT, Option.map_eq_none_iff] at hw
    have ha := any_gs k T
    rw [hw] at ha
    have hid := R1.newHid na
    have hid2 : Hid Y G ρ σ a := hid
    have nm : a ∉ T.map (·.2.2) := fun e => by
      obtain ⟨z, hz, e⟩ := List.mem_map.mp e
      have := g1.l z hz
      rw [e, na] at this
      cases this
    have g3 := g2.more (k := k) (a := a) upd_same hid2 nm hw
    have pk : putK (kvT' T) (Sum.inl k) (.ref a) = kvT' (T ++ [(k, [], a)]) := by
      unfold putK
      rw [valV_any, val_kvT, hw, if_neg (by simp)]
      show kvT' T ++ [(Sum.inl k, V.ref a)] = _
      unfold kvT'
      rw [List.map_append]
      rfl
    rw [pk]
    have fnd : ((T ++ [(k, [], a)]).find? fun z => decide (z.1 = k)) = some (k, [], a) := by
      rw [List.find?_append, hw]
      simp
    refine second G _ (T ++ [(k, [], a)]) (k, [], a) x.ff (R2.poke g2.hp _) g3 fnd ?_ (Nat.zero_le _)
    have no : ∀ g ∈ gsT T, ¬ g.1 = k := fun g hg e => by
      have := (List.any_eq_true (p := fun g : Int × List Int => decide (g.1 = k)) (l := gsT T)).mpr ⟨g, hg, decide_eq_true e⟩
      rw [ha] at this
      cases this
    unfold insG
    rw [if_neg (by rw [ha]; simp)]
    show (gsT (T ++ [(k, [], a)])).map _ = _
    unfold gsT
    rw [List.map_append, List.map_append]
    have e1 : (List.map (fun z : Tr => (z.1, z.2.1)) T).map (fun g => if g.1 = k then (g.1, g.2 ++ [v]) else g) = List.map (fun z : Tr => (z.1, z.2.1)) T := (List.map_congr_left fun g hg => if_neg (no g hg)).trans (List.map_id _)
    rw [e1]
    show _ ++ [if k = k then (k, [] ++ [v]) else (k, [])] = _
    rw [if_pos rfl]
    rfl
theorem insG_len (gs : List (Int × List Int)) (k v : Int) : (insG gs k v).length ≤ gs.length + 1 := by
  unfold insG
  split
  · rw [List.length_map]; omega
  · rw [List.length_append]; exact Nat.le_refl _
theorem insG_sub {gs : List (Int × List Int)} {k v : Int} {n : Nat} (h : ∀ g ∈ gs, g.2.length ≤ n) : ∀ g ∈ insG gs k v, g.2.length ≤ n + 1 := fun g hg => by
  unfold insG at hg
  split at hg
  · obtain ⟨x, hx, rfl⟩ := List.mem_map.mp hg
    have := h x hx
    split
    · rw [List.length_append, List.length_singleton]; omega
    · omega
  · rcases List.mem_append.mp hg with hg | hg
    · have := h g hg; omega
    · rw [List.mem_singleton.mp hg]; exact Nat.le_add_left _ _
theorem grp_envs {ρ : Env} {iF iV : Nat} {y : Slot} (h : iF ≠ iV) (x : Slot) : (((((ρ.set iV .no).set iF .no).set iV y).set iV .no).set iF x) = (ρ.set iV .no).set iF x := by
  rw [List.set_set, List.set_comm _ _ h, List.set_set, List.set_set]
theorem rs_grp {wi : TI} {src : SI} {iN iF iV : Nat} (hi : RI Z wi src) : RS Z (tFor wi (gName iV) (tGrp Z.X.K iN iF iV)) (sGrp src iN iF iV) := by
  intro Y F ρ σ H E R P
  refine hi Y F ρ σ H _ R (spost_bind P fun ds ρ1 _ P1 => fun G0 L0 J s0 R0 it => ?_)
  replace P1 := P1.mono s0
  split at P1
  · rename_i ns vs hF hN hvs
    split at P1
    · rename_i ms hms
      split at P1
      · rename_i hc
        obtain ⟨c1, c2, c3, c4, c5⟩ := hc
        split at P1
        · rename_i gs hg
          have eds := asInts_eq hvs
          have ens := asInts_eq hms
          subst ens
          have dl : ds.length = vs.length := by rw [eds, List.length_map]
          obtain ⟨p, p1, p2, p3, p4, kvs, p5, p6⟩ := R0.slot iF _ hF
          have kv0 : kvs = [] := by cases p6; rfl
          subst kv0
          have R1 : Z.R Y G0 ((ρ1.set iV .no).set iF .no) σ L0 := (R0.retell (i := iV) (s := .no) trivial (fun _ z => nomatch z) fun _ z => nomatch z).retell (i := iF) (s := .no) trivial (fun _ z => nomatch z) fun _ z => nomatch z
          have R2 : Z.R Y G0 (((ρ1.set iV .no).set iF .no).set iV .no) σ L0 := R1.retell (i := iV) (s := .no) trivial (fun _ z => nomatch z) fun _ z => nomatch z
          have ownd : ∀ (j : Nat) d y, (((ρ1.set iV .no).set iF .no).set iV y)[j]? = some (.own d) → (∀ d, y ≠ .own d) → ρ1[j]? = some (.own d) ∧ j ≠ iF := fun j d y e ny => by
            rcases get_set e with ⟨_, e⟩ | ⟨n1, e⟩
            · exact absurd e.symm (ny d)
            · rcases get_set e with ⟨_, e⟩ | ⟨n2, e⟩
              · cases e
              · rcases get_set e with ⟨_, e⟩ | ⟨n3, e⟩
                · cases e
                · exact ⟨e, n2⟩
          have hidp : Hid Y G0 (((ρ1.set iV .no).set iF .no).set iV .no) σ p := ⟨p2, p3, p4, fun j d e z => by
            obtain ⟨e1, e2⟩ := ownd j d .no e fun _ w => nomatch w
            exact e2 (R0.sep j iF p d _ e1 hF z p1)⟩
          refine ⟨fun i m σ' H' => m = ds.length - i ∧ i ≤ ds.length ∧ ∃ F T y, Same G0 F ∧ Z.R Y F (((ρ1.set iV .no).set iF .no).set iV y) σ' H' ∧ (∀ d, y ≠ .own d) ∧ (∀ d, y ≠ .par d) ∧ GT Y F (((ρ1.set iV .no).set iF .no).set iV y) σ' H' p T ∧ σ'[iF]? = some (some (.ref p)) ∧
            grpG ms (vs.drop i) (gsT T) = some gs ∧ T.length ≤ i ∧ (∀ g ∈ gsT T, g.2.length ≤ i),
            ⟨ds.length, by simp, Nat.zero_le _, G0, [], .no, Same.refl G0, R2, (fun _ z => nomatch z), (fun _ z => nomatch z), ⟨p5, fun z hz => (by cases hz), List.nodup_nil, List.nodup_nil, hidp, fun z hz => (by cases hz)⟩, p1, hg, Nat.le_refl _, fun g hg => (by cases hg)⟩, ?_⟩
          rintro i m σ' H' ⟨rfl, hil, F1, T, y, s1, R3, y1, y2, g1, q1, q2, q3, q4⟩
          by_cases hlt : i < ds.length
          · have hlt2 : i < vs.length := by omega
            rw [List.drop_eq_getElem_cons hlt2] at q2
            unfold grpG at q2
            split at q2
            · rename_i k hk
              refine .inr ⟨it.goes i F1 H' s1 R3.fh hlt, _, fun σ'' H'' n => ⟨ds.length - (i + 1), by omega, rfl, n⟩, fun x H2 yy => ?_⟩
              have hdi : ds[i]? = some (.int vs[i]) := by rw [eds, List.getElem?_map, List.getElem?_eq_getElem hlt2]; rfl
              obtain ⟨F2, x2, rx⟩ := it.yields i F1 H' x H2 _ s1 R3.fh hdi yy
              cases rx
              have R4 := (R3.grow x2).put (i := iV) (v := .int vs[i]) (s := .sh (.int vs[i])) ⟨_, rfl, .int _⟩ (fun _ z => nomatch z) fun _ z => nomatch z
              have g4 := (g1.grow x2).put (i := iV) (v := .int vs[i]) (d := .int vs[i])
              rw [List.set_set] at R4 g4
              have hVl : iV < σ'.length := by
                rw [← R3.len, List.length_set, List.length_set, List.length_set]; exact c4
              refine grp_turn (ms := ms) (k := k) (v := vs[i]) (p := p) (T := T) R4 ?_ (List.getElem?_set_self hVl) (by rw [List.getElem?_set_ne (Ne.symm c3)]; exact q1) hk g4 (by omega) (fun z hz => ?_) fun G L T' s R5 g5 e5 => ?_
              · rw [List.getElem?_set_ne (Ne.symm c2), List.getElem?_set_ne (Ne.symm c1), List.getElem?_set_ne (Ne.symm c2)]
                exact hN
              · have := q4 (z.1, z.2.1) (List.mem_map.mpr ⟨z, hz, rfl⟩)
                have : z.2.1.length ≤ i := this
                omega
              · refine ⟨hlt, G, T', .sh (.int vs[i]), (s1.trans x2.ff).trans s, R5, (fun _ z => nomatch z), (fun _ z => nomatch z), g5, ?_, ?_, ?_, ?_⟩
                · rw [List.getElem?_set_ne (Ne.symm c3)]; exact q1
                · rw [e5]; exact q2
                · have h1 := congrArg List.length e5
                  have h2 := insG_len (gsT T) k vs[i]
                  rw [List.length_map] at h1 h2
                  omega
                · rw [e5]; exact insG_sub q4
            · cases q2
          · have e : i = ds.length := by omega
            subst e
            have ed : vs.drop ds.length = [] := by rw [dl, List.drop_length]
            rw [ed] at q2
            cases q2
            obtain ⟨G, s, R4, n4, o4⟩ := g1.done R3
            have R5 := R4.retell (i := iV) (s := .no) trivial (fun _ z => nomatch z) fun _ z => nomatch z
            have R6 := R5.put (i := iF) (v := .ref p) (s := .own (gsD (gsT T))) ⟨p, rfl, n4, p3, p4, o4⟩ (fun d _ j e q eq he => by
              cases eq
              rcases get_set he with ⟨_, he⟩ | ⟨hj, he⟩
              · cases he
              · exact g1.hp.no j e he) fun _ z => nomatch z
            rw [grp_envs c3] at R6
            have es : σ'.set iF (some (.ref p)) = σ' := by
              refine List.ext_getElem? fun j => ?_
              by_cases hj : j = iF
              · subst hj
                have hl : j < σ'.length := (List.getElem?_eq_some_iff.mp q1).1
                rw [List.getElem?_set_self hl, q1]
              · rw [List.getElem?_set_ne (Ne.symm hj)]
            rw [es] at R6
            exact .inl ⟨it.stops F1 H' s1 R3.fh, P1 G σ' H' (s1.trans s) R6⟩
        · exact P1.elim
      · exact P1.elim
    · exact P1.elim
  · exact P1.elim
end
end VL
/-! V15: statements compiled, and sound -/
namespace VL
open PySem PySem.Spec PyProof.Rows L2

def fuelW : Nat := 1000000000000000000
def augOp : Operator → Option (D → D → Option Pv)
  | .Add => some iAdd
  | .Sub => some iSub
  | _ => none
/-- what a suite of one return gives of the error's field -/
def cSuite (n : Str) : List Stmt → Option (D → D)
  | [.Return (some (.Attribute (.Name x _) f _)) _] => if x = n ∧ f = ("what" : Str) then some id else none
  | [.Return (some (.Tuple [.Constant (.str s) _ _, .Attribute (.Name x _) f _] _ _)) _] => if x = n ∧ f = ("what" : Str) then some fun w => .tup [.str s, w] else none
  | _ => none
def cH (G : Glob) (sc : Scope) : ExceptHandler → Option (Str × Nat × (D → D))
  | .ExceptHandler (some (.Name c _)) (some n) suite _ => match ixOf G.N n, cSuite n suite with
    | some i, some g => if c ∈ G.excs ∧ glo sc c = true ∧ okName c = true ∧ okName n = true ∧ sc.names.lookup n = some .local then some (c, i, g) else none
    | _, _ => none
  | _ => none
def cHs (G : Glob) (sc : Scope) : List ExceptHandler → Option (List (Str × Nat × (D → D)))
  | [] => some []
  | h :: r => match cH G sc h, cHs G sc r with
    | some a, some b => some (a :: b)
    | _, _ => none
/-- for v in ..: f.setdefault(n[v], []); f[n[v]].append(v) -/
def grpPat : Expr → List Stmt → Option (Str × Str × Str)
  | .Name v _, [.Expr (.Call (.Attribute (.Name f _) m1 ap1) [.Subscript (.Name n _) (.Name v1 _) _, .List [] _] [] cp1) _, .Expr (.Call (.Attribute (.Subscript (.Name f2 _) (.Subscript (.Name n2 _) (.Name v2 _) _) _) m2 ap2) [.Name v3 _] [] cp2) _] =>
    if v1 = v ∧ v2 = v ∧ v3 = v ∧ f2 = f ∧ n2 = n ∧ m1 = ("setdefault" : Str) ∧ m2 = ("append" : Str) ∧ (ap1.endLine == cp1.line) = true ∧ (ap2.endLine == cp2.line) = true then some (v, f, n) else none
  | _, _ => none
mutual
def cS (G : Glob) (sc : Scope) : Nat → Stmt → SS
  | 0, _ => bS
  | n + 1, st => match st with
    | .Expr e _ => match e with
      | .Constant (.str _) _ _ => sNext
      | e => if isComp e = true then bS else sExpr (cE G n sc e)
    | .Pass _ => sNext
    | .Break _ => sBreak
    | .Continue _ => sCont
    | .Return (some e) _ => sRet (cE G n sc e)
    | .Return none _ => sRetN
    | .If c a b _ => sIf (cT G n sc c) (cSs G sc n a) (cSs G sc n b)
    | .While c a [] _ => sWhile fuelW (cT G n sc c) (cSs G sc n a)
    | .For tg it a [] _ => if isSetE it = true then bS else match grpPat tg a with
      | some (v, f, nm) => (match ixOf G.N v, ixOf G.N f, ixOf G.N nm with
        | some iv, some jf, some jn => if loc sc v = true ∧ (okName v = true ∧ okName f = true ∧ okName nm = true) ∧ (vis sc v = true ∧ vis sc f = true ∧ vis sc nm = true) then sGrp (cI G n sc (isTup tg) it) jn jf iv else bS
        | _, _, _ => bS)
      | none => sFor (cI G n sc (isTup tg) it) (cG G sc n tg).2 (cSs G sc n a)
    | .Assign [.Name x _] e _ => match ixOf G.N x with
      | some i => if loc sc x = true then sSet i (cE G n sc e) else bS
      | none => bS
    | .Assign [.Tuple es _ _] e _ => if isTupE e = false ∧ noneStar es = true then sUnp (cG G sc n (.Tuple es 0 e.pos)).2 (cE G n sc e) else bS
    | .Assign [.Subscript (.Name x _) i _] e _ => match ixOf G.N x with
      | some j => if okName x = true ∧ vis sc x = true ∧ isSlice i = false ∧ isComp e = false then sPut j (cE G n sc i) (cE G n sc e) else bS
      | none => bS
    | .Assign [.Attribute (.Name x _) f _] e _ => match ixOf G.N x with
      | some j => if okName x = true ∧ vis sc x = true ∧ f ∈ G.flds then sFldP G.okC f j (cE G n sc e) else bS
      | none => bS
    | .AugAssign (.Name x _) op e _ => match ixOf G.N x, augOp op with
      | some i, some f => if loc sc x = true then sAug i f (cE G n sc e) else bS
      | _, _ => bS
    | .AugAssign (.Subscript (.Name x _) i _) op e _ => match ixOf G.N x, augOp op with
      | some j, some f => if okName x = true ∧ vis sc x = true ∧ isSlice i = false then sPutA j f (cE G n sc i) (cE G n sc e) else bS
      | _, _ => bS
    | .Raise (some (.Call (.Name c _) [e] [] _)) none _ => if c ∈ G.excs ∧ glo sc c = true ∧ okName c = true ∧ starred e = false then sRaise c (cE G n sc e) else bS
    | .Try body hds [] [] _ => match hds with
      | [] => bS
      | h0 :: hds => match cHs G sc (h0 :: hds) with
        | some hs => sTry G.excs (cSs G sc n body) hs
        | none => bS
    | _ => bS
def cSs (G : Glob) (sc : Scope) : Nat → List Stmt → SS
  | 0, _ => bS
  | n + 1, sts => match sts with
    | [] => sNext
    | [st] => cS G sc n st
    | st :: r => sSeq (cS G sc n st) (cSs G sc n r)
end

structure SIn (G : Glob) (sc : Scope) (k : Nat) (Z : Ctx) : Prop where
  c : CtxIn G sc Z
  z : Z.Ok (k + 1)
  g : GOkX G k Z
  sc : Z.X.env.scope = sc
  po : PassesOwn (model Z.X.prog Z.X.w) Z.X.A Z.X.env Z.X.xe
  st : Z.X.stack = Z.X.env :: Z.X.outer
  fr : Z.X.env.frame = some Z.X.env.locals

section
variable {Z : Ctx} {G : Glob} {sc scope : Scope} {k n : Nat} {e a b c elt tg iter : Expr} {es ifs : List Expr} {pos p : Pos} {f fa fb fc : SE} {st : Stmt} {sts : List Stmt}
theorem vs_bad : VS Z st bS := ⟨tNever, ps_never, fun _ _ _ _ _ _ _ P => P.elim⟩
theorem vss_bad : VSs Z sts bS := ⟨tNever, pss_never, fun _ _ _ _ _ _ _ P => P.elim⟩
theorem sw_plain {t : Option Expr} {l : Nat} {env : PySem.Env} (h : isComp e = false) : swapsWith e t l env = pure false := by
  cases e <;> first | rfl | cases h
theorem sw_tgt {l : Nat} {env : PySem.Env} {t : Expr} (h : ∀ x p, t ≠ .Name x p) : swapsWith e (some t) l env = pure false := by
  cases t with
  | Name x p => exact absurd rfl (h x p)
  | _ => cases e <;> rfl
theorem sw_sole {l : Nat} {env : PySem.Env} {t : Expr} (h : ∀ x p, t ≠ .Name x p) : swapsWithSole [t] e l env = pure false := sw_tgt h
theorem sw_name {l : Nat} {env : PySem.Env} {x : Str} {py epos : Pos} {gens : List Comprehension} :
    swapsWith (.ListComp elt gens scope epos) (some (.Name x py)) l env = pure (env.blockKind == .function && env.kindOf x == some .local && py.line == epos.line && !(scope.names.any fun (n, k) => n == x && (k == .local || k == .cell))) := rfl
/-- name = e -/
theorem vs_set {x : Str} {i : Nat} (I : SIn G sc k Z) (hi : ixOf G.N x = some i) (hl : loc sc x = true) : VS Z (.Assign [.Name x p] e pos) (sSet i (cE G n sc e)) := by
  obtain ⟨l1, l2⟩ := I.c.loc x hl
  have hi' : Z.X.N[i]? = some x := by rw [I.c.hN]; exact ixOf_get hi
  have V : VE Z e (cE G n sc e) := (snd n).e sc Z e I.c I.z I.g
  have plain : (∀ l, swapsWith e (some (.Name x p)) l Z.X.env = pure false) → VS Z (.Assign [.Name x p] e pos) (sSet i (cE G n sc e)) := fun hs => by
    obtain ⟨t, h1, h2⟩ := V
    exact ⟨_, ps_set I.z.nd hi' l1 h1 (hs _) l2, rs_set h2⟩
  have never : (∀ ρ, sSet i (cE G n sc e) ρ = .bad) → VS Z (.Assign [.Name x p] e pos) (sSet i (cE G n sc e)) := fun hb => ⟨tNever, ps_never, fun Y F ρ _ _ _ _ P => by rw [hb ρ] at P; exact P.elim⟩
  cases e with
  | ListComp elt gens scope epos =>
    by_cases hb : (Z.X.env.blockKind == .function && Z.X.env.kindOf x == some .local && p.line == epos.line && !(scope.names.any fun (n, k) => n == x && (k == .local || k == .cell))) = true
    · cases n with
      | zero => exact never fun ρ => rfl
      | succ n =>
        simp only [cE] at never ⊢
        split
        · rename_i tg iter ifs asy
          split
          · rename_i hc
            obtain ⟨rfl, hl2, h1, h2, h3⟩ := hc
            have hk := (blkOk_by h2).kind
            have E := ve_comp (ifs := ifs) (gs := (cG G scope n tg).1) (tg := tg) (iter := iter) (elt := elt) (h := (cG G scope n tg).2) (f := cE G n scope elt) (g := match (generalizing := false) ifs with | [] => vYes | [c] => cT G n scope c | _ => bT) (o := if G.kp = true then nameOf G.N sc iter else none) I.c I.z (name_of I.c rfl) h1 h2 h3 ((snd n).i sc Z tg iter I.c I.z I.g)
              (fun s H A cl fp => (tg_sound (blk_in I.c hk) (blk_ok (scope := scope) (env := compEnvC scope cl A Z.X.env) (A := A) (cl := cl) I.z) n).1 tg) (by
                cases ifs with
                | nil => exact .inl ⟨rfl, rfl⟩
                | cons c ifs =>
                  cases ifs with
                  | nil => exact .inr ⟨c, rfl, fun s H A cl fp => (snd n).t scope _ c (blk_in I.c hk) (blk_ok (A := A) (cl := cl) I.z) I.g⟩
                  | cons c2 ifs => exact absurd hl2 (by simp)) (fun s H A cl fp => (snd n).e scope _ elt (blk_in I.c hk) (blk_ok (A := A) (cl := cl) I.z) I.g)
            obtain ⟨t, i1, gg, tt, te, q1, q2, q3, q4⟩ := E
            have hsw := sw_name (elt := elt) (l := pos.line) (env := Z.X.env) (x := x) (py := p) (epos := epos) (scope := scope) (gens := [⟨tg, iter, ifs, 0⟩])
            rw [hb] at hsw
            simp only [Bool.and_eq_true, beq_iff_eq] at hb
            exact ⟨_, ps_setLc I.z.calm I.z.nd hi' hb.1.1.2 hsw i1 (blk_of I.c h2) q1 q2 q3 (no_set h1), rs_set q4⟩
          · rename_i hc
            have z := never
            simp only at z
            rw [if_neg hc] at z
            exact z fun ρ => rfl
        · rename_i hne
          have z := never
          refine ⟨tNever, ps_never, fun Y F ρ _ _ _ _ P => P.elim⟩
    · exact plain fun l => by
        have hb' := Bool.eq_false_iff.mpr hb
        rw [sw_name, hb']
  | SetComp elt gens scope epos => exact never fun ρ => by cases n <;> rfl
  | DictComp key elt gens scope epos => exact never fun ρ => by cases n <;> rfl
  | _ => exact plain fun l => rfl
/-- the other statements -/
theorem vg_any (I : SIn G sc k Z) : VG Z (cG G sc n e).1 e (cG G sc n e).2 := (tg_sound I.c (I.z) n).1 e
theorem vs_unp {h : D → Env → Option Env} {gs : List Nat} {x1 : Nat} (hg : VG Z gs (.Tuple es x1 p) h) (he : isTupE e = false) (V : VE Z e f) : VS Z (.Assign [.Tuple es x1 p] e pos) (sUnp h f) := by
  obtain ⟨g, g1, g2⟩ := hg
  obtain ⟨t, h1, h2⟩ := V
  refine ⟨_, ps_asg h1 g1 (sw_sole fun x p z => by cases z) ?_, rs_unp h2 g2⟩
  cases e <;> first | rfl | cases he
theorem asub (h : isSlice b = false) (v : Value) {env : PySem.Env} : assign (.Subscript a b p) env v = (do
      let ov ← holding [v] (eval a env)
      let iv ← holding [v, ov] (eval b env)
      standAt p
      holding [v, ov, iv] (setItem ov iv v)
      release [v, ov, iv] []) := by
  cases b <;> first | rfl | cases h
theorem vs_put {x : Str} {j : Nat} {p2 : Pos} (I : SIn G sc k Z) (hj : ixOf G.N x = some j) (ok : okName x = true) (hv : vis sc x = true) (hs : isSlice b = false) (hc : isComp e = false) (hb : VE Z b fb) (V : VE Z e f) :
    VS Z (.Assign [.Subscript (.Name x p) b p2] e pos) (sPut j fb f) := by
  obtain ⟨tb, b1, b2⟩ := hb
  obtain ⟨t, h1, h2⟩ := V
  obtain ⟨d1, d2, d3⟩ := okName_d ok
  refine ⟨_, ps_asg h1 (pg_sub (pe_var (by rw [I.c.hN]; exact ixOf_get hj) (I.c.vis x hv) d1 d2) b1 (set_V I.z.u1) (fun v => asub hs v)) (sw_sole fun x p z => by cases z) ?_, rs_put b2 h2⟩
  cases e <;> rfl
theorem vs_fld {x ff : Str} {j : Nat} {p2 : Pos} (I : SIn G sc k Z) (hj : ixOf G.N x = some j) (ok : okName x = true) (hv : vis sc x = true) (hf : ff ∈ G.flds) (V : VE Z e f) : VS Z (.Assign [.Attribute (.Name x p) ff p2] e pos) (sFldP G.okC ff j f) := by
  obtain ⟨t, h1, h2⟩ := V
  obtain ⟨d1, d2, d3⟩ := okName_d ok
  exact ⟨_, ps_fld (pe_var (by rw [I.c.hN]; exact ixOf_get hj) (I.c.vis x hv) d1 d2) h1 (sw_tgt fun x p z => by cases z), rs_fld (I.g.fld ff hf) h2⟩
theorem augOp_rule {X : Cx} {K : PySem.W.Frag} {mg : Str → Option Value} {op : Operator} {f : D → D → Option Pv} (h : augOp op = some f) : ∃ r, PIp X op r ∧ OpI K mg r f := by
  cases op <;> first | (cases h; done) | skip
  · cases h; exact ⟨_, ip_add, ipI_add⟩
  · cases h; exact ⟨_, ip_sub, ipI_sub⟩
theorem vs_aug {x : Str} {j : Nat} {op : Operator} {g : D → D → Option Pv} (I : SIn G sc k Z) (hj : ixOf G.N x = some j) (hl : loc sc x = true) (ho : augOp op = some g) (V : VE Z e f) : VS Z (.AugAssign (.Name x p) op e pos) (sAug j g f) := by
  obtain ⟨t, h1, h2⟩ := V
  obtain ⟨l1, l2⟩ := I.c.loc x hl
  obtain ⟨r, r1, r2⟩ := augOp_rule (X := Z.X) (K := Z.X.K) (mg := Z.X.mg) ho
  exact ⟨_, ps_aug I.z.nd (by rw [I.c.hN]; exact ixOf_get hj) l1 h1 r1 l2, rs_aug r2 h2⟩
theorem augst (h : isSlice b = false) (ov iv new : Value) : augStore b ov iv new = (do holding [new, ov, iv] (setItem ov iv new); release [new, ov, iv] []; pure .next) := by
  cases b <;> first | rfl | cases h
theorem vs_augS {x : Str} {j : Nat} {op : Operator} {g : D → D → Option Pv} {p2 : Pos} (I : SIn G sc k Z) (hj : ixOf G.N x = some j) (ok : okName x = true) (hv : vis sc x = true) (hs : isSlice b = false) (ho : augOp op = some g) (hb : VE Z b fb) (V : VE Z e f) :
    VS Z (.AugAssign (.Subscript (.Name x p) b p2) op e pos) (sPutA j g fb f) := by
  obtain ⟨tb, b1, b2⟩ := hb
  obtain ⟨t, h1, h2⟩ := V
  obtain ⟨d1, d2, d3⟩ := okName_d ok
  obtain ⟨r, r1, r2⟩ := augOp_rule (X := Z.X) (K := Z.X.K) (mg := Z.X.mg) ho
  exact ⟨_, ps_augS (pe_var (by rw [I.c.hN]; exact ixOf_get hj) (I.c.vis x hv) d1 d2) b1 (get_V I.z.u1) h1 r1 (set_V I.z.u1) (augst hs), rs_putA r2 b2 h2⟩
theorem vs_if {g : STst} {s1 s2 : SS} {l1 l2 : List Stmt} (hc : VT Z e g) (h1 : VSs Z l1 s1) (h2 : VSs Z l2 s2) : VS Z (.If e l1 l2 pos) (sIf g s1 s2) := by
  obtain ⟨_, a1, a2⟩ := hc
  obtain ⟨_, b1, b2⟩ := h1
  obtain ⟨_, c1, c2⟩ := h2
  exact ⟨_, ps_if a1 b1 c1, rs_if a2 b2 c2⟩
theorem vs_while {g : STst} {s1 : SS} {l1 : List Stmt} {m : Nat} (I : SIn G sc k Z) (hc : VT Z e g) (h1 : VSs Z l1 s1) : VS Z (.While e l1 [] pos) (sWhile m g s1) := by
  obtain ⟨_, a1, a2⟩ := hc
  obtain ⟨_, b1, b2⟩ := h1
  exact ⟨_, ps_while I.po a1 b1, rs_while a2 b2⟩
theorem vs_for {src : SI} {gs : List Nat} {h : D → Env → Option Env} {s1 : SS} {l1 : List Stmt} (I : SIn G sc k Z) (hs : isSetE iter = false) (hi : VI Z tg iter src) (hg : VG Z gs tg h) (h1 : VSs Z l1 s1) : VS Z (.For tg iter l1 [] pos) (sFor src h s1) := by
  obtain ⟨_, a1, a2⟩ := hi
  obtain ⟨_, g1, g2⟩ := hg
  obtain ⟨_, b1, b2⟩ := h1
  exact ⟨_, ps_for I.po I.z.calm a1 g1 b1 (no_set hs), rs_for a2 g2 b2⟩
theorem vs_grp {v f nm : Str} {tg : Expr} {a : List Stmt} {iv jf jn : Nat} {src : SI} (I : SIn G sc k Z) (hp : grpPat tg a = some (v, f, nm)) (hv : ixOf G.N v = some iv) (hf : ixOf G.N f = some jf) (hn : ixOf G.N nm = some jn) (hl : loc sc v = true) (o1 : okName v = true) (o2 : okName f = true) (o3 : okName nm = true)
    (v1 : vis sc v = true) (v2 : vis sc f = true) (v3 : vis sc nm = true) (hs : isSetE iter = false) (hi : VI Z tg iter src) : VS Z (.For tg iter a [] pos) (sGrp src jn jf iv) := by
  unfold grpPat at hp
  split at hp
  · split at hp
    · rename_i hc
      obtain ⟨rfl, rfl, rfl, rfl, rfl, rfl, rfl, l1, l2⟩ := hc
      cases hp
      obtain ⟨wi, a1, a2⟩ := hi
      obtain ⟨q1, q2⟩ := I.c.loc _ hl
      obtain ⟨d1, d2, _⟩ := okName_d o1
      obtain ⟨e1, e2, _⟩ := okName_d o2
      obtain ⟨f1, f2, _⟩ := okName_d o3
      have pv : ∀ p, PE Z.X (.Name _ p) (tVar iv) := fun p => pe_var (by rw [I.c.hN]; exact ixOf_get hv) (I.c.vis _ v1) d1 d2
      have pf : ∀ p, PE Z.X (.Name _ p) (tVar jf) := fun p => pe_var (by rw [I.c.hN]; exact ixOf_get hf) (I.c.vis _ v2) e1 e2
      have pn : ∀ p, PE Z.X (.Name _ p) (tVar jn) := fun p => pe_var (by rw [I.c.hN]; exact ixOf_get hn) (I.c.vis _ v3) f1 f2
      have pk : ∀ p1 p2 p3, PE Z.X (.Subscript (.Name _ p1) (.Name _ p2) p3) (tNm Z.X.K jn iv) := fun p1 p2 p3 => pe_ix (or_ix I.z.u1) (pn p1) (pv p2) (plain_ix rfl)
      have b1 := fun (p1 p2 p3 p4 p5 p6 p7 pp : Pos) (hh : (p6.endLine == p7.line) = true) => ps_expr (pos := pp) (pe_dsetd (X := Z.X) (apos := p6) (cpos := p7) (pf p1) (pk p2 p3 p4) (pe_lst (pos := p5) pa_nil) ⟨rfl, rfl, hh, rfl⟩)
      have b2 := fun (p1 p2 p3 p4 p5 p6 p7 p8 pp : Pos) (hh : (p7.endLine == p8.line) = true) => ps_expr (pos := pp) (pe_bm (X := Z.X) (apos := p7) (cpos := p8) PySem.F.plainAttrs_list PySem.F.slot_list_append PySem.F.type_list_append mt_append (pe_ix (or_ix I.z.u1) (pf p1) (pk p2 p3 p4) (plain_ix rfl) (pos := p5)) (pa_cons (pv p6) pa_nil) rfl rfl hh)
      exact ⟨_, ps_for I.po I.z.calm a1 (pg_name I.z.nd (by rw [I.c.hN]; exact ixOf_get hv) q1 q2) (pss_cons (b1 _ _ _ _ _ _ _ _ l1) (pss_one (b2 _ _ _ _ _ _ _ _ _ l2))) (no_set hs), rs_grp a2⟩
    · cases hp
  · cases hp
theorem vs_raise {x : Str} {p2 : Pos} (I : SIn G sc k Z) (hx : x ∈ G.excs) (hg : glo sc x = true) (ok : okName x = true) (hs : starred e = false) (V : VE Z e f) : VS Z (.Raise (some (.Call (.Name x p) [e] [] p2)) none pos) (sRaise x f) := by
  obtain ⟨t, h1, h2⟩ := V
  obtain ⟨C, fI, fd, hm, oc, iC, tI, hb, F, _, _⟩ := I.g.ex x hx
  obtain ⟨d1, d2, d3⟩ := okName_d ok
  refine ⟨_, ps_raise I.z.calm I.z.tk (pmk_oex oc iC tI F I.z.room hb .nil passL (I.c.glo x hg) hm (pa_cons h1 pa_nil (starEach_cons hs)) d1 (starEach_cons hs)), ?_⟩
  exact rs_raise hm h2
theorem vs_seq {s1 s2 : SS} (h1 : VS Z st s1) (h2 : VSs Z sts s2) : VSs Z (st :: sts) (sSeq s1 s2) := by
  obtain ⟨_, a1, a2⟩ := h1
  obtain ⟨_, b1, b2⟩ := h2
  exact ⟨_, pss_cons a1 b1, rs_seq a2 b2⟩
/-! ### try -/
theorem suite_ok (I : SIn G sc k Z) {x : Str} {i : Nat} {suite : List Stmt} {g : D → D} {C : Addr} (hi : ixOf G.N x = some i) (hl : sc.names.lookup x = some .local) (ok : okName x = true) (hg : cSuite x suite = some g) (T : XfC Z.X.K C) (hno : PySem.W.findIn Z.X.K (.ref C) "what" = some none) :
    ∃ ts, (∃ b0 r, suite = b0 :: r ∧ ∀ (a : Addr) (oe : Obj) (d : Option Addr) (cls : Value) (pn : List (Addr × Obj)), Zc cls d oe → (∃ vs, oe.data = .fields vs) → PSs (Z.X.suite a ((a, oe) :: pn)) (b0 :: r) (ts a cls d)) ∧ SuiteOk Z C i g ts := by
  obtain ⟨d1, d2, d3⟩ := okName_d ok
  have hi' : Z.X.N[i]? = some x := by rw [I.c.hN]; exact ixOf_get hi
  have hv : Vis Z.X.env.scope x := by rw [I.sc]; exact .inl hl
  have rd : ∀ (a : Addr) (oe : Obj) (cls : Value) (d : Option Addr) (pn : List (Addr × Obj)) (p1 p2 : Pos), Zc cls d oe → (∃ vs, oe.data = .fields vs) → PE (Z.X.suite a ((a, oe) :: pn)) (.Attribute (.Name x p1) "what" p2) (tXf a cls d C "what" (tVar i)) := fun a oe cls d pn p1 p2 hz hf =>
    pe_xf T hno hz hf (pe_var (X := Z.X.suite a ((a, oe) :: pn)) hi' hv d1 d2) (attr_base (m := ("what" : Str)) (env := Z.X.env) (w := eval (.Name x p1) Z.X.env) rfl)
  unfold cSuite at hg
  split at hg
  · rename_i y p1 ff p2 p3
    split at hg
    · rename_i he
      obtain ⟨rfl, rfl⟩ := he
      cases hg
      refine ⟨fun a cls d => tRet (tXf a cls d C "what" (tVar i)), ⟨_, _, rfl, fun a oe d cls pn hz hf => pss_one (ps_ret (rd a oe cls d pn p1 p2 hz hf))⟩, ?_⟩
      intro Y F ρ σ H E a dd fs v w R e1 e2 r hlt q
      refine ⟨.ref a, ?_, rfl, rfl, dd, fs, v, rfl, e1, e2, q F H v (Same.refl F) R r⟩
      rw [List.getElem?_set_self hlt]
    · cases hg
  · rename_i str p0 p00 y p1 ff p2 p3 p4 p5
    split at hg
    · rename_i he
      obtain ⟨rfl, rfl⟩ := he
      cases hg
      refine ⟨fun a cls d => tRet (tTup (tCons (tC (.str str)) (tCons (tXf a cls d C "what" (tVar i)) tNil))), ⟨_, _, rfl, fun a oe d cls pn hz hf => pss_one (ps_ret (pe_tup (pa_cons pe_str (pa_cons (rd a oe cls d pn p1 p2 hz hf) pa_nil (starEach_cons rfl)) (starEach_cons rfl))))⟩, ?_⟩
      intro Y F ρ σ H E a dd fs v w R e1 e2 r hlt q
      refine ⟨.ref a, ?_, rfl, rfl, dd, fs, v, rfl, e1, e2, by rw [sizeLine_eq]; show 2 ≤ _; omega, fun b nb => ?_⟩
      · rw [List.getElem?_set_self hlt]
      · have x1 := Ext.layF (o := HO.tup [.str str, v]) R.fh nb
        exact q _ _ _ x1.ff (R.grow x1) (.tup upd_same (.cons (.str str) (.cons (r.mono x1.ff) .nil)))
    · cases hg
  · cases hg
theorem cHs_ok (I : SIn G sc k Z) : ∀ {hds : List ExceptHandler} {hs : List (Str × Nat × (D → D))}, cHs G sc hds = some hs → ∃ l, MasOk Z.X hds l ∧ HsOk Z l hs
  | [], hs, h => by
    cases h
    exact ⟨[], .nil, .nil⟩
  | h0 :: hds, hs, h => by
    unfold cHs at h
    split at h
    · rename_i a b e1 e2
      cases h
      obtain ⟨l, m1, m2⟩ := cHs_ok I e2
      unfold cH at e1
      split at e1
      · rename_i x p1 nn suite p2
        split at e1
        · rename_i i g hi hg
          split at e1
          · rename_i hc
            obtain ⟨c1, c2, c3, c4, c5⟩ := hc
            cases e1
            obtain ⟨C, fI, fd, hm, oc, iC, tI, hb, F, T, hno⟩ := I.g.ex x c1
            obtain ⟨ts, ⟨b0, r, rfl, hp⟩, hok⟩ := suite_ok I hi c5 c4 hg T hno
            obtain ⟨d1, d2, d3⟩ := okName_d c3
            refine ⟨(.ref C, i, ts) :: l, .cons ⟨I.c.glo x c2, d1, .inl hm⟩ (by rw [I.c.hN]; exact ixOf_get hi) (by show Z.X.env.scope.names.lookup nn = _; rw [I.sc]; exact c5) (fun a oe cls d pn hz hf => hp a oe d cls pn hz hf) m1, .cons hm hok m2⟩
          · cases e1
        · cases e1
      · cases e1
    · cases h
theorem vs_try {hds : List ExceptHandler} {h0 : ExceptHandler} {hs : List (Str × Nat × (D → D))} {s1 : SS} (I : SIn G sc k Z) (hb : ∀ Z', SIn G sc k Z' → VSs Z' sts s1) (hh : cHs G sc (h0 :: hds) = some hs) : VS Z (.Try sts (h0 :: hds) [] [] pos) (sTry G.excs s1 hs) := by
  obtain ⟨l, m1, m2⟩ := cHs_ok I hh
  refine ⟨_, ps_try_mas (tb := fun W => canS ⟨Z.X, W⟩ s1) I.st I.fr I.z.nd I.z.tk (fun W pn xe tk po => ?_) m1, rs_try I.g.exc m2⟩
  exact (hb ⟨Z.X.tr pn xe, W⟩ ⟨⟨I.c.hN, I.c.vis, I.c.glo, I.c.loc, I.c.cf, I.c.fk⟩, ⟨I.z.room, I.z.calm, tk, I.z.nd⟩, I.g, I.sc, po, I.st, I.fr⟩).can

/-! ### the induction -/
theorem sst : ∀ n : Nat, (∀ Z st, SIn G sc k Z → VS Z st (cS G sc n st)) ∧ ∀ Z sts, SIn G sc k Z → VSs Z sts (cSs G sc n sts)
  | 0 => ⟨fun _ _ _ => vs_bad, fun _ _ _ => vss_bad⟩
  | n + 1 => by
    obtain ⟨ih1, ih2⟩ := sst n
    refine ⟨fun Z st I => ?_, fun Z sts I => ?_⟩
    · have E : ∀ e, VE Z e (cE G n sc e) := fun e => (snd n).e sc Z e I.c I.z I.g
      have T : ∀ e, VT Z e (cT G n sc e) := fun e => (snd n).t sc Z e I.c I.z I.g
      cases st with
      | Expr e pos =>
        have q : isComp e = false → VS Z (.Expr e pos) (sExpr (cE G n sc e)) := fun hc => by
          obtain ⟨t, h1, h2⟩ := E e
          exact ⟨_, ps_expr h1 (sw_plain hc), rs_expr h2⟩
        cases e with
        | Constant c j p =>
          cases c with
          | str s => exact ⟨_, ps_doc, rs_next⟩
          | _ => exact q rfl
        | ListComp _ _ _ _ => exact vs_bad
        | SetComp _ _ _ _ => exact vs_bad
        | DictComp _ _ _ _ _ => exact vs_bad
        | _ => exact q rfl
      | Pass pos => exact ⟨_, ps_pass, rs_next⟩
      | Break pos => exact ⟨_, ps_break, rs_break⟩
      | Continue pos => exact ⟨_, ps_continue, rs_cont⟩
      | Return e pos =>
        cases e with
        | none => exact ⟨_, ps_retN, rs_retN⟩
        | some e =>
          obtain ⟨t, h1, h2⟩ := E e
          exact ⟨_, ps_ret h1, rs_ret h2⟩
      | If c a b pos => exact vs_if (T c) (ih2 Z a I) (ih2 Z b I)
      | While c a o pos =>
        cases o with
        | nil => exact vs_while I (T c) (ih2 Z a I)
        | cons _ _ => exact vs_bad
      | For tg it a o pos =>
        cases o with
        | nil =>
          simp only [cS]
          split
          · exact vs_bad
          · rename_i hs
            split
            · rename_i v f nm hp
              split
              · rename_i iv jf jn h1 h2 h3
                split
                · rename_i hc
                  exact vs_grp I hp h1 h2 h3 hc.1 hc.2.1.1 hc.2.1.2.1 hc.2.1.2.2 hc.2.2.1 hc.2.2.2.1 hc.2.2.2.2 (by simpa using hs) ((snd n).i sc Z tg it I.c I.z I.g)
                · exact vs_bad
              · exact vs_bad
            · exact vs_for I (by simpa using hs) ((snd n).i sc Z tg it I.c I.z I.g) (vg_any I) (ih2 Z a I)
        | cons _ _ => exact vs_bad
      | Assign ts e pos =>
        cases ts with
        | nil => exact vs_bad
        | cons t ts =>
          cases ts with
          | cons _ _ =>
            cases t with
            | Subscript o i p2 => cases o <;> exact vs_bad
            | Attribute o f p2 => cases o <;> exact vs_bad
            | _ => exact vs_bad
          | nil =>
            cases t with
            | Name x p =>
              simp only [cS]
              split
              · rename_i i hi
                split
                · rename_i hl
                  exact vs_set I hi hl
                · exact vs_bad
              · exact vs_bad
            | Tuple es j p =>
              simp only [cS]
              split
              · rename_i hc
                have hg := vg_any (n := n) (e := .Tuple es j p) I
                have e1 : cG G sc n (.Tuple es 0 e.pos) = cG G sc n (.Tuple es j p) := by cases n <;> rfl
                rw [e1]
                exact vs_unp hg hc.1 (E e)
              · exact vs_bad
            | Subscript o i p2 =>
              cases o with
              | Name x p =>
                simp only [cS]
                split
                · rename_i j hj
                  split
                  · rename_i hc
                    exact vs_put I hj hc.1 hc.2.1 hc.2.2.1 hc.2.2.2 (E i) (E e)
                  · exact vs_bad
                · exact vs_bad
              | _ => exact vs_bad
            | Attribute o f p2 =>
              cases o with
              | Name x p =>
                simp only [cS]
                split
                · rename_i j hj
                  split
                  · rename_i hc
                    exact vs_fld I hj hc.1 hc.2.1 hc.2.2 (E e)
                  · exact vs_bad
                · exact vs_bad
              | _ => exact vs_bad
            | _ => exact vs_bad
      | AugAssign t op e pos =>
        cases t with
        | Name x p =>
          simp only [cS]
          split
          · rename_i i f hi hf
            split
            · rename_i hl
              exact vs_aug I hi hl hf (E e)
            · exact vs_bad
          · exact vs_bad
        | Subscript o i p2 =>
          cases o with
          | Name x p =>
            simp only [cS]
            split
            · rename_i j f hj hf
              split
              · rename_i hc
                exact vs_augS I hj hc.1 hc.2.1 hc.2.2 hf (E i) (E e)
              · exact vs_bad
            · exact vs_bad
          | _ => exact vs_bad
        | _ => exact vs_bad
      | Raise ex cause pos =>
        simp only [cS]
        split
        case h_16 =>
          rename_i heq
          cases heq
          split
          · rename_i hc
            exact vs_raise I hc.1 hc.2.1 hc.2.2.1 hc.2.2.2 (E _)
          · exact vs_bad
        case h_18 => exact vs_bad
        all_goals (rename_i heq; cases heq)
      | Try body hds orelse fin pos =>
        cases orelse with
        | cons _ _ => cases fin <;> exact vs_bad
        | nil =>
          cases fin with
          | cons _ _ => exact vs_bad
          | nil =>
            cases hds with
            | nil => exact vs_bad
            | cons h0 hds =>
              simp only [cS]
              split
              · rename_i hs hh
                exact vs_try I (fun Z' I' => ih2 Z' body I') hh
              · exact vs_bad
      | _ => exact vs_bad
    · cases sts with
      | nil => exact ⟨_, pss_nil, rs_next⟩
      | cons st r =>
        cases r with
        | nil =>
          obtain ⟨t, h1, h2⟩ := ih1 Z st I
          exact ⟨_, pss_one h1, h2⟩
        | cons st2 r => exact vs_seq (ih1 Z st I) (ih2 Z (st2 :: r) I)
end
end VL
/-! V16: a def by its compiled body; what is known of the module, def by def -/
namespace VL
open PySem PySem.Spec PyProof.Rows L2
section
variable {P : Program} {w : World} {K : PySem.W.Frag} {mg : Str → Option Value} {base : Heap} {G : Glob} {j k : Nat}
theorem fn_C {x qual : Str} {st : Stmt} {f : Addr} {fd : FuncData} {N ps : List Str} {own0 : Bool} {n : Nat} (Fn : Fun K x qual st f fd) (Sc : FnScope N ps (defScope st)) (hN : ps.length ≤ N.length) (hG : G.N = N) (g : GOk G k P w K mg base) :
    FnOk P w K mg base (L2.CX P w) (k + 2) f fd ps ((⟨own0, runDef N.length ps.length own0 (cSs G (defScope st) n (defBody st))⟩ : FSpec).sp K mg) := by
  refine fn_V Fn Sc hN fun Z h => ?_
  obtain ⟨ok, po⟩ := h.ok Sc.nd
  obtain ⟨f', cdv, A, outer, s, H, E, rfl, hr⟩ := h
  refine (sst n).2 _ _ ⟨⟨hG.symm, fun y hy => ?_, fun y hy => ?_, fun y hy => ?_, fun y hy => hy, Sc.kind⟩, ok, g, rfl, po, rfl, rfl⟩
  · unfold VL.vis at hy
    split at hy
    · rename_i e; exact .inl e
    · rename_i e; exact .inr (.inl e)
    · rename_i e; exact .inr (.inr e)
    · cases hy
  · unfold VL.glo at hy
    split at hy
    · rename_i e; exact e
    · cases hy
  · unfold VL.loc at hy
    refine ⟨?_, .inl rfl⟩
    split at hy
    · rename_i e; exact .inl e
    · rename_i e; exact .inr e
    · cases hy
/-- a def's promise by a nicer function -/
theorem fn_N {x qual : Str} {st : Stmt} {f : Addr} {fd : FuncData} {N ps : List Str} {own0 : Bool} {run : List D → FR} (n : Nat) (Fn : Fun K x qual st f fd) (Sc : FnScope N ps (defScope st)) (hN : ps.length ≤ N.length) (g : GOk G k P w K mg base)
    {body : SS} (hb : cSs { G with N := N } (defScope st) n (defBody st) = body) (hr : ∀ ds, run ds ≠ .bad → runDef N.length ps.length own0 body ds = run ds) : FnOk P w K mg base (L2.CX P w) (k + 2) f fd ps ((⟨own0, run⟩ : FSpec).sp K mg) := by
  have F := fn_C (G := { G with N := N }) (own0 := own0) (n := n) Fn Sc hN rfl ⟨g.fn, g.mkc, g.mth, g.fld, g.blt, g.con, g.exc, g.ex⟩
  rw [hb] at F
  exact F.imp (FSpec.sp_weak (S := ⟨own0, run⟩) (T := ⟨own0, runDef N.length ps.length own0 body⟩) rfl hr)
theorem GOk.up (g : GOk G j P w K mg base) (h : j ≤ k) : GOk G k P w K mg base where
  fn := fun x S e => let ⟨f, fd, ps, a, b, c, F⟩ := g.fn x S e; ⟨f, fd, ps, a, b, c, F.mono h⟩
  mkc := fun x S e => let ⟨o, C, f, fd, ps, a, b, c, F⟩ := g.mkc x S e; ⟨o, C, f, fd, ps, a, b, c, F.mono h⟩
  mth := fun m c S e => let ⟨o, C, f, fd, ps, a, b, d, e, F⟩ := g.mth m c S e; ⟨o, C, f, fd, ps, a, b, d, e, F.mono h⟩
  fld := g.fld
  blt := g.blt
  con := g.con
  exc := g.exc
  ex := fun c hc => let ⟨C, fI, fd, a, b, d, e, f, F, r⟩ := g.ex c hc; ⟨C, fI, fd, a, b, d, e, f, F.mono h, r⟩
def addF (G : Glob) (x : Str) (S : FSpec) : Glob := { G with fns := fun y => if y = x then some S else G.fns y }
def addC (G : Glob) (x : Str) (S : FSpec) : Glob := { G with mks := fun y => if y = x then some S else G.mks y }
def addM (G : Glob) (m c : Str) (S : FSpec) : Glob := { G with mths := fun y => if y = m then some (c, S) else G.mths y }
theorem GOk.addF {x : Str} {S : FSpec} {f : Addr} {fd : FuncData} {ps : List Str} (g : GOk G k P w K mg base) (hm : mg x = some (.ref f)) (hk : PySem.W.keepIn K (.ref f) = true) (hb : L2.Binds K fd ps []) (F : FnOk P w K mg base (L2.CX P w) k f fd ps (S.sp K mg)) :
    GOk (VL.addF G x S) k P w K mg base where
  fn := fun y S' e => by
    unfold VL.addF at e
    dsimp only at e
    split at e
    · rename_i h
      cases e
      subst h
      exact ⟨f, fd, ps, hm, hk, hb, F⟩
    · exact g.fn y S' e
  mkc := g.mkc
  mth := g.mth
  fld := g.fld
  blt := g.blt
  con := g.con
  exc := g.exc
  ex := g.ex
theorem GOk.addC {x : Str} {S : FSpec} {C f : Addr} {fd : FuncData} {ps : List Str} (g : GOk G k P w K mg base) (ho : S.own0 = true) (hm : mg x = some (.ref C)) (M : Mk K C f) (hb : L2.Binds K fd ps []) (F : FnOk P w K mg base (L2.CX P w) k f fd ps (S.sp K mg)) :
    GOk (VL.addC G x S) k P w K mg base where
  fn := g.fn
  mkc := fun y S' e => by
    unfold VL.addC at e
    dsimp only at e
    split at e
    · rename_i h
      cases e
      subst h
      exact ⟨ho, C, f, fd, ps, hm, M, hb, F⟩
    · exact g.mkc y S' e
  mth := g.mth
  fld := g.fld
  blt := g.blt
  con := g.con
  exc := g.exc
  ex := g.ex
theorem GOk.addM {m c : Str} {S : FSpec} {C f : Addr} {fd : FuncData} {ps : List Str} (g : GOk G k P w K mg base) (ho : S.own0 = false) (hm : mg c = some (.ref C)) (cl : Cls K C) (me : Meth K C m f) (hb : L2.Binds K fd ps []) (F : FnOk P w K mg base (L2.CX P w) k f fd ps (S.sp K mg)) :
    GOk (VL.addM G m c S) k P w K mg base where
  fn := g.fn
  mkc := g.mkc
  mth := fun y c' S' e => by
    unfold VL.addM at e
    dsimp only at e
    split at e
    · rename_i h
      cases e
      subst h
      exact ⟨ho, C, f, fd, ps, hm, cl, me, hb, F⟩
    · exact g.mth y c' S' e
  fld := g.fld
  blt := g.blt
  con := g.con
  exc := g.exc
  ex := g.ex
end
end VL
/-! VE: what the operations give on common data -/
namespace VL
open PySem PySem.Spec PyProof.Rows L2
def intsD (ns : List Int) : List D := ns.map D.int
theorem depthAll_ints : ∀ ns : List Int, PyData.depthAll (ns.map PyData.int) ≤ 1
  | [] => by simp [PyData.depthAll]
  | n :: r => by
    have := depthAll_ints r
    simp only [List.map_cons, PyData.depthAll, PyData.depth]
    omega
theorem layAll_ints : ∀ ns : List Int, PyData.canLayAll0 (ns.map PyData.int) = true
  | [] => rfl
  | n :: r => by
    have := layAll_ints r
    simp only [List.map_cons, PyData.canLayAll0, PyData.canLay0, this]
    rfl
theorem toPs_ints : ∀ ns : List Int, toPs (ns.map D.int) = some (ns.map PyData.int)
  | [] => by simp [toPs]
  | n :: r => by
    have := toPs_ints r
    simp only [List.map_cons, toPs, this, D.toP]
theorem eqvAll_ints : ∀ ns ms : List Int, PyData.eqvAll (ns.map PyData.int) (ms.map PyData.int) = decide (ns = ms)
  | [], [] => rfl
  | [], _ :: _ => rfl
  | _ :: _, [] => rfl
  | n :: r, m :: q => by
    have := eqvAll_ints r q
    simp only [List.map_cons, PyData.eqvAll, PyData.eqv, this, List.cons.injEq]
    by_cases h : n = m <;> by_cases h2 : r = q <;> simp [h, h2]
theorem shaped_int (a : Int) : SeqAt.shaped (.int a) = true := by simp [SeqAt.shaped, PyData.canLay0, PyData.depth]
theorem shaped_seq {xs : List PyData} (h1 : PyData.canLayAll0 xs = true) (h2 : PyData.depthAll xs ≤ 60) : SeqAt.shaped (.list xs) = true ∧ SeqAt.shaped (.tuple xs) = true := by
  have h3 : PyData.depth (.list xs) ≤ 64 := by
    simp only [PyData.depth]
    omega
  have h4 : PyData.depth (.tuple xs) ≤ 64 := by
    simp only [PyData.depth]
    omega
  have h5 : PyData.canLay0 (.list xs) = true := by simp only [PyData.canLay0, h1]
  have h6 : PyData.canLay0 (.tuple xs) = true := by simp only [PyData.canLay0, h1]
  exact ⟨Bool.and_eq_true_iff.mpr ⟨h5, decide_eq_true h3⟩, Bool.and_eq_true_iff.mpr ⟨h6, decide_eq_true h4⟩⟩
theorem shaped_ints (ns : List Int) : SeqAt.shaped (.list (ns.map .int)) = true := (shaped_seq (layAll_ints ns) (by have := depthAll_ints ns; omega)).1
theorem shaped_tints (ns : List Int) : SeqAt.shaped (.tuple (ns.map .int)) = true := (shaped_seq (layAll_ints ns) (by have := depthAll_ints ns; omega)).2
@[simp] theorem eqP_int (a b : Int) : eqP (.int a) (.int b) = some (decide (a = b)) := by
  simp only [eqP, D.toP, shaped_int, Bool.and_self, if_true, PyData.eqv]
  rfl
@[simp] theorem eqP_non_int (b : Int) : eqP .non (.int b) = some false := by
  simp only [eqP, D.toP, shaped_int, PyData.eqv]
  rfl
@[simp] theorem eqP_int_non (b : Int) : eqP (.int b) .non = some false := by
  simp only [eqP, D.toP, shaped_int, PyData.eqv]
  rfl
@[simp] theorem eqP_lints (ns ms : List Int) : eqP (.lst (ns.map D.int)) (.lst (ms.map D.int)) = some (decide (ns = ms)) := by
  simp only [eqP, D.toP, toPs_ints, Option.map_some, shaped_ints, Bool.and_self, if_true, PyData.eqv, eqvAll_ints]
@[simp] theorem eqP_tints (ns ms : List Int) : eqP (.tup (ns.map D.int)) (.tup (ms.map D.int)) = some (decide (ns = ms)) := by
  simp only [eqP, D.toP, toPs_ints, Option.map_some, shaped_tints, Bool.and_self, if_true, PyData.eqv, eqvAll_ints]
theorem opEq_of {x y : D} {b : Bool} (h : eqP x y = some b) : opEq x y = some (.sh (.bl b)) := by unfold opEq; rw [h]; rfl
theorem opNe_of {x y : D} {b : Bool} (h : eqP x y = some b) : opNe x y = some (.sh (.bl (!b))) := by unfold opNe; rw [h]; rfl
@[simp] theorem opEq_int (a b : Int) : opEq (.int a) (.int b) = some (.sh (.bl (decide (a = b)))) := opEq_of (eqP_int a b)
@[simp] theorem opNe_int (a b : Int) : opNe (.int a) (.int b) = some (.sh (.bl (!decide (a = b)))) := opNe_of (eqP_int a b)
theorem flatD_ints (ns : List Int) : (ns.map D.int).all flatD = true := by
  rw [List.all_eq_true]
  intro d hd
  obtain ⟨n, _, rfl⟩ := List.mem_map.mp hd
  rfl
theorem inD_ints (x : Int) : ∀ ns : List Int, inD (.int x) (ns.map D.int) = decide (x ∈ ns)
  | [] => rfl
  | n :: r => by
    have := inD_ints x r
    unfold inD at this ⊢
    rw [List.map_cons, List.any_cons, this]
    simp only [eqD, List.mem_cons]
    by_cases h : x = n
    · simp [h]
    · have h' : n ≠ x := fun z => h z.symm
      simp [h, h']
@[simp] theorem inP_tints (x : Int) (ns : List Int) : inP (.int x) (.tup (ns.map D.int)) = some (decide (x ∈ ns)) := by
  unfold inP
  dsimp only
  rw [flatD_ints, inD_ints]
  rfl
@[simp] theorem inP_lints (x : Int) (ns : List Int) : inP (.int x) (.lst (ns.map D.int)) = some (decide (x ∈ ns)) := by
  unfold inP
  dsimp only
  rw [flatD_ints, inD_ints]
  rfl
theorem toPs_tups : ∀ L : List (List Int), toPs (L.map fun ns => D.tup (ns.map D.int)) = some (L.map fun ns => PyData.tuple (ns.map PyData.int))
  | [] => by simp [toPs]
  | n :: r => by
    have := toPs_tups r
    simp only [List.map_cons, toPs, this, D.toP, toPs_ints, Option.map_some]
theorem lay_tups : ∀ L : List (List Int), PyData.canLayAll0 (L.map fun ns => PyData.tuple (ns.map PyData.int)) = true ∧ PyData.depthAll (L.map fun ns => PyData.tuple (ns.map PyData.int)) ≤ 3
  | [] => by simp [PyData.canLayAll0, PyData.depthAll]
  | n :: r => by
    obtain ⟨h1, h2⟩ := lay_tups r
    have h3 := depthAll_ints n
    simp only [List.map_cons, PyData.canLayAll0, PyData.canLay0, layAll_ints, h1, PyData.depthAll, PyData.depth]
    refine ⟨rfl, by omega⟩
@[simp] theorem inP_tups (x : List Int) (L : List (List Int)) : inP (.tup (x.map D.int)) (.lst (L.map fun ns => D.tup (ns.map D.int))) = some (decide (x ∈ L)) := by
  unfold inP
  dsimp only
  have h0 : (flatD (.tup (x.map D.int)) && (L.map fun ns => D.tup (ns.map D.int)).all flatD) = false := rfl
  rw [h0]
  simp only [D.toP, toPs_ints, toPs_tups, Option.map_some, shaped_tints]
  have hs : SeqAt.shaped (.list (L.map fun ns => PyData.tuple (ns.map PyData.int))) = true := (shaped_seq (lay_tups L).1 (by have := (lay_tups L).2; omega)).1
  rw [hs]
  simp only [Bool.and_self, if_true, Bool.false_eq_true, if_false]
  congr 1
  induction L with
  | nil => rfl
  | cons y r ih =>
    have hs2 : SeqAt.shaped (.list (r.map fun ns => PyData.tuple (ns.map PyData.int))) = true := (shaped_seq (lay_tups r).1 (by have := (lay_tups r).2; omega)).1
    rw [List.map_cons, List.any_cons, ih rfl hs2]
    simp only [PyData.eqv, eqvAll_ints, List.mem_cons]
    by_cases h : x = y
    · simp [h]
    · have h' : y ≠ x := fun z => h z.symm
      simp [h, h']
end VL
/-! VR: loops and comprehensions over data, by what they keep -/
namespace VL
open PySem PySem.Spec PyProof.Rows L2
theorem c_eq (a b : Nat) : ((a : Int) = (b : Int)) = (a = b) := propext ⟨fun h => by omega, fun h => by omega⟩
theorem c_lt (a b : Nat) : ((a : Int) < (b : Int)) = (a < b) := propext ⟨fun h => by omega, fun h => by omega⟩
theorem c_le (a b : Nat) : ((a : Int) ≤ (b : Int)) = (a ≤ b) := propext ⟨fun h => by omega, fun h => by omega⟩
theorem c_ge (a : Nat) : ((0 : Int) ≤ (a : Int)) = True := propext ⟨fun _ => trivial, fun _ => by omega⟩
section
variable {α β : Type}
/-- a for loop that keeps a state -/
theorem loopF_st {h : D → Env → Option Env} {body : SS} (enc : α → D) (st : β → Env → Prop) (step : β → α → β) : ∀ (xs : List α) (b : β) (ρ : Env), st b ρ →
    (∀ x ∈ xs, ∀ b ρ, st b ρ → ∃ ρ1, h (enc x) ρ = some ρ1 ∧ ∃ ρ2, body ρ1 = .nx ρ2 ∧ st (step b x) ρ2) → ∃ ρ', loopF h body (xs.map enc) ρ = .nx ρ' ∧ st (xs.foldl step b) ρ'
  | [], b, ρ, h0, _ => ⟨ρ, rfl, h0⟩
  | x :: xs, b, ρ, h0, hs => by
    obtain ⟨ρ1, h1, ρ2, h2, h3⟩ := hs x List.mem_cons_self b ρ h0
    obtain ⟨ρ', h4, h5⟩ := loopF_st enc st step xs (step b x) ρ2 h3 fun y hy => hs y (List.mem_cons_of_mem _ hy)
    refine ⟨ρ', ?_, h5⟩
    rw [List.map_cons]
    unfold loopF
    rw [h1]
    dsimp only
    rw [h2]
    exact h4
/-- by an invariant over what was walked -/
theorem loopF_inv {h : D → Env → Option Env} {body : SS} (enc : α → D) (xs : List α) (I : Nat → Env → Prop) {ρ : Env} (h0 : I 0 ρ)
    (hs : ∀ i x ρ, xs[i]? = some x → I i ρ → ∃ ρ1, h (enc x) ρ = some ρ1 ∧ ∃ ρ2, body ρ1 = .nx ρ2 ∧ I (i + 1) ρ2) : ∃ ρ', loopF h body (xs.map enc) ρ = .nx ρ' ∧ I xs.length ρ' := by
  have key : ∀ (ys : List α) (i : Nat) (ρ : Env), xs.drop i = ys → I i ρ → ∃ ρ', loopF h body (ys.map enc) ρ = .nx ρ' ∧ I (i + ys.length) ρ' := by
    intro ys
    induction ys with
    | nil => exact fun i ρ _ hi => ⟨ρ, rfl, hi⟩
    | cons y ys ih =>
      intro i ρ hd hi
      have hy : xs[i]? = some y := by
        have := congrArg (·[0]?) hd
        simpa using this
      obtain ⟨ρ1, h1, ρ2, h2, h3⟩ := hs i y ρ hy hi
      have hd2 : xs.drop (i + 1) = ys := by
        rw [← List.drop_drop, hd]
        rfl
      obtain ⟨ρ', h4, h5⟩ := ih (i + 1) ρ2 hd2 h3
      refine ⟨ρ', ?_, by rw [List.length_cons, Nat.add_comm ys.length 1, ← Nat.add_assoc]; exact h5⟩
      rw [List.map_cons]
      unfold loopF
      rw [h1]
      dsimp only
      rw [h2]
      exact h4
  obtain ⟨ρ', h1, h2⟩ := key xs 0 ρ rfl h0
  exact ⟨ρ', h1, by rw [Nat.zero_add] at h2; exact h2⟩
/-- a for loop that may end with a value or an error (all data end alike: `bad` is not claimed) -/
theorem loopF_or {h : D → Env → Option Env} {body : SS} (enc : α → D) (st : Env → Prop) (out : Fl → Prop) : ∀ (xs : List α) (ρ : Env), st ρ →
    (∀ x ∈ xs, ∀ ρ, st ρ → ∃ ρ1, h (enc x) ρ = some ρ1 ∧ ((∃ ρ2, body ρ1 = .nx ρ2 ∧ st ρ2) ∨ ((∃ v ρ2, body ρ1 = .ret v ρ2) ∨ ∃ c w ρ2, body ρ1 = .exn c w ρ2) ∧ out (body ρ1))) →
    (∃ ρ', loopF h body (xs.map enc) ρ = .nx ρ' ∧ st ρ') ∨ out (loopF h body (xs.map enc) ρ)
  | [], ρ, h0, _ => .inl ⟨ρ, rfl, h0⟩
  | x :: xs, ρ, h0, hs => by
    obtain ⟨ρ1, h1, h2⟩ := hs x List.mem_cons_self ρ h0
    rw [List.map_cons]
    unfold loopF
    rw [h1]
    dsimp only
    rcases h2 with ⟨ρ2, h2, h3⟩ | ⟨h2, h3⟩
    · rw [h2]
      exact loopF_or enc st out xs ρ2 h3 fun y hy => hs y (List.mem_cons_of_mem _ hy)
    · right
      rcases h2 with ⟨v, ρ2, h2⟩ | ⟨c, w, ρ2, h2⟩
      · rw [h2] at h3 ⊢; exact h3
      · rw [h2] at h3 ⊢; exact h3
/-- while, by a state and a measure -/
theorem whileF_st {g : STst} {body : SS} (st : β → Env → Prop) (fin : Env → Prop) (μ : β → Nat)
    (hs : ∀ b ρ, st b ρ → (∃ ρ1, g ρ = .ok false ρ1 ∧ fin ρ1) ∨ ∃ ρ1, g ρ = .ok true ρ1 ∧ ∃ ρ2 b', body ρ1 = .nx ρ2 ∧ st b' ρ2 ∧ μ b' < μ b) :
    ∀ (n : Nat) (b : β) (ρ : Env), st b ρ → μ b < n → ∃ ρ', whileF g body n ρ = .nx ρ' ∧ fin ρ'
  | 0, b, ρ, _, hn => absurd hn (Nat.not_lt_zero _)
  | n + 1, b, ρ, h0, hn => by
    unfold whileF
    rcases hs b ρ h0 with ⟨ρ1, h1, h2⟩ | ⟨ρ1, h1, ρ2, b', h2, h3, h4⟩
    · refine ⟨ρ1, ?_, h2⟩
      rw [h1]
      rfl
    · obtain ⟨ρ', h5, h6⟩ := whileF_st st fin μ hs n b' ρ2 h3 (by omega)
      refine ⟨ρ', ?_, h6⟩
      rw [h1]
      rw [sBind_ok, if_pos rfl, h2]
      exact h5
/-- a comprehension whose parts change nothing -/
theorem compF_map {h : D → Env → Option Env} {g : STst} {f : SE} {vs : List Nat} {ρ0 : Env} (enc : α → D) (p : α → Bool) (y : α → D) : ∀ (xs : List α) (acc : List D),
    (∀ x ∈ xs, ∃ ρ1, h (enc x) ρ0 = some ρ1 ∧ g ρ1 = .ok (p x) ρ1 ∧ (p x = true → ∃ v, f ρ1 = .ok v ρ1 ∧ esc ρ1 v = some (y x, ρ1)) ∧ wipeE ρ1 vs = ρ0) → acc.length + xs.length ≤ sizeLine →
    compF h g f vs (xs.map enc) ρ0 acc = .ok (acc ++ (xs.filter p).map y) ρ0
  | [], acc, _, _ => by simp [compF]
  | x :: xs, acc, hs, hl => by
    obtain ⟨ρ1, h1, h2, h3, h4⟩ := hs x List.mem_cons_self
    have ih := fun acc' => compF_map (h := h) (g := g) (f := f) (vs := vs) (ρ0 := ρ0) enc p y xs acc'
    rw [List.map_cons]
    unfold compF
    rw [h1]
    dsimp only
    rw [h2]
    show (if p x = true then _ else _) = _
    rw [List.length_cons] at hl
    by_cases hp : p x = true
    · obtain ⟨v, h5, h6⟩ := h3 hp
      rw [if_pos hp, h5]
      show (match esc ρ1 v with | none => OutG.bad | some (y, ρ4) => if acc.length < sizeLine then compF h g f vs (xs.map enc) (wipeE ρ4 vs) (acc ++ [y]) else .bad) = _
      rw [h6]
      dsimp only
      rw [if_pos (by omega), h4, ih _ (fun z hz => hs z (List.mem_cons_of_mem _ hz)) (by rw [List.length_append, List.length_singleton]; omega), List.filter_cons_of_pos hp, List.map_cons, List.append_assoc]
      rfl
    · rw [if_neg hp, h4, ih _ (fun z hz => hs z (List.mem_cons_of_mem _ hz)) (by omega), List.filter_cons_of_neg hp]
theorem vComp_map {h : D → Env → Option Env} {g : STst} {f : SE} {vs : List Nat} {src : SI} {ρ ρ1 : Env} {ds : List D} (enc : α → D) (p : α → Bool) (y : α → D) (xs : List α) (hsrc : src ρ = .ok ds ρ1) (hd : ds = xs.map enc) (hl : xs.length ≤ sizeLine)
    (hs : ∀ x ∈ xs, ∃ ρ2, h (enc x) (wipeE ρ1 vs) = some ρ2 ∧ g ρ2 = .ok (p x) ρ2 ∧ (p x = true → ∃ v, f ρ2 = .ok v ρ2 ∧ esc ρ2 v = some (y x, ρ2)) ∧ wipeE ρ2 vs = wipeE ρ1 vs) :
    vComp src h g f vs ρ = .ok (.fr (.lst ((xs.filter p).map y))) (restE vs ρ1 (wipeE ρ1 vs)) := by
  unfold vComp
  rw [hsrc]
  show obind (compF h g f vs ds (wipeE ρ1 vs) []) _ = _
  rw [hd, compF_map enc p y xs [] hs (by simpa using hl)]
  rfl
/-- a comprehension whose parts keep a state -/
theorem compF_st {h : D → Env → Option Env} {f : SE} {vs : List Nat} (enc : α → D) (st : β → Env → Prop) (step : β → α → β) (y : β → α → D) : ∀ (xs : List α) (b : β) (ρ : Env) (acc : List D), st b ρ →
    (∀ x ∈ xs, ∀ b ρ, st b ρ → ∃ ρ1, h (enc x) ρ = some ρ1 ∧ ∃ v ρ2 ρ3, f ρ1 = .ok v ρ2 ∧ esc ρ2 v = some (y b x, ρ3) ∧ st (step b x) (wipeE ρ3 vs)) → acc.length + xs.length ≤ sizeLine →
    ∃ ρ' out, compF h vYes f vs (xs.map enc) ρ acc = .ok (acc ++ out) ρ' ∧ st (xs.foldl step b) ρ' ∧ out.length = xs.length ∧ ∀ (i : Nat) x, xs[i]? = some x → out[i]? = some (y ((xs.take i).foldl step b) x)
  | [], b, ρ, acc, h0, _, _ => ⟨ρ, [], by simp [compF], h0, rfl, fun i x z => by simp at z⟩
  | x :: xs, b, ρ, acc, h0, hs, hl => by
    obtain ⟨ρ1, h1, v, ρ2, ρ3, h2, h3, h4⟩ := hs x List.mem_cons_self b ρ h0
    rw [List.length_cons] at hl
    obtain ⟨ρ', out, h5, h6, h7, h8⟩ := compF_st enc st step y xs (step b x) (wipeE ρ3 vs) (acc ++ [y b x]) h4 (fun z hz => hs z (List.mem_cons_of_mem _ hz)) (by rw [List.length_append, List.length_singleton]; omega)
    refine ⟨ρ', y b x :: out, ?_, h6, by rw [List.length_cons, h7, List.length_cons], fun i z hz => ?_⟩
    · rw [List.map_cons]
      unfold compF
      rw [h1]
      show obind (noexn (f ρ1)) _ = _
      rw [h2]
      show (match esc ρ2 v with | none => OutG.bad | some (y, ρ4) => if acc.length < sizeLine then compF h vYes f vs (xs.map enc) (wipeE ρ4 vs) (acc ++ [y]) else .bad) = _
      rw [h3]
      dsimp only
      rw [if_pos (by omega), h5, List.append_assoc]
      rfl
    · cases i with
      | zero =>
        simp at hz
        subst hz
        rfl
      | succ i =>
        simp only [List.getElem?_cons_succ] at hz ⊢
        exact h8 i z hz
end
theorem range_eq (n : Nat) : rangeD 0 n = (List.range n).map fun i : Nat => D.int (i : Int) := by
  unfold rangeD
  refine List.map_congr_left fun i _ => ?_
  rw [Int.zero_add]
theorem b62 {k : Nat} (h : k ≤ 1000000) : (k : Int).natAbs < 2 ^ 62 := by omega
/-- range(k) -/
theorem r1_ok {f : SE} {ρ ρ1 : Env} {k : Nat} (h : f ρ = .ok (.sh (.int (k : Nat))) ρ1) (hk : k ≤ 1000000) : vItR1 [f] ρ = .ok ((List.range k).map fun i : Nat => D.int (i : Int)) ρ1 := by
  have hv : vArgs [f] ρ = .ok [.sh (.int (k : Nat))] ρ1 := by
    unfold vArgs
    rw [h]
    rfl
  unfold vItR1
  rw [hv, obind_ok]
  simp only [looks, look]
  split
  · rw [Int.toNat_natCast, range_eq]
  · rename_i hn
    exact absurd (b62 hk) hn
theorem s0 : (0 ≤ sizeLine) = True := by simp
theorem s1 : (1 ≤ sizeLine) = True := by rw [sizeLine_eq]; simp
theorem s2 : (2 ≤ sizeLine) = True := by rw [sizeLine_eq]; simp
theorem s3 : (3 ≤ sizeLine) = True := by rw [sizeLine_eq]; simp
theorem s4 : (4 ≤ sizeLine) = True := by rw [sizeLine_eq]; simp
theorem mul_r (i : Int) {j : Int} (h1 : -1000000000000000 ≤ j) (h2 : j ≤ 1000000000000000) : opMul (.int i) (.int j) = some (.sh (.int (i * j))) := by
  have h : mulOk i j = true := decide_eq_true (.inr (by omega))
  unfold opMul
  simp only [h, if_true]
theorem mul_l {i : Int} (j : Int) (h1 : -1000000000000000 ≤ i) (h2 : i ≤ 1000000000000000) : opMul (.int i) (.int j) = some (.sh (.int (i * j))) := by
  have h : mulOk i j = true := decide_eq_true (.inl (by omega))
  unfold opMul
  simp only [h, if_true]
theorem mod_p (i : Int) {j : Int} (h : 0 < j) : opMod (.int i) (.int j) = some (.sh (.int (i % j))) := by
  unfold opMod
  simp only [h, if_true]
theorem div_p (i : Int) {j : Int} (h : 0 < j) (h2 : j < 1073741824) : opFdiv (.int i) (.int j) = some (.sh (.int (i / j))) := by
  unfold opFdiv
  simp only [h, h2, and_self, if_true]
/-- [x] * n -/
theorem rep_l (d : D) {n : Nat} (h : n ≤ 1000000) : opMul (.lst [d]) (.int (n : Nat)) = some (.fr (.lst (List.replicate n d))) := by
  unfold opMul
  have e : (List.replicate ((n : Nat) : Int).toNat [d]).flatten = List.replicate n d := by
    rw [Int.toNat_natCast]
    clear h
    induction n with
    | zero => rfl
    | succ n ih => rw [List.replicate_succ, List.flatten_cons, ih, List.replicate_succ]; rfl
  dsimp only
  split
  · rw [e]
  · rename_i hn
    refine absurd ⟨by omega, ?_⟩ hn
    rw [sizeLine_eq, List.length_singleton, Int.toNat_natCast]
    omega
def keepS : Slot → Slot
  | .sh d => .sh d
  | _ => .no
theorem filtT {α : Type} (l : List α) : (l.filter fun _ => true) = l := List.filter_eq_self.mpr fun _ _ => rfl
end VL
/-! CT: defs that several laws share, as functions on slots (printed by gen.py) -/
namespace CM
open PySem PySem.Spec PyProof.Rows L2 VL
def okC (c : Str) : Bool := decide (c = ("Graph" : Str))
/-- Graph.__init__ at (9, 0): ['self', 'vertices', 'edges', 'first', 'second'] -/
def N_Graph___init__ : List Str := ["self", "vertices", "edges", "first", "second"]
def b_Graph___init___0 : SS :=
  sIf (vOr (vNot (vTst (vChain opLe opLt (vC (.int 0)) (vName 3) (vName 1)))) (vNot (vTst (vChain opLe opLt (vC (.int 0)) (vName 4) (vName 1)))))
    (sRaise ("InvalidGraph" : Str) (vC (.str ("edges" : Str))))
    (sNext)
def t_Graph___init__ : SS :=
  sSeq (sIf (vTst (vOp2 opLt (vName 1) (vC (.int 0))))
    (sRaise ("InvalidGraph" : Str) (vC (.str ("vertices" : Str))))
    (sNext)) <|
  sSeq (sFor (vItA (vName 2)) (hTup 2 (hCons (hName 3) (hCons (hName 4) hNil))) b_Graph___init___0) <|
  sSeq (sFldP okC ("vertices" : Str) 0 (vName 1)) <|
  sFldP okC ("edges" : Str) 0 (vB opTuple [(vComp (vItA (vName 2)) (hTup 2 (hCons (hName 3) (hCons (hName 4) hNil))) vYes (vTup [(vName 3), (vName 4)]) [3, 4])])
def S_Graph : FSpec := ⟨true, runDef 5 3 true t_Graph___init__⟩
/-- merged at (7,): ['names', 'first', 'second', 'least', 'greatest', 'vertex'] -/
def N_merged : List Str := ["names", "first", "second", "least", "greatest", "vertex"]
def b_merged_0 : SS :=
  sIf (vTst (vOp2 opEq (vOp2 opIx (vName 0) (vName 5)) (vName 4)))
    (sPut 0 (vName 5) (vName 3))
    (sNext)
def t_merged : SS :=
  sSeq (sSet 3 (vB opMin [(vOp2 opIx (vName 0) (vName 1)), (vOp2 opIx (vName 0) (vName 2))])) <|
  sSeq (sSet 4 (vB opMax [(vOp2 opIx (vName 0) (vName 1)), (vOp2 opIx (vName 0) (vName 2))])) <|
  sIf (vTst (vOp2 opLt (vName 3) (vName 4)))
    (sFor (vItR1 [(vB opLen [(vName 0)])]) (hName 5) b_merged_0)
    (sNext)
def S_merged : FSpec := ⟨true, runDef 6 3 true t_merged⟩
/-- groups at (8,): ['vertices', 'edges', 'names', 'first', 'second'] -/
def N_groups : List Str := ["vertices", "edges", "names", "first", "second"]
def b_groups_0 (S_merged : FSpec) : SS :=
  sExpr (vCall S_merged [(vName 2), (vName 3), (vName 4)])
def t_groups (S_merged : FSpec) : SS :=
  sSeq (sSet 2 (vRgL1 (vName 0))) <|
  sSeq (sFor (vItA (vName 1)) (hTup 2 (hCons (hName 3) (hCons (hName 4) hNil))) (b_groups_0 S_merged)) <|
  sRet (vName 2)
def S_groups : FSpec := ⟨false, runDef 5 2 false (t_groups S_merged)⟩
/-- Graph.rank_of at (9, 5): ['self', 'edges', 'edge', 'names', 'vertex'] -/
def N_Graph_rank_of : List Str := ["self", "edges", "edge", "names", "vertex"]
def b_Graph_rank_of_0 : SS :=
  sIf (vNot (vTst (vChain opLe opLt (vC (.int 0)) (vName 2) (vB opLen [(vOp1 (opFld okC ("edges" : Str)) (vName 0))]))))
    (sRaise ("InvalidSet" : Str) (vC (.str ("edges" : Str))))
    (sNext)
def t_Graph_rank_of (S_groups : FSpec) : SS :=
  sSeq (sFor (vItA (vName 1)) (hName 2) b_Graph_rank_of_0) <|
  sSeq (sSet 3 (vCall S_groups [(vOp1 (opFld okC ("vertices" : Str)) (vName 0)), (vComp (vItA (vName 1)) (hName 2) vYes (vOp2 opIx (vOp1 (opFld okC ("edges" : Str)) (vName 0)) (vName 2)) [2])])) <|
  sRet (vOp2 opSub (vOp1 (opFld okC ("vertices" : Str)) (vName 0)) (vB opLen [(vComp (vItR1 [(vOp1 (opFld okC ("vertices" : Str)) (vName 0))]) (hName 4) (vTst (vOp2 opEq (vOp2 opIx (vName 3) (vName 4)) (vName 4))) (vName 4) [4])]))
def S_Graph_rank_of : FSpec := ⟨false, runDef 5 2 false (t_Graph_rank_of S_groups)⟩
/-- _law_deck at (22,): ['script', 'cells', 'each', 'deck', 'seed', 'k', 'cell', 'rest', 'at'] -/
def N__law_deck : List Str := ["script", "cells", "each", "deck", "seed", "k", "cell", "rest", "at"]
def b__law_deck_0 : SS :=
  sSeq (sExpr (vMut "list" mAppend 3 [(vOp2 opMod (vB opInt [(vName 7)]) (vC (.int 1000003)))])) <|
  sSet 7 (vOp2 opFdiv (vName 7) (vC (.int 1000003)))
def b__law_deck_1 : SS :=
  sSeq (sSet 4 (vOp2 opMod (vB opInt [(vOp2 opAdd (vOp2 opAdd (vOp2 opMul (vName 4) (vC (.int 69621))) (vName 8)) (vC (.int 1)))]) (vC (.int 2147483629)))) <|
  sExpr (vMut "list" mAppend 3 [(vOp2 opMod (vB opInt [(vOp2 opFdiv (vName 4) (vC (.int 5)))]) (vC (.int 1000003)))])
def b__law_deck_2 : SS :=
  sSeq (sSet 6 (vC (.int 0))) <|
  sSeq (sIf (vTst (vOp2 opLt (vName 5) (vB opLen [(vName 0)])))
    (sSet 6 (vOp2 opIx (vName 0) (vName 5)))
    (sNext)) <|
  sSeq (sSet 7 (vB opAbs [(vName 6)])) <|
  sIf (vTst (vOp2 opGe (vName 7) (vOp2 opPow (vC (.int 10)) (vC (.int 30)))))
    (sFor (vItR1 [(vName 2)]) (hName 8) b__law_deck_0)
    (sSeq (sSet 4 (vOp2 opMod (vB opInt [(vOp2 opAdd (vOp2 opAdd (vOp2 opAdd (vOp2 opMul (vName 4) (vC (.int 48271))) (vOp2 opMul (vC (.int 2)) (vName 7))) (vB opInt [(vOp2 opLt (vName 6) (vC (.int 0)))])) (vName 5))]) (vC (.int 2147483647)))) <|
    sFor (vItR1 [(vName 2)]) (hName 8) b__law_deck_1)
def t__law_deck : SS :=
  sSeq (sSet 3 (vLst [])) <|
  sSeq (sSet 4 (vOp2 opAdd (vC (.int 7)) (vB opLen [(vName 0)]))) <|
  sSeq (sFor (vItR1 [(vName 1)]) (hName 5) b__law_deck_2) <|
  sSeq (sExpr (vMut "list" mReverse 3 [])) <|
  sRet (vName 3)
def S__law_deck : FSpec := ⟨false, runDef 9 3 false t__law_deck⟩
/-- _law_take at (23,): ['deck', 'many'] -/
def N__law_take : List Str := ["deck", "many"]
def t__law_take : SS :=
  sSeq (sIf (vTst (vOp2 opEq (vB opLen [(vName 0)]) (vC (.int 0))))
    (sRet (vC (.int 0)))
    (sNext)) <|
  sRet (vOp2 opMod (vB opInt [(vMut "list" mPop 0 [])]) (vName 1))
def S__law_take : FSpec := ⟨true, runDef 2 2 true t__law_take⟩
/-- _law_plain at (24,): ['value', 'item'] -/
def N__law_plain : List Str := ["value", "item"]
def t__law_plain (S__law_plain : FSpec) : SS :=
  sSeq (sIf (vTru (vB opIsi [(vName 0), (vTup [(vC (.ty "tuple")), (vC (.ty "list"))])]))
    (sRet (vOp2 opAdd (vLst [(vB opIsi [(vName 0), (vC (.ty "list"))])]) (vComp (vItA (vName 0)) (hName 1) vYes (vCall S__law_plain [(vName 1)]) [1])))
    (sNext)) <|
  sSeq (sIf (vOr (vTst (vOp2 opIs (vName 0) (vC .non))) (vTru (vB opIsi [(vName 0), (vC (.ty "bool"))])))
    (sRet (vOp2 opIx (vLst [(vC (.str ("None" : Str))), (vC (.str ("False" : Str))), (vC (.str ("True" : Str)))]) (vOp2 opAdd (vB opInt [(vOp2 opIsNot (vName 0) (vC .non))]) (vB opInt [(vOp2 opIs (vName 0) (vC (.bl true)))]))))
    (sNext)) <|
  sSeq (sIf (vTru (vB opIsi [(vName 0), (vTup [(vC (.ty "int")), (vC (.ty "str"))])]))
    (sRet (vLst [(vB opIsi [(vName 0), (vC (.ty "str"))]), (vName 0)]))
    (sNext)) <|
  sRet (vC (.str ("another" : Str)))
def S__law_plain : Nat → FSpec
  | 0 => ⟨false, fun _ => .bad⟩
  | n + 1 => ⟨false, runDef 2 1 false (t__law_plain (S__law_plain n))⟩
/-- _law_edges at (25,): ['deck', 'vertices', 'most', 'turn'] -/
def N__law_edges : List Str := ["deck", "vertices", "most", "turn"]
def t__law_edges (S__law_take : FSpec) : SS :=
  sRet (vComp (vItR1 [(vCall S__law_take [(vName 0), (vOp2 opAdd (vName 2) (vC (.int 1)))])]) (hName 3) vYes (vTup [(vCall S__law_take [(vName 0), (vName 1)]), (vCall S__law_take [(vName 0), (vName 1)])]) [3])
def S__law_edges : FSpec := ⟨true, runDef 4 3 true (t__law_edges S__law_take)⟩
/-- _law_names at (26,): ['vertices', 'edges', 'names', 'first', 'second', 'least', 'greatest', 'name'] -/
def N__law_names : List Str := ["vertices", "edges", "names", "first", "second", "least", "greatest", "name"]
def b__law_names_0 : SS :=
  sSeq (sSet 5 (vB opMin [(vOp2 opIx (vName 2) (vName 3)), (vOp2 opIx (vName 2) (vName 4))])) <|
  sSeq (sSet 6 (vB opMax [(vOp2 opIx (vName 2) (vName 3)), (vOp2 opIx (vName 2) (vName 4))])) <|
  sSet 2 (vComp (vItA (vName 2)) (hName 7) vYes (vIfE (vTst (vOp2 opEq (vName 7) (vName 6))) (vName 5) (vName 7)) [7])
def t__law_names : SS :=
  sSeq (sSet 2 (vRgL1 (vName 0))) <|
  sSeq (sFor (vItA (vName 1)) (hTup 2 (hCons (hName 3) (hCons (hName 4) hNil))) b__law_names_0) <|
  sRet (vName 2)
def S__law_names : FSpec := ⟨false, runDef 8 2 false t__law_names⟩
/-- _law_rank at (27,): ['vertices', 'edges'] -/
def N__law_rank : List Str := ["vertices", "edges"]
def t__law_rank (S__law_names : FSpec) : SS :=
  sRet (vOp2 opSub (vName 0) (vLenSet (vCall S__law_names [(vName 0), (vName 1)])))
def S__law_rank : FSpec := ⟨false, runDef 2 2 false (t__law_rank S__law_names)⟩
/-- _law_subsets at (28,): ['size', 'found', 'item', 'row'] -/
def N__law_subsets : List Str := ["size", "found", "item", "row"]
def b__law_subsets_0 : SS :=
  sSet 1 (vOp2 opAdd (vName 1) (vComp (vItA (vName 1)) (hName 3) vYes (vOp2 opAdd (vName 3) (vTup [(vName 2)])) [3]))
def t__law_subsets : SS :=
  sSeq (sSet 1 (vLst [(vTup [])])) <|
  sSeq (sFor (vItR1 [(vName 0)]) (hName 2) b__law_subsets_0) <|
  sRet (vName 1)
def S__law_subsets : FSpec := ⟨false, runDef 4 1 false t__law_subsets⟩
end CM
/-! CR: the law's small defs on data -/
namespace CM
open PySem PySem.Spec PyProof.Rows L2 VL
def pairD (p : Nat × Nat) : D := .tup [.int p.1, .int p.2]
def gD (n : Nat) (es : List (Nat × Nat)) : D := .obj "Graph" [("vertices", .int n), ("edges", .tup (es.map pairD))]
abbrev iD (ns : List Int) : List D := ns.map D.int
@[simp] theorem fld_v (n : Nat) (es : List (Nat × Nat)) : opFld okC "vertices" (gD n es) = some (.sh (.int n)) := rfl
@[simp] theorem fld_e (n : Nat) (es : List (Nat × Nat)) : opFld okC "edges" (gD n es) = some (.sh (.tup (es.map pairD))) := rfl
@[simp] theorem ek_vertex : errOk ("vertex" : Str) = true := by decide +kernel
@[simp] theorem ek_vertices : errOk ("vertices" : Str) = true := by decide +kernel
@[simp] theorem ek_edges : errOk ("edges" : Str) = true := by decide +kernel
@[simp] theorem ek_cap : errOk ("capacities" : Str) = true := by decide +kernel
theorem ix_l {ds : List D} {i : Nat} {d : D} (h : ds[i]? = some d) : opIx (.lst ds) (.int (i : Nat)) = some (.sh d) := by
  show (atI ds (i : Nat)).map Pv.sh = _
  rw [atI_nat h]
  rfl
theorem ix_t {ds : List D} {i : Nat} {d : D} (h : ds[i]? = some d) : opIx (.tup ds) (.int (i : Nat)) = some (.sh d) := by
  show (atI ds (i : Nat)).map Pv.sh = _
  rw [atI_nat h]
  rfl
theorem ix_r {ds : List D} {i : Nat} {d : D} (h : ds[i]? = some d) : opIx (.rol ds) (.int (i : Nat)) = some (.sh d) := by
  show (atI ds (i : Nat)).map Pv.sh = _
  rw [atI_nat h]
  rfl
theorem put_l {ds : List D} {i : Nat} (d : D) (h : i < ds.length) : opPut (.lst ds) (.int (i : Nat)) d = some (.lst (ds.set i d)) := by
  show (ixN ds.length (i : Nat)).map (fun j => D.lst (ds.set j d)) = _
  unfold ixN
  rw [if_pos (by omega), if_pos (by omega)]
  rfl
/-! ### the deck -/
def tk (deck : List Int) (m : Nat) : Nat × List Int := match deck.getLast? with
  | none => (0, [])
  | some x => ((x % (m : Int)).toNat, deck.dropLast)
theorem tk_lt (deck : List Int) {m : Nat} (h : 0 < m) : (tk deck m).1 < m := by
  unfold tk
  split
  · exact h
  · rename_i x _
    have h1 := Int.emod_lt_of_pos x (show (0 : Int) < m by omega)
    have h2 := Int.emod_nonneg x (show (m : Int) ≠ 0 by omega)
    show (x % (m : Int)).toNat < m
    omega
theorem r_take (deck : List Int) (m : Nat) (h : 0 < m) : S__law_take.run [.lst (iD deck), .int m] = .ret (.sh (.int (tk deck m).1)) (.lst (iD (tk deck m).2)) := by
  unfold S__law_take t__law_take tk
  cases hd : deck.getLast? with
  | none =>
    have e : deck = [] := by simpa using hd
    subst e
    simp [runDef, initE, finR, parD, retV, sSeq, sBind_ok, sBind_exn, sBind_bad, sNext, sIf, sSet, stor, sRet, sRetN, sExpr, sUnp, sAug, sPut, sPutA, sRaise, sBreak, sCont, sFor, obind_ok, obind_exn, obind_bad, retP_some, retP_none, vName, vC, vOp1, vOp2, vTst, vTru, vNot, vAnd, vOr, vIfE, vAndV, vOrV, vChain, vArgs, looks, look, esc, escs, frz, vTup, vLst, vB, vMut, vSl, vNotT, vDic1, vDic1B, vDic0, Slot.mu?, Slot.put, Slot.d?, List.getElem?_cons_zero, List.getElem?_cons_succ, List.getElem?_nil, Option.bind_some, Option.bind_none, Option.map_some, Option.map_none, List.set_cons_zero, List.set_cons_succ, List.set_nil, List.length_cons, List.length_nil, hName, hTup, hCons, hNil, opAdd, opSub, opLt, opLe, opGt, opGe, opLen, opInt, opNeg, opIs, opIsNot, isP, VL.isNon, truD, iAdd, iSub, opEq_int, opNe_int, if_true, if_false, ite_true, ite_false, Bool.not_true, Bool.not_false, Bool.false_eq_true, List.map_cons, List.map_nil, List.replicate_zero, List.replicate_succ, List.append_nil, List.nil_append, List.cons_append, reduceCtorEq, if_pos, Bool.not_eq_true, decide_eq_true_eq, decide_true, decide_false, c_eq, c_lt, c_le, c_ge, Nat.zero_add, Nat.reduceAdd, Pv.vl, s0, s1, s2, s3, s4]
  | some x =>
    have hne : deck ≠ [] := fun z => by subst z; cases hd
    have hl : deck.length ≠ 0 := fun z => hne (List.length_eq_zero_iff.mp z)
    have hg : (iD deck)[(iD deck).length - 1]? = some (.int x) := by
      rw [List.getLast?_eq_getElem?] at hd
      rw [List.getElem?_map, List.length_map, hd]
      rfl
    have hp : mPop (.lst (iD deck)) [] = some (.int x, .lst (iD deck.dropLast)) := by
      show ((iD deck)[(iD deck).length - 1]?).map (fun d => (d, D.lst (iD deck).dropLast)) = _
      rw [hg]
      simp
    have hm : (0 : Int) < m := by omega
    have h2 := Int.emod_nonneg x (show (m : Int) ≠ 0 by omega)
    have e3 : ((((x % (m : Int)).toNat : Nat)) : Int) = x % (m : Int) := by omega
    have e0 : ¬ ((deck.length : Int) = 0) := by omega
    simp [runDef, initE, finR, parD, retV, sSeq, sBind_ok, sBind_exn, sBind_bad, sNext, sIf, sSet, stor, sRet, sRetN, sExpr, sUnp, sAug, sPut, sPutA, sRaise, sBreak, sCont, sFor, obind_ok, obind_exn, obind_bad, retP_some, retP_none, vName, vC, vOp1, vOp2, vTst, vTru, vNot, vAnd, vOr, vIfE, vAndV, vOrV, vChain, vArgs, looks, look, esc, escs, frz, vTup, vLst, vB, vMut, vSl, vNotT, vDic1, vDic1B, vDic0, Slot.mu?, Slot.put, Slot.d?, List.getElem?_cons_zero, List.getElem?_cons_succ, List.getElem?_nil, Option.bind_some, Option.bind_none, Option.map_some, Option.map_none, List.set_cons_zero, List.set_cons_succ, List.set_nil, List.length_cons, List.length_nil, hName, hTup, hCons, hNil, opAdd, opSub, opLt, opLe, opGt, opGe, opLen, opInt, opNeg, opIs, opIsNot, isP, VL.isNon, truD, iAdd, iSub, opEq_int, opNe_int, if_true, if_false, ite_true, ite_false, Bool.not_true, Bool.not_false, Bool.false_eq_true, List.map_cons, List.map_nil, List.replicate_zero, List.replicate_succ, List.append_nil, List.nil_append, List.cons_append, reduceCtorEq, if_pos, Bool.not_eq_true, decide_eq_true_eq, decide_true, decide_false, c_eq, c_lt, c_le, c_ge, Nat.zero_add, Nat.reduceAdd, Pv.vl, s0, s1, s2, s3, s4, opMod, tyD, hp, hm, h, e3, hne, e0]
theorem own_take : S__law_take.own0 = true := rfl
theorem wipe4 (a b c d : VL.Slot) : wipeE [a, b, c, d] [3] = [a, b, c, .no] := rfl
/-- the pairs drawn -/
def okP (n : Nat) (es : List (Nat × Nat)) : Prop := ∀ p ∈ es, p.1 < n ∧ p.2 < n
theorem r_edges (deck : List Int) (n m : Nat) (hn : 0 < n) (hm : m ≤ 100) : ∃ es deck', S__law_edges.run [.lst (iD deck), .int n, .int m] = .ret (.fr (.lst (es.map pairD))) (.lst (iD deck')) ∧ es.length ≤ m ∧ okP n es := by
  obtain ⟨M, hM⟩ : ∃ M, M = m + 1 := ⟨_, rfl⟩
  have eM : (m : Int) + 1 = (M : Int) := by omega
  have h1 := r_take deck M (by omega)
  have hk := tk_lt deck (show 0 < M by omega)
  generalize hq : tk deck M = q at h1 hk
  obtain ⟨k, d1⟩ := q
  simp only at h1 hk
  have src := r1_ok (f := vCall S__law_take [(vName 0), (vOp2 opAdd (vName 2) (vC (.int 1)))]) (ρ := [.par (.lst (iD deck)), .sh (.int n), .sh (.int m), .no]) (ρ1 := [.par (.lst (iD d1)), .sh (.int n), .sh (.int m), .no]) (k := k) (by
    simp only [runDef, initE, finR, parD, retV, sSeq, sBind_ok, sBind_exn, sBind_bad, sNext, sIf, sSet, stor, sRet, sRetN, sExpr, sUnp, sAug, sPut, sPutA, sRaise, sBreak, sCont, sFor, obind_ok, obind_exn, obind_bad, retP_some, retP_none, vName, vC, vOp1, vOp2, vTst, vTru, vNot, vAnd, vOr, vIfE, vAndV, vOrV, vChain, vArgs, looks, look, esc, escs, frz, vTup, vLst, vB, vMut, vSl, vNotT, vDic1, vDic1B, vDic0, Slot.mu?, Slot.put, Slot.d?, List.getElem?_cons_zero, List.getElem?_cons_succ, List.getElem?_nil, Option.bind_some, Option.bind_none, Option.map_some, Option.map_none, List.set_cons_zero, List.set_cons_succ, List.set_nil, List.length_cons, List.length_nil, hName, hTup, hCons, hNil, opAdd, opSub, opLt, opLe, opGt, opGe, opLen, opInt, opNeg, opIs, opIsNot, isP, VL.isNon, truD, iAdd, iSub, opEq_int, opNe_int, if_true, if_false, ite_true, ite_false, Bool.not_true, Bool.not_false, Bool.false_eq_true, List.map_cons, List.map_nil, List.replicate_zero, List.replicate_succ, List.append_nil, List.nil_append, List.cons_append, reduceCtorEq, if_pos, Bool.not_eq_true, decide_eq_true_eq, decide_true, decide_false, c_eq, c_lt, c_le, c_ge, Nat.zero_add, Nat.reduceAdd, Pv.vl, s0, s1, s2, s3, s4, vCall, vCallV, own_take, eM, h1, vCallR, Pv.vl]) (by omega)
  obtain ⟨ρ', out, q1, q2, q3, q4⟩ := compF_st (h := hName 3) (f := vTup [(vCall S__law_take [(vName 0), (vName 1)]), (vCall S__law_take [(vName 0), (vName 1)])]) (vs := [3]) (fun i : Nat => D.int (i : Int))
      (fun (d : List Int) ρ => ρ = [.par (.lst (iD d)), .sh (.int n), .sh (.int m), .no]) (fun d _ => (tk (tk d n).2 n).2) (fun d _ => pairD ((tk d n).1, (tk (tk d n).2 n).1)) (List.range k) d1 _ [] rfl (by
        intro i _ d ρ hρ
        subst hρ
        refine ⟨_, rfl, .sh (pairD ((tk d n).1, (tk (tk d n).2 n).1)), [.par (.lst (iD (tk (tk d n).2 n).2)), .sh (.int n), .sh (.int m), .sh (.int i)], _, ?_, rfl, rfl⟩
        have t1 := r_take d n hn
        have t2 := r_take (tk d n).2 n hn
        simp only [runDef, initE, finR, parD, retV, sSeq, sBind_ok, sBind_exn, sBind_bad, sNext, sIf, sSet, stor, sRet, sRetN, sExpr, sUnp, sAug, sPut, sPutA, sRaise, sBreak, sCont, sFor, obind_ok, obind_exn, obind_bad, retP_some, retP_none, vName, vC, vOp1, vOp2, vTst, vTru, vNot, vAnd, vOr, vIfE, vAndV, vOrV, vChain, vArgs, looks, look, esc, escs, frz, vTup, vLst, vB, vMut, vSl, vNotT, vDic1, vDic1B, vDic0, Slot.mu?, Slot.put, Slot.d?, List.getElem?_cons_zero, List.getElem?_cons_succ, List.getElem?_nil, Option.bind_some, Option.bind_none, Option.map_some, Option.map_none, List.set_cons_zero, List.set_cons_succ, List.set_nil, List.length_cons, List.length_nil, hName, hTup, hCons, hNil, opAdd, opSub, opLt, opLe, opGt, opGe, opLen, opInt, opNeg, opIs, opIsNot, isP, VL.isNon, truD, iAdd, iSub, opEq_int, opNe_int, if_true, if_false, ite_true, ite_false, Bool.not_true, Bool.not_false, Bool.false_eq_true, List.map_cons, List.map_nil, List.replicate_zero, List.replicate_succ, List.append_nil, List.nil_append, List.cons_append, reduceCtorEq, if_pos, Bool.not_eq_true, decide_eq_true_eq, decide_true, decide_false, c_eq, c_lt, c_le, c_ge, Nat.zero_add, Nat.reduceAdd, Pv.vl, s0, s1, s2, s3, s4, vCall, vCallV, own_take, t1, t2, vCallR, Pv.vl, pairD]) (by rw [sizeLine_eq, List.length_range, List.length_nil]; omega)
  obtain ⟨d2, rfl⟩ : ∃ d2, ρ' = [.par (.lst (iD d2)), .sh (.int n), .sh (.int m), .no] := ⟨_, q2⟩
  have hp : ∃ es : List (Nat × Nat), out = es.map pairD ∧ es.length = k ∧ okP n es := by
    have : ∀ d ∈ out, ∃ p : Nat × Nat, d = pairD p ∧ p.1 < n ∧ p.2 < n := by
      intro d hd
      obtain ⟨i, hi⟩ := List.mem_iff_getElem?.mp hd
      have hlt : i < k := by
        have := (List.getElem?_eq_some_iff.mp hi).1
        rw [q3, List.length_range] at this
        exact this
      have := q4 i i (by rw [List.getElem?_range hlt])
      rw [this] at hi
      cases hi
      exact ⟨_, rfl, tk_lt _ hn, tk_lt _ hn⟩
    refine ⟨out.map fun d => match d with | .tup [.int a, .int b] => (a.toNat, b.toNat) | _ => (0, 0), ?_, by rw [List.length_map, q3, List.length_range], ?_⟩
    · rw [List.map_map]
      refine (List.map_id _).symm.trans (List.map_congr_left fun d hd => ?_)
      obtain ⟨p, rfl, _⟩ := this d hd
      rfl
    · intro p hp
      obtain ⟨d, hd, rfl⟩ := List.mem_map.mp hp
      obtain ⟨p, rfl, h⟩ := this d hd
      exact h
  obtain ⟨es, rfl, he, ho⟩ := hp
  refine ⟨es, d2, ?_, by omega, ho⟩
  unfold S__law_edges t__law_edges
  have e1 : vComp (vItR1 [(vCall S__law_take [(vName 0), (vOp2 opAdd (vName 2) (vC (.int 1)))])]) (hName 3) vYes (vTup [(vCall S__law_take [(vName 0), (vName 1)]), (vCall S__law_take [(vName 0), (vName 1)])]) [3] [.par (.lst (iD deck)), .sh (.int n), .sh (.int m), .no]
      = .ok (.fr (.lst (es.map pairD))) [.par (.lst (iD d2)), .sh (.int n), .sh (.int m), .no] := by
    unfold vComp
    rw [src, obind_ok, wipe4, q1, List.nil_append, obind_ok]
    rfl
  simp only [runDef, initE, finR, parD, retV, sSeq, sBind_ok, sBind_exn, sBind_bad, sNext, sIf, sSet, stor, sRet, sRetN, sExpr, sUnp, sAug, sPut, sPutA, sRaise, sBreak, sCont, sFor, obind_ok, obind_exn, obind_bad, retP_some, retP_none, vName, vC, vOp1, vOp2, vTst, vTru, vNot, vAnd, vOr, vIfE, vAndV, vOrV, vChain, vArgs, looks, look, esc, escs, frz, vTup, vLst, vB, vMut, vSl, vNotT, vDic1, vDic1B, vDic0, Slot.mu?, Slot.put, Slot.d?, List.getElem?_cons_zero, List.getElem?_cons_succ, List.getElem?_nil, Option.bind_some, Option.bind_none, Option.map_some, Option.map_none, List.set_cons_zero, List.set_cons_succ, List.set_nil, List.length_cons, List.length_nil, hName, hTup, hCons, hNil, opAdd, opSub, opLt, opLe, opGt, opGe, opLen, opInt, opNeg, opIs, opIsNot, isP, VL.isNon, truD, iAdd, iSub, opEq_int, opNe_int, if_true, if_false, ite_true, ite_false, Bool.not_true, Bool.not_false, Bool.false_eq_true, List.map_cons, List.map_nil, List.replicate_zero, List.replicate_succ, List.append_nil, List.nil_append, List.cons_append, reduceCtorEq, if_pos, Bool.not_eq_true, decide_eq_true_eq, decide_true, decide_false, c_eq, c_lt, c_le, c_ge, Nat.zero_add, Nat.reduceAdd, Pv.vl, s0, s1, s2, s3, s4, e1]

/-! ### the deck is some list of numbers -/
theorem deck_in1 (sc : List Int) (sd : Int) (a b : D) (x8 : VL.Slot) (d : List Int) (rest : Int) (hl : d.length ≤ 5000) : ∃ ρ', loopF (hName 8) b__law_deck_0 ((List.range 14).map fun i : Nat => D.int (i : Int)) [.sh (.rol (iD sc)), .sh (.int 40), .sh (.int 14), .own (.lst (iD d)), .sh (.int sd), .sh a, .sh b, .sh (.int rest), x8] = .nx ρ' ∧
    ∃ d' r' y8, d'.length ≤ d.length + 14 ∧ ρ' = [.sh (.rol (iD sc)), .sh (.int 40), .sh (.int 14), .own (.lst (iD d')), .sh (.int sd), .sh a, .sh b, .sh (.int r'), y8] := by
  obtain ⟨ρ', h1, h2⟩ := loopF_inv (h := hName 8) (body := b__law_deck_0) (fun i : Nat => D.int (i : Int)) (List.range 14)
    (fun i ρ => ∃ d' r' y8, d'.length ≤ d.length + i ∧ ρ = [.sh (.rol (iD sc)), .sh (.int 40), .sh (.int 14), .own (.lst (iD d')), .sh (.int sd), .sh a, .sh b, .sh (.int r'), y8]) ⟨d, rest, x8, by omega, rfl⟩ (fun i x ρ hx ⟨d', r', y8, hd, e⟩ => by
      subst e
      have hi : i < 14 := by
        have := (List.getElem?_eq_some_iff.mp hx).1
        rwa [List.length_range] at this
      have hlt : (iD d').length < sizeLine := by rw [sizeLine_eq, List.length_map]; omega
      refine ⟨_, rfl, ?_⟩
      refine ⟨[.sh (.rol (iD sc)), .sh (.int 40), .sh (.int 14), .own (.lst (iD (d' ++ [r' % 1000003]))), .sh (.int sd), .sh a, .sh b, .sh (.int (r' / 1000003)), .sh (.int x)], ?_, d' ++ [r' % 1000003], r' / 1000003, _, by rw [List.length_append, List.length_singleton]; omega, rfl⟩
      simp only [runDef, initE, finR, parD, retV, sSeq, sBind_ok, sBind_exn, sBind_bad, sNext, sIf, sSet, stor, sRet, sRetN, sExpr, sUnp, sAug, sPut, sPutA, sRaise, sBreak, sCont, sFor, obind_ok, obind_exn, obind_bad, retP_some, retP_none, vName, vC, vOp1, vOp2, vTst, vTru, vNot, vAnd, vOr, vIfE, vAndV, vOrV, vChain, vArgs, looks, look, esc, escs, frz, vTup, vLst, vB, vMut, vSl, vNotT, vDic1, vDic1B, vDic0, Slot.mu?, Slot.put, Slot.d?, List.getElem?_cons_zero, List.getElem?_cons_succ, List.getElem?_nil, Option.bind_some, Option.bind_none, Option.map_some, Option.map_none, List.set_cons_zero, List.set_cons_succ, List.set_nil, List.length_cons, List.length_nil, hName, hTup, hCons, hNil, opAdd, opSub, opLt, opLe, opGt, opGe, opLen, opInt, opNeg, opIs, opIsNot, isP, VL.isNon, truD, iAdd, iSub, opEq_int, opNe_int, if_true, if_false, ite_true, ite_false, Bool.not_true, Bool.not_false, Bool.false_eq_true, List.map_cons, List.map_nil, List.replicate_zero, List.replicate_succ, List.append_nil, List.nil_append, List.cons_append, reduceCtorEq, if_pos, Bool.not_eq_true, decide_eq_true_eq, decide_true, decide_false, c_eq, c_lt, c_le, c_ge, Nat.zero_add, Nat.reduceAdd, Pv.vl, s0, s1, s2, s3, s4, b__law_deck_0, tyD, mAppend, hlt, mod_p r' (show (0 : Int) < 1000003 by decide), div_p r' (show (0 : Int) < 1000003 by decide) (by decide), List.map_append])
  exact ⟨ρ', h1, h2⟩
theorem deck_in2 (sc : List Int) (sd : Int) (a b c : D) (x8 : VL.Slot) (d : List Int) (hl : d.length ≤ 5000) : ∃ ρ', loopF (hName 8) b__law_deck_1 ((List.range 14).map fun i : Nat => D.int (i : Int)) [.sh (.rol (iD sc)), .sh (.int 40), .sh (.int 14), .own (.lst (iD d)), .sh (.int sd), .sh a, .sh b, .sh c, x8] = .nx ρ' ∧
    ∃ d' r' y8, d'.length ≤ d.length + 14 ∧ ρ' = [.sh (.rol (iD sc)), .sh (.int 40), .sh (.int 14), .own (.lst (iD d')), .sh (.int r'), .sh a, .sh b, .sh c, y8] := by
  obtain ⟨ρ', h1, h2⟩ := loopF_inv (h := hName 8) (body := b__law_deck_1) (fun i : Nat => D.int (i : Int)) (List.range 14)
    (fun i ρ => ∃ d' r' y8, d'.length ≤ d.length + i ∧ ρ = [.sh (.rol (iD sc)), .sh (.int 40), .sh (.int 14), .own (.lst (iD d')), .sh (.int r'), .sh a, .sh b, .sh c, y8]) ⟨d, sd, x8, by omega, rfl⟩ (fun i x ρ hx ⟨d', r', y8, hd, e⟩ => by
      subst e
      have hi : i < 14 := by
        have := (List.getElem?_eq_some_iff.mp hx).1
        rwa [List.length_range] at this
      have hlt : (iD d').length < sizeLine := by rw [sizeLine_eq, List.length_map]; omega
      refine ⟨_, rfl, ?_⟩
      let r2 := (r' * 69621 + (x : Int) + 1) % 2147483629
      refine ⟨[.sh (.rol (iD sc)), .sh (.int 40), .sh (.int 14), .own (.lst (iD (d' ++ [(r2 / 5) % 1000003]))), .sh (.int r2), .sh a, .sh b, .sh c, .sh (.int x)], ?_, d' ++ [(r2 / 5) % 1000003], r2, _, by rw [List.length_append, List.length_singleton]; omega, rfl⟩
      simp only [runDef, initE, finR, parD, retV, sSeq, sBind_ok, sBind_exn, sBind_bad, sNext, sIf, sSet, stor, sRet, sRetN, sExpr, sUnp, sAug, sPut, sPutA, sRaise, sBreak, sCont, sFor, obind_ok, obind_exn, obind_bad, retP_some, retP_none, vName, vC, vOp1, vOp2, vTst, vTru, vNot, vAnd, vOr, vIfE, vAndV, vOrV, vChain, vArgs, looks, look, esc, escs, frz, vTup, vLst, vB, vMut, vSl, vNotT, vDic1, vDic1B, vDic0, Slot.mu?, Slot.put, Slot.d?, List.getElem?_cons_zero, List.getElem?_cons_succ, List.getElem?_nil, Option.bind_some, Option.bind_none, Option.map_some, Option.map_none, List.set_cons_zero, List.set_cons_succ, List.set_nil, List.length_cons, List.length_nil, hName, hTup, hCons, hNil, opAdd, opSub, opLt, opLe, opGt, opGe, opLen, opInt, opNeg, opIs, opIsNot, isP, VL.isNon, truD, iAdd, iSub, opEq_int, opNe_int, if_true, if_false, ite_true, ite_false, Bool.not_true, Bool.not_false, Bool.false_eq_true, List.map_cons, List.map_nil, List.replicate_zero, List.replicate_succ, List.append_nil, List.nil_append, List.cons_append, reduceCtorEq, if_pos, Bool.not_eq_true, decide_eq_true_eq, decide_true, decide_false, c_eq, c_lt, c_le, c_ge, Nat.zero_add, Nat.reduceAdd, Pv.vl, s0, s1, s2, s3, s4, b__law_deck_1, tyD, mAppend, hlt, mul_r r' (show (-1000000000000000 : Int) ≤ 69621 by decide) (by decide), mod_p _ (show (0 : Int) < 2147483629 by decide), mod_p _ (show (0 : Int) < 1000003 by decide), div_p _ (show (0 : Int) < 5 by decide) (by decide), List.map_append]
      rfl)
  exact ⟨ρ', h1, h2⟩
theorem pow30 : opPow (.int 10) (.int 30) = some (.sh (.int 1000000000000000000000000000000)) := by rfl
theorem r14 (ρ : VL.Env) (h : ρ[2]? = some (.sh (.int 14))) : vItR1 [(vName 2)] ρ = .ok ((List.range 14).map fun i : Nat => D.int (i : Int)) ρ := r1_ok (k := 14) (by
  unfold vName
  rw [h]
  rfl) (by decide)
theorem deck_tail (sc : List Int) (sd cell : Int) (x7 x8 : VL.Slot) (d : List Int) (k : Nat) (hl : d.length ≤ 4000) : ∃ ρ', sSeq (sSet 7 (vB opAbs [(vName 6)])) (
  sIf (vTst (vOp2 opGe (vName 7) (vOp2 opPow (vC (.int 10)) (vC (.int 30)))))
    (sFor (vItR1 [(vName 2)]) (hName 8) b__law_deck_0)
    (sSeq (sSet 4 (vOp2 opMod (vB opInt [(vOp2 opAdd (vOp2 opAdd (vOp2 opAdd (vOp2 opMul (vName 4) (vC (.int 48271))) (vOp2 opMul (vC (.int 2)) (vName 7))) (vB opInt [(vOp2 opLt (vName 6) (vC (.int 0)))])) (vName 5))]) (vC (.int 2147483647)))) <|
    sFor (vItR1 [(vName 2)]) (hName 8) b__law_deck_1)) [.sh (.rol (iD sc)), .sh (.int 40), .sh (.int 14), .own (.lst (iD d)), .sh (.int sd), .sh (.int k), .sh (.int cell), x7, x8] = .nx ρ' ∧
    ∃ d' r' y6 y7 y8, d'.length ≤ d.length + 14 ∧ ρ' = [.sh (.rol (iD sc)), .sh (.int 40), .sh (.int 14), .own (.lst (iD d')), .sh (.int r'), .sh (.int k), y6, y7, y8] := by
  have ha : opAbs [.int cell] = some (.sh (.int (if cell < 0 then -cell else cell))) := rfl
  generalize (if cell < 0 then -cell else cell) = rest at ha
  by_cases h : 1000000000000000000000000000000 ≤ rest
  · obtain ⟨ρ', h1, d', r', y8, h2, h3⟩ := deck_in1 sc sd (.int k) (.int cell) x8 d rest (by omega)
    refine ⟨ρ', ?_, d', sd, .sh (.int cell), .sh (.int r'), y8, h2, h3⟩
    simp only [runDef, initE, finR, parD, retV, sSeq, sBind_ok, sBind_exn, sBind_bad, sNext, sIf, sSet, stor, sRet, sRetN, sExpr, sUnp, sAug, sPut, sPutA, sRaise, sBreak, sCont, sFor, obind_ok, obind_exn, obind_bad, retP_some, retP_none, vName, vC, vOp1, vOp2, vTst, vTru, vNot, vAnd, vOr, vIfE, vAndV, vOrV, vChain, vArgs, looks, look, esc, escs, frz, vTup, vLst, vB, vMut, vSl, vNotT, vDic1, vDic1B, vDic0, Slot.mu?, Slot.put, Slot.d?, List.getElem?_cons_zero, List.getElem?_cons_succ, List.getElem?_nil, Option.bind_some, Option.bind_none, Option.map_some, Option.map_none, List.set_cons_zero, List.set_cons_succ, List.set_nil, List.length_cons, List.length_nil, hName, hTup, hCons, hNil, opAdd, opSub, opLt, opLe, opGt, opGe, opLen, opInt, opNeg, opIs, opIsNot, isP, VL.isNon, truD, iAdd, iSub, opEq_int, opNe_int, if_true, if_false, ite_true, ite_false, Bool.not_true, Bool.not_false, Bool.false_eq_true, List.map_cons, List.map_nil, List.replicate_zero, List.replicate_succ, List.append_nil, List.nil_append, List.cons_append, reduceCtorEq, if_pos, Bool.not_eq_true, decide_eq_true_eq, decide_true, decide_false, c_eq, c_lt, c_le, c_ge, Nat.zero_add, Nat.reduceAdd, Pv.vl, s0, s1, s2, s3, s4, ha, pow30, h]
    rw [r14 _ rfl, sBind_ok, h1]
  · obtain ⟨ρ', h1, d', r', y8, h2, h3⟩ := deck_in2 sc ((sd * 48271 + 2 * rest + (if cell < 0 then 1 else 0) + (k : Int)) % 2147483647) (.int k) (.int cell) (.int rest) x8 d (by omega)
    refine ⟨ρ', ?_, d', r', .sh (.int cell), .sh (.int rest), y8, h2, h3⟩
    simp only [runDef, initE, finR, parD, retV, sSeq, sBind_ok, sBind_exn, sBind_bad, sNext, sIf, sSet, stor, sRet, sRetN, sExpr, sUnp, sAug, sPut, sPutA, sRaise, sBreak, sCont, sFor, obind_ok, obind_exn, obind_bad, retP_some, retP_none, vName, vC, vOp1, vOp2, vTst, vTru, vNot, vAnd, vOr, vIfE, vAndV, vOrV, vChain, vArgs, looks, look, esc, escs, frz, vTup, vLst, vB, vMut, vSl, vNotT, vDic1, vDic1B, vDic0, Slot.mu?, Slot.put, Slot.d?, List.getElem?_cons_zero, List.getElem?_cons_succ, List.getElem?_nil, Option.bind_some, Option.bind_none, Option.map_some, Option.map_none, List.set_cons_zero, List.set_cons_succ, List.set_nil, List.length_cons, List.length_nil, hName, hTup, hCons, hNil, opAdd, opSub, opLt, opLe, opGt, opGe, opLen, opInt, opNeg, opIs, opIsNot, isP, VL.isNon, truD, iAdd, iSub, opEq_int, opNe_int, if_true, if_false, ite_true, ite_false, Bool.not_true, Bool.not_false, Bool.false_eq_true, List.map_cons, List.map_nil, List.replicate_zero, List.replicate_succ, List.append_nil, List.nil_append, List.cons_append, reduceCtorEq, if_pos, Bool.not_eq_true, decide_eq_true_eq, decide_true, decide_false, c_eq, c_lt, c_le, c_ge, Nat.zero_add, Nat.reduceAdd, Pv.vl, s0, s1, s2, s3, s4, ha, pow30, h, mul_r sd (show (-1000000000000000 : Int) ≤ 48271 by decide) (by decide), mul_l rest (show (-1000000000000000 : Int) ≤ 2 by decide) (by decide), mod_p _ (show (0 : Int) < 2147483647 by decide)]
    rw [r14 _ rfl, sBind_ok, h1]
theorem deck_mid (sc : List Int) (sd : Int) (x6 x7 x8 : VL.Slot) (d : List Int) (k : Nat) (hl : d.length ≤ 4000) : ∃ ρ', b__law_deck_2 [.sh (.rol (iD sc)), .sh (.int 40), .sh (.int 14), .own (.lst (iD d)), .sh (.int sd), .sh (.int k), x6, x7, x8] = .nx ρ' ∧
    ∃ d' r' y6 y7 y8, d'.length ≤ d.length + 14 ∧ ρ' = [.sh (.rol (iD sc)), .sh (.int 40), .sh (.int 14), .own (.lst (iD d')), .sh (.int r'), .sh (.int k), y6, y7, y8] := by
  by_cases h : k < sc.length
  · obtain ⟨ρ', h1, h2⟩ := deck_tail sc sd sc[k] x7 x8 d k hl
    refine ⟨ρ', ?_, h2⟩
    have hx := ix_r (ds := iD sc) (i := k) (d := .int sc[k]) (by simp [h])
    rw [← h1]
    unfold b__law_deck_2
    simp only [runDef, initE, finR, parD, retV, sSeq, sBind_ok, sBind_exn, sBind_bad, sNext, sIf, sSet, stor, sRet, sRetN, sExpr, sUnp, sAug, sPut, sPutA, sRaise, sBreak, sCont, sFor, obind_ok, obind_exn, obind_bad, retP_some, retP_none, vName, vC, vOp1, vOp2, vTst, vTru, vNot, vAnd, vOr, vIfE, vAndV, vOrV, vChain, vArgs, looks, look, esc, escs, frz, vTup, vLst, vB, vMut, vSl, vNotT, vDic1, vDic1B, vDic0, Slot.mu?, Slot.put, Slot.d?, List.getElem?_cons_zero, List.getElem?_cons_succ, List.getElem?_nil, Option.bind_some, Option.bind_none, Option.map_some, Option.map_none, List.set_cons_zero, List.set_cons_succ, List.set_nil, List.length_cons, List.length_nil, hName, hTup, hCons, hNil, opAdd, opSub, opLt, opLe, opGt, opGe, opLen, opInt, opNeg, opIs, opIsNot, isP, VL.isNon, truD, iAdd, iSub, opEq_int, opNe_int, if_true, if_false, ite_true, ite_false, Bool.not_true, Bool.not_false, Bool.false_eq_true, List.map_cons, List.map_nil, List.replicate_zero, List.replicate_succ, List.append_nil, List.nil_append, List.cons_append, reduceCtorEq, if_pos, Bool.not_eq_true, decide_eq_true_eq, decide_true, decide_false, c_eq, c_lt, c_le, c_ge, Nat.zero_add, Nat.reduceAdd, Pv.vl, s0, s1, s2, s3, s4, List.length_map, h, hx]
  · obtain ⟨ρ', h1, h2⟩ := deck_tail sc sd 0 x7 x8 d k hl
    refine ⟨ρ', ?_, h2⟩
    rw [← h1]
    unfold b__law_deck_2
    simp only [runDef, initE, finR, parD, retV, sSeq, sBind_ok, sBind_exn, sBind_bad, sNext, sIf, sSet, stor, sRet, sRetN, sExpr, sUnp, sAug, sPut, sPutA, sRaise, sBreak, sCont, sFor, obind_ok, obind_exn, obind_bad, retP_some, retP_none, vName, vC, vOp1, vOp2, vTst, vTru, vNot, vAnd, vOr, vIfE, vAndV, vOrV, vChain, vArgs, looks, look, esc, escs, frz, vTup, vLst, vB, vMut, vSl, vNotT, vDic1, vDic1B, vDic0, Slot.mu?, Slot.put, Slot.d?, List.getElem?_cons_zero, List.getElem?_cons_succ, List.getElem?_nil, Option.bind_some, Option.bind_none, Option.map_some, Option.map_none, List.set_cons_zero, List.set_cons_succ, List.set_nil, List.length_cons, List.length_nil, hName, hTup, hCons, hNil, opAdd, opSub, opLt, opLe, opGt, opGe, opLen, opInt, opNeg, opIs, opIsNot, isP, VL.isNon, truD, iAdd, iSub, opEq_int, opNe_int, if_true, if_false, ite_true, ite_false, Bool.not_true, Bool.not_false, Bool.false_eq_true, List.map_cons, List.map_nil, List.replicate_zero, List.replicate_succ, List.append_nil, List.nil_append, List.cons_append, reduceCtorEq, if_pos, Bool.not_eq_true, decide_eq_true_eq, decide_true, decide_false, c_eq, c_lt, c_le, c_ge, Nat.zero_add, Nat.reduceAdd, Pv.vl, s0, s1, s2, s3, s4, List.length_map, h]
theorem r_deck (sc : List Int) : ∃ deck : List Int, S__law_deck.run [.rol (iD sc), .int 40, .int 14] = .ret (.fr (.lst (iD deck))) .non := by
  obtain ⟨ρ', h1, d', r', y5, y6, y7, y8, h2, h3⟩ := loopF_inv (h := hName 5) (body := b__law_deck_2) (fun i : Nat => D.int (i : Int)) (List.range 40)
    (fun i ρ => ∃ d' r' y5 y6 y7 y8, d'.length ≤ 14 * i ∧ ρ = [.sh (.rol (iD sc)), .sh (.int 40), .sh (.int 14), .own (.lst (iD d')), .sh (.int r'), y5, y6, y7, y8])
    (ρ := [.sh (.rol (iD sc)), .sh (.int 40), .sh (.int 14), .own (.lst []), .sh (.int (7 + (sc.length : Int))), .no, .no, .no, .no]) ⟨[], 7 + (sc.length : Int), .no, .no, .no, .no, by simp, rfl⟩ (fun i x ρ hx ⟨d', r', y5, y6, y7, y8, hd, e⟩ => by
      subst e
      have hi : i < 40 := by
        have := (List.getElem?_eq_some_iff.mp hx).1
        rwa [List.length_range] at this
      obtain ⟨ρ', h1, d2, r2, z6, z7, z8, h2, h3⟩ := deck_mid sc r' y6 y7 y8 d' x (by omega)
      exact ⟨_, rfl, ρ', h1, d2, r2, _, z6, z7, z8, by omega, h3⟩)
  subst h3
  refine ⟨d'.reverse, ?_⟩
  have h40 : vItR1 [(vName 1)] [.sh (.rol (iD sc)), .sh (.int 40), .sh (.int 14), .own (.lst []), .sh (.int (7 + (sc.length : Int))), .no, .no, .no, .no] = .ok ((List.range 40).map fun i : Nat => D.int (i : Int)) _ := r1_ok (k := 40) rfl (by decide)
  unfold S__law_deck t__law_deck
  simp only [runDef, initE, finR, parD, retV, sSeq, sBind_ok, sBind_exn, sBind_bad, sNext, sIf, sSet, stor, sRet, sRetN, sExpr, sUnp, sAug, sPut, sPutA, sRaise, sBreak, sCont, sFor, obind_ok, obind_exn, obind_bad, retP_some, retP_none, vName, vC, vOp1, vOp2, vTst, vTru, vNot, vAnd, vOr, vIfE, vAndV, vOrV, vChain, vArgs, looks, look, esc, escs, frz, vTup, vLst, vB, vMut, vSl, vNotT, vDic1, vDic1B, vDic0, Slot.mu?, Slot.put, Slot.d?, List.getElem?_cons_zero, List.getElem?_cons_succ, List.getElem?_nil, Option.bind_some, Option.bind_none, Option.map_some, Option.map_none, List.set_cons_zero, List.set_cons_succ, List.set_nil, List.length_cons, List.length_nil, hName, hTup, hCons, hNil, opAdd, opSub, opLt, opLe, opGt, opGe, opLen, opInt, opNeg, opIs, opIsNot, isP, VL.isNon, truD, iAdd, iSub, opEq_int, opNe_int, if_true, if_false, ite_true, ite_false, Bool.not_true, Bool.not_false, Bool.false_eq_true, List.map_cons, List.map_nil, List.replicate_zero, List.replicate_succ, List.append_nil, List.nil_append, List.cons_append, reduceCtorEq, if_pos, Bool.not_eq_true, decide_eq_true_eq, decide_true, decide_false, c_eq, c_lt, c_le, c_ge, Nat.zero_add, Nat.reduceAdd, Pv.vl, s0, s1, s2, s3, s4, List.length_map, Nat.reduceSub, h40, h1, tyD, mReverse, List.map_reverse]
def subs : Nat → List (List Int)
  | 0 => [[]]
  | n + 1 => subs n ++ (subs n).map (· ++ [(n : Int)])
theorem subs_succ (n : Nat) : subs (n + 1) = subs n ++ (subs n).map (· ++ [(n : Int)]) := rfl
abbrev tD (ns : List Int) : D := .tup (ns.map D.int)
theorem subs_len : ∀ n, (subs n).length = 2 ^ n
  | 0 => rfl
  | n + 1 => by
    unfold subs
    rw [List.length_append, List.length_map, subs_len n, Nat.pow_succ]
    omega
theorem subs_le {x : Nat} (h : x < 8) : (subs x).length ≤ 256 := by
  rw [subs_len]
  exact Nat.le_trans (Nat.pow_le_pow_right (by decide) (Nat.le_of_lt h)) (by decide)
theorem subs_row : ∀ n, ∀ r ∈ subs n, r.length ≤ n
  | 0, r, h => by
    simp [subs] at h
    subst h
    exact Nat.zero_le _
  | n + 1, r, h => by
    unfold subs at h
    rcases List.mem_append.mp h with h | h
    · exact Nat.le_succ_of_le (subs_row n r h)
    · obtain ⟨q, hq, rfl⟩ := List.mem_map.mp h
      have := subs_row n q hq
      rw [List.length_append, List.length_singleton]
      omega
theorem itA_own {i : Nat} {ρ : VL.Env} {ds : List D} (h : ρ[i]? = some (.own (.lst ds))) : vItA (vName i) ρ = .ok ds (ρ.set i (.sh (.lst ds))) := by
  unfold vItA vName
  rw [h]
  simp only [obind_ok, esc, h]
theorem itA_sh {i : Nat} {ρ : VL.Env} {ds : List D} (h : ρ[i]? = some (.sh (.lst ds))) : vItA (vName i) ρ = .ok ds ρ := by
  unfold vItA vName
  rw [h]
  simp only [obind_ok, esc]
theorem itA_tup {i : Nat} {ρ : VL.Env} {ds : List D} (h : ρ[i]? = some (.sh (.tup ds))) : vItA (vName i) ρ = .ok ds ρ := by
  unfold vItA vName
  rw [h]
  simp only [obind_ok, esc]
theorem subs_comp (n x : Nat) (y3 : VL.Slot) (hlt : x < 8) : vComp (vItA (vName 1)) (hName 3) vYes (vOp2 opAdd (vName 3) (vTup [(vName 2)])) [3] [.sh (.int n), .own (.lst ((subs x).map tD)), .sh (.int x), y3]
    = .ok (.fr (.lst ((subs x).map fun r => tD (r ++ [(x : Int)])))) [.sh (.int n), .sh (.lst ((subs x).map tD)), .sh (.int x), keepS y3] := by
  have hlen := subs_le hlt
  have c := vComp_map (h := hName 3) (g := vYes) (f := vOp2 opAdd (vName 3) (vTup [(vName 2)])) (vs := [3]) (src := vItA (vName 1)) (ρ := [.sh (.int n), .own (.lst ((subs x).map tD)), .sh (.int x), y3]) tD (fun _ => true) (fun r => tD (r ++ [(x : Int)])) (subs x) (itA_own rfl) rfl (by rw [sizeLine_eq]; omega) (fun r hr => by
    refine ⟨_, rfl, rfl, fun _ => ⟨.sh (tD (r ++ [(x : Int)])), ?_, rfl⟩, rfl⟩
    have := subs_row x r hr
    have hl : r.length + 1 ≤ sizeLine := by rw [sizeLine_eq]; omega
    simp only [runDef, initE, finR, parD, retV, sSeq, sBind_ok, sBind_exn, sBind_bad, sNext, sIf, sSet, stor, sRet, sRetN, sExpr, sUnp, sAug, sPut, sPutA, sRaise, sBreak, sCont, sFor, obind_ok, obind_exn, obind_bad, retP_some, retP_none, vName, vC, vOp1, vOp2, vTst, vTru, vNot, vAnd, vOr, vIfE, vAndV, vOrV, vChain, vArgs, looks, look, esc, escs, frz, vTup, vLst, vB, vMut, vSl, vNotT, vDic1, vDic1B, vDic0, Slot.mu?, Slot.put, Slot.d?, List.getElem?_cons_zero, List.getElem?_cons_succ, List.getElem?_nil, Option.bind_some, Option.bind_none, Option.map_some, Option.map_none, List.set_cons_zero, List.set_cons_succ, List.set_nil, List.length_cons, List.length_nil, hName, hTup, hCons, hNil, opAdd, opSub, opLt, opLe, opGt, opGe, opLen, opInt, opNeg, opIs, opIsNot, isP, VL.isNon, truD, iAdd, iSub, opEq_int, opNe_int, if_true, if_false, ite_true, ite_false, Bool.not_true, Bool.not_false, Bool.false_eq_true, List.map_cons, List.map_nil, List.replicate_zero, List.replicate_succ, List.append_nil, List.nil_append, List.cons_append, reduceCtorEq, if_pos, Bool.not_eq_true, decide_eq_true_eq, decide_true, decide_false, c_eq, c_lt, c_le, c_ge, Nat.zero_add, Nat.reduceAdd, Pv.vl, s0, s1, s2, s3, s4, wipeE, tD, List.length_map, hl, List.map_append])
  rw [c, filtT]
  congr 1
  cases y3 <;> rfl
theorem subs_step (n x : Nat) (y2 y3 : VL.Slot) (hlt : x < 8) : b__law_subsets_0 [.sh (.int n), .own (.lst ((subs x).map tD)), .sh (.int x), y3] = .nx [.sh (.int n), .own (.lst ((subs (x + 1)).map tD)), .sh (.int x), keepS y3] := by
  have hlen := subs_le hlt
  have c := subs_comp n x y3 hlt
  unfold b__law_subsets_0
  have hl2 : (subs x).length + (subs x).length ≤ sizeLine := by rw [sizeLine_eq]; omega
  simp only [runDef, initE, finR, parD, retV, sSeq, sBind_ok, sBind_exn, sBind_bad, sNext, sIf, sSet, stor, sRet, sRetN, sExpr, sUnp, sAug, sPut, sPutA, sRaise, sBreak, sCont, sFor, obind_ok, obind_exn, obind_bad, retP_some, retP_none, vName, vC, vOp1, vOp2, vTst, vTru, vNot, vAnd, vOr, vIfE, vAndV, vOrV, vChain, vArgs, looks, look, esc, escs, frz, vTup, vLst, vB, vMut, vSl, vNotT, vDic1, vDic1B, vDic0, Slot.mu?, Slot.put, Slot.d?, List.getElem?_cons_zero, List.getElem?_cons_succ, List.getElem?_nil, Option.bind_some, Option.bind_none, Option.map_some, Option.map_none, List.set_cons_zero, List.set_cons_succ, List.set_nil, List.length_cons, List.length_nil, hName, hTup, hCons, hNil, opAdd, opSub, opLt, opLe, opGt, opGe, opLen, opInt, opNeg, opIs, opIsNot, isP, VL.isNon, truD, iAdd, iSub, opEq_int, opNe_int, if_true, if_false, ite_true, ite_false, Bool.not_true, Bool.not_false, Bool.false_eq_true, List.map_cons, List.map_nil, List.replicate_zero, List.replicate_succ, List.append_nil, List.nil_append, List.cons_append, reduceCtorEq, if_pos, Bool.not_eq_true, decide_eq_true_eq, decide_true, decide_false, c_eq, c_lt, c_le, c_ge, Nat.zero_add, Nat.reduceAdd, Pv.vl, s0, s1, s2, s3, s4, c, List.length_map, hl2]
  simp only [subs_succ, List.map_append, List.map_map, Function.comp_def]
theorem r_subsets (n : Nat) (h : n ≤ 8) : S__law_subsets.run [.int n] = .ret (.fr (.lst ((subs n).map tD))) .non := by
  obtain ⟨ρ', h1, y2, y3, h2⟩ := loopF_inv (h := hName 2) (body := b__law_subsets_0) (fun i : Nat => D.int (i : Int)) (List.range n)
    (fun i ρ => ∃ y2 y3, ρ = [.sh (.int n), .own (.lst ((subs i).map tD)), y2, y3]) (ρ := [.sh (.int n), .own (.lst ((subs 0).map tD)), .no, .no]) ⟨.no, .no, rfl⟩ (fun i x ρ hx ⟨y2, y3, e⟩ => by
      subst e
      obtain ⟨hlt, hx2⟩ := List.getElem?_eq_some_iff.mp hx
      rw [List.length_range] at hlt
      have ex : x = i := by simpa using hx2.symm
      subst ex
      exact ⟨_, rfl, _, subs_step n x y2 y3 (by omega), _, _, rfl⟩)
  rw [List.length_range] at h2
  subst h2
  have hn : vItR1 [(vName 0)] [.sh (.int n), .own (.lst [D.tup []]), .no, .no] = .ok ((List.range n).map fun i : Nat => D.int (i : Int)) _ := r1_ok (k := n) rfl (by omega)
  have h1' : loopF (hName 2) b__law_subsets_0 ((List.range n).map fun i : Nat => D.int (i : Int)) [.sh (.int n), .own (.lst [D.tup []]), .no, .no] = .nx [.sh (.int n), .own (.lst ((subs n).map tD)), y2, y3] := h1
  unfold S__law_subsets t__law_subsets
  simp only [runDef, initE, finR, parD, retV, sSeq, sBind_ok, sBind_exn, sBind_bad, sNext, sIf, sSet, stor, sRet, sRetN, sExpr, sUnp, sAug, sPut, sPutA, sRaise, sBreak, sCont, sFor, obind_ok, obind_exn, obind_bad, retP_some, retP_none, vName, vC, vOp1, vOp2, vTst, vTru, vNot, vAnd, vOr, vIfE, vAndV, vOrV, vChain, vArgs, looks, look, esc, escs, frz, vTup, vLst, vB, vMut, vSl, vNotT, vDic1, vDic1B, vDic0, Slot.mu?, Slot.put, Slot.d?, List.getElem?_cons_zero, List.getElem?_cons_succ, List.getElem?_nil, Option.bind_some, Option.bind_none, Option.map_some, Option.map_none, List.set_cons_zero, List.set_cons_succ, List.set_nil, List.length_cons, List.length_nil, hName, hTup, hCons, hNil, opAdd, opSub, opLt, opLe, opGt, opGe, opLen, opInt, opNeg, opIs, opIsNot, isP, VL.isNon, truD, iAdd, iSub, opEq_int, opNe_int, if_true, if_false, ite_true, ite_false, Bool.not_true, Bool.not_false, Bool.false_eq_true, List.map_cons, List.map_nil, List.replicate_zero, List.replicate_succ, List.append_nil, List.nil_append, List.cons_append, reduceCtorEq, if_pos, Bool.not_eq_true, decide_eq_true_eq, decide_true, decide_false, c_eq, c_lt, c_le, c_ge, Nat.zero_add, Nat.reduceAdd, Pv.vl, s0, s1, s2, s3, s4, Nat.reduceSub, hn, h1']

theorem get_iD {l : List Int} {a : Nat} (h : a < l.length) : (iD l)[a]? = some (.int (l.getD a 0)) := by
  rw [List.getElem?_map, List.getElem?_eq_getElem h, List.getD_eq_getElem?_getD, List.getElem?_eq_getElem h]
  rfl
theorem set_iD (l : List Int) (a : Nat) (v : Int) : (iD l).set a (.int v) = iD (l.set a v) := by
  show (List.map D.int l).set a (D.int v) = List.map D.int (l.set a v)
  rw [List.map_set]
theorem r_graph (n : Nat) (es : List (Nat × Nat)) (ho : okP n es) (he : es.length ≤ 1000) : S_Graph.run [.obj "Graph" [], .int n, .lst (es.map pairD)] = .ret (.sh .non) (gD n es) := by
  obtain ⟨ρ', h1, y3, y4, h2⟩ := loopF_st (h := hTup 2 (hCons (hName 3) (hCons (hName 4) hNil))) (body := b_Graph___init___0) pairD
    (fun (_ : Unit) ρ => ∃ y3 y4, ρ = [.par (.obj "Graph" []), .sh (.int n), .sh (.lst (es.map pairD)), y3, y4]) (fun _ _ => ()) es () [.par (.obj "Graph" []), .sh (.int n), .sh (.lst (es.map pairD)), .no, .no] ⟨_, _, rfl⟩ (fun x hx _ ρ ⟨y3, y4, e⟩ => by
      subst e
      obtain ⟨a, b⟩ := x
      obtain ⟨ha, hb⟩ := ho _ hx
      refine ⟨_, rfl, [.par (.obj "Graph" []), .sh (.int n), .sh (.lst (es.map pairD)), .sh (.int a), .sh (.int b)], ?_, _, _, rfl⟩
      unfold b_Graph___init___0
      have ha' : a < n := ha
      have hb' : b < n := hb
      simp only [runDef, initE, finR, parD, retV, sSeq, sBind_ok, sBind_exn, sBind_bad, sNext, sIf, sSet, stor, sRet, sRetN, sExpr, sUnp, sAug, sPut, sPutA, sRaise, sBreak, sCont, sFor, obind_ok, obind_exn, obind_bad, retP_some, retP_none, vName, vC, vOp1, vOp2, vTst, vTru, vNot, vAnd, vOr, vIfE, vAndV, vOrV, vChain, vArgs, looks, look, esc, escs, frz, vTup, vLst, vB, vMut, vSl, vNotT, vDic1, vDic1B, vDic0, Slot.mu?, Slot.put, Slot.d?, List.getElem?_cons_zero, List.getElem?_cons_succ, List.getElem?_nil, Option.bind_some, Option.bind_none, Option.map_some, Option.map_none, List.set_cons_zero, List.set_cons_succ, List.set_nil, List.length_cons, List.length_nil, hName, hTup, hCons, hNil, opAdd, opSub, opLt, opLe, opGt, opGe, opLen, opInt, opNeg, opIs, opIsNot, isP, VL.isNon, truD, iAdd, iSub, opEq_int, opNe_int, if_true, if_false, ite_true, ite_false, Bool.not_true, Bool.not_false, Bool.false_eq_true, List.map_cons, List.map_nil, List.replicate_zero, List.replicate_succ, List.append_nil, List.nil_append, List.cons_append, reduceCtorEq, if_pos, Bool.not_eq_true, decide_eq_true_eq, decide_true, decide_false, c_eq, c_lt, c_le, c_ge, Nat.zero_add, Nat.reduceAdd, Pv.vl, s0, s1, s2, s3, s4, pairD, ha', hb'])
  have c := vComp_map (h := hTup 2 (hCons (hName 3) (hCons (hName 4) hNil))) (g := vYes) (f := vTup [(vName 3), (vName 4)]) (vs := [3, 4]) (src := vItA (vName 2)) (ρ := [.par (.obj "Graph" [("vertices", .int n)]), .sh (.int n), .sh (.lst (es.map pairD)), y3, y4]) pairD (fun _ => true) pairD es (itA_sh rfl) rfl (by rw [sizeLine_eq]; omega) (fun x hx => by
    refine ⟨_, rfl, rfl, fun _ => ⟨.sh (pairD x), ?_, rfl⟩, rfl⟩
    simp only [runDef, initE, finR, parD, retV, sSeq, sBind_ok, sBind_exn, sBind_bad, sNext, sIf, sSet, stor, sRet, sRetN, sExpr, sUnp, sAug, sPut, sPutA, sRaise, sBreak, sCont, sFor, obind_ok, obind_exn, obind_bad, retP_some, retP_none, vName, vC, vOp1, vOp2, vTst, vTru, vNot, vAnd, vOr, vIfE, vAndV, vOrV, vChain, vArgs, looks, look, esc, escs, frz, vTup, vLst, vB, vMut, vSl, vNotT, vDic1, vDic1B, vDic0, Slot.mu?, Slot.put, Slot.d?, List.getElem?_cons_zero, List.getElem?_cons_succ, List.getElem?_nil, Option.bind_some, Option.bind_none, Option.map_some, Option.map_none, List.set_cons_zero, List.set_cons_succ, List.set_nil, List.length_cons, List.length_nil, hName, hTup, hCons, hNil, opAdd, opSub, opLt, opLe, opGt, opGe, opLen, opInt, opNeg, opIs, opIsNot, isP, VL.isNon, truD, iAdd, iSub, opEq_int, opNe_int, if_true, if_false, ite_true, ite_false, Bool.not_true, Bool.not_false, Bool.false_eq_true, List.map_cons, List.map_nil, List.replicate_zero, List.replicate_succ, List.append_nil, List.nil_append, List.cons_append, reduceCtorEq, if_pos, Bool.not_eq_true, decide_eq_true_eq, decide_true, decide_false, c_eq, c_lt, c_le, c_ge, Nat.zero_add, Nat.reduceAdd, Pv.vl, s0, s1, s2, s3, s4, wipeE, pairD])
  rw [filtT] at c
  have hr : restE [3, 4] [VL.Slot.par (.obj "Graph" [("vertices", .int n)]), .sh (.int n), .sh (.lst (es.map pairD)), y3, y4] (wipeE [VL.Slot.par (.obj "Graph" [("vertices", .int n)]), .sh (.int n), .sh (.lst (es.map pairD)), y3, y4] [3, 4]) = [.par (.obj "Graph" [("vertices", .int n)]), .sh (.int n), .sh (.lst (es.map pairD)), keepS y3, keepS y4] := by
    cases y3 <;> cases y4 <;> rfl
  rw [hr] at c
  have hi : vItA (vName 2) [VL.Slot.par (.obj "Graph" []), .sh (.int n), .sh (.lst (es.map pairD)), .no, .no] = .ok (es.map pairD) [.par (.obj "Graph" []), .sh (.int n), .sh (.lst (es.map pairD)), .no, .no] := itA_sh rfl
  subst h2
  have hn : ¬ ((n : Int) < 0) := by omega
  unfold S_Graph t_Graph___init__
  have t0 : (True ∧ 0 < 1000) = True := by simp
  have t1 : (True ∧ 1 < 1000) = True := by simp
  have t2 : (("vertices" : Str) = ("edges" : Str)) = False := by simp only [eq_iff_iff, iff_false]; decide +kernel
  simp only [runDef, initE, finR, parD, retV, sSeq, sBind_ok, sBind_exn, sBind_bad, sNext, sIf, sSet, stor, sRet, sRetN, sExpr, sUnp, sAug, sPut, sPutA, sRaise, sBreak, sCont, sFor, obind_ok, obind_exn, obind_bad, retP_some, retP_none, vName, vC, vOp1, vOp2, vTst, vTru, vNot, vAnd, vOr, vIfE, vAndV, vOrV, vChain, vArgs, looks, look, esc, escs, frz, vTup, vLst, vB, vMut, vSl, vNotT, vDic1, vDic1B, vDic0, Slot.mu?, Slot.put, Slot.d?, List.getElem?_cons_zero, List.getElem?_cons_succ, List.getElem?_nil, Option.bind_some, Option.bind_none, Option.map_some, Option.map_none, List.set_cons_zero, List.set_cons_succ, List.set_nil, List.length_cons, List.length_nil, hName, hTup, hCons, hNil, opAdd, opSub, opLt, opLe, opGt, opGe, opLen, opInt, opNeg, opIs, opIsNot, isP, VL.isNon, truD, iAdd, iSub, opEq_int, opNe_int, if_true, if_false, ite_true, ite_false, Bool.not_true, Bool.not_false, Bool.false_eq_true, List.map_cons, List.map_nil, List.replicate_zero, List.replicate_succ, List.append_nil, List.nil_append, List.cons_append, reduceCtorEq, if_pos, Bool.not_eq_true, decide_eq_true_eq, decide_true, decide_false, c_eq, c_lt, c_le, c_ge, Nat.zero_add, Nat.reduceAdd, Pv.vl, s0, s1, s2, s3, s4, Nat.reduceSub, hn, hi, h1, sFldP, okC, putFD, c, opTuple, t0, t1, t2]
  rfl
theorem pure_lst {ds : List D} (h : ∀ d ∈ ds, pureD 4 d = true) (x : D) : pureFR (.ret (.fr (.lst ds)) x) = true := by
  show ds.all (pureD 4) = true
  exact List.all_eq_true.mpr h
theorem pure_non (x : D) : pureFR (.ret (.sh .non) x) = true := rfl
theorem pure_bl (b : Bool) (x : D) : pureFR (.ret (.sh (.bl b)) x) = true := rfl
theorem pure_int (b : Int) (x : D) : pureFR (.ret (.sh (.int b)) x) = true := rfl
theorem pure_ints (l : List Int) (x : D) : pureFR (.ret (.fr (.lst (iD l))) x) = true := pure_lst (fun d hd => by
  obtain ⟨q, _, rfl⟩ := List.mem_map.mp hd
  rfl) x
theorem none_of {m : Nat} {p : Nat → Bool} (h : ∀ i, i < m → p i = false) : (List.range m).filter p = [] := by
  rw [List.filter_eq_nil_iff]
  intro i hi
  rw [h i (List.mem_range.mp hi)]
  exact Bool.false_ne_true
theorem some_of {m : Nat} {p : Nat → Bool} {i : Nat} (hi : i < m) (h : p i = true) : ∃ x r, (List.range m).filter p = x :: r := by
  cases e : (List.range m).filter p with
  | nil =>
    have := (List.filter_eq_nil_iff.mp e) i (List.mem_range.mpr hi)
    exact absurd h this
  | cons x r => exact ⟨x, r, rfl⟩
theorem isi_i1 (i : Int) : opIsi [.int i, .tup [.ty "tuple", .ty "list"]] = some (.sh (.bl false)) := by rfl
theorem isi_i2 (i : Int) : opIsi [.int i, .ty "bool"] = some (.sh (.bl false)) := by rfl
theorem isi_i3 (i : Int) : opIsi [.int i, .tup [.ty "int", .ty "str"]] = some (.sh (.bl true)) := by rfl
theorem isi_i4 (i : Int) : opIsi [.int i, .ty "str"] = some (.sh (.bl false)) := by rfl
theorem isi_i5 (i : Int) : opIsi [.int i, .ty "int"] = some (.sh (.bl true)) := by rfl
theorem isi_b1 (i : Bool) : opIsi [.bl i, .tup [.ty "tuple", .ty "list"]] = some (.sh (.bl false)) := by rfl
theorem isi_b2 (i : Bool) : opIsi [.bl i, .ty "bool"] = some (.sh (.bl true)) := by rfl
theorem isi_l (ds : List D) : opIsi [.lst ds, .ty "list"] = some (.sh (.bl true)) := by rfl
theorem seq_nx {f g : SS} {ρ ρ1 : VL.Env} (h : f ρ = .nx ρ1) : sSeq f g ρ = g ρ1 := by
  unfold sSeq
  rw [h]
theorem own_deck : S__law_deck.own0 = false := rfl
theorem own_edges : S__law_edges.own0 = true := rfl
theorem own_subs : S__law_subsets.own0 = false := rfl
theorem own_merged : S_merged.own0 = true := rfl
theorem own_groups : S_groups.own0 = false := rfl
theorem own_rank : S_Graph_rank_of.own0 = false := rfl
theorem own_lnames : S__law_names.own0 = false := rfl
theorem own_lrank : S__law_rank.own0 = false := rfl
theorem setI_asc {l : List Int} (h : l.Pairwise (· < ·)) : setI l = l := lt_one (setI_lt l) h fun x => setI_mem
theorem subs_asc : ∀ n, ∀ l ∈ subs n, l.Pairwise (· < ·) ∧ ∀ x ∈ l, 0 ≤ x ∧ x < (n : Int)
  | 0, l, h => by
    simp [subs] at h
    subst h
    exact ⟨List.Pairwise.nil, fun x hx => by cases hx⟩
  | n + 1, l, h => by
    rw [subs_succ] at h
    rcases List.mem_append.mp h with h | h
    · obtain ⟨h1, h2⟩ := subs_asc n l h
      exact ⟨h1, fun x hx => ⟨(h2 x hx).1, by have := (h2 x hx).2; omega⟩⟩
    · obtain ⟨q, hq, rfl⟩ := List.mem_map.mp h
      obtain ⟨h1, h2⟩ := subs_asc n q hq
      refine ⟨List.pairwise_append.mpr ⟨h1, List.pairwise_singleton _ _, fun a ha b hb => ?_⟩, fun x hx => ?_⟩
      · have : b = (n : Int) := by simpa using hb
        rw [this]
        exact (h2 a ha).2
      · rcases List.mem_append.mp hx with hx | hx
        · exact ⟨(h2 x hx).1, by have := (h2 x hx).2; omega⟩
        · have : x = (n : Int) := by simpa using hx
          omega
theorem mem_subs : ∀ (n : Nat) (l : List Int), l.Pairwise (· < ·) → (∀ x ∈ l, 0 ≤ x ∧ x < (n : Int)) → l ∈ subs n
  | 0, l, _, h => by
    cases l with
    | nil => simp [subs]
    | cons x r =>
      have := h x List.mem_cons_self
      omega
  | n + 1, l, hp, h => by
    rw [subs_succ, List.mem_append]
    by_cases hm : (n : Int) ∈ l
    · -- the greatest stands last
      have hne : l ≠ [] := fun z => by rw [z] at hm; cases hm
      obtain ⟨r, x, rfl⟩ : ∃ r x, l = r ++ [x] := ⟨l.dropLast, l.getLast hne, (List.dropLast_concat_getLast hne).symm⟩
      obtain ⟨h1, h2, h3⟩ := List.pairwise_append.mp hp
      have hx : x = (n : Int) := by
        rcases List.mem_append.mp hm with q | q
        · have a1 := h3 _ q x (by simp)
          have a2 := (h x (by simp)).2
          omega
        · exact (List.mem_singleton.mp q).symm
      subst hx
      refine .inr (List.mem_map.mpr ⟨r, mem_subs n r h1 (fun y hy => ?_), rfl⟩)
      have a1 := h3 y hy (n : Int) (by simp)
      exact ⟨(h y (List.mem_append_left _ hy)).1, a1⟩
    · refine .inl (mem_subs n l hp fun x hx => ?_)
      obtain ⟨h1, h2⟩ := h x hx
      have : x ≠ (n : Int) := fun z => hm (z ▸ hx)
      omega
theorem getD_set (l : List Int) (i j : Nat) (v : Int) (h : i < l.length) : (l.set i v).getD j 0 = if i = j then v else l.getD j 0 := by
  rw [List.getD_eq_getElem?_getD, List.getD_eq_getElem?_getD, List.getElem?_set]
  by_cases hij : i = j
  · subst hij
    simp [h]
  · simp [hij]
theorem pure_tups (L : List (List Int)) (x : D) : pureFR (.ret (.fr (.lst (L.map tD))) x) = true := pure_lst (fun d hd => by
  obtain ⟨q, _, rfl⟩ := List.mem_map.mp hd
  show (q.map D.int).all (pureD 3) = true
  rw [List.all_eq_true]
  intro d hd
  obtain ⟨i, _, rfl⟩ := List.mem_map.mp hd
  rfl) x
theorem pure_exn (a b : Str) : pureFR (.exn a (.str b)) = true := rfl
theorem ints_out {α : Type} {xs : List α} {out : List D} (hl : out.length = xs.length) (W : Nat → α → Int) (h : ∀ (i : Nat) (x : α), xs[i]? = some x → out[i]? = some (D.int (W i x))) : ∃ l : List Int, out = iD l ∧ l.length = xs.length ∧ ∀ (i : Nat) (x : α), xs[i]? = some x → l[i]? = some (W i x) := by
  have hall : ∀ o ∈ out, ∃ x : Int, o = .int x := by
    intro o ho
    obtain ⟨i, hi⟩ := List.mem_iff_getElem?.mp ho
    have hlt := (List.getElem?_eq_some_iff.mp hi).1
    have := h i xs[i] (List.getElem?_eq_getElem (by omega))
    rw [this] at hi
    cases hi
    exact ⟨_, rfl⟩
  refine ⟨out.map fun o => match o with | .int x => x | _ => 0, ?_, by rw [List.length_map, hl], fun i x hx => ?_⟩
  · show out = List.map D.int _
    rw [List.map_map]
    refine (List.map_id _).symm.trans (List.map_congr_left fun o ho => ?_)
    obtain ⟨x, rfl⟩ := hall o ho
    rfl
  · rw [List.getElem?_map, h i x hx]
    rfl
end CM
/-! G1: graphs, their parts and ranks, no program in sight -/
namespace CM
open PySem PySem.Spec PyProof.Rows L2 VL
abbrev Es := List (Nat × Nat)
/-- one edge joins two names -/
def mrg (l : List Nat) (a b : Nat) : List Nat := l.map fun z => if z = max (l.getD a 0) (l.getD b 0) then min (l.getD a 0) (l.getD b 0) else z
def nmE (n : Nat) (es : Es) : List Nat := es.foldl (fun l p => mrg l p.1 p.2) (List.range n)
theorem mrg_len (l : List Nat) (a b : Nat) : (mrg l a b).length = l.length := by simp [mrg]
theorem nm_snoc (n : Nat) (es : Es) (p : Nat × Nat) : nmE n (es ++ [p]) = mrg (nmE n es) p.1 p.2 := by
  unfold nmE
  rw [List.foldl_append]
  rfl
theorem nm_len (n : Nat) (es : Es) : (nmE n es).length = n := by
  unfold nmE
  have : ∀ (es : Es) (l : List Nat), (es.foldl (fun l p => mrg l p.1 p.2) l).length = l.length := fun es => by
    induction es with
    | nil => intro l; rfl
    | cons p es ih => intro l; rw [List.foldl_cons, ih, mrg_len]
  rw [this, List.length_range]
/-- v's name -/
abbrev nm (n : Nat) (es : Es) (v : Nat) : Nat := (nmE n es).getD v 0
theorem getD_map0 (l : List Nat) (f : Nat → Nat) (v : Nat) (h : v < l.length) : (l.map f).getD v 0 = f (l.getD v 0) := by
  rw [List.getD_eq_getElem?_getD, List.getElem?_map, List.getElem?_eq_getElem h, List.getD_eq_getElem?_getD, List.getElem?_eq_getElem h]
  rfl
theorem nm_nil {n v : Nat} (h : v < n) : nm n [] v = v := by
  show (List.range n).getD v 0 = v
  rw [List.getD_eq_getElem?_getD, List.getElem?_range h]
  rfl
theorem nm_step {n v : Nat} (es : Es) (a b : Nat) (h : v < n) : nm n (es ++ [(a, b)]) v = if nm n es v = max (nm n es a) (nm n es b) then min (nm n es a) (nm n es b) else nm n es v := by
  show (nmE n (es ++ [(a, b)])).getD v 0 = _
  rw [nm_snoc]
  unfold mrg
  rw [getD_map0 _ _ _ (by rw [nm_len]; exact h)]
/-- joined by edges -/
inductive Con (es : Es) : Nat → Nat → Prop
  | refl (u : Nat) : Con es u u
  | step {u v w : Nat} : Con es u v → (v, w) ∈ es ∨ (w, v) ∈ es → Con es u w
section
variable {n : Nat} {es fs : Es} {a b u v w : Nat}
theorem Con.trans (h : Con es u v) (k : Con es v w) : Con es u w := by
  induction k with
  | refl => exact h
  | step _ e ih => exact .step ih e
theorem Con.one (h : (u, v) ∈ es) : Con es u v := .step (.refl u) (.inl h)
theorem Con.symm (h : Con es u v) : Con es v u := by
  induction h with
  | refl => exact .refl _
  | step _ e ih => exact (Con.step (.refl _) e.symm).trans ih
theorem Con.mono (hs : ∀ p ∈ es, p ∈ fs) (h : Con es u v) : Con fs u v := by
  induction h with
  | refl => exact .refl _
  | step _ e ih => exact .step ih (e.imp (hs _) (hs _))
/-- edges that join what is joined give nothing new -/
theorem Con.bind (hs : ∀ p ∈ fs, Con es p.1 p.2) (h : Con fs u v) : Con es u v := by
  induction h with
  | refl => exact .refl _
  | step _ e ih =>
    rcases e with e | e
    · exact ih.trans (hs _ e)
    · exact ih.trans (hs _ e).symm
theorem con_nil : Con [] u v ↔ u = v := by
  constructor
  · intro h
    induction h with
    | refl => rfl
    | step _ e _ => rcases e with e | e <;> cases e
  · rintro rfl; exact .refl _
theorem con_snoc : Con (es ++ [(a, b)]) u v ↔ Con es u v ∨ (Con es u a ∧ Con es b v) ∨ (Con es u b ∧ Con es a v) := by
  have sub : ∀ p ∈ es, p ∈ es ++ [(a, b)] := fun p hp => List.mem_append_left _ hp
  have ab : Con (es ++ [(a, b)]) a b := .one (by simp)
  constructor
  · intro h
    induction h with
    | refl => exact .inl (.refl _)
    | step _ e ih =>
      rename_i v w _
      have e2 : (Con es v w) ∨ (v = a ∧ w = b) ∨ (v = b ∧ w = a) := by
        rcases e with e | e
        · rcases List.mem_append.mp e with e | e
          · exact .inl (.one e)
          · have : (v, w) = (a, b) := by simpa using e
            cases this
            exact .inr (.inl ⟨rfl, rfl⟩)
        · rcases List.mem_append.mp e with e | e
          · exact .inl (Con.one e).symm
          · have : (w, v) = (a, b) := by simpa using e
            cases this
            exact .inr (.inr ⟨rfl, rfl⟩)
      rcases e2 with e2 | ⟨rfl, rfl⟩ | ⟨rfl, rfl⟩
      · rcases ih with h | ⟨h1, h2⟩ | ⟨h1, h2⟩
        · exact .inl (h.trans e2)
        · exact .inr (.inl ⟨h1, h2.trans e2⟩)
        · exact .inr (.inr ⟨h1, h2.trans e2⟩)
      · rcases ih with h | ⟨h1, h2⟩ | ⟨h1, h2⟩
        · exact .inr (.inl ⟨h, .refl _⟩)
        · exact .inr (.inl ⟨h1, .refl _⟩)
        · exact .inl h1
      · rcases ih with h | ⟨h1, h2⟩ | ⟨h1, h2⟩
        · exact .inr (.inr ⟨h, .refl _⟩)
        · exact .inl h1
        · exact .inr (.inr ⟨h1, .refl _⟩)
  · rintro (h | ⟨h1, h2⟩ | ⟨h1, h2⟩)
    · exact h.mono sub
    · exact (h1.mono sub).trans (ab.trans (h2.mono sub))
    · exact (h1.mono sub).trans (ab.symm.trans (h2.mono sub))
/-- the names: least in their part -/
structure NmOk (n : Nat) (es : Es) : Prop where
  le : ∀ v, v < n → nm n es v ≤ v
  idem : ∀ v, v < n → nm n es (nm n es v) = nm n es v
  con : ∀ u v, u < n → v < n → (nm n es u = nm n es v ↔ Con es u v)
theorem NmOk.lt (h : NmOk n es) (hv : v < n) : nm n es v < n := Nat.lt_of_le_of_lt (h.le v hv) hv
theorem okP_app (h : okP n (es ++ fs)) : okP n es ∧ okP n fs := ⟨fun p hp => h p (List.mem_append_left _ hp), fun p hp => h p (List.mem_append_right _ hp)⟩
theorem nmOk_snoc (h : NmOk n es) (ha : a < n) (hb : b < n) : NmOk n (es ++ [(a, b)]) := by
  have la := h.lt ha
  have lb := h.lt hb
  have ia := h.idem a ha
  have ib := h.idem b hb
  refine ⟨fun v hv => ?_, fun v hv => ?_, fun u v hu hv => ?_⟩
  · rw [nm_step es a b hv]
    have := h.le v hv
    split <;> omega
  · have lv := h.lt hv
    have iv := h.idem v hv
    have lmin : min (nm n es a) (nm n es b) < n := by omega
    have imin : nm n es (min (nm n es a) (nm n es b)) = min (nm n es a) (nm n es b) := by
      rcases Nat.le_total (nm n es a) (nm n es b) with q | q
      · rw [Nat.min_eq_left q, ia]
      · rw [Nat.min_eq_right q, ib]
    rw [nm_step es a b hv]
    split
    · rename_i e
      rw [nm_step es a b lmin, imin]
      split
      · rfl
      · rfl
    · rename_i e
      rw [nm_step es a b lv, iv, if_neg e]
  · rw [nm_step es a b hu, nm_step es a b hv, con_snoc, ← h.con u v hu hv, ← h.con u a hu ha, ← h.con b v hb hv, ← h.con u b hu hb, ← h.con a v ha hv]
    generalize nm n es u = x
    generalize nm n es v = y
    generalize nm n es a = p
    generalize nm n es b = q
    constructor
    · intro e
      split at e <;> split at e <;> omega
    · intro e
      split <;> split <;> omega
theorem nmOk_nil : NmOk n [] := ⟨fun v hv => by rw [nm_nil hv]; exact Nat.le_refl _, fun v hv => by rw [nm_nil hv, nm_nil hv], fun u v hu hv => by rw [nm_nil hu, nm_nil hv, con_nil]⟩
theorem nmOk (ho : okP n es) : NmOk n es := by
  have key : ∀ (k : Nat) (es : Es), es.length = k → okP n es → NmOk n es := fun k => by
    induction k with
    | zero => intro es hl _; rw [List.length_eq_zero_iff.mp hl]; exact nmOk_nil
    | succ k ih =>
      intro es hl ho
      have hne : es ≠ [] := fun z => by rw [z] at hl; cases hl
      have e := (List.dropLast_concat_getLast hne).symm
      rw [e] at ho ⊢
      obtain ⟨h1, h2⟩ := okP_app ho
      have := h2 (es.getLast hne) (by simp)
      exact nmOk_snoc (ih _ (by rw [List.length_dropLast, hl]; rfl) h1) this.1 this.2
  exact key _ es rfl ho
/-- the same parts, the same names -/
theorem nm_ext (he : NmOk n es) (hf : NmOk n fs) (h : ∀ u v, u < n → v < n → (Con es u v ↔ Con fs u v)) : nmE n es = nmE n fs := by
  refine List.ext_getElem (by rw [nm_len, nm_len]) fun v h1 h2 => ?_
  rw [nm_len] at h1
  have e1 : (nmE n es)[v] = nm n es v := by
    show _ = (nmE n es).getD v 0
    rw [List.getD_eq_getElem?_getD, List.getElem?_eq_getElem (by rw [nm_len]; exact h1)]
    rfl
  have e2 : (nmE n fs)[v] = nm n fs v := by
    show _ = (nmE n fs).getD v 0
    rw [List.getD_eq_getElem?_getD, List.getElem?_eq_getElem (by rw [nm_len]; exact h1)]
    rfl
  rw [e1, e2]
  have le1 : nm n es v ≤ nm n fs v := by
    have c1 := (hf.con _ v (hf.lt h1) h1).mp (hf.idem v h1)
    have c2 := (he.con _ v (hf.lt h1) h1).mpr ((h _ _ (hf.lt h1) h1).mpr c1)
    rw [← c2]
    exact he.le _ (hf.lt h1)
  have le2 : nm n fs v ≤ nm n es v := by
    have c1 := (he.con _ v (he.lt h1) h1).mp (he.idem v h1)
    have c2 := (hf.con _ v (he.lt h1) h1).mpr ((h _ _ (he.lt h1) h1).mp c1)
    rw [← c2]
    exact hf.le _ (he.lt h1)
  omega
/-! ### ranks -/
def roots (n : Nat) (es : Es) : List Nat := (List.range n).filter fun v => decide (nm n es v = v)
def rk (n : Nat) (es : Es) : Nat := n - (roots n es).length
theorem roots_le (n : Nat) (es : Es) : (roots n es).length ≤ n := by
  have := List.length_filter_le (fun v => decide (nm n es v = v)) (List.range n)
  rw [List.length_range] at this
  exact this
theorem rk_nil : rk n [] = 0 := by
  unfold rk roots
  have : (List.range n).filter (fun v => decide (nm n [] v = v)) = List.range n := List.filter_eq_self.mpr fun v hv => decide_eq_true (nm_nil (List.mem_range.mp hv))
  rw [this, List.length_range, Nat.sub_self]
theorem rk_ext (he : okP n es) (hf : okP n fs) (h : ∀ u v, u < n → v < n → (Con es u v ↔ Con fs u v)) : rk n es = rk n fs := by
  have e := nm_ext (nmOk he) (nmOk hf) h
  unfold rk roots nm
  rw [e]
theorem nodup_filter_erase {l : List Nat} (nd : l.Nodup) {x : Nat} (hx : x ∈ l) : (l.filter fun v => decide (v ≠ x)).length + 1 = l.length := by
  induction l with
  | nil => cases hx
  | cons y l ih =>
    obtain ⟨h1, h2⟩ := List.nodup_cons.mp nd
    by_cases e : y = x
    · subst e
      rw [List.filter_cons_of_neg (by simp)]
      have : l.filter (fun v => decide (v ≠ y)) = l := List.filter_eq_self.mpr fun v hv => decide_eq_true fun z => h1 (z ▸ hv)
      rw [this, List.length_cons]
    · rw [List.filter_cons_of_pos (by simpa using e), List.length_cons, List.length_cons]
      have := ih h2 (by
        rcases List.mem_cons.mp hx with q | q
        · exact absurd q.symm e
        · exact q)
      omega
/-- an edge between two parts adds one -/
theorem rk_snoc_no (he : okP n es) (ha : a < n) (hb : b < n) (h : ¬ Con es a b) : rk n (es ++ [(a, b)]) = rk n es + 1 := by
  have N := nmOk he
  have hne : nm n es a ≠ nm n es b := fun z => h ((N.con a b ha hb).mp z)
  have la := N.lt ha
  have lb := N.lt hb
  have ia := N.idem a ha
  have ib := N.idem b hb
  have hm : max (nm n es a) (nm n es b) ∈ roots n es := by
    refine List.mem_filter.mpr ⟨List.mem_range.mpr (by omega), decide_eq_true ?_⟩
    rcases Nat.le_total (nm n es a) (nm n es b) with q | q
    · rw [Nat.max_eq_right q, ib]
    · rw [Nat.max_eq_left q, ia]
  have nd : (roots n es).Nodup := List.nodup_range.filter _
  have key : roots n (es ++ [(a, b)]) = (roots n es).filter fun v => decide (v ≠ max (nm n es a) (nm n es b)) := by
    unfold roots
    rw [List.filter_filter]
    refine List.filter_congr fun v hv => ?_
    have hv2 := List.mem_range.mp hv
    rw [nm_step es a b hv2]
    have := N.le v hv2
    by_cases q : nm n es v = max (nm n es a) (nm n es b)
    · rw [if_pos q]
      have r1 : ¬ min (nm n es a) (nm n es b) = v := by omega
      rw [decide_eq_false r1]
      by_cases r2 : v = max (nm n es a) (nm n es b)
      · rw [decide_eq_false (fun z : v ≠ max (nm n es a) (nm n es b) => z r2), Bool.false_and]
      · have : ¬ nm n es v = v := fun z => r2 (z.symm.trans q)
        rw [decide_eq_false this, Bool.and_false]
    · rw [if_neg q]
      by_cases r : nm n es v = v
      · have : v ≠ max (nm n es a) (nm n es b) := fun z => q (r.trans z)
        rw [decide_eq_true r, decide_eq_true this]
        rfl
      · rw [decide_eq_false r, Bool.and_false]
  have e := nodup_filter_erase nd hm
  have l1 := roots_le n es
  unfold rk
  rw [key]
  omega
theorem okP_snoc (he : okP n es) (ha : a < n) (hb : b < n) : okP n (es ++ [(a, b)]) := fun p hp => by
  rcases List.mem_append.mp hp with q | q
  · exact he p q
  · have : p = (a, b) := by simpa using q
    subst this
    exact ⟨ha, hb⟩
theorem rk_snoc_yes (he : okP n es) (ha : a < n) (hb : b < n) (h : Con es a b) : rk n (es ++ [(a, b)]) = rk n es := by
  refine rk_ext (okP_snoc he ha hb) he fun u v _ _ => ⟨fun k => k.bind fun p hp => ?_, fun k => k.mono fun p hp => List.mem_append_left _ hp⟩
  rcases List.mem_append.mp hp with q | q
  · exact .one q
  · have : p = (a, b) := by simpa using q
    subst this
    exact h
theorem rk_mem (he : okP n es) (hf : okP n fs) (h : ∀ p, p ∈ es ↔ p ∈ fs) : rk n es = rk n fs :=
  rk_ext he hf fun u v _ _ => ⟨fun k => k.mono fun p hp => (h p).mp hp, fun k => k.mono fun p hp => (h p).mpr hp⟩
/-- more edges, no less rank; each adds at most one -/
theorem rk_app (he : okP n es) : ∀ (fs : Es), okP n fs → rk n es ≤ rk n (es ++ fs) ∧ rk n (es ++ fs) ≤ rk n es + fs.length := by
  have key : ∀ (k : Nat) (fs : Es), fs.length = k → okP n fs → rk n es ≤ rk n (es ++ fs) ∧ rk n (es ++ fs) ≤ rk n es + fs.length := fun k => by
    induction k with
    | zero => intro fs hl _; rw [List.length_eq_zero_iff.mp hl, List.append_nil]; simp
    | succ k ih =>
      intro fs hl hf
      have hne : fs ≠ [] := fun z => by rw [z] at hl; cases hl
      have e := (List.dropLast_concat_getLast hne).symm
      generalize fs.getLast hne = p at e
      generalize hg : fs.dropLast = gs at e
      subst e
      obtain ⟨a, b⟩ := p
      obtain ⟨h1, h2⟩ := okP_app hf
      obtain ⟨ha, hb⟩ := h2 (a, b) (by simp)
      rw [List.length_append, List.length_singleton] at hl
      obtain ⟨i1, i2⟩ := ih gs (by omega) h1
      have ho : okP n (es ++ gs) := fun p hp => (List.mem_append.mp hp).elim (he p) (h1 p)
      rw [← List.append_assoc, List.length_append, List.length_singleton]
      by_cases c : Con (es ++ gs) a b
      · rw [rk_snoc_yes ho ha hb c]; omega
      · rw [rk_snoc_no ho ha hb c]; omega
  exact fun fs hf => key _ fs rfl hf
theorem rk_le_len (he : okP n es) : rk n es ≤ es.length := by
  have := (rk_app (n := n) (es := []) (fun p hp => by cases hp) es he).2
  rw [rk_nil, List.nil_append] at this
  omega
end
end CM
/-! G2: sets of edges, forests, ways, exchanges -/
namespace CM
open PySem PySem.Spec PyProof.Rows L2 VL
abbrev eS (es : Es) (S : List Nat) : Es := S.map fun i => es.getD i (0, 0)
def okS (es : Es) (S : List Nat) : Prop := ∀ i ∈ S, i < es.length
abbrev rkS (n : Nat) (es : Es) (S : List Nat) : Nat := rk n (eS es S)
theorem nodup_sub_len : ∀ {T S : List Nat}, T.Nodup → (∀ x ∈ T, x ∈ S) → T.length ≤ S.length
  | [], S, _, _ => Nat.zero_le _
  | t :: T, S, nd, h => by
    obtain ⟨h1, h2⟩ := List.nodup_cons.mp nd
    have := nodup_sub_len (T := T) (S := S.erase t) h2 fun x hx => (List.mem_erase_of_ne (fun z => h1 (by rw [← z]; exact hx))).mpr (h x (List.mem_cons_of_mem _ hx))
    rw [List.length_erase_of_mem (h t List.mem_cons_self)] at this
    have hp := List.length_pos_of_mem (h t List.mem_cons_self)
    rw [List.length_cons]
    omega
theorem sub_all {T S : List Nat} (nd : T.Nodup) (h : ∀ x ∈ T, x ∈ S) (hl : S.length ≤ T.length) : ∀ x ∈ S, x ∈ T := fun x hx => Classical.byContradiction fun z => by
  have := nodup_sub_len (T := x :: T) (S := S) (List.nodup_cons.mpr ⟨z, nd⟩) fun y hy => by
    rcases List.mem_cons.mp hy with q | q
    · rw [q]; exact hx
    · exact h y q
  rw [List.length_cons] at this
  omega
/-- S without x -/
abbrev wo (S : List Nat) (x : Nat) : List Nat := S.filter fun v => decide (v ≠ x)
section
variable {n : Nat} {es : Es} {S T : List Nat}
theorem get_mem {i : Nat} (h : i < es.length) : es.getD i (0, 0) ∈ es := by
  rw [List.getD_eq_getElem?_getD, List.getElem?_eq_getElem h]
  exact List.getElem_mem h
theorem eS_ok (ho : okP n es) (h : okS es S) : okP n (eS es S) := fun p hp => by
  obtain ⟨i, hi, rfl⟩ := List.mem_map.mp hp
  exact ho _ (get_mem (h i hi))
theorem eS_range (es : Es) : eS es (List.range es.length) = es := by
  refine List.ext_getElem (by simp) fun i h1 h2 => ?_
  simp [List.getElem?_eq_getElem h2]
theorem eS_sub (h : ∀ i ∈ S, i ∈ T) : ∀ p ∈ eS es S, p ∈ eS es T := fun p hp => by
  obtain ⟨i, hi, rfl⟩ := List.mem_map.mp hp
  exact List.mem_map.mpr ⟨i, h i hi, rfl⟩
theorem okS_wo (h : okS es S) (x : Nat) : okS es (wo S x) := fun i hi => h i (List.mem_filter.mp hi).1
theorem wo_mem {x i : Nat} : i ∈ wo S x ↔ i ∈ S ∧ i ≠ x := by
  rw [List.mem_filter, decide_eq_true_iff]
theorem wo_len {x : Nat} (nd : S.Nodup) (hx : x ∈ S) : (wo S x).length + 1 = S.length := nodup_filter_erase nd hx
theorem ends_lt (ho : okP n es) {e : Nat} (he : e < es.length) : (es.getD e (0, 0)).1 < n ∧ (es.getD e (0, 0)).2 < n := ho _ (get_mem he)
/-- of an independent set: what is left is independent, and does not join the ends -/
theorem ind_wo (ho : okP n es) (hS : okS es S) (nd : S.Nodup) (hi : rkS n es S = S.length) {e : Nat} (he : e ∈ S) :
    rkS n es (wo S e) = (wo S e).length ∧ ¬ Con (eS es (wo S e)) (es.getD e (0, 0)).1 (es.getD e (0, 0)).2 := by
  have hl := wo_len nd he
  obtain ⟨ha, hb⟩ := ends_lt ho (hS e he)
  have o1 := eS_ok ho (okS_wo hS e)
  have o2 := okP_snoc o1 ha hb
  have em : rkS n es S = rk n (eS es (wo S e) ++ [((es.getD e (0, 0)).1, (es.getD e (0, 0)).2)]) := rk_mem (eS_ok ho hS) o2 fun p => by
    rw [List.mem_append, List.mem_singleton]
    constructor
    · intro hp
      obtain ⟨i, hi, rfl⟩ := List.mem_map.mp hp
      by_cases h : i = e
      · exact .inr (by rw [h])
      · exact .inl (List.mem_map.mpr ⟨i, wo_mem.mpr ⟨hi, h⟩, rfl⟩)
    · rintro (hp | hp)
      · exact eS_sub (fun i hi => (wo_mem.mp hi).1) p hp
      · exact List.mem_map.mpr ⟨e, he, by rw [hp]⟩
  have hle := rk_le_len o1
  rw [List.length_map] at hle
  by_cases c : Con (eS es (wo S e)) (es.getD e (0, 0)).1 (es.getD e (0, 0)).2
  · rw [rk_snoc_yes o1 ha hb c] at em
    omega
  · rw [rk_snoc_no o1 ha hb c] at em
    exact ⟨by show rk n (eS es (wo S e)) = _; omega, c⟩
/-- a set of the whole rank joins the ends of all edges -/
theorem spans (ho : okP n es) (hS : okS es S) (hr : rkS n es S = rk n es) : ∀ p ∈ es, Con (eS es S) p.1 p.2 := fun p hp => Classical.byContradiction fun c => by
  obtain ⟨ha, hb⟩ := ho p hp
  have o1 := eS_ok ho hS
  have o2 := okP_snoc o1 ha hb
  have h1 := rk_snoc_no o1 ha hb c
  have h2 := (rk_app o2 es ho).1
  have h3 : rk n ((eS es S ++ [(p.1, p.2)]) ++ es) = rk n es := rk_mem (fun q hq => (List.mem_append.mp hq).elim (o2 q) (ho q)) ho fun q => by
    rw [List.mem_append, List.mem_append, List.mem_singleton]
    constructor
    · rintro ((hq | hq) | hq)
      · obtain ⟨i, hi, rfl⟩ := List.mem_map.mp hq
        exact get_mem (hS i hi)
      · rw [hq]; exact hp
      · exact hq
    · exact .inr
  have hr' : rk n (eS es S) = rk n es := hr
  omega
theorem spans_con (ho : okP n es) (hS : okS es S) (hr : rkS n es S = rk n es) {u v : Nat} (h : Con es u v) : Con (eS es S) u v := h.bind (spans ho hS hr)
/-- an edge that is not joined comes in -/
theorem ind_add (ho : okP n es) (hS : okS es S) (hi : rkS n es S = S.length) {e : Nat} (he : e < es.length) (c : ¬ Con (eS es S) (es.getD e (0, 0)).1 (es.getD e (0, 0)).2)
    (hT : okS es T) (hm : ∀ i, i ∈ T ↔ i ∈ S ∨ i = e) (hl : T.length = S.length + 1) : rkS n es T = T.length := by
  obtain ⟨ha, hb⟩ := ends_lt ho he
  have o1 := eS_ok ho hS
  have h1 := rk_snoc_no o1 ha hb c
  have h2 : rkS n es T = rk n (eS es S ++ [((es.getD e (0, 0)).1, (es.getD e (0, 0)).2)]) := rk_mem (eS_ok ho hT) (okP_snoc o1 ha hb) fun p => by
    rw [List.mem_append, List.mem_singleton]
    constructor
    · intro hp
      obtain ⟨i, hi, rfl⟩ := List.mem_map.mp hp
      rcases (hm i).mp hi with h | h
      · exact .inl (List.mem_map.mpr ⟨i, h, rfl⟩)
      · exact .inr (by rw [h])
    · rintro (hp | hp)
      · exact eS_sub (fun i hi => (hm i).mpr (.inl hi)) p hp
      · exact List.mem_map.mpr ⟨e, (hm e).mpr (.inr rfl), by rw [hp]⟩
  rw [h2, h1]
  show rkS n es S + 1 = _
  omega
/-! ### ways -/
inductive Walk (es : Es) (u : Nat) : List Nat → Nat → Prop
  | nil : Walk es u [] u
  | snoc {P : List Nat} {v w e : Nat} : Walk es u P v → e < es.length → (es.getD e (0, 0) = (v, w) ∨ es.getD e (0, 0) = (w, v)) → Walk es u (P ++ [e]) w
theorem Walk.con {u v : Nat} {P : List Nat} (h : Walk es u P v) : Con (eS es P) u v := by
  induction h with
  | nil => exact .refl _
  | snoc _ _ he ih =>
    rename_i P v w e _ _
    refine .step (ih.mono (eS_sub fun i hi => List.mem_append_left _ hi)) ?_
    have hm : es.getD e (0, 0) ∈ eS es (P ++ [e]) := List.mem_map.mpr ⟨e, by simp, rfl⟩
    rcases he with he | he
    · exact .inl (he ▸ hm)
    · exact .inr (he ▸ hm)
theorem Walk.ok {u v : Nat} {P : List Nat} (h : Walk es u P v) : okS es P := by
  induction h with
  | nil => exact fun i hi => by cases hi
  | snoc _ hl _ ih =>
    intro i hi
    rcases List.mem_append.mp hi with q | q
    · exact ih i q
    · rw [List.mem_singleton.mp q]
      exact hl
/-- a way over an edge, that edge taken out -/
theorem Walk.split {u v x : Nat} {P : List Nat} (h : Walk es u P v) : P.Nodup → x ∈ P → ∃ a b, (es.getD x (0, 0) = (a, b) ∨ es.getD x (0, 0) = (b, a)) ∧ Con (eS es (wo P x)) u a ∧ Con (eS es (wo P x)) b v := by
  induction h with
  | nil => exact fun _ hx => by cases hx
  | snoc hw hl he ih =>
    rename_i P v w e
    intro nd hx
    rw [List.nodup_append] at nd
    obtain ⟨n1, _, n3⟩ := nd
    have hne : e ∉ P := fun z => n3 e z e (by simp) rfl
    by_cases hxe : x = e
    · subst hxe
      have ew : wo (P ++ [x]) x = P := by
        show (P ++ [x]).filter _ = P
        have e0 : P.filter (fun v => decide (v ≠ x)) = P := List.filter_eq_self.mpr fun i hi => decide_eq_true (fun z : i = x => hne (z ▸ hi) : i ≠ x)
        rw [List.filter_append, e0, List.filter_cons_of_neg (by simp), List.filter_nil, List.append_nil]
      rw [ew]
      exact ⟨v, w, he, hw.con, .refl _⟩
    · have hxP : x ∈ P := (List.mem_append.mp hx).elim id fun z => absurd (List.mem_singleton.mp z) hxe
      obtain ⟨a, b, h1, h2, h3⟩ := ih n1 hxP
      have sub : ∀ p ∈ eS es (wo P x), p ∈ eS es (wo (P ++ [e]) x) := eS_sub fun i hi => by
        obtain ⟨q1, q2⟩ := wo_mem.mp hi
        exact wo_mem.mpr ⟨List.mem_append_left _ q1, q2⟩
      refine ⟨a, b, h1, h2.mono sub, .step (h3.mono sub) ?_⟩
      have hm : es.getD e (0, 0) ∈ eS es (wo (P ++ [e]) x) := List.mem_map.mpr ⟨e, wo_mem.mpr ⟨by simp, fun z => hxe z.symm⟩, rfl⟩
      rcases he with he | he
      · exact .inl (he ▸ hm)
      · exact .inr (he ▸ hm)
/-- an edge of the only way taken out parts the ends -/
theorem way_cut (ho : okP n es) (hS : okS es S) (nd : S.Nodup) (hi : rkS n es S = S.length) {u v x : Nat} {P : List Nat} (hw : Walk es u P v) (hP : P.Nodup) (hPS : ∀ i ∈ P, i ∈ S) (hx : x ∈ P) : ¬ Con (eS es (wo S x)) u v := by
  intro c
  obtain ⟨a, b, h1, h2, h3⟩ := hw.split hP hx
  have sub : ∀ p ∈ eS es (wo P x), p ∈ eS es (wo S x) := eS_sub fun i hi => by
    obtain ⟨q1, q2⟩ := wo_mem.mp hi
    exact wo_mem.mpr ⟨hPS i q1, q2⟩
  have h := (ind_wo ho hS nd hi (hPS x hx)).2
  have k : Con (eS es (wo S x)) a b := ((h2.mono sub).symm.trans c).trans (h3.mono sub).symm
  rcases h1 with e | e
  · rw [e] at h; exact h k
  · rw [e] at h; exact h k.symm
/-- of a way that with e makes a cycle, some edge is not in an independent set with e -/
theorem way_out (ho : okP n es) (hT : okS es T) (nd : T.Nodup) (hi : rkS n es T = T.length) {e : Nat} (he : e ∈ T) {P : List Nat} (hw : Walk es (es.getD e (0, 0)).1 P (es.getD e (0, 0)).2) (hne : e ∉ P) : ∃ x ∈ P, x ∉ T := by
  refine Classical.byContradiction fun z => (ind_wo ho hT nd hi he).2 (hw.con.mono (eS_sub fun i hiP => wo_mem.mpr ⟨Classical.byContradiction fun q => z ⟨i, hiP, q⟩, fun q => hne (q ▸ hiP)⟩))
/-! ### spanning forests -/
structure Forest (n : Nat) (es : Es) (S : List Nat) : Prop where
  asc : S.Pairwise (· < ·)
  ok : okS es S
  len : S.length = rk n es
  rk : rkS n es S = rk n es
theorem Forest.nd (F : Forest n es S) : S.Nodup := F.asc.imp fun h => Nat.ne_of_lt h
theorem Forest.ind (F : Forest n es S) : rkS n es S = S.length := F.rk.trans F.len.symm
def sortN (l : List Nat) : List Nat := l.mergeSort fun a b => decide (a ≤ b)
theorem sortN_perm (l : List Nat) : (sortN l).Perm l := List.mergeSort_perm _ _
theorem sortN_sorted (l : List Nat) : (sortN l).Pairwise (· ≤ ·) := by
  have h := List.pairwise_mergeSort (le := fun a b : Nat => decide (a ≤ b)) (fun a b c h1 h2 => by
    have := of_decide_eq_true h1
    have := of_decide_eq_true h2
    exact decide_eq_true (by omega)) (fun a b => by
    by_cases h : a ≤ b
    · simp [h]
    · have : b ≤ a := by omega
      simp [this]) l
  exact h.imp fun q => of_decide_eq_true q
theorem sortN_lt {l : List Nat} (nd : l.Nodup) : (sortN l).Pairwise (· < ·) := by
  have h1 := sortN_sorted l
  have h2 := ((sortN_perm l).nodup_iff).mpr nd
  exact (h1.and h2).imp fun ⟨a, b⟩ => Nat.lt_of_le_of_ne a b
theorem sortN_asc {l : List Nat} (h : l.Pairwise (· < ·)) : sortN l = l :=
  List.Perm.eq_of_pairwise (fun x y _ _ h1 h2 => Nat.le_antisymm h1 h2) (sortN_sorted l) (h.imp fun q => Nat.le_of_lt q) (sortN_perm l)
theorem asc_ext {a b : List Nat} (ha : a.Pairwise (· < ·)) (hb : b.Pairwise (· < ·)) (h : ∀ x, x ∈ a ↔ x ∈ b) : a = b := by
  have na : a.Nodup := ha.imp fun h => Nat.ne_of_lt h
  have nb : b.Nodup := hb.imp fun h => Nat.ne_of_lt h
  exact List.Perm.eq_of_pairwise (fun x y _ _ h1 h2 => Nat.le_antisymm h1 h2) (ha.imp fun q => Nat.le_of_lt q) (hb.imp fun q => Nat.le_of_lt q) ((List.perm_ext_iff_of_nodup na nb).mpr h)
/-- the forest with out for new -/
def exch (S : List Nat) (out new : Nat) : List Nat := sortN (wo S out ++ [new])
theorem exch_mem {out new i : Nat} : i ∈ exch S out new ↔ (i ∈ S ∧ i ≠ out) ∨ i = new := by
  unfold exch
  rw [(sortN_perm _).mem_iff, List.mem_append, wo_mem, List.mem_singleton]
theorem exch_asc {out new : Nat} (h : S.Nodup) (hn : new ∉ S) : (exch S out new).Pairwise (· < ·) := by
  refine sortN_lt ?_
  rw [List.nodup_append]
  refine ⟨h.filter _, by simp, fun a ha b hb z => ?_⟩
  rw [List.mem_singleton.mp hb] at z
  exact hn (z ▸ (wo_mem.mp ha).1)
theorem exch_len {out new : Nat} (h : S.Nodup) (ho : out ∈ S) : (exch S out new).length = S.length := by
  unfold exch
  rw [(sortN_perm _).length_eq, List.length_append, List.length_singleton]
  exact wo_len h ho
theorem Forest.exch (ho : okP n es) (F : Forest n es S) {e x : Nat} (he : e < es.length) (heS : e ∉ S) {P : List Nat} (hw : Walk es (es.getD e (0, 0)).1 P (es.getD e (0, 0)).2) (hP : P.Nodup) (hPS : ∀ i ∈ P, i ∈ S) (hx : x ∈ P) : Forest n es (exch S x e) := by
  have hxS := hPS x hx
  have cut := way_cut ho F.ok F.nd F.ind hw hP hPS hx
  have hl := exch_len (new := e) F.nd hxS
  have ok' : okS es (CM.exch S x e) := fun i hi => by
    rcases exch_mem.mp hi with ⟨h, _⟩ | h
    · exact F.ok i h
    · rw [h]; exact he
  have iw := ind_wo ho F.ok F.nd F.ind hxS
  have hwl := wo_len F.nd hxS
  have r := ind_add ho (okS_wo F.ok x) iw.1 he cut ok' (fun i => by rw [exch_mem, wo_mem]) (by rw [hl]; omega)
  exact ⟨exch_asc F.nd heS, ok', by rw [hl]; exact F.len, by rw [r, hl]; exact F.len⟩
/-- all spanning forests are met by exchanges -/
theorem forests_all (ho : okP n es) (K : List Nat → Prop) (hK : ∀ S, K S → Forest n es S)
    (hP : ∀ S e, K S → e < es.length → e ∉ S → ∃ P, Walk es (es.getD e (0, 0)).1 P (es.getD e (0, 0)).2 ∧ P.Nodup ∧ (∀ i ∈ P, i ∈ S) ∧ ∀ x ∈ P, K (exch S x e)) {S0 : List Nat} (h0 : K S0) (T : List Nat) (F : Forest n es T) : K T := by
  have key : ∀ (d : Nat) (S : List Nat), K S → (T.filter fun i => decide (i ∉ S)).length ≤ d → K T := fun d => by
    induction d with
    | zero =>
      intro S hS hd
      have e0 := List.length_eq_zero_iff.mp (Nat.le_zero.mp hd)
      rw [List.filter_eq_nil_iff] at e0
      have sub : ∀ i ∈ T, i ∈ S := fun i hi => Classical.byContradiction fun z => e0 i hi (decide_eq_true z)
      have FS := hK S hS
      have : T = S := by
        refine asc_ext F.asc FS.asc fun x => ⟨sub x, fun hx => ?_⟩
        exact sub_all F.nd sub (by rw [F.len, FS.len]; exact Nat.le_refl _) x hx
      rw [this]; exact hS
    | succ d ih =>
      intro S hS hd
      by_cases hz : (T.filter fun i => decide (i ∉ S)).length ≤ d
      · exact ih S hS hz
      · obtain ⟨e, he⟩ : ∃ e, e ∈ T.filter fun i => decide (i ∉ S) := by
          cases hq : T.filter fun i => decide (i ∉ S) with
          | nil => rw [hq] at hz; simp at hz
          | cons a l => exact ⟨a, by simp⟩
        obtain ⟨heT, heS⟩ := List.mem_filter.mp he
        have heS := of_decide_eq_true heS
        obtain ⟨P, w1, w2, w3, w4⟩ := hP S e hS (F.ok e heT) heS
        obtain ⟨x, hx, hxT⟩ := way_out ho F.ok F.nd F.ind heT w1 (fun z => heS (w3 e z))
        refine ih _ (w4 x hx) ?_
        have e1 : (T.filter fun i => decide (i ∉ exch S x e)) = (T.filter fun i => decide (i ∉ S)).filter fun i => decide (i ≠ e) := by
          rw [List.filter_filter]
          refine List.filter_congr fun i hi => ?_
          have hix : i ≠ x := fun z => hxT (z ▸ hi)
          have := exch_mem (S := S) (out := x) (new := e) (i := i)
          by_cases q1 : i = e
          · have : i ∈ exch S x e := this.mpr (.inr q1)
            rw [decide_eq_false (fun z : ¬ i ∈ exch S x e => z this), decide_eq_false (fun z : i ≠ e => z q1), Bool.false_and]
          · by_cases q2 : i ∈ S
            · have : i ∈ exch S x e := this.mpr (.inl ⟨q2, hix⟩)
              rw [decide_eq_false (fun z : ¬ i ∈ exch S x e => z this), decide_eq_false (fun z : ¬ i ∈ S => z q2), Bool.and_false]
            · have : i ∉ exch S x e := fun z => (this.mp z).elim (fun h => q2 h.1) q1
              rw [decide_eq_true this, decide_eq_true q1, decide_eq_true q2]
              rfl
        rw [e1]
        have := nodup_filter_erase (F.nd.filter _) he
        omega
  exact key _ S0 h0 (Nat.le_refl _)
end
end CM
/-! G3: names, groups and ranks by the program and by the law -/
namespace CM
open PySem PySem.Spec PyProof.Rows L2 VL
theorem run_sh {N m : Nat} {t : SS} {ds : List D} {ρ' : VL.Env} {d : D} (hl : ds.length = m) (h : t (initE N false ds) = .ret (.sh d) ρ') : runDef N m false t ds = .ret (.sh d) .non := by
  unfold runDef
  rw [if_pos hl, h]
  rfl
theorem run_fr {N m : Nat} {t : SS} {ds : List D} {ρ' : VL.Env} {d : D} (hl : ds.length = m) (h : t (initE N false ds) = .ret (.fr d) ρ') : runDef N m false t ds = .ret (.fr d) .non := by
  unfold runDef
  rw [if_pos hl, h]
  rfl
theorem run_own {N m i : Nat} {t : SS} {ds : List D} {ρ' : VL.Env} {d : D} (hl : ds.length = m) (h : t (initE N false ds) = .ret (.al i) ρ') (hi : ρ'[i]? = some (.own d)) : runDef N m false t ds = .ret (.fr d) .non := by
  unfold runDef
  rw [if_pos hl, h]
  show (match some D.non, (match ρ'[i]? with | some (.own d) => some (Pv.fr d) | some (.sh d) => some (.sh d) | _ => none) with | some c, some p => FR.ret p c | _, _ => .bad) = _
  rw [hi]
theorem run_exn {N m : Nat} {t : SS} {ds : List D} {ρ' : VL.Env} {c : Str} {w : D} (hl : ds.length = m) (h : t (initE N false ds) = .exn c w ρ') : runDef N m false t ds = .exn c w := by
  unfold runDef
  rw [if_pos hl, h]
  rfl
theorem seq_ret {f g : SS} {ρ ρ1 : VL.Env} {v : Vl} (h : f ρ = .ret v ρ1) : sSeq f g ρ = .ret v ρ1 := by
  unfold sSeq
  rw [h]
/-- naturals as ints -/
abbrev nI (l : List Nat) : List Int := l.map fun i : Nat => (i : Int)
theorem nI_mem {e : Nat} {l : List Nat} : (e : Int) ∈ nI l ↔ e ∈ l := by
  rw [List.mem_map]
  constructor
  · rintro ⟨a, h, q⟩
    have : a = e := by omega
    exact this ▸ h
  · exact fun h => ⟨e, h, rfl⟩
theorem nI_len (l : List Nat) : (nI l).length = l.length := List.length_map _
theorem nI_getD (l : List Nat) (i : Nat) (h : i < l.length) : (nI l).getD i 0 = ((l.getD i 0 : Nat) : Int) := by
  rw [List.getD_eq_getElem?_getD, List.getElem?_map, List.getElem?_eq_getElem h, List.getD_eq_getElem?_getD, List.getElem?_eq_getElem h]
  rfl
theorem nI_set (l : List Nat) (i v : Nat) : (nI l).set i (v : Int) = nI (l.set i v) := by
  show (List.map _ l).set i _ = List.map _ (l.set i v)
  rw [List.map_set]
theorem nI_inj {a b : List Nat} (h : nI a = nI b) : a = b := by
  have : ∀ a b : List Nat, nI a = nI b → a = b := fun a => by
    induction a with
    | nil => intro b h; cases b with | nil => rfl | cons _ _ => cases h
    | cons x a ih =>
      intro b h
      cases b with
      | nil => cases h
      | cons y b =>
        rw [show nI (x :: a) = (x : Int) :: nI a from rfl, show nI (y :: b) = (y : Int) :: nI b from rfl] at h
        injection h with h1 h2
        have : x = y := by omega
        rw [this, ih b h2]
  exact this a b h
theorem nI_sort (l : List Nat) : sortI (nI l) = nI (sortN l) :=
  sort_one ((sortI_perm _).trans ((sortN_perm l).map _).symm) (sortI_sorted _) (List.pairwise_map.mpr ((sortN_sorted l).imp fun h => by omega))
theorem nI_nodup {l : List Nat} (h : l.Nodup) : (nI l).Nodup := List.pairwise_map.mpr (h.imp fun hne z => hne (by omega))
theorem rg_n (n : Nat) : rangeD 0 ((n : Int) - 0).toNat = iD (nI (List.range n)) := by
  have e : ((n : Int) - 0).toNat = n := by omega
  rw [e, range_eq]
  show _ = List.map D.int (List.map _ _)
  rw [List.map_map]
  rfl
theorem rgOk_n {n : Nat} (h : n ≤ 1000) : rgOk 0 (n : Int) = true := by
  unfold rgOk
  simp only [decide_eq_true_eq, Bool.and_eq_true]
  omega
theorem r_merged (l : List Nat) (a b : Nat) (ha : a < l.length) (hb : b < l.length) (hl : l.length ≤ 1000) : S_merged.run [.lst (iD (nI l)), .int a, .int b] = .ret (.sh .non) (.lst (iD (nI (mrg l a b)))) := by
  have k1 := ix_l (get_iD (l := nI l) (a := a) (by rw [nI_len]; exact ha))
  have k2 := ix_l (get_iD (l := nI l) (a := b) (by rw [nI_len]; exact hb))
  rw [nI_getD l a ha] at k1
  rw [nI_getD l b hb] at k2
  unfold mrg
  generalize l.getD a 0 = x at k1 ⊢
  generalize l.getD b 0 = y at k2 ⊢
  have emin : (if (y : Int) < (x : Int) then (y : Int) else (x : Int)) = ((min x y : Nat) : Int) := by split <;> omega
  have emax : (if (y : Int) > (x : Int) then (y : Int) else (x : Int)) = ((max x y : Nat) : Int) := by split <;> omega
  have m1 : opMin [.int x, .int y] = some (.sh (.int (min x y : Nat))) := by
    show some (Pv.sh (.int (if (y : Int) < (x : Int) then (y : Int) else (x : Int)))) = _
    rw [emin]
  have m2 : opMax [.int x, .int y] = some (.sh (.int (max x y : Nat))) := by
    show some (Pv.sh (.int (if (y : Int) > (x : Int) then (y : Int) else (x : Int)))) = _
    rw [emax]
  unfold S_merged t_merged
  by_cases h : min x y < max x y
  · obtain ⟨p, hp⟩ : ∃ p, p = min x y := ⟨_, rfl⟩
    obtain ⟨q, hq⟩ : ∃ q, q = max x y := ⟨_, rfl⟩
    rw [← hp, ← hq] at h ⊢
    rw [← hp] at m1
    rw [← hq] at m2
    obtain ⟨ρ', h1, y5, h2⟩ := loopF_inv (h := hName 5) (body := b_merged_0) (fun i : Nat => D.int (i : Int)) (List.range l.length)
      (fun i ρ => ∃ y5, ρ = [.par (.lst (iD (nI ((l.take i).map (fun z => if z = q then p else z) ++ l.drop i)))), .sh (.int a), .sh (.int b), .sh (.int p), .sh (.int q), y5])
      (ρ := [.par (.lst (iD (nI l))), .sh (.int a), .sh (.int b), .sh (.int p), .sh (.int q), .no]) ⟨.no, by simp⟩ (fun i v ρ hx ⟨y5, e⟩ => by
        subst e
        obtain ⟨hlt, hx2⟩ := List.getElem?_eq_some_iff.mp hx
        rw [List.length_range] at hlt
        have ex : v = i := by simpa using hx2.symm
        subst ex
        refine ⟨_, rfl, ?_⟩
        generalize hL : (l.take v).map (fun z => if z = q then p else z) ++ l.drop v = L
        have hLl : L.length = l.length := by
          rw [← hL, List.length_append, List.length_map, List.length_take, List.length_drop]
          omega
        have hLv : L.getD v 0 = l.getD v 0 := by
          rw [← hL, List.getD_eq_getElem?_getD, List.getElem?_append_right (by rw [List.length_map, List.length_take]; omega), List.length_map, List.length_take, Nat.min_eq_left (by omega), Nat.sub_self, List.getElem?_drop, Nat.add_zero, List.getD_eq_getElem?_getD]
        have k3 := ix_l (get_iD (l := nI L) (a := v) (by rw [nI_len]; omega))
        rw [nI_getD L v (by omega), hLv] at k3
        have hnext : (l.take (v + 1)).map (fun z => if z = q then p else z) ++ l.drop (v + 1) = L.set v (if l.getD v 0 = q then p else l.getD v 0) := by
          have e1 : l.take (v + 1) = l.take v ++ [l.getD v 0] := by
            rw [List.take_add_one, List.getD_eq_getElem?_getD, List.getElem?_eq_getElem hlt]
            rfl
          have e2 : l.drop v = l.getD v 0 :: l.drop (v + 1) := by
            rw [List.drop_eq_getElem_cons hlt, List.getD_eq_getElem?_getD, List.getElem?_eq_getElem hlt]
            rfl
          rw [← hL, e1, e2, List.map_append, List.append_assoc]
          have len : ((l.take v).map fun z => if z = q then p else z).length = v := by
            rw [List.length_map, List.length_take]
            omega
          rw [List.set_append_right _ _ (by omega), len, Nat.sub_self, List.set_cons_zero]
          rfl
        rw [hnext]
        unfold b_merged_0
        by_cases hc : l.getD v 0 = q
        · rw [if_pos hc]
          have k4 := put_l (ds := iD (nI L)) (i := v) (.int (p : Nat)) (by rw [List.length_map, nI_len]; omega)
          rw [set_iD, nI_set] at k4
          exact ⟨[.par (.lst (iD (nI (L.set v p)))), .sh (.int a), .sh (.int b), .sh (.int p), .sh (.int q), .sh (.int v)], by simp only [runDef, initE, finR, parD, retV, sSeq, sBind_ok, sBind_exn, sBind_bad, sNext, sIf, sSet, stor, sRet, sRetN, sExpr, sUnp, sAug, sPut, sPutA, sRaise, sBreak, sCont, sFor, obind_ok, obind_exn, obind_bad, retP_some, retP_none, vName, vC, vOp1, vOp2, vTst, vTru, vNot, vAnd, vOr, vIfE, vAndV, vOrV, vChain, vArgs, looks, look, esc, escs, frz, vTup, vLst, vB, vMut, vSl, vNotT, vDic1, vDic1B, vDic0, Slot.mu?, Slot.put, Slot.d?, List.getElem?_cons_zero, List.getElem?_cons_succ, List.getElem?_nil, Option.bind_some, Option.bind_none, Option.map_some, Option.map_none, List.set_cons_zero, List.set_cons_succ, List.set_nil, List.length_cons, List.length_nil, hName, hTup, hCons, hNil, opAdd, opSub, opLt, opLe, opGt, opGe, opLen, opInt, opNeg, opIs, opIsNot, isP, VL.isNon, truD, iAdd, iSub, opEq_int, opNe_int, if_true, if_false, ite_true, ite_false, Bool.not_true, Bool.not_false, Bool.false_eq_true, List.map_cons, List.map_nil, List.replicate_zero, List.replicate_succ, List.append_nil, List.nil_append, List.cons_append, reduceCtorEq, if_pos, Bool.not_eq_true, decide_eq_true_eq, decide_true, decide_false, c_eq, c_lt, c_le, c_ge, Nat.zero_add, Nat.reduceAdd, Pv.vl, s0, s1, s2, s3, s4, k3, k4, hc], _, rfl⟩
        · rw [if_neg hc]
          have e3 : L.set v (l.getD v 0) = L := by
            rw [← hLv]
            refine List.ext_getElem (by rw [List.length_set]) fun j j1 j2 => ?_
            rw [List.getElem_set]
            split
            · rename_i ej
              subst ej
              rw [List.getD_eq_getElem?_getD, List.getElem?_eq_getElem j2]
              rfl
            · rfl
          rw [e3]
          exact ⟨[.par (.lst (iD (nI L))), .sh (.int a), .sh (.int b), .sh (.int p), .sh (.int q), .sh (.int v)], by simp only [runDef, initE, finR, parD, retV, sSeq, sBind_ok, sBind_exn, sBind_bad, sNext, sIf, sSet, stor, sRet, sRetN, sExpr, sUnp, sAug, sPut, sPutA, sRaise, sBreak, sCont, sFor, obind_ok, obind_exn, obind_bad, retP_some, retP_none, vName, vC, vOp1, vOp2, vTst, vTru, vNot, vAnd, vOr, vIfE, vAndV, vOrV, vChain, vArgs, looks, look, esc, escs, frz, vTup, vLst, vB, vMut, vSl, vNotT, vDic1, vDic1B, vDic0, Slot.mu?, Slot.put, Slot.d?, List.getElem?_cons_zero, List.getElem?_cons_succ, List.getElem?_nil, Option.bind_some, Option.bind_none, Option.map_some, Option.map_none, List.set_cons_zero, List.set_cons_succ, List.set_nil, List.length_cons, List.length_nil, hName, hTup, hCons, hNil, opAdd, opSub, opLt, opLe, opGt, opGe, opLen, opInt, opNeg, opIs, opIsNot, isP, VL.isNon, truD, iAdd, iSub, opEq_int, opNe_int, if_true, if_false, ite_true, ite_false, Bool.not_true, Bool.not_false, Bool.false_eq_true, List.map_cons, List.map_nil, List.replicate_zero, List.replicate_succ, List.append_nil, List.nil_append, List.cons_append, reduceCtorEq, if_pos, Bool.not_eq_true, decide_eq_true_eq, decide_true, decide_false, c_eq, c_lt, c_le, c_ge, Nat.zero_add, Nat.reduceAdd, Pv.vl, s0, s1, s2, s3, s4, k3, hc], _, rfl⟩)
    rw [List.length_range] at h2
    subst h2
    rw [List.take_length, List.drop_length, List.append_nil] at h1
    have hr : vItR1 [(vB opLen [(vName 0)])] [.par (.lst (iD (nI l))), .sh (.int a), .sh (.int b), .sh (.int p), .sh (.int q), .no] = .ok ((List.range l.length).map fun i : Nat => D.int (i : Int)) [.par (.lst (iD (nI l))), .sh (.int a), .sh (.int b), .sh (.int p), .sh (.int q), .no] := r1_ok (k := l.length) (by simp only [runDef, initE, finR, parD, retV, sSeq, sBind_ok, sBind_exn, sBind_bad, sNext, sIf, sSet, stor, sRet, sRetN, sExpr, sUnp, sAug, sPut, sPutA, sRaise, sBreak, sCont, sFor, obind_ok, obind_exn, obind_bad, retP_some, retP_none, vName, vC, vOp1, vOp2, vTst, vTru, vNot, vAnd, vOr, vIfE, vAndV, vOrV, vChain, vArgs, looks, look, esc, escs, frz, vTup, vLst, vB, vMut, vSl, vNotT, vDic1, vDic1B, vDic0, Slot.mu?, Slot.put, Slot.d?, List.getElem?_cons_zero, List.getElem?_cons_succ, List.getElem?_nil, Option.bind_some, Option.bind_none, Option.map_some, Option.map_none, List.set_cons_zero, List.set_cons_succ, List.set_nil, List.length_cons, List.length_nil, hName, hTup, hCons, hNil, opAdd, opSub, opLt, opLe, opGt, opGe, opLen, opInt, opNeg, opIs, opIsNot, isP, VL.isNon, truD, iAdd, iSub, opEq_int, opNe_int, if_true, if_false, ite_true, ite_false, Bool.not_true, Bool.not_false, Bool.false_eq_true, List.map_cons, List.map_nil, List.replicate_zero, List.replicate_succ, List.append_nil, List.nil_append, List.cons_append, reduceCtorEq, if_pos, Bool.not_eq_true, decide_eq_true_eq, decide_true, decide_false, c_eq, c_lt, c_le, c_ge, Nat.zero_add, Nat.reduceAdd, Pv.vl, s0, s1, s2, s3, s4, List.length_map]) (by omega)
    simp only [runDef, initE, finR, parD, retV, sSeq, sBind_ok, sBind_exn, sBind_bad, sNext, sIf, sSet, stor, sRet, sRetN, sExpr, sUnp, sAug, sPut, sPutA, sRaise, sBreak, sCont, sFor, obind_ok, obind_exn, obind_bad, retP_some, retP_none, vName, vC, vOp1, vOp2, vTst, vTru, vNot, vAnd, vOr, vIfE, vAndV, vOrV, vChain, vArgs, looks, look, esc, escs, frz, vTup, vLst, vB, vMut, vSl, vNotT, vDic1, vDic1B, vDic0, Slot.mu?, Slot.put, Slot.d?, List.getElem?_cons_zero, List.getElem?_cons_succ, List.getElem?_nil, Option.bind_some, Option.bind_none, Option.map_some, Option.map_none, List.set_cons_zero, List.set_cons_succ, List.set_nil, List.length_cons, List.length_nil, hName, hTup, hCons, hNil, opAdd, opSub, opLt, opLe, opGt, opGe, opLen, opInt, opNeg, opIs, opIsNot, isP, VL.isNon, truD, iAdd, iSub, opEq_int, opNe_int, if_true, if_false, ite_true, ite_false, Bool.not_true, Bool.not_false, Bool.false_eq_true, List.map_cons, List.map_nil, List.replicate_zero, List.replicate_succ, List.append_nil, List.nil_append, List.cons_append, reduceCtorEq, if_pos, Bool.not_eq_true, decide_eq_true_eq, decide_true, decide_false, c_eq, c_lt, c_le, c_ge, Nat.zero_add, Nat.reduceAdd, Pv.vl, s0, s1, s2, s3, s4, Nat.reduceSub, k1, k2, m1, m2, h, hr, h1]
  · have hxy : x = y := by omega
    have e : l.map (fun z => if z = max x y then min x y else z) = l := by
      refine (List.map_congr_left fun z _ => ?_).trans (List.map_id _)
      show (if z = max x y then min x y else z) = z
      split <;> omega
    rw [e]
    simp only [runDef, initE, finR, parD, retV, sSeq, sBind_ok, sBind_exn, sBind_bad, sNext, sIf, sSet, stor, sRet, sRetN, sExpr, sUnp, sAug, sPut, sPutA, sRaise, sBreak, sCont, sFor, obind_ok, obind_exn, obind_bad, retP_some, retP_none, vName, vC, vOp1, vOp2, vTst, vTru, vNot, vAnd, vOr, vIfE, vAndV, vOrV, vChain, vArgs, looks, look, esc, escs, frz, vTup, vLst, vB, vMut, vSl, vNotT, vDic1, vDic1B, vDic0, Slot.mu?, Slot.put, Slot.d?, List.getElem?_cons_zero, List.getElem?_cons_succ, List.getElem?_nil, Option.bind_some, Option.bind_none, Option.map_some, Option.map_none, List.set_cons_zero, List.set_cons_succ, List.set_nil, List.length_cons, List.length_nil, hName, hTup, hCons, hNil, opAdd, opSub, opLt, opLe, opGt, opGe, opLen, opInt, opNeg, opIs, opIsNot, isP, VL.isNon, truD, iAdd, iSub, opEq_int, opNe_int, if_true, if_false, ite_true, ite_false, Bool.not_true, Bool.not_false, Bool.false_eq_true, List.map_cons, List.map_nil, List.replicate_zero, List.replicate_succ, List.append_nil, List.nil_append, List.cons_append, reduceCtorEq, if_pos, Bool.not_eq_true, decide_eq_true_eq, decide_true, decide_false, c_eq, c_lt, c_le, c_ge, Nat.zero_add, Nat.reduceAdd, Pv.vl, s0, s1, s2, s3, s4, Nat.reduceSub, k1, k2, m1, m2, h]
section
variable {n : Nat} {es : Es}
theorem foldl_nm (E : Es) (l : List Nat) : (E.foldl (fun l p => mrg l p.1 p.2) l).length = l.length := by
  induction E generalizing l with
  | nil => rfl
  | cons p E ih => rw [List.foldl_cons, ih, mrg_len]
theorem r_groups (E : Es) (hn : n ≤ 1000) (ho : okP n E) : S_groups.run [.int n, .lst (E.map pairD)] = .ret (.fr (.lst (iD (nI (nmE n E))))) .non := by
  obtain ⟨ρ', h1, _, y3, y4, h2⟩ := loopF_st (h := hTup 2 (hCons (hName 3) (hCons (hName 4) hNil))) (body := b_groups_0 S_merged) pairD
    (fun (l : List Nat) ρ => l.length = n ∧ ∃ y3 y4, ρ = [.sh (.int n), .sh (.lst (E.map pairD)), .own (.lst (iD (nI l))), y3, y4]) (fun l p => mrg l p.1 p.2) E (List.range n)
    [.sh (.int n), .sh (.lst (E.map pairD)), .own (.lst (iD (nI (List.range n)))), .no, .no] ⟨List.length_range, _, _, rfl⟩ (fun p hp l ρ ⟨hl, y3, y4, e⟩ => by
      subst e
      obtain ⟨a, b⟩ := p
      obtain ⟨ha, hb⟩ := ho _ hp
      have r := r_merged l a b (by rw [hl]; exact ha) (by rw [hl]; exact hb) (by omega)
      refine ⟨_, rfl, [.sh (.int n), .sh (.lst (E.map pairD)), .own (.lst (iD (nI (mrg l a b)))), .sh (.int a), .sh (.int b)], ?_, by rw [mrg_len]; exact hl, _, _, rfl⟩
      unfold b_groups_0
      simp only [runDef, initE, finR, parD, retV, sSeq, sBind_ok, sBind_exn, sBind_bad, sNext, sIf, sSet, stor, sRet, sRetN, sExpr, sUnp, sAug, sPut, sPutA, sRaise, sBreak, sCont, sFor, obind_ok, obind_exn, obind_bad, retP_some, retP_none, vName, vC, vOp1, vOp2, vTst, vTru, vNot, vAnd, vOr, vIfE, vAndV, vOrV, vChain, vArgs, looks, look, esc, escs, frz, vTup, vLst, vB, vMut, vSl, vNotT, vDic1, vDic1B, vDic0, Slot.mu?, Slot.put, Slot.d?, List.getElem?_cons_zero, List.getElem?_cons_succ, List.getElem?_nil, Option.bind_some, Option.bind_none, Option.map_some, Option.map_none, List.set_cons_zero, List.set_cons_succ, List.set_nil, List.length_cons, List.length_nil, hName, hTup, hCons, hNil, opAdd, opSub, opLt, opLe, opGt, opGe, opLen, opInt, opNeg, opIs, opIsNot, isP, VL.isNon, truD, iAdd, iSub, opEq_int, opNe_int, if_true, if_false, ite_true, ite_false, Bool.not_true, Bool.not_false, Bool.false_eq_true, List.map_cons, List.map_nil, List.replicate_zero, List.replicate_succ, List.append_nil, List.nil_append, List.cons_append, reduceCtorEq, if_pos, Bool.not_eq_true, decide_eq_true_eq, decide_true, decide_false, c_eq, c_lt, c_le, c_ge, Nat.zero_add, Nat.reduceAdd, Pv.vl, s0, s1, s2, s3, s4, pairD, vCall, vCallV, own_merged, r, vCallR])
  subst h2
  have hi : vItA (vName 1) [.sh (.int n), .sh (.lst (E.map pairD)), .own (.lst (iD (nI (List.range n)))), .no, .no] = .ok (E.map pairD) [.sh (.int n), .sh (.lst (E.map pairD)), .own (.lst (iD (nI (List.range n)))), .no, .no] := itA_sh rfl
  unfold S_groups t_groups
  simp only [runDef, initE, finR, parD, retV, sSeq, sBind_ok, sBind_exn, sBind_bad, sNext, sIf, sSet, stor, sRet, sRetN, sExpr, sUnp, sAug, sPut, sPutA, sRaise, sBreak, sCont, sFor, obind_ok, obind_exn, obind_bad, retP_some, retP_none, vName, vC, vOp1, vOp2, vTst, vTru, vNot, vAnd, vOr, vIfE, vAndV, vOrV, vChain, vArgs, looks, look, esc, escs, frz, vTup, vLst, vB, vMut, vSl, vNotT, vDic1, vDic1B, vDic0, Slot.mu?, Slot.put, Slot.d?, List.getElem?_cons_zero, List.getElem?_cons_succ, List.getElem?_nil, Option.bind_some, Option.bind_none, Option.map_some, Option.map_none, List.set_cons_zero, List.set_cons_succ, List.set_nil, List.length_cons, List.length_nil, hName, hTup, hCons, hNil, opAdd, opSub, opLt, opLe, opGt, opGe, opLen, opInt, opNeg, opIs, opIsNot, isP, VL.isNon, truD, iAdd, iSub, opEq_int, opNe_int, if_true, if_false, ite_true, ite_false, Bool.not_true, Bool.not_false, Bool.false_eq_true, List.map_cons, List.map_nil, List.replicate_zero, List.replicate_succ, List.append_nil, List.nil_append, List.cons_append, reduceCtorEq, if_pos, Bool.not_eq_true, decide_eq_true_eq, decide_true, decide_false, c_eq, c_lt, c_le, c_ge, Nat.zero_add, Nat.reduceAdd, Pv.vl, s0, s1, s2, s3, s4, Nat.reduceSub, vRgL1, rgOk_n hn, rg_n, hi, h1]
  rfl
/-- a row of naturals, list or tuple -/
def Sq (u : D) (l : List Nat) : Prop := u = .lst (iD (nI l)) ∨ u = .tup (iD (nI l))
theorem Sq.it {u : D} {l : List Nat} (h : Sq u l) {i : Nat} {ρ : VL.Env} (hρ : ρ[i]? = some (.sh u)) : vItA (vName i) ρ = .ok (iD (nI l)) ρ := by
  rcases h with rfl | rfl
  · exact itA_sh hρ
  · exact itA_tup hρ
theorem iD_nI (l : List Nat) : iD (nI l) = l.map fun i : Nat => D.int (i : Int) := by
  show List.map D.int (List.map _ l) = _
  rw [List.map_map]
  rfl
theorem edge_ix {i : Nat} (h : i < es.length) : opIx (.tup (es.map pairD)) (.int (i : Nat)) = some (.sh (pairD (es.getD i (0, 0)))) := by
  refine ix_t ?_
  rw [List.getElem?_map, List.getElem?_eq_getElem h, List.getD_eq_getElem?_getD, List.getElem?_eq_getElem h]
  rfl
theorem edge_ixL {i : Nat} (h : i < es.length) : opIx (.lst (es.map pairD)) (.int (i : Nat)) = some (.sh (pairD (es.getD i (0, 0)))) := by
  refine ix_l ?_
  rw [List.getElem?_map, List.getElem?_eq_getElem h, List.getD_eq_getElem?_getD, List.getElem?_eq_getElem h]
  rfl
theorem r_rank {u : D} {S : List Nat} (hu : Sq u S) (hn : n ≤ 1000) (ho : okP n es) (hS : okS es S) (hl : S.length ≤ 1000) : S_Graph_rank_of.run [gD n es, u] = .ret (.sh (.int (rkS n es S))) .non := by
  obtain ⟨ρ', h1, y2, h2⟩ := loopF_st (h := hName 2) (body := b_Graph_rank_of_0) (fun i : Nat => D.int (i : Int)) (fun (_ : Unit) ρ => ∃ y2, ρ = [.sh (gD n es), .sh u, y2, .no, .no]) (fun _ _ => ()) S () [.sh (gD n es), .sh u, .no, .no, .no] ⟨_, rfl⟩ (fun i hi _ ρ ⟨y2, e⟩ => by
    subst e
    have := hS i hi
    refine ⟨_, rfl, [.sh (gD n es), .sh u, .sh (.int i), .no, .no], ?_, _, rfl⟩
    unfold b_Graph_rank_of_0
    simp only [runDef, initE, finR, parD, retV, sSeq, sBind_ok, sBind_exn, sBind_bad, sNext, sIf, sSet, stor, sRet, sRetN, sExpr, sUnp, sAug, sPut, sPutA, sRaise, sBreak, sCont, sFor, obind_ok, obind_exn, obind_bad, retP_some, retP_none, vName, vC, vOp1, vOp2, vTst, vTru, vNot, vAnd, vOr, vIfE, vAndV, vOrV, vChain, vArgs, looks, look, esc, escs, frz, vTup, vLst, vB, vMut, vSl, vNotT, vDic1, vDic1B, vDic0, Slot.mu?, Slot.put, Slot.d?, List.getElem?_cons_zero, List.getElem?_cons_succ, List.getElem?_nil, Option.bind_some, Option.bind_none, Option.map_some, Option.map_none, List.set_cons_zero, List.set_cons_succ, List.set_nil, List.length_cons, List.length_nil, hName, hTup, hCons, hNil, opAdd, opSub, opLt, opLe, opGt, opGe, opLen, opInt, opNeg, opIs, opIsNot, isP, VL.isNon, truD, iAdd, iSub, opEq_int, opNe_int, if_true, if_false, ite_true, ite_false, Bool.not_true, Bool.not_false, Bool.false_eq_true, List.map_cons, List.map_nil, List.replicate_zero, List.replicate_succ, List.append_nil, List.nil_append, List.cons_append, reduceCtorEq, if_pos, Bool.not_eq_true, decide_eq_true_eq, decide_true, decide_false, c_eq, c_lt, c_le, c_ge, Nat.zero_add, Nat.reduceAdd, Pv.vl, s0, s1, s2, s3, s4, fld_e, List.length_map, this])
  subst h2
  have hi : vItA (vName 1) [.sh (gD n es), .sh u, .no, .no, .no] = .ok (S.map fun i : Nat => D.int (i : Int)) [.sh (gD n es), .sh u, .no, .no, .no] := by rw [← iD_nI]; exact hu.it rfl
  have hi2 : vItA (vName 1) [.sh (gD n es), .sh u, y2, .no, .no] = .ok (iD (nI S)) [.sh (gD n es), .sh u, y2, .no, .no] := hu.it rfl
  have c1 := vComp_map (h := hName 2) (g := vYes) (f := vOp2 opIx (vOp1 (opFld okC ("edges" : Str)) (vName 0)) (vName 2)) (vs := [2]) (fun i : Nat => D.int (i : Int)) (fun _ => true) (fun i => pairD (es.getD i (0, 0))) S hi2 (iD_nI S) (by rw [sizeLine_eq]; omega) (fun i hi => by
    have k := edge_ix (hS i hi)
    refine ⟨_, rfl, rfl, fun _ => ⟨.sh (pairD (es.getD i (0, 0))), ?_, rfl⟩, rfl⟩
    simp only [runDef, initE, finR, parD, retV, sSeq, sBind_ok, sBind_exn, sBind_bad, sNext, sIf, sSet, stor, sRet, sRetN, sExpr, sUnp, sAug, sPut, sPutA, sRaise, sBreak, sCont, sFor, obind_ok, obind_exn, obind_bad, retP_some, retP_none, vName, vC, vOp1, vOp2, vTst, vTru, vNot, vAnd, vOr, vIfE, vAndV, vOrV, vChain, vArgs, looks, look, esc, escs, frz, vTup, vLst, vB, vMut, vSl, vNotT, vDic1, vDic1B, vDic0, Slot.mu?, Slot.put, Slot.d?, List.getElem?_cons_zero, List.getElem?_cons_succ, List.getElem?_nil, Option.bind_some, Option.bind_none, Option.map_some, Option.map_none, List.set_cons_zero, List.set_cons_succ, List.set_nil, List.length_cons, List.length_nil, hName, hTup, hCons, hNil, opAdd, opSub, opLt, opLe, opGt, opGe, opLen, opInt, opNeg, opIs, opIsNot, isP, VL.isNon, truD, iAdd, iSub, opEq_int, opNe_int, if_true, if_false, ite_true, ite_false, Bool.not_true, Bool.not_false, Bool.false_eq_true, List.map_cons, List.map_nil, List.replicate_zero, List.replicate_succ, List.append_nil, List.nil_append, List.cons_append, reduceCtorEq, if_pos, Bool.not_eq_true, decide_eq_true_eq, decide_true, decide_false, c_eq, c_lt, c_le, c_ge, Nat.zero_add, Nat.reduceAdd, Pv.vl, s0, s1, s2, s3, s4, wipeE, fld_e, k])
  rw [filtT] at c1
  have e1 : (S.map fun i => pairD (es.getD i (0, 0))) = (eS es S).map pairD := by rw [List.map_map]; rfl
  have e2 : restE [2] [VL.Slot.sh (gD n es), .sh u, y2, .no, .no] (wipeE [VL.Slot.sh (gD n es), .sh u, y2, .no, .no] [2]) = [.sh (gD n es), .sh u, keepS y2, .no, .no] := by cases y2 <;> rfl
  rw [e1, e2] at c1
  have g := r_groups (eS es S) hn (eS_ok ho hS)
  have p := pure_ints (nI (nmE n (eS es S))) .non
  have hr : vItR1 [(vOp1 (opFld okC ("vertices" : Str)) (vName 0))] [.sh (gD n es), .sh u, keepS y2, .own (.lst (iD (nI (nmE n (eS es S))))), .no] = .ok ((List.range n).map fun i : Nat => D.int (i : Int)) [.sh (gD n es), .sh u, keepS y2, .own (.lst (iD (nI (nmE n (eS es S))))), .no] := r1_ok (k := n) (by simp only [runDef, initE, finR, parD, retV, sSeq, sBind_ok, sBind_exn, sBind_bad, sNext, sIf, sSet, stor, sRet, sRetN, sExpr, sUnp, sAug, sPut, sPutA, sRaise, sBreak, sCont, sFor, obind_ok, obind_exn, obind_bad, retP_some, retP_none, vName, vC, vOp1, vOp2, vTst, vTru, vNot, vAnd, vOr, vIfE, vAndV, vOrV, vChain, vArgs, looks, look, esc, escs, frz, vTup, vLst, vB, vMut, vSl, vNotT, vDic1, vDic1B, vDic0, Slot.mu?, Slot.put, Slot.d?, List.getElem?_cons_zero, List.getElem?_cons_succ, List.getElem?_nil, Option.bind_some, Option.bind_none, Option.map_some, Option.map_none, List.set_cons_zero, List.set_cons_succ, List.set_nil, List.length_cons, List.length_nil, hName, hTup, hCons, hNil, opAdd, opSub, opLt, opLe, opGt, opGe, opLen, opInt, opNeg, opIs, opIsNot, isP, VL.isNon, truD, iAdd, iSub, opEq_int, opNe_int, if_true, if_false, ite_true, ite_false, Bool.not_true, Bool.not_false, Bool.false_eq_true, List.map_cons, List.map_nil, List.replicate_zero, List.replicate_succ, List.append_nil, List.nil_append, List.cons_append, reduceCtorEq, if_pos, Bool.not_eq_true, decide_eq_true_eq, decide_true, decide_false, c_eq, c_lt, c_le, c_ge, Nat.zero_add, Nat.reduceAdd, Pv.vl, s0, s1, s2, s3, s4, fld_v]) (by omega)
  have c2 := vComp_map (h := hName 4) (g := vTst (vOp2 opEq (vOp2 opIx (vName 3) (vName 4)) (vName 4))) (f := vName 4) (vs := [4]) (fun i : Nat => D.int (i : Int)) (fun v => decide (nm n (eS es S) v = v)) (fun i : Nat => D.int (i : Int)) (List.range n) hr rfl (by rw [sizeLine_eq, List.length_range]; omega) (fun v hv => by
    have hv2 := List.mem_range.mp hv
    have k := ix_l (get_iD (l := nI (nmE n (eS es S))) (a := v) (by rw [nI_len, nm_len]; exact hv2))
    rw [nI_getD _ v (by rw [nm_len]; exact hv2)] at k
    refine ⟨_, rfl, ?_, fun _ => ⟨.sh (.int v), rfl, rfl⟩, rfl⟩
    simp only [runDef, initE, finR, parD, retV, sSeq, sBind_ok, sBind_exn, sBind_bad, sNext, sIf, sSet, stor, sRet, sRetN, sExpr, sUnp, sAug, sPut, sPutA, sRaise, sBreak, sCont, sFor, obind_ok, obind_exn, obind_bad, retP_some, retP_none, vName, vC, vOp1, vOp2, vTst, vTru, vNot, vAnd, vOr, vIfE, vAndV, vOrV, vChain, vArgs, looks, look, esc, escs, frz, vTup, vLst, vB, vMut, vSl, vNotT, vDic1, vDic1B, vDic0, Slot.mu?, Slot.put, Slot.d?, List.getElem?_cons_zero, List.getElem?_cons_succ, List.getElem?_nil, Option.bind_some, Option.bind_none, Option.map_some, Option.map_none, List.set_cons_zero, List.set_cons_succ, List.set_nil, List.length_cons, List.length_nil, hName, hTup, hCons, hNil, opAdd, opSub, opLt, opLe, opGt, opGe, opLen, opInt, opNeg, opIs, opIsNot, isP, VL.isNon, truD, iAdd, iSub, opEq_int, opNe_int, if_true, if_false, ite_true, ite_false, Bool.not_true, Bool.not_false, Bool.false_eq_true, List.map_cons, List.map_nil, List.replicate_zero, List.replicate_succ, List.append_nil, List.nil_append, List.cons_append, reduceCtorEq, if_pos, Bool.not_eq_true, decide_eq_true_eq, decide_true, decide_false, c_eq, c_lt, c_le, c_ge, Nat.zero_add, Nat.reduceAdd, Pv.vl, s0, s1, s2, s3, s4, wipeE, k])
  have hl2 := roots_le n (eS es S)
  have e4 : (n : Int) - (((roots n (eS es S)).length : Nat) : Int) = ((rkS n es S : Nat) : Int) := by
    show _ = ((n - (roots n (eS es S)).length : Nat) : Int)
    omega
  have e5 : ((List.range n).filter fun v => decide (nm n (eS es S) v = v)) = roots n (eS es S) := rfl
  rw [e5] at c2
  unfold S_Graph_rank_of t_Graph_rank_of
  simp only [runDef, initE, finR, parD, retV, sSeq, sBind_ok, sBind_exn, sBind_bad, sNext, sIf, sSet, stor, sRet, sRetN, sExpr, sUnp, sAug, sPut, sPutA, sRaise, sBreak, sCont, sFor, obind_ok, obind_exn, obind_bad, retP_some, retP_none, vName, vC, vOp1, vOp2, vTst, vTru, vNot, vAnd, vOr, vIfE, vAndV, vOrV, vChain, vArgs, looks, look, esc, escs, frz, vTup, vLst, vB, vMut, vSl, vNotT, vDic1, vDic1B, vDic0, Slot.mu?, Slot.put, Slot.d?, List.getElem?_cons_zero, List.getElem?_cons_succ, List.getElem?_nil, Option.bind_some, Option.bind_none, Option.map_some, Option.map_none, List.set_cons_zero, List.set_cons_succ, List.set_nil, List.length_cons, List.length_nil, hName, hTup, hCons, hNil, opAdd, opSub, opLt, opLe, opGt, opGe, opLen, opInt, opNeg, opIs, opIsNot, isP, VL.isNon, truD, iAdd, iSub, opEq_int, opNe_int, if_true, if_false, ite_true, ite_false, Bool.not_true, Bool.not_false, Bool.false_eq_true, List.map_cons, List.map_nil, List.replicate_zero, List.replicate_succ, List.append_nil, List.nil_append, List.cons_append, reduceCtorEq, if_pos, Bool.not_eq_true, decide_eq_true_eq, decide_true, decide_false, c_eq, c_lt, c_le, c_ge, Nat.zero_add, Nat.reduceAdd, Pv.vl, s0, s1, s2, s3, s4, Nat.reduceSub, hi, h1, fld_v, vCall, vCallV, own_groups, c1, g, p, vCallR, c2, List.length_map, e4]
/-! ### the law's own -/
theorem r_lnames (E : Es) (hn : n ≤ 1000) (ho : okP n E) : S__law_names.run [.int n, .lst (E.map pairD)] = .ret (.fr (.lst (iD (nI (nmE n E))))) .non := by
  obtain ⟨ρ', h1, _, y3, y4, y5, y6, h2⟩ := loopF_st (h := hTup 2 (hCons (hName 3) (hCons (hName 4) hNil))) (body := b__law_names_0) pairD
    (fun (l : List Nat) ρ => l.length = n ∧ ∃ y3 y4 y5 y6, ρ = [.sh (.int n), .sh (.lst (E.map pairD)), .own (.lst (iD (nI l))), y3, y4, y5, y6, .no]) (fun l p => mrg l p.1 p.2) E (List.range n)
    [.sh (.int n), .sh (.lst (E.map pairD)), .own (.lst (iD (nI (List.range n)))), .no, .no, .no, .no, .no] ⟨List.length_range, _, _, _, _, rfl⟩ (fun pr hp l ρ ⟨hl, y3, y4, y5, y6, e⟩ => by
      subst e
      obtain ⟨a, b⟩ := pr
      obtain ⟨ha, hb⟩ := ho _ hp
      have ha' : a < l.length := by rw [hl]; exact ha
      have hb' : b < l.length := by rw [hl]; exact hb
      have k1 := ix_l (get_iD (l := nI l) (a := a) (by rw [nI_len]; exact ha'))
      have k2 := ix_l (get_iD (l := nI l) (a := b) (by rw [nI_len]; exact hb'))
      rw [nI_getD l a ha'] at k1
      rw [nI_getD l b hb'] at k2
      have em : mrg l a b = l.map fun z => if z = max (l.getD a 0) (l.getD b 0) then min (l.getD a 0) (l.getD b 0) else z := rfl
      refine ⟨_, rfl, [.sh (.int n), .sh (.lst (E.map pairD)), .own (.lst (iD (nI (mrg l a b)))), .sh (.int a), .sh (.int b), .sh (.int (min (l.getD a 0) (l.getD b 0) : Nat)), .sh (.int (max (l.getD a 0) (l.getD b 0) : Nat)), .no], ?_, by rw [mrg_len]; exact hl, _, _, _, _, rfl⟩
      rw [em]
      generalize l.getD a 0 = x at k1 ⊢
      generalize l.getD b 0 = y at k2 ⊢
      have emin : (if (y : Int) < (x : Int) then (y : Int) else (x : Int)) = ((min x y : Nat) : Int) := by split <;> omega
      have emax : (if (y : Int) > (x : Int) then (y : Int) else (x : Int)) = ((max x y : Nat) : Int) := by split <;> omega
      have m1 : opMin [.int x, .int y] = some (.sh (.int (min x y : Nat))) := by
        show some (Pv.sh (.int (if (y : Int) < (x : Int) then (y : Int) else (x : Int)))) = _
        rw [emin]
      have m2 : opMax [.int x, .int y] = some (.sh (.int (max x y : Nat))) := by
        show some (Pv.sh (.int (if (y : Int) > (x : Int) then (y : Int) else (x : Int)))) = _
        rw [emax]
      generalize min x y = p at m1 ⊢
      generalize max x y = q at m2 ⊢
      have c : vComp (vItA (vName 2)) (hName 7) vYes (vIfE (vTst (vOp2 opEq (vName 7) (vName 6))) (vName 5) (vName 7)) [7] [.sh (.int n), .sh (.lst (E.map pairD)), .own (.lst (iD (nI l))), .sh (.int a), .sh (.int b), .sh (.int p), .sh (.int q), .no]
          = .ok (.fr (.lst ((l.filter fun _ => true).map fun z => D.int ((if z = q then p else z : Nat) : Int)))) [.sh (.int n), .sh (.lst (E.map pairD)), .sh (.lst (iD (nI l))), .sh (.int a), .sh (.int b), .sh (.int p), .sh (.int q), .no] :=
        vComp_map (fun i : Nat => D.int (i : Int)) (fun _ => true) (fun z => D.int ((if z = q then p else z : Nat) : Int)) l (itA_own rfl) (iD_nI l) (by rw [sizeLine_eq]; omega) (fun z hz => by
          refine ⟨_, rfl, rfl, fun _ => ⟨.sh (D.int ((if z = q then p else z : Nat) : Int)), ?_, rfl⟩, rfl⟩
          by_cases hzq : z = q
          · simp only [runDef, initE, finR, parD, retV, sSeq, sBind_ok, sBind_exn, sBind_bad, sNext, sIf, sSet, stor, sRet, sRetN, sExpr, sUnp, sAug, sPut, sPutA, sRaise, sBreak, sCont, sFor, obind_ok, obind_exn, obind_bad, retP_some, retP_none, vName, vC, vOp1, vOp2, vTst, vTru, vNot, vAnd, vOr, vIfE, vAndV, vOrV, vChain, vArgs, looks, look, esc, escs, frz, vTup, vLst, vB, vMut, vSl, vNotT, vDic1, vDic1B, vDic0, Slot.mu?, Slot.put, Slot.d?, List.getElem?_cons_zero, List.getElem?_cons_succ, List.getElem?_nil, Option.bind_some, Option.bind_none, Option.map_some, Option.map_none, List.set_cons_zero, List.set_cons_succ, List.set_nil, List.length_cons, List.length_nil, hName, hTup, hCons, hNil, opAdd, opSub, opLt, opLe, opGt, opGe, opLen, opInt, opNeg, opIs, opIsNot, isP, VL.isNon, truD, iAdd, iSub, opEq_int, opNe_int, if_true, if_false, ite_true, ite_false, Bool.not_true, Bool.not_false, Bool.false_eq_true, List.map_cons, List.map_nil, List.replicate_zero, List.replicate_succ, List.append_nil, List.nil_append, List.cons_append, reduceCtorEq, if_pos, Bool.not_eq_true, decide_eq_true_eq, decide_true, decide_false, c_eq, c_lt, c_le, c_ge, Nat.zero_add, Nat.reduceAdd, Pv.vl, s0, s1, s2, s3, s4, wipeE, hzq]
          · simp only [runDef, initE, finR, parD, retV, sSeq, sBind_ok, sBind_exn, sBind_bad, sNext, sIf, sSet, stor, sRet, sRetN, sExpr, sUnp, sAug, sPut, sPutA, sRaise, sBreak, sCont, sFor, obind_ok, obind_exn, obind_bad, retP_some, retP_none, vName, vC, vOp1, vOp2, vTst, vTru, vNot, vAnd, vOr, vIfE, vAndV, vOrV, vChain, vArgs, looks, look, esc, escs, frz, vTup, vLst, vB, vMut, vSl, vNotT, vDic1, vDic1B, vDic0, Slot.mu?, Slot.put, Slot.d?, List.getElem?_cons_zero, List.getElem?_cons_succ, List.getElem?_nil, Option.bind_some, Option.bind_none, Option.map_some, Option.map_none, List.set_cons_zero, List.set_cons_succ, List.set_nil, List.length_cons, List.length_nil, hName, hTup, hCons, hNil, opAdd, opSub, opLt, opLe, opGt, opGe, opLen, opInt, opNeg, opIs, opIsNot, isP, VL.isNon, truD, iAdd, iSub, opEq_int, opNe_int, if_true, if_false, ite_true, ite_false, Bool.not_true, Bool.not_false, Bool.false_eq_true, List.map_cons, List.map_nil, List.replicate_zero, List.replicate_succ, List.append_nil, List.nil_append, List.cons_append, reduceCtorEq, if_pos, Bool.not_eq_true, decide_eq_true_eq, decide_true, decide_false, c_eq, c_lt, c_le, c_ge, Nat.zero_add, Nat.reduceAdd, Pv.vl, s0, s1, s2, s3, s4, wipeE, hzq])
      rw [filtT] at c
      have e3 : (l.map fun z => D.int ((if z = q then p else z : Nat) : Int)) = iD (nI (l.map fun z => if z = q then p else z)) := by
        rw [iD_nI, List.map_map]
        rfl
      rw [e3] at c
      unfold b__law_names_0
      simp only [runDef, initE, finR, parD, retV, sSeq, sBind_ok, sBind_exn, sBind_bad, sNext, sIf, sSet, stor, sRet, sRetN, sExpr, sUnp, sAug, sPut, sPutA, sRaise, sBreak, sCont, sFor, obind_ok, obind_exn, obind_bad, retP_some, retP_none, vName, vC, vOp1, vOp2, vTst, vTru, vNot, vAnd, vOr, vIfE, vAndV, vOrV, vChain, vArgs, looks, look, esc, escs, frz, vTup, vLst, vB, vMut, vSl, vNotT, vDic1, vDic1B, vDic0, Slot.mu?, Slot.put, Slot.d?, List.getElem?_cons_zero, List.getElem?_cons_succ, List.getElem?_nil, Option.bind_some, Option.bind_none, Option.map_some, Option.map_none, List.set_cons_zero, List.set_cons_succ, List.set_nil, List.length_cons, List.length_nil, hName, hTup, hCons, hNil, opAdd, opSub, opLt, opLe, opGt, opGe, opLen, opInt, opNeg, opIs, opIsNot, isP, VL.isNon, truD, iAdd, iSub, opEq_int, opNe_int, if_true, if_false, ite_true, ite_false, Bool.not_true, Bool.not_false, Bool.false_eq_true, List.map_cons, List.map_nil, List.replicate_zero, List.replicate_succ, List.append_nil, List.nil_append, List.cons_append, reduceCtorEq, if_pos, Bool.not_eq_true, decide_eq_true_eq, decide_true, decide_false, c_eq, c_lt, c_le, c_ge, Nat.zero_add, Nat.reduceAdd, Pv.vl, s0, s1, s2, s3, s4, pairD, k1, k2, m1, m2, c])
  subst h2
  have hi : vItA (vName 1) [.sh (.int n), .sh (.lst (E.map pairD)), .own (.lst (iD (nI (List.range n)))), .no, .no, .no, .no, .no] = .ok (E.map pairD) [.sh (.int n), .sh (.lst (E.map pairD)), .own (.lst (iD (nI (List.range n)))), .no, .no, .no, .no, .no] := itA_sh rfl
  unfold S__law_names t__law_names
  simp only [runDef, initE, finR, parD, retV, sSeq, sBind_ok, sBind_exn, sBind_bad, sNext, sIf, sSet, stor, sRet, sRetN, sExpr, sUnp, sAug, sPut, sPutA, sRaise, sBreak, sCont, sFor, obind_ok, obind_exn, obind_bad, retP_some, retP_none, vName, vC, vOp1, vOp2, vTst, vTru, vNot, vAnd, vOr, vIfE, vAndV, vOrV, vChain, vArgs, looks, look, esc, escs, frz, vTup, vLst, vB, vMut, vSl, vNotT, vDic1, vDic1B, vDic0, Slot.mu?, Slot.put, Slot.d?, List.getElem?_cons_zero, List.getElem?_cons_succ, List.getElem?_nil, Option.bind_some, Option.bind_none, Option.map_some, Option.map_none, List.set_cons_zero, List.set_cons_succ, List.set_nil, List.length_cons, List.length_nil, hName, hTup, hCons, hNil, opAdd, opSub, opLt, opLe, opGt, opGe, opLen, opInt, opNeg, opIs, opIsNot, isP, VL.isNon, truD, iAdd, iSub, opEq_int, opNe_int, if_true, if_false, ite_true, ite_false, Bool.not_true, Bool.not_false, Bool.false_eq_true, List.map_cons, List.map_nil, List.replicate_zero, List.replicate_succ, List.append_nil, List.nil_append, List.cons_append, reduceCtorEq, if_pos, Bool.not_eq_true, decide_eq_true_eq, decide_true, decide_false, c_eq, c_lt, c_le, c_ge, Nat.zero_add, Nat.reduceAdd, Pv.vl, s0, s1, s2, s3, s4, Nat.reduceSub, vRgL1, rgOk_n hn, rg_n, hi, h1]
  rfl
theorem names_roots (ho : okP n es) : (dedupI (nI (nmE n es))).length = (roots n es).length := by
  have N := nmOk ho
  have h := dedup_len (ns := nI (nmE n es)) (m := nI (roots n es)) (nI_nodup (List.nodup_range.filter _)) fun x => by
    have mem : ∀ z : Nat, z ∈ nmE n es ↔ z ∈ roots n es := fun z => by
      constructor
      · intro hz
        obtain ⟨v, hv⟩ := List.mem_iff_getElem?.mp hz
        have hlt := (List.getElem?_eq_some_iff.mp hv).1
        rw [nm_len] at hlt
        have e : nm n es v = z := by
          show (nmE n es).getD v 0 = z
          rw [List.getD_eq_getElem?_getD, hv]
          rfl
        rw [← e]
        exact List.mem_filter.mpr ⟨List.mem_range.mpr (N.lt hlt), decide_eq_true (N.idem v hlt)⟩
      · intro hz
        obtain ⟨h1, h2⟩ := List.mem_filter.mp hz
        have hlt := List.mem_range.mp h1
        have e := of_decide_eq_true h2
        have hl : z < (nmE n es).length := by rw [nm_len]; exact hlt
        have : (nmE n es)[z] = nm n es z := by
          show _ = (nmE n es).getD z 0
          rw [List.getD_eq_getElem?_getD, List.getElem?_eq_getElem hl]
          rfl
        rw [e] at this
        exact List.mem_of_getElem this
    constructor
    · intro hx
      obtain ⟨z, hz, rfl⟩ := List.mem_map.mp hx
      exact List.mem_map.mpr ⟨z, (mem z).mpr hz, rfl⟩
    · intro hx
      obtain ⟨z, hz, rfl⟩ := List.mem_map.mp hx
      exact List.mem_map.mpr ⟨z, (mem z).mp hz, rfl⟩
  rw [← h, nI_len]
theorem r_lrank (E : Es) (hn : n ≤ 1000) (ho : okP n E) : S__law_rank.run [.int n, .lst (E.map pairD)] = .ret (.sh (.int (rk n E))) .non := by
  have g := r_lnames E hn ho
  have p := pure_ints (nI (nmE n E)) .non
  have hl2 := roots_le n E
  have e4 : (n : Int) - (((roots n E).length : Nat) : Int) = ((rk n E : Nat) : Int) := by
    show _ = ((n - (roots n E).length : Nat) : Int)
    omega
  have hs : vLenSet (vCall S__law_names [(vName 0), (vName 1)]) [.sh (.int n), .sh (.lst (E.map pairD))] = .ok (.sh (.int ((roots n E).length : Nat))) [.sh (.int n), .sh (.lst (E.map pairD))] := by
    refine lenSet_of ?_
    unfold vLenSetI
    simp only [runDef, initE, finR, parD, retV, sSeq, sBind_ok, sBind_exn, sBind_bad, sNext, sIf, sSet, stor, sRet, sRetN, sExpr, sUnp, sAug, sPut, sPutA, sRaise, sBreak, sCont, sFor, obind_ok, obind_exn, obind_bad, retP_some, retP_none, vName, vC, vOp1, vOp2, vTst, vTru, vNot, vAnd, vOr, vIfE, vAndV, vOrV, vChain, vArgs, looks, look, esc, escs, frz, vTup, vLst, vB, vMut, vSl, vNotT, vDic1, vDic1B, vDic0, Slot.mu?, Slot.put, Slot.d?, List.getElem?_cons_zero, List.getElem?_cons_succ, List.getElem?_nil, Option.bind_some, Option.bind_none, Option.map_some, Option.map_none, List.set_cons_zero, List.set_cons_succ, List.set_nil, List.length_cons, List.length_nil, hName, hTup, hCons, hNil, opAdd, opSub, opLt, opLe, opGt, opGe, opLen, opInt, opNeg, opIs, opIsNot, isP, VL.isNon, truD, iAdd, iSub, opEq_int, opNe_int, if_true, if_false, ite_true, ite_false, Bool.not_true, Bool.not_false, Bool.false_eq_true, List.map_cons, List.map_nil, List.replicate_zero, List.replicate_succ, List.append_nil, List.nil_append, List.cons_append, reduceCtorEq, if_pos, Bool.not_eq_true, decide_eq_true_eq, decide_true, decide_false, c_eq, c_lt, c_le, c_ge, Nat.zero_add, Nat.reduceAdd, Pv.vl, s0, s1, s2, s3, s4, vCall, vCallV, own_lnames, g, p, vCallR, setL, asInts_map]
    rw [if_pos (by rw [nI_len, nm_len]; omega), names_roots ho]
  unfold S__law_rank t__law_rank
  simp only [runDef, initE, finR, parD, retV, sSeq, sBind_ok, sBind_exn, sBind_bad, sNext, sIf, sSet, stor, sRet, sRetN, sExpr, sUnp, sAug, sPut, sPutA, sRaise, sBreak, sCont, sFor, obind_ok, obind_exn, obind_bad, retP_some, retP_none, vName, vC, vOp1, vOp2, vTst, vTru, vNot, vAnd, vOr, vIfE, vAndV, vOrV, vChain, vArgs, looks, look, esc, escs, frz, vTup, vLst, vB, vMut, vSl, vNotT, vDic1, vDic1B, vDic0, Slot.mu?, Slot.put, Slot.d?, List.getElem?_cons_zero, List.getElem?_cons_succ, List.getElem?_nil, Option.bind_some, Option.bind_none, Option.map_some, Option.map_none, List.set_cons_zero, List.set_cons_succ, List.set_nil, List.length_cons, List.length_nil, hName, hTup, hCons, hNil, opAdd, opSub, opLt, opLe, opGt, opGe, opLen, opInt, opNeg, opIs, opIsNot, isP, VL.isNon, truD, iAdd, iSub, opEq_int, opNe_int, if_true, if_false, ite_true, ite_false, Bool.not_true, Bool.not_false, Bool.false_eq_true, List.map_cons, List.map_nil, List.replicate_zero, List.replicate_succ, List.append_nil, List.nil_append, List.cons_append, reduceCtorEq, if_pos, Bool.not_eq_true, decide_eq_true_eq, decide_true, decide_false, c_eq, c_lt, c_le, c_ge, Nat.zero_add, Nat.reduceAdd, Pv.vl, s0, s1, s2, s3, s4, Nat.reduceSub, hs, e4]
end
end CM
/-! K79T: the law's defs as functions on slots (printed by gen.py) -/
namespace CM.K79
open PySem PySem.Spec PyProof.Rows L2 VL
def excs : List Str := ["InvalidGraph", "InvalidOrder"]
/-- Graph.degree at (8, 2): ['self', 'vertex', 'first', 'second'] -/
def N_Graph_degree : List Str := ["self", "vertex", "first", "second"]
def t_Graph_degree : SS :=
  sSeq (sIf (vNot (vTst (vChain opLe opLt (vC (.int 0)) (vName 1) (vOp1 (opFld okC ("vertices" : Str)) (vName 0)))))
    (sRaise ("InvalidGraph" : Str) (vC (.str ("vertex" : Str))))
    (sNext)) <|
  sRet (vB opSum [(vComp (vItA (vOp1 (opFld okC ("edges" : Str)) (vName 0))) (hTup 2 (hCons (hName 2) (hCons (hName 3) hNil))) vYes (vOp2 opAdd (vB opInt [(vOp2 opEq (vName 2) (vName 1))]) (vB opInt [(vOp2 opEq (vName 3) (vName 1))])) [2, 3])])
def S_Graph_degree : FSpec := ⟨false, runDef 4 2 false t_Graph_degree⟩
/-- Graph.components at (8, 3): ['self', 'names', 'found', 'vertex', 'name'] -/
def N_Graph_components : List Str := ["self", "names", "found", "vertex", "name"]
def t_Graph_components (S_groups : FSpec) : SS :=
  sSeq (sSet 1 (vCall S_groups [(vOp1 (opFld okC ("vertices" : Str)) (vName 0)), (vOp1 (opFld okC ("edges" : Str)) (vName 0))])) <|
  sSeq (sSet 2 vDic0) <|
  sSeq (sGrp (vItR1 [(vOp1 (opFld okC ("vertices" : Str)) (vName 0))]) 1 2 3) <|
  sRet (vComp (vItA (vB opSortedB [(vName 2)])) (hName 4) vYes (vOp2 opIx (vName 2) (vName 4)) [4])
def S_Graph_components : FSpec := ⟨false, runDef 5 1 false (t_Graph_components S_groups)⟩
/-- Graph.is_connected at (8, 4): ['self'] -/
def N_Graph_is_connected : List Str := ["self"]
def t_Graph_is_connected (S_Graph_components : FSpec) : SS :=
  sRet (vOp2 opEq (vB opLen [(vMeth ("Graph" : Str) ("components" : Str) S_Graph_components (vName 0) [])]) (vC (.int 1)))
def S_Graph_is_connected : FSpec := ⟨false, runDef 1 1 false (t_Graph_is_connected S_Graph_components)⟩
/-- pruefer_word at (10,): ['graph', 'left', 'degrees', 'vertex', 'found', '_', 'leaf', 'edge', 'pair', 'other'] -/
def N_pruefer_word : List Str := ["graph", "left", "degrees", "vertex", "found", "_", "leaf", "edge", "pair", "other"]
def b_pruefer_word_0 : SS :=
  sSeq (sSet 6 (vM "list" mIndex (vName 2) [(vC (.int 1))])) <|
  sSeq (sSet 7 (vOp2 opIx (vCompO 1 (hName 8) (vTst (vOp2 opIn (vName 6) (vName 8))) (vName 8) [8]) (vC (.int 0)))) <|
  sSeq (sSet 9 (vOp2 opSub (vOp2 opAdd (vOp2 opIx (vName 7) (vC (.int 0))) (vOp2 opIx (vName 7) (vC (.int 1)))) (vName 6))) <|
  sSeq (sExpr (vMut "list" mAppend 4 [(vName 9)])) <|
  sSeq (sExpr (vMut "list" mRemoveB 1 [(vName 7)])) <|
  sSeq (sPut 2 (vName 6) (vC (.int 0))) <|
  sPutA 2 iSub (vName 9) (vC (.int 1))
def t_pruefer_word (S_Graph_is_connected S_Graph_degree : FSpec) : SS :=
  sSeq (sIf (vOr (vTst (vOp2 opLt (vOp1 (opFld okC ("vertices" : Str)) (vName 0)) (vC (.int 2)))) (vOr (vNot (vTru (vMeth ("Graph" : Str) ("is_connected" : Str) S_Graph_is_connected (vName 0) []))) (vTst (vOp2 opNe (vB opLen [(vOp1 (opFld okC ("edges" : Str)) (vName 0))]) (vOp2 opSub (vOp1 (opFld okC ("vertices" : Str)) (vName 0)) (vC (.int 1)))))))
    (sRaise ("InvalidGraph" : Str) (vC (.str ("tree" : Str))))
    (sNext)) <|
  sSeq (sSet 1 (vB opList [(vOp1 (opFld okC ("edges" : Str)) (vName 0))])) <|
  sSeq (sSet 2 (vComp (vItR1 [(vOp1 (opFld okC ("vertices" : Str)) (vName 0))]) (hName 3) vYes (vMeth ("Graph" : Str) ("degree" : Str) S_Graph_degree (vName 0) [(vName 3)]) [3])) <|
  sSeq (sSet 4 (vLst [])) <|
  sSeq (sFor (vItR1 [(vOp2 opSub (vOp1 (opFld okC ("vertices" : Str)) (vName 0)) (vC (.int 2)))]) (hName 5) b_pruefer_word_0) <|
  sRet (vName 4)
def S_pruefer_word : FSpec := ⟨false, runDef 10 1 false (t_pruefer_word S_Graph_is_connected S_Graph_degree)⟩
/-- tree_of_word at (11,): ['word', 'size', 'vertex', 'degrees', 'edges', 'leaf', 'last'] -/
def N_tree_of_word : List Str := ["word", "size", "vertex", "degrees", "edges", "leaf", "last"]
def b_tree_of_word_0 : SS :=
  sIf (vNot (vTst (vChain opLe opLt (vC (.int 0)) (vName 2) (vName 1))))
    (sRaise ("InvalidOrder" : Str) (vC (.str ("word" : Str))))
    (sNext)
def b_tree_of_word_1 : SS :=
  sSeq (sSet 5 (vM "list" mIndex (vName 3) [(vC (.int 1))])) <|
  sSeq (sExpr (vMut "list" mAppend 4 [(vTup [(vB opMin [(vName 5), (vName 2)]), (vB opMax [(vName 5), (vName 2)])])])) <|
  sSeq (sPut 3 (vName 5) (vC (.int 0))) <|
  sPutA 3 iSub (vName 2) (vC (.int 1))
def t_tree_of_word (S_Graph : FSpec) : SS :=
  sSeq (sSet 1 (vOp2 opAdd (vB opLen [(vName 0)]) (vC (.int 2)))) <|
  sSeq (sFor (vItA (vName 0)) (hName 2) b_tree_of_word_0) <|
  sSeq (sSet 3 (vComp (vItR1 [(vName 1)]) (hName 2) vYes (vOp2 opAdd (vC (.int 1)) (vM "list" mCount (vName 0) [(vName 2)])) [2])) <|
  sSeq (sSet 4 (vLst [])) <|
  sSeq (sFor (vItA (vName 0)) (hName 2) b_tree_of_word_1) <|
  sSeq (sSet 6 (vComp (vItR1 [(vName 1)]) (hName 2) (vTst (vOp2 opEq (vOp2 opIx (vName 3) (vName 2)) (vC (.int 1)))) (vName 2) [2])) <|
  sSeq (sExpr (vMut "list" mAppend 4 [(vTup [(vOp2 opIx (vName 6) (vC (.int 0))), (vOp2 opIx (vName 6) (vC (.int 1)))])])) <|
  sRet (vMake ("Graph" : Str) S_Graph [(vName 1), (vB opSortedB [(vName 4)])])
def S_tree_of_word : FSpec := ⟨false, runDef 7 1 false (t_tree_of_word S_Graph)⟩
/-- _law_order at (16,): ['deck', 'size', 'left', 'found', 'turn'] -/
def N__law_order : List Str := ["deck", "size", "left", "found", "turn"]
def b__law_order_0 (S__law_take : FSpec) : SS :=
  sExpr (vMut "list" mAppend 3 [(vMut "list" mPopAt 2 [(vCall S__law_take [(vName 0), (vB opLen [(vName 2)])])])])
def t__law_order (S__law_take : FSpec) : SS :=
  sSeq (sSet 2 (vRgL1 (vName 1))) <|
  sSeq (sSet 3 (vLst [])) <|
  sSeq (sFor (vItR1 [(vName 1)]) (hName 4) (b__law_order_0 S__law_take)) <|
  sRet (vName 3)
def S__law_order : FSpec := ⟨true, runDef 5 2 true (t__law_order S__law_take)⟩
/-- _law_word at (17,): ['vertices', 'edges', 'left', 'edge', 'found', 'turn', 'leaf', 'v', 'one'] -/
def N__law_word : List Str := ["vertices", "edges", "left", "edge", "found", "turn", "leaf", "v", "one"]
def b__law_word_0 : SS :=
  sSeq (sSet 6 (vB opMin [(vComp (vItR1 [(vName 0)]) (hName 7) (vTst (vOp2 opEq (vB opLen [(vCompO 2 (hName 3) (vTst (vOp2 opIn (vName 7) (vName 3))) (vC (.int 1)) [3])]) (vC (.int 1)))) (vName 7) [7])])) <|
  sSeq (sSet 3 (vOp2 opIx (vCompO 2 (hName 8) (vTst (vOp2 opIn (vName 6) (vName 8))) (vName 8) [8]) (vC (.int 0)))) <|
  sSeq (sExpr (vMut "list" mAppend 4 [(vIfE (vTst (vOp2 opEq (vOp2 opIx (vName 3) (vC (.int 1))) (vName 6))) (vOp2 opIx (vName 3) (vC (.int 0))) (vOp2 opIx (vName 3) (vC (.int 1))))])) <|
  sExpr (vMut "list" mRemoveB 2 [(vName 3)])
def t__law_word : SS :=
  sSeq (sSet 2 (vCompO 1 (hName 3) vYes (vB opTuple [(vName 3)]) [3])) <|
  sSeq (sSet 4 (vLst [])) <|
  sSeq (sFor (vItR1 [(vOp2 opSub (vName 0) (vC (.int 2)))]) (hName 5) b__law_word_0) <|
  sRet (vName 4)
def S__law_word : FSpec := ⟨false, runDef 9 2 false t__law_word⟩
/-- _law_tree at (18,): ['word', 'size', 'out', 'edges', 'at', 'leaf', 'v'] -/
def N__law_tree : List Str := ["word", "size", "out", "edges", "at", "leaf", "v"]
def b__law_tree_0 : SS :=
  sSeq (sSet 5 (vB opMin [(vComp (vItR1 [(vName 1)]) (hName 6) (vAnd (vTst (vOp2 opNotIn (vName 6) (vName 2))) (vTst (vOp2 opNotIn (vName 6) (vSl (vName 0) (vPart (vName 4)) vNoPart)))) (vName 6) [6])])) <|
  sSeq (sExpr (vMut "list" mAppend 3 [(vTup [(vB opMin [(vName 5), (vOp2 opIx (vName 0) (vName 4))]), (vB opMax [(vName 5), (vOp2 opIx (vName 0) (vName 4))])])])) <|
  sExpr (vMut "list" mAppend 2 [(vName 5)])
def t__law_tree : SS :=
  sSeq (sSet 1 (vOp2 opAdd (vB opLen [(vName 0)]) (vC (.int 2)))) <|
  sSeq (sSet 2 (vLst [])) <|
  sSeq (sSet 3 (vLst [])) <|
  sSeq (sFor (vItR1 [(vB opLen [(vName 0)])]) (hName 4) b__law_tree_0) <|
  sSeq (sExpr (vMut "list" mAppend 3 [(vB opTuple [(vComp (vItR1 [(vName 1)]) (hName 6) (vTst (vOp2 opNotIn (vName 6) (vName 2))) (vName 6) [6])])])) <|
  sRet (vB opSortedB [(vName 3)])
def S__law_tree : FSpec := ⟨false, runDef 7 1 false t__law_tree⟩
/-- _law_refusal at (19,): ['ask', 'one', 'error'] -/
def N__law_refusal : List Str := ["ask", "one", "error"]
def t__law_refusal (S_pruefer_word S_tree_of_word : FSpec) : SS :=
  sSeq (sTry excs
    (sIf (vTst (vOp2 opEq (vName 0) (vC (.int 0))))
      (sExpr (vCall S_pruefer_word [(vName 1)]))
      (sExpr (vCall S_tree_of_word [(vName 1)]))) [(("InvalidGraph" : Str), 2, fun w => .tup [.str ("graph" : Str), w]), (("InvalidOrder" : Str), 2, fun w => .tup [.str ("order" : Str), w])]) <|
  sRet (vC .non)
def S__law_refusal : FSpec := ⟨false, runDef 3 2 false (t__law_refusal S_pruefer_word S_tree_of_word)⟩
/-- _law_drawn at (20,): ['deck', 'vertices', 'order', 'edges', 'vertex', 'pair', 'at'] -/
def N__law_drawn : List Str := ["deck", "vertices", "order", "edges", "vertex", "pair", "at"]
def b__law_drawn_0 (S__law_take : FSpec) : SS :=
  sSeq (sSet 5 (vLst [(vOp2 opIx (vName 2) (vName 4)), (vOp2 opIx (vName 2) (vCall S__law_take [(vName 0), (vName 4)]))])) <|
  sSeq (sIf (vTst (vOp2 opEq (vCall S__law_take [(vName 0), (vC (.int 2))]) (vC (.int 0))))
    (sExpr (vMut "list" mReverse 5 []))
    (sNext)) <|
  sExpr (vMut "list" mAppend 3 [(vTup [(vOp2 opIx (vName 5) (vC (.int 0))), (vOp2 opIx (vName 5) (vC (.int 1)))])])
def t__law_drawn (S__law_take S__law_order : FSpec) : SS :=
  sSeq (sSet 1 (vOp2 opAdd (vC (.int 2)) (vCall S__law_take [(vName 0), (vC (.int 8))]))) <|
  sSeq (sSet 2 (vCall S__law_order [(vName 0), (vName 1)])) <|
  sSeq (sSet 3 (vLst [])) <|
  sSeq (sFor (vItR2 [(vC (.int 1)), (vName 1)]) (hName 4) (b__law_drawn_0 S__law_take)) <|
  sRet (vTup [(vName 1), (vComp (vItA (vCall S__law_order [(vName 0), (vB opLen [(vName 3)])])) (hName 6) vYes (vOp2 opIx (vName 3) (vName 6)) [6])])
def S__law_drawn : FSpec := ⟨true, runDef 7 1 true (t__law_drawn S__law_take S__law_order)⟩
/-- law at (21,): ['script', 'deck', 'size', 'word', 'turn', 'tree', 'v', 'vertices', 'edges', 'trees', 'one', 'two', 'wrong', 'told'] -/
def N_law : List Str := ["script", "deck", "size", "word", "turn", "tree", "v", "vertices", "edges", "trees", "one", "two", "wrong", "told"]
def b_law_0 (S_tree_of_word : FSpec) : SS :=
  sSet 9 (vOp2 opAdd (vName 9) (vComp (vItR1 [(vC (.int 4))]) (hName 11) vYes (vOp1 (opFld okC ("edges" : Str)) (vCall S_tree_of_word [(vLst [(vName 10), (vName 11)])])) [11]))
def t_law (S__law_deck S__law_take S_tree_of_word S__law_plain S__law_tree S_pruefer_word S_Graph_degree S__law_drawn S_Graph S__law_word S__law_refusal : FSpec) : SS :=
  sSeq (sSet 1 (vCall S__law_deck [(vName 0), (vC (.int 40)), (vC (.int 14))])) <|
  sSeq (sSet 2 (vCall S__law_take [(vName 1), (vC (.int 9))])) <|
  sSeq (sSet 3 (vComp (vItR1 [(vName 2)]) (hName 4) vYes (vCall S__law_take [(vName 1), (vOp2 opAdd (vName 2) (vC (.int 2)))]) [4])) <|
  sSeq (sSet 5 (vCall S_tree_of_word [(vB opList [(vName 3)])])) <|
  sSeq (sIf (vTst (vOp2 opNe (vCall S__law_plain [(vLst [(vOp1 (opFld okC ("vertices" : Str)) (vName 5)), (vOp1 (opFld okC ("edges" : Str)) (vName 5))])]) (vCall S__law_plain [(vLst [(vOp2 opAdd (vName 2) (vC (.int 2))), (vB opTuple [(vCall S__law_tree [(vName 3)])])])])))
    (sRet (vC (.bl false)))
    (sNext)) <|
  sSeq (sIf (vTst (vOp2 opNe (vCall S__law_plain [(vCall S_pruefer_word [(vName 5)])]) (vCall S__law_plain [(vName 3)])))
    (sRet (vC (.bl false)))
    (sNext)) <|
  sSeq (sIf (vTst (vOp2 opNe (vComp (vItR1 [(vOp2 opAdd (vName 2) (vC (.int 2)))]) (hName 6) vYes (vMeth ("Graph" : Str) ("degree" : Str) S_Graph_degree (vName 5) [(vName 6)]) [6]) (vComp (vItR1 [(vOp2 opAdd (vName 2) (vC (.int 2)))]) (hName 6) vYes (vOp2 opAdd (vC (.int 1)) (vM "list" mCount (vName 3) [(vName 6)])) [6])))
    (sRet (vC (.bl false)))
    (sNext)) <|
  sSeq (sUnp (hTup 2 (hCons (hName 7) (hCons (hName 8) hNil))) (vCall S__law_drawn [(vName 1)])) <|
  sSeq (sIf (vTst (vOp2 opNe (vCall S__law_plain [(vCall S_pruefer_word [(vMake ("Graph" : Str) S_Graph [(vName 7), (vB opList [(vName 8)])])])]) (vCall S__law_plain [(vCall S__law_word [(vName 7), (vName 8)])])))
    (sRet (vC (.bl false)))
    (sNext)) <|
  sSeq (sSet 9 (vLst [])) <|
  sSeq (sFor (vItR1 [(vC (.int 4))]) (hName 10) (b_law_0 S_tree_of_word)) <|
  sSeq (sIf (vTst (vOp2 opNe (vLenSet (vName 9)) (vC (.int 16))))
    (sRet (vC (.bl false)))
    (sNext)) <|
  sSeq (sSet 12 (vLst [(vMake ("Graph" : Str) S_Graph [(vC (.int 1)), (vLst [])]), (vMake ("Graph" : Str) S_Graph [(vC (.int 3)), (vLst [(vTup [(vC (.int 0)), (vC (.int 1))])])]), (vMake ("Graph" : Str) S_Graph [(vC (.int 2)), (vLst [(vTup [(vC (.int 0)), (vC (.int 1))]), (vTup [(vC (.int 0)), (vC (.int 1))])])])])) <|
  sSeq (sSet 12 (vOp2 opAdd (vName 12) (vLst [(vMake ("Graph" : Str) S_Graph [(vC (.int 3)), (vLst [(vTup [(vC (.int 0)), (vC (.int 1))]), (vTup [(vC (.int 0)), (vC (.int 1))])])]), (vMake ("Graph" : Str) S_Graph [(vC (.int 2)), (vLst [(vTup [(vC (.int 0)), (vC (.int 0))])])])]))) <|
  sSeq (sSet 13 (vLst [(vCall S__law_refusal [(vC (.int 0)), (vOp2 opIx (vName 12) (vCall S__law_take [(vName 1), (vC (.int 5))]))]), (vCall S__law_refusal [(vC (.int 1)), (vLst [(vC (.int 0)), (vC (.int 4))])]), (vCall S__law_refusal [(vC (.int 1)), (vLst [(vOp1 opNeg (vC (.int 1)))])])])) <|
  sRet (vOp2 opEq (vName 13) (vLst [(vTup [(vC (.str ("graph" : Str))), (vC (.str ("tree" : Str)))]), (vTup [(vC (.str ("order" : Str))), (vC (.str ("word" : Str)))]), (vTup [(vC (.str ("order" : Str))), (vC (.str ("word" : Str)))])]))
def S_law : FSpec := ⟨false, runDef 14 1 false (t_law S__law_deck S__law_take S_tree_of_word (S__law_plain 6) S__law_tree S_pruefer_word S_Graph_degree S__law_drawn S_Graph S__law_word S__law_refusal)⟩
end CM.K79
/-! K79G: words and trees, in plain Lean -/
namespace CM.K79
open PySem PySem.Spec PyProof.Rows L2 VL
/-- how often v is an end -/
def tch (p : Nat × Nat) (v : Nat) : Nat := (if p.1 = v then 1 else 0) + (if p.2 = v then 1 else 0)
def dg (E : Es) (v : Nat) : Nat := (E.map fun p => tch p v).sum
theorem dg_cons (p : Nat × Nat) (E : Es) (v : Nat) : dg (p :: E) v = tch p v + dg E v := by
  unfold dg
  rw [List.map_cons, List.sum_cons]
theorem dg_perm {E F : Es} (h : E.Perm F) (v : Nat) : dg E v = dg F v := (h.map _).sum_nat
theorem tch_pos {p : Nat × Nat} {v : Nat} (h : p.1 = v ∨ p.2 = v) : 0 < tch p v := by
  unfold tch
  rcases h with h | h
  · rw [if_pos h]; omega
  · rw [if_pos h]; omega
theorem tch_zero {p : Nat × Nat} {v : Nat} (h : tch p v = 0) : p.1 ≠ v ∧ p.2 ≠ v :=
  ⟨fun e => by have := tch_pos (p := p) (v := v) (.inl e); omega, fun e => by have := tch_pos (p := p) (v := v) (.inr e); omega⟩
theorem dg_zero {E : Es} {v : Nat} (h : dg E v = 0) : ∀ p ∈ E, p.1 ≠ v ∧ p.2 ≠ v := by
  induction E with
  | nil => intro p hp; cases hp
  | cons q E ih =>
    rw [dg_cons] at h
    intro p hp
    rcases List.mem_cons.mp hp with rfl | hp
    · exact tch_zero (by omega)
    · exact ih (by omega) p hp
/-- a list of edges, each with an end that no later one has -/
inductive Elim (n : Nat) : Es → Prop
  | nil : Elim n []
  | cons {e : Nat × Nat} {T : Es} (l : Nat) (hl : l < n) (ht : e.1 = l ∨ e.2 = l) (ne : e.1 ≠ e.2) (h1 : e.1 < n) (h2 : e.2 < n) (h0 : dg T l = 0) (h : Elim n T) : Elim n (e :: T)
/-- what is kept of such a list -/
structure Wood (n : Nat) (E : Es) : Prop where
  ok : okP n E
  nl : ∀ p ∈ E, p.1 ≠ p.2
  leaf : ∀ F : Es, (∀ p, F.count p ≤ E.count p) → F ≠ [] → ∃ v, v < n ∧ dg F v = 1
theorem dg_none {E : Es} {v : Nat} (h : ∀ p ∈ E, p.1 ≠ v ∧ p.2 ≠ v) : dg E v = 0 := by
  induction E with
  | nil => rfl
  | cons q E ih =>
    obtain ⟨a, b⟩ := h q List.mem_cons_self
    rw [dg_cons, ih fun p hp => h p (List.mem_cons_of_mem _ hp)]
    unfold tch
    rw [if_neg a, if_neg b]
theorem mem_le {F E : Es} (h : ∀ p, F.count p ≤ E.count p) {p : Nat × Nat} (hp : p ∈ F) : p ∈ E :=
  List.count_pos_iff.mp (Nat.lt_of_lt_of_le (List.count_pos_iff.mpr hp) (h p))
theorem tch_one {p : Nat × Nat} {v : Nat} (ne : p.1 ≠ p.2) (h : p.1 = v ∨ p.2 = v) : tch p v = 1 := by
  unfold tch
  rcases h with h | h
  · rw [if_pos h, if_neg (fun e => ne (h.trans e.symm))]
  · rw [if_pos h, if_neg (fun e => ne (e.trans h.symm))]
theorem Elim.wood {n : Nat} {E : Es} (h : Elim n E) : Wood n E := by
  induction h with
  | nil => exact ⟨fun p hp => (by cases hp), fun p hp => (by cases hp), fun F s ne => by
      cases F with
      | nil => exact absurd rfl ne
      | cons p F => cases mem_le s (p := p) List.mem_cons_self⟩
  | @cons e T l hl ht ne h1 h2 h0 _ ih =>
    refine ⟨fun p hp => ?_, fun p hp => ?_, fun F s hne => ?_⟩
    · rcases List.mem_cons.mp hp with rfl | hp
      · exact ⟨h1, h2⟩
      · exact ih.ok p hp
    · rcases List.mem_cons.mp hp with rfl | hp
      · exact ne
      · exact ih.nl p hp
    · by_cases c : F.count e ≤ T.count e
      · refine ih.leaf F (fun p => ?_) hne
        have := s p
        rw [List.count_cons] at this
        by_cases hp : e == p
        · have : e = p := by simpa using hp
          rw [← this]; exact c
        · rw [if_neg hp] at this; exact this
      · have he : e ∈ F := List.count_pos_iff.mp (by omega)
        refine ⟨l, hl, ?_⟩
        rw [dg_perm (List.perm_cons_erase he), dg_cons, tch_one ne ht, dg_none fun p hp => dg_zero h0 p (mem_le (F := F.erase e) (fun p => ?_) hp)]
        have := s p
        rw [List.count_cons] at this
        by_cases hp : e == p
        · have hpe : e = p := by simpa using hp
          subst hpe
          rw [if_pos hp] at this
          rw [List.count_erase_self]
          omega
        · rw [if_neg hp] at this
          have hpe : p ≠ e := fun z => hp (by rw [z]; exact beq_self_eq_true e)
          rw [List.count_erase_of_ne hpe]
          exact this
theorem Wood.perm {n : Nat} {E F : Es} (h : Wood n E) (p : E.Perm F) : Wood n F :=
  ⟨fun q hq => h.ok q (p.mem_iff.mpr hq), fun q hq => h.nl q (p.mem_iff.mpr hq), fun G s ne => h.leaf G (fun q => by rw [p.count_eq]; exact s q) ne⟩
theorem Elim.rk {n : Nat} {E : Es} (h : Elim n E) : rk n E = E.length := by
  induction h with
  | nil => exact rk_nil
  | @cons e T l hl ht ne h1 h2 h0 h ih =>
    have ho := h.wood.ok
    have e1 : CM.rk n (e :: T) = CM.rk n (T ++ [e]) := rk_mem (fun p hp => by
      rcases List.mem_cons.mp hp with rfl | hp
      · exact ⟨h1, h2⟩
      · exact ho p hp) (okP_snoc ho h1 h2) (fun p => by rw [List.mem_append, List.mem_cons, List.mem_singleton, or_comm])
    have nc : ¬ Con T e.1 e.2 := fun c => by
      have key : ∀ {u v : Nat}, Con T u v → u ≠ v → u ≠ l ∧ v ≠ l := fun {u v} c => by
        have z := dg_zero h0
        induction c with
        | refl => exact fun q => absurd rfl q
        | @step v w c1 q ih =>
          intro hne
          have hw : w ≠ l ∧ v ≠ l := by
            rcases q with q | q
            · exact ⟨(z _ q).2, (z _ q).1⟩
            · exact ⟨(z _ q).1, (z _ q).2⟩
          by_cases huv : u = v
          · exact ⟨by rw [huv]; exact hw.2, hw.1⟩
          · exact ⟨(ih huv).1, hw.1⟩
      obtain ⟨k1, k2⟩ := key c ne
      rcases ht with ht | ht
      · exact k1 ht
      · exact k2 ht
    have e2 : CM.rk n (T ++ [(e.1, e.2)]) = CM.rk n T + 1 := rk_snoc_no ho h1 h2 nc
    rw [e1]
    show CM.rk n (T ++ [(e.1, e.2)]) = _
    rw [e2, ih]
    rfl
end CM.K79
/-! K79W: the word of a tree, the tree of a word -/
namespace CM.K79
open PySem PySem.Spec PyProof.Rows L2 VL
def hasE (l : Nat) (p : Nat × Nat) : Bool := decide (p.1 = l) || decide (p.2 = l)
theorem hasE_iff {l : Nat} {p : Nat × Nat} : hasE l p = true ↔ p.1 = l ∨ p.2 = l := by
  unfold hasE
  rw [Bool.or_eq_true, decide_eq_true_eq, decide_eq_true_eq]
def lf (n : Nat) (E : Es) : Option Nat := (List.range n).find? fun v => decide (dg E v = 1)
def oth (p : Nat × Nat) (l : Nat) : Nat := if p.2 = l then p.1 else p.2
def prw (n : Nat) : Nat → Es → List Nat
  | 0, _ => []
  | k + 1, E => match lf n E with
    | none => []
    | some l => match E.find? (hasE l) with
      | none => []
      | some e => oth e l :: prw n k (E.erase e)
def fre (n : Nat) (out ws : List Nat) : List Nat := (List.range n).filter fun v => decide (v ∉ out ∧ v ∉ ws)
def pr (a b : Nat) : Nat × Nat := (min a b, max a b)
def twE (n : Nat) : List Nat → List Nat → Es
  | [], out => match fre n out [] with
    | [u, v] => [(u, v)]
    | _ => []
  | w :: ws, out => match fre n out (w :: ws) with
    | l :: _ => pr l w :: twE n ws (out ++ [l])
    | [] => []
structure Vd (n : Nat) (ws out : List Nat) : Prop where
  nd : out.Nodup
  o : ∀ x ∈ out, x < n
  w : ∀ x ∈ ws, x < n
  d : ∀ x ∈ ws, x ∉ out
  len : out.length + ws.length + 2 = n
theorem fre_mem {n : Nat} {out ws : List Nat} {v : Nat} : v ∈ fre n out ws ↔ v < n ∧ v ∉ out ∧ v ∉ ws := by
  unfold fre
  rw [List.mem_filter, List.mem_range, decide_eq_true_eq]
theorem fre_asc (n : Nat) (out ws : List Nat) : (fre n out ws).Pairwise (· < ·) := List.Pairwise.filter _ List.pairwise_lt_range
theorem fre_len {n : Nat} {ws out : List Nat} (V : Vd n ws out) : 2 ≤ (fre n out ws).length := by
  have h := nodup_sub_len (T := List.range n) (S := fre n out ws ++ (out ++ ws)) List.nodup_range fun x hx => by
    rw [List.mem_append, List.mem_append, fre_mem]
    by_cases h1 : x ∈ out
    · exact .inr (.inl h1)
    · by_cases h2 : x ∈ ws
      · exact .inr (.inr h2)
      · exact .inl ⟨List.mem_range.mp hx, h1, h2⟩
  rw [List.length_range, List.length_append, List.length_append] at h
  have := V.len
  omega
theorem fre_two {n : Nat} {out : List Nat} (V : Vd n [] out) : ∃ u v, fre n out [] = [u, v] := by
  have h1 := fre_len V
  have h2 := nodup_sub_len (T := fre n out [] ++ out) (S := List.range n) (by
    rw [List.nodup_append]
    refine ⟨(fre_asc n out []).imp fun h => Nat.ne_of_lt h, V.nd, fun a ha b hb e => (fre_mem.mp ha).2.1 (by rw [e]; exact hb)⟩) fun x hx => by
      rcases List.mem_append.mp hx with hx | hx
      · exact List.mem_range.mpr (fre_mem.mp hx).1
      · exact List.mem_range.mpr (V.o x hx)
  rw [List.length_append, List.length_range] at h2
  have h3 := V.len
  rw [List.length_nil] at h3
  have h4 : (fre n out []).length = 2 := by omega
  match h5 : fre n out [], h4 with
  | [u, v], _ => exact ⟨u, v, rfl⟩
theorem tch_pr {l w v : Nat} : tch (pr l w) v = (if l = v then 1 else 0) + (if w = v then 1 else 0) := by
  unfold tch pr
  dsimp only
  rcases Nat.le_total l w with h | h
  · rw [Nat.min_eq_left h, Nat.max_eq_right h]
  · rw [Nat.min_eq_right h, Nat.max_eq_left h, Nat.add_comm]
theorem Vd.next {n w l : Nat} {ws out : List Nat} (V : Vd n (w :: ws) out) (hl : l ∈ fre n out (w :: ws)) : Vd n ws (out ++ [l]) := by
  obtain ⟨h1, h2, h3⟩ := fre_mem.mp hl
  refine ⟨?_, fun x hx => ?_, fun x hx => V.w x (List.mem_cons_of_mem _ hx), fun x hx z => ?_, ?_⟩
  · rw [List.nodup_append]
    exact ⟨V.nd, by simp, fun a ha b hb e => h2 (by rw [← List.mem_singleton.mp hb, ← e]; exact ha)⟩
  · rcases List.mem_append.mp hx with hx | hx
    · exact V.o x hx
    · rw [List.mem_singleton.mp hx]; exact h1
  · rcases List.mem_append.mp z with z | z
    · exact V.d x (List.mem_cons_of_mem _ hx) z
    · exact h3 (by rw [← List.mem_singleton.mp z]; exact List.mem_cons_of_mem _ hx)
  · have := V.len
    rw [List.length_cons] at this
    rw [List.length_append, List.length_singleton]
    omega
theorem tw_ok {n : Nat} : ∀ {ws out : List Nat}, Vd n ws out → (twE n ws out).length = ws.length + 1 ∧ Elim n (twE n ws out) ∧ ∀ v, v < n → dg (twE n ws out) v = if v ∈ out then 0 else 1 + ws.count v
  | [], out, V => by
    obtain ⟨u, v, e⟩ := fre_two V
    have hu := fre_mem.mp (show u ∈ fre n out [] by rw [e]; simp)
    have hv := fre_mem.mp (show v ∈ fre n out [] by rw [e]; simp)
    have asc := fre_asc n out []
    rw [e] at asc
    have lt : u < v := by simpa using asc
    have et : twE n [] out = [(u, v)] := by unfold twE; rw [e]
    rw [et]
    refine ⟨rfl, .cons u hu.1 (.inl rfl) (Nat.ne_of_lt lt) hu.1 hv.1 rfl .nil, fun x hx => ?_⟩
    rw [dg_cons, show dg [] x = 0 from rfl]
    unfold tch
    dsimp only
    by_cases ho : x ∈ out
    · rw [if_pos ho, if_neg (fun z => hu.2.1 (by rw [z]; exact ho)), if_neg (fun z => hv.2.1 (by rw [z]; exact ho))]
    · rw [if_neg ho]
      have hm : x ∈ fre n out [] := fre_mem.mpr ⟨hx, ho, fun z => by cases z⟩
      rw [e] at hm
      rcases List.mem_cons.mp hm with rfl | hm
      · rw [if_pos rfl, if_neg (by omega)]; rfl
      · have := List.mem_singleton.mp hm
        subst this
        rw [if_neg (by omega), if_pos rfl]; rfl
  | w :: ws, out, V => by
    have h2 := fre_len V
    match e : fre n out (w :: ws), h2 with
    | l :: r, _ =>
      have hl : l ∈ fre n out (w :: ws) := by rw [e]; exact List.mem_cons_self
      obtain ⟨l1, l2, l3⟩ := fre_mem.mp hl
      obtain ⟨i1, i2, i3⟩ := tw_ok (V.next hl)
      have et : twE n (w :: ws) out = pr l w :: twE n ws (out ++ [l]) := by rw [twE, e]
      have lw : l ≠ w := fun z => l3 (by rw [z]; exact List.mem_cons_self)
      have wn := V.w w List.mem_cons_self
      have dl : dg (twE n ws (out ++ [l])) l = 0 := by rw [i3 l l1, if_pos (by simp)]
      rw [et]
      refine ⟨by rw [List.length_cons, i1, List.length_cons], .cons l l1 ?_ ?_ ?_ ?_ dl i2, fun x hx => ?_⟩
      · unfold pr; dsimp only; omega
      · unfold pr; dsimp only; omega
      · unfold pr; dsimp only; omega
      · unfold pr; dsimp only; omega
      · rw [dg_cons, tch_pr, i3 x hx, List.count_cons]
        by_cases ho : x ∈ out
        · have n1 : l ≠ x := fun z => l2 (by rw [z]; exact ho)
          have n2 : w ≠ x := fun z => V.d w List.mem_cons_self (by rw [z]; exact ho)
          rw [if_pos ho, if_neg n1, if_neg n2, if_pos (List.mem_append_left _ ho)]
        · rw [if_neg ho]
          by_cases hlx : l = x
          · subst hlx
            have c0 : ws.count l = 0 := List.count_eq_zero.mpr fun z => l3 (List.mem_cons_of_mem _ z)
            rw [if_pos rfl, if_neg (fun z => lw z.symm), if_pos (by simp), c0, if_neg (by simpa using fun z => lw z.symm)]
          · have n3 : x ∉ out ++ [l] := fun z => by
              rcases List.mem_append.mp z with z | z
              · exact ho z
              · exact hlx (List.mem_singleton.mp z).symm
            rw [if_neg hlx, if_neg n3]
            by_cases hwx : w = x
            · rw [if_pos hwx, if_pos (by simpa using hwx)]; omega
            · rw [if_neg hwx, if_neg (by simpa using hwx)]; omega
theorem find_congr {p q : Nat → Bool} : ∀ {l : List Nat}, (∀ v ∈ l, p v = q v) → l.find? p = l.find? q
  | [], _ => rfl
  | v :: l, h => by
    rw [List.find?_cons, List.find?_cons, h v List.mem_cons_self, find_congr fun w hw => h w (List.mem_cons_of_mem _ hw)]
theorem lf_tw {n : Nat} {ws out : List Nat} (V : Vd n ws out) {E : Es} (hp : E.Perm (twE n ws out)) : lf n E = (fre n out ws).head? := by
  unfold lf fre
  rw [List.head?_filter]
  refine find_congr fun v hv => ?_
  rw [dg_perm hp, (tw_ok V).2.2 v (List.mem_range.mp hv)]
  refine decide_eq_decide.mpr ?_
  by_cases ho : v ∈ out
  · rw [if_pos ho]
    exact ⟨fun z => by omega, fun z => absurd ho z.1⟩
  · rw [if_neg ho]
    have := List.count_eq_zero (a := v) (l := ws)
    exact ⟨fun z => ⟨ho, this.mp (by omega)⟩, fun z => by have := this.mpr z.2; omega⟩
theorem find_one {E : Es} {e : Nat × Nat} {p : Nat × Nat → Bool} (he : e ∈ E) (hp : p e = true) (un : ∀ x ∈ E, p x = true → x = e) : E.find? p = some e := by
  cases h : E.find? p with
  | none => exact absurd hp (List.find?_eq_none.mp h e he)
  | some x => rw [un x (List.mem_of_find?_eq_some h) (List.find?_some h)]
theorem oth_pr {l w : Nat} : oth (pr l w) l = w := by
  unfold oth pr
  dsimp only
  split <;> omega
theorem hasE_pr (l w : Nat) : hasE l (pr l w) = true := by
  rw [hasE_iff]
  unfold pr
  dsimp only
  omega
/-- the word comes back -/
theorem prw_tw {n : Nat} : ∀ {ws out : List Nat} {E : Es}, Vd n ws out → E.Perm (twE n ws out) → prw n ws.length E = ws
  | [], _, _, _, _ => rfl
  | w :: ws, out, E, V, hp => by
    have h2 := fre_len V
    have hlf := lf_tw V hp
    match e : fre n out (w :: ws), h2 with
    | l :: r, _ =>
      rw [e] at hlf
      have hl : l ∈ fre n out (w :: ws) := by rw [e]; exact List.mem_cons_self
      obtain ⟨l1, l2, l3⟩ := fre_mem.mp hl
      have et : twE n (w :: ws) out = pr l w :: twE n ws (out ++ [l]) := by rw [twE, e]
      rw [et] at hp
      have V2 := V.next hl
      have dl : dg (twE n ws (out ++ [l])) l = 0 := by rw [(tw_ok V2).2.2 l l1, if_pos (by simp)]
      have hf : E.find? (hasE l) = some (pr l w) := find_one (hp.mem_iff.mpr List.mem_cons_self) (hasE_pr l w) fun x hx hh => by
        rcases List.mem_cons.mp (hp.mem_iff.mp hx) with rfl | hx
        · rfl
        · obtain ⟨z1, z2⟩ := dg_zero dl x hx
          rcases hasE_iff.mp hh with z | z
          · exact absurd z z1
          · exact absurd z z2
      have hr : (E.erase (pr l w)).Perm (twE n ws (out ++ [l])) := by
        have := hp.erase (pr l w)
        rwa [List.erase_cons_head] at this
      show (match lf n E with
        | none => []
        | some l => match E.find? (hasE l) with
          | none => []
          | some e => oth e l :: prw n ws.length (E.erase e)) = _
      rw [hlf]
      show (match E.find? (hasE l) with
          | none => []
          | some e => oth e l :: prw n ws.length (E.erase e)) = _
      rw [hf]
      show oth (pr l w) l :: prw n ws.length (E.erase (pr l w)) = _
      rw [oth_pr, prw_tw V2 hr]
/-- all of a wood has a way on -/
theorem Wood.step {n : Nat} {E : Es} (h : Wood n E) (hne : E ≠ []) : ∃ l e, lf n E = some l ∧ l < n ∧ dg E l = 1 ∧ (∀ v, v < l → dg E v ≠ 1) ∧ E.find? (hasE l) = some e ∧ (E.filter (hasE l)).head? = some e ∧ e ∈ E ∧ (e.1 = l ∨ e.2 = l) := by
  obtain ⟨v, v1, v2⟩ := h.leaf E (fun _ => Nat.le_refl _) hne
  cases hf : lf n E with
  | none => exact absurd (decide_eq_true v2) (List.find?_eq_none.mp hf v (List.mem_range.mpr v1))
  | some l =>
    have hl := List.find?_some (p := fun v => decide (dg E v = 1)) hf
    have l2 : dg E l = 1 := of_decide_eq_true hl
    have l1 := List.mem_range.mp (List.mem_of_find?_eq_some hf)
    have l3 : ∀ u, u < l → dg E u ≠ 1 := fun u hu z => by
      obtain ⟨as, bs, e1, e2⟩ := List.find?_eq_some_iff_append.mp hf |>.2
      have hu2 : u ∈ as := by
        have hr : (List.range n).Pairwise (· < ·) := List.pairwise_lt_range
        have hm : u ∈ List.range n := List.mem_range.mpr (by omega)
        rw [e1] at hr hm
        rcases List.mem_append.mp hm with hm | hm
        · exact hm
        · exfalso
          rcases List.mem_cons.mp hm with hm | hm
          · omega
          · have := (List.pairwise_cons.mp (List.pairwise_append.mp hr).2.1).1 u hm
            omega
      have := e2 u hu2
      simp [z] at this
    cases he : E.find? (hasE l) with
    | none =>
      have := dg_none (E := E) (v := l) fun p hp => by
        have := List.find?_eq_none.mp he p hp
        rw [hasE_iff] at this
        exact ⟨fun z => this (.inl z), fun z => this (.inr z)⟩
      omega
    | some e => exact ⟨l, e, rfl, l1, l2, l3, he, by rw [List.head?_filter]; exact he, List.mem_of_find?_eq_some he, hasE_iff.mp (List.find?_some he)⟩
theorem Wood.erase {n : Nat} {E : Es} (h : Wood n E) (e : Nat × Nat) : Wood n (E.erase e) :=
  ⟨fun p hp => h.ok p (List.mem_of_mem_erase hp), fun p hp => h.nl p (List.mem_of_mem_erase hp), fun F s ne => h.leaf F (fun p => Nat.le_trans (s p) (by
    by_cases hp : p = e
    · rw [hp, List.count_erase_self]; omega
    · rw [List.count_erase_of_ne hp]; exact Nat.le_refl _)) ne⟩
theorem dg_erase {E : Es} {e : Nat × Nat} (he : e ∈ E) (v : Nat) : dg E v = tch e v + dg (E.erase e) v := by
  rw [dg_perm (List.perm_cons_erase he), dg_cons]
theorem tch_oth {e : Nat × Nat} {l : Nat} (ne : e.1 ≠ e.2) (h : e.1 = l ∨ e.2 = l) (v : Nat) : tch e v = (if l = v then 1 else 0) + (if oth e l = v then 1 else 0) ∧ oth e l ≠ l ∧ oth e l + l = e.1 + e.2 := by
  unfold tch oth
  rcases h with h | h
  · have : e.2 ≠ l := fun z => ne (h.trans z.symm)
    rw [if_neg this, h]
    exact ⟨rfl, this, by omega⟩
  · rw [if_pos h, h]
    exact ⟨Nat.add_comm _ _, fun z => ne (z.trans h.symm), rfl⟩
end CM.K79
/-! K79D: degree, components, is_connected -/
namespace CM.K79
open PySem PySem.Spec PyProof.Rows L2 VL
theorem own_deg : S_Graph_degree.own0 = false := rfl
theorem own_comp : S_Graph_components.own0 = false := rfl
theorem own_conn : S_Graph_is_connected.own0 = false := rfl
theorem own_pw : S_pruefer_word.own0 = false := rfl
theorem own_tow : S_tree_of_word.own0 = false := rfl
theorem own_lo : S__law_order.own0 = true := rfl
theorem own_lw : S__law_word.own0 = false := rfl
theorem own_lt : S__law_tree.own0 = false := rfl
theorem own_ref : S__law_refusal.own0 = false := rfl
theorem own_dr : S__law_drawn.own0 = true := rfl
@[simp] theorem ek_tree : errOk ("tree" : Str) = true := by decide +kernel
@[simp] theorem ek_word : errOk ("word" : Str) = true := by decide +kernel
section
variable {n : Nat} {es : Es}
/-- a method without arguments -/
theorem meth0 {m : Str} {S : FSpec} {ρ : VL.Env} {p : Pv} {c : D} (h0 : ρ[0]? = some (.sh (gD n es))) (hm : ([(("vertices" : Str), D.int n), ("edges", .tup (es.map pairD))] : List (Str × D)).lookup m = none) (hr : S.run [gD n es] = .ret p c) : vMeth "Graph" m S (vName 0) [] ρ = .ok p.vl ρ := by
  have e : vName 0 ρ = .ok (.sh (gD n es)) ρ := by unfold vName; rw [h0]
  have hl : look ρ (.sh (gD n es)) = some (.obj "Graph" [(("vertices" : Str), D.int n), ("edges", .tup (es.map pairD))]) := rfl
  unfold vMeth
  rw [e, obind_ok, hl]
  dsimp only
  rw [if_pos ⟨rfl, hm⟩]
  show (match S.run [gD n es] with
    | .ret p _ => OutG.ok p.vl ρ
    | _ => OutG.bad) = _
  rw [hr]
/-- with one argument; the graph stands in slot i, shared or own -/
theorem meth1 {m : Str} {S : FSpec} {f : SE} {ρ ρ1 : VL.Env} {p : Pv} {c u : D} {i : Nat} (h0 : ρ[i]? = some (.sh (gD n es))) (hm : ([(("vertices" : Str), D.int n), ("edges", .tup (es.map pairD))] : List (Str × D)).lookup m = none) (h1 : vArgs [f] ρ = .ok [.sh u] ρ1) (hr : S.run [gD n es, u] = .ret p c) : vMeth "Graph" m S (vName i) [f] ρ = .ok p.vl ρ1 := by
  have e : vName i ρ = .ok (.sh (gD n es)) ρ := by unfold vName; rw [h0]
  have hl : look ρ (.sh (gD n es)) = some (.obj "Graph" [(("vertices" : Str), D.int n), ("edges", .tup (es.map pairD))]) := rfl
  unfold vMeth
  rw [e, obind_ok, hl]
  dsimp only
  rw [if_pos ⟨rfl, hm⟩, h1, obind_ok]
  show (match S.run [gD n es, u] with
    | .ret p _ => OutG.ok p.vl ρ1
    | _ => OutG.bad) = _
  rw [hr]
theorem lk_deg : ([(("vertices" : Str), D.int n), ("edges", .tup (es.map pairD))] : List (Str × D)).lookup ("degree" : Str) = none := by rfl
theorem lk_comp : ([(("vertices" : Str), D.int n), ("edges", .tup (es.map pairD))] : List (Str × D)).lookup ("components" : Str) = none := by rfl
theorem lk_conn : ([(("vertices" : Str), D.int n), ("edges", .tup (es.map pairD))] : List (Str × D)).lookup ("is_connected" : Str) = none := by rfl
theorem sum_tch (v : Nat) : ∀ E : Es, (E.map fun p => ((tch p v : Nat) : Int)).sum = ((dg E v : Nat) : Int)
  | [] => rfl
  | p :: E => by
    rw [List.map_cons, List.sum_cons, sum_tch v E, dg_cons]
    omega
theorem r_degree {v : Nat} (hv : v < n) (hm : es.length ≤ 1000) : S_Graph_degree.run [gD n es, .int v] = .ret (.sh (.int (dg es v))) .non := by
  have c := vComp_map (h := hTup 2 (hCons (hName 2) (hCons (hName 3) hNil))) (g := vYes) (f := vOp2 opAdd (vB opInt [(vOp2 opEq (vName 2) (vName 1))]) (vB opInt [(vOp2 opEq (vName 3) (vName 1))])) (vs := [2, 3]) (src := vItA (vOp1 (opFld okC ("edges" : Str)) (vName 0))) (ρ := [.sh (gD n es), .sh (.int v), .no, .no]) (ρ1 := [.sh (gD n es), .sh (.int v), .no, .no]) (ds := es.map pairD)
    pairD (fun _ => true) (fun p => D.int (tch p v : Nat)) es (by unfold vItA; simp only [runDef, initE, finR, parD, retV, sSeq, sBind_ok, sBind_exn, sBind_bad, sNext, sIf, sSet, stor, sRet, sRetN, sExpr, sUnp, sAug, sPut, sPutA, sRaise, sBreak, sCont, sFor, obind_ok, obind_exn, obind_bad, retP_some, retP_none, vName, vC, vOp1, vOp2, vTst, vTru, vNot, vAnd, vOr, vIfE, vAndV, vOrV, vChain, vArgs, looks, look, esc, escs, frz, vTup, vLst, vB, vMut, vSl, vNotT, vDic1, vDic1B, vDic0, Slot.mu?, Slot.put, Slot.d?, List.getElem?_cons_zero, List.getElem?_cons_succ, List.getElem?_nil, Option.bind_some, Option.bind_none, Option.map_some, Option.map_none, List.set_cons_zero, List.set_cons_succ, List.set_nil, List.length_cons, List.length_nil, hName, hTup, hCons, hNil, opAdd, opSub, opLt, opLe, opGt, opGe, opLen, opInt, opNeg, opIs, opIsNot, isP, VL.isNon, truD, iAdd, iSub, opEq_int, opNe_int, if_true, if_false, ite_true, ite_false, Bool.not_true, Bool.not_false, Bool.false_eq_true, List.map_cons, List.map_nil, List.replicate_zero, List.replicate_succ, List.append_nil, List.nil_append, List.cons_append, reduceCtorEq, if_pos, Bool.not_eq_true, decide_eq_true_eq, decide_true, decide_false, c_eq, c_lt, c_le, c_ge, Nat.zero_add, Nat.reduceAdd, Pv.vl, s0, s1, s2, s3, s4, fld_e]) rfl (by rw [sizeLine_eq]; omega) (fun p hp => by
      obtain ⟨a, b⟩ := p
      refine ⟨_, rfl, rfl, fun _ => ⟨.sh (.int (tch (a, b) v : Nat)), ?_, rfl⟩, rfl⟩
      have e : ((if decide (a = v) = true then (1 : Int) else 0) + if decide (b = v) = true then 1 else 0) = ((tch (a, b) v : Nat) : Int) := by
        unfold tch
        dsimp only
        by_cases h1 : a = v <;> by_cases h2 : b = v <;> simp [h1, h2]
      have e1 : opInt [.bl (decide (a = v))] = some (.sh (.int (if decide (a = v) = true then 1 else 0))) := rfl
      have e2 : opInt [.bl (decide (b = v))] = some (.sh (.int (if decide (b = v) = true then 1 else 0))) := rfl
      simp only [runDef, initE, finR, parD, retV, sSeq, sBind_ok, sBind_exn, sBind_bad, sNext, sIf, sSet, stor, sRet, sRetN, sExpr, sUnp, sAug, sPut, sPutA, sRaise, sBreak, sCont, sFor, obind_ok, obind_exn, obind_bad, retP_some, retP_none, vName, vC, vOp1, vOp2, vTst, vTru, vNot, vAnd, vOr, vIfE, vAndV, vOrV, vChain, vArgs, looks, look, esc, escs, frz, vTup, vLst, vB, vMut, vSl, vNotT, vDic1, vDic1B, vDic0, Slot.mu?, Slot.put, Slot.d?, List.getElem?_cons_zero, List.getElem?_cons_succ, List.getElem?_nil, Option.bind_some, Option.bind_none, Option.map_some, Option.map_none, List.set_cons_zero, List.set_cons_succ, List.set_nil, List.length_cons, List.length_nil, hName, hTup, hCons, hNil, opAdd, opSub, opLt, opLe, opGt, opGe, opLen, opInt, opNeg, opIs, opIsNot, isP, VL.isNon, truD, iAdd, iSub, opEq_int, opNe_int, if_true, if_false, ite_true, ite_false, Bool.not_true, Bool.not_false, Bool.false_eq_true, List.map_cons, List.map_nil, List.replicate_zero, List.replicate_succ, List.append_nil, List.nil_append, List.cons_append, reduceCtorEq, if_pos, Bool.not_eq_true, decide_eq_true_eq, decide_true, decide_false, c_eq, c_lt, c_le, c_ge, Nat.zero_add, Nat.reduceAdd, Pv.vl, s0, s1, s2, s3, s4, wipeE, pairD] at e e1 e2 ⊢
      simp only [runDef, initE, finR, parD, retV, sSeq, sBind_ok, sBind_exn, sBind_bad, sNext, sIf, sSet, stor, sRet, sRetN, sExpr, sUnp, sAug, sPut, sPutA, sRaise, sBreak, sCont, sFor, obind_ok, obind_exn, obind_bad, retP_some, retP_none, vName, vC, vOp1, vOp2, vTst, vTru, vNot, vAnd, vOr, vIfE, vAndV, vOrV, vChain, vArgs, looks, look, esc, escs, frz, vTup, vLst, vB, vMut, vSl, vNotT, vDic1, vDic1B, vDic0, Slot.mu?, Slot.put, Slot.d?, List.getElem?_cons_zero, List.getElem?_cons_succ, List.getElem?_nil, Option.bind_some, Option.bind_none, Option.map_some, Option.map_none, List.set_cons_zero, List.set_cons_succ, List.set_nil, List.length_cons, List.length_nil, hName, hTup, hCons, hNil, opAdd, opSub, opLt, opLe, opGt, opGe, opLen, opInt, opNeg, opIs, opIsNot, isP, VL.isNon, truD, iAdd, iSub, opEq_int, opNe_int, if_true, if_false, ite_true, ite_false, Bool.not_true, Bool.not_false, Bool.false_eq_true, List.map_cons, List.map_nil, List.replicate_zero, List.replicate_succ, List.append_nil, List.nil_append, List.cons_append, reduceCtorEq, if_pos, Bool.not_eq_true, decide_eq_true_eq, decide_true, decide_false, c_eq, c_lt, c_le, c_ge, Nat.zero_add, Nat.reduceAdd, Pv.vl, s0, s1, s2, s3, s4, e1, e2, e])
  rw [filtT] at c
  have sm : opSum [.lst (es.map fun p => D.int (tch p v : Nat))] = some (.sh (.int (dg es v))) := by
    have : (es.map fun p => D.int (tch p v : Nat)) = (es.map fun p => ((tch p v : Nat) : Int)).map D.int := by rw [List.map_map]; rfl
    show (asInts (es.map fun p => D.int (tch p v : Nat))).map _ = _
    rw [this, asInts_map, Option.map_some, sum_tch]
  unfold S_Graph_degree t_Graph_degree
  simp only [runDef, initE, finR, parD, retV, sSeq, sBind_ok, sBind_exn, sBind_bad, sNext, sIf, sSet, stor, sRet, sRetN, sExpr, sUnp, sAug, sPut, sPutA, sRaise, sBreak, sCont, sFor, obind_ok, obind_exn, obind_bad, retP_some, retP_none, vName, vC, vOp1, vOp2, vTst, vTru, vNot, vAnd, vOr, vIfE, vAndV, vOrV, vChain, vArgs, looks, look, esc, escs, frz, vTup, vLst, vB, vMut, vSl, vNotT, vDic1, vDic1B, vDic0, Slot.mu?, Slot.put, Slot.d?, List.getElem?_cons_zero, List.getElem?_cons_succ, List.getElem?_nil, Option.bind_some, Option.bind_none, Option.map_some, Option.map_none, List.set_cons_zero, List.set_cons_succ, List.set_nil, List.length_cons, List.length_nil, hName, hTup, hCons, hNil, opAdd, opSub, opLt, opLe, opGt, opGe, opLen, opInt, opNeg, opIs, opIsNot, isP, VL.isNon, truD, iAdd, iSub, opEq_int, opNe_int, if_true, if_false, ite_true, ite_false, Bool.not_true, Bool.not_false, Bool.false_eq_true, List.map_cons, List.map_nil, List.replicate_zero, List.replicate_succ, List.append_nil, List.nil_append, List.cons_append, reduceCtorEq, if_pos, Bool.not_eq_true, decide_eq_true_eq, decide_true, decide_false, c_eq, c_lt, c_le, c_ge, Nat.zero_add, Nat.reduceAdd, Pv.vl, s0, s1, s2, s3, s4, Nat.reduceSub, fld_v, hv, c, sm]
theorem r_groupsT (E : Es) (hn : n ≤ 1000) (ho : okP n E) : S_groups.run [.int n, .tup (E.map pairD)] = .ret (.fr (.lst (iD (nI (nmE n E))))) .non := by
  obtain ⟨ρ', h1, _, y3, y4, h2⟩ := loopF_st (h := hTup 2 (hCons (hName 3) (hCons (hName 4) hNil))) (body := b_groups_0 S_merged) pairD
    (fun (l : List Nat) ρ => l.length = n ∧ ∃ y3 y4, ρ = [.sh (.int n), .sh (.tup (E.map pairD)), .own (.lst (iD (nI l))), y3, y4]) (fun l p => mrg l p.1 p.2) E (List.range n)
    [.sh (.int n), .sh (.tup (E.map pairD)), .own (.lst (iD (nI (List.range n)))), .no, .no] ⟨List.length_range, _, _, rfl⟩ (fun p hp l ρ ⟨hl, y3, y4, e⟩ => by
      subst e
      obtain ⟨a, b⟩ := p
      obtain ⟨ha, hb⟩ := ho _ hp
      have r := r_merged l a b (by rw [hl]; exact ha) (by rw [hl]; exact hb) (by omega)
      refine ⟨_, rfl, [.sh (.int n), .sh (.tup (E.map pairD)), .own (.lst (iD (nI (mrg l a b)))), .sh (.int a), .sh (.int b)], ?_, by rw [mrg_len]; exact hl, _, _, rfl⟩
      unfold b_groups_0
      simp only [runDef, initE, finR, parD, retV, sSeq, sBind_ok, sBind_exn, sBind_bad, sNext, sIf, sSet, stor, sRet, sRetN, sExpr, sUnp, sAug, sPut, sPutA, sRaise, sBreak, sCont, sFor, obind_ok, obind_exn, obind_bad, retP_some, retP_none, vName, vC, vOp1, vOp2, vTst, vTru, vNot, vAnd, vOr, vIfE, vAndV, vOrV, vChain, vArgs, looks, look, esc, escs, frz, vTup, vLst, vB, vMut, vSl, vNotT, vDic1, vDic1B, vDic0, Slot.mu?, Slot.put, Slot.d?, List.getElem?_cons_zero, List.getElem?_cons_succ, List.getElem?_nil, Option.bind_some, Option.bind_none, Option.map_some, Option.map_none, List.set_cons_zero, List.set_cons_succ, List.set_nil, List.length_cons, List.length_nil, hName, hTup, hCons, hNil, opAdd, opSub, opLt, opLe, opGt, opGe, opLen, opInt, opNeg, opIs, opIsNot, isP, VL.isNon, truD, iAdd, iSub, opEq_int, opNe_int, if_true, if_false, ite_true, ite_false, Bool.not_true, Bool.not_false, Bool.false_eq_true, List.map_cons, List.map_nil, List.replicate_zero, List.replicate_succ, List.append_nil, List.nil_append, List.cons_append, reduceCtorEq, if_pos, Bool.not_eq_true, decide_eq_true_eq, decide_true, decide_false, c_eq, c_lt, c_le, c_ge, Nat.zero_add, Nat.reduceAdd, Pv.vl, s0, s1, s2, s3, s4, pairD, vCall, vCallV, own_merged, r, vCallR])
  subst h2
  have hi : vItA (vName 1) [.sh (.int n), .sh (.tup (E.map pairD)), .own (.lst (iD (nI (List.range n)))), .no, .no] = .ok (E.map pairD) [.sh (.int n), .sh (.tup (E.map pairD)), .own (.lst (iD (nI (List.range n)))), .no, .no] := itA_tup rfl
  unfold S_groups t_groups
  simp only [runDef, initE, finR, parD, retV, sSeq, sBind_ok, sBind_exn, sBind_bad, sNext, sIf, sSet, stor, sRet, sRetN, sExpr, sUnp, sAug, sPut, sPutA, sRaise, sBreak, sCont, sFor, obind_ok, obind_exn, obind_bad, retP_some, retP_none, vName, vC, vOp1, vOp2, vTst, vTru, vNot, vAnd, vOr, vIfE, vAndV, vOrV, vChain, vArgs, looks, look, esc, escs, frz, vTup, vLst, vB, vMut, vSl, vNotT, vDic1, vDic1B, vDic0, Slot.mu?, Slot.put, Slot.d?, List.getElem?_cons_zero, List.getElem?_cons_succ, List.getElem?_nil, Option.bind_some, Option.bind_none, Option.map_some, Option.map_none, List.set_cons_zero, List.set_cons_succ, List.set_nil, List.length_cons, List.length_nil, hName, hTup, hCons, hNil, opAdd, opSub, opLt, opLe, opGt, opGe, opLen, opInt, opNeg, opIs, opIsNot, isP, VL.isNon, truD, iAdd, iSub, opEq_int, opNe_int, if_true, if_false, ite_true, ite_false, Bool.not_true, Bool.not_false, Bool.false_eq_true, List.map_cons, List.map_nil, List.replicate_zero, List.replicate_succ, List.append_nil, List.nil_append, List.cons_append, reduceCtorEq, if_pos, Bool.not_eq_true, decide_eq_true_eq, decide_true, decide_false, c_eq, c_lt, c_le, c_ge, Nat.zero_add, Nat.reduceAdd, Pv.vl, s0, s1, s2, s3, s4, Nat.reduceSub, vRgL1, rgOk_n hn, rg_n, hi, h1]
  rfl
/-! ### the groups by names -/
abbrev kG (gs : List (Int × List Int)) : List Int := gs.map (·.1)
theorem any_kG (gs : List (Int × List Int)) (k : Int) : gs.any (fun g => decide (g.1 = k)) = decide (k ∈ kG gs) := by
  induction gs with
  | nil => rfl
  | cons g gs ih =>
    rw [List.any_cons, ih]
    show _ = decide (k ∈ g.1 :: kG gs)
    by_cases h : g.1 = k
    · rw [decide_eq_true h, h]; simp
    · rw [decide_eq_false h, Bool.false_or]
      refine decide_eq_decide.mpr ?_
      rw [List.mem_cons]
      exact ⟨.inr, fun z => z.elim (fun e => absurd e.symm h) id⟩
theorem kG_ins (gs : List (Int × List Int)) (k v : Int) : kG (insG gs k v) = if k ∈ kG gs then kG gs else kG gs ++ [k] := by
  unfold insG
  rw [any_kG]
  by_cases h : k ∈ kG gs
  · rw [if_pos (decide_eq_true h), if_pos h]
    show (gs.map _).map _ = _
    rw [List.map_map]
    refine List.map_congr_left fun g _ => ?_
    show (if g.1 = k then (g.1, g.2 ++ [v]) else g).1 = g.1
    split <;> rfl
  · rw [if_neg (by rw [decide_eq_true_eq]; exact h), if_neg h]
    show (gs ++ [(k, [v])]).map _ = _
    rw [List.map_append]
    rfl
theorem grp_all (l : List Nat) : ∀ (vs : List Nat) (gs : List (Int × List Int)), (∀ v ∈ vs, v < l.length) → (kG gs).Nodup → ∃ gs', grpG (nI l) (nI vs) gs = some gs' ∧ (kG gs').Nodup ∧ ∀ k, k ∈ kG gs' ↔ k ∈ kG gs ∨ ∃ v ∈ vs, k = ((l.getD v 0 : Nat) : Int)
  | [], gs, _, nd => ⟨gs, rfl, nd, fun k => ⟨.inl, fun z => z.elim id fun ⟨v, hv, _⟩ => by cases hv⟩⟩
  | v :: vs, gs, h, nd => by
    have hv := h v List.mem_cons_self
    have e : opIx (.lst ((nI l).map D.int)) (.int (v : Nat)) = some (.sh (.int ((l.getD v 0 : Nat) : Int))) := by
      have := ix_l (get_iD (l := nI l) (a := v) (by rw [nI_len]; exact hv))
      rw [nI_getD _ v hv] at this
      exact this
    have nd2 : (kG (insG gs ((l.getD v 0 : Nat) : Int) v)).Nodup := by
      rw [kG_ins]
      split
      · exact nd
      · rename_i hn
        rw [List.nodup_append]
        exact ⟨nd, by simp, fun a ha b hb e => hn (by have e1 : b = _ := List.mem_singleton.mp hb; rw [← e1, ← e]; exact ha)⟩
    obtain ⟨gs', g1, g2, g3⟩ := grp_all l vs (insG gs ((l.getD v 0 : Nat) : Int) v) (fun w hw => h w (List.mem_cons_of_mem _ hw)) nd2
    refine ⟨gs', ?_, g2, fun k => ?_⟩
    · show (match opIx (.lst ((nI l).map D.int)) (.int (v : Nat)) with
        | some (.sh (.int k)) => grpG (nI l) (nI vs) (insG gs k v)
        | _ => none) = _
      rw [e]
      exact g1
    · rw [g3, kG_ins]
      constructor
      · rintro (q | ⟨w, hw, q⟩)
        · split at q
          · exact .inl q
          · rcases List.mem_append.mp q with q | q
            · exact .inl q
            · exact .inr ⟨v, List.mem_cons_self, List.mem_singleton.mp q⟩
        · exact .inr ⟨w, List.mem_cons_of_mem _ hw, q⟩
      · rintro (q | ⟨w, hw, q⟩)
        · left
          split
          · exact q
          · exact List.mem_append_left _ q
        · rcases List.mem_cons.mp hw with rfl | hw
          · left
            split
            · rename_i z; rw [q]; exact z
            · rw [q]; exact List.mem_append_right _ (List.mem_singleton.mpr rfl)
          · exact .inr ⟨w, hw, q⟩
theorem intKeys_gs : ∀ gs : List (Int × List Int), intKeys (gs.map fun g => ((Sum.inl g.1 : Key), D.lst (g.2.map D.int))) = some (kG gs)
  | [] => rfl
  | g :: gs => by
    show (intKeys (gs.map fun g => ((Sum.inl g.1 : Key), D.lst (g.2.map D.int)))).map (g.1 :: ·) = _
    rw [intKeys_gs gs]
    rfl
theorem get_gs : ∀ (gs : List (Int × List Int)) {k : Int}, k ∈ kG gs → ∃ l, getK (gs.map fun g => ((Sum.inl g.1 : Key), D.lst (g.2.map D.int))) (Sum.inl k) = some (.lst (iD l))
  | g :: gs, k, h => by
    unfold getK
    rw [List.map_cons, List.find?_cons]
    by_cases e : g.1 = k
    · have e1 : decide ((Sum.inl g.1 : Key) = Sum.inl k) = true := decide_eq_true (by rw [e])
      dsimp only
      rw [e1]
      exact ⟨g.2, rfl⟩
    · have e1 : decide ((Sum.inl g.1 : Key) = Sum.inl k) = false := decide_eq_false fun z => e (Sum.inl.inj z)
      dsimp only
      rw [e1]
      rcases List.mem_cons.mp h with z | z
      · exact absurd z.symm e
      · exact get_gs gs z
theorem r_comp (hn : n ≤ 60) (ho : okP n es) : ∃ ds, S_Graph_components.run [gD n es] = .ret (.fr (.lst ds)) .non ∧ ds.length = (dedupI (nI (nmE n es))).length := by
  have g := r_groupsT es (n := n) (by omega) ho
  have pg := pure_ints (nI (nmE n es)) .non
  obtain ⟨gs, g1, g2, g3⟩ := grp_all (nmE n es) (List.range n) [] (fun v hv => by rw [nm_len]; exact List.mem_range.mp hv) List.nodup_nil
  have hk : ∀ k, k ∈ kG gs ↔ k ∈ nI (nmE n es) := fun k => by
    rw [g3]
    constructor
    · rintro (q | ⟨v, hv, rfl⟩)
      · cases q
      · have hv := List.mem_range.mp hv
        refine nI_mem.mpr ?_
        have hl : v < (nmE n es).length := by rw [nm_len]; exact hv
        rw [List.getD_eq_getElem?_getD, List.getElem?_eq_getElem hl]
        exact List.getElem_mem hl
    · intro q
      obtain ⟨x, hx, rfl⟩ := List.mem_map.mp q
      obtain ⟨v, hv, e⟩ := List.getElem_of_mem hx
      refine .inr ⟨v, List.mem_range.mpr (by rw [← nm_len n es]; exact hv), ?_⟩
      rw [List.getD_eq_getElem?_getD, List.getElem?_eq_getElem hv, e]
      rfl
  have hlen := dedup_len g2 hk
  have hkn : (kG gs).length ≤ n := by
    rw [hlen]
    have := names_roots ho
    rw [this]
    exact roots_le n es
  have src : vItR1 [(vOp1 (opFld okC ("vertices" : Str)) (vName 0))] [.sh (gD n es), .own (.lst (iD (nI (nmE n es)))), .own (.dic []), .no, .no] = .ok (iD (nI (List.range n))) [.sh (gD n es), .own (.lst (iD (nI (nmE n es)))), .own (.dic []), .no, .no] := by
    have hv : vOp1 (opFld okC ("vertices" : Str)) (vName 0) [.sh (gD n es), .own (.lst (iD (nI (nmE n es)))), .own (.dic []), .no, .no] = .ok (.sh (.int n)) [.sh (gD n es), .own (.lst (iD (nI (nmE n es)))), .own (.dic []), .no, .no] := by simp only [runDef, initE, finR, parD, retV, sSeq, sBind_ok, sBind_exn, sBind_bad, sNext, sIf, sSet, stor, sRet, sRetN, sExpr, sUnp, sAug, sPut, sPutA, sRaise, sBreak, sCont, sFor, obind_ok, obind_exn, obind_bad, retP_some, retP_none, vName, vC, vOp1, vOp2, vTst, vTru, vNot, vAnd, vOr, vIfE, vAndV, vOrV, vChain, vArgs, looks, look, esc, escs, frz, vTup, vLst, vB, vMut, vSl, vNotT, vDic1, vDic1B, vDic0, Slot.mu?, Slot.put, Slot.d?, List.getElem?_cons_zero, List.getElem?_cons_succ, List.getElem?_nil, Option.bind_some, Option.bind_none, Option.map_some, Option.map_none, List.set_cons_zero, List.set_cons_succ, List.set_nil, List.length_cons, List.length_nil, hName, hTup, hCons, hNil, opAdd, opSub, opLt, opLe, opGt, opGe, opLen, opInt, opNeg, opIs, opIsNot, isP, VL.isNon, truD, iAdd, iSub, opEq_int, opNe_int, if_true, if_false, ite_true, ite_false, Bool.not_true, Bool.not_false, Bool.false_eq_true, List.map_cons, List.map_nil, List.replicate_zero, List.replicate_succ, List.append_nil, List.nil_append, List.cons_append, reduceCtorEq, if_pos, Bool.not_eq_true, decide_eq_true_eq, decide_true, decide_false, c_eq, c_lt, c_le, c_ge, Nat.zero_add, Nat.reduceAdd, Pv.vl, s0, s1, s2, s3, s4, fld_v]
    rw [iD_nI (List.range n)]
    exact r1_ok (k := n) hv (by omega)
  have sg : sGrp (vItR1 [(vOp1 (opFld okC ("vertices" : Str)) (vName 0))]) 1 2 3 [.sh (gD n es), .own (.lst (iD (nI (nmE n es)))), .own (.dic []), .no, .no] = .nx [.sh (gD n es), .own (.lst (iD (nI (nmE n es)))), .own (gsD gs), .no, .no] := by
    unfold sGrp
    rw [src, sBind_ok]
    have e0 : asInts (iD (nI (List.range n))) = some (nI (List.range n)) := asInts_map _
    have e1 : asInts (iD (nI (nmE n es))) = some (nI (nmE n es)) := asInts_map _
    have e2 : (1 ≠ 2 ∧ 1 ≠ 3 ∧ 2 ≠ 3 ∧ 3 < [Slot.sh (gD n es), Slot.own (D.lst (iD (nI (nmE n es)))), Slot.own (D.dic []), Slot.no, Slot.no].length ∧ (nI (List.range n)).length ≤ 4000) := ⟨by decide, by decide, by decide, by simp, by rw [nI_len, List.length_range]; omega⟩
    rw [e0]
    show (match asInts (iD (nI (nmE n es))) with
      | some ms => if 1 ≠ 2 ∧ 1 ≠ 3 ∧ 2 ≠ 3 ∧ 3 < [Slot.sh (gD n es), Slot.own (D.lst (iD (nI (nmE n es)))), Slot.own (D.dic []), Slot.no, Slot.no].length ∧ (nI (List.range n)).length ≤ 4000 then (match grpG ms (nI (List.range n)) [] with
        | some gs => Fl.nx (([Slot.sh (gD n es), Slot.own (D.lst (iD (nI (nmE n es)))), Slot.own (D.dic []), Slot.no, Slot.no].set 3 .no).set 2 (.own (gsD gs)))
        | none => Fl.bad) else .bad
      | none => Fl.bad) = _
    rw [e1]
    dsimp only
    rw [if_pos e2, g1]
    rfl
  have os : opSortedB [gsD gs] = some (.fr (.lst (iD (sortI (kG gs))))) := by
    show (match intKeys (gs.map fun g => ((Sum.inl g.1 : Key), D.lst (g.2.map D.int))) with
      | some ns => if ns.length < 64 then some (Pv.fr (.lst ((sortI ns).map .int))) else none
      | none => none) = _
    rw [intKeys_gs]
    dsimp only
    rw [if_pos (by omega)]
  have so := sortI_perm (kG gs)
  have c := vComp_map (h := hName 4) (g := vYes) (f := vOp2 opIx (vName 2) (vName 4)) (vs := [4]) (src := vItA (vB opSortedB [(vName 2)])) (ρ := [.sh (gD n es), .own (.lst (iD (nI (nmE n es)))), .own (gsD gs), .no, .no]) (ρ1 := [.sh (gD n es), .own (.lst (iD (nI (nmE n es)))), .own (gsD gs), .no, .no]) (ds := iD (sortI (kG gs)))
    D.int (fun _ => true) (fun k => (getK (gs.map fun g => ((Sum.inl g.1 : Key), D.lst (g.2.map D.int))) (Sum.inl k)).getD .non) (sortI (kG gs)) (by unfold vItA; simp only [runDef, initE, finR, parD, retV, sSeq, sBind_ok, sBind_exn, sBind_bad, sNext, sIf, sSet, stor, sRet, sRetN, sExpr, sUnp, sAug, sPut, sPutA, sRaise, sBreak, sCont, sFor, obind_ok, obind_exn, obind_bad, retP_some, retP_none, vName, vC, vOp1, vOp2, vTst, vTru, vNot, vAnd, vOr, vIfE, vAndV, vOrV, vChain, vArgs, looks, look, esc, escs, frz, vTup, vLst, vB, vMut, vSl, vNotT, vDic1, vDic1B, vDic0, Slot.mu?, Slot.put, Slot.d?, List.getElem?_cons_zero, List.getElem?_cons_succ, List.getElem?_nil, Option.bind_some, Option.bind_none, Option.map_some, Option.map_none, List.set_cons_zero, List.set_cons_succ, List.set_nil, List.length_cons, List.length_nil, hName, hTup, hCons, hNil, opAdd, opSub, opLt, opLe, opGt, opGe, opLen, opInt, opNeg, opIs, opIsNot, isP, VL.isNon, truD, iAdd, iSub, opEq_int, opNe_int, if_true, if_false, ite_true, ite_false, Bool.not_true, Bool.not_false, Bool.false_eq_true, List.map_cons, List.map_nil, List.replicate_zero, List.replicate_succ, List.append_nil, List.nil_append, List.cons_append, reduceCtorEq, if_pos, Bool.not_eq_true, decide_eq_true_eq, decide_true, decide_false, c_eq, c_lt, c_le, c_ge, Nat.zero_add, Nat.reduceAdd, Pv.vl, s0, s1, s2, s3, s4, os]) rfl (by rw [so.length_eq, sizeLine_eq]; omega) (fun k hk => by
      obtain ⟨l, hl⟩ := get_gs gs (so.mem_iff.mp hk)
      have e : opIx (gsD gs) (.int k) = some (.sh (.lst (iD l))) := by
        show (VL.keyOf (.int k)).bind (fun k => (getK (gs.map fun g => ((Sum.inl g.1 : Key), D.lst (g.2.map D.int))) k).map Pv.sh) = _
        show (getK (gs.map fun g => ((Sum.inl g.1 : Key), D.lst (g.2.map D.int))) (Sum.inl k)).map Pv.sh = _
        rw [hl]
        rfl
      refine ⟨_, rfl, rfl, fun _ => ⟨.sh (.lst (iD l)), ?_, by rw [hl]; rfl⟩, rfl⟩
      simp only [runDef, initE, finR, parD, retV, sSeq, sBind_ok, sBind_exn, sBind_bad, sNext, sIf, sSet, stor, sRet, sRetN, sExpr, sUnp, sAug, sPut, sPutA, sRaise, sBreak, sCont, sFor, obind_ok, obind_exn, obind_bad, retP_some, retP_none, vName, vC, vOp1, vOp2, vTst, vTru, vNot, vAnd, vOr, vIfE, vAndV, vOrV, vChain, vArgs, looks, look, esc, escs, frz, vTup, vLst, vB, vMut, vSl, vNotT, vDic1, vDic1B, vDic0, Slot.mu?, Slot.put, Slot.d?, List.getElem?_cons_zero, List.getElem?_cons_succ, List.getElem?_nil, Option.bind_some, Option.bind_none, Option.map_some, Option.map_none, List.set_cons_zero, List.set_cons_succ, List.set_nil, List.length_cons, List.length_nil, hName, hTup, hCons, hNil, opAdd, opSub, opLt, opLe, opGt, opGe, opLen, opInt, opNeg, opIs, opIsNot, isP, VL.isNon, truD, iAdd, iSub, opEq_int, opNe_int, if_true, if_false, ite_true, ite_false, Bool.not_true, Bool.not_false, Bool.false_eq_true, List.map_cons, List.map_nil, List.replicate_zero, List.replicate_succ, List.append_nil, List.nil_append, List.cons_append, reduceCtorEq, if_pos, Bool.not_eq_true, decide_eq_true_eq, decide_true, decide_false, c_eq, c_lt, c_le, c_ge, Nat.zero_add, Nat.reduceAdd, Pv.vl, s0, s1, s2, s3, s4, wipeE, e])
  rw [filtT] at c
  refine ⟨(sortI (kG gs)).map fun k => (getK (gs.map fun g => ((Sum.inl g.1 : Key), D.lst (g.2.map D.int))) (Sum.inl k)).getD .non, ?_, by rw [List.length_map, so.length_eq, hlen]⟩
  show runDef 5 1 false (t_Graph_components S_groups) [gD n es] = _
  refine run_fr (m := 1) (ρ' := [.sh (gD n es), .own (.lst (iD (nI (nmE n es)))), .own (gsD gs), .no, .no]) rfl ?_
  show t_Graph_components S_groups [.sh (gD n es), .no, .no, .no, .no] = _
  unfold t_Graph_components
  rw [seq_nx (ρ1 := [.sh (gD n es), .own (.lst (iD (nI (nmE n es)))), .no, .no, .no]) (by simp only [runDef, initE, finR, parD, retV, sSeq, sBind_ok, sBind_exn, sBind_bad, sNext, sIf, sSet, stor, sRet, sRetN, sExpr, sUnp, sAug, sPut, sPutA, sRaise, sBreak, sCont, sFor, obind_ok, obind_exn, obind_bad, retP_some, retP_none, vName, vC, vOp1, vOp2, vTst, vTru, vNot, vAnd, vOr, vIfE, vAndV, vOrV, vChain, vArgs, looks, look, esc, escs, frz, vTup, vLst, vB, vMut, vSl, vNotT, vDic1, vDic1B, vDic0, Slot.mu?, Slot.put, Slot.d?, List.getElem?_cons_zero, List.getElem?_cons_succ, List.getElem?_nil, Option.bind_some, Option.bind_none, Option.map_some, Option.map_none, List.set_cons_zero, List.set_cons_succ, List.set_nil, List.length_cons, List.length_nil, hName, hTup, hCons, hNil, opAdd, opSub, opLt, opLe, opGt, opGe, opLen, opInt, opNeg, opIs, opIsNot, isP, VL.isNon, truD, iAdd, iSub, opEq_int, opNe_int, if_true, if_false, ite_true, ite_false, Bool.not_true, Bool.not_false, Bool.false_eq_true, List.map_cons, List.map_nil, List.replicate_zero, List.replicate_succ, List.append_nil, List.nil_append, List.cons_append, reduceCtorEq, if_pos, Bool.not_eq_true, decide_eq_true_eq, decide_true, decide_false, c_eq, c_lt, c_le, c_ge, Nat.zero_add, Nat.reduceAdd, Pv.vl, s0, s1, s2, s3, s4, fld_v, fld_e, vCall, vCallV, own_groups, g, pg, vCallR])]
  rw [seq_nx (ρ1 := [.sh (gD n es), .own (.lst (iD (nI (nmE n es)))), .own (.dic []), .no, .no]) (by simp only [runDef, initE, finR, parD, retV, sSeq, sBind_ok, sBind_exn, sBind_bad, sNext, sIf, sSet, stor, sRet, sRetN, sExpr, sUnp, sAug, sPut, sPutA, sRaise, sBreak, sCont, sFor, obind_ok, obind_exn, obind_bad, retP_some, retP_none, vName, vC, vOp1, vOp2, vTst, vTru, vNot, vAnd, vOr, vIfE, vAndV, vOrV, vChain, vArgs, looks, look, esc, escs, frz, vTup, vLst, vB, vMut, vSl, vNotT, vDic1, vDic1B, vDic0, Slot.mu?, Slot.put, Slot.d?, List.getElem?_cons_zero, List.getElem?_cons_succ, List.getElem?_nil, Option.bind_some, Option.bind_none, Option.map_some, Option.map_none, List.set_cons_zero, List.set_cons_succ, List.set_nil, List.length_cons, List.length_nil, hName, hTup, hCons, hNil, opAdd, opSub, opLt, opLe, opGt, opGe, opLen, opInt, opNeg, opIs, opIsNot, isP, VL.isNon, truD, iAdd, iSub, opEq_int, opNe_int, if_true, if_false, ite_true, ite_false, Bool.not_true, Bool.not_false, Bool.false_eq_true, List.map_cons, List.map_nil, List.replicate_zero, List.replicate_succ, List.append_nil, List.nil_append, List.cons_append, reduceCtorEq, if_pos, Bool.not_eq_true, decide_eq_true_eq, decide_true, decide_false, c_eq, c_lt, c_le, c_ge, Nat.zero_add, Nat.reduceAdd, Pv.vl, s0, s1, s2, s3, s4])]
  rw [seq_nx sg]
  unfold sRet
  rw [c, sBind_ok]
  rfl
theorem r_conn (hn : n ≤ 60) (ho : okP n es) : S_Graph_is_connected.run [gD n es] = .ret (.sh (.bl (decide ((roots n es).length = 1)))) .non := by
  obtain ⟨ds, r, hl⟩ := r_comp hn ho
  rw [names_roots ho] at hl
  have m := meth0 (n := n) (es := es) (m := "components") (S := S_Graph_components) (ρ := [.sh (gD n es)]) rfl lk_comp r
  have e : ((((roots n es).length : Nat) : Int) = 1) = ((roots n es).length = 1) := propext ⟨fun h => by omega, fun h => by omega⟩
  unfold S_Graph_is_connected t_Graph_is_connected
  simp only [runDef, initE, finR, parD, retV, sSeq, sBind_ok, sBind_exn, sBind_bad, sNext, sIf, sSet, stor, sRet, sRetN, sExpr, sUnp, sAug, sPut, sPutA, sRaise, sBreak, sCont, sFor, obind_ok, obind_exn, obind_bad, retP_some, retP_none, vName, vC, vOp1, vOp2, vTst, vTru, vNot, vAnd, vOr, vIfE, vAndV, vOrV, vChain, vArgs, looks, look, esc, escs, frz, vTup, vLst, vB, vMut, vSl, vNotT, vDic1, vDic1B, vDic0, Slot.mu?, Slot.put, Slot.d?, List.getElem?_cons_zero, List.getElem?_cons_succ, List.getElem?_nil, Option.bind_some, Option.bind_none, Option.map_some, Option.map_none, List.set_cons_zero, List.set_cons_succ, List.set_nil, List.length_cons, List.length_nil, hName, hTup, hCons, hNil, opAdd, opSub, opLt, opLe, opGt, opGe, opLen, opInt, opNeg, opIs, opIsNot, isP, VL.isNon, truD, iAdd, iSub, opEq_int, opNe_int, if_true, if_false, ite_true, ite_false, Bool.not_true, Bool.not_false, Bool.false_eq_true, List.map_cons, List.map_nil, List.replicate_zero, List.replicate_succ, List.append_nil, List.nil_append, List.cons_append, reduceCtorEq, if_pos, Bool.not_eq_true, decide_eq_true_eq, decide_true, decide_false, c_eq, c_lt, c_le, c_ge, Nat.zero_add, Nat.reduceAdd, Pv.vl, s0, s1, s2, s3, s4, Nat.reduceSub, m, hl, e]
end
end CM.K79
/-! K79P: pruefer_word -/
namespace CM.K79
open PySem PySem.Spec PyProof.Rows L2 VL
theorem vCompO_map {α : Type} {h : D → VL.Env → Option VL.Env} {g : STst} {f : SE} {vs : List Nat} {i : Nat} {ρ : VL.Env} {ds : List D} (enc : α → D) (p : α → Bool) (y : α → D) (xs : List α) (hi : ρ[i]? = some (.own (.lst ds))) (hv : i ∉ vs) (hd : ds = xs.map enc) (hl : xs.length ≤ sizeLine)
    (hs : ∀ x ∈ xs, ∃ ρ2, h (enc x) (wipeE (ρ.set i .no) vs) = some ρ2 ∧ g ρ2 = .ok (p x) ρ2 ∧ (p x = true → ∃ v, f ρ2 = .ok v ρ2 ∧ esc ρ2 v = some (y x, ρ2)) ∧ wipeE ρ2 vs = wipeE (ρ.set i .no) vs) :
    vCompO i h g f vs ρ = .ok (.fr (.lst ((xs.filter p).map y))) ((restE vs ρ (wipeE (ρ.set i .no) vs)).set i (.own (.lst ds))) := by
  unfold vCompO
  rw [hi]
  dsimp only
  rw [if_neg hv]
  have c := compF_map enc p y xs [] hs (by simpa using hl)
  rw [← hd] at c
  rw [c]
  rfl
/-! ### an edge is taken out -/
theorem toPs_pairs : ∀ E : Es, toPs (E.map pairD) = some (E.map fun p => PyData.tuple [.int p.1, .int p.2])
  | [] => by simp [toPs]
  | p :: E => by
    have := toPs_pairs E
    simp only [List.map_cons, toPs, this, pairD, D.toP, Option.map_some]
theorem lay_pairs : ∀ E : Es, PyData.canLayAll0 (E.map fun p => PyData.tuple [.int p.1, .int p.2]) = true ∧ PyData.depthAll (E.map fun p => PyData.tuple [.int p.1, .int p.2]) ≤ 3
  | [] => by simp [PyData.canLayAll0, PyData.depthAll]
  | p :: E => by
    obtain ⟨h1, h2⟩ := lay_pairs E
    simp only [List.map_cons, PyData.canLayAll0, PyData.canLay0, h1, PyData.depthAll, PyData.depth]
    exact ⟨rfl, by omega⟩
theorem eqv_pair (p q : Nat × Nat) : PyData.eqv (.tuple [.int p.1, .int p.2]) (.tuple [.int q.1, .int q.2]) = decide (p = q) := by
  obtain ⟨a, b⟩ := p
  obtain ⟨c, d⟩ := q
  simp only [PyData.eqv, PyData.eqvAll, Bool.and_true]
  by_cases h1 : a = c <;> by_cases h2 : b = d <;> simp [c_eq, h1, h2]
theorem erase_at {E : Es} {e : Nat × Nat} (he : e ∈ E) : ∃ j, SeqAt.dataPlace (E.map fun p => PyData.tuple [.int p.1, .int p.2]) (.tuple [.int e.1, .int e.2]) = some j ∧ (E.map pairD).eraseIdx j = (E.erase e).map pairD := by
  unfold SeqAt.dataPlace
  induction E with
  | nil => cases he
  | cons p E ih =>
    rw [List.map_cons, List.findIdx?_cons, eqv_pair]
    by_cases h : p = e
    · subst h
      rw [decide_eq_true rfl, List.erase_cons_head]
      exact ⟨0, rfl, rfl⟩
    · rw [decide_eq_false h]
      obtain ⟨j, h1, h2⟩ := ih ((List.mem_cons.mp he).resolve_left fun z => h z.symm)
      refine ⟨j + 1, ?_, ?_⟩
      · rw [h1]; rfl
      · rw [List.erase_cons_tail (by simpa using h), List.map_cons, List.map_cons, ← h2]
        rfl
theorem remE {E : Es} {e : Nat × Nat} (he : e ∈ E) : mRemoveB (.lst (E.map pairD)) [pairD e] = some (.non, .lst ((E.erase e).map pairD)) := by
  obtain ⟨j, h1, h2⟩ := erase_at he
  have e1 : mRemove (.lst (E.map pairD)) [pairD e] = none := rfl
  have e2 : (pairD e).toP = some (.tuple [.int e.1, .int e.2]) := by simp only [pairD, D.toP, toPs, Option.map_some]
  have s1 : SeqAt.shaped (.list (E.map fun p => PyData.tuple [.int p.1, .int p.2])) = true := (shaped_seq (lay_pairs E).1 (by have := (lay_pairs E).2; omega)).1
  have s2 : SeqAt.shaped (.tuple [.int e.1, .int e.2]) = true := (shaped_seq (by simp [PyData.canLayAll0, PyData.canLay0]) (by simp [PyData.depthAll, PyData.depth])).2
  show (match mRemove (.lst (E.map pairD)) [pairD e] with
    | some r => some r
    | none => match toPs (E.map pairD), (pairD e).toP with
      | some ps, some p => if SeqAt.shaped (.list ps) && SeqAt.shaped p then (SeqAt.dataPlace ps p).map fun j => (D.non, D.lst ((E.map pairD).eraseIdx j)) else none
      | _, _ => none) = _
  rw [e1, toPs_pairs, e2]
  dsimp only
  rw [s1, s2, Bool.and_self, if_pos rfl, h1, Option.map_some, h2]
/-! ### the degrees -/
abbrev dgs (n : Nat) (E : Es) : List Nat := (List.range n).map (dg E)
theorem dgs_at {n v : Nat} (E : Es) (h : v < n) : (dgs n E).getD v 0 = dg E v := by
  rw [List.getD_eq_getElem?_getD, List.getElem?_map, List.getElem?_range h]
  rfl
theorem find_dgs {n l : Nat} {E : Es} (h1 : l < n) (h2 : dg E l = 1) (h3 : ∀ v, v < l → dg E v ≠ 1) : findI (nI (dgs n E)) 1 = some l := by
  unfold findI
  rw [List.findIdx?_eq_some_iff_getElem]
  have at_ : ∀ j (h : j < (nI (dgs n E)).length), (nI (dgs n E))[j] = ((dg E j : Nat) : Int) := fun j h => by simp
  refine ⟨by simpa using h1, by rw [at_, h2]; rfl, fun j hj => ?_⟩
  rw [at_]
  have := h3 j hj
  simp
  omega
theorem dgs_next {n l : Nat} {E : Es} {e : Nat × Nat} (W : Wood n E) (he : e ∈ E) (hl : e.1 = l ∨ e.2 = l) (h1 : dg E l = 1) : ((dgs n E).set l 0).set (oth e l) (dg E (oth e l) - 1) = dgs n (E.erase e) ∧ 0 < dg E (oth e l) ∧ oth e l < n ∧ l < n ∧ oth e l ≠ l := by
  obtain ⟨_, t2, _⟩ := tch_oth (W.nl e he) hl 0
  obtain ⟨o1, o2⟩ := W.ok e he
  have hon : oth e l < n := by unfold oth; split <;> assumption
  have hln : l < n := by rcases hl with h | h <;> rw [← h] <;> assumption
  have dE := fun v => dg_erase he v
  have tc := fun v => (tch_oth (W.nl e he) hl v).1
  refine ⟨?_, by rw [dE, tc, if_pos rfl]; omega, hon, hln, t2⟩
  refine List.ext_getElem (by simp) fun v hv1 hv2 => ?_
  have hvn : v < n := by simpa using hv2
  have z := dE v
  rw [tc v] at z
  rw [List.getElem_set, List.getElem_set]
  have a1 : (dgs n (E.erase e))[v] = dg (E.erase e) v := by simp
  have a2 : (dgs n E)[v]'(by simpa using hvn) = dg E v := by simp
  rw [a1]
  by_cases c1 : oth e l = v
  · have c2 : ¬ l = v := fun y => t2 (c1.trans y.symm)
    rw [if_pos c1, c1]
    rw [if_neg c2, if_pos c1] at z
    omega
  · rw [if_neg c1]
    rw [if_neg c1] at z
    by_cases c2 : l = v
    · subst c2
      rw [if_pos rfl] at z ⊢
      omega
    · rw [if_neg c2] at z ⊢
      rw [a2]
      omega
abbrev Ep (n : Nat) (es E : Es) (acc : List Nat) (y3 y5 y6 y7 y8 y9 : VL.Slot) : VL.Env := [.sh (gD n es), .own (.lst (E.map pairD)), .own (.lst (iD (nI (dgs n E)))), y3, .own (.lst (iD (nI acc))), y5, y6, y7, y8, y9]
theorem pw_turn {n : Nat} {es E : Es} {acc : List Nat} (W : Wood n E) (hne : E ≠ []) (hl : E.length ≤ 1000) (hn : n ≤ 1000) (ha : acc.length ≤ 1000) (y3 y5 y6 y7 y8 y9 : VL.Slot) :
    ∃ l e z6 z7 z8 z9, lf n E = some l ∧ E.find? (hasE l) = some e ∧ b_pruefer_word_0 (Ep n es E acc y3 y5 y6 y7 y8 y9) = .nx (Ep n es (E.erase e) (acc ++ [oth e l]) y3 y5 z6 z7 z8 z9) := by
  obtain ⟨l, e, f1, l1, l2, l3, f2, f3, he, hh⟩ := W.step hne
  obtain ⟨d1, d2, d3, d4, d5⟩ := dgs_next W he hh l2
  refine ⟨l, e, .sh (.int l), .sh (pairD e), keepS y8, .sh (.int (oth e l)), f1, f2, ?_⟩
  have ix : mIndex (.lst (iD (nI (dgs n E)))) [.int 1] = some (.sh (.int (l : Nat))) := by
    show (asInts (iD (nI (dgs n E)))).bind (fun ns => (findI ns 1).map fun j => Pv.sh (.int (j : Nat))) = _
    rw [asInts_map, Option.bind_some, find_dgs l1 l2 l3]
    rfl
  have c : vCompO 1 (hName 8) (vTst (vOp2 opIn (vName 6) (vName 8))) (vName 8) [8] (Ep n es E acc y3 y5 (.sh (.int l)) y7 y8 y9) = .ok (.fr (.lst ((E.filter (hasE l)).map pairD))) (Ep n es E acc y3 y5 (.sh (.int l)) y7 (keepS y8) y9) := by
    have c0 := vCompO_map (h := hName 8) (g := vTst (vOp2 opIn (vName 6) (vName 8))) (f := vName 8) (vs := [8]) (i := 1) (ρ := Ep n es E acc y3 y5 (.sh (.int l)) y7 y8 y9) pairD (hasE l) pairD E rfl (by simp) rfl (by rw [sizeLine_eq]; omega) (fun p hp => by
      have i1 : inP (.int l) (pairD p) = some (hasE l p) := by
        have h := inP_tints (l : Int) [(p.1 : Int), (p.2 : Int)]
        have e1 : decide ((l : Int) ∈ [(p.1 : Int), (p.2 : Int)]) = hasE l p := by
          refine Bool.eq_iff_iff.mpr ?_
          rw [decide_eq_true_eq, hasE_iff, List.mem_cons, List.mem_singleton]
          constructor
          · rintro (q | q)
            · left; omega
            · right; omega
          · rintro (q | q)
            · left; omega
            · right; omega
        rw [e1] at h
        exact h
      refine ⟨_, rfl, ?_, fun _ => ⟨.sh (pairD p), rfl, rfl⟩, rfl⟩
      simp only [runDef, initE, finR, parD, retV, sSeq, sBind_ok, sBind_exn, sBind_bad, sNext, sIf, sSet, stor, sRet, sRetN, sExpr, sUnp, sAug, sPut, sPutA, sRaise, sBreak, sCont, sFor, obind_ok, obind_exn, obind_bad, retP_some, retP_none, vName, vC, vOp1, vOp2, vTst, vTru, vNot, vAnd, vOr, vIfE, vAndV, vOrV, vChain, vArgs, looks, look, esc, escs, frz, vTup, vLst, vB, vMut, vSl, vNotT, vDic1, vDic1B, vDic0, Slot.mu?, Slot.put, Slot.d?, List.getElem?_cons_zero, List.getElem?_cons_succ, List.getElem?_nil, Option.bind_some, Option.bind_none, Option.map_some, Option.map_none, List.set_cons_zero, List.set_cons_succ, List.set_nil, List.length_cons, List.length_nil, hName, hTup, hCons, hNil, opAdd, opSub, opLt, opLe, opGt, opGe, opLen, opInt, opNeg, opIs, opIsNot, isP, VL.isNon, truD, iAdd, iSub, opEq_int, opNe_int, if_true, if_false, ite_true, ite_false, Bool.not_true, Bool.not_false, Bool.false_eq_true, List.map_cons, List.map_nil, List.replicate_zero, List.replicate_succ, List.append_nil, List.nil_append, List.cons_append, reduceCtorEq, if_pos, Bool.not_eq_true, decide_eq_true_eq, decide_true, decide_false, c_eq, c_lt, c_le, c_ge, Nat.zero_add, Nat.reduceAdd, Pv.vl, s0, s1, s2, s3, s4, wipeE, opIn, i1])
    refine c0.trans (congrArg _ ?_)
    cases y8 <;> rfl
  obtain ⟨R, hR⟩ : ∃ R, E.filter (hasE l) = e :: R := by
    cases hq : E.filter (hasE l) with
    | nil => rw [hq] at f3; cases f3
    | cons x R => rw [hq] at f3; cases f3; exact ⟨R, rfl⟩
  rw [hR] at c
  have k0 : opIx (.lst ((e :: R).map pairD)) (.int 0) = some (.sh (pairD e)) := ix_l (i := 0) rfl
  have k1 : opIx (pairD e) (.int 0) = some (.sh (.int e.1)) := rfl
  have k2 : opIx (pairD e) (.int 1) = some (.sh (.int e.2)) := rfl
  have eo : ((e.1 : Nat) : Int) + ((e.2 : Nat) : Int) - (l : Int) = ((oth e l : Nat) : Int) := by
    have := (tch_oth (W.nl e he) hh 0).2.2
    omega
  have ap : mAppend (.lst (iD (nI acc))) [.int (oth e l : Nat)] = some (.non, .lst (iD (nI (acc ++ [oth e l])))) := by
    show (if (iD (nI acc)).length < sizeLine then some (D.non, D.lst (iD (nI acc) ++ [.int (oth e l : Nat)])) else none) = _
    rw [if_pos (by rw [sizeLine_eq, List.length_map, nI_len]; omega)]
    show some (D.non, D.lst (iD (nI acc) ++ iD (nI [oth e l]))) = _
    rw [← List.map_append, ← List.map_append]
  have rm := remE he
  have dl : (dgs n E).length = n := by simp
  have st := put_l (ds := iD (nI (dgs n E))) (i := l) (.int 0) (by rw [List.length_map, nI_len, dl]; exact d4)
  have es1 : (iD (nI (dgs n E))).set l (.int 0) = iD (nI ((dgs n E).set l 0)) := by rw [set_iD, ← nI_set]; rfl
  rw [es1] at st
  have gx : opIx (.lst (iD (nI ((dgs n E).set l 0)))) (.int (oth e l : Nat)) = some (.sh (.int (dg E (oth e l)))) := by
    have h := ix_l (get_iD (l := nI ((dgs n E).set l 0)) (a := oth e l) (by rw [nI_len, List.length_set, dl]; exact d3))
    rw [nI_getD _ _ (by rw [List.length_set, dl]; exact d3)] at h
    have e2 : ((dgs n E).set l 0).getD (oth e l) 0 = dg E (oth e l) := by
      rw [List.getD_eq_getElem?_getD, List.getElem?_set_ne (Ne.symm d5), ← List.getD_eq_getElem?_getD, dgs_at E d3]
    rw [e2] at h
    exact h
  have sb : ((dg E (oth e l) : Nat) : Int) - 1 = ((dg E (oth e l) - 1 : Nat) : Int) := by omega
  have st2 := put_l (ds := iD (nI ((dgs n E).set l 0))) (i := oth e l) (.int (dg E (oth e l) - 1 : Nat)) (by rw [List.length_map, nI_len, List.length_set, dl]; exact d3)
  have es2 : (iD (nI ((dgs n E).set l 0))).set (oth e l) (.int (dg E (oth e l) - 1 : Nat)) = iD (nI (dgs n (E.erase e))) := by rw [set_iD, nI_set, d1]
  rw [es2] at st2
  unfold b_pruefer_word_0
  rw [seq_nx (ρ1 := Ep n es E acc y3 y5 (.sh (.int l)) y7 y8 y9) (by unfold sSet vM; simp only [runDef, initE, finR, parD, retV, sSeq, sBind_ok, sBind_exn, sBind_bad, sNext, sIf, sSet, stor, sRet, sRetN, sExpr, sUnp, sAug, sPut, sPutA, sRaise, sBreak, sCont, sFor, obind_ok, obind_exn, obind_bad, retP_some, retP_none, vName, vC, vOp1, vOp2, vTst, vTru, vNot, vAnd, vOr, vIfE, vAndV, vOrV, vChain, vArgs, looks, look, esc, escs, frz, vTup, vLst, vB, vMut, vSl, vNotT, vDic1, vDic1B, vDic0, Slot.mu?, Slot.put, Slot.d?, List.getElem?_cons_zero, List.getElem?_cons_succ, List.getElem?_nil, Option.bind_some, Option.bind_none, Option.map_some, Option.map_none, List.set_cons_zero, List.set_cons_succ, List.set_nil, List.length_cons, List.length_nil, hName, hTup, hCons, hNil, opAdd, opSub, opLt, opLe, opGt, opGe, opLen, opInt, opNeg, opIs, opIsNot, isP, VL.isNon, truD, iAdd, iSub, opEq_int, opNe_int, if_true, if_false, ite_true, ite_false, Bool.not_true, Bool.not_false, Bool.false_eq_true, List.map_cons, List.map_nil, List.replicate_zero, List.replicate_succ, List.append_nil, List.nil_append, List.cons_append, reduceCtorEq, if_pos, Bool.not_eq_true, decide_eq_true_eq, decide_true, decide_false, c_eq, c_lt, c_le, c_ge, Nat.zero_add, Nat.reduceAdd, Pv.vl, s0, s1, s2, s3, s4, tyD, ix])]
  rw [seq_nx (ρ1 := Ep n es E acc y3 y5 (.sh (.int l)) (.sh (pairD e)) (keepS y8) y9) (by
    have hq : vOp2 opIx (vCompO 1 (hName 8) (vTst (vOp2 opIn (vName 6) (vName 8))) (vName 8) [8]) (vC (.int 0)) (Ep n es E acc y3 y5 (.sh (.int l)) y7 y8 y9) = .ok (.sh (pairD e)) (Ep n es E acc y3 y5 (.sh (.int l)) y7 (keepS y8) y9) := by
      have hv : ∀ (a b : SE) (ρ : VL.Env), vOp2 opIx a b ρ = obind (a ρ) fun va ρ1 => obind (b ρ1) fun vb ρ2 => retP ((look ρ2 (frz va)).bind fun x => (look ρ2 vb).bind fun y => opIx x y) ρ2 := fun _ _ _ => rfl
      rw [hv, c, obind_ok]
      show retP (opIx (.lst ((e :: R).map pairD)) (.int 0)) _ = _
      rw [k0]
      rfl
    unfold sSet
    rw [hq, sBind_ok]
    rfl)]
  rw [seq_nx (ρ1 := Ep n es E acc y3 y5 (.sh (.int l)) (.sh (pairD e)) (keepS y8) (.sh (.int (oth e l)))) (by simp only [runDef, initE, finR, parD, retV, sSeq, sBind_ok, sBind_exn, sBind_bad, sNext, sIf, sSet, stor, sRet, sRetN, sExpr, sUnp, sAug, sPut, sPutA, sRaise, sBreak, sCont, sFor, obind_ok, obind_exn, obind_bad, retP_some, retP_none, vName, vC, vOp1, vOp2, vTst, vTru, vNot, vAnd, vOr, vIfE, vAndV, vOrV, vChain, vArgs, looks, look, esc, escs, frz, vTup, vLst, vB, vMut, vSl, vNotT, vDic1, vDic1B, vDic0, Slot.mu?, Slot.put, Slot.d?, List.getElem?_cons_zero, List.getElem?_cons_succ, List.getElem?_nil, Option.bind_some, Option.bind_none, Option.map_some, Option.map_none, List.set_cons_zero, List.set_cons_succ, List.set_nil, List.length_cons, List.length_nil, hName, hTup, hCons, hNil, opAdd, opSub, opLt, opLe, opGt, opGe, opLen, opInt, opNeg, opIs, opIsNot, isP, VL.isNon, truD, iAdd, iSub, opEq_int, opNe_int, if_true, if_false, ite_true, ite_false, Bool.not_true, Bool.not_false, Bool.false_eq_true, List.map_cons, List.map_nil, List.replicate_zero, List.replicate_succ, List.append_nil, List.nil_append, List.cons_append, reduceCtorEq, if_pos, Bool.not_eq_true, decide_eq_true_eq, decide_true, decide_false, c_eq, c_lt, c_le, c_ge, Nat.zero_add, Nat.reduceAdd, Pv.vl, s0, s1, s2, s3, s4, k1, k2, eo])]
  rw [seq_nx (ρ1 := Ep n es E (acc ++ [oth e l]) y3 y5 (.sh (.int l)) (.sh (pairD e)) (keepS y8) (.sh (.int (oth e l)))) (by simp only [runDef, initE, finR, parD, retV, sSeq, sBind_ok, sBind_exn, sBind_bad, sNext, sIf, sSet, stor, sRet, sRetN, sExpr, sUnp, sAug, sPut, sPutA, sRaise, sBreak, sCont, sFor, obind_ok, obind_exn, obind_bad, retP_some, retP_none, vName, vC, vOp1, vOp2, vTst, vTru, vNot, vAnd, vOr, vIfE, vAndV, vOrV, vChain, vArgs, looks, look, esc, escs, frz, vTup, vLst, vB, vMut, vSl, vNotT, vDic1, vDic1B, vDic0, Slot.mu?, Slot.put, Slot.d?, List.getElem?_cons_zero, List.getElem?_cons_succ, List.getElem?_nil, Option.bind_some, Option.bind_none, Option.map_some, Option.map_none, List.set_cons_zero, List.set_cons_succ, List.set_nil, List.length_cons, List.length_nil, hName, hTup, hCons, hNil, opAdd, opSub, opLt, opLe, opGt, opGe, opLen, opInt, opNeg, opIs, opIsNot, isP, VL.isNon, truD, iAdd, iSub, opEq_int, opNe_int, if_true, if_false, ite_true, ite_false, Bool.not_true, Bool.not_false, Bool.false_eq_true, List.map_cons, List.map_nil, List.replicate_zero, List.replicate_succ, List.append_nil, List.nil_append, List.cons_append, reduceCtorEq, if_pos, Bool.not_eq_true, decide_eq_true_eq, decide_true, decide_false, c_eq, c_lt, c_le, c_ge, Nat.zero_add, Nat.reduceAdd, Pv.vl, s0, s1, s2, s3, s4, tyD, ap])]
  rw [seq_nx (ρ1 := [.sh (gD n es), .own (.lst ((E.erase e).map pairD)), .own (.lst (iD (nI (dgs n E)))), y3, .own (.lst (iD (nI (acc ++ [oth e l])))), y5, .sh (.int l), .sh (pairD e), keepS y8, .sh (.int (oth e l))]) (by simp only [runDef, initE, finR, parD, retV, sSeq, sBind_ok, sBind_exn, sBind_bad, sNext, sIf, sSet, stor, sRet, sRetN, sExpr, sUnp, sAug, sPut, sPutA, sRaise, sBreak, sCont, sFor, obind_ok, obind_exn, obind_bad, retP_some, retP_none, vName, vC, vOp1, vOp2, vTst, vTru, vNot, vAnd, vOr, vIfE, vAndV, vOrV, vChain, vArgs, looks, look, esc, escs, frz, vTup, vLst, vB, vMut, vSl, vNotT, vDic1, vDic1B, vDic0, Slot.mu?, Slot.put, Slot.d?, List.getElem?_cons_zero, List.getElem?_cons_succ, List.getElem?_nil, Option.bind_some, Option.bind_none, Option.map_some, Option.map_none, List.set_cons_zero, List.set_cons_succ, List.set_nil, List.length_cons, List.length_nil, hName, hTup, hCons, hNil, opAdd, opSub, opLt, opLe, opGt, opGe, opLen, opInt, opNeg, opIs, opIsNot, isP, VL.isNon, truD, iAdd, iSub, opEq_int, opNe_int, if_true, if_false, ite_true, ite_false, Bool.not_true, Bool.not_false, Bool.false_eq_true, List.map_cons, List.map_nil, List.replicate_zero, List.replicate_succ, List.append_nil, List.nil_append, List.cons_append, reduceCtorEq, if_pos, Bool.not_eq_true, decide_eq_true_eq, decide_true, decide_false, c_eq, c_lt, c_le, c_ge, Nat.zero_add, Nat.reduceAdd, Pv.vl, s0, s1, s2, s3, s4, tyD, rm])]
  rw [seq_nx (ρ1 := [.sh (gD n es), .own (.lst ((E.erase e).map pairD)), .own (.lst (iD (nI ((dgs n E).set l 0)))), y3, .own (.lst (iD (nI (acc ++ [oth e l])))), y5, .sh (.int l), .sh (pairD e), keepS y8, .sh (.int (oth e l))]) (by simp only [runDef, initE, finR, parD, retV, sSeq, sBind_ok, sBind_exn, sBind_bad, sNext, sIf, sSet, stor, sRet, sRetN, sExpr, sUnp, sAug, sPut, sPutA, sRaise, sBreak, sCont, sFor, obind_ok, obind_exn, obind_bad, retP_some, retP_none, vName, vC, vOp1, vOp2, vTst, vTru, vNot, vAnd, vOr, vIfE, vAndV, vOrV, vChain, vArgs, looks, look, esc, escs, frz, vTup, vLst, vB, vMut, vSl, vNotT, vDic1, vDic1B, vDic0, Slot.mu?, Slot.put, Slot.d?, List.getElem?_cons_zero, List.getElem?_cons_succ, List.getElem?_nil, Option.bind_some, Option.bind_none, Option.map_some, Option.map_none, List.set_cons_zero, List.set_cons_succ, List.set_nil, List.length_cons, List.length_nil, hName, hTup, hCons, hNil, opAdd, opSub, opLt, opLe, opGt, opGe, opLen, opInt, opNeg, opIs, opIsNot, isP, VL.isNon, truD, iAdd, iSub, opEq_int, opNe_int, if_true, if_false, ite_true, ite_false, Bool.not_true, Bool.not_false, Bool.false_eq_true, List.map_cons, List.map_nil, List.replicate_zero, List.replicate_succ, List.append_nil, List.nil_append, List.cons_append, reduceCtorEq, if_pos, Bool.not_eq_true, decide_eq_true_eq, decide_true, decide_false, c_eq, c_lt, c_le, c_ge, Nat.zero_add, Nat.reduceAdd, Pv.vl, s0, s1, s2, s3, s4, st])]
  simp only [runDef, initE, finR, parD, retV, sSeq, sBind_ok, sBind_exn, sBind_bad, sNext, sIf, sSet, stor, sRet, sRetN, sExpr, sUnp, sAug, sPut, sPutA, sRaise, sBreak, sCont, sFor, obind_ok, obind_exn, obind_bad, retP_some, retP_none, vName, vC, vOp1, vOp2, vTst, vTru, vNot, vAnd, vOr, vIfE, vAndV, vOrV, vChain, vArgs, looks, look, esc, escs, frz, vTup, vLst, vB, vMut, vSl, vNotT, vDic1, vDic1B, vDic0, Slot.mu?, Slot.put, Slot.d?, List.getElem?_cons_zero, List.getElem?_cons_succ, List.getElem?_nil, Option.bind_some, Option.bind_none, Option.map_some, Option.map_none, List.set_cons_zero, List.set_cons_succ, List.set_nil, List.length_cons, List.length_nil, hName, hTup, hCons, hNil, opAdd, opSub, opLt, opLe, opGt, opGe, opLen, opInt, opNeg, opIs, opIsNot, isP, VL.isNon, truD, iAdd, iSub, opEq_int, opNe_int, if_true, if_false, ite_true, ite_false, Bool.not_true, Bool.not_false, Bool.false_eq_true, List.map_cons, List.map_nil, List.replicate_zero, List.replicate_succ, List.append_nil, List.nil_append, List.cons_append, reduceCtorEq, if_pos, Bool.not_eq_true, decide_eq_true_eq, decide_true, decide_false, c_eq, c_lt, c_le, c_ge, Nat.zero_add, Nat.reduceAdd, Pv.vl, s0, s1, s2, s3, s4, gx, sb, st2]
theorem r_pw {n : Nat} {es : Es} (W : Wood n es) (h2 : 2 ≤ n) (hn : n ≤ 60) (hm : es.length + 1 = n) (hc : (roots n es).length = 1) : S_pruefer_word.run [gD n es] = .ret (.fr (.lst (iD (nI (prw n (n - 2) es))))) .non := by
  have rc := r_conn (n := n) (es := es) hn W.ok
  rw [decide_eq_true hc] at rc
  have mc := fun ρ (h0 : ρ[0]? = some (.sh (gD n es))) => meth0 (n := n) (es := es) (m := "is_connected") (S := S_Graph_is_connected) (ρ := ρ) h0 lk_conn rc
  obtain ⟨ρ', l1, E, acc, y5, y6, y7, y8, y9, W2, e2, e3, e4, e5⟩ := loopF_inv (h := hName 5) (body := b_pruefer_word_0) (fun i : Nat => D.int (i : Int)) (List.range (n - 2))
    (fun i ρ => ∃ E acc y5 y6 y7 y8 y9, Wood n E ∧ E.length + i + 1 = n ∧ acc ++ prw n (n - 2 - i) E = prw n (n - 2) es ∧ acc.length = i ∧ ρ = Ep n es E acc .no y5 y6 y7 y8 y9)
    (ρ := Ep n es es [] .no .no .no .no .no .no) ⟨es, [], .no, .no, .no, .no, .no, W, by omega, rfl, rfl, rfl⟩ (fun i x ρ hx ⟨E, acc, y5, y6, y7, y8, y9, W2, e2, e3, e4, e5⟩ => by
      subst e5
      obtain ⟨hlt, _⟩ := List.getElem?_eq_some_iff.mp hx
      rw [List.length_range] at hlt
      obtain ⟨l, e, z6, z7, z8, z9, f1, f2, b1⟩ := pw_turn (es := es) (acc := acc) W2 (fun z => by rw [z] at e2; simp at e2; omega) (by omega) (by omega) (by omega) .no (.sh (.int x)) y6 y7 y8 y9
      have he := List.mem_of_find?_eq_some f2
      have pe : prw n (n - 2 - i) E = oth e l :: prw n (n - 2 - (i + 1)) (E.erase e) := by
        have e0 : n - 2 - i = (n - 2 - (i + 1)) + 1 := by omega
        rw [e0]
        show (match lf n E with
          | none => []
          | some l => match E.find? (hasE l) with
            | none => []
            | some e => oth e l :: prw n (n - 2 - (i + 1)) (E.erase e)) = _
        rw [f1]
        show (match E.find? (hasE l) with
            | none => []
            | some e => oth e l :: prw n (n - 2 - (i + 1)) (E.erase e)) = _
        rw [f2]
      refine ⟨_, rfl, _, b1, E.erase e, acc ++ [oth e l], _, _, _, _, _, W2.erase e, ?_, ?_, by rw [List.length_append, e4]; rfl, rfl⟩
      · have := List.length_erase_of_mem he
        have := List.length_pos_of_mem he
        omega
      · rw [← e3, pe, List.append_assoc]
        rfl)
  rw [List.length_range] at e3 e4
  have p0 : n - 2 - (n - 2) = 0 := Nat.sub_self _
  rw [p0, show prw n 0 E = [] from rfl, List.append_nil] at e3
  subst e5
  have c := vComp_map (h := hName 3) (g := vYes) (f := vMeth ("Graph" : Str) ("degree" : Str) S_Graph_degree (vName 0) [(vName 3)]) (vs := [3]) (src := vItR1 [(vOp1 (opFld okC ("vertices" : Str)) (vName 0))]) (ρ := [.sh (gD n es), .own (.lst (es.map pairD)), .no, .no, .no, .no, .no, .no, .no, .no]) (ρ1 := [.sh (gD n es), .own (.lst (es.map pairD)), .no, .no, .no, .no, .no, .no, .no, .no])
    (fun i : Nat => D.int (i : Int)) (fun _ => true) (fun v => D.int (dg es v : Nat)) (List.range n) (r1_ok (k := n) (by simp only [runDef, initE, finR, parD, retV, sSeq, sBind_ok, sBind_exn, sBind_bad, sNext, sIf, sSet, stor, sRet, sRetN, sExpr, sUnp, sAug, sPut, sPutA, sRaise, sBreak, sCont, sFor, obind_ok, obind_exn, obind_bad, retP_some, retP_none, vName, vC, vOp1, vOp2, vTst, vTru, vNot, vAnd, vOr, vIfE, vAndV, vOrV, vChain, vArgs, looks, look, esc, escs, frz, vTup, vLst, vB, vMut, vSl, vNotT, vDic1, vDic1B, vDic0, Slot.mu?, Slot.put, Slot.d?, List.getElem?_cons_zero, List.getElem?_cons_succ, List.getElem?_nil, Option.bind_some, Option.bind_none, Option.map_some, Option.map_none, List.set_cons_zero, List.set_cons_succ, List.set_nil, List.length_cons, List.length_nil, hName, hTup, hCons, hNil, opAdd, opSub, opLt, opLe, opGt, opGe, opLen, opInt, opNeg, opIs, opIsNot, isP, VL.isNon, truD, iAdd, iSub, opEq_int, opNe_int, if_true, if_false, ite_true, ite_false, Bool.not_true, Bool.not_false, Bool.false_eq_true, List.map_cons, List.map_nil, List.replicate_zero, List.replicate_succ, List.append_nil, List.nil_append, List.cons_append, reduceCtorEq, if_pos, Bool.not_eq_true, decide_eq_true_eq, decide_true, decide_false, c_eq, c_lt, c_le, c_ge, Nat.zero_add, Nat.reduceAdd, Pv.vl, s0, s1, s2, s3, s4, fld_v]) (by omega)) rfl (by rw [List.length_range, sizeLine_eq]; omega) (fun v hv => by
      refine ⟨_, rfl, rfl, fun _ => ⟨.sh (.int (dg es v)), ?_, rfl⟩, rfl⟩
      exact meth1 (n := n) (es := es) (m := "degree") (S := S_Graph_degree) (i := 0) rfl lk_deg rfl (r_degree (List.mem_range.mp hv) (by omega)))
  rw [filtT] at c
  have ec : (List.range n).map (fun v => D.int (dg es v : Nat)) = iD (nI (dgs n es)) := by rw [iD_nI, List.map_map]; rfl
  rw [ec] at c
  have i2 : vItR1 [(vOp2 opSub (vOp1 (opFld okC ("vertices" : Str)) (vName 0)) (vC (.int 2)))] (Ep n es es [] .no .no .no .no .no .no) = .ok ((List.range (n - 2)).map fun i : Nat => D.int (i : Int)) (Ep n es es [] .no .no .no .no .no .no) := by
    have e : ((n : Nat) : Int) - 2 = ((n - 2 : Nat) : Int) := by omega
    exact r1_ok (k := n - 2) (by simp only [runDef, initE, finR, parD, retV, sSeq, sBind_ok, sBind_exn, sBind_bad, sNext, sIf, sSet, stor, sRet, sRetN, sExpr, sUnp, sAug, sPut, sPutA, sRaise, sBreak, sCont, sFor, obind_ok, obind_exn, obind_bad, retP_some, retP_none, vName, vC, vOp1, vOp2, vTst, vTru, vNot, vAnd, vOr, vIfE, vAndV, vOrV, vChain, vArgs, looks, look, esc, escs, frz, vTup, vLst, vB, vMut, vSl, vNotT, vDic1, vDic1B, vDic0, Slot.mu?, Slot.put, Slot.d?, List.getElem?_cons_zero, List.getElem?_cons_succ, List.getElem?_nil, Option.bind_some, Option.bind_none, Option.map_some, Option.map_none, List.set_cons_zero, List.set_cons_succ, List.set_nil, List.length_cons, List.length_nil, hName, hTup, hCons, hNil, opAdd, opSub, opLt, opLe, opGt, opGe, opLen, opInt, opNeg, opIs, opIsNot, isP, VL.isNon, truD, iAdd, iSub, opEq_int, opNe_int, if_true, if_false, ite_true, ite_false, Bool.not_true, Bool.not_false, Bool.false_eq_true, List.map_cons, List.map_nil, List.replicate_zero, List.replicate_succ, List.append_nil, List.nil_append, List.cons_append, reduceCtorEq, if_pos, Bool.not_eq_true, decide_eq_true_eq, decide_true, decide_false, c_eq, c_lt, c_le, c_ge, Nat.zero_add, Nat.reduceAdd, Pv.vl, s0, s1, s2, s3, s4, fld_v, e]) (by omega)
  have lt2 : (((n : Nat) : Int) < 2) = False := eq_false (by omega)
  have ne : opNe (.int (es.length : Nat)) (.int ((n : Nat) - 1)) = some (.sh (.bl false)) := by
    rw [opNe_int, decide_eq_true (by omega)]
    rfl
  show runDef 10 1 false (t_pruefer_word S_Graph_is_connected S_Graph_degree) [gD n es] = _
  rw [← e3]
  refine run_own (m := 1) (i := 4) (ρ' := Ep n es E acc .no y5 y6 y7 y8 y9) rfl ?_ rfl
  show t_pruefer_word S_Graph_is_connected S_Graph_degree [.sh (gD n es), .no, .no, .no, .no, .no, .no, .no, .no, .no] = _
  unfold t_pruefer_word
  rw [seq_nx (ρ1 := [.sh (gD n es), .no, .no, .no, .no, .no, .no, .no, .no, .no]) (by
    have m := mc [.sh (gD n es), .no, .no, .no, .no, .no, .no, .no, .no, .no] rfl
    simp only [runDef, initE, finR, parD, retV, sSeq, sBind_ok, sBind_exn, sBind_bad, sNext, sIf, sSet, stor, sRet, sRetN, sExpr, sUnp, sAug, sPut, sPutA, sRaise, sBreak, sCont, sFor, obind_ok, obind_exn, obind_bad, retP_some, retP_none, vName, vC, vOp1, vOp2, vTst, vTru, vNot, vAnd, vOr, vIfE, vAndV, vOrV, vChain, vArgs, looks, look, esc, escs, frz, vTup, vLst, vB, vMut, vSl, vNotT, vDic1, vDic1B, vDic0, Slot.mu?, Slot.put, Slot.d?, List.getElem?_cons_zero, List.getElem?_cons_succ, List.getElem?_nil, Option.bind_some, Option.bind_none, Option.map_some, Option.map_none, List.set_cons_zero, List.set_cons_succ, List.set_nil, List.length_cons, List.length_nil, hName, hTup, hCons, hNil, opAdd, opSub, opLt, opLe, opGt, opGe, opLen, opInt, opNeg, opIs, opIsNot, isP, VL.isNon, truD, iAdd, iSub, opEq_int, opNe_int, if_true, if_false, ite_true, ite_false, Bool.not_true, Bool.not_false, Bool.false_eq_true, List.map_cons, List.map_nil, List.replicate_zero, List.replicate_succ, List.append_nil, List.nil_append, List.cons_append, reduceCtorEq, if_pos, Bool.not_eq_true, decide_eq_true_eq, decide_true, decide_false, c_eq, c_lt, c_le, c_ge, Nat.zero_add, Nat.reduceAdd, Pv.vl, s0, s1, s2, s3, s4, fld_v, fld_e, lt2, m, List.length_map, ne])]
  rw [seq_nx (ρ1 := [.sh (gD n es), .own (.lst (es.map pairD)), .no, .no, .no, .no, .no, .no, .no, .no]) (by simp only [runDef, initE, finR, parD, retV, sSeq, sBind_ok, sBind_exn, sBind_bad, sNext, sIf, sSet, stor, sRet, sRetN, sExpr, sUnp, sAug, sPut, sPutA, sRaise, sBreak, sCont, sFor, obind_ok, obind_exn, obind_bad, retP_some, retP_none, vName, vC, vOp1, vOp2, vTst, vTru, vNot, vAnd, vOr, vIfE, vAndV, vOrV, vChain, vArgs, looks, look, esc, escs, frz, vTup, vLst, vB, vMut, vSl, vNotT, vDic1, vDic1B, vDic0, Slot.mu?, Slot.put, Slot.d?, List.getElem?_cons_zero, List.getElem?_cons_succ, List.getElem?_nil, Option.bind_some, Option.bind_none, Option.map_some, Option.map_none, List.set_cons_zero, List.set_cons_succ, List.set_nil, List.length_cons, List.length_nil, hName, hTup, hCons, hNil, opAdd, opSub, opLt, opLe, opGt, opGe, opLen, opInt, opNeg, opIs, opIsNot, isP, VL.isNon, truD, iAdd, iSub, opEq_int, opNe_int, if_true, if_false, ite_true, ite_false, Bool.not_true, Bool.not_false, Bool.false_eq_true, List.map_cons, List.map_nil, List.replicate_zero, List.replicate_succ, List.append_nil, List.nil_append, List.cons_append, reduceCtorEq, if_pos, Bool.not_eq_true, decide_eq_true_eq, decide_true, decide_false, c_eq, c_lt, c_le, c_ge, Nat.zero_add, Nat.reduceAdd, Pv.vl, s0, s1, s2, s3, s4, fld_e, opList])]
  rw [seq_nx (ρ1 := [.sh (gD n es), .own (.lst (es.map pairD)), .own (.lst (iD (nI (dgs n es)))), .no, .no, .no, .no, .no, .no, .no]) (by unfold sSet; rw [c, sBind_ok]; rfl)]
  rw [seq_nx (ρ1 := Ep n es es [] .no .no .no .no .no .no) (by simp only [runDef, initE, finR, parD, retV, sSeq, sBind_ok, sBind_exn, sBind_bad, sNext, sIf, sSet, stor, sRet, sRetN, sExpr, sUnp, sAug, sPut, sPutA, sRaise, sBreak, sCont, sFor, obind_ok, obind_exn, obind_bad, retP_some, retP_none, vName, vC, vOp1, vOp2, vTst, vTru, vNot, vAnd, vOr, vIfE, vAndV, vOrV, vChain, vArgs, looks, look, esc, escs, frz, vTup, vLst, vB, vMut, vSl, vNotT, vDic1, vDic1B, vDic0, Slot.mu?, Slot.put, Slot.d?, List.getElem?_cons_zero, List.getElem?_cons_succ, List.getElem?_nil, Option.bind_some, Option.bind_none, Option.map_some, Option.map_none, List.set_cons_zero, List.set_cons_succ, List.set_nil, List.length_cons, List.length_nil, hName, hTup, hCons, hNil, opAdd, opSub, opLt, opLe, opGt, opGe, opLen, opInt, opNeg, opIs, opIsNot, isP, VL.isNon, truD, iAdd, iSub, opEq_int, opNe_int, if_true, if_false, ite_true, ite_false, Bool.not_true, Bool.not_false, Bool.false_eq_true, List.map_cons, List.map_nil, List.replicate_zero, List.replicate_succ, List.append_nil, List.nil_append, List.cons_append, reduceCtorEq, if_pos, Bool.not_eq_true, decide_eq_true_eq, decide_true, decide_false, c_eq, c_lt, c_le, c_ge, Nat.zero_add, Nat.reduceAdd, Pv.vl, s0, s1, s2, s3, s4]; rfl)]
  rw [seq_nx (ρ1 := Ep n es E acc .no y5 y6 y7 y8 y9) (by unfold sFor; rw [i2, sBind_ok]; exact l1)]
  rfl
/-- what is no tree is refused -/
theorem r_pwno {n : Nat} {es : Es} (ho : okP n es) (hn : n ≤ 60) (hm : es.length ≤ 1000) (h : n < 2 ∨ (roots n es).length ≠ 1 ∨ es.length + 1 ≠ n) : S_pruefer_word.run [gD n es] = .exn "InvalidGraph" (.str "tree") := by
  have rc := r_conn (n := n) (es := es) hn ho
  have m := meth0 (n := n) (es := es) (m := "is_connected") (S := S_Graph_is_connected) (ρ := [.sh (gD n es), .no, .no, .no, .no, .no, .no, .no, .no, .no]) rfl lk_conn rc
  show runDef 10 1 false (t_pruefer_word S_Graph_is_connected S_Graph_degree) [gD n es] = _
  refine run_exn (m := 1) (ρ' := [.sh (gD n es), .no, .no, .no, .no, .no, .no, .no, .no, .no]) rfl ?_
  show t_pruefer_word S_Graph_is_connected S_Graph_degree [.sh (gD n es), .no, .no, .no, .no, .no, .no, .no, .no, .no] = _
  unfold t_pruefer_word
  by_cases h1 : n < 2
  · have lt2 : (((n : Nat) : Int) < 2) = True := eq_true (by omega)
    simp only [runDef, initE, finR, parD, retV, sSeq, sBind_ok, sBind_exn, sBind_bad, sNext, sIf, sSet, stor, sRet, sRetN, sExpr, sUnp, sAug, sPut, sPutA, sRaise, sBreak, sCont, sFor, obind_ok, obind_exn, obind_bad, retP_some, retP_none, vName, vC, vOp1, vOp2, vTst, vTru, vNot, vAnd, vOr, vIfE, vAndV, vOrV, vChain, vArgs, looks, look, esc, escs, frz, vTup, vLst, vB, vMut, vSl, vNotT, vDic1, vDic1B, vDic0, Slot.mu?, Slot.put, Slot.d?, List.getElem?_cons_zero, List.getElem?_cons_succ, List.getElem?_nil, Option.bind_some, Option.bind_none, Option.map_some, Option.map_none, List.set_cons_zero, List.set_cons_succ, List.set_nil, List.length_cons, List.length_nil, hName, hTup, hCons, hNil, opAdd, opSub, opLt, opLe, opGt, opGe, opLen, opInt, opNeg, opIs, opIsNot, isP, VL.isNon, truD, iAdd, iSub, opEq_int, opNe_int, if_true, if_false, ite_true, ite_false, Bool.not_true, Bool.not_false, Bool.false_eq_true, List.map_cons, List.map_nil, List.replicate_zero, List.replicate_succ, List.append_nil, List.nil_append, List.cons_append, reduceCtorEq, if_pos, Bool.not_eq_true, decide_eq_true_eq, decide_true, decide_false, c_eq, c_lt, c_le, c_ge, Nat.zero_add, Nat.reduceAdd, Pv.vl, s0, s1, s2, s3, s4, fld_v, lt2, ek_tree]
  · have lt2 : (((n : Nat) : Int) < 2) = False := eq_false (by omega)
    by_cases h2 : (roots n es).length = 1
    · rw [decide_eq_true h2] at m
      have ne : opNe (.int (es.length : Nat)) (.int ((n : Nat) - 1)) = some (.sh (.bl true)) := by
        rw [opNe_int, decide_eq_false (by omega)]
        rfl
      simp only [runDef, initE, finR, parD, retV, sSeq, sBind_ok, sBind_exn, sBind_bad, sNext, sIf, sSet, stor, sRet, sRetN, sExpr, sUnp, sAug, sPut, sPutA, sRaise, sBreak, sCont, sFor, obind_ok, obind_exn, obind_bad, retP_some, retP_none, vName, vC, vOp1, vOp2, vTst, vTru, vNot, vAnd, vOr, vIfE, vAndV, vOrV, vChain, vArgs, looks, look, esc, escs, frz, vTup, vLst, vB, vMut, vSl, vNotT, vDic1, vDic1B, vDic0, Slot.mu?, Slot.put, Slot.d?, List.getElem?_cons_zero, List.getElem?_cons_succ, List.getElem?_nil, Option.bind_some, Option.bind_none, Option.map_some, Option.map_none, List.set_cons_zero, List.set_cons_succ, List.set_nil, List.length_cons, List.length_nil, hName, hTup, hCons, hNil, opAdd, opSub, opLt, opLe, opGt, opGe, opLen, opInt, opNeg, opIs, opIsNot, isP, VL.isNon, truD, iAdd, iSub, opEq_int, opNe_int, if_true, if_false, ite_true, ite_false, Bool.not_true, Bool.not_false, Bool.false_eq_true, List.map_cons, List.map_nil, List.replicate_zero, List.replicate_succ, List.append_nil, List.nil_append, List.cons_append, reduceCtorEq, if_pos, Bool.not_eq_true, decide_eq_true_eq, decide_true, decide_false, c_eq, c_lt, c_le, c_ge, Nat.zero_add, Nat.reduceAdd, Pv.vl, s0, s1, s2, s3, s4, fld_v, fld_e, lt2, m, List.length_map, ne, ek_tree]
    · rw [decide_eq_false h2] at m
      simp only [runDef, initE, finR, parD, retV, sSeq, sBind_ok, sBind_exn, sBind_bad, sNext, sIf, sSet, stor, sRet, sRetN, sExpr, sUnp, sAug, sPut, sPutA, sRaise, sBreak, sCont, sFor, obind_ok, obind_exn, obind_bad, retP_some, retP_none, vName, vC, vOp1, vOp2, vTst, vTru, vNot, vAnd, vOr, vIfE, vAndV, vOrV, vChain, vArgs, looks, look, esc, escs, frz, vTup, vLst, vB, vMut, vSl, vNotT, vDic1, vDic1B, vDic0, Slot.mu?, Slot.put, Slot.d?, List.getElem?_cons_zero, List.getElem?_cons_succ, List.getElem?_nil, Option.bind_some, Option.bind_none, Option.map_some, Option.map_none, List.set_cons_zero, List.set_cons_succ, List.set_nil, List.length_cons, List.length_nil, hName, hTup, hCons, hNil, opAdd, opSub, opLt, opLe, opGt, opGe, opLen, opInt, opNeg, opIs, opIsNot, isP, VL.isNon, truD, iAdd, iSub, opEq_int, opNe_int, if_true, if_false, ite_true, ite_false, Bool.not_true, Bool.not_false, Bool.false_eq_true, List.map_cons, List.map_nil, List.replicate_zero, List.replicate_succ, List.append_nil, List.nil_append, List.cons_append, reduceCtorEq, if_pos, Bool.not_eq_true, decide_eq_true_eq, decide_true, decide_false, c_eq, c_lt, c_le, c_ge, Nat.zero_add, Nat.reduceAdd, Pv.vl, s0, s1, s2, s3, s4, fld_v, fld_e, lt2, m, ek_tree]
end CM.K79
/-! K79Q: the tree of a word, by the program and by the law -/
namespace CM.K79
open PySem PySem.Spec PyProof.Rows L2 VL
/-! ### sorted edges -/
def fP (p : Nat × Nat) : List Int := [(p.1 : Int), (p.2 : Int)]
def gN (l : List Int) : Nat × Nat := ((l.getD 0 0).toNat, (l.getD 1 0).toNat)
theorem gN_fP (p : Nat × Nat) : gN (fP p) = p := by
  obtain ⟨a, b⟩ := p
  unfold gN fP
  simp
def sE (T : Es) : Es := (sortT (T.map fP)).map gN
theorem sE_perm (T : Es) : (sE T).Perm T := by
  have h := (sortT_perm (T.map fP)).map gN
  rw [List.map_map] at h
  have e : T.map (gN ∘ fP) = T := (List.map_congr_left fun p _ => gN_fP p).trans (List.map_id _)
  rw [e] at h
  exact h
theorem sE_map (T : Es) : (sE T).map fP = sortT (T.map fP) := by
  unfold sE
  rw [List.map_map]
  refine (List.map_congr_left fun l hl => ?_).trans (List.map_id _)
  obtain ⟨p, _, rfl⟩ := List.mem_map.mp ((sortT_perm _).mem_iff.mp hl)
  show fP (gN (fP p)) = fP p
  rw [gN_fP]
theorem sE_pairs (T : Es) : (sortT (T.map fP)).map tD' = (sE T).map pairD := by
  rw [← sE_map, List.map_map]
  rfl
theorem tupsI_pairs : ∀ T : Es, tupsI (T.map pairD) = some (T.map fP)
  | [] => rfl
  | p :: T => by
    rw [List.map_cons]
    unfold tupsI
    have e : tupI (pairD p) = some (fP p) := rfl
    rw [e, tupsI_pairs T]
    rfl
theorem sort_pairs {T : Es} (h : T ≠ []) : opSortedB [.lst (T.map pairD)] = some (.fr (.lst ((sE T).map pairD))) := by
  have e0 : asInts (T.map pairD) = none := by
    cases T with
    | nil => exact absurd rfl h
    | cons p T => rfl
  have ok : okSort (T.map fP) = true := by
    unfold okSort
    rw [Bool.or_eq_true]
    left
    rw [List.all_eq_true]
    intro l hl
    obtain ⟨p, _, rfl⟩ := List.mem_map.mp hl
    rfl
  show (match asInts (T.map pairD) with
    | some ns => some (Pv.fr (.lst ((sortI ns).map .int)))
    | none => match tupsI (T.map pairD) with
      | some L => if okSort L = true then some (Pv.fr (.lst ((sortT L).map tD'))) else none
      | none => none) = _
  rw [e0, tupsI_pairs]
  dsimp only
  rw [if_pos ok, sE_pairs]
/-! ### the degrees that are left -/
def dT (n : Nat) (ws out : List Nat) : List Nat := (List.range n).map fun v => if v ∈ out then 0 else 1 + ws.count v
theorem dT_len (n : Nat) (ws out : List Nat) : (dT n ws out).length = n := by simp [dT]
theorem dT_at {n v : Nat} (ws out : List Nat) (h : v < n) : (dT n ws out).getD v 0 = if v ∈ out then 0 else 1 + ws.count v := by
  unfold dT
  rw [List.getD_eq_getElem?_getD, List.getElem?_map, List.getElem?_range h]
  rfl
theorem dT_one {n v : Nat} {ws out : List Nat} (h : v < n) : (dT n ws out).getD v 0 = 1 ↔ v ∈ fre n out ws := by
  rw [dT_at ws out h, fre_mem]
  have c := List.count_eq_zero (a := v) (l := ws)
  by_cases ho : v ∈ out
  · rw [if_pos ho]
    exact ⟨fun z => by omega, fun z => absurd ho z.2.1⟩
  · rw [if_neg ho]
    exact ⟨fun z => ⟨h, ho, c.mp (by omega)⟩, fun z => by have := c.mpr z.2.2; omega⟩
theorem head_least {n : Nat} {out ws : List Nat} {l : Nat} {r : List Nat} (e : fre n out ws = l :: r) : ∀ v ∈ fre n out ws, l ≤ v := fun v hv => by
  have h := fre_asc n out ws
  rw [e] at h hv
  rcases List.mem_cons.mp hv with rfl | hv
  · exact Nat.le_refl _
  · exact Nat.le_of_lt ((List.pairwise_cons.mp h).1 v hv)
theorem find_dT {n : Nat} {out ws : List Nat} {l : Nat} {r : List Nat} (e : fre n out ws = l :: r) : findI (nI (dT n ws out)) 1 = some l := by
  have hl : l ∈ fre n out ws := by rw [e]; exact List.mem_cons_self
  have l1 := (fre_mem.mp hl).1
  have at_ : ∀ j (h : j < (nI (dT n ws out)).length), (nI (dT n ws out))[j] = (((dT n ws out).getD j 0 : Nat) : Int) := fun j h => by
    have h2 : j < (dT n ws out).length := by rw [nI_len] at h; exact h
    rw [List.getElem_map, List.getD_eq_getElem?_getD, List.getElem?_eq_getElem h2]
    rfl
  unfold findI
  rw [List.findIdx?_eq_some_iff_getElem]
  refine ⟨by rw [nI_len, dT_len]; exact l1, by rw [at_, (dT_one l1).mpr hl]; rfl, fun j hj => ?_⟩
  have hjn : j < n := by omega
  rw [at_]
  have ne : (dT n ws out).getD j 0 ≠ 1 := fun z => by
    have := head_least e j ((dT_one hjn).mp z)
    omega
  have ne2 : (((dT n ws out).getD j 0 : Nat) : Int) ≠ 1 := by omega
  simpa using ne2
theorem dT_next {n w l : Nat} {ws out : List Nat} (V : Vd n (w :: ws) out) (hl : l ∈ fre n out (w :: ws)) : ((dT n (w :: ws) out).set l 0).set w ((dT n (w :: ws) out).getD w 0 - 1) = dT n ws (out ++ [l]) ∧ 0 < (dT n (w :: ws) out).getD w 0 ∧ w < n ∧ l < n ∧ w ≠ l := by
  obtain ⟨l1, l2, l3⟩ := fre_mem.mp hl
  have wn := V.w w List.mem_cons_self
  have wo := V.d w List.mem_cons_self
  have wl : w ≠ l := fun z => l3 (by rw [← z]; exact List.mem_cons_self)
  have dw : (dT n (w :: ws) out).getD w 0 = 2 + ws.count w := by
    rw [dT_at _ _ wn, if_neg wo, List.count_cons, if_pos (by simp)]
    omega
  refine ⟨?_, by rw [dw]; omega, wn, l1, wl⟩
  rw [dw]
  refine List.ext_getElem (by simp [dT]) fun v hv1 hv2 => ?_
  have hvn : v < n := by simpa [dT] using hv2
  have a1 : (dT n ws (out ++ [l]))[v] = if v ∈ out ++ [l] then 0 else 1 + ws.count v := by simp [dT]
  have a2 : (dT n (w :: ws) out)[v]'(by rw [dT_len]; exact hvn) = if v ∈ out then 0 else 1 + (w :: ws).count v := by simp [dT]
  rw [List.getElem_set, List.getElem_set, a1, a2]
  by_cases c1 : w = v
  · subst c1
    have : w ∉ out ++ [l] := fun z => by
      rcases List.mem_append.mp z with z | z
      · exact wo z
      · exact wl (List.mem_singleton.mp z)
    rw [if_pos rfl, if_neg this]
    omega
  · rw [if_neg c1]
    by_cases c2 : l = v
    · subst c2
      rw [if_pos rfl, if_pos (by simp)]
    · have cw : (w :: ws).count v = ws.count v := by
        rw [List.count_cons, if_neg (by simpa using c1), Nat.add_zero]
      rw [if_neg c2, cw]
      by_cases c3 : v ∈ out
      · rw [if_pos c3, if_pos (List.mem_append_left _ c3)]
      · have : v ∉ out ++ [l] := fun z => by
          rcases List.mem_append.mp z with z | z
          · exact c3 z
          · exact c2 (List.mem_singleton.mp z).symm
        rw [if_neg c3, if_neg this]
theorem min_ev (a b : Nat) : opMin [.int a, .int b] = some (.sh (.int (min a b : Nat))) := by
  show some (Pv.sh (.int (if (b : Int) < a then (b : Int) else a))) = _
  congr 3
  split <;> omega
theorem max_ev (a b : Nat) : opMax [.int a, .int b] = some (.sh (.int (max a b : Nat))) := by
  show some (Pv.sh (.int (if (b : Int) > a then (b : Int) else a))) = _
  congr 3
  split <;> omega
theorem app_pair {T : Es} (p : Nat × Nat) (h : T.length ≤ 1000) : mAppend (.lst (T.map pairD)) [pairD p] = some (.non, .lst ((T ++ [p]).map pairD)) := by
  show (if (T.map pairD).length < sizeLine then some (D.non, D.lst (T.map pairD ++ [pairD p])) else none) = _
  rw [if_pos (by rw [sizeLine_eq, List.length_map]; omega), List.map_append]
  rfl
theorem app_nat {S : List Nat} (e : Nat) (h : S.length ≤ 1000) : mAppend (.lst (iD (nI S))) [.int (e : Nat)] = some (.non, .lst (iD (nI (S ++ [e])))) := by
  show (if (iD (nI S)).length < sizeLine then some (D.non, D.lst (iD (nI S) ++ iD (nI [e]))) else none) = _
  rw [if_pos (by rw [sizeLine_eq, List.length_map, nI_len]; omega), ← List.map_append, ← List.map_append]
/-! ### tree_of_word -/
abbrev Et (w : List Nat) (n : Nat) (ds : List Nat) (T : Es) (y2 y5 y6 : VL.Slot) : VL.Env := [.sh (.lst (iD (nI w))), .sh (.int n), y2, .own (.lst (iD (nI ds))), .own (.lst (T.map pairD)), y5, y6]
theorem tow_turn {n x : Nat} {w ws out : List Nat} {T : Es} (V : Vd n (x :: ws) out) (hT : T.length ≤ 1000) (y5 y6 : VL.Slot) : ∃ l r z5, fre n out (x :: ws) = l :: r ∧ b_tree_of_word_1 (Et w n (dT n (x :: ws) out) T (.sh (.int x)) y5 y6) = .nx (Et w n (dT n ws (out ++ [l])) (T ++ [pr l x]) (.sh (.int x)) z5 y6) := by
  have h2 := fre_len V
  match e : fre n out (x :: ws), h2 with
  | l :: r, _ =>
    have hl : l ∈ fre n out (x :: ws) := by rw [e]; exact List.mem_cons_self
    obtain ⟨d1, d2, d3, d4, d5⟩ := dT_next V hl
    refine ⟨l, r, .sh (.int l), rfl, ?_⟩
    have ix : mIndex (.lst (iD (nI (dT n (x :: ws) out)))) [.int 1] = some (.sh (.int (l : Nat))) := by
      show (asInts (iD (nI (dT n (x :: ws) out)))).bind (fun ns => (findI ns 1).map fun j => Pv.sh (.int (j : Nat))) = _
      rw [asInts_map, Option.bind_some, find_dT e]
      rfl
    have mn := min_ev l x
    have mx := max_ev l x
    have ap : mAppend (.lst (T.map pairD)) [.tup [.int (min l x : Nat), .int (max l x : Nat)]] = _ := app_pair (pr l x) hT
    have st := put_l (ds := iD (nI (dT n (x :: ws) out))) (i := l) (.int 0) (by rw [List.length_map, nI_len, dT_len]; exact d4)
    have es1 : (iD (nI (dT n (x :: ws) out))).set l (.int 0) = iD (nI ((dT n (x :: ws) out).set l 0)) := by rw [set_iD, ← nI_set]; rfl
    rw [es1] at st
    have gx : opIx (.lst (iD (nI ((dT n (x :: ws) out).set l 0)))) (.int (x : Nat)) = some (.sh (.int ((dT n (x :: ws) out).getD x 0 : Nat))) := by
      have h := ix_l (get_iD (l := nI ((dT n (x :: ws) out).set l 0)) (a := x) (by rw [nI_len, List.length_set, dT_len]; exact d3))
      rw [nI_getD _ _ (by rw [List.length_set, dT_len]; exact d3)] at h
      have e2 : ((dT n (x :: ws) out).set l 0).getD x 0 = (dT n (x :: ws) out).getD x 0 := by
        rw [List.getD_eq_getElem?_getD, List.getElem?_set_ne (Ne.symm d5), ← List.getD_eq_getElem?_getD]
      rw [e2] at h
      exact h
    have sb : (((dT n (x :: ws) out).getD x 0 : Nat) : Int) - 1 = (((dT n (x :: ws) out).getD x 0 - 1 : Nat) : Int) := by omega
    have st2 := put_l (ds := iD (nI ((dT n (x :: ws) out).set l 0))) (i := x) (.int ((dT n (x :: ws) out).getD x 0 - 1 : Nat)) (by rw [List.length_map, nI_len, List.length_set, dT_len]; exact d3)
    have es2 : (iD (nI ((dT n (x :: ws) out).set l 0))).set x (.int ((dT n (x :: ws) out).getD x 0 - 1 : Nat)) = iD (nI (dT n ws (out ++ [l]))) := by rw [set_iD, nI_set, d1]
    rw [es2] at st2
    generalize (dT n (x :: ws) out).getD x 0 = dx at *
    unfold b_tree_of_word_1
    rw [seq_nx (ρ1 := Et w n (dT n (x :: ws) out) T (.sh (.int x)) (.sh (.int l)) y6) (by unfold sSet vM; simp only [runDef, initE, finR, parD, retV, sSeq, sBind_ok, sBind_exn, sBind_bad, sNext, sIf, sSet, stor, sRet, sRetN, sExpr, sUnp, sAug, sPut, sPutA, sRaise, sBreak, sCont, sFor, obind_ok, obind_exn, obind_bad, retP_some, retP_none, vName, vC, vOp1, vOp2, vTst, vTru, vNot, vAnd, vOr, vIfE, vAndV, vOrV, vChain, vArgs, looks, look, esc, escs, frz, vTup, vLst, vB, vMut, vSl, vNotT, vDic1, vDic1B, vDic0, Slot.mu?, Slot.put, Slot.d?, List.getElem?_cons_zero, List.getElem?_cons_succ, List.getElem?_nil, Option.bind_some, Option.bind_none, Option.map_some, Option.map_none, List.set_cons_zero, List.set_cons_succ, List.set_nil, List.length_cons, List.length_nil, hName, hTup, hCons, hNil, opAdd, opSub, opLt, opLe, opGt, opGe, opLen, opInt, opNeg, opIs, opIsNot, isP, VL.isNon, truD, iAdd, iSub, opEq_int, opNe_int, if_true, if_false, ite_true, ite_false, Bool.not_true, Bool.not_false, Bool.false_eq_true, List.map_cons, List.map_nil, List.replicate_zero, List.replicate_succ, List.append_nil, List.nil_append, List.cons_append, reduceCtorEq, if_pos, Bool.not_eq_true, decide_eq_true_eq, decide_true, decide_false, c_eq, c_lt, c_le, c_ge, Nat.zero_add, Nat.reduceAdd, Pv.vl, s0, s1, s2, s3, s4, tyD, ix])]
    rw [seq_nx (ρ1 := Et w n (dT n (x :: ws) out) (T ++ [pr l x]) (.sh (.int x)) (.sh (.int l)) y6) (by simp only [runDef, initE, finR, parD, retV, sSeq, sBind_ok, sBind_exn, sBind_bad, sNext, sIf, sSet, stor, sRet, sRetN, sExpr, sUnp, sAug, sPut, sPutA, sRaise, sBreak, sCont, sFor, obind_ok, obind_exn, obind_bad, retP_some, retP_none, vName, vC, vOp1, vOp2, vTst, vTru, vNot, vAnd, vOr, vIfE, vAndV, vOrV, vChain, vArgs, looks, look, esc, escs, frz, vTup, vLst, vB, vMut, vSl, vNotT, vDic1, vDic1B, vDic0, Slot.mu?, Slot.put, Slot.d?, List.getElem?_cons_zero, List.getElem?_cons_succ, List.getElem?_nil, Option.bind_some, Option.bind_none, Option.map_some, Option.map_none, List.set_cons_zero, List.set_cons_succ, List.set_nil, List.length_cons, List.length_nil, hName, hTup, hCons, hNil, opAdd, opSub, opLt, opLe, opGt, opGe, opLen, opInt, opNeg, opIs, opIsNot, isP, VL.isNon, truD, iAdd, iSub, opEq_int, opNe_int, if_true, if_false, ite_true, ite_false, Bool.not_true, Bool.not_false, Bool.false_eq_true, List.map_cons, List.map_nil, List.replicate_zero, List.replicate_succ, List.append_nil, List.nil_append, List.cons_append, reduceCtorEq, if_pos, Bool.not_eq_true, decide_eq_true_eq, decide_true, decide_false, c_eq, c_lt, c_le, c_ge, Nat.zero_add, Nat.reduceAdd, Pv.vl, s0, s1, s2, s3, s4, tyD, mn, mx, ap])]
    rw [seq_nx (ρ1 := Et w n ((dT n (x :: ws) out).set l 0) (T ++ [pr l x]) (.sh (.int x)) (.sh (.int l)) y6) (by simp only [runDef, initE, finR, parD, retV, sSeq, sBind_ok, sBind_exn, sBind_bad, sNext, sIf, sSet, stor, sRet, sRetN, sExpr, sUnp, sAug, sPut, sPutA, sRaise, sBreak, sCont, sFor, obind_ok, obind_exn, obind_bad, retP_some, retP_none, vName, vC, vOp1, vOp2, vTst, vTru, vNot, vAnd, vOr, vIfE, vAndV, vOrV, vChain, vArgs, looks, look, esc, escs, frz, vTup, vLst, vB, vMut, vSl, vNotT, vDic1, vDic1B, vDic0, Slot.mu?, Slot.put, Slot.d?, List.getElem?_cons_zero, List.getElem?_cons_succ, List.getElem?_nil, Option.bind_some, Option.bind_none, Option.map_some, Option.map_none, List.set_cons_zero, List.set_cons_succ, List.set_nil, List.length_cons, List.length_nil, hName, hTup, hCons, hNil, opAdd, opSub, opLt, opLe, opGt, opGe, opLen, opInt, opNeg, opIs, opIsNot, isP, VL.isNon, truD, iAdd, iSub, opEq_int, opNe_int, if_true, if_false, ite_true, ite_false, Bool.not_true, Bool.not_false, Bool.false_eq_true, List.map_cons, List.map_nil, List.replicate_zero, List.replicate_succ, List.append_nil, List.nil_append, List.cons_append, reduceCtorEq, if_pos, Bool.not_eq_true, decide_eq_true_eq, decide_true, decide_false, c_eq, c_lt, c_le, c_ge, Nat.zero_add, Nat.reduceAdd, Pv.vl, s0, s1, s2, s3, s4, st])]
    simp only [runDef, initE, finR, parD, retV, sSeq, sBind_ok, sBind_exn, sBind_bad, sNext, sIf, sSet, stor, sRet, sRetN, sExpr, sUnp, sAug, sPut, sPutA, sRaise, sBreak, sCont, sFor, obind_ok, obind_exn, obind_bad, retP_some, retP_none, vName, vC, vOp1, vOp2, vTst, vTru, vNot, vAnd, vOr, vIfE, vAndV, vOrV, vChain, vArgs, looks, look, esc, escs, frz, vTup, vLst, vB, vMut, vSl, vNotT, vDic1, vDic1B, vDic0, Slot.mu?, Slot.put, Slot.d?, List.getElem?_cons_zero, List.getElem?_cons_succ, List.getElem?_nil, Option.bind_some, Option.bind_none, Option.map_some, Option.map_none, List.set_cons_zero, List.set_cons_succ, List.set_nil, List.length_cons, List.length_nil, hName, hTup, hCons, hNil, opAdd, opSub, opLt, opLe, opGt, opGe, opLen, opInt, opNeg, opIs, opIsNot, isP, VL.isNon, truD, iAdd, iSub, opEq_int, opNe_int, if_true, if_false, ite_true, ite_false, Bool.not_true, Bool.not_false, Bool.false_eq_true, List.map_cons, List.map_nil, List.replicate_zero, List.replicate_succ, List.append_nil, List.nil_append, List.cons_append, reduceCtorEq, if_pos, Bool.not_eq_true, decide_eq_true_eq, decide_true, decide_false, c_eq, c_lt, c_le, c_ge, Nat.zero_add, Nat.reduceAdd, Pv.vl, s0, s1, s2, s3, s4, gx, sb, st2]
theorem tow_loop {n : Nat} {w : List Nat} (y6 : VL.Slot) : ∀ (ws out : List Nat) (T : Es) (y2 y5 : VL.Slot), Vd n ws out → T.length + ws.length ≤ 1000 →
    ∃ out' T' z2 z5, loopF (hName 2) b_tree_of_word_1 (ws.map fun i : Nat => D.int (i : Int)) (Et w n (dT n ws out) T y2 y5 y6) = .nx (Et w n (dT n [] out') T' z2 z5 y6) ∧ Vd n [] out' ∧ T' ++ twE n [] out' = T ++ twE n ws out ∧ T'.length = T.length + ws.length
  | [], out, T, y2, y5, V, _ => ⟨out, T, y2, y5, rfl, V, rfl, rfl⟩
  | x :: ws, out, T, y2, y5, V, hl => by
    rw [List.length_cons] at hl
    obtain ⟨l, r, z5, e, b⟩ := tow_turn (w := w) V (T := T) (by omega) y5 y6
    have V2 := V.next (l := l) (by rw [e]; exact List.mem_cons_self)
    have et : twE n (x :: ws) out = pr l x :: twE n ws (out ++ [l]) := by rw [twE, e]
    obtain ⟨out', T', z2, z5', l1, l2, l3, l4⟩ := tow_loop y6 ws (out ++ [l]) (T ++ [pr l x]) (.sh (.int x)) z5 V2 (by rw [List.length_append, List.length_singleton]; omega)
    refine ⟨out', T', z2, z5', ?_, l2, by rw [l3, et, List.append_assoc]; rfl, by rw [l4, List.length_append, List.length_singleton, List.length_cons]; omega⟩
    rw [List.map_cons]
    unfold loopF
    have hh : hName 2 (D.int (x : Int)) (Et w n (dT n (x :: ws) out) T y2 y5 y6) = some (Et w n (dT n (x :: ws) out) T (.sh (.int x)) y5 y6) := rfl
    rw [hh]
    dsimp only
    rw [b]
    exact l1
theorem count_nI (w : List Nat) (v : Nat) : (nI w).count (v : Int) = w.count v := by
  induction w with
  | nil => rfl
  | cons x w ih =>
    show (((x : Int)) :: nI w).count (v : Int) = _
    rw [List.count_cons, List.count_cons, ih]
    by_cases h : x = v
    · subst h; simp
    · rw [if_neg (by simp; omega), if_neg (by simpa using h)]
theorem r_tow {w : List Nat} {n : Nat} (hn : w.length + 2 = n) (hw : ∀ x ∈ w, x < n) (hl : w.length ≤ 50) : S_tree_of_word.run [.lst (iD (nI w))] = .ret (.fr (gD n (sE (twE n w [])))) .non := by
  have V : Vd n w [] := ⟨List.nodup_nil, fun x hx => (by cases hx), hw, fun x _ z => (by cases z), by rw [List.length_nil]; omega⟩
  obtain ⟨tw1, tw2, _⟩ := tw_ok V
  have en : ((w.length : Nat) : Int) + 2 = ((n : Nat) : Int) := by omega
  -- the check
  obtain ⟨ρa, a1, y2, a2⟩ := loopF_inv (h := hName 2) (body := b_tree_of_word_0) (fun i : Nat => D.int (i : Int)) w (fun i ρ => ∃ y2, ρ = [.sh (.lst (iD (nI w))), .sh (.int n), y2, .no, .no, .no, .no])
    (ρ := [.sh (.lst (iD (nI w))), .sh (.int n), .no, .no, .no, .no, .no]) ⟨_, rfl⟩ (fun i x ρ hx ⟨y2, e⟩ => by
      subst e
      have hxn := hw x (List.mem_iff_getElem?.mpr ⟨i, hx⟩)
      refine ⟨_, rfl, [.sh (.lst (iD (nI w))), .sh (.int n), .sh (.int x), .no, .no, .no, .no], ?_, _, rfl⟩
      unfold b_tree_of_word_0
      simp only [runDef, initE, finR, parD, retV, sSeq, sBind_ok, sBind_exn, sBind_bad, sNext, sIf, sSet, stor, sRet, sRetN, sExpr, sUnp, sAug, sPut, sPutA, sRaise, sBreak, sCont, sFor, obind_ok, obind_exn, obind_bad, retP_some, retP_none, vName, vC, vOp1, vOp2, vTst, vTru, vNot, vAnd, vOr, vIfE, vAndV, vOrV, vChain, vArgs, looks, look, esc, escs, frz, vTup, vLst, vB, vMut, vSl, vNotT, vDic1, vDic1B, vDic0, Slot.mu?, Slot.put, Slot.d?, List.getElem?_cons_zero, List.getElem?_cons_succ, List.getElem?_nil, Option.bind_some, Option.bind_none, Option.map_some, Option.map_none, List.set_cons_zero, List.set_cons_succ, List.set_nil, List.length_cons, List.length_nil, hName, hTup, hCons, hNil, opAdd, opSub, opLt, opLe, opGt, opGe, opLen, opInt, opNeg, opIs, opIsNot, isP, VL.isNon, truD, iAdd, iSub, opEq_int, opNe_int, if_true, if_false, ite_true, ite_false, Bool.not_true, Bool.not_false, Bool.false_eq_true, List.map_cons, List.map_nil, List.replicate_zero, List.replicate_succ, List.append_nil, List.nil_append, List.cons_append, reduceCtorEq, if_pos, Bool.not_eq_true, decide_eq_true_eq, decide_true, decide_false, c_eq, c_lt, c_le, c_ge, Nat.zero_add, Nat.reduceAdd, Pv.vl, s0, s1, s2, s3, s4, hxn])
  subst a2
  have c := vComp_map (h := hName 2) (g := vYes) (f := vOp2 opAdd (vC (.int 1)) (vM "list" mCount (vName 0) [(vName 2)])) (vs := [2]) (src := vItR1 [(vName 1)]) (ρ := [.sh (.lst (iD (nI w))), .sh (.int n), y2, .no, .no, .no, .no]) (ρ1 := [.sh (.lst (iD (nI w))), .sh (.int n), y2, .no, .no, .no, .no])
    (fun i : Nat => D.int (i : Int)) (fun _ => true) (fun v => D.int (1 + w.count v : Nat)) (List.range n) (r1_ok (k := n) rfl (by omega)) rfl (by rw [List.length_range, sizeLine_eq]; omega) (fun v hv => by
      have ct : mCount (.lst (iD (nI w))) [.int v] = some (.sh (.int (w.count v : Nat))) := by
        show (asInts (iD (nI w))).map (fun ns => Pv.sh (.int (ns.count (v : Int) : Nat))) = _
        rw [asInts_map, Option.map_some, count_nI]
      have e1 : (1 : Int) + ((w.count v : Nat) : Int) = ((1 + w.count v : Nat) : Int) := by omega
      refine ⟨_, rfl, rfl, fun _ => ⟨.sh (.int (1 + w.count v : Nat)), ?_, rfl⟩, rfl⟩
      unfold vM
      simp only [runDef, initE, finR, parD, retV, sSeq, sBind_ok, sBind_exn, sBind_bad, sNext, sIf, sSet, stor, sRet, sRetN, sExpr, sUnp, sAug, sPut, sPutA, sRaise, sBreak, sCont, sFor, obind_ok, obind_exn, obind_bad, retP_some, retP_none, vName, vC, vOp1, vOp2, vTst, vTru, vNot, vAnd, vOr, vIfE, vAndV, vOrV, vChain, vArgs, looks, look, esc, escs, frz, vTup, vLst, vB, vMut, vSl, vNotT, vDic1, vDic1B, vDic0, Slot.mu?, Slot.put, Slot.d?, List.getElem?_cons_zero, List.getElem?_cons_succ, List.getElem?_nil, Option.bind_some, Option.bind_none, Option.map_some, Option.map_none, List.set_cons_zero, List.set_cons_succ, List.set_nil, List.length_cons, List.length_nil, hName, hTup, hCons, hNil, opAdd, opSub, opLt, opLe, opGt, opGe, opLen, opInt, opNeg, opIs, opIsNot, isP, VL.isNon, truD, iAdd, iSub, opEq_int, opNe_int, if_true, if_false, ite_true, ite_false, Bool.not_true, Bool.not_false, Bool.false_eq_true, List.map_cons, List.map_nil, List.replicate_zero, List.replicate_succ, List.append_nil, List.nil_append, List.cons_append, reduceCtorEq, if_pos, Bool.not_eq_true, decide_eq_true_eq, decide_true, decide_false, c_eq, c_lt, c_le, c_ge, Nat.zero_add, Nat.reduceAdd, Pv.vl, s0, s1, s2, s3, s4, wipeE, tyD, ct, e1])
  rw [filtT] at c
  have ec : (List.range n).map (fun v => D.int (1 + w.count v : Nat)) = iD (nI (dT n w [])) := by
    rw [iD_nI]
    unfold dT
    rw [List.map_map]
    refine List.map_congr_left fun v _ => ?_
    show _ = D.int (((if v ∈ [] then 0 else 1 + w.count v : Nat)) : Int)
    rw [if_neg (fun z => by cases z)]
  rw [ec] at c
  obtain ⟨out', T', z2, z5, b1, V2, b2, b3⟩ := tow_loop (n := n) (w := w) .no w [] [] (keepS y2) .no V (by simp; omega)
  rw [List.nil_append] at b2
  obtain ⟨u, v, e⟩ := fre_two V2
  have et : twE n [] out' = [(u, v)] := by unfold twE; rw [e]
  rw [et] at b2
  have c2 := vComp_map (h := hName 2) (g := vTst (vOp2 opEq (vOp2 opIx (vName 3) (vName 2)) (vC (.int 1)))) (f := vName 2) (vs := [2]) (src := vItR1 [(vName 1)]) (ρ := Et w n (dT n [] out') T' z2 z5 .no) (ρ1 := Et w n (dT n [] out') T' z2 z5 .no)
    (fun i : Nat => D.int (i : Int)) (fun x => decide ((dT n [] out').getD x 0 = 1)) (fun i : Nat => D.int (i : Int)) (List.range n) (r1_ok (k := n) rfl (by omega)) rfl (by rw [List.length_range, sizeLine_eq]; omega) (fun x hx => by
      have hxn := List.mem_range.mp hx
      have gx := ix_l (get_iD (l := nI (dT n [] out')) (a := x) (by rw [nI_len, dT_len]; exact hxn))
      rw [nI_getD _ _ (by rw [dT_len]; exact hxn)] at gx
      have e1 : ((((dT n [] out').getD x 0 : Nat) : Int) = 1) = ((dT n [] out').getD x 0 = 1) := propext ⟨fun h => by omega, fun h => by omega⟩
      generalize (dT n [] out').getD x 0 = dx at *
      refine ⟨_, rfl, ?_, fun _ => ⟨.sh (.int x), rfl, rfl⟩, rfl⟩
      simp only [runDef, initE, finR, parD, retV, sSeq, sBind_ok, sBind_exn, sBind_bad, sNext, sIf, sSet, stor, sRet, sRetN, sExpr, sUnp, sAug, sPut, sPutA, sRaise, sBreak, sCont, sFor, obind_ok, obind_exn, obind_bad, retP_some, retP_none, vName, vC, vOp1, vOp2, vTst, vTru, vNot, vAnd, vOr, vIfE, vAndV, vOrV, vChain, vArgs, looks, look, esc, escs, frz, vTup, vLst, vB, vMut, vSl, vNotT, vDic1, vDic1B, vDic0, Slot.mu?, Slot.put, Slot.d?, List.getElem?_cons_zero, List.getElem?_cons_succ, List.getElem?_nil, Option.bind_some, Option.bind_none, Option.map_some, Option.map_none, List.set_cons_zero, List.set_cons_succ, List.set_nil, List.length_cons, List.length_nil, hName, hTup, hCons, hNil, opAdd, opSub, opLt, opLe, opGt, opGe, opLen, opInt, opNeg, opIs, opIsNot, isP, VL.isNon, truD, iAdd, iSub, opEq_int, opNe_int, if_true, if_false, ite_true, ite_false, Bool.not_true, Bool.not_false, Bool.false_eq_true, List.map_cons, List.map_nil, List.replicate_zero, List.replicate_succ, List.append_nil, List.nil_append, List.cons_append, reduceCtorEq, if_pos, Bool.not_eq_true, decide_eq_true_eq, decide_true, decide_false, c_eq, c_lt, c_le, c_ge, Nat.zero_add, Nat.reduceAdd, Pv.vl, s0, s1, s2, s3, s4, wipeE, gx, e1])
  have ef : (List.range n).filter (fun x => decide ((dT n [] out').getD x 0 = 1)) = [u, v] := by
    rw [← e]
    unfold fre
    refine List.filter_congr fun x hx => decide_eq_decide.mpr ?_
    have := dT_one (n := n) (v := x) (ws := []) (out := out') (List.mem_range.mp hx)
    rw [fre_mem] at this
    exact this.trans ⟨fun z => z.2, fun z => ⟨List.mem_range.mp hx, z⟩⟩
  rw [ef] at c2
  have k0 : opIx (.lst ([u, v].map fun i : Nat => D.int (i : Int))) (.int 0) = some (.sh (.int u)) := ix_l (i := 0) rfl
  have k1 : opIx (.lst ([u, v].map fun i : Nat => D.int (i : Int))) (.int 1) = some (.sh (.int v)) := ix_l (i := 1) rfl
  have ap : mAppend (.lst (T'.map pairD)) [.tup [.int u, .int v]] = some (.non, .lst ((twE n w []).map pairD)) := by
    have := app_pair (T := T') (u, v) (by rw [b3]; simp; omega)
    rw [b2] at this
    exact this
  have so := sort_pairs (T := twE n w []) (fun z => by rw [z] at tw1; simp at tw1)
  have rg := r_graph n (sE (twE n w [])) (fun p hp => tw2.wood.ok p ((sE_perm _).mem_iff.mp hp)) (by rw [(sE_perm _).length_eq, tw1]; omega)
  have iw : ∀ ρ : VL.Env, ρ[0]? = some (.sh (.lst (iD (nI w)))) → vItA (vName 0) ρ = .ok (w.map fun i : Nat => D.int (i : Int)) ρ := fun ρ h => by rw [← iD_nI]; exact itA_sh h
  show runDef 7 1 false (t_tree_of_word S_Graph) [.lst (iD (nI w))] = _
  refine run_fr (m := 1) (ρ' := Et w n (dT n [] out') (twE n w []) (keepS z2) z5 (.own (.lst ([u, v].map fun i : Nat => D.int (i : Int))))) rfl ?_
  show t_tree_of_word S_Graph [.sh (.lst (iD (nI w))), .no, .no, .no, .no, .no, .no] = _
  unfold t_tree_of_word
  rw [seq_nx (ρ1 := [.sh (.lst (iD (nI w))), .sh (.int n), .no, .no, .no, .no, .no]) (by simp only [runDef, initE, finR, parD, retV, sSeq, sBind_ok, sBind_exn, sBind_bad, sNext, sIf, sSet, stor, sRet, sRetN, sExpr, sUnp, sAug, sPut, sPutA, sRaise, sBreak, sCont, sFor, obind_ok, obind_exn, obind_bad, retP_some, retP_none, vName, vC, vOp1, vOp2, vTst, vTru, vNot, vAnd, vOr, vIfE, vAndV, vOrV, vChain, vArgs, looks, look, esc, escs, frz, vTup, vLst, vB, vMut, vSl, vNotT, vDic1, vDic1B, vDic0, Slot.mu?, Slot.put, Slot.d?, List.getElem?_cons_zero, List.getElem?_cons_succ, List.getElem?_nil, Option.bind_some, Option.bind_none, Option.map_some, Option.map_none, List.set_cons_zero, List.set_cons_succ, List.set_nil, List.length_cons, List.length_nil, hName, hTup, hCons, hNil, opAdd, opSub, opLt, opLe, opGt, opGe, opLen, opInt, opNeg, opIs, opIsNot, isP, VL.isNon, truD, iAdd, iSub, opEq_int, opNe_int, if_true, if_false, ite_true, ite_false, Bool.not_true, Bool.not_false, Bool.false_eq_true, List.map_cons, List.map_nil, List.replicate_zero, List.replicate_succ, List.append_nil, List.nil_append, List.cons_append, reduceCtorEq, if_pos, Bool.not_eq_true, decide_eq_true_eq, decide_true, decide_false, c_eq, c_lt, c_le, c_ge, Nat.zero_add, Nat.reduceAdd, Pv.vl, s0, s1, s2, s3, s4, List.length_map, nI_len, en])]
  rw [seq_nx (ρ1 := [.sh (.lst (iD (nI w))), .sh (.int n), y2, .no, .no, .no, .no]) (by unfold sFor; rw [iw _ rfl, sBind_ok]; exact a1)]
  rw [seq_nx (ρ1 := [.sh (.lst (iD (nI w))), .sh (.int n), keepS y2, .own (.lst (iD (nI (dT n w [])))), .no, .no, .no]) (by
    unfold sSet
    rw [c, sBind_ok]
    cases y2 <;> rfl)]
  rw [seq_nx (ρ1 := Et w n (dT n w []) [] (keepS y2) .no .no) (by simp only [runDef, initE, finR, parD, retV, sSeq, sBind_ok, sBind_exn, sBind_bad, sNext, sIf, sSet, stor, sRet, sRetN, sExpr, sUnp, sAug, sPut, sPutA, sRaise, sBreak, sCont, sFor, obind_ok, obind_exn, obind_bad, retP_some, retP_none, vName, vC, vOp1, vOp2, vTst, vTru, vNot, vAnd, vOr, vIfE, vAndV, vOrV, vChain, vArgs, looks, look, esc, escs, frz, vTup, vLst, vB, vMut, vSl, vNotT, vDic1, vDic1B, vDic0, Slot.mu?, Slot.put, Slot.d?, List.getElem?_cons_zero, List.getElem?_cons_succ, List.getElem?_nil, Option.bind_some, Option.bind_none, Option.map_some, Option.map_none, List.set_cons_zero, List.set_cons_succ, List.set_nil, List.length_cons, List.length_nil, hName, hTup, hCons, hNil, opAdd, opSub, opLt, opLe, opGt, opGe, opLen, opInt, opNeg, opIs, opIsNot, isP, VL.isNon, truD, iAdd, iSub, opEq_int, opNe_int, if_true, if_false, ite_true, ite_false, Bool.not_true, Bool.not_false, Bool.false_eq_true, List.map_cons, List.map_nil, List.replicate_zero, List.replicate_succ, List.append_nil, List.nil_append, List.cons_append, reduceCtorEq, if_pos, Bool.not_eq_true, decide_eq_true_eq, decide_true, decide_false, c_eq, c_lt, c_le, c_ge, Nat.zero_add, Nat.reduceAdd, Pv.vl, s0, s1, s2, s3, s4]; rfl)]
  rw [seq_nx (ρ1 := Et w n (dT n [] out') T' z2 z5 .no) (by unfold sFor; rw [iw _ rfl, sBind_ok]; exact b1)]
  rw [seq_nx (ρ1 := Et w n (dT n [] out') T' (keepS z2) z5 (.own (.lst ([u, v].map fun i : Nat => D.int (i : Int))))) (by
    unfold sSet
    rw [c2, sBind_ok]
    cases z2 <;> rfl)]
  rw [seq_nx (ρ1 := Et w n (dT n [] out') (twE n w []) (keepS z2) z5 (.own (.lst ([u, v].map fun i : Nat => D.int (i : Int))))) (by simp only [List.map_cons, List.map_nil] at k0 k1; simp only [runDef, initE, finR, parD, retV, sSeq, sBind_ok, sBind_exn, sBind_bad, sNext, sIf, sSet, stor, sRet, sRetN, sExpr, sUnp, sAug, sPut, sPutA, sRaise, sBreak, sCont, sFor, obind_ok, obind_exn, obind_bad, retP_some, retP_none, vName, vC, vOp1, vOp2, vTst, vTru, vNot, vAnd, vOr, vIfE, vAndV, vOrV, vChain, vArgs, looks, look, esc, escs, frz, vTup, vLst, vB, vMut, vSl, vNotT, vDic1, vDic1B, vDic0, Slot.mu?, Slot.put, Slot.d?, List.getElem?_cons_zero, List.getElem?_cons_succ, List.getElem?_nil, Option.bind_some, Option.bind_none, Option.map_some, Option.map_none, List.set_cons_zero, List.set_cons_succ, List.set_nil, List.length_cons, List.length_nil, hName, hTup, hCons, hNil, opAdd, opSub, opLt, opLe, opGt, opGe, opLen, opInt, opNeg, opIs, opIsNot, isP, VL.isNon, truD, iAdd, iSub, opEq_int, opNe_int, if_true, if_false, ite_true, ite_false, Bool.not_true, Bool.not_false, Bool.false_eq_true, List.map_cons, List.map_nil, List.replicate_zero, List.replicate_succ, List.append_nil, List.nil_append, List.cons_append, reduceCtorEq, if_pos, Bool.not_eq_true, decide_eq_true_eq, decide_true, decide_false, c_eq, c_lt, c_le, c_ge, Nat.zero_add, Nat.reduceAdd, Pv.vl, s0, s1, s2, s3, s4, tyD, k0, k1, ap])]
  simp only [runDef, initE, finR, parD, retV, sSeq, sBind_ok, sBind_exn, sBind_bad, sNext, sIf, sSet, stor, sRet, sRetN, sExpr, sUnp, sAug, sPut, sPutA, sRaise, sBreak, sCont, sFor, obind_ok, obind_exn, obind_bad, retP_some, retP_none, vName, vC, vOp1, vOp2, vTst, vTru, vNot, vAnd, vOr, vIfE, vAndV, vOrV, vChain, vArgs, looks, look, esc, escs, frz, vTup, vLst, vB, vMut, vSl, vNotT, vDic1, vDic1B, vDic0, Slot.mu?, Slot.put, Slot.d?, List.getElem?_cons_zero, List.getElem?_cons_succ, List.getElem?_nil, Option.bind_some, Option.bind_none, Option.map_some, Option.map_none, List.set_cons_zero, List.set_cons_succ, List.set_nil, List.length_cons, List.length_nil, hName, hTup, hCons, hNil, opAdd, opSub, opLt, opLe, opGt, opGe, opLen, opInt, opNeg, opIs, opIsNot, isP, VL.isNon, truD, iAdd, iSub, opEq_int, opNe_int, if_true, if_false, ite_true, ite_false, Bool.not_true, Bool.not_false, Bool.false_eq_true, List.map_cons, List.map_nil, List.replicate_zero, List.replicate_succ, List.append_nil, List.nil_append, List.cons_append, reduceCtorEq, if_pos, Bool.not_eq_true, decide_eq_true_eq, decide_true, decide_false, c_eq, c_lt, c_le, c_ge, Nat.zero_add, Nat.reduceAdd, Pv.vl, s0, s1, s2, s3, s4, vMake, so, rg]
end CM.K79
/-! K79R: the law's tree of a word -/
namespace CM.K79
open PySem PySem.Spec PyProof.Rows L2 VL
theorem minI_asc : ∀ (r : List Nat) (x : Nat), (∀ y ∈ r, x ≤ y) → minI (x : Int) (nI r) = (x : Int)
  | [], _, _ => rfl
  | y :: r, x, h => by
    show minI (if ((y : Nat) : Int) < (x : Int) then ((y : Nat) : Int) else (x : Int)) (nI r) = _
    have := h y List.mem_cons_self
    rw [if_neg (by omega)]
    exact minI_asc r x fun z hz => h z (List.mem_cons_of_mem _ hz)
theorem min_fre {n l : Nat} {out ws r : List Nat} (e : fre n out ws = l :: r) : opMin [.lst ((fre n out ws).map fun i : Nat => D.int (i : Int))] = some (.sh (.int l)) := by
  have h := fre_asc n out ws
  rw [e] at h ⊢
  have h2 : ∀ y ∈ r, l ≤ y := fun y hy => Nat.le_of_lt ((List.pairwise_cons.mp h).1 y hy)
  rw [← iD_nI]
  show (match asInts (iD (nI (l :: r))) with
    | some (x :: r) => some (Pv.sh (.int (minI x r)))
    | _ => none) = _
  rw [asInts_map]
  show some (Pv.sh (.int (minI (l : Int) (nI r)))) = _
  rw [minI_asc r l h2]
theorem inLn (e : Nat) (S : List Nat) : inP (.int e) (.lst (iD (nI S))) = some (decide (e ∈ S)) := by
  have h := inP_lints (e : Int) (nI S)
  rw [show decide ((e : Int) ∈ nI S) = decide (e ∈ S) from decide_eq_decide.mpr nI_mem] at h
  exact h
theorem cut_from (w : List Nat) {i : Nat} (h : i ≤ w.length) : opSl (.lst (iD (nI w))) (some (i : Nat)) none = some (.fr (.lst (iD (nI (w.drop i))))) := by
  show some (Pv.fr (.lst (VL.cutD (iD (nI w)) (some (i : Nat)) none))) = _
  have : VL.cutD (iD (nI w)) (some (i : Nat)) none = iD (nI (w.drop i)) := by
    unfold VL.cutD
    have hl : (iD (nI w)).length = w.length := by rw [List.length_map, nI_len]
    rw [HT.sIx_nat, HT.sIx_none, hl, Nat.min_eq_left h]
    have e1 : (iD (nI w)).drop i = iD (nI (w.drop i)) := by
      show ((w.map _).map _).drop i = _
      rw [← List.map_drop, ← List.map_drop]
    rw [e1]
    have hl2 : (iD (nI (w.drop i))).length = w.length - i := by rw [List.length_map, nI_len, List.length_drop]
    rw [← hl2, List.take_length]
  rw [this]
abbrev Eq9 (w : List Nat) (n : Nat) (out : List Nat) (T : Es) (y4 y5 y6 : VL.Slot) : VL.Env := [.sh (.lst (iD (nI w))), .sh (.int n), .own (.lst (iD (nI out))), .own (.lst (T.map pairD)), y4, y5, y6]
theorem lt_turn {n i x : Nat} {w out ws : List Nat} {T : Es} (V : Vd n (x :: ws) out) (hd : w.drop i = x :: ws) (hn : n ≤ 100) (hT : T.length ≤ 500) (ho : out.length ≤ 500) (y5 y6 : VL.Slot) :
    ∃ l r z5 z6, fre n out (x :: ws) = l :: r ∧ b__law_tree_0 (Eq9 w n out T (.sh (.int i)) y5 y6) = .nx (Eq9 w n (out ++ [l]) (T ++ [pr l x]) (.sh (.int i)) z5 z6) := by
  have h2 := fre_len V
  match e : fre n out (x :: ws), h2 with
  | l :: r, _ =>
    refine ⟨l, r, .sh (.int l), keepS y6, rfl, ?_⟩
    have hi : i < w.length := by
      rcases Nat.lt_or_ge i w.length with h | h
      · exact h
      · rw [List.drop_eq_nil_of_le h] at hd; cases hd
    have wi : w[i]? = some x := by
      have := congrArg (·[0]?) hd
      simpa using this
    have ct := cut_from w (Nat.le_of_lt hi)
    have c := vComp_map (h := hName 6) (g := vAnd (vTst (vOp2 opNotIn (vName 6) (vName 2))) (vTst (vOp2 opNotIn (vName 6) (vSl (vName 0) (vPart (vName 4)) vNoPart)))) (f := vName 6) (vs := [6]) (src := vItR1 [(vName 1)]) (ρ := Eq9 w n out T (.sh (.int i)) y5 y6) (ρ1 := Eq9 w n out T (.sh (.int i)) y5 y6)
      (fun i : Nat => D.int (i : Int)) (fun v => decide (v ∉ out ∧ v ∉ x :: ws)) (fun i : Nat => D.int (i : Int)) (List.range n) (r1_ok (k := n) rfl (by omega)) rfl (by rw [List.length_range, sizeLine_eq]; omega) (fun v hv => by
        have i1 := inLn v out
        have i2 : inP (.int v) (.lst (iD (nI (w.drop i)))) = some (decide (v ∈ x :: ws)) := (inLn v (w.drop i)).trans (by rw [hd])
        refine ⟨_, rfl, ?_, fun _ => ⟨.sh (.int v), rfl, rfl⟩, rfl⟩
        by_cases h1 : v ∈ out
        · have e1 : decide (v ∉ out ∧ v ∉ x :: ws) = false := decide_eq_false fun z => z.1 h1
          rw [e1]
          rw [decide_eq_true h1] at i1
          simp only [runDef, initE, finR, parD, retV, sSeq, sBind_ok, sBind_exn, sBind_bad, sNext, sIf, sSet, stor, sRet, sRetN, sExpr, sUnp, sAug, sPut, sPutA, sRaise, sBreak, sCont, sFor, obind_ok, obind_exn, obind_bad, retP_some, retP_none, vName, vC, vOp1, vOp2, vTst, vTru, vNot, vAnd, vOr, vIfE, vAndV, vOrV, vChain, vArgs, looks, look, esc, escs, frz, vTup, vLst, vB, vMut, vSl, vNotT, vDic1, vDic1B, vDic0, Slot.mu?, Slot.put, Slot.d?, List.getElem?_cons_zero, List.getElem?_cons_succ, List.getElem?_nil, Option.bind_some, Option.bind_none, Option.map_some, Option.map_none, List.set_cons_zero, List.set_cons_succ, List.set_nil, List.length_cons, List.length_nil, hName, hTup, hCons, hNil, opAdd, opSub, opLt, opLe, opGt, opGe, opLen, opInt, opNeg, opIs, opIsNot, isP, VL.isNon, truD, iAdd, iSub, opEq_int, opNe_int, if_true, if_false, ite_true, ite_false, Bool.not_true, Bool.not_false, Bool.false_eq_true, List.map_cons, List.map_nil, List.replicate_zero, List.replicate_succ, List.append_nil, List.nil_append, List.cons_append, reduceCtorEq, if_pos, Bool.not_eq_true, decide_eq_true_eq, decide_true, decide_false, c_eq, c_lt, c_le, c_ge, Nat.zero_add, Nat.reduceAdd, Pv.vl, s0, s1, s2, s3, s4, wipeE, opNotIn, i1]
        · rw [decide_eq_false h1] at i1
          by_cases h2 : v ∈ x :: ws
          · have e1 : decide (v ∉ out ∧ v ∉ x :: ws) = false := decide_eq_false fun z => z.2 h2
            rw [e1]
            rw [decide_eq_true h2] at i2
            simp only [runDef, initE, finR, parD, retV, sSeq, sBind_ok, sBind_exn, sBind_bad, sNext, sIf, sSet, stor, sRet, sRetN, sExpr, sUnp, sAug, sPut, sPutA, sRaise, sBreak, sCont, sFor, obind_ok, obind_exn, obind_bad, retP_some, retP_none, vName, vC, vOp1, vOp2, vTst, vTru, vNot, vAnd, vOr, vIfE, vAndV, vOrV, vChain, vArgs, looks, look, esc, escs, frz, vTup, vLst, vB, vMut, vSl, vNotT, vDic1, vDic1B, vDic0, Slot.mu?, Slot.put, Slot.d?, List.getElem?_cons_zero, List.getElem?_cons_succ, List.getElem?_nil, Option.bind_some, Option.bind_none, Option.map_some, Option.map_none, List.set_cons_zero, List.set_cons_succ, List.set_nil, List.length_cons, List.length_nil, hName, hTup, hCons, hNil, opAdd, opSub, opLt, opLe, opGt, opGe, opLen, opInt, opNeg, opIs, opIsNot, isP, VL.isNon, truD, iAdd, iSub, opEq_int, opNe_int, if_true, if_false, ite_true, ite_false, Bool.not_true, Bool.not_false, Bool.false_eq_true, List.map_cons, List.map_nil, List.replicate_zero, List.replicate_succ, List.append_nil, List.nil_append, List.cons_append, reduceCtorEq, if_pos, Bool.not_eq_true, decide_eq_true_eq, decide_true, decide_false, c_eq, c_lt, c_le, c_ge, Nat.zero_add, Nat.reduceAdd, Pv.vl, s0, s1, s2, s3, s4, wipeE, opNotIn, i1, vPart, vNoPart, ct, i2]
          · have e1 : decide (v ∉ out ∧ v ∉ x :: ws) = true := decide_eq_true ⟨h1, h2⟩
            rw [e1]
            rw [decide_eq_false h2] at i2
            simp only [runDef, initE, finR, parD, retV, sSeq, sBind_ok, sBind_exn, sBind_bad, sNext, sIf, sSet, stor, sRet, sRetN, sExpr, sUnp, sAug, sPut, sPutA, sRaise, sBreak, sCont, sFor, obind_ok, obind_exn, obind_bad, retP_some, retP_none, vName, vC, vOp1, vOp2, vTst, vTru, vNot, vAnd, vOr, vIfE, vAndV, vOrV, vChain, vArgs, looks, look, esc, escs, frz, vTup, vLst, vB, vMut, vSl, vNotT, vDic1, vDic1B, vDic0, Slot.mu?, Slot.put, Slot.d?, List.getElem?_cons_zero, List.getElem?_cons_succ, List.getElem?_nil, Option.bind_some, Option.bind_none, Option.map_some, Option.map_none, List.set_cons_zero, List.set_cons_succ, List.set_nil, List.length_cons, List.length_nil, hName, hTup, hCons, hNil, opAdd, opSub, opLt, opLe, opGt, opGe, opLen, opInt, opNeg, opIs, opIsNot, isP, VL.isNon, truD, iAdd, iSub, opEq_int, opNe_int, if_true, if_false, ite_true, ite_false, Bool.not_true, Bool.not_false, Bool.false_eq_true, List.map_cons, List.map_nil, List.replicate_zero, List.replicate_succ, List.append_nil, List.nil_append, List.cons_append, reduceCtorEq, if_pos, Bool.not_eq_true, decide_eq_true_eq, decide_true, decide_false, c_eq, c_lt, c_le, c_ge, Nat.zero_add, Nat.reduceAdd, Pv.vl, s0, s1, s2, s3, s4, wipeE, opNotIn, i1, vPart, vNoPart, ct, i2])
    have ef : (List.range n).filter (fun v => decide (v ∉ out ∧ v ∉ x :: ws)) = fre n out (x :: ws) := rfl
    rw [ef] at c
    have mf := min_fre e
    have gx : opIx (.lst (iD (nI w))) (.int (i : Nat)) = some (.sh (.int x)) := by
      have h := ix_l (get_iD (l := nI w) (a := i) (by rw [nI_len]; exact hi))
      rw [nI_getD w i hi, List.getD_eq_getElem?_getD, wi] at h
      exact h
    have mn := min_ev l x
    have mx := max_ev l x
    have ap : mAppend (.lst (T.map pairD)) [.tup [.int (min l x : Nat), .int (max l x : Nat)]] = _ := app_pair (pr l x) (by omega)
    have ao := app_nat (S := out) l (by omega)
    have hc : vB opMin [(vComp (vItR1 [(vName 1)]) (hName 6) (vAnd (vTst (vOp2 opNotIn (vName 6) (vName 2))) (vTst (vOp2 opNotIn (vName 6) (vSl (vName 0) (vPart (vName 4)) vNoPart)))) (vName 6) [6])] (Eq9 w n out T (.sh (.int i)) y5 y6) = .ok (.sh (.int l)) (Eq9 w n out T (.sh (.int i)) y5 (keepS y6)) := by
      have hv : ∀ (op : List D → Option Pv) (a : SE) (ρ ρ1 : VL.Env) (x z : D), a ρ = .ok (.fr x) ρ1 → op [x] = some (.sh z) → vB op [a] ρ = .ok (.sh z) ρ1 := fun op a ρ ρ1 x z h1 h3 => by
        unfold vB vArgs
        rw [h1, obind_ok]
        simp only [runDef, initE, finR, parD, retV, sSeq, sBind_ok, sBind_exn, sBind_bad, sNext, sIf, sSet, stor, sRet, sRetN, sExpr, sUnp, sAug, sPut, sPutA, sRaise, sBreak, sCont, sFor, obind_ok, obind_exn, obind_bad, retP_some, retP_none, vName, vC, vOp1, vOp2, vTst, vTru, vNot, vAnd, vOr, vIfE, vAndV, vOrV, vChain, vArgs, looks, look, esc, escs, frz, vTup, vLst, vB, vMut, vSl, vNotT, vDic1, vDic1B, vDic0, Slot.mu?, Slot.put, Slot.d?, List.getElem?_cons_zero, List.getElem?_cons_succ, List.getElem?_nil, Option.bind_some, Option.bind_none, Option.map_some, Option.map_none, List.set_cons_zero, List.set_cons_succ, List.set_nil, List.length_cons, List.length_nil, hName, hTup, hCons, hNil, opAdd, opSub, opLt, opLe, opGt, opGe, opLen, opInt, opNeg, opIs, opIsNot, isP, VL.isNon, truD, iAdd, iSub, opEq_int, opNe_int, if_true, if_false, ite_true, ite_false, Bool.not_true, Bool.not_false, Bool.false_eq_true, List.map_cons, List.map_nil, List.replicate_zero, List.replicate_succ, List.append_nil, List.nil_append, List.cons_append, reduceCtorEq, if_pos, Bool.not_eq_true, decide_eq_true_eq, decide_true, decide_false, c_eq, c_lt, c_le, c_ge, Nat.zero_add, Nat.reduceAdd, Pv.vl, s0, s1, s2, s3, s4, h3]
      refine hv _ _ _ _ _ _ (c.trans ?_) mf
      cases y6 <;> rfl
    unfold b__law_tree_0
    rw [seq_nx (ρ1 := Eq9 w n out T (.sh (.int i)) (.sh (.int l)) (keepS y6)) (by unfold sSet; rw [hc, sBind_ok]; rfl)]
    rw [seq_nx (ρ1 := Eq9 w n out (T ++ [pr l x]) (.sh (.int i)) (.sh (.int l)) (keepS y6)) (by simp only [runDef, initE, finR, parD, retV, sSeq, sBind_ok, sBind_exn, sBind_bad, sNext, sIf, sSet, stor, sRet, sRetN, sExpr, sUnp, sAug, sPut, sPutA, sRaise, sBreak, sCont, sFor, obind_ok, obind_exn, obind_bad, retP_some, retP_none, vName, vC, vOp1, vOp2, vTst, vTru, vNot, vAnd, vOr, vIfE, vAndV, vOrV, vChain, vArgs, looks, look, esc, escs, frz, vTup, vLst, vB, vMut, vSl, vNotT, vDic1, vDic1B, vDic0, Slot.mu?, Slot.put, Slot.d?, List.getElem?_cons_zero, List.getElem?_cons_succ, List.getElem?_nil, Option.bind_some, Option.bind_none, Option.map_some, Option.map_none, List.set_cons_zero, List.set_cons_succ, List.set_nil, List.length_cons, List.length_nil, hName, hTup, hCons, hNil, opAdd, opSub, opLt, opLe, opGt, opGe, opLen, opInt, opNeg, opIs, opIsNot, isP, VL.isNon, truD, iAdd, iSub, opEq_int, opNe_int, if_true, if_false, ite_true, ite_false, Bool.not_true, Bool.not_false, Bool.false_eq_true, List.map_cons, List.map_nil, List.replicate_zero, List.replicate_succ, List.append_nil, List.nil_append, List.cons_append, reduceCtorEq, if_pos, Bool.not_eq_true, decide_eq_true_eq, decide_true, decide_false, c_eq, c_lt, c_le, c_ge, Nat.zero_add, Nat.reduceAdd, Pv.vl, s0, s1, s2, s3, s4, tyD, gx, mn, mx, ap])]
    simp only [runDef, initE, finR, parD, retV, sSeq, sBind_ok, sBind_exn, sBind_bad, sNext, sIf, sSet, stor, sRet, sRetN, sExpr, sUnp, sAug, sPut, sPutA, sRaise, sBreak, sCont, sFor, obind_ok, obind_exn, obind_bad, retP_some, retP_none, vName, vC, vOp1, vOp2, vTst, vTru, vNot, vAnd, vOr, vIfE, vAndV, vOrV, vChain, vArgs, looks, look, esc, escs, frz, vTup, vLst, vB, vMut, vSl, vNotT, vDic1, vDic1B, vDic0, Slot.mu?, Slot.put, Slot.d?, List.getElem?_cons_zero, List.getElem?_cons_succ, List.getElem?_nil, Option.bind_some, Option.bind_none, Option.map_some, Option.map_none, List.set_cons_zero, List.set_cons_succ, List.set_nil, List.length_cons, List.length_nil, hName, hTup, hCons, hNil, opAdd, opSub, opLt, opLe, opGt, opGe, opLen, opInt, opNeg, opIs, opIsNot, isP, VL.isNon, truD, iAdd, iSub, opEq_int, opNe_int, if_true, if_false, ite_true, ite_false, Bool.not_true, Bool.not_false, Bool.false_eq_true, List.map_cons, List.map_nil, List.replicate_zero, List.replicate_succ, List.append_nil, List.nil_append, List.cons_append, reduceCtorEq, if_pos, Bool.not_eq_true, decide_eq_true_eq, decide_true, decide_false, c_eq, c_lt, c_le, c_ge, Nat.zero_add, Nat.reduceAdd, Pv.vl, s0, s1, s2, s3, s4, tyD, ao]
theorem r_ltree {w : List Nat} {n : Nat} (hn : w.length + 2 = n) (hw : ∀ x ∈ w, x < n) (hl : w.length ≤ 50) : S__law_tree.run [.lst (iD (nI w))] = .ret (.fr (.lst ((sE (twE n w [])).map pairD))) .non := by
  have V : Vd n w [] := ⟨List.nodup_nil, fun x hx => (by cases hx), hw, fun x _ z => (by cases z), by rw [List.length_nil]; omega⟩
  obtain ⟨tw1, tw2, _⟩ := tw_ok V
  have en : ((w.length : Nat) : Int) + 2 = ((n : Nat) : Int) := by omega
  obtain ⟨ρ', l1, out, T, y4, y5, y6, V2, e1, e2, e3, e4⟩ := loopF_inv (h := hName 4) (body := b__law_tree_0) (fun i : Nat => D.int (i : Int)) (List.range w.length)
    (fun i ρ => ∃ out T y4 y5 y6, Vd n (w.drop i) out ∧ T ++ twE n (w.drop i) out = twE n w [] ∧ T.length = i ∧ out.length = i ∧ ρ = Eq9 w n out T y4 y5 y6)
    (ρ := Eq9 w n [] [] .no .no .no) ⟨[], [], .no, .no, .no, V, rfl, rfl, rfl, rfl⟩ (fun i x ρ hx ⟨out, T, y4, y5, y6, V2, e1, e2, e3, e4⟩ => by
      subst e4
      obtain ⟨hlt, hx2⟩ := List.getElem?_eq_some_iff.mp hx
      rw [List.length_range] at hlt
      have ex : x = i := by simpa using hx2.symm
      subst ex
      have hd := List.drop_eq_getElem_cons hlt
      rw [hd] at V2 e1
      obtain ⟨l, r, z5, z6, e, b⟩ := lt_turn (w := w) V2 hd (by omega) (T := T) (by omega) (by omega) y5 y6
      have et : twE n (w[x] :: w.drop (x + 1)) out = pr l w[x] :: twE n (w.drop (x + 1)) (out ++ [l]) := by rw [twE, e]
      refine ⟨_, rfl, _, b, out ++ [l], T ++ [pr l w[x]], _, _, _, V2.next (by rw [e]; exact List.mem_cons_self), ?_, by rw [List.length_append, e2]; rfl, by rw [List.length_append, e3]; rfl, rfl⟩
      rw [← e1, et, List.append_assoc]
      rfl)
  rw [List.length_range, List.drop_length] at V2 e1
  rw [List.length_range] at e2 e3
  subst e4
  obtain ⟨u, v, e⟩ := fre_two V2
  have et : twE n [] out = [(u, v)] := by unfold twE; rw [e]
  rw [et] at e1
  have c := vComp_map (h := hName 6) (g := vTst (vOp2 opNotIn (vName 6) (vName 2))) (f := vName 6) (vs := [6]) (src := vItR1 [(vName 1)]) (ρ := Eq9 w n out T y4 y5 y6) (ρ1 := Eq9 w n out T y4 y5 y6)
    (fun i : Nat => D.int (i : Int)) (fun x => decide (x ∉ out)) (fun i : Nat => D.int (i : Int)) (List.range n) (r1_ok (k := n) rfl (by omega)) rfl (by rw [List.length_range, sizeLine_eq]; omega) (fun x hx => by
      have i1 := inLn x out
      refine ⟨_, rfl, ?_, fun _ => ⟨.sh (.int x), rfl, rfl⟩, rfl⟩
      by_cases h1 : x ∈ out
      · rw [decide_eq_false (not_not_intro h1)]
        rw [decide_eq_true h1] at i1
        simp only [runDef, initE, finR, parD, retV, sSeq, sBind_ok, sBind_exn, sBind_bad, sNext, sIf, sSet, stor, sRet, sRetN, sExpr, sUnp, sAug, sPut, sPutA, sRaise, sBreak, sCont, sFor, obind_ok, obind_exn, obind_bad, retP_some, retP_none, vName, vC, vOp1, vOp2, vTst, vTru, vNot, vAnd, vOr, vIfE, vAndV, vOrV, vChain, vArgs, looks, look, esc, escs, frz, vTup, vLst, vB, vMut, vSl, vNotT, vDic1, vDic1B, vDic0, Slot.mu?, Slot.put, Slot.d?, List.getElem?_cons_zero, List.getElem?_cons_succ, List.getElem?_nil, Option.bind_some, Option.bind_none, Option.map_some, Option.map_none, List.set_cons_zero, List.set_cons_succ, List.set_nil, List.length_cons, List.length_nil, hName, hTup, hCons, hNil, opAdd, opSub, opLt, opLe, opGt, opGe, opLen, opInt, opNeg, opIs, opIsNot, isP, VL.isNon, truD, iAdd, iSub, opEq_int, opNe_int, if_true, if_false, ite_true, ite_false, Bool.not_true, Bool.not_false, Bool.false_eq_true, List.map_cons, List.map_nil, List.replicate_zero, List.replicate_succ, List.append_nil, List.nil_append, List.cons_append, reduceCtorEq, if_pos, Bool.not_eq_true, decide_eq_true_eq, decide_true, decide_false, c_eq, c_lt, c_le, c_ge, Nat.zero_add, Nat.reduceAdd, Pv.vl, s0, s1, s2, s3, s4, wipeE, opNotIn, i1]
      · rw [decide_eq_true h1]
        rw [decide_eq_false h1] at i1
        simp only [runDef, initE, finR, parD, retV, sSeq, sBind_ok, sBind_exn, sBind_bad, sNext, sIf, sSet, stor, sRet, sRetN, sExpr, sUnp, sAug, sPut, sPutA, sRaise, sBreak, sCont, sFor, obind_ok, obind_exn, obind_bad, retP_some, retP_none, vName, vC, vOp1, vOp2, vTst, vTru, vNot, vAnd, vOr, vIfE, vAndV, vOrV, vChain, vArgs, looks, look, esc, escs, frz, vTup, vLst, vB, vMut, vSl, vNotT, vDic1, vDic1B, vDic0, Slot.mu?, Slot.put, Slot.d?, List.getElem?_cons_zero, List.getElem?_cons_succ, List.getElem?_nil, Option.bind_some, Option.bind_none, Option.map_some, Option.map_none, List.set_cons_zero, List.set_cons_succ, List.set_nil, List.length_cons, List.length_nil, hName, hTup, hCons, hNil, opAdd, opSub, opLt, opLe, opGt, opGe, opLen, opInt, opNeg, opIs, opIsNot, isP, VL.isNon, truD, iAdd, iSub, opEq_int, opNe_int, if_true, if_false, ite_true, ite_false, Bool.not_true, Bool.not_false, Bool.false_eq_true, List.map_cons, List.map_nil, List.replicate_zero, List.replicate_succ, List.append_nil, List.nil_append, List.cons_append, reduceCtorEq, if_pos, Bool.not_eq_true, decide_eq_true_eq, decide_true, decide_false, c_eq, c_lt, c_le, c_ge, Nat.zero_add, Nat.reduceAdd, Pv.vl, s0, s1, s2, s3, s4, wipeE, opNotIn, i1])
  have ef : (List.range n).filter (fun x => decide (x ∉ out)) = [u, v] := by
    rw [← e]
    unfold fre
    exact List.filter_congr fun x _ => decide_eq_decide.mpr ⟨fun z => ⟨z, fun y => by cases y⟩, fun z => z.1⟩
  rw [ef] at c
  have ap : mAppend (.lst (T.map pairD)) [.tup ([u, v].map fun i : Nat => D.int (i : Int))] = some (.non, .lst ((twE n w []).map pairD)) := by
    have := app_pair (T := T) (u, v) (by omega)
    rw [e1] at this
    exact this
  have so := sort_pairs (T := twE n w []) (fun z => by rw [z] at tw1; simp at tw1)
  have iw : vItR1 [(vB opLen [(vName 0)])] (Eq9 w n [] [] .no .no .no) = .ok ((List.range w.length).map fun i : Nat => D.int (i : Int)) (Eq9 w n [] [] .no .no .no) := r1_ok (k := w.length) (by simp only [runDef, initE, finR, parD, retV, sSeq, sBind_ok, sBind_exn, sBind_bad, sNext, sIf, sSet, stor, sRet, sRetN, sExpr, sUnp, sAug, sPut, sPutA, sRaise, sBreak, sCont, sFor, obind_ok, obind_exn, obind_bad, retP_some, retP_none, vName, vC, vOp1, vOp2, vTst, vTru, vNot, vAnd, vOr, vIfE, vAndV, vOrV, vChain, vArgs, looks, look, esc, escs, frz, vTup, vLst, vB, vMut, vSl, vNotT, vDic1, vDic1B, vDic0, Slot.mu?, Slot.put, Slot.d?, List.getElem?_cons_zero, List.getElem?_cons_succ, List.getElem?_nil, Option.bind_some, Option.bind_none, Option.map_some, Option.map_none, List.set_cons_zero, List.set_cons_succ, List.set_nil, List.length_cons, List.length_nil, hName, hTup, hCons, hNil, opAdd, opSub, opLt, opLe, opGt, opGe, opLen, opInt, opNeg, opIs, opIsNot, isP, VL.isNon, truD, iAdd, iSub, opEq_int, opNe_int, if_true, if_false, ite_true, ite_false, Bool.not_true, Bool.not_false, Bool.false_eq_true, List.map_cons, List.map_nil, List.replicate_zero, List.replicate_succ, List.append_nil, List.nil_append, List.cons_append, reduceCtorEq, if_pos, Bool.not_eq_true, decide_eq_true_eq, decide_true, decide_false, c_eq, c_lt, c_le, c_ge, Nat.zero_add, Nat.reduceAdd, Pv.vl, s0, s1, s2, s3, s4, List.length_map, nI_len]) (by omega)
  have hc : vB opTuple [(vComp (vItR1 [(vName 1)]) (hName 6) (vTst (vOp2 opNotIn (vName 6) (vName 2))) (vName 6) [6])] (Eq9 w n out T y4 y5 y6) = .ok (.sh (.tup ([u, v].map fun i : Nat => D.int (i : Int)))) (Eq9 w n out T y4 y5 (keepS y6)) := by
    have hv : ∀ (op : List D → Option Pv) (a : SE) (ρ ρ1 : VL.Env) (x z : D), a ρ = .ok (.fr x) ρ1 → op [x] = some (.sh z) → vB op [a] ρ = .ok (.sh z) ρ1 := fun op a ρ ρ1 x z h1 h3 => by
      unfold vB vArgs
      rw [h1, obind_ok]
      simp only [runDef, initE, finR, parD, retV, sSeq, sBind_ok, sBind_exn, sBind_bad, sNext, sIf, sSet, stor, sRet, sRetN, sExpr, sUnp, sAug, sPut, sPutA, sRaise, sBreak, sCont, sFor, obind_ok, obind_exn, obind_bad, retP_some, retP_none, vName, vC, vOp1, vOp2, vTst, vTru, vNot, vAnd, vOr, vIfE, vAndV, vOrV, vChain, vArgs, looks, look, esc, escs, frz, vTup, vLst, vB, vMut, vSl, vNotT, vDic1, vDic1B, vDic0, Slot.mu?, Slot.put, Slot.d?, List.getElem?_cons_zero, List.getElem?_cons_succ, List.getElem?_nil, Option.bind_some, Option.bind_none, Option.map_some, Option.map_none, List.set_cons_zero, List.set_cons_succ, List.set_nil, List.length_cons, List.length_nil, hName, hTup, hCons, hNil, opAdd, opSub, opLt, opLe, opGt, opGe, opLen, opInt, opNeg, opIs, opIsNot, isP, VL.isNon, truD, iAdd, iSub, opEq_int, opNe_int, if_true, if_false, ite_true, ite_false, Bool.not_true, Bool.not_false, Bool.false_eq_true, List.map_cons, List.map_nil, List.replicate_zero, List.replicate_succ, List.append_nil, List.nil_append, List.cons_append, reduceCtorEq, if_pos, Bool.not_eq_true, decide_eq_true_eq, decide_true, decide_false, c_eq, c_lt, c_le, c_ge, Nat.zero_add, Nat.reduceAdd, Pv.vl, s0, s1, s2, s3, s4, h3]
    have c' : vComp (vItR1 [(vName 1)]) (hName 6) (vTst (vOp2 opNotIn (vName 6) (vName 2))) (vName 6) [6] (Eq9 w n out T y4 y5 y6) = .ok (.fr (.lst ([u, v].map fun i : Nat => D.int (i : Int)))) (Eq9 w n out T y4 y5 (keepS y6)) := c.trans (by cases y6 <;> rfl)
    exact hv _ _ _ _ _ _ c' rfl
  show runDef 7 1 false t__law_tree [.lst (iD (nI w))] = _
  refine run_fr (m := 1) (ρ' := Eq9 w n out (twE n w []) y4 y5 (keepS y6)) rfl ?_
  show t__law_tree [.sh (.lst (iD (nI w))), .no, .no, .no, .no, .no, .no] = _
  unfold t__law_tree
  rw [seq_nx (ρ1 := [.sh (.lst (iD (nI w))), .sh (.int n), .no, .no, .no, .no, .no]) (by simp only [runDef, initE, finR, parD, retV, sSeq, sBind_ok, sBind_exn, sBind_bad, sNext, sIf, sSet, stor, sRet, sRetN, sExpr, sUnp, sAug, sPut, sPutA, sRaise, sBreak, sCont, sFor, obind_ok, obind_exn, obind_bad, retP_some, retP_none, vName, vC, vOp1, vOp2, vTst, vTru, vNot, vAnd, vOr, vIfE, vAndV, vOrV, vChain, vArgs, looks, look, esc, escs, frz, vTup, vLst, vB, vMut, vSl, vNotT, vDic1, vDic1B, vDic0, Slot.mu?, Slot.put, Slot.d?, List.getElem?_cons_zero, List.getElem?_cons_succ, List.getElem?_nil, Option.bind_some, Option.bind_none, Option.map_some, Option.map_none, List.set_cons_zero, List.set_cons_succ, List.set_nil, List.length_cons, List.length_nil, hName, hTup, hCons, hNil, opAdd, opSub, opLt, opLe, opGt, opGe, opLen, opInt, opNeg, opIs, opIsNot, isP, VL.isNon, truD, iAdd, iSub, opEq_int, opNe_int, if_true, if_false, ite_true, ite_false, Bool.not_true, Bool.not_false, Bool.false_eq_true, List.map_cons, List.map_nil, List.replicate_zero, List.replicate_succ, List.append_nil, List.nil_append, List.cons_append, reduceCtorEq, if_pos, Bool.not_eq_true, decide_eq_true_eq, decide_true, decide_false, c_eq, c_lt, c_le, c_ge, Nat.zero_add, Nat.reduceAdd, Pv.vl, s0, s1, s2, s3, s4, List.length_map, nI_len, en])]
  rw [seq_nx (ρ1 := [.sh (.lst (iD (nI w))), .sh (.int n), .own (.lst []), .no, .no, .no, .no]) (by simp only [runDef, initE, finR, parD, retV, sSeq, sBind_ok, sBind_exn, sBind_bad, sNext, sIf, sSet, stor, sRet, sRetN, sExpr, sUnp, sAug, sPut, sPutA, sRaise, sBreak, sCont, sFor, obind_ok, obind_exn, obind_bad, retP_some, retP_none, vName, vC, vOp1, vOp2, vTst, vTru, vNot, vAnd, vOr, vIfE, vAndV, vOrV, vChain, vArgs, looks, look, esc, escs, frz, vTup, vLst, vB, vMut, vSl, vNotT, vDic1, vDic1B, vDic0, Slot.mu?, Slot.put, Slot.d?, List.getElem?_cons_zero, List.getElem?_cons_succ, List.getElem?_nil, Option.bind_some, Option.bind_none, Option.map_some, Option.map_none, List.set_cons_zero, List.set_cons_succ, List.set_nil, List.length_cons, List.length_nil, hName, hTup, hCons, hNil, opAdd, opSub, opLt, opLe, opGt, opGe, opLen, opInt, opNeg, opIs, opIsNot, isP, VL.isNon, truD, iAdd, iSub, opEq_int, opNe_int, if_true, if_false, ite_true, ite_false, Bool.not_true, Bool.not_false, Bool.false_eq_true, List.map_cons, List.map_nil, List.replicate_zero, List.replicate_succ, List.append_nil, List.nil_append, List.cons_append, reduceCtorEq, if_pos, Bool.not_eq_true, decide_eq_true_eq, decide_true, decide_false, c_eq, c_lt, c_le, c_ge, Nat.zero_add, Nat.reduceAdd, Pv.vl, s0, s1, s2, s3, s4])]
  rw [seq_nx (ρ1 := Eq9 w n [] [] .no .no .no) (by simp only [runDef, initE, finR, parD, retV, sSeq, sBind_ok, sBind_exn, sBind_bad, sNext, sIf, sSet, stor, sRet, sRetN, sExpr, sUnp, sAug, sPut, sPutA, sRaise, sBreak, sCont, sFor, obind_ok, obind_exn, obind_bad, retP_some, retP_none, vName, vC, vOp1, vOp2, vTst, vTru, vNot, vAnd, vOr, vIfE, vAndV, vOrV, vChain, vArgs, looks, look, esc, escs, frz, vTup, vLst, vB, vMut, vSl, vNotT, vDic1, vDic1B, vDic0, Slot.mu?, Slot.put, Slot.d?, List.getElem?_cons_zero, List.getElem?_cons_succ, List.getElem?_nil, Option.bind_some, Option.bind_none, Option.map_some, Option.map_none, List.set_cons_zero, List.set_cons_succ, List.set_nil, List.length_cons, List.length_nil, hName, hTup, hCons, hNil, opAdd, opSub, opLt, opLe, opGt, opGe, opLen, opInt, opNeg, opIs, opIsNot, isP, VL.isNon, truD, iAdd, iSub, opEq_int, opNe_int, if_true, if_false, ite_true, ite_false, Bool.not_true, Bool.not_false, Bool.false_eq_true, List.map_cons, List.map_nil, List.replicate_zero, List.replicate_succ, List.append_nil, List.nil_append, List.cons_append, reduceCtorEq, if_pos, Bool.not_eq_true, decide_eq_true_eq, decide_true, decide_false, c_eq, c_lt, c_le, c_ge, Nat.zero_add, Nat.reduceAdd, Pv.vl, s0, s1, s2, s3, s4]; rfl)]
  rw [seq_nx (ρ1 := Eq9 w n out T y4 y5 y6) (by unfold sFor; rw [iw, sBind_ok]; exact l1)]
  rw [seq_nx (ρ1 := Eq9 w n out (twE n w []) y4 y5 (keepS y6)) (by
    have hm : vMut "list" mAppend 3 [(vB opTuple [(vComp (vItR1 [(vName 1)]) (hName 6) (vTst (vOp2 opNotIn (vName 6) (vName 2))) (vName 6) [6])])] (Eq9 w n out T y4 y5 y6) = .ok (.sh .non) (Eq9 w n out (twE n w []) y4 y5 (keepS y6)) := by
      unfold vMut vArgs
      rw [hc, obind_ok]
      simp only [runDef, initE, finR, parD, retV, sSeq, sBind_ok, sBind_exn, sBind_bad, sNext, sIf, sSet, stor, sRet, sRetN, sExpr, sUnp, sAug, sPut, sPutA, sRaise, sBreak, sCont, sFor, obind_ok, obind_exn, obind_bad, retP_some, retP_none, vName, vC, vOp1, vOp2, vTst, vTru, vNot, vAnd, vOr, vIfE, vAndV, vOrV, vChain, vArgs, looks, look, esc, escs, frz, vTup, vLst, vB, vMut, vSl, vNotT, vDic1, vDic1B, vDic0, Slot.mu?, Slot.put, Slot.d?, List.getElem?_cons_zero, List.getElem?_cons_succ, List.getElem?_nil, Option.bind_some, Option.bind_none, Option.map_some, Option.map_none, List.set_cons_zero, List.set_cons_succ, List.set_nil, List.length_cons, List.length_nil, hName, hTup, hCons, hNil, opAdd, opSub, opLt, opLe, opGt, opGe, opLen, opInt, opNeg, opIs, opIsNot, isP, VL.isNon, truD, iAdd, iSub, opEq_int, opNe_int, if_true, if_false, ite_true, ite_false, Bool.not_true, Bool.not_false, Bool.false_eq_true, List.map_cons, List.map_nil, List.replicate_zero, List.replicate_succ, List.append_nil, List.nil_append, List.cons_append, reduceCtorEq, if_pos, Bool.not_eq_true, decide_eq_true_eq, decide_true, decide_false, c_eq, c_lt, c_le, c_ge, Nat.zero_add, Nat.reduceAdd, Pv.vl, s0, s1, s2, s3, s4, tyD]
      simp only [List.map_cons, List.map_nil] at ap
      simp only [ap]
    unfold sExpr
    rw [hm, sBind_ok])]
  simp only [runDef, initE, finR, parD, retV, sSeq, sBind_ok, sBind_exn, sBind_bad, sNext, sIf, sSet, stor, sRet, sRetN, sExpr, sUnp, sAug, sPut, sPutA, sRaise, sBreak, sCont, sFor, obind_ok, obind_exn, obind_bad, retP_some, retP_none, vName, vC, vOp1, vOp2, vTst, vTru, vNot, vAnd, vOr, vIfE, vAndV, vOrV, vChain, vArgs, looks, look, esc, escs, frz, vTup, vLst, vB, vMut, vSl, vNotT, vDic1, vDic1B, vDic0, Slot.mu?, Slot.put, Slot.d?, List.getElem?_cons_zero, List.getElem?_cons_succ, List.getElem?_nil, Option.bind_some, Option.bind_none, Option.map_some, Option.map_none, List.set_cons_zero, List.set_cons_succ, List.set_nil, List.length_cons, List.length_nil, hName, hTup, hCons, hNil, opAdd, opSub, opLt, opLe, opGt, opGe, opLen, opInt, opNeg, opIs, opIsNot, isP, VL.isNon, truD, iAdd, iSub, opEq_int, opNe_int, if_true, if_false, ite_true, ite_false, Bool.not_true, Bool.not_false, Bool.false_eq_true, List.map_cons, List.map_nil, List.replicate_zero, List.replicate_succ, List.append_nil, List.nil_append, List.cons_append, reduceCtorEq, if_pos, Bool.not_eq_true, decide_eq_true_eq, decide_true, decide_false, c_eq, c_lt, c_le, c_ge, Nat.zero_add, Nat.reduceAdd, Pv.vl, s0, s1, s2, s3, s4, so]
end CM.K79
/-! K79S: the law's word -/
namespace CM.K79
open PySem PySem.Spec PyProof.Rows L2 VL
theorem B_of {op : List D → Option Pv} {a : SE} {ρ ρ1 : VL.Env} {x z : D} (h1 : a ρ = .ok (.fr x) ρ1) (h3 : op [x] = some (.sh z)) : vB op [a] ρ = .ok (.sh z) ρ1 := by
  unfold vB vArgs
  rw [h1, obind_ok]
  simp only [runDef, initE, finR, parD, retV, sSeq, sBind_ok, sBind_exn, sBind_bad, sNext, sIf, sSet, stor, sRet, sRetN, sExpr, sUnp, sAug, sPut, sPutA, sRaise, sBreak, sCont, sFor, obind_ok, obind_exn, obind_bad, retP_some, retP_none, vName, vC, vOp1, vOp2, vTst, vTru, vNot, vAnd, vOr, vIfE, vAndV, vOrV, vChain, vArgs, looks, look, esc, escs, frz, vTup, vLst, vB, vMut, vSl, vNotT, vDic1, vDic1B, vDic0, Slot.mu?, Slot.put, Slot.d?, List.getElem?_cons_zero, List.getElem?_cons_succ, List.getElem?_nil, Option.bind_some, Option.bind_none, Option.map_some, Option.map_none, List.set_cons_zero, List.set_cons_succ, List.set_nil, List.length_cons, List.length_nil, hName, hTup, hCons, hNil, opAdd, opSub, opLt, opLe, opGt, opGe, opLen, opInt, opNeg, opIs, opIsNot, isP, VL.isNon, truD, iAdd, iSub, opEq_int, opNe_int, if_true, if_false, ite_true, ite_false, Bool.not_true, Bool.not_false, Bool.false_eq_true, List.map_cons, List.map_nil, List.replicate_zero, List.replicate_succ, List.append_nil, List.nil_append, List.cons_append, reduceCtorEq, if_pos, Bool.not_eq_true, decide_eq_true_eq, decide_true, decide_false, c_eq, c_lt, c_le, c_ge, Nat.zero_add, Nat.reduceAdd, Pv.vl, s0, s1, s2, s3, s4, h3]
theorem filt_dg (v : Nat) : ∀ E : Es, (∀ p ∈ E, p.1 ≠ p.2) → (E.filter (hasE v)).length = dg E v
  | [], _ => rfl
  | p :: E, h => by
    have ih := filt_dg v E fun q hq => h q (List.mem_cons_of_mem _ hq)
    rw [dg_cons]
    by_cases c : hasE v p = true
    · rw [List.filter_cons_of_pos c, List.length_cons, ih, tch_one (h p List.mem_cons_self) (hasE_iff.mp c)]
      omega
    · have t0 : tch p v = 0 := by
        rw [hasE_iff] at c
        unfold tch
        rw [if_neg fun z => c (.inl z), if_neg fun z => c (.inr z)]
      rw [List.filter_cons_of_neg c, ih, t0]
      omega
theorem in_pair (l : Nat) (p : Nat × Nat) : inP (.int l) (pairD p) = some (hasE l p) := by
  have h := inP_tints (l : Int) [(p.1 : Int), (p.2 : Int)]
  have e1 : decide ((l : Int) ∈ [(p.1 : Int), (p.2 : Int)]) = hasE l p := by
    refine Bool.eq_iff_iff.mpr ?_
    rw [decide_eq_true_eq, hasE_iff, List.mem_cons, List.mem_singleton]
    constructor
    · rintro (q | q)
      · left; omega
      · right; omega
    · rintro (q | q)
      · left; omega
      · right; omega
  rw [e1] at h
  exact h
abbrev Es9 (n : Nat) (es E : Es) (acc : List Nat) (y3 y5 y6 y7 y8 : VL.Slot) : VL.Env := [.sh (.int n), .sh (.lst (es.map pairD)), .own (.lst (E.map pairD)), y3, .own (.lst (iD (nI acc))), y5, y6, y7, y8]
theorem lw_turn {n : Nat} {es E : Es} {acc : List Nat} (W : Wood n E) (hne : E ≠ []) (hl : E.length ≤ 1000) (hn : n ≤ 1000) (ha : acc.length ≤ 1000) (y3 y5 y6 y7 y8 : VL.Slot) (hk : keepS y3 = y3) :
    ∃ l e z3 z6 z7 z8, lf n E = some l ∧ E.find? (hasE l) = some e ∧ b__law_word_0 (Es9 n es E acc y3 y5 y6 y7 y8) = .nx (Es9 n es (E.erase e) (acc ++ [oth e l]) z3 y5 z6 z7 z8) ∧ keepS z3 = z3 := by
  obtain ⟨l, e, f1, l1, l2, l3, f2, f3, he, hh⟩ := W.step hne
  refine ⟨l, e, .sh (pairD e), .sh (.int l), keepS y7, keepS y8, f1, f2, ?_, rfl⟩
  have c := vComp_map (h := hName 7) (g := vTst (vOp2 opEq (vB opLen [(vCompO 2 (hName 3) (vTst (vOp2 opIn (vName 7) (vName 3))) (vC (.int 1)) [3])]) (vC (.int 1)))) (f := vName 7) (vs := [7]) (src := vItR1 [(vName 0)]) (ρ := Es9 n es E acc (keepS y3) y5 y6 y7 y8) (ρ1 := Es9 n es E acc (keepS y3) y5 y6 y7 y8)
    (fun i : Nat => D.int (i : Int)) (fun v => decide (dg E v = 1)) (fun i : Nat => D.int (i : Int)) (List.range n) (r1_ok (k := n) rfl (by omega)) rfl (by rw [List.length_range, sizeLine_eq]; omega) (fun v hv => by
      have c0 := vCompO_map (h := hName 3) (g := vTst (vOp2 opIn (vName 7) (vName 3))) (f := vC (.int 1)) (vs := [3]) (i := 2) (ρ := Es9 n es E acc (keepS y3) y5 y6 (.sh (.int v)) y8) pairD (hasE v) (fun _ => D.int 1) E rfl (by simp) rfl (by rw [sizeLine_eq]; omega) (fun p hp => by
        have i1 := in_pair v p
        refine ⟨_, rfl, ?_, fun _ => ⟨.sh (.int 1), rfl, rfl⟩, rfl⟩
        simp only [runDef, initE, finR, parD, retV, sSeq, sBind_ok, sBind_exn, sBind_bad, sNext, sIf, sSet, stor, sRet, sRetN, sExpr, sUnp, sAug, sPut, sPutA, sRaise, sBreak, sCont, sFor, obind_ok, obind_exn, obind_bad, retP_some, retP_none, vName, vC, vOp1, vOp2, vTst, vTru, vNot, vAnd, vOr, vIfE, vAndV, vOrV, vChain, vArgs, looks, look, esc, escs, frz, vTup, vLst, vB, vMut, vSl, vNotT, vDic1, vDic1B, vDic0, Slot.mu?, Slot.put, Slot.d?, List.getElem?_cons_zero, List.getElem?_cons_succ, List.getElem?_nil, Option.bind_some, Option.bind_none, Option.map_some, Option.map_none, List.set_cons_zero, List.set_cons_succ, List.set_nil, List.length_cons, List.length_nil, hName, hTup, hCons, hNil, opAdd, opSub, opLt, opLe, opGt, opGe, opLen, opInt, opNeg, opIs, opIsNot, isP, VL.isNon, truD, iAdd, iSub, opEq_int, opNe_int, if_true, if_false, ite_true, ite_false, Bool.not_true, Bool.not_false, Bool.false_eq_true, List.map_cons, List.map_nil, List.replicate_zero, List.replicate_succ, List.append_nil, List.nil_append, List.cons_append, reduceCtorEq, if_pos, Bool.not_eq_true, decide_eq_true_eq, decide_true, decide_false, c_eq, c_lt, c_le, c_ge, Nat.zero_add, Nat.reduceAdd, Pv.vl, s0, s1, s2, s3, s4, wipeE, opIn, i1])
      have c1 : vCompO 2 (hName 3) (vTst (vOp2 opIn (vName 7) (vName 3))) (vC (.int 1)) [3] (Es9 n es E acc (keepS y3) y5 y6 (.sh (.int v)) y8) = .ok (.fr (.lst ((E.filter (hasE v)).map fun _ => D.int 1))) (Es9 n es E acc (keepS y3) y5 y6 (.sh (.int v)) y8) := by
        refine c0.trans (congrArg _ ?_)
        cases y3 <;> rfl
      have e1 : (((dg E v : Nat) : Int) = 1) = (dg E v = 1) := propext ⟨fun h => by omega, fun h => by omega⟩
      have hv2 : vB opLen [(vCompO 2 (hName 3) (vTst (vOp2 opIn (vName 7) (vName 3))) (vC (.int 1)) [3])] (Es9 n es E acc (keepS y3) y5 y6 (.sh (.int v)) y8) = .ok (.sh (.int (dg E v : Nat))) (Es9 n es E acc (keepS y3) y5 y6 (.sh (.int v)) y8) := by
        unfold vB vArgs
        rw [c1, obind_ok]
        simp only [runDef, initE, finR, parD, retV, sSeq, sBind_ok, sBind_exn, sBind_bad, sNext, sIf, sSet, stor, sRet, sRetN, sExpr, sUnp, sAug, sPut, sPutA, sRaise, sBreak, sCont, sFor, obind_ok, obind_exn, obind_bad, retP_some, retP_none, vName, vC, vOp1, vOp2, vTst, vTru, vNot, vAnd, vOr, vIfE, vAndV, vOrV, vChain, vArgs, looks, look, esc, escs, frz, vTup, vLst, vB, vMut, vSl, vNotT, vDic1, vDic1B, vDic0, Slot.mu?, Slot.put, Slot.d?, List.getElem?_cons_zero, List.getElem?_cons_succ, List.getElem?_nil, Option.bind_some, Option.bind_none, Option.map_some, Option.map_none, List.set_cons_zero, List.set_cons_succ, List.set_nil, List.length_cons, List.length_nil, hName, hTup, hCons, hNil, opAdd, opSub, opLt, opLe, opGt, opGe, opLen, opInt, opNeg, opIs, opIsNot, isP, VL.isNon, truD, iAdd, iSub, opEq_int, opNe_int, if_true, if_false, ite_true, ite_false, Bool.not_true, Bool.not_false, Bool.false_eq_true, List.map_cons, List.map_nil, List.replicate_zero, List.replicate_succ, List.append_nil, List.nil_append, List.cons_append, reduceCtorEq, if_pos, Bool.not_eq_true, decide_eq_true_eq, decide_true, decide_false, c_eq, c_lt, c_le, c_ge, Nat.zero_add, Nat.reduceAdd, Pv.vl, s0, s1, s2, s3, s4, List.length_map, filt_dg v E W.nl]
      refine ⟨Es9 n es E acc (keepS y3) y5 y6 (.sh (.int v)) y8, rfl, ?_, fun _ => ⟨.sh (.int v), rfl, rfl⟩, rfl⟩
      have hv3 : ∀ (a b : SE) (ρ : VL.Env), vOp2 opEq a b ρ = obind (a ρ) fun va ρ1 => obind (b ρ1) fun vb ρ2 => retP ((look ρ2 (frz va)).bind fun x => (look ρ2 vb).bind fun y => opEq x y) ρ2 := fun _ _ _ => rfl
      have ht : ∀ (f : SE) (ρ : VL.Env) (b : Bool), f ρ = .ok (.sh (.bl b)) ρ → vTst f ρ = .ok b ρ := fun f ρ b h => by
        unfold vTst
        rw [h, obind_ok]
        rfl
      refine ht _ _ _ ?_
      rw [hv3, hv2, obind_ok]
      show retP (opEq (.int (dg E v : Nat)) (.int 1)) _ = _
      rw [opEq_int, show decide (((dg E v : Nat) : Int) = 1) = decide (dg E v = 1) from decide_eq_decide.mpr (by omega)]
      rfl)
  obtain ⟨R, hR⟩ : ∃ R, (List.range n).filter (fun v => decide (dg E v = 1)) = l :: R := by
    have h := f1
    unfold lf at h
    rw [← List.head?_filter] at h
    cases hq : (List.range n).filter (fun v => decide (dg E v = 1)) with
    | nil => rw [hq] at h; cases h
    | cons x R => rw [hq] at h; cases h; exact ⟨R, rfl⟩
  have asc : (l :: R).Pairwise (· < ·) := by
    rw [← hR]
    exact List.Pairwise.filter _ List.pairwise_lt_range
  rw [hR] at c
  have mf : opMin [.lst ((l :: R).map fun i : Nat => D.int (i : Int))] = some (.sh (.int l)) := by
    rw [← iD_nI]
    show (match asInts (iD (nI (l :: R))) with
      | some (x :: r) => some (Pv.sh (.int (minI x r)))
      | _ => none) = _
    rw [asInts_map]
    show some (Pv.sh (.int (minI (l : Int) (nI R)))) = _
    rw [minI_asc R l fun y hy => Nat.le_of_lt ((List.pairwise_cons.mp asc).1 y hy)]
  have c2 : vCompO 2 (hName 8) (vTst (vOp2 opIn (vName 6) (vName 8))) (vName 8) [8] (Es9 n es E acc (keepS y3) y5 (.sh (.int l)) (keepS y7) y8) = .ok (.fr (.lst ((E.filter (hasE l)).map pairD))) (Es9 n es E acc (keepS y3) y5 (.sh (.int l)) (keepS y7) (keepS y8)) := by
    have c0 := vCompO_map (h := hName 8) (g := vTst (vOp2 opIn (vName 6) (vName 8))) (f := vName 8) (vs := [8]) (i := 2) (ρ := Es9 n es E acc (keepS y3) y5 (.sh (.int l)) (keepS y7) y8) pairD (hasE l) pairD E rfl (by simp) rfl (by rw [sizeLine_eq]; omega) (fun p hp => by
      have i1 := in_pair l p
      refine ⟨_, rfl, ?_, fun _ => ⟨.sh (pairD p), rfl, rfl⟩, rfl⟩
      simp only [runDef, initE, finR, parD, retV, sSeq, sBind_ok, sBind_exn, sBind_bad, sNext, sIf, sSet, stor, sRet, sRetN, sExpr, sUnp, sAug, sPut, sPutA, sRaise, sBreak, sCont, sFor, obind_ok, obind_exn, obind_bad, retP_some, retP_none, vName, vC, vOp1, vOp2, vTst, vTru, vNot, vAnd, vOr, vIfE, vAndV, vOrV, vChain, vArgs, looks, look, esc, escs, frz, vTup, vLst, vB, vMut, vSl, vNotT, vDic1, vDic1B, vDic0, Slot.mu?, Slot.put, Slot.d?, List.getElem?_cons_zero, List.getElem?_cons_succ, List.getElem?_nil, Option.bind_some, Option.bind_none, Option.map_some, Option.map_none, List.set_cons_zero, List.set_cons_succ, List.set_nil, List.length_cons, List.length_nil, hName, hTup, hCons, hNil, opAdd, opSub, opLt, opLe, opGt, opGe, opLen, opInt, opNeg, opIs, opIsNot, isP, VL.isNon, truD, iAdd, iSub, opEq_int, opNe_int, if_true, if_false, ite_true, ite_false, Bool.not_true, Bool.not_false, Bool.false_eq_true, List.map_cons, List.map_nil, List.replicate_zero, List.replicate_succ, List.append_nil, List.nil_append, List.cons_append, reduceCtorEq, if_pos, Bool.not_eq_true, decide_eq_true_eq, decide_true, decide_false, c_eq, c_lt, c_le, c_ge, Nat.zero_add, Nat.reduceAdd, Pv.vl, s0, s1, s2, s3, s4, wipeE, opIn, i1])
    refine c0.trans (congrArg _ ?_)
    cases y8 <;> rfl
  obtain ⟨R2, hR2⟩ : ∃ R, E.filter (hasE l) = e :: R := by
    cases hq : E.filter (hasE l) with
    | nil => rw [hq] at f3; cases f3
    | cons x R => rw [hq] at f3; cases f3; exact ⟨R, rfl⟩
  rw [hR2] at c2
  have k0 : opIx (.lst ((e :: R2).map pairD)) (.int 0) = some (.sh (pairD e)) := ix_l (i := 0) rfl
  have k1 : opIx (pairD e) (.int 0) = some (.sh (.int e.1)) := rfl
  have k2 : opIx (pairD e) (.int 1) = some (.sh (.int e.2)) := rfl
  have e2 : (((e.2 : Nat) : Int) = (l : Int)) = (e.2 = l) := propext ⟨fun h => by omega, fun h => by omega⟩
  have ap : mAppend (.lst (iD (nI acc))) [.int (oth e l : Nat)] = some (.non, .lst (iD (nI (acc ++ [oth e l])))) := app_nat (S := acc) (oth e l) ha
  have rm := remE he
  have hmin : vB opMin [(vComp (vItR1 [(vName 0)]) (hName 7) (vTst (vOp2 opEq (vB opLen [(vCompO 2 (hName 3) (vTst (vOp2 opIn (vName 7) (vName 3))) (vC (.int 1)) [3])]) (vC (.int 1)))) (vName 7) [7])] (Es9 n es E acc (keepS y3) y5 y6 y7 y8) = .ok (.sh (.int l)) (Es9 n es E acc (keepS y3) y5 y6 (keepS y7) y8) := by
    have c' := c.trans (congrArg _ (show _ = Es9 n es E acc (keepS y3) y5 y6 (keepS y7) y8 by cases y7 <;> rfl))
    exact B_of c' mf
  unfold b__law_word_0
  rw [show Es9 n es E acc y3 y5 y6 y7 y8 = Es9 n es E acc (keepS y3) y5 y6 y7 y8 by rw [hk]]
  rw [seq_nx (ρ1 := Es9 n es E acc (keepS y3) y5 (.sh (.int l)) (keepS y7) y8) (by unfold sSet; rw [hmin, sBind_ok]; rfl)]
  rw [seq_nx (ρ1 := Es9 n es E acc (.sh (pairD e)) y5 (.sh (.int l)) (keepS y7) (keepS y8)) (by
    have hq : vOp2 opIx (vCompO 2 (hName 8) (vTst (vOp2 opIn (vName 6) (vName 8))) (vName 8) [8]) (vC (.int 0)) (Es9 n es E acc (keepS y3) y5 (.sh (.int l)) (keepS y7) y8) = .ok (.sh (pairD e)) (Es9 n es E acc (keepS y3) y5 (.sh (.int l)) (keepS y7) (keepS y8)) := by
      have hv : ∀ (a b : SE) (ρ : VL.Env), vOp2 opIx a b ρ = obind (a ρ) fun va ρ1 => obind (b ρ1) fun vb ρ2 => retP ((look ρ2 (frz va)).bind fun x => (look ρ2 vb).bind fun y => opIx x y) ρ2 := fun _ _ _ => rfl
      rw [hv, c2, obind_ok]
      show retP (opIx (.lst ((e :: R2).map pairD)) (.int 0)) _ = _
      rw [k0]
      rfl
    unfold sSet
    rw [hq, sBind_ok]
    rfl)]
  rw [seq_nx (ρ1 := Es9 n es E (acc ++ [oth e l]) (.sh (pairD e)) y5 (.sh (.int l)) (keepS y7) (keepS y8)) (by
    unfold oth at ap
    by_cases c3 : e.2 = l
    · rw [if_pos c3] at ap
      unfold oth
      simp only [runDef, initE, finR, parD, retV, sSeq, sBind_ok, sBind_exn, sBind_bad, sNext, sIf, sSet, stor, sRet, sRetN, sExpr, sUnp, sAug, sPut, sPutA, sRaise, sBreak, sCont, sFor, obind_ok, obind_exn, obind_bad, retP_some, retP_none, vName, vC, vOp1, vOp2, vTst, vTru, vNot, vAnd, vOr, vIfE, vAndV, vOrV, vChain, vArgs, looks, look, esc, escs, frz, vTup, vLst, vB, vMut, vSl, vNotT, vDic1, vDic1B, vDic0, Slot.mu?, Slot.put, Slot.d?, List.getElem?_cons_zero, List.getElem?_cons_succ, List.getElem?_nil, Option.bind_some, Option.bind_none, Option.map_some, Option.map_none, List.set_cons_zero, List.set_cons_succ, List.set_nil, List.length_cons, List.length_nil, hName, hTup, hCons, hNil, opAdd, opSub, opLt, opLe, opGt, opGe, opLen, opInt, opNeg, opIs, opIsNot, isP, VL.isNon, truD, iAdd, iSub, opEq_int, opNe_int, if_true, if_false, ite_true, ite_false, Bool.not_true, Bool.not_false, Bool.false_eq_true, List.map_cons, List.map_nil, List.replicate_zero, List.replicate_succ, List.append_nil, List.nil_append, List.cons_append, reduceCtorEq, if_pos, Bool.not_eq_true, decide_eq_true_eq, decide_true, decide_false, c_eq, c_lt, c_le, c_ge, Nat.zero_add, Nat.reduceAdd, Pv.vl, s0, s1, s2, s3, s4, tyD, k1, k2, c3, ap]
    · rw [if_neg c3] at ap
      unfold oth
      simp only [runDef, initE, finR, parD, retV, sSeq, sBind_ok, sBind_exn, sBind_bad, sNext, sIf, sSet, stor, sRet, sRetN, sExpr, sUnp, sAug, sPut, sPutA, sRaise, sBreak, sCont, sFor, obind_ok, obind_exn, obind_bad, retP_some, retP_none, vName, vC, vOp1, vOp2, vTst, vTru, vNot, vAnd, vOr, vIfE, vAndV, vOrV, vChain, vArgs, looks, look, esc, escs, frz, vTup, vLst, vB, vMut, vSl, vNotT, vDic1, vDic1B, vDic0, Slot.mu?, Slot.put, Slot.d?, List.getElem?_cons_zero, List.getElem?_cons_succ, List.getElem?_nil, Option.bind_some, Option.bind_none, Option.map_some, Option.map_none, List.set_cons_zero, List.set_cons_succ, List.set_nil, List.length_cons, List.length_nil, hName, hTup, hCons, hNil, opAdd, opSub, opLt, opLe, opGt, opGe, opLen, opInt, opNeg, opIs, opIsNot, isP, VL.isNon, truD, iAdd, iSub, opEq_int, opNe_int, if_true, if_false, ite_true, ite_false, Bool.not_true, Bool.not_false, Bool.false_eq_true, List.map_cons, List.map_nil, List.replicate_zero, List.replicate_succ, List.append_nil, List.nil_append, List.cons_append, reduceCtorEq, if_pos, Bool.not_eq_true, decide_eq_true_eq, decide_true, decide_false, c_eq, c_lt, c_le, c_ge, Nat.zero_add, Nat.reduceAdd, Pv.vl, s0, s1, s2, s3, s4, tyD, k1, k2, c3, ap])]
  simp only [runDef, initE, finR, parD, retV, sSeq, sBind_ok, sBind_exn, sBind_bad, sNext, sIf, sSet, stor, sRet, sRetN, sExpr, sUnp, sAug, sPut, sPutA, sRaise, sBreak, sCont, sFor, obind_ok, obind_exn, obind_bad, retP_some, retP_none, vName, vC, vOp1, vOp2, vTst, vTru, vNot, vAnd, vOr, vIfE, vAndV, vOrV, vChain, vArgs, looks, look, esc, escs, frz, vTup, vLst, vB, vMut, vSl, vNotT, vDic1, vDic1B, vDic0, Slot.mu?, Slot.put, Slot.d?, List.getElem?_cons_zero, List.getElem?_cons_succ, List.getElem?_nil, Option.bind_some, Option.bind_none, Option.map_some, Option.map_none, List.set_cons_zero, List.set_cons_succ, List.set_nil, List.length_cons, List.length_nil, hName, hTup, hCons, hNil, opAdd, opSub, opLt, opLe, opGt, opGe, opLen, opInt, opNeg, opIs, opIsNot, isP, VL.isNon, truD, iAdd, iSub, opEq_int, opNe_int, if_true, if_false, ite_true, ite_false, Bool.not_true, Bool.not_false, Bool.false_eq_true, List.map_cons, List.map_nil, List.replicate_zero, List.replicate_succ, List.append_nil, List.nil_append, List.cons_append, reduceCtorEq, if_pos, Bool.not_eq_true, decide_eq_true_eq, decide_true, decide_false, c_eq, c_lt, c_le, c_ge, Nat.zero_add, Nat.reduceAdd, Pv.vl, s0, s1, s2, s3, s4, tyD, rm]
theorem r_lword {n : Nat} {es : Es} (W : Wood n es) (h2 : 2 ≤ n) (hn : n ≤ 60) (hm : es.length + 1 = n) : S__law_word.run [.int n, .lst (es.map pairD)] = .ret (.fr (.lst (iD (nI (prw n (n - 2) es))))) .non := by
  obtain ⟨ρ', l1, E, acc, y3, y5, y6, y7, y8, W2, e2, e3, e4, e5, e6⟩ := loopF_inv (h := hName 5) (body := b__law_word_0) (fun i : Nat => D.int (i : Int)) (List.range (n - 2))
    (fun i ρ => ∃ E acc y3 y5 y6 y7 y8, Wood n E ∧ E.length + i + 1 = n ∧ acc ++ prw n (n - 2 - i) E = prw n (n - 2) es ∧ acc.length = i ∧ keepS y3 = y3 ∧ ρ = Es9 n es E acc y3 y5 y6 y7 y8)
    (ρ := Es9 n es es [] .no .no .no .no .no) ⟨es, [], .no, .no, .no, .no, .no, W, by omega, rfl, rfl, rfl, rfl⟩ (fun i x ρ hx ⟨E, acc, y3, y5, y6, y7, y8, W2, e2, e3, e4, e5, e6⟩ => by
      subst e6
      obtain ⟨hlt, _⟩ := List.getElem?_eq_some_iff.mp hx
      rw [List.length_range] at hlt
      obtain ⟨l, e, z3, z6, z7, z8, f1, f2, b1, hk⟩ := lw_turn (es := es) (acc := acc) W2 (fun z => by rw [z] at e2; simp at e2; omega) (by omega) (by omega) (by omega) y3 (.sh (.int x)) y6 y7 y8 e5
      have he := List.mem_of_find?_eq_some f2
      have pe : prw n (n - 2 - i) E = oth e l :: prw n (n - 2 - (i + 1)) (E.erase e) := by
        have e0 : n - 2 - i = (n - 2 - (i + 1)) + 1 := by omega
        rw [e0]
        show (match lf n E with
          | none => []
          | some l => match E.find? (hasE l) with
            | none => []
            | some e => oth e l :: prw n (n - 2 - (i + 1)) (E.erase e)) = _
        rw [f1]
        show (match E.find? (hasE l) with
            | none => []
            | some e => oth e l :: prw n (n - 2 - (i + 1)) (E.erase e)) = _
        rw [f2]
      refine ⟨_, rfl, _, b1, E.erase e, acc ++ [oth e l], _, _, _, _, _, W2.erase e, ?_, ?_, by rw [List.length_append, e4]; rfl, hk, rfl⟩
      · have := List.length_erase_of_mem he
        have := List.length_pos_of_mem he
        omega
      · rw [← e3, pe, List.append_assoc]
        rfl)
  rw [List.length_range] at e3 e4
  have p0 : n - 2 - (n - 2) = 0 := Nat.sub_self _
  rw [p0, show prw n 0 E = [] from rfl, List.append_nil] at e3
  subst e6
  have c : vCompO 1 (hName 3) vYes (vB opTuple [(vName 3)]) [3] [.sh (.int n), .sh (.lst (es.map pairD)), .no, .no, .no, .no, .no, .no, .no] = .ok (.fr (.lst (es.map pairD))) [.sh (.int n), .sh (.lst (es.map pairD)), .no, .no, .no, .no, .no, .no, .no] := by
    have c0 := vComp_map (h := hName 3) (g := vYes) (f := vB opTuple [(vName 3)]) (vs := [3]) (src := vItA (vName 1)) (ρ := [.sh (.int n), .sh (.lst (es.map pairD)), .no, .no, .no, .no, .no, .no, .no]) (ρ1 := [.sh (.int n), .sh (.lst (es.map pairD)), .no, .no, .no, .no, .no, .no, .no]) (ds := es.map pairD)
      pairD (fun _ => true) pairD es (itA_sh rfl) rfl (by rw [sizeLine_eq]; omega) (fun p hp => by
        refine ⟨_, rfl, rfl, fun _ => ⟨.sh (pairD p), ?_, rfl⟩, rfl⟩
        have e1 : opTuple [pairD p] = some (.sh (pairD p)) := rfl
        simp only [runDef, initE, finR, parD, retV, sSeq, sBind_ok, sBind_exn, sBind_bad, sNext, sIf, sSet, stor, sRet, sRetN, sExpr, sUnp, sAug, sPut, sPutA, sRaise, sBreak, sCont, sFor, obind_ok, obind_exn, obind_bad, retP_some, retP_none, vName, vC, vOp1, vOp2, vTst, vTru, vNot, vAnd, vOr, vIfE, vAndV, vOrV, vChain, vArgs, looks, look, esc, escs, frz, vTup, vLst, vB, vMut, vSl, vNotT, vDic1, vDic1B, vDic0, Slot.mu?, Slot.put, Slot.d?, List.getElem?_cons_zero, List.getElem?_cons_succ, List.getElem?_nil, Option.bind_some, Option.bind_none, Option.map_some, Option.map_none, List.set_cons_zero, List.set_cons_succ, List.set_nil, List.length_cons, List.length_nil, hName, hTup, hCons, hNil, opAdd, opSub, opLt, opLe, opGt, opGe, opLen, opInt, opNeg, opIs, opIsNot, isP, VL.isNon, truD, iAdd, iSub, opEq_int, opNe_int, if_true, if_false, ite_true, ite_false, Bool.not_true, Bool.not_false, Bool.false_eq_true, List.map_cons, List.map_nil, List.replicate_zero, List.replicate_succ, List.append_nil, List.nil_append, List.cons_append, reduceCtorEq, if_pos, Bool.not_eq_true, decide_eq_true_eq, decide_true, decide_false, c_eq, c_lt, c_le, c_ge, Nat.zero_add, Nat.reduceAdd, Pv.vl, s0, s1, s2, s3, s4, wipeE, e1])
    rw [filtT] at c0
    exact c0
  have i2 : vItR1 [(vOp2 opSub (vName 0) (vC (.int 2)))] (Es9 n es es [] .no .no .no .no .no) = .ok ((List.range (n - 2)).map fun i : Nat => D.int (i : Int)) (Es9 n es es [] .no .no .no .no .no) := by
    have e : ((n : Nat) : Int) - 2 = ((n - 2 : Nat) : Int) := by omega
    exact r1_ok (k := n - 2) (by simp only [runDef, initE, finR, parD, retV, sSeq, sBind_ok, sBind_exn, sBind_bad, sNext, sIf, sSet, stor, sRet, sRetN, sExpr, sUnp, sAug, sPut, sPutA, sRaise, sBreak, sCont, sFor, obind_ok, obind_exn, obind_bad, retP_some, retP_none, vName, vC, vOp1, vOp2, vTst, vTru, vNot, vAnd, vOr, vIfE, vAndV, vOrV, vChain, vArgs, looks, look, esc, escs, frz, vTup, vLst, vB, vMut, vSl, vNotT, vDic1, vDic1B, vDic0, Slot.mu?, Slot.put, Slot.d?, List.getElem?_cons_zero, List.getElem?_cons_succ, List.getElem?_nil, Option.bind_some, Option.bind_none, Option.map_some, Option.map_none, List.set_cons_zero, List.set_cons_succ, List.set_nil, List.length_cons, List.length_nil, hName, hTup, hCons, hNil, opAdd, opSub, opLt, opLe, opGt, opGe, opLen, opInt, opNeg, opIs, opIsNot, isP, VL.isNon, truD, iAdd, iSub, opEq_int, opNe_int, if_true, if_false, ite_true, ite_false, Bool.not_true, Bool.not_false, Bool.false_eq_true, List.map_cons, List.map_nil, List.replicate_zero, List.replicate_succ, List.append_nil, List.nil_append, List.cons_append, reduceCtorEq, if_pos, Bool.not_eq_true, decide_eq_true_eq, decide_true, decide_false, c_eq, c_lt, c_le, c_ge, Nat.zero_add, Nat.reduceAdd, Pv.vl, s0, s1, s2, s3, s4, e]) (by omega)
  show runDef 9 2 false t__law_word [.int n, .lst (es.map pairD)] = _
  rw [← e3]
  refine run_own (m := 2) (i := 4) (ρ' := Es9 n es E acc y3 y5 y6 y7 y8) rfl ?_ rfl
  show t__law_word [.sh (.int n), .sh (.lst (es.map pairD)), .no, .no, .no, .no, .no, .no, .no] = _
  unfold t__law_word
  rw [seq_nx (ρ1 := [.sh (.int n), .sh (.lst (es.map pairD)), .own (.lst (es.map pairD)), .no, .no, .no, .no, .no, .no]) (by unfold sSet; rw [c, sBind_ok]; rfl)]
  rw [seq_nx (ρ1 := Es9 n es es [] .no .no .no .no .no) (by simp only [runDef, initE, finR, parD, retV, sSeq, sBind_ok, sBind_exn, sBind_bad, sNext, sIf, sSet, stor, sRet, sRetN, sExpr, sUnp, sAug, sPut, sPutA, sRaise, sBreak, sCont, sFor, obind_ok, obind_exn, obind_bad, retP_some, retP_none, vName, vC, vOp1, vOp2, vTst, vTru, vNot, vAnd, vOr, vIfE, vAndV, vOrV, vChain, vArgs, looks, look, esc, escs, frz, vTup, vLst, vB, vMut, vSl, vNotT, vDic1, vDic1B, vDic0, Slot.mu?, Slot.put, Slot.d?, List.getElem?_cons_zero, List.getElem?_cons_succ, List.getElem?_nil, Option.bind_some, Option.bind_none, Option.map_some, Option.map_none, List.set_cons_zero, List.set_cons_succ, List.set_nil, List.length_cons, List.length_nil, hName, hTup, hCons, hNil, opAdd, opSub, opLt, opLe, opGt, opGe, opLen, opInt, opNeg, opIs, opIsNot, isP, VL.isNon, truD, iAdd, iSub, opEq_int, opNe_int, if_true, if_false, ite_true, ite_false, Bool.not_true, Bool.not_false, Bool.false_eq_true, List.map_cons, List.map_nil, List.replicate_zero, List.replicate_succ, List.append_nil, List.nil_append, List.cons_append, reduceCtorEq, if_pos, Bool.not_eq_true, decide_eq_true_eq, decide_true, decide_false, c_eq, c_lt, c_le, c_ge, Nat.zero_add, Nat.reduceAdd, Pv.vl, s0, s1, s2, s3, s4]; rfl)]
  rw [seq_nx (ρ1 := Es9 n es E acc y3 y5 y6 y7 y8) (by unfold sFor; rw [i2, sBind_ok]; exact l1)]
  rfl
end CM.K79
/-! K79U: orders, drawn trees -/
namespace CM.K79
open PySem PySem.Spec PyProof.Rows L2 VL
theorem erase_map {α β : Type} (f : α → β) : ∀ (l : List α) (k : Nat), (l.map f).eraseIdx k = (l.eraseIdx k).map f
  | [], _ => rfl
  | _ :: _, 0 => rfl
  | x :: l, k + 1 => congrArg (f x :: ·) (erase_map f l k)
theorem pop_nat (S : List Nat) {k : Nat} (h : k < S.length) (hl : S.length ≤ 1000) : mPopAt (.lst (iD (nI S))) [.int (k : Nat)] = some (.int (S.getD k 0 : Nat), .lst (iD (nI (S.eraseIdx k)))) := by
  have hlen : (iD (nI S)).length = S.length := by rw [List.length_map, nI_len]
  have e : ixN (iD (nI S)).length (k : Nat) = some k := by
    unfold ixN
    rw [hlen, if_pos (by omega), if_pos (by omega)]
    rfl
  show (if ((k : Nat) : Int).natAbs < 2 ^ 63 then (ixN (iD (nI S)).length (k : Nat)).bind fun k => ((iD (nI S))[k]?).map fun d => (d, D.lst ((iD (nI S)).eraseIdx k)) else none) = _
  have g := get_iD (l := nI S) (a := k) (by rw [nI_len]; exact h)
  rw [nI_getD S k h] at g
  have e2 : (iD (nI S)).eraseIdx k = iD (nI (S.eraseIdx k)) := by
    show ((S.map _).map _).eraseIdx k = _
    rw [erase_map, erase_map]
  rw [if_pos (by omega), e, Option.bind_some, g, Option.map_some, e2]
theorem erase_perm (S : List Nat) {k : Nat} (h : k < S.length) : (S.getD k 0 :: S.eraseIdx k).Perm S := by
  induction S generalizing k with
  | nil => cases h
  | cons x S ih =>
    cases k with
    | zero => exact .refl _
    | succ k =>
      have := ih (k := k) (by simpa using h)
      show (S.getD k 0 :: x :: S.eraseIdx k).Perm (x :: S)
      exact (List.Perm.swap x _ _).trans (this.cons x)
abbrev Eo (d : List Int) (m : Nat) (Lf Fd : List Nat) (y4 : VL.Slot) : VL.Env := [.par (.lst (iD d)), .sh (.int m), .own (.lst (iD (nI Lf))), .own (.lst (iD (nI Fd))), y4]
theorem r_order (deck : List Int) (m : Nat) (hm : m ≤ 100) : ∃ S deck', S__law_order.run [.lst (iD deck), .int m] = .ret (.fr (.lst (iD (nI S)))) (.lst (iD deck')) ∧ S.Perm (List.range m) := by
  obtain ⟨ρ', l1, d, Lf, Fd, y4, e1, e2, e3⟩ := loopF_inv (h := hName 4) (body := b__law_order_0 S__law_take) (fun i : Nat => D.int (i : Int)) (List.range m)
    (fun i ρ => ∃ d Lf Fd y4, (Fd ++ Lf).Perm (List.range m) ∧ Fd.length = i ∧ ρ = Eo d m Lf Fd y4)
    (ρ := Eo deck m (List.range m) [] .no) ⟨deck, List.range m, [], .no, .refl _, rfl, rfl⟩ (fun i x ρ hx ⟨d, Lf, Fd, y4, e1, e2, e3⟩ => by
      subst e3
      obtain ⟨hlt, _⟩ := List.getElem?_eq_some_iff.mp hx
      rw [List.length_range] at hlt
      have hlen := e1.length_eq
      rw [List.length_append, List.length_range, e2] at hlen
      have hpos : 0 < Lf.length := by omega
      have t := r_take d Lf.length hpos
      have tl := tk_lt d hpos
      obtain ⟨⟨k, d'⟩, hd⟩ : ∃ z, tk d Lf.length = z := ⟨_, rfl⟩
      rw [hd] at t tl
      dsimp only at t tl
      have pp := pop_nat Lf tl (by omega)
      have ap := app_nat (S := Fd) (Lf.getD k 0) (by omega)
      refine ⟨_, rfl, Eo d' m (Lf.eraseIdx k) (Fd ++ [Lf.getD k 0]) (.sh (.int x)), ?_, d', _, _, _, ?_, by rw [List.length_append, e2]; rfl, rfl⟩
      · unfold b__law_order_0
        simp only [runDef, initE, finR, parD, retV, sSeq, sBind_ok, sBind_exn, sBind_bad, sNext, sIf, sSet, stor, sRet, sRetN, sExpr, sUnp, sAug, sPut, sPutA, sRaise, sBreak, sCont, sFor, obind_ok, obind_exn, obind_bad, retP_some, retP_none, vName, vC, vOp1, vOp2, vTst, vTru, vNot, vAnd, vOr, vIfE, vAndV, vOrV, vChain, vArgs, looks, look, esc, escs, frz, vTup, vLst, vB, vMut, vSl, vNotT, vDic1, vDic1B, vDic0, Slot.mu?, Slot.put, Slot.d?, List.getElem?_cons_zero, List.getElem?_cons_succ, List.getElem?_nil, Option.bind_some, Option.bind_none, Option.map_some, Option.map_none, List.set_cons_zero, List.set_cons_succ, List.set_nil, List.length_cons, List.length_nil, hName, hTup, hCons, hNil, opAdd, opSub, opLt, opLe, opGt, opGe, opLen, opInt, opNeg, opIs, opIsNot, isP, VL.isNon, truD, iAdd, iSub, opEq_int, opNe_int, if_true, if_false, ite_true, ite_false, Bool.not_true, Bool.not_false, Bool.false_eq_true, List.map_cons, List.map_nil, List.replicate_zero, List.replicate_succ, List.append_nil, List.nil_append, List.cons_append, reduceCtorEq, if_pos, Bool.not_eq_true, decide_eq_true_eq, decide_true, decide_false, c_eq, c_lt, c_le, c_ge, Nat.zero_add, Nat.reduceAdd, Pv.vl, s0, s1, s2, s3, s4, List.length_map, nI_len, vCall, vCallV, own_take, t, vCallR, tyD, pp, ap]
      · rw [List.append_assoc]
        exact ((erase_perm Lf tl).append_left Fd).trans e1)
  subst e3
  rw [List.length_range] at e2
  have hlen := e1.length_eq
  rw [List.length_append, List.length_range, e2] at hlen
  have hL : Lf = [] := List.length_eq_zero_iff.mp (by omega)
  rw [hL, List.append_nil] at e1
  refine ⟨Fd, d, ?_, e1⟩
  have im : vItR1 [(vName 1)] (Eo deck m (List.range m) [] .no) = .ok ((List.range m).map fun i : Nat => D.int (i : Int)) (Eo deck m (List.range m) [] .no) := r1_ok (k := m) rfl (by omega)
  have hv : vRgL1 (vName 1) [.par (.lst (iD deck)), .sh (.int m), .no, .no, .no] = .ok (.fr (.lst (iD (nI (List.range m))))) [.par (.lst (iD deck)), .sh (.int m), .no, .no, .no] := by
    unfold vRgL1
    simp only [runDef, initE, finR, parD, retV, sSeq, sBind_ok, sBind_exn, sBind_bad, sNext, sIf, sSet, stor, sRet, sRetN, sExpr, sUnp, sAug, sPut, sPutA, sRaise, sBreak, sCont, sFor, obind_ok, obind_exn, obind_bad, retP_some, retP_none, vName, vC, vOp1, vOp2, vTst, vTru, vNot, vAnd, vOr, vIfE, vAndV, vOrV, vChain, vArgs, looks, look, esc, escs, frz, vTup, vLst, vB, vMut, vSl, vNotT, vDic1, vDic1B, vDic0, Slot.mu?, Slot.put, Slot.d?, List.getElem?_cons_zero, List.getElem?_cons_succ, List.getElem?_nil, Option.bind_some, Option.bind_none, Option.map_some, Option.map_none, List.set_cons_zero, List.set_cons_succ, List.set_nil, List.length_cons, List.length_nil, hName, hTup, hCons, hNil, opAdd, opSub, opLt, opLe, opGt, opGe, opLen, opInt, opNeg, opIs, opIsNot, isP, VL.isNon, truD, iAdd, iSub, opEq_int, opNe_int, if_true, if_false, ite_true, ite_false, Bool.not_true, Bool.not_false, Bool.false_eq_true, List.map_cons, List.map_nil, List.replicate_zero, List.replicate_succ, List.append_nil, List.nil_append, List.cons_append, reduceCtorEq, if_pos, Bool.not_eq_true, decide_eq_true_eq, decide_true, decide_false, c_eq, c_lt, c_le, c_ge, Nat.zero_add, Nat.reduceAdd, Pv.vl, s0, s1, s2, s3, s4, rgOk_n (show m ≤ 1000 by omega), rg_n]
  have key : t__law_order S__law_take [.par (.lst (iD deck)), .sh (.int m), .no, .no, .no] = .ret (.al 3) (Eo d m Lf Fd y4) := by
    unfold t__law_order
    rw [seq_nx (ρ1 := [.par (.lst (iD deck)), .sh (.int m), .own (.lst (iD (nI (List.range m)))), .no, .no]) (by unfold sSet; rw [hv, sBind_ok]; rfl)]
    rw [seq_nx (ρ1 := Eo deck m (List.range m) [] .no) (by simp only [runDef, initE, finR, parD, retV, sSeq, sBind_ok, sBind_exn, sBind_bad, sNext, sIf, sSet, stor, sRet, sRetN, sExpr, sUnp, sAug, sPut, sPutA, sRaise, sBreak, sCont, sFor, obind_ok, obind_exn, obind_bad, retP_some, retP_none, vName, vC, vOp1, vOp2, vTst, vTru, vNot, vAnd, vOr, vIfE, vAndV, vOrV, vChain, vArgs, looks, look, esc, escs, frz, vTup, vLst, vB, vMut, vSl, vNotT, vDic1, vDic1B, vDic0, Slot.mu?, Slot.put, Slot.d?, List.getElem?_cons_zero, List.getElem?_cons_succ, List.getElem?_nil, Option.bind_some, Option.bind_none, Option.map_some, Option.map_none, List.set_cons_zero, List.set_cons_succ, List.set_nil, List.length_cons, List.length_nil, hName, hTup, hCons, hNil, opAdd, opSub, opLt, opLe, opGt, opGe, opLen, opInt, opNeg, opIs, opIsNot, isP, VL.isNon, truD, iAdd, iSub, opEq_int, opNe_int, if_true, if_false, ite_true, ite_false, Bool.not_true, Bool.not_false, Bool.false_eq_true, List.map_cons, List.map_nil, List.replicate_zero, List.replicate_succ, List.append_nil, List.nil_append, List.cons_append, reduceCtorEq, if_pos, Bool.not_eq_true, decide_eq_true_eq, decide_true, decide_false, c_eq, c_lt, c_le, c_ge, Nat.zero_add, Nat.reduceAdd, Pv.vl, s0, s1, s2, s3, s4]; rfl)]
    rw [seq_nx (ρ1 := Eo d m Lf Fd y4) (by unfold sFor; rw [im, sBind_ok]; exact l1)]
    rfl
  show runDef 5 2 true (t__law_order S__law_take) [.lst (iD deck), .int m] = _
  unfold runDef
  rw [if_pos (show [D.lst (iD deck), D.int m].length = 2 from rfl)]
  show finR true (t__law_order S__law_take [.par (.lst (iD deck)), .sh (.int m), .no, .no, .no]) = _
  rw [key]
  rfl
/-! ### drawn trees -/
structure Jd (n : Nat) (S : List Nat) (j : Nat) (T : Es) : Prop where
  el : Elim n T.reverse
  ends : ∀ p ∈ T, ∀ x, (p.1 = x ∨ p.2 = x) → ∃ i, i < j ∧ S.getD i 0 = x
  len : T.length + 1 = j
theorem getD_inj {S : List Nat} (nd : S.Nodup) {i j : Nat} (hi : i < S.length) (hj : j < S.length) (e : S.getD i 0 = S.getD j 0) : i = j := by
  rw [List.getD_eq_getElem?_getD, List.getD_eq_getElem?_getD, List.getElem?_eq_getElem hi, List.getElem?_eq_getElem hj] at e
  have e2 : S[i] = S[j] := e
  rcases Nat.lt_trichotomy i j with h | h | h
  · exact absurd e2 (List.pairwise_iff_getElem.mp nd i j hi hj h)
  · exact h
  · exact absurd e2.symm (List.pairwise_iff_getElem.mp nd j i hj hi h)
theorem Jd.next {n j t : Nat} {S : List Nat} {T : Es} (h : Jd n S j T) (hS : S.Perm (List.range n)) (hj : j < n) (ht : t < j) {e : Nat × Nat} (he : e = (S.getD j 0, S.getD t 0) ∨ e = (S.getD t 0, S.getD j 0)) : Jd n S (j + 1) (T ++ [e]) := by
  have hl : S.length = n := by rw [hS.length_eq, List.length_range]
  have nd : S.Nodup := hS.nodup_iff.mpr List.nodup_range
  have lt : ∀ i, i < n → S.getD i 0 < n := fun i hi => by
    have hi2 : i < S.length := by omega
    have : S.getD i 0 ∈ S := by
      rw [List.getD_eq_getElem?_getD, List.getElem?_eq_getElem hi2]
      exact List.getElem_mem hi2
    exact List.mem_range.mp (hS.mem_iff.mp this)
  have ne : S.getD j 0 ≠ S.getD t 0 := fun z => by
    have := getD_inj nd (i := j) (j := t) (by omega) (by omega) z
    omega
  have d0 : dg T.reverse (S.getD j 0) = 0 := dg_none fun p hp => by
    have hp : p ∈ T := List.mem_reverse.mp hp
    constructor
    · intro z
      obtain ⟨i, h1, h2⟩ := h.ends p hp _ (.inl z)
      have := getD_inj nd (i := i) (j := j) (by omega) (by omega) h2
      omega
    · intro z
      obtain ⟨i, h1, h2⟩ := h.ends p hp _ (.inr z)
      have := getD_inj nd (i := i) (j := j) (by omega) (by omega) h2
      omega
  refine ⟨?_, fun p hp x hx => ?_, by rw [List.length_append, List.length_singleton, h.len]⟩
  · rw [List.reverse_append]
    show Elim n (e :: T.reverse)
    rcases he with rfl | rfl
    · exact .cons _ (lt j hj) (.inl rfl) ne (lt j hj) (lt t (by omega)) d0 h.el
    · exact .cons _ (lt j hj) (.inr rfl) (Ne.symm ne) (lt t (by omega)) (lt j hj) d0 h.el
  · rcases List.mem_append.mp hp with hp | hp
    · obtain ⟨i, h1, h2⟩ := h.ends p hp x hx
      exact ⟨i, by omega, h2⟩
    · rw [List.mem_singleton.mp hp] at hx
      rcases he with rfl | rfl
      · rcases hx with hx | hx
        · exact ⟨j, by omega, hx⟩
        · exact ⟨t, by omega, hx⟩
      · rcases hx with hx | hx
        · exact ⟨t, by omega, hx⟩
        · exact ⟨j, by omega, hx⟩
abbrev Ed (d : List Int) (n : Nat) (S : List Nat) (T : Es) (y4 y5 y6 : VL.Slot) : VL.Env := [.par (.lst (iD d)), .sh (.int n), .own (.lst (iD (nI S))), .own (.lst (T.map pairD)), y4, y5, y6]
theorem dr_turn {n j : Nat} {S : List Nat} {T : Es} {d : List Int} (h : Jd n S j T) (hS : S.Perm (List.range n)) (hj : j < n) (h0 : 0 < j) (hn : n ≤ 100) (y5 y6 : VL.Slot) :
    ∃ d' e z5, b__law_drawn_0 S__law_take (Ed d n S T (.sh (.int j)) y5 y6) = .nx (Ed d' n S (T ++ [e]) (.sh (.int j)) z5 y6) ∧ Jd n S (j + 1) (T ++ [e]) := by
  have hl : S.length = n := by rw [hS.length_eq, List.length_range]
  have t1 := r_take d j h0
  have l1 := tk_lt d h0
  obtain ⟨⟨t, d1⟩, hd1⟩ : ∃ z, tk d j = z := ⟨_, rfl⟩
  rw [hd1] at t1 l1
  dsimp only at t1 l1
  have t2 := r_take d1 2 (by omega)
  have l2 := tk_lt d1 (m := 2) (by omega)
  obtain ⟨⟨b, d2⟩, hd2⟩ : ∃ z, tk d1 2 = z := ⟨_, rfl⟩
  rw [hd2] at t2 l2
  dsimp only at t2 l2
  replace t2 : S__law_take.run [.lst (iD d1), .int 2] = .ret (.sh (.int (b : Nat))) (.lst (iD d2)) := t2
  have gj := ix_l (get_iD (l := nI S) (a := j) (by rw [nI_len]; omega))
  rw [nI_getD S j (by omega)] at gj
  have gt := ix_l (get_iD (l := nI S) (a := t) (by rw [nI_len]; omega))
  rw [nI_getD S t (by omega)] at gt
  generalize hx : S.getD j 0 = x at *
  generalize hy : S.getD t 0 = y at *
  have k0 : ∀ a b : Nat, opIx (.lst [.int a, .int b]) (.int 0) = some (.sh (.int a)) := fun a b => ix_l (ds := [D.int a, D.int b]) (i := 0) rfl
  have k1 : ∀ a b : Nat, opIx (.lst [.int a, .int b]) (.int 1) = some (.sh (.int b)) := fun a b => ix_l (ds := [D.int a, D.int b]) (i := 1) rfl
  have hT : T.length ≤ 1000 := by have := h.len; omega
  have rv : mReverse (.lst [.int x, .int y]) [] = some (.non, .lst [.int y, .int x]) := rfl
  by_cases hb : b = 0
  · subst hb
    have ap : mAppend (.lst (T.map pairD)) [.tup [.int (y : Nat), .int (x : Nat)]] = _ := app_pair (y, x) hT
    refine ⟨d2, (y, x), .own (.lst [.int y, .int x]), ?_, h.next hS hj l1 (.inr (by rw [hx, hy]))⟩
    have e0 : (((0 : Nat) : Int) = 0) = True := by simp
    unfold b__law_drawn_0
    simp only [runDef, initE, finR, parD, retV, sSeq, sBind_ok, sBind_exn, sBind_bad, sNext, sIf, sSet, stor, sRet, sRetN, sExpr, sUnp, sAug, sPut, sPutA, sRaise, sBreak, sCont, sFor, obind_ok, obind_exn, obind_bad, retP_some, retP_none, vName, vC, vOp1, vOp2, vTst, vTru, vNot, vAnd, vOr, vIfE, vAndV, vOrV, vChain, vArgs, looks, look, esc, escs, frz, vTup, vLst, vB, vMut, vSl, vNotT, vDic1, vDic1B, vDic0, Slot.mu?, Slot.put, Slot.d?, List.getElem?_cons_zero, List.getElem?_cons_succ, List.getElem?_nil, Option.bind_some, Option.bind_none, Option.map_some, Option.map_none, List.set_cons_zero, List.set_cons_succ, List.set_nil, List.length_cons, List.length_nil, hName, hTup, hCons, hNil, opAdd, opSub, opLt, opLe, opGt, opGe, opLen, opInt, opNeg, opIs, opIsNot, isP, VL.isNon, truD, iAdd, iSub, opEq_int, opNe_int, if_true, if_false, ite_true, ite_false, Bool.not_true, Bool.not_false, Bool.false_eq_true, List.map_cons, List.map_nil, List.replicate_zero, List.replicate_succ, List.append_nil, List.nil_append, List.cons_append, reduceCtorEq, if_pos, Bool.not_eq_true, decide_eq_true_eq, decide_true, decide_false, c_eq, c_lt, c_le, c_ge, Nat.zero_add, Nat.reduceAdd, Pv.vl, s0, s1, s2, s3, s4, gj, gt, vCall, vCallV, own_take, t1, t2, vCallR, e0, Int.natCast_zero, tyD, rv, k0, k1, ap]
  · have ap : mAppend (.lst (T.map pairD)) [.tup [.int (x : Nat), .int (y : Nat)]] = _ := app_pair (x, y) hT
    refine ⟨d2, (x, y), .own (.lst [.int x, .int y]), ?_, h.next hS hj l1 (.inl (by rw [hx, hy]))⟩
    have e0 : (((b : Nat) : Int) = 0) = False := eq_false (by omega)
    unfold b__law_drawn_0
    simp only [runDef, initE, finR, parD, retV, sSeq, sBind_ok, sBind_exn, sBind_bad, sNext, sIf, sSet, stor, sRet, sRetN, sExpr, sUnp, sAug, sPut, sPutA, sRaise, sBreak, sCont, sFor, obind_ok, obind_exn, obind_bad, retP_some, retP_none, vName, vC, vOp1, vOp2, vTst, vTru, vNot, vAnd, vOr, vIfE, vAndV, vOrV, vChain, vArgs, looks, look, esc, escs, frz, vTup, vLst, vB, vMut, vSl, vNotT, vDic1, vDic1B, vDic0, Slot.mu?, Slot.put, Slot.d?, List.getElem?_cons_zero, List.getElem?_cons_succ, List.getElem?_nil, Option.bind_some, Option.bind_none, Option.map_some, Option.map_none, List.set_cons_zero, List.set_cons_succ, List.set_nil, List.length_cons, List.length_nil, hName, hTup, hCons, hNil, opAdd, opSub, opLt, opLe, opGt, opGe, opLen, opInt, opNeg, opIs, opIsNot, isP, VL.isNon, truD, iAdd, iSub, opEq_int, opNe_int, if_true, if_false, ite_true, ite_false, Bool.not_true, Bool.not_false, Bool.false_eq_true, List.map_cons, List.map_nil, List.replicate_zero, List.replicate_succ, List.append_nil, List.nil_append, List.cons_append, reduceCtorEq, if_pos, Bool.not_eq_true, decide_eq_true_eq, decide_true, decide_false, c_eq, c_lt, c_le, c_ge, Nat.zero_add, Nat.reduceAdd, Pv.vl, s0, s1, s2, s3, s4, gj, gt, vCall, vCallV, own_take, t1, t2, vCallR, e0, tyD, k0, k1, ap]
theorem pick_range {α : Type} (T : List α) (x0 : α) : (List.range T.length).map (fun i => T.getD i x0) = T := by
  refine List.ext_getElem (by simp) fun i h1 h2 => ?_
  rw [List.getElem_map, List.getElem_range, List.getD_eq_getElem?_getD, List.getElem?_eq_getElem h2]
  rfl
theorem r_drawn (deck : List Int) : ∃ n es d', S__law_drawn.run [.lst (iD deck)] = .ret (.sh (.tup [.int (n : Nat), .lst (es.map pairD)])) (.lst (iD d')) ∧ 2 ≤ n ∧ n ≤ 9 ∧ Wood n es ∧ es.length + 1 = n ∧ CM.rk n es = es.length := by
  have t1 : S__law_take.run [.lst (iD deck), .int 8] = _ := r_take deck 8 (by omega)
  have l1 := tk_lt deck (m := 8) (by omega)
  obtain ⟨⟨v, d1⟩, hd1⟩ : ∃ z, tk deck 8 = z := ⟨_, rfl⟩
  rw [hd1] at t1 l1
  dsimp only at t1 l1
  have en : (2 : Int) + ((v : Nat) : Int) = ((2 + v : Nat) : Int) := by omega
  generalize hn : 2 + v = n at *
  obtain ⟨S, d2, r2, hS⟩ := r_order d1 n (by omega)
  have hl : S.length = n := by rw [hS.length_eq, List.length_range]
  obtain ⟨ρ', b1, d3, T, y4, y5, J, e3⟩ := loopF_inv (h := hName 4) (body := b__law_drawn_0 S__law_take) (fun i : Nat => D.int (1 + (i : Int))) (List.range (n - 1))
    (fun i ρ => ∃ d T y4 y5, Jd n S (i + 1) T ∧ ρ = Ed d n S T y4 y5 .no) (ρ := Ed d2 n S [] .no .no .no) ⟨d2, [], .no, .no, ⟨.nil, fun p hp => (by cases hp), rfl⟩, rfl⟩ (fun i x ρ hx ⟨d, T, y4, y5, J, e⟩ => by
      subst e
      obtain ⟨hlt, hx2⟩ := List.getElem?_eq_some_iff.mp hx
      rw [List.length_range] at hlt
      have ex : x = i := by simpa using hx2.symm
      subst ex
      obtain ⟨d', e, z5, b, J'⟩ := dr_turn (d := d) J hS (by omega) (Nat.succ_pos _) (by omega) y5 .no
      have ei : (1 : Int) + (x : Int) = ((x + 1 : Nat) : Int) := by omega
      rw [ei]
      exact ⟨_, rfl, _, b, d', _, _, _, J', rfl⟩)
  rw [List.length_range] at J
  subst e3
  obtain ⟨S2, d4, r4, hS2⟩ := r_order d3 T.length (by have := J.len; omega)
  have iv : vItR2 [(vC (.int 1)), (vName 1)] (Ed d2 n S [] .no .no .no) = .ok ((List.range (n - 1)).map fun i : Nat => D.int (1 + (i : Int))) (Ed d2 n S [] .no .no .no) := by
    unfold vItR2
    simp only [runDef, initE, finR, parD, retV, sSeq, sBind_ok, sBind_exn, sBind_bad, sNext, sIf, sSet, stor, sRet, sRetN, sExpr, sUnp, sAug, sPut, sPutA, sRaise, sBreak, sCont, sFor, obind_ok, obind_exn, obind_bad, retP_some, retP_none, vName, vC, vOp1, vOp2, vTst, vTru, vNot, vAnd, vOr, vIfE, vAndV, vOrV, vChain, vArgs, looks, look, esc, escs, frz, vTup, vLst, vB, vMut, vSl, vNotT, vDic1, vDic1B, vDic0, Slot.mu?, Slot.put, Slot.d?, List.getElem?_cons_zero, List.getElem?_cons_succ, List.getElem?_nil, Option.bind_some, Option.bind_none, Option.map_some, Option.map_none, List.set_cons_zero, List.set_cons_succ, List.set_nil, List.length_cons, List.length_nil, hName, hTup, hCons, hNil, opAdd, opSub, opLt, opLe, opGt, opGe, opLen, opInt, opNeg, opIs, opIsNot, isP, VL.isNon, truD, iAdd, iSub, opEq_int, opNe_int, if_true, if_false, ite_true, ite_false, Bool.not_true, Bool.not_false, Bool.false_eq_true, List.map_cons, List.map_nil, List.replicate_zero, List.replicate_succ, List.append_nil, List.nil_append, List.cons_append, reduceCtorEq, if_pos, Bool.not_eq_true, decide_eq_true_eq, decide_true, decide_false, c_eq, c_lt, c_le, c_ge, Nat.zero_add, Nat.reduceAdd, Pv.vl, s0, s1, s2, s3, s4, looks]
    rw [if_pos ⟨by omega, by omega⟩]
    have : (((n : Nat) : Int) - 1).toNat = n - 1 := by omega
    rw [this]
    rfl
  have p4 := pure_ints (nI S2) (.lst (iD d4))
  have c := vComp_map (h := hName 6) (g := vYes) (f := vOp2 opIx (vName 3) (vName 6)) (vs := [6]) (src := vItA (vCall S__law_order [(vName 0), (vB opLen [(vName 3)])])) (ρ := Ed d3 n S T y4 y5 .no) (ρ1 := Ed d4 n S T y4 y5 .no)
    (fun i : Nat => D.int (i : Int)) (fun _ => true) (fun i => pairD (T.getD i (0, 0))) S2 (by unfold vItA; simp only [runDef, initE, finR, parD, retV, sSeq, sBind_ok, sBind_exn, sBind_bad, sNext, sIf, sSet, stor, sRet, sRetN, sExpr, sUnp, sAug, sPut, sPutA, sRaise, sBreak, sCont, sFor, obind_ok, obind_exn, obind_bad, retP_some, retP_none, vName, vC, vOp1, vOp2, vTst, vTru, vNot, vAnd, vOr, vIfE, vAndV, vOrV, vChain, vArgs, looks, look, esc, escs, frz, vTup, vLst, vB, vMut, vSl, vNotT, vDic1, vDic1B, vDic0, Slot.mu?, Slot.put, Slot.d?, List.getElem?_cons_zero, List.getElem?_cons_succ, List.getElem?_nil, Option.bind_some, Option.bind_none, Option.map_some, Option.map_none, List.set_cons_zero, List.set_cons_succ, List.set_nil, List.length_cons, List.length_nil, hName, hTup, hCons, hNil, opAdd, opSub, opLt, opLe, opGt, opGe, opLen, opInt, opNeg, opIs, opIsNot, isP, VL.isNon, truD, iAdd, iSub, opEq_int, opNe_int, if_true, if_false, ite_true, ite_false, Bool.not_true, Bool.not_false, Bool.false_eq_true, List.map_cons, List.map_nil, List.replicate_zero, List.replicate_succ, List.append_nil, List.nil_append, List.cons_append, reduceCtorEq, if_pos, Bool.not_eq_true, decide_eq_true_eq, decide_true, decide_false, c_eq, c_lt, c_le, c_ge, Nat.zero_add, Nat.reduceAdd, Pv.vl, s0, s1, s2, s3, s4, vCall, vCallV, own_lo, List.length_map, r4, vCallR]) (iD_nI S2) (by rw [hS2.length_eq, List.length_range, sizeLine_eq]; have := J.len; omega) (fun i hi => by
      have hiT : i < T.length := List.mem_range.mp (hS2.mem_iff.mp hi)
      have gx := edge_ixL (es := T) hiT
      refine ⟨_, rfl, rfl, fun _ => ⟨.sh (pairD (T.getD i (0, 0))), ?_, rfl⟩, rfl⟩
      simp only [runDef, initE, finR, parD, retV, sSeq, sBind_ok, sBind_exn, sBind_bad, sNext, sIf, sSet, stor, sRet, sRetN, sExpr, sUnp, sAug, sPut, sPutA, sRaise, sBreak, sCont, sFor, obind_ok, obind_exn, obind_bad, retP_some, retP_none, vName, vC, vOp1, vOp2, vTst, vTru, vNot, vAnd, vOr, vIfE, vAndV, vOrV, vChain, vArgs, looks, look, esc, escs, frz, vTup, vLst, vB, vMut, vSl, vNotT, vDic1, vDic1B, vDic0, Slot.mu?, Slot.put, Slot.d?, List.getElem?_cons_zero, List.getElem?_cons_succ, List.getElem?_nil, Option.bind_some, Option.bind_none, Option.map_some, Option.map_none, List.set_cons_zero, List.set_cons_succ, List.set_nil, List.length_cons, List.length_nil, hName, hTup, hCons, hNil, opAdd, opSub, opLt, opLe, opGt, opGe, opLen, opInt, opNeg, opIs, opIsNot, isP, VL.isNon, truD, iAdd, iSub, opEq_int, opNe_int, if_true, if_false, ite_true, ite_false, Bool.not_true, Bool.not_false, Bool.false_eq_true, List.map_cons, List.map_nil, List.replicate_zero, List.replicate_succ, List.append_nil, List.nil_append, List.cons_append, reduceCtorEq, if_pos, Bool.not_eq_true, decide_eq_true_eq, decide_true, decide_false, c_eq, c_lt, c_le, c_ge, Nat.zero_add, Nat.reduceAdd, Pv.vl, s0, s1, s2, s3, s4, wipeE, gx])
  rw [filtT] at c
  have em : S2.map (fun i => pairD (T.getD i (0, 0))) = (S2.map fun i => T.getD i (0, 0)).map pairD := by rw [List.map_map]; rfl
  rw [em] at c
  have pm : (S2.map fun i => T.getD i (0, 0)).Perm T := by
    have := hS2.map fun i => T.getD i (0, 0)
    rwa [pick_range] at this
  have pm2 : T.reverse.Perm (S2.map fun i => T.getD i (0, 0)) := (List.reverse_perm T).trans pm.symm
  have W := J.el.wood.perm pm2
  have hln : (S2.map fun i => T.getD i (0, 0)).length = T.length := pm.length_eq
  have rke : CM.rk n (S2.map fun i => T.getD i (0, 0)) = (S2.map fun i => T.getD i (0, 0)).length := by
    rw [hln, ← List.length_reverse, ← J.el.rk]
    exact rk_mem W.ok J.el.wood.ok fun p => pm2.mem_iff.symm
  refine ⟨n, S2.map fun i => T.getD i (0, 0), d4, ?_, by omega, by omega, W, by rw [hln]; have := J.len; omega, rke⟩
  generalize (S2.map fun i => T.getD i (0, 0)) = es at *
  have key : t__law_drawn S__law_take S__law_order [.par (.lst (iD deck)), .no, .no, .no, .no, .no, .no] = .ret (.sh (.tup [.int (n : Nat), .lst (es.map pairD)])) (Ed d4 n S T y4 y5 .no) := by
    unfold t__law_drawn
    rw [seq_nx (ρ1 := [.par (.lst (iD d1)), .sh (.int n), .no, .no, .no, .no, .no]) (by simp only [runDef, initE, finR, parD, retV, sSeq, sBind_ok, sBind_exn, sBind_bad, sNext, sIf, sSet, stor, sRet, sRetN, sExpr, sUnp, sAug, sPut, sPutA, sRaise, sBreak, sCont, sFor, obind_ok, obind_exn, obind_bad, retP_some, retP_none, vName, vC, vOp1, vOp2, vTst, vTru, vNot, vAnd, vOr, vIfE, vAndV, vOrV, vChain, vArgs, looks, look, esc, escs, frz, vTup, vLst, vB, vMut, vSl, vNotT, vDic1, vDic1B, vDic0, Slot.mu?, Slot.put, Slot.d?, List.getElem?_cons_zero, List.getElem?_cons_succ, List.getElem?_nil, Option.bind_some, Option.bind_none, Option.map_some, Option.map_none, List.set_cons_zero, List.set_cons_succ, List.set_nil, List.length_cons, List.length_nil, hName, hTup, hCons, hNil, opAdd, opSub, opLt, opLe, opGt, opGe, opLen, opInt, opNeg, opIs, opIsNot, isP, VL.isNon, truD, iAdd, iSub, opEq_int, opNe_int, if_true, if_false, ite_true, ite_false, Bool.not_true, Bool.not_false, Bool.false_eq_true, List.map_cons, List.map_nil, List.replicate_zero, List.replicate_succ, List.append_nil, List.nil_append, List.cons_append, reduceCtorEq, if_pos, Bool.not_eq_true, decide_eq_true_eq, decide_true, decide_false, c_eq, c_lt, c_le, c_ge, Nat.zero_add, Nat.reduceAdd, Pv.vl, s0, s1, s2, s3, s4, vCall, vCallV, own_take, t1, vCallR, en])]
    rw [seq_nx (ρ1 := [.par (.lst (iD d2)), .sh (.int n), .own (.lst (iD (nI S))), .no, .no, .no, .no]) (by simp only [runDef, initE, finR, parD, retV, sSeq, sBind_ok, sBind_exn, sBind_bad, sNext, sIf, sSet, stor, sRet, sRetN, sExpr, sUnp, sAug, sPut, sPutA, sRaise, sBreak, sCont, sFor, obind_ok, obind_exn, obind_bad, retP_some, retP_none, vName, vC, vOp1, vOp2, vTst, vTru, vNot, vAnd, vOr, vIfE, vAndV, vOrV, vChain, vArgs, looks, look, esc, escs, frz, vTup, vLst, vB, vMut, vSl, vNotT, vDic1, vDic1B, vDic0, Slot.mu?, Slot.put, Slot.d?, List.getElem?_cons_zero, List.getElem?_cons_succ, List.getElem?_nil, Option.bind_some, Option.bind_none, Option.map_some, Option.map_none, List.set_cons_zero, List.set_cons_succ, List.set_nil, List.length_cons, List.length_nil, hName, hTup, hCons, hNil, opAdd, opSub, opLt, opLe, opGt, opGe, opLen, opInt, opNeg, opIs, opIsNot, isP, VL.isNon, truD, iAdd, iSub, opEq_int, opNe_int, if_true, if_false, ite_true, ite_false, Bool.not_true, Bool.not_false, Bool.false_eq_true, List.map_cons, List.map_nil, List.replicate_zero, List.replicate_succ, List.append_nil, List.nil_append, List.cons_append, reduceCtorEq, if_pos, Bool.not_eq_true, decide_eq_true_eq, decide_true, decide_false, c_eq, c_lt, c_le, c_ge, Nat.zero_add, Nat.reduceAdd, Pv.vl, s0, s1, s2, s3, s4, vCall, vCallV, own_lo, r2, vCallR])]
    rw [seq_nx (ρ1 := Ed d2 n S [] .no .no .no) (by simp only [runDef, initE, finR, parD, retV, sSeq, sBind_ok, sBind_exn, sBind_bad, sNext, sIf, sSet, stor, sRet, sRetN, sExpr, sUnp, sAug, sPut, sPutA, sRaise, sBreak, sCont, sFor, obind_ok, obind_exn, obind_bad, retP_some, retP_none, vName, vC, vOp1, vOp2, vTst, vTru, vNot, vAnd, vOr, vIfE, vAndV, vOrV, vChain, vArgs, looks, look, esc, escs, frz, vTup, vLst, vB, vMut, vSl, vNotT, vDic1, vDic1B, vDic0, Slot.mu?, Slot.put, Slot.d?, List.getElem?_cons_zero, List.getElem?_cons_succ, List.getElem?_nil, Option.bind_some, Option.bind_none, Option.map_some, Option.map_none, List.set_cons_zero, List.set_cons_succ, List.set_nil, List.length_cons, List.length_nil, hName, hTup, hCons, hNil, opAdd, opSub, opLt, opLe, opGt, opGe, opLen, opInt, opNeg, opIs, opIsNot, isP, VL.isNon, truD, iAdd, iSub, opEq_int, opNe_int, if_true, if_false, ite_true, ite_false, Bool.not_true, Bool.not_false, Bool.false_eq_true, List.map_cons, List.map_nil, List.replicate_zero, List.replicate_succ, List.append_nil, List.nil_append, List.cons_append, reduceCtorEq, if_pos, Bool.not_eq_true, decide_eq_true_eq, decide_true, decide_false, c_eq, c_lt, c_le, c_ge, Nat.zero_add, Nat.reduceAdd, Pv.vl, s0, s1, s2, s3, s4]; rfl)]
    rw [seq_nx (ρ1 := Ed d3 n S T y4 y5 .no) (by unfold sFor; rw [iv, sBind_ok]; exact b1)]
    have c' : vComp (vItA (vCall S__law_order [(vName 0), (vB opLen [(vName 3)])])) (hName 6) vYes (vOp2 opIx (vName 3) (vName 6)) [6] (Ed d3 n S T y4 y5 .no) = .ok (.fr (.lst (es.map pairD))) (Ed d4 n S T y4 y5 .no) := c
    unfold sRet vTup vArgs vArgs
    have ev : vName 1 (Ed d3 n S T y4 y5 .no) = .ok (.sh (.int n)) (Ed d3 n S T y4 y5 .no) := rfl
    rw [ev, obind_ok, c', obind_ok]
    rfl
  show runDef 7 1 true (t__law_drawn S__law_take S__law_order) [.lst (iD deck)] = _
  unfold runDef
  rw [if_pos (show [D.lst (iD deck)].length = 1 from rfl)]
  show finR true (t__law_drawn S__law_take S__law_order [.par (.lst (iD deck)), .no, .no, .no, .no, .no, .no]) = _
  rw [key]
  rfl
end CM.K79
/-! K79F: plain values, refusals, the sixteen trees -/
namespace CM.K79
open PySem PySem.Spec PyProof.Rows L2 VL
theorem own_plain (k : Nat) : (S__law_plain (k + 1)).own0 = false := rfl
theorem isi_t1 (ds : List D) : opIsi [.tup ds, .tup [.ty "tuple", .ty "list"]] = some (.sh (.bl true)) := by rfl
theorem isi_t2 (ds : List D) : opIsi [.lst ds, .tup [.ty "tuple", .ty "list"]] = some (.sh (.bl true)) := by rfl
theorem isi_t3 (ds : List D) : opIsi [.tup ds, .ty "list"] = some (.sh (.bl false)) := by rfl
abbrev pI (i : Int) : D := .lst [.bl false, .int i]
theorem pl_int (k : Nat) (i : Int) : (S__law_plain (k + 1)).run [.int i] = .ret (.fr (.lst [.bl false, .int i])) .non := by
  unfold S__law_plain t__law_plain
  simp only [runDef, initE, finR, parD, retV, sSeq, sBind_ok, sBind_exn, sBind_bad, sNext, sIf, sSet, stor, sRet, sRetN, sExpr, sUnp, sAug, sPut, sPutA, sRaise, sBreak, sCont, sFor, obind_ok, obind_exn, obind_bad, retP_some, retP_none, vName, vC, vOp1, vOp2, vTst, vTru, vNot, vAnd, vOr, vIfE, vAndV, vOrV, vChain, vArgs, looks, look, esc, escs, frz, vTup, vLst, vB, vMut, vSl, vNotT, vDic1, vDic1B, vDic0, Slot.mu?, Slot.put, Slot.d?, List.getElem?_cons_zero, List.getElem?_cons_succ, List.getElem?_nil, Option.bind_some, Option.bind_none, Option.map_some, Option.map_none, List.set_cons_zero, List.set_cons_succ, List.set_nil, List.length_cons, List.length_nil, hName, hTup, hCons, hNil, opAdd, opSub, opLt, opLe, opGt, opGe, opLen, opInt, opNeg, opIs, opIsNot, isP, VL.isNon, truD, iAdd, iSub, opEq_int, opNe_int, if_true, if_false, ite_true, ite_false, Bool.not_true, Bool.not_false, Bool.false_eq_true, List.map_cons, List.map_nil, List.replicate_zero, List.replicate_succ, List.append_nil, List.nil_append, List.cons_append, reduceCtorEq, if_pos, Bool.not_eq_true, decide_eq_true_eq, decide_true, decide_false, c_eq, c_lt, c_le, c_ge, Nat.zero_add, Nat.reduceAdd, Pv.vl, s0, s1, s2, s3, s4, Nat.reduceSub, isi_i1, isi_i2, isi_i3, isi_i4]
theorem pl_seq {α : Type} (k : Nat) (b : Bool) (enc y : α → D) (xs : List α) (h : ∀ x ∈ xs, (S__law_plain (k + 1)).run [enc x] = .ret (.fr (y x)) .non) (hl : xs.length ≤ 1000) :
    (S__law_plain (k + 2)).run [if b then .lst (xs.map enc) else .tup (xs.map enc)] = .ret (.fr (.lst (.bl b :: xs.map y))) .non := by
  have h2 : (1 + (xs.map y).length ≤ sizeLine) = True := eq_true (by rw [sizeLine_eq, List.length_map]; omega)
  have h1 : (0 + 1 + (xs.map y).length ≤ sizeLine) = True := eq_true (by rw [sizeLine_eq, List.length_map]; omega)
  have item : ∀ (u : D) (x : α), x ∈ xs → ∃ ρ2, hName 1 (enc x) (wipeE [.sh u, .no] [1]) = some ρ2 ∧ vYes ρ2 = .ok true ρ2 ∧ (true = true → ∃ v, vCall (S__law_plain (k + 1)) [(vName 1)] ρ2 = .ok v ρ2 ∧ esc ρ2 v = some (y x, ρ2)) ∧ wipeE ρ2 [1] = wipeE [.sh u, .no] [1] := fun u x hx => by
    have r := h x hx
    refine ⟨_, rfl, rfl, fun _ => ⟨.fr (y x), ?_, rfl⟩, rfl⟩
    cases hp : pureFR (.ret (.fr (y x)) .non) <;> simp only [runDef, initE, finR, parD, retV, sSeq, sBind_ok, sBind_exn, sBind_bad, sNext, sIf, sSet, stor, sRet, sRetN, sExpr, sUnp, sAug, sPut, sPutA, sRaise, sBreak, sCont, sFor, obind_ok, obind_exn, obind_bad, retP_some, retP_none, vName, vC, vOp1, vOp2, vTst, vTru, vNot, vAnd, vOr, vIfE, vAndV, vOrV, vChain, vArgs, looks, look, esc, escs, frz, vTup, vLst, vB, vMut, vSl, vNotT, vDic1, vDic1B, vDic0, Slot.mu?, Slot.put, Slot.d?, List.getElem?_cons_zero, List.getElem?_cons_succ, List.getElem?_nil, Option.bind_some, Option.bind_none, Option.map_some, Option.map_none, List.set_cons_zero, List.set_cons_succ, List.set_nil, List.length_cons, List.length_nil, hName, hTup, hCons, hNil, opAdd, opSub, opLt, opLe, opGt, opGe, opLen, opInt, opNeg, opIs, opIsNot, isP, VL.isNon, truD, iAdd, iSub, opEq_int, opNe_int, if_true, if_false, ite_true, ite_false, Bool.not_true, Bool.not_false, Bool.false_eq_true, List.map_cons, List.map_nil, List.replicate_zero, List.replicate_succ, List.append_nil, List.nil_append, List.cons_append, reduceCtorEq, if_pos, Bool.not_eq_true, decide_eq_true_eq, decide_true, decide_false, c_eq, c_lt, c_le, c_ge, Nat.zero_add, Nat.reduceAdd, Pv.vl, s0, s1, s2, s3, s4, wipeE, vCall, vCallV, own_plain, r, hp, vCallR]
  cases b with
  | true =>
    have c := vComp_map (h := hName 1) (g := vYes) (f := vCall (S__law_plain (k + 1)) [(vName 1)]) (vs := [1]) (src := vItA (vName 0)) (ρ := [.sh (.lst (xs.map enc)), .no]) enc (fun _ => true) y xs (itA_sh rfl) rfl (by rw [sizeLine_eq]; omega) (item _)
    rw [filtT] at c
    show runDef 2 1 false (t__law_plain (S__law_plain (k + 1))) [.lst (xs.map enc)] = _
    unfold t__law_plain
    simp only [runDef, initE, finR, parD, retV, sSeq, sBind_ok, sBind_exn, sBind_bad, sNext, sIf, sSet, stor, sRet, sRetN, sExpr, sUnp, sAug, sPut, sPutA, sRaise, sBreak, sCont, sFor, obind_ok, obind_exn, obind_bad, retP_some, retP_none, vName, vC, vOp1, vOp2, vTst, vTru, vNot, vAnd, vOr, vIfE, vAndV, vOrV, vChain, vArgs, looks, look, esc, escs, frz, vTup, vLst, vB, vMut, vSl, vNotT, vDic1, vDic1B, vDic0, Slot.mu?, Slot.put, Slot.d?, List.getElem?_cons_zero, List.getElem?_cons_succ, List.getElem?_nil, Option.bind_some, Option.bind_none, Option.map_some, Option.map_none, List.set_cons_zero, List.set_cons_succ, List.set_nil, List.length_cons, List.length_nil, hName, hTup, hCons, hNil, opAdd, opSub, opLt, opLe, opGt, opGe, opLen, opInt, opNeg, opIs, opIsNot, isP, VL.isNon, truD, iAdd, iSub, opEq_int, opNe_int, if_true, if_false, ite_true, ite_false, Bool.not_true, Bool.not_false, Bool.false_eq_true, List.map_cons, List.map_nil, List.replicate_zero, List.replicate_succ, List.append_nil, List.nil_append, List.cons_append, reduceCtorEq, if_pos, Bool.not_eq_true, decide_eq_true_eq, decide_true, decide_false, c_eq, c_lt, c_le, c_ge, Nat.zero_add, Nat.reduceAdd, Pv.vl, s0, s1, s2, s3, s4, Nat.reduceSub, isi_t2, isi_l, c, h1, h2]
  | false =>
    have c := vComp_map (h := hName 1) (g := vYes) (f := vCall (S__law_plain (k + 1)) [(vName 1)]) (vs := [1]) (src := vItA (vName 0)) (ρ := [.sh (.tup (xs.map enc)), .no]) enc (fun _ => true) y xs (itA_tup rfl) rfl (by rw [sizeLine_eq]; omega) (item _)
    rw [filtT] at c
    show runDef 2 1 false (t__law_plain (S__law_plain (k + 1))) [.tup (xs.map enc)] = _
    unfold t__law_plain
    simp only [runDef, initE, finR, parD, retV, sSeq, sBind_ok, sBind_exn, sBind_bad, sNext, sIf, sSet, stor, sRet, sRetN, sExpr, sUnp, sAug, sPut, sPutA, sRaise, sBreak, sCont, sFor, obind_ok, obind_exn, obind_bad, retP_some, retP_none, vName, vC, vOp1, vOp2, vTst, vTru, vNot, vAnd, vOr, vIfE, vAndV, vOrV, vChain, vArgs, looks, look, esc, escs, frz, vTup, vLst, vB, vMut, vSl, vNotT, vDic1, vDic1B, vDic0, Slot.mu?, Slot.put, Slot.d?, List.getElem?_cons_zero, List.getElem?_cons_succ, List.getElem?_nil, Option.bind_some, Option.bind_none, Option.map_some, Option.map_none, List.set_cons_zero, List.set_cons_succ, List.set_nil, List.length_cons, List.length_nil, hName, hTup, hCons, hNil, opAdd, opSub, opLt, opLe, opGt, opGe, opLen, opInt, opNeg, opIs, opIsNot, isP, VL.isNon, truD, iAdd, iSub, opEq_int, opNe_int, if_true, if_false, ite_true, ite_false, Bool.not_true, Bool.not_false, Bool.false_eq_true, List.map_cons, List.map_nil, List.replicate_zero, List.replicate_succ, List.append_nil, List.nil_append, List.cons_append, reduceCtorEq, if_pos, Bool.not_eq_true, decide_eq_true_eq, decide_true, decide_false, c_eq, c_lt, c_le, c_ge, Nat.zero_add, Nat.reduceAdd, Pv.vl, s0, s1, s2, s3, s4, Nat.reduceSub, isi_t1, isi_t3, c, h1, h2]
/-! equality with itself -/
structure Ps (x : D) (p : PyData) (m : Nat) : Prop where
  t : x.toP = some p
  l : p.canLay0 = true
  d : p.depth ≤ m
theorem ps_int (i : Int) : Ps (.int i) (.int i) 0 := ⟨rfl, by simp [PyData.canLay0], by simp [PyData.depth]⟩
theorem ps_list {α : Type} {f : α → D} {g : α → PyData} {m : Nat} (h : ∀ a, Ps (f a) (g a) m) (b : Bool) (l : List α) : Ps (.lst (.bl b :: l.map f)) (.list (.bool b :: l.map g)) (m + 1) := by
  have key : ∀ l : List α, toPs (l.map f) = some (l.map g) ∧ PyData.canLayAll0 (l.map g) = true ∧ PyData.depthAll (l.map g) ≤ m := fun l => by
    induction l with
    | nil => simp [toPs, PyData.canLayAll0, PyData.depthAll]
    | cons a l ih =>
      obtain ⟨i1, i2, i3⟩ := ih
      obtain ⟨h1, h2, h3⟩ := h a
      simp only [List.map_cons, toPs, i1, h1, PyData.canLayAll0, h2, i2, PyData.depthAll]
      exact ⟨trivial, rfl, by omega⟩
  obtain ⟨k1, k2, k3⟩ := key l
  refine ⟨by simp only [D.toP, toPs, k1, Option.map_some], by simp only [PyData.canLay0, PyData.canLayAll0, k2]; rfl, by simp only [PyData.depth, PyData.depthAll]; omega⟩
theorem Ps.self {x : D} {p : PyData} {m : Nat} (h : Ps x p m) (hm : m ≤ 64) : eqP x x = some true := by
  have sh : SeqAt.shaped p = true := Bool.and_eq_true_iff.mpr ⟨h.l, decide_eq_true (Nat.le_trans h.d hm)⟩
  unfold eqP
  rw [h.t]
  dsimp only
  rw [sh, Bool.and_self, if_pos rfl, SeqAt.eqv_refl_plain p (PyData.plain_of_canLay0 p h.l)]
/-! refusals -/
theorem exc1 : (("InvalidGraph" : Str) ∈ excs ∧ ∀ h ∈ ([(("InvalidGraph" : Str), 2, fun w => .tup [.str ("graph" : Str), w]), (("InvalidOrder" : Str), 2, fun w => .tup [.str ("order" : Str), w])] : List (Str × Nat × (D → D))), h.1 ∈ excs) = True := by
  refine eq_true ⟨by decide +kernel, fun h hh => ?_⟩
  rcases List.mem_cons.mp hh with rfl | hh
  · show ("InvalidGraph" : Str) ∈ excs
    decide +kernel
  · rw [List.mem_singleton.mp hh]
    show ("InvalidOrder" : Str) ∈ excs
    decide +kernel
theorem exc2 : (("InvalidOrder" : Str) ∈ excs ∧ ∀ h ∈ ([(("InvalidGraph" : Str), 2, fun w => .tup [.str ("graph" : Str), w]), (("InvalidOrder" : Str), 2, fun w => .tup [.str ("order" : Str), w])] : List (Str × Nat × (D → D))), h.1 ∈ excs) = True :=
  eq_true ⟨by decide +kernel, (of_eq_true exc1).2⟩
theorem lk1 : ([(("InvalidGraph" : Str), 2, fun w => .tup [.str ("graph" : Str), w]), (("InvalidOrder" : Str), 2, fun w => .tup [.str ("order" : Str), w])] : List (Str × Nat × (D → D))).lookup ("InvalidGraph" : Str) = some (2, fun w => .tup [.str ("graph" : Str), w]) := by rfl
theorem lk2 : ([(("InvalidGraph" : Str), 2, fun w => .tup [.str ("graph" : Str), w]), (("InvalidOrder" : Str), 2, fun w => .tup [.str ("order" : Str), w])] : List (Str × Nat × (D → D))).lookup ("InvalidOrder" : Str) = some (2, fun w => .tup [.str ("order" : Str), w]) := by rfl
theorem r_refG {n : Nat} {es : Es} (ho : okP n es) (hn : n ≤ 60) (hm : es.length ≤ 1000) (h : n < 2 ∨ (roots n es).length ≠ 1 ∨ es.length + 1 ≠ n) : S__law_refusal.run [.int 0, gD n es] = .ret (.sh (.tup [.str "graph", .str "tree"])) .non := by
  have g := r_pwno ho hn hm h
  have e0 : opEq (.int 0) (.int 0) = some (.sh (.bl true)) := by rw [opEq_int]; rfl
  unfold S__law_refusal t__law_refusal
  simp only [runDef, initE, finR, parD, retV, sSeq, sBind_ok, sBind_exn, sBind_bad, sNext, sIf, sSet, stor, sRet, sRetN, sExpr, sUnp, sAug, sPut, sPutA, sRaise, sBreak, sCont, sFor, obind_ok, obind_exn, obind_bad, retP_some, retP_none, vName, vC, vOp1, vOp2, vTst, vTru, vNot, vAnd, vOr, vIfE, vAndV, vOrV, vChain, vArgs, looks, look, esc, escs, frz, vTup, vLst, vB, vMut, vSl, vNotT, vDic1, vDic1B, vDic0, Slot.mu?, Slot.put, Slot.d?, List.getElem?_cons_zero, List.getElem?_cons_succ, List.getElem?_nil, Option.bind_some, Option.bind_none, Option.map_some, Option.map_none, List.set_cons_zero, List.set_cons_succ, List.set_nil, List.length_cons, List.length_nil, hName, hTup, hCons, hNil, opAdd, opSub, opLt, opLe, opGt, opGe, opLen, opInt, opNeg, opIs, opIsNot, isP, VL.isNon, truD, iAdd, iSub, opEq_int, opNe_int, if_true, if_false, ite_true, ite_false, Bool.not_true, Bool.not_false, Bool.false_eq_true, List.map_cons, List.map_nil, List.replicate_zero, List.replicate_succ, List.append_nil, List.nil_append, List.cons_append, reduceCtorEq, if_pos, Bool.not_eq_true, decide_eq_true_eq, decide_true, decide_false, c_eq, c_lt, c_le, c_ge, Nat.zero_add, Nat.reduceAdd, Pv.vl, s0, s1, s2, s3, s4, Nat.reduceSub, e0, vCall, vCallV, own_pw, g, pure_exn, vCallR, sTry, exc1, lk1, Nat.reduceLT]
theorem tow_no1 : S_tree_of_word.run [.lst [.int 0, .int 4]] = .exn "InvalidOrder" (.str "word") := by rfl
theorem tow_no2 : S_tree_of_word.run [.lst [.int (-1)]] = .exn "InvalidOrder" (.str "word") := by rfl
theorem r_refO {u : D} (g : S_tree_of_word.run [u] = .exn "InvalidOrder" (.str "word")) : S__law_refusal.run [.int 1, u] = .ret (.sh (.tup [.str "order", .str "word"])) .non := by
  have e0 : opEq (.int 1) (.int 0) = some (.sh (.bl false)) := by rw [opEq_int]; rfl
  unfold S__law_refusal t__law_refusal
  simp only [runDef, initE, finR, parD, retV, sSeq, sBind_ok, sBind_exn, sBind_bad, sNext, sIf, sSet, stor, sRet, sRetN, sExpr, sUnp, sAug, sPut, sPutA, sRaise, sBreak, sCont, sFor, obind_ok, obind_exn, obind_bad, retP_some, retP_none, vName, vC, vOp1, vOp2, vTst, vTru, vNot, vAnd, vOr, vIfE, vAndV, vOrV, vChain, vArgs, looks, look, esc, escs, frz, vTup, vLst, vB, vMut, vSl, vNotT, vDic1, vDic1B, vDic0, Slot.mu?, Slot.put, Slot.d?, List.getElem?_cons_zero, List.getElem?_cons_succ, List.getElem?_nil, Option.bind_some, Option.bind_none, Option.map_some, Option.map_none, List.set_cons_zero, List.set_cons_succ, List.set_nil, List.length_cons, List.length_nil, hName, hTup, hCons, hNil, opAdd, opSub, opLt, opLe, opGt, opGe, opLen, opInt, opNeg, opIs, opIsNot, isP, VL.isNon, truD, iAdd, iSub, opEq_int, opNe_int, if_true, if_false, ite_true, ite_false, Bool.not_true, Bool.not_false, Bool.false_eq_true, List.map_cons, List.map_nil, List.replicate_zero, List.replicate_succ, List.append_nil, List.nil_append, List.cons_append, reduceCtorEq, if_pos, Bool.not_eq_true, decide_eq_true_eq, decide_true, decide_false, c_eq, c_lt, c_le, c_ge, Nat.zero_add, Nat.reduceAdd, Pv.vl, s0, s1, s2, s3, s4, Nat.reduceSub, e0, vCall, vCallV, own_tow, g, pure_exn, vCallR, sTry, exc2, lk2, Nat.reduceLT]
/-! the sixteen trees -/
abbrev tE (w : Nat × Nat) : Es := sE (twE 4 [w.1, w.2] [])
def tT (w : Nat × Nat) : D := .tup ((tE w).map pairD)
def kP (p : Nat × Nat) : NestedKey := .tup [.num p.1, .num p.2]
def kT (w : Nat × Nat) : NestedKey := .tup ((tE w).map kP)
theorem nks_pairs : ∀ E : Es, nksOf (E.map pairD) = some (E.map kP)
  | [] => rfl
  | p :: E => by
    rw [List.map_cons]
    unfold nksOf
    rw [nks_pairs E]
    rfl
theorem nk_tT (w : Nat × Nat) : nkOf (tT w) = some (kT w) := by
  show (nksOf ((tE w).map pairD)).map NestedKey.tup = _
  rw [nks_pairs]
  rfl
theorem nks_tT : ∀ W : List (Nat × Nat), nksOf (W.map tT) = some (W.map kT)
  | [] => rfl
  | w :: W => by
    rw [List.map_cons]
    unfold nksOf
    rw [nk_tT, nks_tT W]
    rfl
theorem depth_pairs : ∀ E : Es, NestedKey.depthAll (E.map kP) ≤ 1
  | [] => Nat.zero_le _
  | p :: E => by
    have := depth_pairs E
    show max (NestedKey.depth (kP p)) (NestedKey.depthAll (E.map kP)) ≤ 1
    have h1 : NestedKey.depth (kP p) = 1 := rfl
    omega
theorem kP_inj {p q : Nat × Nat} (h : kP p = kP q) : p = q := by
  unfold kP at h
  injection h with h
  injection h with h1 h2
  injection h1 with h1
  injection h2 with h2 _
  injection h2 with h2
  exact Prod.ext (by omega) (by omega)
theorem map_kP {E F : Es} (h : E.map kP = F.map kP) : E = F := by
  induction E generalizing F with
  | nil => cases F with | nil => rfl | cons _ _ => cases h
  | cons p E ih =>
    cases F with
    | nil => cases h
    | cons q F =>
      rw [List.map_cons, List.map_cons] at h
      injection h with h1 h2
      rw [kP_inj h1, ih h2]
theorem vd4 {w : Nat × Nat} (h1 : w.1 < 4) (h2 : w.2 < 4) : Vd 4 [w.1, w.2] [] :=
  ⟨List.nodup_nil, fun x hx => (by cases hx), fun x hx => by
    rcases List.mem_cons.mp hx with rfl | hx
    · exact h1
    · rw [List.mem_singleton.mp hx]; exact h2, fun x _ z => (by cases z), rfl⟩
theorem kT_inj {w v : Nat × Nat} (hw : w.1 < 4 ∧ w.2 < 4) (hv : v.1 < 4 ∧ v.2 < 4) (h : kT w = kT v) : w = v := by
  unfold kT at h
  injection h with h
  have e := map_kP h
  have a := prw_tw (vd4 hw.1 hw.2) (sE_perm (twE 4 [w.1, w.2] []))
  have b := prw_tw (vd4 hv.1 hv.2) (sE_perm (twE 4 [v.1, v.2] []))
  have e2 : sE (twE 4 [w.1, w.2] []) = sE (twE 4 [v.1, v.2] []) := e
  rw [e2] at a
  have c := a.symm.trans b
  injection c with c1 c2
  injection c2 with c2 _
  exact Prod.ext c1 c2
def wrow (a : Nat) : List (Nat × Nat) := (List.range 4).map fun b => (a, b)
def words : List (Nat × Nat) := (List.range 4).flatMap wrow
theorem words_ok : ∀ w ∈ words, w.1 < 4 ∧ w.2 < 4 := by decide +kernel
theorem words_nd : words.Nodup := by decide +kernel
theorem set16 : setN (.lst (words.map tT)) = some (words.map kT) ∧ (dedupN (words.map kT)).length = 16 := by
  constructor
  · show (if (words.map tT).all isTupD then (nksOf (words.map tT)).bind fun ks => if ks.length < 64 ∧ (ks.all fun k => decide (k.depth ≤ 8)) = true then some ks else none else none) = _
    rw [if_pos (by
      rw [List.all_eq_true]
      intro d hd
      obtain ⟨w, _, rfl⟩ := List.mem_map.mp hd
      rfl), nks_tT, Option.bind_some, if_pos ⟨by rw [List.length_map]; decide +kernel, by
      rw [List.all_eq_true]
      intro k hk
      obtain ⟨w, _, rfl⟩ := List.mem_map.mp hk
      refine decide_eq_true ?_
      show NestedKey.depthAll ((tE w).map kP) + 1 ≤ 8
      have := depth_pairs (tE w)
      omega⟩]
  · have nd : (words.map kT).Nodup := by
      have key : ∀ W : List (Nat × Nat), (∀ w ∈ W, w.1 < 4 ∧ w.2 < 4) → W.Nodup → (W.map kT).Nodup := fun W => by
        induction W with
        | nil => exact fun _ _ => List.nodup_nil
        | cons w W ih =>
          intro h nd
          obtain ⟨n1, n2⟩ := List.nodup_cons.mp nd
          refine List.nodup_cons.mpr ⟨fun z => ?_, ih (fun v hv => h v (List.mem_cons_of_mem _ hv)) n2⟩
          obtain ⟨v, hv, e⟩ := List.mem_map.mp z
          have := kT_inj (h v (List.mem_cons_of_mem _ hv)) (h w List.mem_cons_self) e
          exact n1 (by rw [← this]; exact hv)
      exact key words words_ok words_nd
    rw [← dedupN_len nd fun x => Iff.rfl, List.length_map]
    decide +kernel
end CM.K79
/-! K79L: the law -/
namespace CM.K79
open PySem PySem.Spec PyProof.Rows L2 VL
abbrev EL (sc d : List Int) (m : Nat) (y3 y4 y5 y6 y7 y8 y9 y10 y11 y12 y13 : VL.Slot) : VL.Env := [.sh (.rol (iD sc)), .own (.lst (iD d)), .sh (.int m), y3, y4, y5, y6, y7, y8, y9, y10, y11, y12, y13]
def OS (y : VL.Slot) (d : D) : Prop := y = .own d ∨ y = .sh d
/-- the word is drawn -/
theorem draw_word (sc d : List Int) (m : Nat) (hm : m < 9) : ∃ (w : List Nat) (d' : List Int), vComp (vItR1 [(vName 2)]) (hName 4) vYes (vCall S__law_take [(vName 1), (vOp2 opAdd (vName 2) (vC (.int 2)))]) [4] (EL sc d m .no .no .no .no .no .no .no .no .no .no .no)
    = .ok (.fr (.lst (iD (nI w)))) (EL sc d' m .no .no .no .no .no .no .no .no .no .no .no) ∧ w.length = m ∧ ∀ x ∈ w, x < m + 2 := by
  have src : vItR1 [(vName 2)] (EL sc d m .no .no .no .no .no .no .no .no .no .no .no) = .ok ((List.range m).map fun i : Nat => D.int (i : Int)) (EL sc d m .no .no .no .no .no .no .no .no .no .no .no) := r1_ok (k := m) rfl (by omega)
  have em : ((m : Nat) : Int) + 2 = ((m + 2 : Nat) : Int) := by omega
  obtain ⟨ρ', out, q1, q2, q3, q4⟩ := compF_st (h := hName 4) (f := vCall S__law_take [(vName 1), (vOp2 opAdd (vName 2) (vC (.int 2)))]) (vs := [4]) (fun i : Nat => D.int (i : Int))
    (fun (d : List Int) ρ => ρ = EL sc d m .no .no .no .no .no .no .no .no .no .no .no) (fun d _ => (tk d (m + 2)).2) (fun d _ => D.int ((tk d (m + 2)).1 : Nat)) (List.range m) d (EL sc d m .no .no .no .no .no .no .no .no .no .no .no) [] rfl (by
      intro i _ d ρ hρ
      subst hρ
      have t := r_take d (m + 2) (by omega)
      refine ⟨_, rfl, .sh (.int ((tk d (m + 2)).1 : Nat)), EL sc (tk d (m + 2)).2 m .no (.sh (.int i)) .no .no .no .no .no .no .no .no .no, _, ?_, rfl, rfl⟩
      simp only [runDef, initE, finR, parD, retV, sSeq, sBind_ok, sBind_exn, sBind_bad, sNext, sIf, sSet, stor, sRet, sRetN, sExpr, sUnp, sAug, sPut, sPutA, sRaise, sBreak, sCont, sFor, obind_ok, obind_exn, obind_bad, retP_some, retP_none, vName, vC, vOp1, vOp2, vTst, vTru, vNot, vAnd, vOr, vIfE, vAndV, vOrV, vChain, vArgs, looks, look, esc, escs, frz, vTup, vLst, vB, vMut, vSl, vNotT, vDic1, vDic1B, vDic0, Slot.mu?, Slot.put, Slot.d?, List.getElem?_cons_zero, List.getElem?_cons_succ, List.getElem?_nil, Option.bind_some, Option.bind_none, Option.map_some, Option.map_none, List.set_cons_zero, List.set_cons_succ, List.set_nil, List.length_cons, List.length_nil, hName, hTup, hCons, hNil, opAdd, opSub, opLt, opLe, opGt, opGe, opLen, opInt, opNeg, opIs, opIsNot, isP, VL.isNon, truD, iAdd, iSub, opEq_int, opNe_int, if_true, if_false, ite_true, ite_false, Bool.not_true, Bool.not_false, Bool.false_eq_true, List.map_cons, List.map_nil, List.replicate_zero, List.replicate_succ, List.append_nil, List.nil_append, List.cons_append, reduceCtorEq, if_pos, Bool.not_eq_true, decide_eq_true_eq, decide_true, decide_false, c_eq, c_lt, c_le, c_ge, Nat.zero_add, Nat.reduceAdd, Pv.vl, s0, s1, s2, s3, s4, em, vCall, vCallV, own_take, t, vCallR]) (by rw [sizeLine_eq, List.length_range, List.length_nil]; omega)
  obtain ⟨d', rfl⟩ : ∃ d', ρ' = EL sc d' m .no .no .no .no .no .no .no .no .no .no .no := ⟨_, q2⟩
  rw [List.nil_append] at q1
  have hw : ∃ w : List Nat, out = iD (nI w) ∧ w.length = m ∧ ∀ x ∈ w, x < m + 2 := by
    have : ∀ o ∈ out, ∃ x : Nat, o = .int x ∧ x < m + 2 := by
      intro o ho
      obtain ⟨i, hi⟩ := List.mem_iff_getElem?.mp ho
      have hlt : i < m := by
        have := (List.getElem?_eq_some_iff.mp hi).1
        rw [q3, List.length_range] at this
        exact this
      have := q4 i i (by rw [List.getElem?_range hlt])
      rw [this] at hi
      cases hi
      exact ⟨_, rfl, tk_lt _ (by omega)⟩
    refine ⟨out.map fun o => match o with | .int x => x.toNat | _ => 0, ?_, by rw [List.length_map, q3, List.length_range], fun x hx => ?_⟩
    · show out = ((out.map _).map _).map D.int
      rw [List.map_map, List.map_map]
      refine (List.map_id _).symm.trans (List.map_congr_left fun o ho => ?_)
      obtain ⟨x, rfl, _⟩ := this o ho
      rfl
    · obtain ⟨o, ho, rfl⟩ := List.mem_map.mp hx
      obtain ⟨x, rfl, h⟩ := this o ho
      exact h
  obtain ⟨w, rfl, h1, h2⟩ := hw
  refine ⟨w, d', ?_, h1, h2⟩
  have e0 : wipeE (EL sc d m .no .no .no .no .no .no .no .no .no .no .no) [4] = EL sc d m .no .no .no .no .no .no .no .no .no .no .no := rfl
  unfold vComp
  rw [src, obind_ok, e0, q1, obind_ok]
  rfl
/-! plain values that the law compares -/
abbrev pW (w : List Nat) : D := .lst (.bl true :: w.map fun i : Nat => pI (i : Int))
theorem pl_word (w : List Nat) (h : w.length ≤ 1000) : (S__law_plain 6).run [.lst (iD (nI w))] = .ret (.fr (pW w)) .non := by
  have := pl_seq 4 true (fun i : Nat => D.int (i : Int)) (fun i : Nat => pI (i : Int)) w (fun i _ => pl_int 4 i) h
  rw [iD_nI]
  exact this
theorem eq_word (w : List Nat) : opNe (pW w) (pW w) = some (.sh (.bl false)) := by
  have h := ps_list (f := fun i : Nat => pI (i : Int)) (g := fun i : Nat => PyData.list [.bool false, .int i]) (m := 2) (fun i => ⟨by simp only [D.toP, toPs, Option.map_some], by simp [PyData.canLay0, PyData.canLayAll0], by simp [PyData.depth, PyData.depthAll]⟩) true w
  exact opNe_of (h.self (by omega))
abbrev pP (p : Nat × Nat) : D := .lst [.bl false, pI p.1, pI p.2]
abbrev pG (n : Nat) (E : Es) : D := .lst [.bl true, pI n, .lst (.bl false :: E.map pP)]
theorem pl_pair (k : Nat) (p : Nat × Nat) : (S__law_plain (k + 2)).run [pairD p] = .ret (.fr (pP p)) .non :=
  pl_seq k false (fun b : Bool => D.int (if b then (p.1 : Int) else (p.2 : Int))) (fun b : Bool => pI (if b then (p.1 : Int) else (p.2 : Int))) [true, false] (fun i _ => pl_int k _) (by decide)
theorem pl_graph (n : Nat) (E : Es) (h : E.length ≤ 1000) : (S__law_plain 6).run [.lst [.int n, .tup (E.map pairD)]] = .ret (.fr (pG n E)) .non := by
  have h1 := pl_seq 3 false pairD pP E (fun p _ => pl_pair 2 p) h
  exact pl_seq 4 true (fun b : Bool => if b then D.int (n : Int) else .tup (E.map pairD)) (fun b : Bool => if b then pI (n : Int) else .lst (.bl false :: E.map pP)) [true, false] (fun b _ => by
    cases b with
    | true => exact pl_int 4 n
    | false => exact h1) (by decide)
theorem eq_graph (n : Nat) (E : Es) : opNe (pG n E) (pG n E) = some (.sh (.bl false)) := by
  have pi : ∀ i : Nat, Ps (pI i) (.list [.bool false, .int i]) 2 := fun i => ⟨by simp only [D.toP, toPs, Option.map_some], by simp [PyData.canLay0, PyData.canLayAll0], by simp [PyData.depth, PyData.depthAll]⟩
  have pp : ∀ p : Nat × Nat, Ps (pP p) (.list [.bool false, .list [.bool false, .int p.1], .list [.bool false, .int p.2]]) 3 := fun p =>
    ps_list (f := fun b : Bool => if b then pI (p.1 : Nat) else pI (p.2 : Nat)) (g := fun b : Bool => if b then PyData.list [.bool false, .int p.1] else PyData.list [.bool false, .int p.2]) (m := 2) (fun b => by
      cases b with
      | true => exact pi p.1
      | false => exact pi p.2) false [true, false]
  have pe := ps_list pp false E
  have := ps_list (f := fun b : Bool => if b then pI (n : Nat) else .lst (.bl false :: E.map pP)) (g := fun b : Bool => if b then PyData.list [.bool false, .int n] else PyData.list (.bool false :: E.map fun p => PyData.list [.bool false, .list [.bool false, .int p.1], .list [.bool false, .int p.2]])) (m := 4) (fun b => by
    cases b with
    | true => exact ⟨(pi n).t, (pi n).l, Nat.le_trans (pi n).d (by omega)⟩
    | false => exact pe) true [true, false]
  exact opNe_of (Ps.self this (by omega))
/-! the degrees -/
theorem meth1o {n : Nat} {es : Es} {m : Str} {S : FSpec} {f : SE} {ρ ρ1 : VL.Env} {p : Pv} {c u : D} {i : Nat} (h0 : ρ[i]? = some (.own (gD n es))) (hm : ([(("vertices" : Str), D.int n), ("edges", .tup (es.map pairD))] : List (Str × D)).lookup m = none) (h1 : vArgs [f] ρ = .ok [.sh u] ρ1) (h2 : ρ1[i]? = some (.own (gD n es))) (hr : S.run [gD n es, u] = .ret p c) : vMeth "Graph" m S (vName i) [f] ρ = .ok p.vl (ρ1.set i (.sh (gD n es))) := by
  have e : vName i ρ = .ok (.al i) ρ := by unfold vName; rw [h0]
  have hl : look ρ (.al i) = some (.obj "Graph" [(("vertices" : Str), D.int n), ("edges", .tup (es.map pairD))]) := by
    show (ρ[i]?).bind Slot.d? = _
    rw [h0]
    rfl
  have he : escs ρ1 [frz (.al i), .sh u] = some ([gD n es, u], ρ1.set i (.sh (gD n es))) := by
    have h3 : esc ρ1 (.al i) = some (gD n es, ρ1.set i (.sh (gD n es))) := by
      unfold esc
      dsimp only
      rw [h2]
    show escs ρ1 [.al i, .sh u] = _
    unfold escs
    rw [h3]
    rfl
  unfold vMeth
  rw [e, obind_ok, hl]
  dsimp only
  rw [if_pos ⟨rfl, hm⟩, h1, obind_ok, he]
  dsimp only
  rw [hr]
theorem deg_comp {n m : Nat} {es : Es} (sc d : List Int) (hm : m + 2 = n) (hn : n ≤ 60) (hl : es.length ≤ 1000) {y5 : VL.Slot} (h5 : OS y5 (gD n es)) (y3 y4 y7 y8 y9 y10 y11 y12 y13 : VL.Slot) :
    ∃ z5, OS z5 (gD n es) ∧ vComp (vItR1 [(vOp2 opAdd (vName 2) (vC (.int 2)))]) (hName 6) vYes (vMeth ("Graph" : Str) ("degree" : Str) S_Graph_degree (vName 5) [(vName 6)]) [6] (EL sc d m y3 y4 y5 .no y7 y8 y9 y10 y11 y12 y13)
      = .ok (.fr (.lst (iD (nI (dgs n es))))) (restE [6] (EL sc d m y3 y4 y5 .no y7 y8 y9 y10 y11 y12 y13) (EL sc d m y3 y4 z5 .no y7 y8 y9 y10 y11 y12 y13)) := by
  have em : ((m : Nat) : Int) + 2 = ((n : Nat) : Int) := by omega
  have src : vItR1 [(vOp2 opAdd (vName 2) (vC (.int 2)))] (EL sc d m y3 y4 y5 .no y7 y8 y9 y10 y11 y12 y13) = .ok ((List.range n).map fun i : Nat => D.int (i : Int)) (EL sc d m y3 y4 y5 .no y7 y8 y9 y10 y11 y12 y13) := r1_ok (k := n) (by simp only [runDef, initE, finR, parD, retV, sSeq, sBind_ok, sBind_exn, sBind_bad, sNext, sIf, sSet, stor, sRet, sRetN, sExpr, sUnp, sAug, sPut, sPutA, sRaise, sBreak, sCont, sFor, obind_ok, obind_exn, obind_bad, retP_some, retP_none, vName, vC, vOp1, vOp2, vTst, vTru, vNot, vAnd, vOr, vIfE, vAndV, vOrV, vChain, vArgs, looks, look, esc, escs, frz, vTup, vLst, vB, vMut, vSl, vNotT, vDic1, vDic1B, vDic0, Slot.mu?, Slot.put, Slot.d?, List.getElem?_cons_zero, List.getElem?_cons_succ, List.getElem?_nil, Option.bind_some, Option.bind_none, Option.map_some, Option.map_none, List.set_cons_zero, List.set_cons_succ, List.set_nil, List.length_cons, List.length_nil, hName, hTup, hCons, hNil, opAdd, opSub, opLt, opLe, opGt, opGe, opLen, opInt, opNeg, opIs, opIsNot, isP, VL.isNon, truD, iAdd, iSub, opEq_int, opNe_int, if_true, if_false, ite_true, ite_false, Bool.not_true, Bool.not_false, Bool.false_eq_true, List.map_cons, List.map_nil, List.replicate_zero, List.replicate_succ, List.append_nil, List.nil_append, List.cons_append, reduceCtorEq, if_pos, Bool.not_eq_true, decide_eq_true_eq, decide_true, decide_false, c_eq, c_lt, c_le, c_ge, Nat.zero_add, Nat.reduceAdd, Pv.vl, s0, s1, s2, s3, s4, em]) (by omega)
  obtain ⟨ρ', out, q1, q2, q3, q4⟩ := compF_st (h := hName 6) (f := vMeth ("Graph" : Str) ("degree" : Str) S_Graph_degree (vName 5) [(vName 6)]) (vs := [6]) (fun i : Nat => D.int (i : Int))
    (fun (_ : Unit) ρ => ∃ z5, OS z5 (gD n es) ∧ ρ = EL sc d m y3 y4 z5 .no y7 y8 y9 y10 y11 y12 y13) (fun _ _ => ()) (fun _ v => D.int (dg es v : Nat)) (List.range n) () (EL sc d m y3 y4 y5 .no y7 y8 y9 y10 y11 y12 y13) [] ⟨y5, h5, rfl⟩ (by
      rintro v hv _ ρ ⟨z5, hz, rfl⟩
      have r := r_degree (n := n) (es := es) (List.mem_range.mp hv) hl
      rcases hz with rfl | rfl
      · exact ⟨_, rfl, .sh (.int (dg es v)), EL sc d m y3 y4 (.sh (gD n es)) (.sh (.int v)) y7 y8 y9 y10 y11 y12 y13, _, meth1o (i := 5) (ρ1 := EL sc d m y3 y4 (.own (gD n es)) (.sh (.int v)) y7 y8 y9 y10 y11 y12 y13) (u := .int v) rfl lk_deg rfl rfl r, rfl, _, .inr rfl, rfl⟩
      · exact ⟨_, rfl, .sh (.int (dg es v)), EL sc d m y3 y4 (.sh (gD n es)) (.sh (.int v)) y7 y8 y9 y10 y11 y12 y13, _, meth1 (i := 5) (ρ1 := EL sc d m y3 y4 (.sh (gD n es)) (.sh (.int v)) y7 y8 y9 y10 y11 y12 y13) (u := .int v) rfl lk_deg rfl r, rfl, _, .inr rfl, rfl⟩) (by rw [sizeLine_eq, List.length_range, List.length_nil]; omega)
  obtain ⟨z5, hz, rfl⟩ := q2
  rw [List.nil_append] at q1
  have eo : out = iD (nI (dgs n es)) := by
    rw [iD_nI, List.map_map]
    refine List.ext_getElem? fun i => ?_
    rw [List.getElem?_map]
    cases hi : (List.range n)[i]? with
    | none =>
      have := List.getElem?_eq_none_iff.mp hi
      rw [List.getElem?_eq_none (by rw [q3]; exact this)]
      rfl
    | some x => rw [q4 i x hi]; rfl
  refine ⟨z5, hz, ?_⟩
  have e0 : wipeE (EL sc d m y3 y4 y5 .no y7 y8 y9 y10 y11 y12 y13) [6] = EL sc d m y3 y4 y5 .no y7 y8 y9 y10 y11 y12 y13 := rfl
  unfold vComp
  rw [src, obind_ok, e0, q1, eo, obind_ok]
theorem cnt_comp {n m : Nat} {w : List Nat} (sc d : List Int) (hm : m + 2 = n) (hn : n ≤ 60) {y3 : VL.Slot} (h3 : OS y3 (.lst (iD (nI w)))) (y4 y5 y7 y8 y9 y10 y11 y12 y13 : VL.Slot) :
    vComp (vItR1 [(vOp2 opAdd (vName 2) (vC (.int 2)))]) (hName 6) vYes (vOp2 opAdd (vC (.int 1)) (vM "list" mCount (vName 3) [(vName 6)])) [6] (EL sc d m y3 y4 y5 .no y7 y8 y9 y10 y11 y12 y13)
      = .ok (.fr (.lst (iD (nI (dT n w []))))) (EL sc d m y3 y4 y5 .no y7 y8 y9 y10 y11 y12 y13) := by
  have em : ((m : Nat) : Int) + 2 = ((n : Nat) : Int) := by omega
  have c := vComp_map (h := hName 6) (g := vYes) (f := vOp2 opAdd (vC (.int 1)) (vM "list" mCount (vName 3) [(vName 6)])) (vs := [6]) (src := vItR1 [(vOp2 opAdd (vName 2) (vC (.int 2)))]) (ρ := EL sc d m y3 y4 y5 .no y7 y8 y9 y10 y11 y12 y13) (ρ1 := EL sc d m y3 y4 y5 .no y7 y8 y9 y10 y11 y12 y13)
    (fun i : Nat => D.int (i : Int)) (fun _ => true) (fun v => D.int (1 + w.count v : Nat)) (List.range n) (r1_ok (k := n) (by simp only [runDef, initE, finR, parD, retV, sSeq, sBind_ok, sBind_exn, sBind_bad, sNext, sIf, sSet, stor, sRet, sRetN, sExpr, sUnp, sAug, sPut, sPutA, sRaise, sBreak, sCont, sFor, obind_ok, obind_exn, obind_bad, retP_some, retP_none, vName, vC, vOp1, vOp2, vTst, vTru, vNot, vAnd, vOr, vIfE, vAndV, vOrV, vChain, vArgs, looks, look, esc, escs, frz, vTup, vLst, vB, vMut, vSl, vNotT, vDic1, vDic1B, vDic0, Slot.mu?, Slot.put, Slot.d?, List.getElem?_cons_zero, List.getElem?_cons_succ, List.getElem?_nil, Option.bind_some, Option.bind_none, Option.map_some, Option.map_none, List.set_cons_zero, List.set_cons_succ, List.set_nil, List.length_cons, List.length_nil, hName, hTup, hCons, hNil, opAdd, opSub, opLt, opLe, opGt, opGe, opLen, opInt, opNeg, opIs, opIsNot, isP, VL.isNon, truD, iAdd, iSub, opEq_int, opNe_int, if_true, if_false, ite_true, ite_false, Bool.not_true, Bool.not_false, Bool.false_eq_true, List.map_cons, List.map_nil, List.replicate_zero, List.replicate_succ, List.append_nil, List.nil_append, List.cons_append, reduceCtorEq, if_pos, Bool.not_eq_true, decide_eq_true_eq, decide_true, decide_false, c_eq, c_lt, c_le, c_ge, Nat.zero_add, Nat.reduceAdd, Pv.vl, s0, s1, s2, s3, s4, em]) (by omega)) rfl (by rw [List.length_range, sizeLine_eq]; omega) (fun v hv => by
      have ct : mCount (.lst (iD (nI w))) [.int v] = some (.sh (.int (w.count v : Nat))) := by
        show (asInts (iD (nI w))).map (fun ns => Pv.sh (.int (ns.count (v : Int) : Nat))) = _
        rw [asInts_map, Option.map_some, count_nI]
      have e1 : (1 : Int) + ((w.count v : Nat) : Int) = ((1 + w.count v : Nat) : Int) := by omega
      refine ⟨_, rfl, rfl, fun _ => ⟨.sh (.int (1 + w.count v : Nat)), ?_, rfl⟩, rfl⟩
      unfold vM
      rcases h3 with rfl | rfl <;> simp only [runDef, initE, finR, parD, retV, sSeq, sBind_ok, sBind_exn, sBind_bad, sNext, sIf, sSet, stor, sRet, sRetN, sExpr, sUnp, sAug, sPut, sPutA, sRaise, sBreak, sCont, sFor, obind_ok, obind_exn, obind_bad, retP_some, retP_none, vName, vC, vOp1, vOp2, vTst, vTru, vNot, vAnd, vOr, vIfE, vAndV, vOrV, vChain, vArgs, looks, look, esc, escs, frz, vTup, vLst, vB, vMut, vSl, vNotT, vDic1, vDic1B, vDic0, Slot.mu?, Slot.put, Slot.d?, List.getElem?_cons_zero, List.getElem?_cons_succ, List.getElem?_nil, Option.bind_some, Option.bind_none, Option.map_some, Option.map_none, List.set_cons_zero, List.set_cons_succ, List.set_nil, List.length_cons, List.length_nil, hName, hTup, hCons, hNil, opAdd, opSub, opLt, opLe, opGt, opGe, opLen, opInt, opNeg, opIs, opIsNot, isP, VL.isNon, truD, iAdd, iSub, opEq_int, opNe_int, if_true, if_false, ite_true, ite_false, Bool.not_true, Bool.not_false, Bool.false_eq_true, List.map_cons, List.map_nil, List.replicate_zero, List.replicate_succ, List.append_nil, List.nil_append, List.cons_append, reduceCtorEq, if_pos, Bool.not_eq_true, decide_eq_true_eq, decide_true, decide_false, c_eq, c_lt, c_le, c_ge, Nat.zero_add, Nat.reduceAdd, Pv.vl, s0, s1, s2, s3, s4, wipeE, tyD, ct, e1])
  rw [filtT] at c
  have ec : (List.range n).map (fun v => D.int (1 + w.count v : Nat)) = iD (nI (dT n w [])) := by
    rw [iD_nI]
    unfold dT
    rw [List.map_map]
    refine List.map_congr_left fun v _ => ?_
    show _ = D.int (((if v ∈ [] then 0 else 1 + w.count v : Nat)) : Int)
    rw [if_neg (fun z => by cases z)]
  rw [ec] at c
  exact c
/-! the sixteen trees -/
theorem tree_row {sc d : List Int} {m a : Nat} (ha : a < 4) (y3 y4 y5 y6 y7 y8 y9 y11 y12 y13 : VL.Slot) :
    vComp (vItR1 [(vC (.int 4))]) (hName 11) vYes (vOp1 (opFld okC ("edges" : Str)) (vCall S_tree_of_word [(vLst [(vName 10), (vName 11)])])) [11] (EL sc d m y3 y4 y5 y6 y7 y8 y9 (.sh (.int a)) y11 y12 y13)
      = .ok (.fr (.lst ((wrow a).map tT))) (EL sc d m y3 y4 y5 y6 y7 y8 y9 (.sh (.int a)) (keepS y11) y12 y13) := by
  have c := vComp_map (h := hName 11) (g := vYes) (f := vOp1 (opFld okC ("edges" : Str)) (vCall S_tree_of_word [(vLst [(vName 10), (vName 11)])])) (vs := [11]) (src := vItR1 [(vC (.int 4))]) (ρ := EL sc d m y3 y4 y5 y6 y7 y8 y9 (.sh (.int a)) y11 y12 y13) (ρ1 := EL sc d m y3 y4 y5 y6 y7 y8 y9 (.sh (.int a)) y11 y12 y13)
    (fun i : Nat => D.int (i : Int)) (fun _ => true) (fun b => tT (a, b)) (List.range 4) (r1_ok (k := 4) rfl (by omega)) rfl (by rw [List.length_range, sizeLine_eq]; omega) (fun b hb => by
      have r : S_tree_of_word.run [.lst [.int a, .int b]] = .ret (.fr (gD 4 (tE (a, b)))) .non := r_tow (w := [a, b]) (n := 4) rfl (fun x hx => by
        rcases List.mem_cons.mp hx with rfl | hx
        · exact ha
        · rw [List.mem_singleton.mp hx]; exact List.mem_range.mp hb) (by show 2 ≤ 50; decide)
      have np : pureFR (.ret (.fr (gD 4 (tE (a, b)))) .non) = false := rfl
      have fe := fld_e 4 (tE (a, b))
      refine ⟨EL sc d m y3 y4 y5 y6 y7 y8 y9 (.sh (.int a)) (.sh (.int b)) y12 y13, rfl, rfl, fun _ => ⟨.sh (tT (a, b)), ?_, rfl⟩, rfl⟩
      simp only [runDef, initE, finR, parD, retV, sSeq, sBind_ok, sBind_exn, sBind_bad, sNext, sIf, sSet, stor, sRet, sRetN, sExpr, sUnp, sAug, sPut, sPutA, sRaise, sBreak, sCont, sFor, obind_ok, obind_exn, obind_bad, retP_some, retP_none, vName, vC, vOp1, vOp2, vTst, vTru, vNot, vAnd, vOr, vIfE, vAndV, vOrV, vChain, vArgs, looks, look, esc, escs, frz, vTup, vLst, vB, vMut, vSl, vNotT, vDic1, vDic1B, vDic0, Slot.mu?, Slot.put, Slot.d?, List.getElem?_cons_zero, List.getElem?_cons_succ, List.getElem?_nil, Option.bind_some, Option.bind_none, Option.map_some, Option.map_none, List.set_cons_zero, List.set_cons_succ, List.set_nil, List.length_cons, List.length_nil, hName, hTup, hCons, hNil, opAdd, opSub, opLt, opLe, opGt, opGe, opLen, opInt, opNeg, opIs, opIsNot, isP, VL.isNon, truD, iAdd, iSub, opEq_int, opNe_int, if_true, if_false, ite_true, ite_false, Bool.not_true, Bool.not_false, Bool.false_eq_true, List.map_cons, List.map_nil, List.replicate_zero, List.replicate_succ, List.append_nil, List.nil_append, List.cons_append, reduceCtorEq, if_pos, Bool.not_eq_true, decide_eq_true_eq, decide_true, decide_false, c_eq, c_lt, c_le, c_ge, Nat.zero_add, Nat.reduceAdd, Pv.vl, s0, s1, s2, s3, s4, vCall, vCallV, own_tow, r, np, vCallR, fe]
      rfl)
  rw [filtT] at c
  have e : (List.range 4).map (fun b => tT (a, b)) = (wrow a).map tT := by
    unfold wrow
    rw [List.map_map]
    rfl
  rw [e] at c
  refine c.trans (congrArg _ ?_)
  cases y11 <;> rfl
theorem trees_loop (sc d : List Int) (m : Nat) (y3 y4 y5 y6 y7 y8 y12 y13 : VL.Slot) :
    ∃ z10 z11, sFor (vItR1 [(vC (.int 4))]) (hName 10) (b_law_0 S_tree_of_word) (EL sc d m y3 y4 y5 y6 y7 y8 (.own (.lst [])) .no .no y12 y13) = .nx (EL sc d m y3 y4 y5 y6 y7 y8 (.own (.lst (words.map tT))) z10 z11 y12 y13) := by
  obtain ⟨ρ', l1, y10, y11, e⟩ := loopF_inv (h := hName 10) (body := b_law_0 S_tree_of_word) (fun i : Nat => D.int (i : Int)) (List.range 4)
    (fun i ρ => ∃ y10 y11, ρ = EL sc d m y3 y4 y5 y6 y7 y8 (.own (.lst (((List.range i).flatMap wrow).map tT))) y10 y11 y12 y13)
    (ρ := EL sc d m y3 y4 y5 y6 y7 y8 (.own (.lst [])) .no .no y12 y13) ⟨_, _, rfl⟩ (fun i x ρ hx ⟨y10, y11, e⟩ => by
      subst e
      obtain ⟨hlt, hx2⟩ := List.getElem?_eq_some_iff.mp hx
      rw [List.length_range] at hlt
      have ex : x = i := by simpa using hx2.symm
      subst ex
      have c := tree_row (sc := sc) (d := d) (m := m) hlt y3 y4 y5 y6 y7 y8 (.own (.lst (((List.range x).flatMap wrow).map tT))) y11 y12 y13
      have hlen : (((List.range x).flatMap wrow).map tT).length ≤ 100 := by
        rw [List.length_map]
        have : ∀ k, ((List.range k).flatMap wrow).length = 4 * k := fun k => by
          induction k with
          | zero => rfl
          | succ k ih => rw [List.range_succ, List.flatMap_append, List.length_append, ih]; simp [wrow]; omega
        rw [this]; omega
      have ea : opAdd (.lst (((List.range x).flatMap wrow).map tT)) (.lst ((wrow x).map tT)) = some (.fr (.lst (((List.range (x + 1)).flatMap wrow).map tT))) := by
        show (if (((List.range x).flatMap wrow).map tT).length + ((wrow x).map tT).length ≤ sizeLine then some (Pv.fr (.lst (((List.range x).flatMap wrow).map tT ++ (wrow x).map tT))) else none) = _
        have hw : ((wrow x).map tT).length = 4 := by simp [wrow]
        rw [if_pos (by rw [hw, sizeLine_eq]; omega), List.range_succ, List.flatMap_append, List.map_append]
        simp
      refine ⟨_, rfl, EL sc d m y3 y4 y5 y6 y7 y8 (.own (.lst (((List.range (x + 1)).flatMap wrow).map tT))) (.sh (.int x)) (keepS y11) y12 y13, ?_, _, _, rfl⟩
      have hv : ∀ (a b : SE) (ρ : VL.Env), vOp2 opAdd a b ρ = obind (a ρ) fun va ρ1 => obind (b ρ1) fun vb ρ2 => retP ((look ρ2 (frz va)).bind fun x => (look ρ2 vb).bind fun y => opAdd x y) ρ2 := fun _ _ _ => rfl
      have hq : vOp2 opAdd (vName 9) (vComp (vItR1 [(vC (.int 4))]) (hName 11) vYes (vOp1 (opFld okC ("edges" : Str)) (vCall S_tree_of_word [(vLst [(vName 10), (vName 11)])])) [11]) (EL sc d m y3 y4 y5 y6 y7 y8 (.own (.lst (((List.range x).flatMap wrow).map tT))) (.sh (.int x)) y11 y12 y13)
          = .ok (.fr (.lst (((List.range (x + 1)).flatMap wrow).map tT))) (EL sc d m y3 y4 y5 y6 y7 y8 (.own (.lst (((List.range x).flatMap wrow).map tT))) (.sh (.int x)) (keepS y11) y12 y13) := by
        rw [hv]
        have e9 : vName 9 (EL sc d m y3 y4 y5 y6 y7 y8 (.own (.lst (((List.range x).flatMap wrow).map tT))) (.sh (.int x)) y11 y12 y13) = .ok (.al 9) (EL sc d m y3 y4 y5 y6 y7 y8 (.own (.lst (((List.range x).flatMap wrow).map tT))) (.sh (.int x)) y11 y12 y13) := rfl
        rw [e9, obind_ok, c, obind_ok]
        show retP (opAdd (.lst (((List.range x).flatMap wrow).map tT)) (.lst ((wrow x).map tT))) _ = _
        rw [ea]
        rfl
      show b_law_0 S_tree_of_word (EL sc d m y3 y4 y5 y6 y7 y8 (.own (.lst (((List.range x).flatMap wrow).map tT))) (.sh (.int x)) y11 y12 y13) = _
      unfold b_law_0 sSet
      rw [hq, sBind_ok]
      rfl)
  subst e
  have i4 : vItR1 [(vC (.int 4))] (EL sc d m y3 y4 y5 y6 y7 y8 (.own (.lst [])) .no .no y12 y13) = .ok ((List.range 4).map fun i : Nat => D.int (i : Int)) (EL sc d m y3 y4 y5 y6 y7 y8 (.own (.lst [])) .no .no y12 y13) := r1_ok (k := 4) rfl (by omega)
  refine ⟨y10, y11, ?_⟩
  unfold sFor
  rw [i4, sBind_ok]
  exact l1
end CM.K79
/-! K79Z: the law, joined -/
namespace CM.K79
open PySem PySem.Spec PyProof.Rows L2 VL
def wrongs : List (Nat × Es) := [(1, []), (3, [(0, 1)]), (2, [(0, 1), (0, 1)]), (3, [(0, 1), (0, 1)]), (2, [(0, 0)])]
theorem wrong_ok : ∀ g ∈ wrongs, (∀ p ∈ g.2, p.1 < g.1 ∧ p.2 < g.1) ∧ g.1 ≤ 60 ∧ g.2.length ≤ 1000 ∧ (g.1 < 2 ∨ (roots g.1 g.2).length ≠ 1 ∨ g.2.length + 1 ≠ g.1) := by decide +kernel
abbrev wD : List D := wrongs.map fun g => gD g.1 g.2
theorem wrong_at {k : Nat} (h : k < 5) : ∃ u, opIx (.lst wD) (.int (k : Nat)) = some (.sh u) ∧ S__law_refusal.run [.int 0, u] = .ret (.sh (.tup [.str "graph", .str "tree"])) .non := by
  have hk : k < wrongs.length := h
  obtain ⟨a, b, c, d⟩ := wrong_ok wrongs[k] (List.getElem_mem hk)
  refine ⟨gD wrongs[k].1 wrongs[k].2, ix_l ?_, r_refG a b c d⟩
  rw [List.getElem?_map, List.getElem?_eq_getElem hk]
  rfl
theorem g1 : S_Graph.run [.obj "Graph" [], .int 1, .lst []] = .ret (.sh .non) (gD 1 []) := r_graph 1 [] (fun p hp => by cases hp) (by decide)
theorem g2 : S_Graph.run [.obj "Graph" [], .int 3, .lst [.tup [.int 0, .int 1]]] = .ret (.sh .non) (gD 3 [(0, 1)]) := r_graph 3 [(0, 1)] (by unfold okP; decide) (by decide)
theorem g3 : S_Graph.run [.obj "Graph" [], .int 2, .lst [.tup [.int 0, .int 1], .tup [.int 0, .int 1]]] = .ret (.sh .non) (gD 2 [(0, 1), (0, 1)]) := r_graph 2 [(0, 1), (0, 1)] (by unfold okP; decide) (by decide)
theorem g4 : S_Graph.run [.obj "Graph" [], .int 3, .lst [.tup [.int 0, .int 1], .tup [.int 0, .int 1]]] = .ret (.sh .non) (gD 3 [(0, 1), (0, 1)]) := r_graph 3 [(0, 1), (0, 1)] (by unfold okP; decide) (by decide)
theorem g5 : S_Graph.run [.obj "Graph" [], .int 2, .lst [.tup [.int 0, .int 0]]] = .ret (.sh .non) (gD 2 [(0, 0)]) := r_graph 2 [(0, 0)] (by unfold okP; decide) (by decide)
abbrev tolds : D := .lst [.tup [.str "graph", .str "tree"], .tup [.str "order", .str "word"], .tup [.str "order", .str "word"]]
theorem eq_tolds : opEq tolds tolds = some (.sh (.bl true)) := opEq_of (by decide +kernel)
theorem op2_ff {op : D → D → Option Pv} {a b : SE} {ρ ρ1 ρ2 : VL.Env} {x y z : D} (h1 : a ρ = .ok (.fr x) ρ1) (h2 : b ρ1 = .ok (.fr y) ρ2) (h3 : op x y = some (.sh z)) : vOp2 op a b ρ = .ok (.sh z) ρ2 := by
  unfold vOp2
  rw [h1, obind_ok, h2, obind_ok]
  show retP (op x y) ρ2 = _
  rw [h3]
  rfl
theorem if_no {f : SE} {a : SS} {ρ ρ1 : VL.Env} (h : f ρ = .ok (.sh (.bl false)) ρ1) : sIf (vTst f) a sNext ρ = .nx ρ1 := by
  have ht : vTst f ρ = .ok false ρ1 := by
    unfold vTst
    rw [h, obind_ok]
    rfl
  unfold sIf
  rw [ht, sBind_ok]
  rfl
theorem r_law (ns : List Int) : S_law.run [.rol (iD ns)] = .ret (.sh (.bl true)) .non := by
  obtain ⟨deck, r1⟩ := r_deck ns
  have p1 := pure_ints deck .non
  have t2 : S__law_take.run [.lst (iD deck), .int 9] = _ := r_take deck 9 (by omega)
  have l2 := tk_lt deck (m := 9) (by omega)
  obtain ⟨⟨m, d2⟩, hd2⟩ : ∃ x, tk deck 9 = x := ⟨_, rfl⟩
  rw [hd2] at t2 l2
  dsimp only at t2 l2
  obtain ⟨w, d3, c3, hw, hwx⟩ := draw_word ns d2 m l2
  obtain ⟨n, hn⟩ : ∃ n, m + 2 = n := ⟨_, rfl⟩
  have hwn : w.length + 2 = n := by omega
  rw [hn] at hwx
  have V : Vd n w [] := ⟨List.nodup_nil, fun x hx => (by cases hx), hwx, fun x _ z => (by cases z), by rw [List.length_nil]; omega⟩
  obtain ⟨tw1, tw2, tw3⟩ := tw_ok V
  have r4 := r_tow hwn hwx (by omega)
  have rt := r_ltree hwn hwx (by omega)
  have pmE := sE_perm (twE n w [])
  have hEl : (sE (twE n w [])).length + 1 = n := by rw [pmE.length_eq, tw1]; omega
  have WE : Wood n (sE (twE n w [])) := tw2.wood.perm pmE.symm
  have word : prw n (n - 2) (sE (twE n w [])) = w := by
    have := prw_tw V pmE
    rw [show n - 2 = w.length by omega]
    exact this
  have rkE : CM.rk n (sE (twE n w [])) = (sE (twE n w [])).length := by
    rw [pmE.length_eq, ← tw2.rk]
    exact rk_mem WE.ok tw2.wood.ok fun p => pmE.mem_iff
  have conn : ∀ {n : Nat} {es : Es}, CM.rk n es = es.length → es.length + 1 = n → (roots n es).length = 1 := fun {n es} h1 h2 => by
    have h3 := roots_le n es
    have h4 : n - (roots n es).length = es.length := h1
    omega
  have r6 := r_pw WE (by omega) (by omega) hEl (conn rkE hEl)
  rw [word] at r6
  have dE : dgs n (sE (twE n w [])) = dT n w [] := by
    unfold dgs dT
    refine List.map_congr_left fun v hv => ?_
    rw [dg_perm pmE, tw3 v (List.mem_range.mp hv)]
  generalize hE : sE (twE n w []) = E at *
  have np4 : pureFR (.ret (.fr (gD n E)) .non) = false := rfl
  have pt : pureFR (.ret (.fr (.lst (E.map pairD))) .non) = true := pure_lst (fun z hz => by
    obtain ⟨p, _, rfl⟩ := List.mem_map.mp hz
    rfl) _
  have pw := pure_ints (nI w) .non
  have em : ((m : Nat) : Int) + 2 = ((n : Nat) : Int) := by omega
  have q5 := pl_graph n E (by omega)
  have e5 := eq_graph n E
  have q6 := pl_word w (by omega)
  have e6 := eq_word w
  -- the drawn tree
  obtain ⟨n2, es, d8, r8, a1, a2, W2, a3, a4⟩ := r_drawn d3
  have rp := r_pw W2 a1 (by omega) a3 (conn a4 a3)
  have rl := r_lword W2 a1 (by omega) a3
  have gg := r_graph n2 es W2.ok (by omega)
  have pp := pure_ints (nI (prw n2 (n2 - 2) es)) .non
  have hpl : (prw n2 (n2 - 2) es).length ≤ 1000 := by
    have : ∀ (k : Nat) (E : Es), (prw n2 k E).length ≤ k := fun k => by
      induction k with
      | zero => exact fun _ => Nat.le_refl _
      | succ k ih =>
        intro E
        show (match lf n2 E with
          | none => []
          | some l => match E.find? (hasE l) with
            | none => []
            | some e => oth e l :: prw n2 k (E.erase e)).length ≤ k + 1
        split
        · exact Nat.zero_le _
        · split
          · exact Nat.zero_le _
          · rw [List.length_cons]; have := ih (E.erase ‹_›); omega
    have := this (n2 - 2) es
    omega
  have q9 := pl_word (prw n2 (n2 - 2) es) hpl
  have e9 := eq_word (prw n2 (n2 - 2) es)
  -- the refusals
  have t15 : S__law_take.run [.lst (iD d8), .int 5] = _ := r_take d8 5 (by omega)
  have l15 := tk_lt d8 (m := 5) (by omega)
  obtain ⟨⟨k, d9⟩, hd9⟩ : ∃ x, tk d8 5 = x := ⟨_, rfl⟩
  rw [hd9] at t15 l15
  dsimp only at t15 l15
  obtain ⟨u, x1, x2⟩ := wrong_at l15
  have x3 := r_refO tow_no1
  have x4 := r_refO tow_no2
  have px : ∀ a b : Str, pureFR (.ret (.sh (.tup [.str a, .str b])) .non) = true := fun _ _ => rfl
  have neg1 : opNeg (.int 1) = some (.sh (.int (-1))) := rfl
  have hpG : pureFR (.ret (.fr (pG n E)) .non) = false := rfl
  obtain ⟨y3, hy3, s6⟩ : ∃ y3, OS y3 (.lst (iD (nI w))) ∧ sIf (vTst (vOp2 opNe (vCall (S__law_plain 6) [(vCall S_pruefer_word [(vName 5)])]) (vCall (S__law_plain 6) [(vName 3)]))) (sRet (vC (.bl false))) sNext (EL ns d3 m (.own (.lst (iD (nI w)))) .no (.own (gD n E)) .no .no .no .no .no .no .no .no)
      = .nx (EL ns d3 m y3 .no (.own (gD n E)) .no .no .no .no .no .no .no .no) := by
    cases hp6 : pureFR (.ret (.fr (pW w)) .non) with
    | true => exact ⟨_, .inl rfl, by simp only [runDef, initE, finR, parD, retV, sSeq, sBind_ok, sBind_exn, sBind_bad, sNext, sIf, sSet, stor, sRet, sRetN, sExpr, sUnp, sAug, sPut, sPutA, sRaise, sBreak, sCont, sFor, obind_ok, obind_exn, obind_bad, retP_some, retP_none, vName, vC, vOp1, vOp2, vTst, vTru, vNot, vAnd, vOr, vIfE, vAndV, vOrV, vChain, vArgs, looks, look, esc, escs, frz, vTup, vLst, vB, vMut, vSl, vNotT, vDic1, vDic1B, vDic0, Slot.mu?, Slot.put, Slot.d?, List.getElem?_cons_zero, List.getElem?_cons_succ, List.getElem?_nil, Option.bind_some, Option.bind_none, Option.map_some, Option.map_none, List.set_cons_zero, List.set_cons_succ, List.set_nil, List.length_cons, List.length_nil, hName, hTup, hCons, hNil, opAdd, opSub, opLt, opLe, opGt, opGe, opLen, opInt, opNeg, opIs, opIsNot, isP, VL.isNon, truD, iAdd, iSub, opEq_int, opNe_int, if_true, if_false, ite_true, ite_false, Bool.not_true, Bool.not_false, Bool.false_eq_true, List.map_cons, List.map_nil, List.replicate_zero, List.replicate_succ, List.append_nil, List.nil_append, List.cons_append, reduceCtorEq, if_pos, Bool.not_eq_true, decide_eq_true_eq, decide_true, decide_false, c_eq, c_lt, c_le, c_ge, Nat.zero_add, Nat.reduceAdd, Pv.vl, s0, s1, s2, s3, s4, vCall, vCallV, own_pw, own_plain 5, r6, pw, q6, hp6, vCallR, e6]⟩
    | false => exact ⟨_, .inr rfl, by simp only [runDef, initE, finR, parD, retV, sSeq, sBind_ok, sBind_exn, sBind_bad, sNext, sIf, sSet, stor, sRet, sRetN, sExpr, sUnp, sAug, sPut, sPutA, sRaise, sBreak, sCont, sFor, obind_ok, obind_exn, obind_bad, retP_some, retP_none, vName, vC, vOp1, vOp2, vTst, vTru, vNot, vAnd, vOr, vIfE, vAndV, vOrV, vChain, vArgs, looks, look, esc, escs, frz, vTup, vLst, vB, vMut, vSl, vNotT, vDic1, vDic1B, vDic0, Slot.mu?, Slot.put, Slot.d?, List.getElem?_cons_zero, List.getElem?_cons_succ, List.getElem?_nil, Option.bind_some, Option.bind_none, Option.map_some, Option.map_none, List.set_cons_zero, List.set_cons_succ, List.set_nil, List.length_cons, List.length_nil, hName, hTup, hCons, hNil, opAdd, opSub, opLt, opLe, opGt, opGe, opLen, opInt, opNeg, opIs, opIsNot, isP, VL.isNon, truD, iAdd, iSub, opEq_int, opNe_int, if_true, if_false, ite_true, ite_false, Bool.not_true, Bool.not_false, Bool.false_eq_true, List.map_cons, List.map_nil, List.replicate_zero, List.replicate_succ, List.append_nil, List.nil_append, List.cons_append, reduceCtorEq, if_pos, Bool.not_eq_true, decide_eq_true_eq, decide_true, decide_false, c_eq, c_lt, c_le, c_ge, Nat.zero_add, Nat.reduceAdd, Pv.vl, s0, s1, s2, s3, s4, vCall, vCallV, own_pw, own_plain 5, r6, pw, q6, hp6, vCallR, e6]⟩
  obtain ⟨z5, hz5, c7⟩ := deg_comp (n := n) (m := m) (es := E) ns d3 hn (by omega) (by omega) (y5 := .own (gD n E)) (.inl rfl) y3 .no .no .no .no .no .no .no .no
  have c7b := cnt_comp (n := n) (m := m) (w := w) ns d3 hn (by omega) hy3 .no z5 .no .no .no .no .no .no .no
  have e7 : opNe (.lst (iD (nI (dgs n E)))) (.lst (iD (nI (dT n w [])))) = some (.sh (.bl false)) := by
    rw [dE]
    refine (opNe_of (eqP_lints (nI (dT n w [])) (nI (dT n w [])))).trans ?_
    rw [decide_eq_true rfl]
    rfl
  have s7 : sIf (vTst (vOp2 opNe (vComp (vItR1 [(vOp2 opAdd (vName 2) (vC (.int 2)))]) (hName 6) vYes (vMeth ("Graph" : Str) ("degree" : Str) S_Graph_degree (vName 5) [(vName 6)]) [6]) (vComp (vItR1 [(vOp2 opAdd (vName 2) (vC (.int 2)))]) (hName 6) vYes (vOp2 opAdd (vC (.int 1)) (vM "list" mCount (vName 3) [(vName 6)])) [6]))) (sRet (vC (.bl false))) sNext (EL ns d3 m y3 .no (.own (gD n E)) .no .no .no .no .no .no .no .no)
      = .nx (EL ns d3 m y3 .no z5 .no .no .no .no .no .no .no .no) := if_no (op2_ff c7 c7b e7)
  obtain ⟨z10, z11, s11⟩ := trees_loop ns d8 m y3 .no z5 .no (.sh (.int n2)) (.sh (.lst (es.map pairD))) .no .no
  have s12v : vLenSet (vName 9) (EL ns d8 m y3 .no z5 .no (.sh (.int n2)) (.sh (.lst (es.map pairD))) (.own (.lst (words.map tT))) z10 z11 .no .no) = .ok (.sh (.int (16 : Nat))) (EL ns d8 m y3 .no z5 .no (.sh (.int n2)) (.sh (.lst (es.map pairD))) (.own (.lst (words.map tT))) z10 z11 .no .no) := by
    have h := lenSet_rows (f := vName 9) (ρ := EL ns d8 m y3 .no z5 .no (.sh (.int n2)) (.sh (.lst (es.map pairD))) (.own (.lst (words.map tT))) z10 z11 .no .no) (v := .al 9) (d := .lst (words.map tT)) rfl rfl rfl set16.1
    rw [set16.2] at h
    exact h
  have e12 : opNe (.int (16 : Nat)) (.int 16) = some (.sh (.bl false)) := by rw [opNe_int]; rfl
  show runDef 14 1 false (t_law S__law_deck S__law_take S_tree_of_word (S__law_plain 6) S__law_tree S_pruefer_word S_Graph_degree S__law_drawn S_Graph S__law_word S__law_refusal) [.rol (iD ns)] = _
  refine run_sh (m := 1) (ρ' := EL ns d9 m y3 .no z5 .no (.sh (.int n2)) (.sh (.lst (es.map pairD))) (.own (.lst (words.map tT))) z10 z11 (.own (.lst wD)) (.own tolds)) rfl ?_
  show t_law S__law_deck S__law_take S_tree_of_word (S__law_plain 6) S__law_tree S_pruefer_word S_Graph_degree S__law_drawn S_Graph S__law_word S__law_refusal [.sh (.rol (iD ns)), .no, .no, .no, .no, .no, .no, .no, .no, .no, .no, .no, .no, .no] = _
  unfold t_law
  rw [seq_nx (ρ1 := [.sh (.rol (iD ns)), .own (.lst (iD deck)), .no, .no, .no, .no, .no, .no, .no, .no, .no, .no, .no, .no]) (by simp only [runDef, initE, finR, parD, retV, sSeq, sBind_ok, sBind_exn, sBind_bad, sNext, sIf, sSet, stor, sRet, sRetN, sExpr, sUnp, sAug, sPut, sPutA, sRaise, sBreak, sCont, sFor, obind_ok, obind_exn, obind_bad, retP_some, retP_none, vName, vC, vOp1, vOp2, vTst, vTru, vNot, vAnd, vOr, vIfE, vAndV, vOrV, vChain, vArgs, looks, look, esc, escs, frz, vTup, vLst, vB, vMut, vSl, vNotT, vDic1, vDic1B, vDic0, Slot.mu?, Slot.put, Slot.d?, List.getElem?_cons_zero, List.getElem?_cons_succ, List.getElem?_nil, Option.bind_some, Option.bind_none, Option.map_some, Option.map_none, List.set_cons_zero, List.set_cons_succ, List.set_nil, List.length_cons, List.length_nil, hName, hTup, hCons, hNil, opAdd, opSub, opLt, opLe, opGt, opGe, opLen, opInt, opNeg, opIs, opIsNot, isP, VL.isNon, truD, iAdd, iSub, opEq_int, opNe_int, if_true, if_false, ite_true, ite_false, Bool.not_true, Bool.not_false, Bool.false_eq_true, List.map_cons, List.map_nil, List.replicate_zero, List.replicate_succ, List.append_nil, List.nil_append, List.cons_append, reduceCtorEq, if_pos, Bool.not_eq_true, decide_eq_true_eq, decide_true, decide_false, c_eq, c_lt, c_le, c_ge, Nat.zero_add, Nat.reduceAdd, Pv.vl, s0, s1, s2, s3, s4, vCall, vCallV, own_deck, r1, p1, vCallR])]
  rw [seq_nx (ρ1 := EL ns d2 m .no .no .no .no .no .no .no .no .no .no .no) (by simp only [runDef, initE, finR, parD, retV, sSeq, sBind_ok, sBind_exn, sBind_bad, sNext, sIf, sSet, stor, sRet, sRetN, sExpr, sUnp, sAug, sPut, sPutA, sRaise, sBreak, sCont, sFor, obind_ok, obind_exn, obind_bad, retP_some, retP_none, vName, vC, vOp1, vOp2, vTst, vTru, vNot, vAnd, vOr, vIfE, vAndV, vOrV, vChain, vArgs, looks, look, esc, escs, frz, vTup, vLst, vB, vMut, vSl, vNotT, vDic1, vDic1B, vDic0, Slot.mu?, Slot.put, Slot.d?, List.getElem?_cons_zero, List.getElem?_cons_succ, List.getElem?_nil, Option.bind_some, Option.bind_none, Option.map_some, Option.map_none, List.set_cons_zero, List.set_cons_succ, List.set_nil, List.length_cons, List.length_nil, hName, hTup, hCons, hNil, opAdd, opSub, opLt, opLe, opGt, opGe, opLen, opInt, opNeg, opIs, opIsNot, isP, VL.isNon, truD, iAdd, iSub, opEq_int, opNe_int, if_true, if_false, ite_true, ite_false, Bool.not_true, Bool.not_false, Bool.false_eq_true, List.map_cons, List.map_nil, List.replicate_zero, List.replicate_succ, List.append_nil, List.nil_append, List.cons_append, reduceCtorEq, if_pos, Bool.not_eq_true, decide_eq_true_eq, decide_true, decide_false, c_eq, c_lt, c_le, c_ge, Nat.zero_add, Nat.reduceAdd, Pv.vl, s0, s1, s2, s3, s4, vCall, vCallV, own_take, t2, vCallR])]
  rw [seq_nx (ρ1 := EL ns d3 m (.own (.lst (iD (nI w)))) .no .no .no .no .no .no .no .no .no .no) (by unfold sSet; rw [c3, sBind_ok]; rfl)]
  rw [seq_nx (ρ1 := EL ns d3 m (.own (.lst (iD (nI w)))) .no (.own (gD n E)) .no .no .no .no .no .no .no .no) (by simp only [runDef, initE, finR, parD, retV, sSeq, sBind_ok, sBind_exn, sBind_bad, sNext, sIf, sSet, stor, sRet, sRetN, sExpr, sUnp, sAug, sPut, sPutA, sRaise, sBreak, sCont, sFor, obind_ok, obind_exn, obind_bad, retP_some, retP_none, vName, vC, vOp1, vOp2, vTst, vTru, vNot, vAnd, vOr, vIfE, vAndV, vOrV, vChain, vArgs, looks, look, esc, escs, frz, vTup, vLst, vB, vMut, vSl, vNotT, vDic1, vDic1B, vDic0, Slot.mu?, Slot.put, Slot.d?, List.getElem?_cons_zero, List.getElem?_cons_succ, List.getElem?_nil, Option.bind_some, Option.bind_none, Option.map_some, Option.map_none, List.set_cons_zero, List.set_cons_succ, List.set_nil, List.length_cons, List.length_nil, hName, hTup, hCons, hNil, opAdd, opSub, opLt, opLe, opGt, opGe, opLen, opInt, opNeg, opIs, opIsNot, isP, VL.isNon, truD, iAdd, iSub, opEq_int, opNe_int, if_true, if_false, ite_true, ite_false, Bool.not_true, Bool.not_false, Bool.false_eq_true, List.map_cons, List.map_nil, List.replicate_zero, List.replicate_succ, List.append_nil, List.nil_append, List.cons_append, reduceCtorEq, if_pos, Bool.not_eq_true, decide_eq_true_eq, decide_true, decide_false, c_eq, c_lt, c_le, c_ge, Nat.zero_add, Nat.reduceAdd, Pv.vl, s0, s1, s2, s3, s4, opList, vCall, vCallV, own_tow, r4, np4, vCallR])]
  rw [seq_nx (ρ1 := EL ns d3 m (.own (.lst (iD (nI w)))) .no (.own (gD n E)) .no .no .no .no .no .no .no .no) (by simp only [runDef, initE, finR, parD, retV, sSeq, sBind_ok, sBind_exn, sBind_bad, sNext, sIf, sSet, stor, sRet, sRetN, sExpr, sUnp, sAug, sPut, sPutA, sRaise, sBreak, sCont, sFor, obind_ok, obind_exn, obind_bad, retP_some, retP_none, vName, vC, vOp1, vOp2, vTst, vTru, vNot, vAnd, vOr, vIfE, vAndV, vOrV, vChain, vArgs, looks, look, esc, escs, frz, vTup, vLst, vB, vMut, vSl, vNotT, vDic1, vDic1B, vDic0, Slot.mu?, Slot.put, Slot.d?, List.getElem?_cons_zero, List.getElem?_cons_succ, List.getElem?_nil, Option.bind_some, Option.bind_none, Option.map_some, Option.map_none, List.set_cons_zero, List.set_cons_succ, List.set_nil, List.length_cons, List.length_nil, hName, hTup, hCons, hNil, opAdd, opSub, opLt, opLe, opGt, opGe, opLen, opInt, opNeg, opIs, opIsNot, isP, VL.isNon, truD, iAdd, iSub, opEq_int, opNe_int, if_true, if_false, ite_true, ite_false, Bool.not_true, Bool.not_false, Bool.false_eq_true, List.map_cons, List.map_nil, List.replicate_zero, List.replicate_succ, List.append_nil, List.nil_append, List.cons_append, reduceCtorEq, if_pos, Bool.not_eq_true, decide_eq_true_eq, decide_true, decide_false, c_eq, c_lt, c_le, c_ge, Nat.zero_add, Nat.reduceAdd, Pv.vl, s0, s1, s2, s3, s4, fld_v, fld_e, vCall, vCallV, own_plain 5, own_lt, q5, hpG, rt, pt, opTuple, em, vCallR, e5])]
  rw [seq_nx s6]
  rw [seq_nx s7]
  rw [seq_nx (ρ1 := EL ns d8 m y3 .no z5 .no (.sh (.int n2)) (.sh (.lst (es.map pairD))) .no .no .no .no .no) (by simp only [runDef, initE, finR, parD, retV, sSeq, sBind_ok, sBind_exn, sBind_bad, sNext, sIf, sSet, stor, sRet, sRetN, sExpr, sUnp, sAug, sPut, sPutA, sRaise, sBreak, sCont, sFor, obind_ok, obind_exn, obind_bad, retP_some, retP_none, vName, vC, vOp1, vOp2, vTst, vTru, vNot, vAnd, vOr, vIfE, vAndV, vOrV, vChain, vArgs, looks, look, esc, escs, frz, vTup, vLst, vB, vMut, vSl, vNotT, vDic1, vDic1B, vDic0, Slot.mu?, Slot.put, Slot.d?, List.getElem?_cons_zero, List.getElem?_cons_succ, List.getElem?_nil, Option.bind_some, Option.bind_none, Option.map_some, Option.map_none, List.set_cons_zero, List.set_cons_succ, List.set_nil, List.length_cons, List.length_nil, hName, hTup, hCons, hNil, opAdd, opSub, opLt, opLe, opGt, opGe, opLen, opInt, opNeg, opIs, opIsNot, isP, VL.isNon, truD, iAdd, iSub, opEq_int, opNe_int, if_true, if_false, ite_true, ite_false, Bool.not_true, Bool.not_false, Bool.false_eq_true, List.map_cons, List.map_nil, List.replicate_zero, List.replicate_succ, List.append_nil, List.nil_append, List.cons_append, reduceCtorEq, if_pos, Bool.not_eq_true, decide_eq_true_eq, decide_true, decide_false, c_eq, c_lt, c_le, c_ge, Nat.zero_add, Nat.reduceAdd, Pv.vl, s0, s1, s2, s3, s4, vCall, vCallV, own_dr, r8, vCallR])]
  rw [seq_nx (ρ1 := EL ns d8 m y3 .no z5 .no (.sh (.int n2)) (.sh (.lst (es.map pairD))) .no .no .no .no .no) (by
    cases hp9 : pureFR (.ret (.fr (pW (prw n2 (n2 - 2) es))) .non) <;> simp only [runDef, initE, finR, parD, retV, sSeq, sBind_ok, sBind_exn, sBind_bad, sNext, sIf, sSet, stor, sRet, sRetN, sExpr, sUnp, sAug, sPut, sPutA, sRaise, sBreak, sCont, sFor, obind_ok, obind_exn, obind_bad, retP_some, retP_none, vName, vC, vOp1, vOp2, vTst, vTru, vNot, vAnd, vOr, vIfE, vAndV, vOrV, vChain, vArgs, looks, look, esc, escs, frz, vTup, vLst, vB, vMut, vSl, vNotT, vDic1, vDic1B, vDic0, Slot.mu?, Slot.put, Slot.d?, List.getElem?_cons_zero, List.getElem?_cons_succ, List.getElem?_nil, Option.bind_some, Option.bind_none, Option.map_some, Option.map_none, List.set_cons_zero, List.set_cons_succ, List.set_nil, List.length_cons, List.length_nil, hName, hTup, hCons, hNil, opAdd, opSub, opLt, opLe, opGt, opGe, opLen, opInt, opNeg, opIs, opIsNot, isP, VL.isNon, truD, iAdd, iSub, opEq_int, opNe_int, if_true, if_false, ite_true, ite_false, Bool.not_true, Bool.not_false, Bool.false_eq_true, List.map_cons, List.map_nil, List.replicate_zero, List.replicate_succ, List.append_nil, List.nil_append, List.cons_append, reduceCtorEq, if_pos, Bool.not_eq_true, decide_eq_true_eq, decide_true, decide_false, c_eq, c_lt, c_le, c_ge, Nat.zero_add, Nat.reduceAdd, Pv.vl, s0, s1, s2, s3, s4, vMake, opList, gg, vCall, vCallV, own_pw, own_lw, own_plain 5, rp, rl, pp, q9, hp9, vCallR, e9])]
  rw [seq_nx (ρ1 := EL ns d8 m y3 .no z5 .no (.sh (.int n2)) (.sh (.lst (es.map pairD))) (.own (.lst [])) .no .no .no .no) (by simp only [runDef, initE, finR, parD, retV, sSeq, sBind_ok, sBind_exn, sBind_bad, sNext, sIf, sSet, stor, sRet, sRetN, sExpr, sUnp, sAug, sPut, sPutA, sRaise, sBreak, sCont, sFor, obind_ok, obind_exn, obind_bad, retP_some, retP_none, vName, vC, vOp1, vOp2, vTst, vTru, vNot, vAnd, vOr, vIfE, vAndV, vOrV, vChain, vArgs, looks, look, esc, escs, frz, vTup, vLst, vB, vMut, vSl, vNotT, vDic1, vDic1B, vDic0, Slot.mu?, Slot.put, Slot.d?, List.getElem?_cons_zero, List.getElem?_cons_succ, List.getElem?_nil, Option.bind_some, Option.bind_none, Option.map_some, Option.map_none, List.set_cons_zero, List.set_cons_succ, List.set_nil, List.length_cons, List.length_nil, hName, hTup, hCons, hNil, opAdd, opSub, opLt, opLe, opGt, opGe, opLen, opInt, opNeg, opIs, opIsNot, isP, VL.isNon, truD, iAdd, iSub, opEq_int, opNe_int, if_true, if_false, ite_true, ite_false, Bool.not_true, Bool.not_false, Bool.false_eq_true, List.map_cons, List.map_nil, List.replicate_zero, List.replicate_succ, List.append_nil, List.nil_append, List.cons_append, reduceCtorEq, if_pos, Bool.not_eq_true, decide_eq_true_eq, decide_true, decide_false, c_eq, c_lt, c_le, c_ge, Nat.zero_add, Nat.reduceAdd, Pv.vl, s0, s1, s2, s3, s4])]
  rw [seq_nx s11]
  rw [seq_nx (ρ1 := EL ns d8 m y3 .no z5 .no (.sh (.int n2)) (.sh (.lst (es.map pairD))) (.own (.lst (words.map tT))) z10 z11 .no .no) (by
    refine if_no ?_
    unfold vOp2
    rw [s12v, obind_ok]
    show retP (opNe (.int (16 : Nat)) (.int 16)) _ = _
    rw [e12]
    rfl)]
  rw [seq_nx (ρ1 := EL ns d8 m y3 .no z5 .no (.sh (.int n2)) (.sh (.lst (es.map pairD))) (.own (.lst (words.map tT))) z10 z11 (.own (.lst [gD 1 [], gD 3 [(0, 1)], gD 2 [(0, 1), (0, 1)]])) .no) (by simp only [runDef, initE, finR, parD, retV, sSeq, sBind_ok, sBind_exn, sBind_bad, sNext, sIf, sSet, stor, sRet, sRetN, sExpr, sUnp, sAug, sPut, sPutA, sRaise, sBreak, sCont, sFor, obind_ok, obind_exn, obind_bad, retP_some, retP_none, vName, vC, vOp1, vOp2, vTst, vTru, vNot, vAnd, vOr, vIfE, vAndV, vOrV, vChain, vArgs, looks, look, esc, escs, frz, vTup, vLst, vB, vMut, vSl, vNotT, vDic1, vDic1B, vDic0, Slot.mu?, Slot.put, Slot.d?, List.getElem?_cons_zero, List.getElem?_cons_succ, List.getElem?_nil, Option.bind_some, Option.bind_none, Option.map_some, Option.map_none, List.set_cons_zero, List.set_cons_succ, List.set_nil, List.length_cons, List.length_nil, hName, hTup, hCons, hNil, opAdd, opSub, opLt, opLe, opGt, opGe, opLen, opInt, opNeg, opIs, opIsNot, isP, VL.isNon, truD, iAdd, iSub, opEq_int, opNe_int, if_true, if_false, ite_true, ite_false, Bool.not_true, Bool.not_false, Bool.false_eq_true, List.map_cons, List.map_nil, List.replicate_zero, List.replicate_succ, List.append_nil, List.nil_append, List.cons_append, reduceCtorEq, if_pos, Bool.not_eq_true, decide_eq_true_eq, decide_true, decide_false, c_eq, c_lt, c_le, c_ge, Nat.zero_add, Nat.reduceAdd, Pv.vl, s0, s1, s2, s3, s4, vMake, g1, g2, g3])]
  rw [seq_nx (ρ1 := EL ns d8 m y3 .no z5 .no (.sh (.int n2)) (.sh (.lst (es.map pairD))) (.own (.lst (words.map tT))) z10 z11 (.own (.lst wD)) .no) (by
    have s5 : (5 ≤ sizeLine) = True := eq_true (by rw [sizeLine_eq]; omega)
    simp only [runDef, initE, finR, parD, retV, sSeq, sBind_ok, sBind_exn, sBind_bad, sNext, sIf, sSet, stor, sRet, sRetN, sExpr, sUnp, sAug, sPut, sPutA, sRaise, sBreak, sCont, sFor, obind_ok, obind_exn, obind_bad, retP_some, retP_none, vName, vC, vOp1, vOp2, vTst, vTru, vNot, vAnd, vOr, vIfE, vAndV, vOrV, vChain, vArgs, looks, look, esc, escs, frz, vTup, vLst, vB, vMut, vSl, vNotT, vDic1, vDic1B, vDic0, Slot.mu?, Slot.put, Slot.d?, List.getElem?_cons_zero, List.getElem?_cons_succ, List.getElem?_nil, Option.bind_some, Option.bind_none, Option.map_some, Option.map_none, List.set_cons_zero, List.set_cons_succ, List.set_nil, List.length_cons, List.length_nil, hName, hTup, hCons, hNil, opAdd, opSub, opLt, opLe, opGt, opGe, opLen, opInt, opNeg, opIs, opIsNot, isP, VL.isNon, truD, iAdd, iSub, opEq_int, opNe_int, if_true, if_false, ite_true, ite_false, Bool.not_true, Bool.not_false, Bool.false_eq_true, List.map_cons, List.map_nil, List.replicate_zero, List.replicate_succ, List.append_nil, List.nil_append, List.cons_append, reduceCtorEq, if_pos, Bool.not_eq_true, decide_eq_true_eq, decide_true, decide_false, c_eq, c_lt, c_le, c_ge, Nat.zero_add, Nat.reduceAdd, Pv.vl, s0, s1, s2, s3, s4, vMake, g4, g5, s5]
    rfl)]
  rw [seq_nx (ρ1 := EL ns d9 m y3 .no z5 .no (.sh (.int n2)) (.sh (.lst (es.map pairD))) (.own (.lst (words.map tT))) z10 z11 (.own (.lst wD)) (.own tolds)) (by
    simp only [runDef, initE, finR, parD, retV, sSeq, sBind_ok, sBind_exn, sBind_bad, sNext, sIf, sSet, stor, sRet, sRetN, sExpr, sUnp, sAug, sPut, sPutA, sRaise, sBreak, sCont, sFor, obind_ok, obind_exn, obind_bad, retP_some, retP_none, vName, vC, vOp1, vOp2, vTst, vTru, vNot, vAnd, vOr, vIfE, vAndV, vOrV, vChain, vArgs, looks, look, esc, escs, frz, vTup, vLst, vB, vMut, vSl, vNotT, vDic1, vDic1B, vDic0, Slot.mu?, Slot.put, Slot.d?, List.getElem?_cons_zero, List.getElem?_cons_succ, List.getElem?_nil, Option.bind_some, Option.bind_none, Option.map_some, Option.map_none, List.set_cons_zero, List.set_cons_succ, List.set_nil, List.length_cons, List.length_nil, hName, hTup, hCons, hNil, opAdd, opSub, opLt, opLe, opGt, opGe, opLen, opInt, opNeg, opIs, opIsNot, isP, VL.isNon, truD, iAdd, iSub, opEq_int, opNe_int, if_true, if_false, ite_true, ite_false, Bool.not_true, Bool.not_false, Bool.false_eq_true, List.map_cons, List.map_nil, List.replicate_zero, List.replicate_succ, List.append_nil, List.nil_append, List.cons_append, reduceCtorEq, if_pos, Bool.not_eq_true, decide_eq_true_eq, decide_true, decide_false, c_eq, c_lt, c_le, c_ge, Nat.zero_add, Nat.reduceAdd, Pv.vl, s0, s1, s2, s3, s4, vCall, vCallV, own_take, own_ref, t15, x1, x2, x3, x4, px, vCallR])]
  have et := eq_tolds
  simp only [runDef, initE, finR, parD, retV, sSeq, sBind_ok, sBind_exn, sBind_bad, sNext, sIf, sSet, stor, sRet, sRetN, sExpr, sUnp, sAug, sPut, sPutA, sRaise, sBreak, sCont, sFor, obind_ok, obind_exn, obind_bad, retP_some, retP_none, vName, vC, vOp1, vOp2, vTst, vTru, vNot, vAnd, vOr, vIfE, vAndV, vOrV, vChain, vArgs, looks, look, esc, escs, frz, vTup, vLst, vB, vMut, vSl, vNotT, vDic1, vDic1B, vDic0, Slot.mu?, Slot.put, Slot.d?, List.getElem?_cons_zero, List.getElem?_cons_succ, List.getElem?_nil, Option.bind_some, Option.bind_none, Option.map_some, Option.map_none, List.set_cons_zero, List.set_cons_succ, List.set_nil, List.length_cons, List.length_nil, hName, hTup, hCons, hNil, opAdd, opSub, opLt, opLe, opGt, opGe, opLen, opInt, opNeg, opIs, opIsNot, isP, VL.isNon, truD, iAdd, iSub, opEq_int, opNe_int, if_true, if_false, ite_true, ite_false, Bool.not_true, Bool.not_false, Bool.false_eq_true, List.map_cons, List.map_nil, List.replicate_zero, List.replicate_succ, List.append_nil, List.nil_append, List.cons_append, reduceCtorEq, if_pos, Bool.not_eq_true, decide_eq_true_eq, decide_true, decide_false, c_eq, c_lt, c_le, c_ge, Nat.zero_add, Nat.reduceAdd, Pv.vl, s0, s1, s2, s3, s4, et]
end CM.K79
/-! The assembly: the text's defs, what the head tells of them, the chain of promises (printed by asm.py) -/
namespace CM.K79
open PySem PySem.Spec PyProof.Rows L2 VL
abbrev top (i : Nat) : Stmt := PySem.Challenge.pw_treework_k79_pruefer_words.main.body.getD i (.Pass ⟨0, 0, 0, 0⟩)
def clB : Stmt → List Stmt
  | .ClassDef _ _ _ b _ _ _ _ _ _ _ => b
  | _ => []
abbrev inC (i j : Nat) : Stmt := (clB (top i)).getD j (.Pass ⟨0, 0, 0, 0⟩)
def G0 : Glob := { N := [], flds := ["vertices", "edges"], okC := okC, excs := excs }
theorem fn_T {P : Program} {w : World} {K : PySem.W.Frag} {mg : Str → Option Value} {base : Heap} {G : Glob} {k : Nat} {x qual : Str} {st : Stmt} {f : Addr} {fd : FuncData} {N ps : List Str} {own0 kp : Bool} {t : SS} {S : FSpec} (Fn : Fun K x qual st f fd) (Sc : FnScope N ps (defScope st)) (hN : ps.length ≤ N.length) (g : GOk G k P w K mg base)
    (hb : cSs { G with N := N, kp := kp } (defScope st) 60 (defBody st) = t) (hS : (⟨own0, runDef N.length ps.length own0 t⟩ : FSpec) = S) : FnOk P w K mg base (L2.CX P w) (k + 2) f fd ps (S.sp K mg) := by
  subst hS
  have F := fn_C (G := { G with N := N, kp := kp }) (own0 := own0) (n := 60) Fn Sc hN rfl ⟨g.fn, g.mkc, g.mth, g.fld, g.blt, g.con, g.exc, g.ex⟩
  rw [hb] at F
  exact F
theorem e_Graph___init__ : cSs { G0 with N := N_Graph___init__, kp := false } (defScope (inC 8 0)) 60 (defBody (inC 8 0)) = t_Graph___init__ := by kernel_rfl
theorem sc_Graph___init__ : FnScope N_Graph___init__ ["self", "vertices", "edges"] (defScope (inC 8 0)) := ⟨rfl, rfl, rfl, by decide +kernel, rfl, by decide +kernel, by decide +kernel⟩
def G_Graph___init__ : Glob := VL.addC G0 "Graph" S_Graph
theorem Q_Graph___init__ {P : Program} {w : World} {K : PySem.W.Frag} {mg : Str → Option Value} {base : Heap} {k : Nat} {f : Addr} {fd : FuncData} (F : Fun K "__init__" "Graph.__init__" (inC 8 0) f fd) (g : GOk G0 k P w K mg base) : FnOk P w K mg base (L2.CX P w) (k + 2) f fd ["self", "vertices", "edges"] (S_Graph.sp K mg) := fn_T (own0 := true) F sc_Graph___init__ (by decide) g e_Graph___init__ rfl
theorem H_Graph___init__ {P : Program} {w : World} {K : PySem.W.Frag} {mg : Str → Option Value} {base : Heap} {k : Nat} {f : Addr} {fd : FuncData} {C : Addr} (F : Fun K "__init__" "Graph.__init__" (inC 8 0) f fd) (hm : mg "Graph" = some (.ref C)) (M : Mk K C f) (hb : L2.Binds K fd ["self", "vertices", "edges"] []) (g : GOk G0 k P w K mg base) : GOk G_Graph___init__ (k + 2) P w K mg base := (g.up (Nat.le_add_right k 2)).addC rfl hm M hb (Q_Graph___init__ F g)
theorem e_merged : cSs { G_Graph___init__ with N := N_merged, kp := false } (defScope (top 6)) 60 (defBody (top 6)) = t_merged := by kernel_rfl
theorem sc_merged : FnScope N_merged ["names", "first", "second"] (defScope (top 6)) := ⟨rfl, rfl, rfl, by decide +kernel, rfl, by decide +kernel, by decide +kernel⟩
def G_merged : Glob := VL.addF G_Graph___init__ "merged" S_merged
theorem Q_merged {P : Program} {w : World} {K : PySem.W.Frag} {mg : Str → Option Value} {base : Heap} {k : Nat} {f : Addr} {fd : FuncData} (F : Fun K "merged" "merged" (top 6) f fd) (g : GOk G_Graph___init__ k P w K mg base) : FnOk P w K mg base (L2.CX P w) (k + 2) f fd ["names", "first", "second"] (S_merged.sp K mg) := fn_T (own0 := true) F sc_merged (by decide) g e_merged rfl
theorem H_merged {P : Program} {w : World} {K : PySem.W.Frag} {mg : Str → Option Value} {base : Heap} {k : Nat} {f : Addr} {fd : FuncData} (F : Fun K "merged" "merged" (top 6) f fd) (hm : mg "merged" = some (.ref f)) (hk : PySem.W.keepIn K (.ref f) = true) (hb : L2.Binds K fd ["names", "first", "second"] []) (g : GOk G_Graph___init__ k P w K mg base) : GOk G_merged (k + 2) P w K mg base := (g.up (Nat.le_add_right k 2)).addF hm hk hb (Q_merged F g)
theorem e_groups : cSs { G_merged with N := N_groups, kp := false } (defScope (top 7)) 60 (defBody (top 7)) = t_groups S_merged := by kernel_rfl
theorem sc_groups : FnScope N_groups ["vertices", "edges"] (defScope (top 7)) := ⟨rfl, rfl, rfl, by decide +kernel, rfl, by decide +kernel, by decide +kernel⟩
def G_groups : Glob := VL.addF G_merged "groups" S_groups
theorem Q_groups {P : Program} {w : World} {K : PySem.W.Frag} {mg : Str → Option Value} {base : Heap} {k : Nat} {f : Addr} {fd : FuncData} (F : Fun K "groups" "groups" (top 7) f fd) (g : GOk G_merged k P w K mg base) : FnOk P w K mg base (L2.CX P w) (k + 2) f fd ["vertices", "edges"] (S_groups.sp K mg) := fn_T (own0 := false) F sc_groups (by decide) g e_groups rfl
theorem H_groups {P : Program} {w : World} {K : PySem.W.Frag} {mg : Str → Option Value} {base : Heap} {k : Nat} {f : Addr} {fd : FuncData} (F : Fun K "groups" "groups" (top 7) f fd) (hm : mg "groups" = some (.ref f)) (hk : PySem.W.keepIn K (.ref f) = true) (hb : L2.Binds K fd ["vertices", "edges"] []) (g : GOk G_merged k P w K mg base) : GOk G_groups (k + 2) P w K mg base := (g.up (Nat.le_add_right k 2)).addF hm hk hb (Q_groups F g)
theorem e_Graph_degree : cSs { G_groups with N := N_Graph_degree, kp := false } (defScope (inC 8 2)) 60 (defBody (inC 8 2)) = t_Graph_degree := by kernel_rfl
theorem sc_Graph_degree : FnScope N_Graph_degree ["self", "vertex"] (defScope (inC 8 2)) := ⟨rfl, rfl, rfl, by decide +kernel, rfl, by decide +kernel, by decide +kernel⟩
def G_Graph_degree : Glob := VL.addM G_groups "degree" "Graph" S_Graph_degree
theorem Q_Graph_degree {P : Program} {w : World} {K : PySem.W.Frag} {mg : Str → Option Value} {base : Heap} {k : Nat} {f : Addr} {fd : FuncData} (F : Fun K "degree" "Graph.degree" (inC 8 2) f fd) (g : GOk G_groups k P w K mg base) : FnOk P w K mg base (L2.CX P w) (k + 2) f fd ["self", "vertex"] (S_Graph_degree.sp K mg) := fn_T (own0 := false) F sc_Graph_degree (by decide) g e_Graph_degree rfl
theorem H_Graph_degree {P : Program} {w : World} {K : PySem.W.Frag} {mg : Str → Option Value} {base : Heap} {k : Nat} {f : Addr} {fd : FuncData} {C : Addr} (F : Fun K "degree" "Graph.degree" (inC 8 2) f fd) (hm : mg "Graph" = some (.ref C)) (cl : Cls K C) (M : Meth K C "degree" f) (hb : L2.Binds K fd ["self", "vertex"] []) (g : GOk G_groups k P w K mg base) : GOk G_Graph_degree (k + 2) P w K mg base := (g.up (Nat.le_add_right k 2)).addM rfl hm cl M hb (Q_Graph_degree F g)
theorem e_Graph_components : cSs { G_Graph_degree with N := N_Graph_components, kp := false } (defScope (inC 8 3)) 60 (defBody (inC 8 3)) = t_Graph_components S_groups := by kernel_rfl
theorem sc_Graph_components : FnScope N_Graph_components ["self"] (defScope (inC 8 3)) := ⟨rfl, rfl, rfl, by decide +kernel, rfl, by decide +kernel, by decide +kernel⟩
def G_Graph_components : Glob := VL.addM G_Graph_degree "components" "Graph" S_Graph_components
theorem Q_Graph_components {P : Program} {w : World} {K : PySem.W.Frag} {mg : Str → Option Value} {base : Heap} {k : Nat} {f : Addr} {fd : FuncData} (F : Fun K "components" "Graph.components" (inC 8 3) f fd) (g : GOk G_Graph_degree k P w K mg base) : FnOk P w K mg base (L2.CX P w) (k + 2) f fd ["self"] (S_Graph_components.sp K mg) := fn_T (own0 := false) F sc_Graph_components (by decide) g e_Graph_components rfl
theorem H_Graph_components {P : Program} {w : World} {K : PySem.W.Frag} {mg : Str → Option Value} {base : Heap} {k : Nat} {f : Addr} {fd : FuncData} {C : Addr} (F : Fun K "components" "Graph.components" (inC 8 3) f fd) (hm : mg "Graph" = some (.ref C)) (cl : Cls K C) (M : Meth K C "components" f) (hb : L2.Binds K fd ["self"] []) (g : GOk G_Graph_degree k P w K mg base) : GOk G_Graph_components (k + 2) P w K mg base := (g.up (Nat.le_add_right k 2)).addM rfl hm cl M hb (Q_Graph_components F g)
theorem e_Graph_is_connected : cSs { G_Graph_components with N := N_Graph_is_connected, kp := false } (defScope (inC 8 4)) 60 (defBody (inC 8 4)) = t_Graph_is_connected S_Graph_components := by kernel_rfl
theorem sc_Graph_is_connected : FnScope N_Graph_is_connected ["self"] (defScope (inC 8 4)) := ⟨rfl, rfl, rfl, by decide +kernel, rfl, by decide +kernel, by decide +kernel⟩
def G_Graph_is_connected : Glob := VL.addM G_Graph_components "is_connected" "Graph" S_Graph_is_connected
theorem Q_Graph_is_connected {P : Program} {w : World} {K : PySem.W.Frag} {mg : Str → Option Value} {base : Heap} {k : Nat} {f : Addr} {fd : FuncData} (F : Fun K "is_connected" "Graph.is_connected" (inC 8 4) f fd) (g : GOk G_Graph_components k P w K mg base) : FnOk P w K mg base (L2.CX P w) (k + 2) f fd ["self"] (S_Graph_is_connected.sp K mg) := fn_T (own0 := false) F sc_Graph_is_connected (by decide) g e_Graph_is_connected rfl
theorem H_Graph_is_connected {P : Program} {w : World} {K : PySem.W.Frag} {mg : Str → Option Value} {base : Heap} {k : Nat} {f : Addr} {fd : FuncData} {C : Addr} (F : Fun K "is_connected" "Graph.is_connected" (inC 8 4) f fd) (hm : mg "Graph" = some (.ref C)) (cl : Cls K C) (M : Meth K C "is_connected" f) (hb : L2.Binds K fd ["self"] []) (g : GOk G_Graph_components k P w K mg base) : GOk G_Graph_is_connected (k + 2) P w K mg base := (g.up (Nat.le_add_right k 2)).addM rfl hm cl M hb (Q_Graph_is_connected F g)
theorem e_pruefer_word : cSs { G_Graph_is_connected with N := N_pruefer_word, kp := true } (defScope (top 10)) 60 (defBody (top 10)) = t_pruefer_word S_Graph_is_connected S_Graph_degree := by kernel_rfl
theorem sc_pruefer_word : FnScope N_pruefer_word ["graph"] (defScope (top 10)) := ⟨rfl, rfl, rfl, by decide +kernel, rfl, by decide +kernel, by decide +kernel⟩
def G_pruefer_word : Glob := VL.addF G_Graph_is_connected "pruefer_word" S_pruefer_word
theorem Q_pruefer_word {P : Program} {w : World} {K : PySem.W.Frag} {mg : Str → Option Value} {base : Heap} {k : Nat} {f : Addr} {fd : FuncData} (F : Fun K "pruefer_word" "pruefer_word" (top 10) f fd) (g : GOk G_Graph_is_connected k P w K mg base) : FnOk P w K mg base (L2.CX P w) (k + 2) f fd ["graph"] (S_pruefer_word.sp K mg) := fn_T (own0 := false) F sc_pruefer_word (by decide) g e_pruefer_word rfl
theorem H_pruefer_word {P : Program} {w : World} {K : PySem.W.Frag} {mg : Str → Option Value} {base : Heap} {k : Nat} {f : Addr} {fd : FuncData} (F : Fun K "pruefer_word" "pruefer_word" (top 10) f fd) (hm : mg "pruefer_word" = some (.ref f)) (hk : PySem.W.keepIn K (.ref f) = true) (hb : L2.Binds K fd ["graph"] []) (g : GOk G_Graph_is_connected k P w K mg base) : GOk G_pruefer_word (k + 2) P w K mg base := (g.up (Nat.le_add_right k 2)).addF hm hk hb (Q_pruefer_word F g)
theorem e_tree_of_word : cSs { G_pruefer_word with N := N_tree_of_word, kp := false } (defScope (top 11)) 60 (defBody (top 11)) = t_tree_of_word S_Graph := by kernel_rfl
theorem sc_tree_of_word : FnScope N_tree_of_word ["word"] (defScope (top 11)) := ⟨rfl, rfl, rfl, by decide +kernel, rfl, by decide +kernel, by decide +kernel⟩
def G_tree_of_word : Glob := VL.addF G_pruefer_word "tree_of_word" S_tree_of_word
theorem Q_tree_of_word {P : Program} {w : World} {K : PySem.W.Frag} {mg : Str → Option Value} {base : Heap} {k : Nat} {f : Addr} {fd : FuncData} (F : Fun K "tree_of_word" "tree_of_word" (top 11) f fd) (g : GOk G_pruefer_word k P w K mg base) : FnOk P w K mg base (L2.CX P w) (k + 2) f fd ["word"] (S_tree_of_word.sp K mg) := fn_T (own0 := false) F sc_tree_of_word (by decide) g e_tree_of_word rfl
theorem H_tree_of_word {P : Program} {w : World} {K : PySem.W.Frag} {mg : Str → Option Value} {base : Heap} {k : Nat} {f : Addr} {fd : FuncData} (F : Fun K "tree_of_word" "tree_of_word" (top 11) f fd) (hm : mg "tree_of_word" = some (.ref f)) (hk : PySem.W.keepIn K (.ref f) = true) (hb : L2.Binds K fd ["word"] []) (g : GOk G_pruefer_word k P w K mg base) : GOk G_tree_of_word (k + 2) P w K mg base := (g.up (Nat.le_add_right k 2)).addF hm hk hb (Q_tree_of_word F g)
theorem e__law_deck : cSs { G_tree_of_word with N := N__law_deck, kp := false } (defScope (top 13)) 60 (defBody (top 13)) = t__law_deck := by kernel_rfl
theorem sc__law_deck : FnScope N__law_deck ["script", "cells", "each"] (defScope (top 13)) := ⟨rfl, rfl, rfl, by decide +kernel, rfl, by decide +kernel, by decide +kernel⟩
def G__law_deck : Glob := VL.addF G_tree_of_word "_law_deck" S__law_deck
theorem Q__law_deck {P : Program} {w : World} {K : PySem.W.Frag} {mg : Str → Option Value} {base : Heap} {k : Nat} {f : Addr} {fd : FuncData} (F : Fun K "_law_deck" "_law_deck" (top 13) f fd) (g : GOk G_tree_of_word k P w K mg base) : FnOk P w K mg base (L2.CX P w) (k + 2) f fd ["script", "cells", "each"] (S__law_deck.sp K mg) := fn_T (own0 := false) F sc__law_deck (by decide) g e__law_deck rfl
theorem H__law_deck {P : Program} {w : World} {K : PySem.W.Frag} {mg : Str → Option Value} {base : Heap} {k : Nat} {f : Addr} {fd : FuncData} (F : Fun K "_law_deck" "_law_deck" (top 13) f fd) (hm : mg "_law_deck" = some (.ref f)) (hk : PySem.W.keepIn K (.ref f) = true) (hb : L2.Binds K fd ["script", "cells", "each"] []) (g : GOk G_tree_of_word k P w K mg base) : GOk G__law_deck (k + 2) P w K mg base := (g.up (Nat.le_add_right k 2)).addF hm hk hb (Q__law_deck F g)
theorem e__law_take : cSs { G__law_deck with N := N__law_take, kp := false } (defScope (top 14)) 60 (defBody (top 14)) = t__law_take := by kernel_rfl
theorem sc__law_take : FnScope N__law_take ["deck", "many"] (defScope (top 14)) := ⟨rfl, rfl, rfl, by decide +kernel, rfl, by decide +kernel, by decide +kernel⟩
def G__law_take : Glob := VL.addF G__law_deck "_law_take" S__law_take
theorem Q__law_take {P : Program} {w : World} {K : PySem.W.Frag} {mg : Str → Option Value} {base : Heap} {k : Nat} {f : Addr} {fd : FuncData} (F : Fun K "_law_take" "_law_take" (top 14) f fd) (g : GOk G__law_deck k P w K mg base) : FnOk P w K mg base (L2.CX P w) (k + 2) f fd ["deck", "many"] (S__law_take.sp K mg) := fn_T (own0 := true) F sc__law_take (by decide) g e__law_take rfl
theorem H__law_take {P : Program} {w : World} {K : PySem.W.Frag} {mg : Str → Option Value} {base : Heap} {k : Nat} {f : Addr} {fd : FuncData} (F : Fun K "_law_take" "_law_take" (top 14) f fd) (hm : mg "_law_take" = some (.ref f)) (hk : PySem.W.keepIn K (.ref f) = true) (hb : L2.Binds K fd ["deck", "many"] []) (g : GOk G__law_deck k P w K mg base) : GOk G__law_take (k + 2) P w K mg base := (g.up (Nat.le_add_right k 2)).addF hm hk hb (Q__law_take F g)
theorem e__law_plain (r : Nat) : cSs { (VL.addF G__law_take "_law_plain" (S__law_plain r)) with N := N__law_plain, kp := false } (defScope (top 15)) 60 (defBody (top 15)) = t__law_plain (S__law_plain r) := by kernel_rfl
theorem sc__law_plain : FnScope N__law_plain ["value"] (defScope (top 15)) := ⟨rfl, rfl, rfl, by decide +kernel, rfl, by decide +kernel, by decide +kernel⟩
def G__law_plain : Glob := VL.addF G__law_take "_law_plain" (S__law_plain 6)
theorem Q0__law_plain {P : Program} {w : World} {K : PySem.W.Frag} {mg : Str → Option Value} {base : Heap} {k : Nat} {f : Addr} {fd : FuncData} (F : Fun K "_law_plain" "_law_plain" (top 15) f fd) (g : GOk G__law_take k P w K mg base) : FnOk P w K mg base (L2.CX P w) (k + 2) f fd ["value"] ((S__law_plain 0).sp K mg) := fn_N (own0 := false) (run := fun _ => .bad) 60 F sc__law_plain (by decide) g rfl fun ds h => absurd rfl h
theorem QS__law_plain {P : Program} {w : World} {K : PySem.W.Frag} {mg : Str → Option Value} {base : Heap} {k : Nat} {f : Addr} {fd : FuncData} (r : Nat) (F : Fun K "_law_plain" "_law_plain" (top 15) f fd) (hm : mg "_law_plain" = some (.ref f)) (hk : PySem.W.keepIn K (.ref f) = true) (hb : L2.Binds K fd ["value"] []) (g : GOk G__law_take k P w K mg base) (q : FnOk P w K mg base (L2.CX P w) k f fd ["value"] ((S__law_plain r).sp K mg)) : FnOk P w K mg base (L2.CX P w) (k + 2) f fd ["value"] ((S__law_plain (r + 1)).sp K mg) := fn_T (own0 := false) F sc__law_plain (by decide) (g.addF hm hk hb q) (e__law_plain r) rfl
theorem H__law_plain {P : Program} {w : World} {K : PySem.W.Frag} {mg : Str → Option Value} {base : Heap} {k : Nat} {f : Addr} {fd : FuncData} (F : Fun K "_law_plain" "_law_plain" (top 15) f fd) (hm : mg "_law_plain" = some (.ref f)) (hk : PySem.W.keepIn K (.ref f) = true) (hb : L2.Binds K fd ["value"] []) (g : GOk G__law_take k P w K mg base) : GOk G__law_plain (k + 14) P w K mg base := by
  have q0 := Q0__law_plain F g
  have q1 := QS__law_plain 0 F hm hk hb (g.up (by omega)) q0
  have q2 := QS__law_plain 1 F hm hk hb (g.up (by omega)) q1
  have q3 := QS__law_plain 2 F hm hk hb (g.up (by omega)) q2
  have q4 := QS__law_plain 3 F hm hk hb (g.up (by omega)) q3
  have q5 := QS__law_plain 4 F hm hk hb (g.up (by omega)) q4
  have q6 := QS__law_plain 5 F hm hk hb (g.up (by omega)) q5
  exact (g.up (by omega)).addF hm hk hb q6
theorem e__law_order : cSs { G__law_plain with N := N__law_order, kp := false } (defScope (top 16)) 60 (defBody (top 16)) = t__law_order S__law_take := by kernel_rfl
theorem sc__law_order : FnScope N__law_order ["deck", "size"] (defScope (top 16)) := ⟨rfl, rfl, rfl, by decide +kernel, rfl, by decide +kernel, by decide +kernel⟩
def G__law_order : Glob := VL.addF G__law_plain "_law_order" S__law_order
theorem Q__law_order {P : Program} {w : World} {K : PySem.W.Frag} {mg : Str → Option Value} {base : Heap} {k : Nat} {f : Addr} {fd : FuncData} (F : Fun K "_law_order" "_law_order" (top 16) f fd) (g : GOk G__law_plain k P w K mg base) : FnOk P w K mg base (L2.CX P w) (k + 2) f fd ["deck", "size"] (S__law_order.sp K mg) := fn_T (own0 := true) F sc__law_order (by decide) g e__law_order rfl
theorem H__law_order {P : Program} {w : World} {K : PySem.W.Frag} {mg : Str → Option Value} {base : Heap} {k : Nat} {f : Addr} {fd : FuncData} (F : Fun K "_law_order" "_law_order" (top 16) f fd) (hm : mg "_law_order" = some (.ref f)) (hk : PySem.W.keepIn K (.ref f) = true) (hb : L2.Binds K fd ["deck", "size"] []) (g : GOk G__law_plain k P w K mg base) : GOk G__law_order (k + 2) P w K mg base := (g.up (Nat.le_add_right k 2)).addF hm hk hb (Q__law_order F g)
theorem e__law_word : cSs { G__law_order with N := N__law_word, kp := true } (defScope (top 17)) 60 (defBody (top 17)) = t__law_word := by kernel_rfl
theorem sc__law_word : FnScope N__law_word ["vertices", "edges"] (defScope (top 17)) := ⟨rfl, rfl, rfl, by decide +kernel, rfl, by decide +kernel, by decide +kernel⟩
def G__law_word : Glob := VL.addF G__law_order "_law_word" S__law_word
theorem Q__law_word {P : Program} {w : World} {K : PySem.W.Frag} {mg : Str → Option Value} {base : Heap} {k : Nat} {f : Addr} {fd : FuncData} (F : Fun K "_law_word" "_law_word" (top 17) f fd) (g : GOk G__law_order k P w K mg base) : FnOk P w K mg base (L2.CX P w) (k + 2) f fd ["vertices", "edges"] (S__law_word.sp K mg) := fn_T (own0 := false) F sc__law_word (by decide) g e__law_word rfl
theorem H__law_word {P : Program} {w : World} {K : PySem.W.Frag} {mg : Str → Option Value} {base : Heap} {k : Nat} {f : Addr} {fd : FuncData} (F : Fun K "_law_word" "_law_word" (top 17) f fd) (hm : mg "_law_word" = some (.ref f)) (hk : PySem.W.keepIn K (.ref f) = true) (hb : L2.Binds K fd ["vertices", "edges"] []) (g : GOk G__law_order k P w K mg base) : GOk G__law_word (k + 2) P w K mg base := (g.up (Nat.le_add_right k 2)).addF hm hk hb (Q__law_word F g)
theorem e__law_tree : cSs { G__law_word with N := N__law_tree, kp := false } (defScope (top 18)) 60 (defBody (top 18)) = t__law_tree := by kernel_rfl
theorem sc__law_tree : FnScope N__law_tree ["word"] (defScope (top 18)) := ⟨rfl, rfl, rfl, by decide +kernel, rfl, by decide +kernel, by decide +kernel⟩
def G__law_tree : Glob := VL.addF G__law_word "_law_tree" S__law_tree
theorem Q__law_tree {P : Program} {w : World} {K : PySem.W.Frag} {mg : Str → Option Value} {base : Heap} {k : Nat} {f : Addr} {fd : FuncData} (F : Fun K "_law_tree" "_law_tree" (top 18) f fd) (g : GOk G__law_word k P w K mg base) : FnOk P w K mg base (L2.CX P w) (k + 2) f fd ["word"] (S__law_tree.sp K mg) := fn_T (own0 := false) F sc__law_tree (by decide) g e__law_tree rfl
theorem H__law_tree {P : Program} {w : World} {K : PySem.W.Frag} {mg : Str → Option Value} {base : Heap} {k : Nat} {f : Addr} {fd : FuncData} (F : Fun K "_law_tree" "_law_tree" (top 18) f fd) (hm : mg "_law_tree" = some (.ref f)) (hk : PySem.W.keepIn K (.ref f) = true) (hb : L2.Binds K fd ["word"] []) (g : GOk G__law_word k P w K mg base) : GOk G__law_tree (k + 2) P w K mg base := (g.up (Nat.le_add_right k 2)).addF hm hk hb (Q__law_tree F g)
theorem e__law_refusal : cSs { G__law_tree with N := N__law_refusal, kp := false } (defScope (top 19)) 60 (defBody (top 19)) = t__law_refusal S_pruefer_word S_tree_of_word := by kernel_rfl
theorem sc__law_refusal : FnScope N__law_refusal ["ask", "one"] (defScope (top 19)) := ⟨rfl, rfl, rfl, by decide +kernel, rfl, by decide +kernel, by decide +kernel⟩
def G__law_refusal : Glob := VL.addF G__law_tree "_law_refusal" S__law_refusal
theorem Q__law_refusal {P : Program} {w : World} {K : PySem.W.Frag} {mg : Str → Option Value} {base : Heap} {k : Nat} {f : Addr} {fd : FuncData} (F : Fun K "_law_refusal" "_law_refusal" (top 19) f fd) (g : GOk G__law_tree k P w K mg base) : FnOk P w K mg base (L2.CX P w) (k + 2) f fd ["ask", "one"] (S__law_refusal.sp K mg) := fn_T (own0 := false) F sc__law_refusal (by decide) g e__law_refusal rfl
theorem H__law_refusal {P : Program} {w : World} {K : PySem.W.Frag} {mg : Str → Option Value} {base : Heap} {k : Nat} {f : Addr} {fd : FuncData} (F : Fun K "_law_refusal" "_law_refusal" (top 19) f fd) (hm : mg "_law_refusal" = some (.ref f)) (hk : PySem.W.keepIn K (.ref f) = true) (hb : L2.Binds K fd ["ask", "one"] []) (g : GOk G__law_tree k P w K mg base) : GOk G__law_refusal (k + 2) P w K mg base := (g.up (Nat.le_add_right k 2)).addF hm hk hb (Q__law_refusal F g)
theorem e__law_drawn : cSs { G__law_refusal with N := N__law_drawn, kp := false } (defScope (top 20)) 60 (defBody (top 20)) = t__law_drawn S__law_take S__law_order := by kernel_rfl
theorem sc__law_drawn : FnScope N__law_drawn ["deck"] (defScope (top 20)) := ⟨rfl, rfl, rfl, by decide +kernel, rfl, by decide +kernel, by decide +kernel⟩
def G__law_drawn : Glob := VL.addF G__law_refusal "_law_drawn" S__law_drawn
theorem Q__law_drawn {P : Program} {w : World} {K : PySem.W.Frag} {mg : Str → Option Value} {base : Heap} {k : Nat} {f : Addr} {fd : FuncData} (F : Fun K "_law_drawn" "_law_drawn" (top 20) f fd) (g : GOk G__law_refusal k P w K mg base) : FnOk P w K mg base (L2.CX P w) (k + 2) f fd ["deck"] (S__law_drawn.sp K mg) := fn_T (own0 := true) F sc__law_drawn (by decide) g e__law_drawn rfl
theorem H__law_drawn {P : Program} {w : World} {K : PySem.W.Frag} {mg : Str → Option Value} {base : Heap} {k : Nat} {f : Addr} {fd : FuncData} (F : Fun K "_law_drawn" "_law_drawn" (top 20) f fd) (hm : mg "_law_drawn" = some (.ref f)) (hk : PySem.W.keepIn K (.ref f) = true) (hb : L2.Binds K fd ["deck"] []) (g : GOk G__law_refusal k P w K mg base) : GOk G__law_drawn (k + 2) P w K mg base := (g.up (Nat.le_add_right k 2)).addF hm hk hb (Q__law_drawn F g)
theorem e_law : cSs { G__law_drawn with N := N_law, kp := false } (defScope (top 21)) 60 (defBody (top 21)) = t_law S__law_deck S__law_take S_tree_of_word (S__law_plain 6) S__law_tree S_pruefer_word S_Graph_degree S__law_drawn S_Graph S__law_word S__law_refusal := by kernel_rfl
theorem sc_law : FnScope N_law ["script"] (defScope (top 21)) := ⟨rfl, rfl, rfl, by decide +kernel, rfl, by decide +kernel, by decide +kernel⟩
theorem Q_law {P : Program} {w : World} {K : PySem.W.Frag} {mg : Str → Option Value} {base : Heap} {k : Nat} {f : Addr} {fd : FuncData} (F : Fun K "law" "law" (top 21) f fd) (g : GOk G__law_drawn k P w K mg base) : FnOk P w K mg base (L2.CX P w) (k + 2) f fd ["script"] (S_law.sp K mg) := fn_T (own0 := false) F sc_law (by decide) g e_law rfl
theorem exm_of {K : PySem.W.Frag} {C S : Addr} {b : Bool} (h1 : PySem.W.subIn K (.ref S) (.type "BaseException") = some true) (h2 : PySem.W.isClsIn K S = true) (h3 : PySem.W.typeIn K (.ref S) = some (.type "type")) (h4 : PySem.W.subIn K (.ref C) (.ref S) = some b) : PySem.W.exmOne K (.ref C) (.ref S) = some b := by
  have e1 : (PySem.W.subIn K (.ref S) (.type "BaseException") == some true) = true := by
    rw [h1]
    rfl
  have e2 : ((PySem.W.clsIn K S).isSome && PySem.W.typeIn K (.ref S) == some (.type "type")) = true := by
    have h5 : (PySem.W.clsIn K S).isSome = true := h2
    rw [h5, h3]
    rfl
  show (if (PySem.W.subIn K (.ref S) (.type "BaseException") == some true) = true then (if ((PySem.W.clsIn K S).isSome && PySem.W.typeIn K (.ref S) == some (.type "type")) = true then PySem.W.subIn K (.ref C) (.ref S) else none) else none) = some b
  rw [if_pos e1, if_pos e2]
  exact h4
def spLaw (K : PySem.W.Frag) : Sp := fun vs H Q _ => ∃ (a : Addr) (ns : List Int), vs = [.ref a] ∧ SqL K H a (ns.map V.int) ∧ ∀ H', Q (.bl true) H'
theorem sp_law {K : PySem.W.Frag} {mg : Str → Option Value} (vs : List V) (H : Hp) (Q : VK) (E : XK) (h : spLaw K vs H Q E) : S_law.sp K mg vs H Q E := by
  obtain ⟨a, ns, rfl, hS, q⟩ := h
  rw [FSpec.sp_f rfl]
  refine ⟨H, [.rol (ns.map D.int)], Same.refl H, .cons (.rol hS (reps_ints ns)) .nil, ?_⟩
  rw [r_law]
  intro G L v x own r
  cases r
  exact q L
set_option maxHeartbeats 0 in
theorem all_mk {l : PySem.W.OpenLaw} {w : World} {K : PySem.W.Frag} {h : Heap} {mg : Str → Option Value} {fa CT : Addr} {CInvalidGraph fInvalidGraph CInvalidOrder fInvalidOrder CGraph f0 f1 f2 f3 f4 f5 f6 f7 f8 f9 f10 f11 f12 f13 f14 f15 f16 : Addr} (X : K.In h) (G : h.Ns mainGlobals mg) (hfa : mg "law" = some (.ref fa)) {nmInvalidGraph qInvalidGraph : Str} {NInvalidGraph : Addr} {bsInvalidGraph bmInvalidGraph : List Value} {snInvalidGraph : List Str} {subInvalidGraph : List Value} {abInvalidGraph : Bool} {colInvalidGraph : Option Bool} {ddInvalidGraph : Option Addr} {m0InvalidGraph m1InvalidGraph m2InvalidGraph m3InvalidGraph m5InvalidGraph : Option Value} {odInvalidGraph anInvalidGraph : Option Addr} {slInvalidGraph : Array (Option Value)} {ocInvalidGraph kVInvalidGraph dcInvalidGraph pmInvalidGraph cdInvalidGraph ctInvalidGraph : Value} {nmInvalidOrder qInvalidOrder : Str} {NInvalidOrder : Addr} {bsInvalidOrder bmInvalidOrder : List Value} {snInvalidOrder : List Str} {subInvalidOrder : List Value} {abInvalidOrder : Bool} {colInvalidOrder : Option Bool} {ddInvalidOrder : Option Addr} {m0InvalidOrder m1InvalidOrder m2InvalidOrder m3InvalidOrder m5InvalidOrder : Option Value} {odInvalidOrder anInvalidOrder : Option Addr} {slInvalidOrder : Array (Option Value)} {ocInvalidOrder kVInvalidOrder dcInvalidOrder pmInvalidOrder cdInvalidOrder ctInvalidOrder : Value} {od0 an0 : Option Addr} {sl0 : Array (Option Value)} {oc0 kV0 dc0 pm0 cd0 ct0 : Value} {od1 an1 : Option Addr} {sl1 : Array (Option Value)} {oc1 kV1 dc1 pm1 cd1 ct1 : Value} {od2 an2 : Option Addr} {sl2 : Array (Option Value)} {oc2 kV2 dc2 pm2 cd2 ct2 : Value} {od3 an3 : Option Addr} {sl3 : Array (Option Value)} {oc3 kV3 dc3 pm3 cd3 ct3 : Value} {od4 an4 : Option Addr} {sl4 : Array (Option Value)} {oc4 kV4 dc4 pm4 cd4 ct4 : Value} {od5 an5 : Option Addr} {sl5 : Array (Option Value)} {oc5 kV5 dc5 pm5 cd5 ct5 : Value} {od6 an6 : Option Addr} {sl6 : Array (Option Value)} {oc6 kV6 dc6 pm6 cd6 ct6 : Value} {od7 an7 : Option Addr} {sl7 : Array (Option Value)} {oc7 kV7 dc7 pm7 cd7 ct7 : Value} {od8 an8 : Option Addr} {sl8 : Array (Option Value)} {oc8 kV8 dc8 pm8 cd8 ct8 : Value} {od9 an9 : Option Addr} {sl9 : Array (Option Value)} {oc9 kV9 dc9 pm9 cd9 ct9 : Value} {od10 an10 : Option Addr} {sl10 : Array (Option Value)} {oc10 kV10 dc10 pm10 cd10 ct10 : Value} {od11 an11 : Option Addr} {sl11 : Array (Option Value)} {oc11 kV11 dc11 pm11 cd11 ct11 : Value} {od12 an12 : Option Addr} {sl12 : Array (Option Value)} {oc12 kV12 dc12 pm12 cd12 ct12 : Value} {od13 an13 : Option Addr} {sl13 : Array (Option Value)} {oc13 kV13 dc13 pm13 cd13 ct13 : Value} {od14 an14 : Option Addr} {sl14 : Array (Option Value)} {oc14 kV14 dc14 pm14 cd14 ct14 : Value} {od15 an15 : Option Addr} {sl15 : Array (Option Value)} {oc15 kV15 dc15 pm15 cd15 ct15 : Value} {od16 an16 : Option Addr} {sl16 : Array (Option Value)} {oc16 kV16 dc16 pm16 cd16 ct16 : Value}
    (aT : PySem.W.nsIn K mainGlobals "TreeError" = some (some (.ref CT)))
    (spT : PySem.W.specialIn K (.ref CT) "__getattribute__" = some (some (.builtin "type.__getattribute__")))
    (rdT : PySem.W.readsIn K CT (.type "type") = true)
    (fcT : PySem.W.findCls K (.ref CT) (.type "type") "__init__" = some (.val (.builtin "ValueError.__init__")))
    (aInvalidGraph : PySem.W.nsIn K mainGlobals "InvalidGraph" = some (some (.ref CInvalidGraph)))
    (xInvalidGraph : K.lookup CInvalidGraph = some (excClassObj nmInvalidGraph qInvalidGraph CInvalidGraph NInvalidGraph bsInvalidGraph bmInvalidGraph true snInvalidGraph subInvalidGraph abInvalidGraph colInvalidGraph ddInvalidGraph m0InvalidGraph m1InvalidGraph m2InvalidGraph m3InvalidGraph m5InvalidGraph "ValueError.__new__"))
    (rvInvalidGraph : PySem.HandSPX.refsVE bmInvalidGraph = true)
    (saInvalidGraph : PySem.W.findIn K (.ref CInvalidGraph) "__setattr__" = some (some (.builtin "object.__setattr__")))
    (gaInvalidGraph : PySem.W.findIn K (.ref CInvalidGraph) "__getattribute__" = some (some (.builtin "BaseException.__getattribute__")))
    (ggInvalidGraph : PySem.W.findIn K (.ref CInvalidGraph) "__getattr__" = some none)
    (nbInvalidGraph : PySem.W.findIn K (.ref CInvalidGraph) "what" = some none)
    (iInvalidGraph : PySem.W.findIn K (.ref CInvalidGraph) "__init__" = some (some (.ref fInvalidGraph)))
    (tInvalidGraph : PySem.W.typeIn K (.ref fInvalidGraph) = some (.type "function"))
    (lInvalidGraph : K.lookup fInvalidGraph = some ⟨ocInvalidGraph, odInvalidGraph, .func (PySem.W.fnOf "__init__" "InvalidGraph.__init__" (defArgs (inC 3 0)) (defBody (inC 3 0)) (defScope (inC 3 0)) .none kVInvalidGraph dcInvalidGraph pmInvalidGraph anInvalidGraph cdInvalidGraph ctInvalidGraph), slInvalidGraph⟩)
    (cInvalidGraph : PySem.W.codeIn K cdInvalidGraph "InvalidGraph.__init__" = true)
    (kfInvalidGraph : PySem.W.keepIn K (.ref fInvalidGraph) = true)
    (kCInvalidGraph : PySem.W.keepIn K (.ref CInvalidGraph) = true)
    (eCInvalidGraph : PySem.W.subIn K (.ref CInvalidGraph) (.type "BaseException") = some true)
    (tCInvalidGraph : PySem.W.typeIn K (.ref CInvalidGraph) = some (.type "type"))
    (hCInvalidGraph : PySem.W.hasDictIn K CInvalidGraph = true)
    (aInvalidOrder : PySem.W.nsIn K mainGlobals "InvalidOrder" = some (some (.ref CInvalidOrder)))
    (xInvalidOrder : K.lookup CInvalidOrder = some (excClassObj nmInvalidOrder qInvalidOrder CInvalidOrder NInvalidOrder bsInvalidOrder bmInvalidOrder true snInvalidOrder subInvalidOrder abInvalidOrder colInvalidOrder ddInvalidOrder m0InvalidOrder m1InvalidOrder m2InvalidOrder m3InvalidOrder m5InvalidOrder "ValueError.__new__"))
    (rvInvalidOrder : PySem.HandSPX.refsVE bmInvalidOrder = true)
    (saInvalidOrder : PySem.W.findIn K (.ref CInvalidOrder) "__setattr__" = some (some (.builtin "object.__setattr__")))
    (gaInvalidOrder : PySem.W.findIn K (.ref CInvalidOrder) "__getattribute__" = some (some (.builtin "BaseException.__getattribute__")))
    (ggInvalidOrder : PySem.W.findIn K (.ref CInvalidOrder) "__getattr__" = some none)
    (nbInvalidOrder : PySem.W.findIn K (.ref CInvalidOrder) "what" = some none)
    (iInvalidOrder : PySem.W.findIn K (.ref CInvalidOrder) "__init__" = some (some (.ref fInvalidOrder)))
    (tInvalidOrder : PySem.W.typeIn K (.ref fInvalidOrder) = some (.type "function"))
    (lInvalidOrder : K.lookup fInvalidOrder = some ⟨ocInvalidOrder, odInvalidOrder, .func (PySem.W.fnOf "__init__" "InvalidOrder.__init__" (defArgs (inC 4 0)) (defBody (inC 4 0)) (defScope (inC 4 0)) .none kVInvalidOrder dcInvalidOrder pmInvalidOrder anInvalidOrder cdInvalidOrder ctInvalidOrder), slInvalidOrder⟩)
    (cInvalidOrder : PySem.W.codeIn K cdInvalidOrder "InvalidOrder.__init__" = true)
    (kfInvalidOrder : PySem.W.keepIn K (.ref fInvalidOrder) = true)
    (kCInvalidOrder : PySem.W.keepIn K (.ref CInvalidOrder) = true)
    (eCInvalidOrder : PySem.W.subIn K (.ref CInvalidOrder) (.type "BaseException") = some true)
    (tCInvalidOrder : PySem.W.typeIn K (.ref CInvalidOrder) = some (.type "type"))
    (hCInvalidOrder : PySem.W.hasDictIn K CInvalidOrder = true)
    (icInvalidGraph : PySem.W.isClsIn K CInvalidGraph = true)
    (icInvalidOrder : PySem.W.isClsIn K CInvalidOrder = true)
    (emInvalidGraph_InvalidGraph : PySem.W.subIn K (.ref CInvalidGraph) (.ref CInvalidGraph) = some true)
    (emInvalidGraph_InvalidOrder : PySem.W.subIn K (.ref CInvalidGraph) (.ref CInvalidOrder) = some false)
    (emInvalidOrder_InvalidGraph : PySem.W.subIn K (.ref CInvalidOrder) (.ref CInvalidGraph) = some false)
    (emInvalidOrder_InvalidOrder : PySem.W.subIn K (.ref CInvalidOrder) (.ref CInvalidOrder) = some true)
    (aGraph : PySem.W.nsIn K mainGlobals "Graph" = some (some (.ref CGraph)))
    (mkGraph : PySem.W.makesIn K CGraph = true)
    (inGraph : PySem.W.findIn K (.ref CGraph) "__init__" = some (some (.ref f0)))
    (fnGraph : PySem.W.isFn K (.ref f0) = true)
    (kcGraph : PySem.W.keepIn K (.ref CGraph) = true)
    (pgGraph : PySem.W.plainGet K CGraph Str.empty = true)
    (hdGraph : PySem.W.hasDictIn K CGraph = true)
    (poGraph : PySem.W.plainOver K CGraph = true)
    (stGraph : PySem.W.findIn K (.ref CGraph) "__setattr__" = some (some (.builtin "object.__setattr__")))
    (n1Graph : PySem.W.findIn K (.ref CGraph) "vertices" = some none)
    (n2Graph : PySem.W.findIn K (.ref CGraph) "edges" = some none)
    (l0 : K.lookup f0 = some ⟨oc0, od0, .func (PySem.W.fnOf "__init__" "Graph.__init__" (defArgs (inC 8 0)) (defBody (inC 8 0)) (defScope (inC 8 0)) .none kV0 dc0 pm0 an0 cd0 ct0), sl0⟩)
    (c0 : PySem.W.codeIn K cd0 "Graph.__init__" = true)
    (k0 : PySem.W.keepIn K (.ref f0) = true)
    (a1 : PySem.W.nsIn K mainGlobals "merged" = some (some (.ref f1)))
    (l1 : K.lookup f1 = some ⟨oc1, od1, .func (PySem.W.fnOf "merged" "merged" (defArgs (top 6)) (defBody (top 6)) (defScope (top 6)) .none kV1 dc1 pm1 an1 cd1 ct1), sl1⟩)
    (c1 : PySem.W.codeIn K cd1 "merged" = true)
    (k1 : PySem.W.keepIn K (.ref f1) = true)
    (a2 : PySem.W.nsIn K mainGlobals "groups" = some (some (.ref f2)))
    (l2 : K.lookup f2 = some ⟨oc2, od2, .func (PySem.W.fnOf "groups" "groups" (defArgs (top 7)) (defBody (top 7)) (defScope (top 7)) .none kV2 dc2 pm2 an2 cd2 ct2), sl2⟩)
    (c2 : PySem.W.codeIn K cd2 "groups" = true)
    (k2 : PySem.W.keepIn K (.ref f2) = true)
    (m3 : PySem.W.findIn K (.ref CGraph) "degree" = some (some (.ref f3)))
    (n3 : PySem.W.isFn K (.ref f3) = true)
    (l3 : K.lookup f3 = some ⟨oc3, od3, .func (PySem.W.fnOf "degree" "Graph.degree" (defArgs (inC 8 2)) (defBody (inC 8 2)) (defScope (inC 8 2)) .none kV3 dc3 pm3 an3 cd3 ct3), sl3⟩)
    (c3 : PySem.W.codeIn K cd3 "Graph.degree" = true)
    (k3 : PySem.W.keepIn K (.ref f3) = true)
    (m4 : PySem.W.findIn K (.ref CGraph) "components" = some (some (.ref f4)))
    (n4 : PySem.W.isFn K (.ref f4) = true)
    (l4 : K.lookup f4 = some ⟨oc4, od4, .func (PySem.W.fnOf "components" "Graph.components" (defArgs (inC 8 3)) (defBody (inC 8 3)) (defScope (inC 8 3)) .none kV4 dc4 pm4 an4 cd4 ct4), sl4⟩)
    (c4 : PySem.W.codeIn K cd4 "Graph.components" = true)
    (k4 : PySem.W.keepIn K (.ref f4) = true)
    (m5 : PySem.W.findIn K (.ref CGraph) "is_connected" = some (some (.ref f5)))
    (n5 : PySem.W.isFn K (.ref f5) = true)
    (l5 : K.lookup f5 = some ⟨oc5, od5, .func (PySem.W.fnOf "is_connected" "Graph.is_connected" (defArgs (inC 8 4)) (defBody (inC 8 4)) (defScope (inC 8 4)) .none kV5 dc5 pm5 an5 cd5 ct5), sl5⟩)
    (c5 : PySem.W.codeIn K cd5 "Graph.is_connected" = true)
    (k5 : PySem.W.keepIn K (.ref f5) = true)
    (a6 : PySem.W.nsIn K mainGlobals "pruefer_word" = some (some (.ref f6)))
    (l6 : K.lookup f6 = some ⟨oc6, od6, .func (PySem.W.fnOf "pruefer_word" "pruefer_word" (defArgs (top 10)) (defBody (top 10)) (defScope (top 10)) .none kV6 dc6 pm6 an6 cd6 ct6), sl6⟩)
    (c6 : PySem.W.codeIn K cd6 "pruefer_word" = true)
    (k6 : PySem.W.keepIn K (.ref f6) = true)
    (a7 : PySem.W.nsIn K mainGlobals "tree_of_word" = some (some (.ref f7)))
    (l7 : K.lookup f7 = some ⟨oc7, od7, .func (PySem.W.fnOf "tree_of_word" "tree_of_word" (defArgs (top 11)) (defBody (top 11)) (defScope (top 11)) .none kV7 dc7 pm7 an7 cd7 ct7), sl7⟩)
    (c7 : PySem.W.codeIn K cd7 "tree_of_word" = true)
    (k7 : PySem.W.keepIn K (.ref f7) = true)
    (a8 : PySem.W.nsIn K mainGlobals "_law_deck" = some (some (.ref f8)))
    (l8 : K.lookup f8 = some ⟨oc8, od8, .func (PySem.W.fnOf "_law_deck" "_law_deck" (defArgs (top 13)) (defBody (top 13)) (defScope (top 13)) .none kV8 dc8 pm8 an8 cd8 ct8), sl8⟩)
    (c8 : PySem.W.codeIn K cd8 "_law_deck" = true)
    (k8 : PySem.W.keepIn K (.ref f8) = true)
    (a9 : PySem.W.nsIn K mainGlobals "_law_take" = some (some (.ref f9)))
    (l9 : K.lookup f9 = some ⟨oc9, od9, .func (PySem.W.fnOf "_law_take" "_law_take" (defArgs (top 14)) (defBody (top 14)) (defScope (top 14)) .none kV9 dc9 pm9 an9 cd9 ct9), sl9⟩)
    (c9 : PySem.W.codeIn K cd9 "_law_take" = true)
    (k9 : PySem.W.keepIn K (.ref f9) = true)
    (a10 : PySem.W.nsIn K mainGlobals "_law_plain" = some (some (.ref f10)))
    (l10 : K.lookup f10 = some ⟨oc10, od10, .func (PySem.W.fnOf "_law_plain" "_law_plain" (defArgs (top 15)) (defBody (top 15)) (defScope (top 15)) .none kV10 dc10 pm10 an10 cd10 ct10), sl10⟩)
    (c10 : PySem.W.codeIn K cd10 "_law_plain" = true)
    (k10 : PySem.W.keepIn K (.ref f10) = true)
    (a11 : PySem.W.nsIn K mainGlobals "_law_order" = some (some (.ref f11)))
    (l11 : K.lookup f11 = some ⟨oc11, od11, .func (PySem.W.fnOf "_law_order" "_law_order" (defArgs (top 16)) (defBody (top 16)) (defScope (top 16)) .none kV11 dc11 pm11 an11 cd11 ct11), sl11⟩)
    (c11 : PySem.W.codeIn K cd11 "_law_order" = true)
    (k11 : PySem.W.keepIn K (.ref f11) = true)
    (a12 : PySem.W.nsIn K mainGlobals "_law_word" = some (some (.ref f12)))
    (l12 : K.lookup f12 = some ⟨oc12, od12, .func (PySem.W.fnOf "_law_word" "_law_word" (defArgs (top 17)) (defBody (top 17)) (defScope (top 17)) .none kV12 dc12 pm12 an12 cd12 ct12), sl12⟩)
    (c12 : PySem.W.codeIn K cd12 "_law_word" = true)
    (k12 : PySem.W.keepIn K (.ref f12) = true)
    (a13 : PySem.W.nsIn K mainGlobals "_law_tree" = some (some (.ref f13)))
    (l13 : K.lookup f13 = some ⟨oc13, od13, .func (PySem.W.fnOf "_law_tree" "_law_tree" (defArgs (top 18)) (defBody (top 18)) (defScope (top 18)) .none kV13 dc13 pm13 an13 cd13 ct13), sl13⟩)
    (c13 : PySem.W.codeIn K cd13 "_law_tree" = true)
    (k13 : PySem.W.keepIn K (.ref f13) = true)
    (a14 : PySem.W.nsIn K mainGlobals "_law_refusal" = some (some (.ref f14)))
    (l14 : K.lookup f14 = some ⟨oc14, od14, .func (PySem.W.fnOf "_law_refusal" "_law_refusal" (defArgs (top 19)) (defBody (top 19)) (defScope (top 19)) .none kV14 dc14 pm14 an14 cd14 ct14), sl14⟩)
    (c14 : PySem.W.codeIn K cd14 "_law_refusal" = true)
    (k14 : PySem.W.keepIn K (.ref f14) = true)
    (a15 : PySem.W.nsIn K mainGlobals "_law_drawn" = some (some (.ref f15)))
    (l15 : K.lookup f15 = some ⟨oc15, od15, .func (PySem.W.fnOf "_law_drawn" "_law_drawn" (defArgs (top 20)) (defBody (top 20)) (defScope (top 20)) .none kV15 dc15 pm15 an15 cd15 ct15), sl15⟩)
    (c15 : PySem.W.codeIn K cd15 "_law_drawn" = true)
    (k15 : PySem.W.keepIn K (.ref f15) = true)
    (a16 : PySem.W.nsIn K mainGlobals "law" = some (some (.ref f16)))
    (l16 : K.lookup f16 = some ⟨oc16, od16, .func (PySem.W.fnOf "law" "law" (defArgs (top 21)) (defBody (top 21)) (defScope (top 21)) .none kV16 dc16 pm16 an16 cd16 ct16), sl16⟩)
    (c16 : PySem.W.codeIn K cd16 "law" = true)
    (k16 : PySem.W.keepIn K (.ref f16) = true)
    (z_len : PySem.W.nsIn K mainGlobals "len" = some none)
    (z_abs : PySem.W.nsIn K mainGlobals "abs" = some none)
    (z_min : PySem.W.nsIn K mainGlobals "min" = some none)
    (z_max : PySem.W.nsIn K mainGlobals "max" = some none)
    (z_sum : PySem.W.nsIn K mainGlobals "sum" = some none)
    (z_all : PySem.W.nsIn K mainGlobals "all" = some none)
    (z_any : PySem.W.nsIn K mainGlobals "any" = some none)
    (z_sorted : PySem.W.nsIn K mainGlobals "sorted" = some none)
    (z_isinstance : PySem.W.nsIn K mainGlobals "isinstance" = some none)
    (z_int : PySem.W.nsIn K mainGlobals "int" = some none)
    (z_list : PySem.W.nsIn K mainGlobals "list" = some none)
    (z_tuple : PySem.W.nsIn K mainGlobals "tuple" = some none)
    (z_str : PySem.W.nsIn K mainGlobals "str" = some none)
    (z_bool : PySem.W.nsIn K mainGlobals "bool" = some none)
    (z_set : PySem.W.nsIn K mainGlobals "set" = some none)
    (z_range : PySem.W.nsIn K mainGlobals "range" = some none)
    (z_zip : PySem.W.nsIn K mainGlobals "zip" = some none)
    : ∃ fd : FuncData, (∀ (s : Shared) (v : Value), BindsTo s fd ⟨[v], []⟩ [("script", v)]) ∧ ∀ base : Heap, K.In base → base.Ns mainGlobals mg → FnOk l.prog w K mg base (L2.CX l.prog w) 47 fa fd ["script"] (spLaw K) := by
  have e := hfa.symm.trans (PySem.W.mg_of X G a16)
  cases e
  have F0 := fun_mk (st := (inC 8 0)) l0 c0 k0
  have b0 := F0.binds (ps := ["self", "vertices", "edges"]) fun _ _ _ _ _ _ us hl => match us, hl with | [_, _, _], _ => rfl
  have F1 := fun_mk (st := (top 6)) l1 c1 k1
  have b1 := F1.binds (ps := ["names", "first", "second"]) fun _ _ _ _ _ _ us hl => match us, hl with | [_, _, _], _ => rfl
  have F2 := fun_mk (st := (top 7)) l2 c2 k2
  have b2 := F2.binds (ps := ["vertices", "edges"]) fun _ _ _ _ _ _ us hl => match us, hl with | [_, _], _ => rfl
  have F3 := fun_mk (st := (inC 8 2)) l3 c3 k3
  have b3 := F3.binds (ps := ["self", "vertex"]) fun _ _ _ _ _ _ us hl => match us, hl with | [_, _], _ => rfl
  have F4 := fun_mk (st := (inC 8 3)) l4 c4 k4
  have b4 := F4.binds (ps := ["self"]) fun _ _ _ _ _ _ us hl => match us, hl with | [_], _ => rfl
  have F5 := fun_mk (st := (inC 8 4)) l5 c5 k5
  have b5 := F5.binds (ps := ["self"]) fun _ _ _ _ _ _ us hl => match us, hl with | [_], _ => rfl
  have F6 := fun_mk (st := (top 10)) l6 c6 k6
  have b6 := F6.binds (ps := ["graph"]) fun _ _ _ _ _ _ us hl => match us, hl with | [_], _ => rfl
  have F7 := fun_mk (st := (top 11)) l7 c7 k7
  have b7 := F7.binds (ps := ["word"]) fun _ _ _ _ _ _ us hl => match us, hl with | [_], _ => rfl
  have F8 := fun_mk (st := (top 13)) l8 c8 k8
  have b8 := F8.binds (ps := ["script", "cells", "each"]) fun _ _ _ _ _ _ us hl => match us, hl with | [_, _, _], _ => rfl
  have F9 := fun_mk (st := (top 14)) l9 c9 k9
  have b9 := F9.binds (ps := ["deck", "many"]) fun _ _ _ _ _ _ us hl => match us, hl with | [_, _], _ => rfl
  have F10 := fun_mk (st := (top 15)) l10 c10 k10
  have b10 := F10.binds (ps := ["value"]) fun _ _ _ _ _ _ us hl => match us, hl with | [_], _ => rfl
  have F11 := fun_mk (st := (top 16)) l11 c11 k11
  have b11 := F11.binds (ps := ["deck", "size"]) fun _ _ _ _ _ _ us hl => match us, hl with | [_, _], _ => rfl
  have F12 := fun_mk (st := (top 17)) l12 c12 k12
  have b12 := F12.binds (ps := ["vertices", "edges"]) fun _ _ _ _ _ _ us hl => match us, hl with | [_, _], _ => rfl
  have F13 := fun_mk (st := (top 18)) l13 c13 k13
  have b13 := F13.binds (ps := ["word"]) fun _ _ _ _ _ _ us hl => match us, hl with | [_], _ => rfl
  have F14 := fun_mk (st := (top 19)) l14 c14 k14
  have b14 := F14.binds (ps := ["ask", "one"]) fun _ _ _ _ _ _ us hl => match us, hl with | [_, _], _ => rfl
  have F15 := fun_mk (st := (top 20)) l15 c15 k15
  have b15 := F15.binds (ps := ["deck"]) fun _ _ _ _ _ _ us hl => match us, hl with | [_], _ => rfl
  have F16 := fun_mk (st := (top 21)) l16 c16 k16
  have b16 := F16.binds (ps := ["script"]) fun _ _ _ _ _ _ us hl => match us, hl with | [_], _ => rfl
  have FInvalidGraph := fun_mk (st := (inC 3 0)) lInvalidGraph cInvalidGraph kfInvalidGraph
  have bInvalidGraph := FInvalidGraph.binds (ps := ["self", "what"]) fun _ _ _ _ _ _ us hl => match us, hl with | [_, _], _ => rfl
  have OInvalidGraph : OexC K CInvalidGraph := ⟨⟨nmInvalidGraph, qInvalidGraph, NInvalidGraph, bsInvalidGraph, bmInvalidGraph, snInvalidGraph, subInvalidGraph, abInvalidGraph, colInvalidGraph, ddInvalidGraph, m0InvalidGraph, m1InvalidGraph, m2InvalidGraph, m3InvalidGraph, m5InvalidGraph, xInvalidGraph, rvInvalidGraph⟩, saInvalidGraph, eCInvalidGraph, tCInvalidGraph, kCInvalidGraph⟩
  have gInvalidGraph := PySem.W.mg_of X G aInvalidGraph
  have FInvalidOrder := fun_mk (st := (inC 4 0)) lInvalidOrder cInvalidOrder kfInvalidOrder
  have bInvalidOrder := FInvalidOrder.binds (ps := ["self", "what"]) fun _ _ _ _ _ _ us hl => match us, hl with | [_, _], _ => rfl
  have OInvalidOrder : OexC K CInvalidOrder := ⟨⟨nmInvalidOrder, qInvalidOrder, NInvalidOrder, bsInvalidOrder, bmInvalidOrder, snInvalidOrder, subInvalidOrder, abInvalidOrder, colInvalidOrder, ddInvalidOrder, m0InvalidOrder, m1InvalidOrder, m2InvalidOrder, m3InvalidOrder, m5InvalidOrder, xInvalidOrder, rvInvalidOrder⟩, saInvalidOrder, eCInvalidOrder, tCInvalidOrder, kCInvalidOrder⟩
  have gInvalidOrder := PySem.W.mg_of X G aInvalidOrder
  have T : TreeT K mg CT := ⟨PySem.W.mg_of X G aT, spT, rdT, fcT⟩
  have gGraph := PySem.W.mg_of X G aGraph
  refine ⟨PySem.W.fnOf "law" "law" (defArgs (top 21)) (defBody (top 21)) (defScope (top 21)) .none kV16 dc16 pm16 an16 cd16 ct16, fun s v => .of_eq rfl, fun base hb hn => ?_⟩
  have g : GOk G0 1 l.prog w K mg base := {
    fn := fun x S e => (by cases e)
    mkc := fun x S e => (by cases e)
    mth := fun m c S e => (by cases e)
    fld := fun f hf c C hc hm => by
      have hc2 : c = ("Graph" : Str) := of_decide_eq_true hc
      subst hc2
      rw [gGraph] at hm
      cases hm
      refine ⟨⟨pgGraph, hdGraph, poGraph, stGraph⟩, ?_⟩
      rcases List.mem_cons.mp hf with rfl | hf
      · exact n1Graph
      · rcases List.mem_cons.mp hf with rfl | hf
        · exact n2Graph
        · cases hf
    blt := fun x hx => by
      unfold bltNames at hx
      rcases List.mem_cons.mp hx with rfl | hx
      · exact PySem.W.mg_none_of X G z_len
      rcases List.mem_cons.mp hx with rfl | hx
      · exact PySem.W.mg_none_of X G z_abs
      rcases List.mem_cons.mp hx with rfl | hx
      · exact PySem.W.mg_none_of X G z_min
      rcases List.mem_cons.mp hx with rfl | hx
      · exact PySem.W.mg_none_of X G z_max
      rcases List.mem_cons.mp hx with rfl | hx
      · exact PySem.W.mg_none_of X G z_sum
      rcases List.mem_cons.mp hx with rfl | hx
      · exact PySem.W.mg_none_of X G z_all
      rcases List.mem_cons.mp hx with rfl | hx
      · exact PySem.W.mg_none_of X G z_any
      rcases List.mem_cons.mp hx with rfl | hx
      · exact PySem.W.mg_none_of X G z_sorted
      rcases List.mem_cons.mp hx with rfl | hx
      · exact PySem.W.mg_none_of X G z_isinstance
      rcases List.mem_cons.mp hx with rfl | hx
      · exact PySem.W.mg_none_of X G z_int
      rcases List.mem_cons.mp hx with rfl | hx
      · exact PySem.W.mg_none_of X G z_list
      rcases List.mem_cons.mp hx with rfl | hx
      · exact PySem.W.mg_none_of X G z_tuple
      rcases List.mem_cons.mp hx with rfl | hx
      · exact PySem.W.mg_none_of X G z_str
      rcases List.mem_cons.mp hx with rfl | hx
      · exact PySem.W.mg_none_of X G z_bool
      rcases List.mem_cons.mp hx with rfl | hx
      · exact PySem.W.mg_none_of X G z_set
      rcases List.mem_cons.mp hx with rfl | hx
      · exact PySem.W.mg_none_of X G z_range
      rcases List.mem_cons.mp hx with rfl | hx
      · exact PySem.W.mg_none_of X G z_zip
      cases hx
    con := fun x d e => (by cases e)
    exc := fun c hc c' hc' C C' h1 h2 => by
      simp only [G0, excs, List.mem_cons, List.not_mem_nil, or_false] at hc hc'
      rcases hc with rfl | rfl
      · rcases hc' with rfl | rfl
        · rw [gInvalidGraph] at h1
          rw [gInvalidGraph] at h2
          cases h1
          cases h2
          rw [exm_of eCInvalidGraph icInvalidGraph tCInvalidGraph emInvalidGraph_InvalidGraph]
          rfl
        · rw [gInvalidGraph] at h1
          rw [gInvalidOrder] at h2
          cases h1
          cases h2
          rw [exm_of eCInvalidOrder icInvalidOrder tCInvalidOrder emInvalidGraph_InvalidOrder]
          rfl
      · rcases hc' with rfl | rfl
        · rw [gInvalidOrder] at h1
          rw [gInvalidGraph] at h2
          cases h1
          cases h2
          rw [exm_of eCInvalidGraph icInvalidGraph tCInvalidGraph emInvalidOrder_InvalidGraph]
          rfl
        · rw [gInvalidOrder] at h1
          rw [gInvalidOrder] at h2
          cases h1
          cases h2
          rw [exm_of eCInvalidOrder icInvalidOrder tCInvalidOrder emInvalidOrder_InvalidOrder]
          rfl
    ex := fun c hc => by
      simp only [G0, excs, List.mem_cons, List.not_mem_nil, or_false] at hc
      rcases hc with rfl | rfl
      · exact ⟨CInvalidGraph, fInvalidGraph, _, gInvalidGraph, OInvalidGraph, iInvalidGraph, tInvalidGraph, bInvalidGraph, ok_exinit (k := 0) (msg := "invalid graph: ") (j := 0) (j2 := 0) (a9 := ⟨0, 0, 0, 0⟩) (a1 := ⟨10, 8, 10, 17⟩) (a2 := ⟨10, 8, 10, 26⟩) (a3 := ⟨10, 27, 10, 31⟩) (a4 := ⟨10, 33, 10, 50⟩) (a5 := ⟨10, 53, 10, 57⟩) (a6 := ⟨10, 33, 10, 57⟩) (a7 := ⟨10, 8, 10, 58⟩) (a8 := ⟨10, 8, 10, 58⟩) (b1 := ⟨11, 8, 11, 12⟩) (b2 := ⟨11, 8, 11, 17⟩) (b3 := ⟨11, 20, 11, 24⟩) (b4 := ⟨11, 8, 11, 24⟩) FInvalidGraph ⟨rfl, rfl, rfl, by decide +kernel, rfl, by decide +kernel, by decide +kernel⟩ (by kernel_rfl) (by kernel_rfl) (by kernel_rfl) (by kernel_rfl) (by decide +kernel) (by decide +kernel) T OInvalidGraph nbInvalidGraph, ⟨gaInvalidGraph, ggInvalidGraph, eCInvalidGraph, hCInvalidGraph⟩, nbInvalidGraph⟩
      · exact ⟨CInvalidOrder, fInvalidOrder, _, gInvalidOrder, OInvalidOrder, iInvalidOrder, tInvalidOrder, bInvalidOrder, ok_exinit (k := 0) (msg := "invalid order: ") (j := 0) (j2 := 0) (a9 := ⟨0, 0, 0, 0⟩) (a1 := ⟨15, 8, 15, 17⟩) (a2 := ⟨15, 8, 15, 26⟩) (a3 := ⟨15, 27, 15, 31⟩) (a4 := ⟨15, 33, 15, 50⟩) (a5 := ⟨15, 53, 15, 57⟩) (a6 := ⟨15, 33, 15, 57⟩) (a7 := ⟨15, 8, 15, 58⟩) (a8 := ⟨15, 8, 15, 58⟩) (b1 := ⟨16, 8, 16, 12⟩) (b2 := ⟨16, 8, 16, 17⟩) (b3 := ⟨16, 20, 16, 24⟩) (b4 := ⟨16, 8, 16, 24⟩) FInvalidOrder ⟨rfl, rfl, rfl, by decide +kernel, rfl, by decide +kernel, by decide +kernel⟩ (by kernel_rfl) (by kernel_rfl) (by kernel_rfl) (by kernel_rfl) (by decide +kernel) (by decide +kernel) T OInvalidOrder nbInvalidOrder, ⟨gaInvalidOrder, ggInvalidOrder, eCInvalidOrder, hCInvalidOrder⟩, nbInvalidOrder⟩
  }
  have h0 := H_Graph___init__ F0 gGraph ⟨mkGraph, inGraph, fnGraph, kcGraph⟩ b0 g
  have h1 := H_merged F1 (PySem.W.mg_of X G a1) k1 b1 h0
  have h2 := H_groups F2 (PySem.W.mg_of X G a2) k2 b2 h1
  have h3 := H_Graph_degree F3 gGraph ⟨pgGraph, hdGraph, poGraph, stGraph⟩ ⟨m3, n3, k3⟩ b3 h2
  have h4 := H_Graph_components F4 gGraph ⟨pgGraph, hdGraph, poGraph, stGraph⟩ ⟨m4, n4, k4⟩ b4 h3
  have h5 := H_Graph_is_connected F5 gGraph ⟨pgGraph, hdGraph, poGraph, stGraph⟩ ⟨m5, n5, k5⟩ b5 h4
  have h6 := H_pruefer_word F6 (PySem.W.mg_of X G a6) k6 b6 h5
  have h7 := H_tree_of_word F7 (PySem.W.mg_of X G a7) k7 b7 h6
  have h8 := H__law_deck F8 (PySem.W.mg_of X G a8) k8 b8 h7
  have h9 := H__law_take F9 (PySem.W.mg_of X G a9) k9 b9 h8
  have h10 := H__law_plain F10 (PySem.W.mg_of X G a10) k10 b10 h9
  have h11 := H__law_order F11 (PySem.W.mg_of X G a11) k11 b11 h10
  have h12 := H__law_word F12 (PySem.W.mg_of X G a12) k12 b12 h11
  have h13 := H__law_tree F13 (PySem.W.mg_of X G a13) k13 b13 h12
  have h14 := H__law_refusal F14 (PySem.W.mg_of X G a14) k14 b14 h13
  have h15 := H__law_drawn F15 (PySem.W.mg_of X G a15) k15 b15 h14
  have q16 := Q_law F16 h15
  exact q16.imp fun vs H Q E hh => sp_law vs H Q E hh
end CM.K79
open PySem PySem.W PyProof.Rows
set_option maxHeartbeats 0 in
theorem PySem.Challenge.cw_treework_k79_pruefer_words_holds : PySem.Challenge.rw_treework_k79_pruefer_words.Holds := by
  w_on; o_law; k_head; (case hw => w_witness2)
  k_fill
  refine L2.walk_of (l := PySem.Challenge.rw_treework_k79_pruefer_words) (n := 63) (k := 47) (x := "script") (CX := fun w => L2.CX (PySem.Challenge.rw_treework_k79_pruefer_words).prog w) (sp := fun w => CM.K79.spLaw _) rfl (by decide) rfl ⟨rfl, by decide, by decide⟩ (fun w h Y => PySem.W.kIn_of Y) ?F (fun _ _ a ns hl _ hS => ⟨a, ns, rfl, hS, fun _ => rfl⟩) (fun _ _ _ _ _ h => (by obtain ⟨_, _, _, _, _, _, _, _, _, _, _, _, z⟩ := h; exact z))
  case F =>
    intro w mg fa h KX G hmg
    refine' CM.K79.all_mk KX G hmg ?aT ?spT ?rdT ?fcT ?aInvalidGraph ?xInvalidGraph ?rvInvalidGraph ?saInvalidGraph ?gaInvalidGraph ?ggInvalidGraph ?nbInvalidGraph ?iInvalidGraph ?tInvalidGraph ?lInvalidGraph ?cInvalidGraph ?kfInvalidGraph ?kCInvalidGraph ?eCInvalidGraph ?tCInvalidGraph ?hCInvalidGraph ?aInvalidOrder ?xInvalidOrder ?rvInvalidOrder ?saInvalidOrder ?gaInvalidOrder ?ggInvalidOrder ?nbInvalidOrder ?iInvalidOrder ?tInvalidOrder ?lInvalidOrder ?cInvalidOrder ?kfInvalidOrder ?kCInvalidOrder ?eCInvalidOrder ?tCInvalidOrder ?hCInvalidOrder ?icInvalidGraph ?icInvalidOrder ?emInvalidGraph_InvalidGraph ?emInvalidGraph_InvalidOrder ?emInvalidOrder_InvalidGraph ?emInvalidOrder_InvalidOrder ?aGraph ?mkGraph ?inGraph ?fnGraph ?kcGraph ?pgGraph ?hdGraph ?poGraph ?stGraph ?n1Graph ?n2Graph ?l0 ?c0 ?k0 ?a1 ?l1 ?c1 ?k1 ?a2 ?l2 ?c2 ?k2 ?m3 ?n3 ?l3 ?c3 ?k3 ?m4 ?n4 ?l4 ?c4 ?k4 ?m5 ?n5 ?l5 ?c5 ?k5 ?a6 ?l6 ?c6 ?k6 ?a7 ?l7 ?c7 ?k7 ?a8 ?l8 ?c8 ?k8 ?a9 ?l9 ?c9 ?k9 ?a10 ?l10 ?c10 ?k10 ?a11 ?l11 ?c11 ?k11 ?a12 ?l12 ?c12 ?k12 ?a13 ?l13 ?c13 ?k13 ?a14 ?l14 ?c14 ?k14 ?a15 ?l15 ?c15 ?k15 ?a16 ?l16 ?c16 ?k16 ?z_len ?z_abs ?z_min ?z_max ?z_sum ?z_all ?z_any ?z_sorted ?z_isinstance ?z_int ?z_list ?z_tuple ?z_str ?z_bool ?z_set ?z_range ?z_zip
    (case aT => k_is)
    (case spT => k_is)
    (case rdT => k_is)
    (case fcT => k_is)
    (case aInvalidGraph => k_is)
    (case xInvalidGraph => k_is)
    (case rvInvalidGraph => first | rfl | decide +kernel | k_is)
    (case saInvalidGraph => k_is)
    (case gaInvalidGraph => k_is)
    (case ggInvalidGraph => k_is)
    (case nbInvalidGraph => k_is)
    (case iInvalidGraph => k_is)
    (case tInvalidGraph => k_is)
    (case lInvalidGraph => k_is)
    (case cInvalidGraph => k_is)
    (case kfInvalidGraph => k_is)
    (case kCInvalidGraph => k_is)
    (case eCInvalidGraph => k_is)
    (case tCInvalidGraph => k_is)
    (case hCInvalidGraph => k_is)
    (case aInvalidOrder => k_is)
    (case xInvalidOrder => k_is)
    (case rvInvalidOrder => first | rfl | decide +kernel | k_is)
    (case saInvalidOrder => k_is)
    (case gaInvalidOrder => k_is)
    (case ggInvalidOrder => k_is)
    (case nbInvalidOrder => k_is)
    (case iInvalidOrder => k_is)
    (case tInvalidOrder => k_is)
    (case lInvalidOrder => k_is)
    (case cInvalidOrder => k_is)
    (case kfInvalidOrder => k_is)
    (case kCInvalidOrder => k_is)
    (case eCInvalidOrder => k_is)
    (case tCInvalidOrder => k_is)
    (case hCInvalidOrder => k_is)
    (case icInvalidGraph => k_is)
    (case icInvalidOrder => k_is)
    (case emInvalidGraph_InvalidGraph => first | rfl | k_is)
    (case emInvalidGraph_InvalidOrder => first | rfl | k_is)
    (case emInvalidOrder_InvalidGraph => first | rfl | k_is)
    (case emInvalidOrder_InvalidOrder => first | rfl | k_is)
    (case aGraph => k_is)
    (case mkGraph => k_is)
    (case inGraph => k_is)
    (case fnGraph => k_is)
    (case kcGraph => k_is)
    (case pgGraph => k_is)
    (case hdGraph => k_is)
    (case poGraph => k_is)
    (case stGraph => k_is)
    (case n1Graph => k_is)
    (case n2Graph => k_is)
    (case l0 => k_is)
    (case c0 => k_is)
    (case k0 => k_is)
    (case a1 => k_is)
    (case l1 => k_is)
    (case c1 => k_is)
    (case k1 => k_is)
    (case a2 => k_is)
    (case l2 => k_is)
    (case c2 => k_is)
    (case k2 => k_is)
    (case m3 => k_is)
    (case n3 => k_is)
    (case l3 => k_is)
    (case c3 => k_is)
    (case k3 => k_is)
    (case m4 => k_is)
    (case n4 => k_is)
    (case l4 => k_is)
    (case c4 => k_is)
    (case k4 => k_is)
    (case m5 => k_is)
    (case n5 => k_is)
    (case l5 => k_is)
    (case c5 => k_is)
    (case k5 => k_is)
    (case a6 => k_is)
    (case l6 => k_is)
    (case c6 => k_is)
    (case k6 => k_is)
    (case a7 => k_is)
    (case l7 => k_is)
    (case c7 => k_is)
    (case k7 => k_is)
    (case a8 => k_is)
    (case l8 => k_is)
    (case c8 => k_is)
    (case k8 => k_is)
    (case a9 => k_is)
    (case l9 => k_is)
    (case c9 => k_is)
    (case k9 => k_is)
    (case a10 => k_is)
    (case l10 => k_is)
    (case c10 => k_is)
    (case k10 => k_is)
    (case a11 => k_is)
    (case l11 => k_is)
    (case c11 => k_is)
    (case k11 => k_is)
    (case a12 => k_is)
    (case l12 => k_is)
    (case c12 => k_is)
    (case k12 => k_is)
    (case a13 => k_is)
    (case l13 => k_is)
    (case c13 => k_is)
    (case k13 => k_is)
    (case a14 => k_is)
    (case l14 => k_is)
    (case c14 => k_is)
    (case k14 => k_is)
    (case a15 => k_is)
    (case l15 => k_is)
    (case c15 => k_is)
    (case k15 => k_is)
    (case a16 => k_is)
    (case l16 => k_is)
    (case c16 => k_is)
    (case k16 => k_is)
    (case z_len => k_is)
    (case z_abs => k_is)
    (case z_min => k_is)
    (case z_max => k_is)
    (case z_sum => k_is)
    (case z_all => k_is)
    (case z_any => k_is)
    (case z_sorted => k_is)
    (case z_isinstance => k_is)
    (case z_int => k_is)
    (case z_list => k_is)
    (case z_tuple => k_is)
    (case z_str => k_is)
    (case z_bool => k_is)
    (case z_set => k_is)
    (case z_range => k_is)
    (case z_zip => k_is)
